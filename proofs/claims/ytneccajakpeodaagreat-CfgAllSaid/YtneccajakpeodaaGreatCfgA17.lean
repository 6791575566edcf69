/- The reference's names of an expression. -/
import Derived.Test.YtneccajakpeodaaGreatCfgA5
import Derived.Test.YtneccajakpeodaaGreatCfgA9
import Derived.Test.YtneccajakpeodaaGreatCfgA15
import Derived.Test.YtneccajakpeodaaGreatCfgA16
set_option linter.unusedSimpArgs false
set_option linter.unusedVariables false
set_option maxRecDepth 100000
set_option maxHeartbeats 16000000
namespace Go.Ab
open Go.Proofs
def spo (out:List Str) (s:Str):List Str:=if (out.any fun y=>s==y)=false then out++[s] else out
theorem z3o (x:X) (out:List Str):q6e x out=KB x.kids (if x.op=2 then spo out x.name else out):=by
 rw [q8z]
 unfold spo
 by_cases h:x.op=2
 ·rw [if_pos h]
  by_cases h2:(out.any fun y=>x.name==y)=false
  ·rw [if_pos ⟨h,h2⟩,if_pos h2]
  ·rw [if_neg (fun hh=>h2 hh.2),if_neg h2]
 ·rw [if_neg h,if_neg (fun hh=>h hh.1)]
theorem PP (out:List Str) (s:Str) (ho:out.length≤1073741824):SpecH Tryz.prog 253 [.hd 2000 0 out.length,.p (.str s)] (q8p 9 out) (fun r H=>r = .hd 2000 0 (spo out s).length∧H=q8p 9 (spo out s)):=by
 refine SpecH.body FR QQ Tryz.func253 rfl Tryz.call253 (by show 2≤_;decide) ?_
 conv=>whnf
 repeat' (first|((first|intro (_:_≤9223372036854775807)|refine DrawK.auto QQ mixed (by kernel_rfl) ?_|refine And.intro rfl ?_|(refine And.intro ⟨by decide,by decide⟩ ?_)|(refine And.intro ⟨rfl,rfl,by decide⟩ ?_)|refine BsK.pure (fun x hx=>by rcases List.mem_singleton.1 hx with rfl;rfl) rfl ?_|refine IdxK.map (by omega) (fun _=>rfl) ?_|refine IdxK.xs (by omega) ?_|refine IdxK.ss (by omega) ?_|(refine ByteK.at (by omega) ?_)|refine Wr.i64 (by omega) (by omega) ?_);conv=>whnf)|(refine Br.dec (fun _=>?_) (fun _=>?_)<;>first|(exfalso;omega)|conv=>whnf)|(refine Br.dec2 (fun _=>?_) (fun _=>?_)<;>first|(exfalso;omega)|conv=>whnf)|(refine Br.n (fun _=>?_) (fun _=>?_)<;>conv=>whnf)|(refine Br.b (fun _=>?_) (fun _=>?_)<;>conv=>whnf))
 have hl:(out.map AV.str).length=out.length:=List.length_map _
 refine LoopK.inv QQ (fun j:Nat=>⟨[(0,.hd 2000 0 out.length),(1,.p (.str s)),(7,.hd 2000 0 out.length),(8,.p (.int .i64 out.length)),(9,.p (.int .i64 j))],q8p 9 out⟩) (fun j=>j≤out.length∧(out.drop j).any (fun y=>s==y)=out.any fun y=>s==y) (fun j=>out.length-j) 0 (Le.of_eq rfl) ⟨Nat.zero_le _,rfl⟩ ?_
 rintro j ⟨h2,h3⟩
 rcases Nat.lt_or_ge j out.length with hj|hj
 ·have g:(out.map AV.str)[j]? = some (.str out[j]):=by simp [hj]
  conv=>whnf
  repeat' (first|((first|intro (_:_≤9223372036854775807)|refine DrawK.auto QQ mixed (by kernel_rfl) ?_|refine And.intro rfl ?_|(refine And.intro ⟨by decide,by decide⟩ ?_)|(refine And.intro ⟨rfl,rfl,by decide⟩ ?_)|refine BsK.pure (fun x hx=>by rcases List.mem_singleton.1 hx with rfl;rfl) rfl ?_|refine IdxK.map (by omega) (fun _=>rfl) ?_|refine IdxK.xs (by omega) ?_|refine IdxK.ss (by omega) ?_|(refine ByteK.at (by omega) ?_)|refine Wr.i64 (by omega) (by omega) ?_|refine IdxL.mk j rfl (by omega) ?_|refine LdOwn.mk j 0 _ (by omega) g ?_);conv=>whnf)|(refine Br.dec (fun _=>?_) (fun _=>?_)<;>first|(exfalso;omega)|conv=>whnf)|(refine Br.dec2 (fun _=>?_) (fun _=>?_)<;>first|(exfalso;omega)|conv=>whnf)|(refine Br.n (fun _=>?_) (fun _=>?_)<;>conv=>whnf)|(refine Br.b (fun _=>?_) (fun _=>?_)<;>conv=>whnf))
  ·have he:(s==out[j])=true:=by rw [Bool.beq_comm];assumption
   have e:=q0l (p:=fun y=>s==y) hj he
   rw [h3] at e
   have hs:spo out s=out:=by unfold spo;rw [if_neg (by rw [e];decide)]
   exact ⟨_,.refl _,by rw [hs];exact ⟨rfl,rfl⟩⟩
  ·have he:(s==out[j])=false:=by rw [Bool.beq_comm];assumption
   exact ⟨j+1,⟨by omega,by rw [← h3,LW (p:=fun y=>s==y) hj he]⟩,by omega,Le.of_eq rfl⟩
 ·have e:=GW (p:=fun y=>s==y) (l:=out) hj
  rw [h3] at e
  have hs:spo out s=out++[s]:=by unfold spo;rw [if_pos e]
  rw [hs]
  conv=>whnf
  repeat' (first|((first|intro (_:_≤9223372036854775807)|refine DrawK.auto QQ mixed (by kernel_rfl) ?_|refine And.intro rfl ?_|(refine And.intro ⟨by decide,by decide⟩ ?_)|(refine And.intro ⟨rfl,rfl,by decide⟩ ?_)|refine BsK.pure (fun x hx=>by rcases List.mem_singleton.1 hx with rfl;rfl) rfl ?_|refine IdxK.map (by omega) (fun _=>rfl) ?_|refine IdxK.xs (by omega) ?_|refine IdxK.ss (by omega) ?_|(refine ByteK.at (by omega) ?_)|refine Wr.i64 (by omega) (by omega) ?_|refine AppK.str1 (by simp) (by simp;omega) ?_);conv=>whnf)|(refine Br.dec (fun _=>?_) (fun _=>?_)<;>first|(exfalso;omega)|conv=>whnf)|(refine Br.dec2 (fun _=>?_) (fun _=>?_)<;>first|(exfalso;omega)|conv=>whnf)|(refine Br.n (fun _=>?_) (fun _=>?_)<;>conv=>whnf)|(refine Br.b (fun _=>?_) (fun _=>?_)<;>conv=>whnf))
  exact ⟨_,.refl _,by simp only [q8p,List.length_append,List.map_append];exact ⟨rfl,rfl⟩⟩
theorem q1q : ∀ (n:Nat) (_:n≤20) (x:X) (_:WF n x=true) (out:List Str) (_:out.length+2 ^ n≤1073741824),
  SpecH Tryz.prog 179 [.p (.agg x.cells),.hd 2000 0 out.length] (q8p 9 out) (fun r H=>r = .hd 2000 0 (q6e x out).length∧H=q8p 9 (q6e x out)):=by
 intro n
 induction n with
 | zero=>intro _ x h;rw [WF] at h;cases h
 | succ n ih =>
   intro hn x hx out ho
   have hp:2 ^ (n+1)=2*2 ^ n:=by rw [Nat.pow_succ];omega
   have hpos:0<2 ^ n:=Nat.pow_pos (by decide)
   obtain ⟨hk1,hk2,hk3⟩:=q0i hx
   have hxl:=X.avs_len x.kids
   have hmul : ∀ j,j<x.kids.length→(x.kids.length-j)*2 ^ n=(x.kids.length-(j+1))*2 ^ n+2 ^ n:=fun j hj=>by
    rw [show x.kids.length-j=(x.kids.length-(j+1))+1 by omega,Nat.add_mul,Nat.one_mul]
   have hmul0:x.kids.length*2 ^ n≤2*2 ^ n:=Nat.mul_le_mul_right _ hk1
   have hspl:(spo out x.name).length≤out.length+1:=by unfold spo;split<;>simp
   have hg:=z3o x out
   have hz:x.op=2→x.kids.length*2 ^ n=0:=fun h=>by rw [hk2 h,Nat.zero_mul]
   rw [hg]
   have hS:=PP out x.name (by omega)
   have hlen:(if x.op=2 then spo out x.name else out).length+x.kids.length*2 ^ n≤1073741824:=by
    split
    ·rename_i h;have:=hz h;omega
    ·omega
   clear hg
   refine SpecH.body BE QQ Tryz.func179 rfl Tryz.call179 (by show 2≤_;decide) ?_
   conv=>whnf
   generalize spo out x.name=o2 at *
   repeat' (first|((first|intro (_:_≤9223372036854775807)|refine DrawK.auto QQ mixed (by kernel_rfl) ?_|refine And.intro rfl ?_|(refine And.intro ⟨by decide,by decide⟩ ?_)|(refine And.intro ⟨rfl,rfl,by decide⟩ ?_)|refine BsK.pure (fun x hx=>by rcases List.mem_singleton.1 hx with rfl;rfl) rfl ?_|refine IdxK.map (by omega) (fun _=>rfl) ?_|refine IdxK.xs (by omega) ?_|refine IdxK.ss (by omega) ?_|(refine ByteK.at (by omega) ?_)|refine Wr.i64 (by omega) (by omega) ?_);conv=>whnf)|(refine Br.dec (fun _=>?_) (fun _=>?_)<;>first|(exfalso;omega)|conv=>whnf)|(refine Br.dec2 (fun _=>?_) (fun _=>?_)<;>first|(exfalso;omega)|conv=>whnf)|(refine Br.n (fun _=>?_) (fun _=>?_)<;>conv=>whnf)|(refine Br.b (fun _=>?_) (fun _=>?_)<;>conv=>whnf)|(refine CallK.heap [(2000,2000)] 0 (by repeat' (first|exact ArgsH.nil|refine ArgsH.cons ?_ ?_|exact LSub.refl _|exact LSub.p Sub.nils|exact LSub.p (Sub.tt rfl)|exact LSub.p (Sub.ff rfl)|exact LSub.p (Sub.int (by omega)))) (by refine BlksH.cons (j:=2000) rfl rfl ?_ ?_;exact CSub.refl _;exact BlksH.nil) hS rfl rfl ?_;rintro l' H' ⟨rfl,rfl⟩;conv=>whnf))
   all_goals
    first
    | rw [if_pos (by assumption)] at hlen ⊢
    | rw [if_neg (by assumption)] at hlen ⊢
   rotate_left 1
   generalize out=o2 at *
   all_goals
    refine LoopK.inv QQ (fun i:Nat×List Str=>⟨[(1,.hd 2000 0 i.2.length),(2,.p (.ip x.cells)),(15,.p (.int .i64 (X.avs x.kids).length)),(16,.p (.int .i64 i.1))],q8p 9 i.2⟩) (fun i=>i.1≤x.kids.length∧KB (x.kids.drop i.1) i.2=KB x.kids o2∧i.2.length+(x.kids.length-i.1)*2 ^ n≤1073741824) (fun i=>x.kids.length-i.1) (0,o2) (Le.of_eq rfl) ⟨Nat.zero_le _,rfl,by simpa using hlen⟩ ?_
    rintro ⟨j,acc⟩ ⟨h2,h3,h4⟩
    simp only at h2 h3 h4 ⊢
    rcases Nat.lt_or_ge j x.kids.length with hj|hj
    ·have hm:=hmul j hj
     have hg:=x3p n x.kids[j] acc (hk3 _ (List.getElem_mem hj))
     have hI:=ih (by omega) x.kids[j] (hk3 _ (List.getElem_mem hj)) acc (by omega)
     conv=>whnf
     repeat' (first|((first|intro (_:_≤9223372036854775807)|refine DrawK.auto QQ mixed (by kernel_rfl) ?_|refine And.intro rfl ?_|(refine And.intro ⟨by decide,by decide⟩ ?_)|(refine And.intro ⟨rfl,rfl,by decide⟩ ?_)|refine BsK.pure (fun x hx=>by rcases List.mem_singleton.1 hx with rfl;rfl) rfl ?_|refine IdxK.map (by omega) (fun _=>rfl) ?_|refine IdxK.xs (by omega) ?_|refine IdxK.ss (by omega) ?_|(refine ByteK.at (by omega) ?_)|refine Wr.i64 (by omega) (by omega) ?_);conv=>whnf)|(refine Br.dec (fun _=>?_) (fun _=>?_)<;>first|(exfalso;omega)|conv=>whnf)|(refine Br.dec2 (fun _=>?_) (fun _=>?_)<;>first|(exfalso;omega)|conv=>whnf)|(refine Br.n (fun _=>?_) (fun _=>?_)<;>conv=>whnf)|(refine Br.b (fun _=>?_) (fun _=>?_)<;>conv=>whnf)|(refine CallK.heap [(2000,2000)] 0 (by repeat' (first|exact ArgsH.nil|refine ArgsH.cons ?_ ?_|exact LSub.refl _|exact LSub.p Sub.nils|exact LSub.p (Sub.tt rfl)|exact LSub.p (Sub.ff rfl)|exact LSub.p (Sub.int (by omega)))) (by refine BlksH.cons (j:=2000) rfl rfl ?_ ?_;exact CSub.refl _;exact BlksH.nil) hI rfl rfl ?_;rintro l' H' ⟨rfl,rfl⟩;conv=>whnf))
     all_goals exact ⟨(j+1,q6e x.kids[j] acc),⟨by simp only;omega,by simp only;rw [← h3,q7n hj],by simp only;omega⟩,by simp only;omega,Le.of_eq rfl⟩
    ·rw [x0i (by omega)] at h3
     conv=>whnf
     repeat' (first|((first|intro (_:_≤9223372036854775807)|refine DrawK.auto QQ mixed (by kernel_rfl) ?_|refine And.intro rfl ?_|(refine And.intro ⟨by decide,by decide⟩ ?_)|(refine And.intro ⟨rfl,rfl,by decide⟩ ?_)|refine BsK.pure (fun x hx=>by rcases List.mem_singleton.1 hx with rfl;rfl) rfl ?_|refine IdxK.map (by omega) (fun _=>rfl) ?_|refine IdxK.xs (by omega) ?_|refine IdxK.ss (by omega) ?_|(refine ByteK.at (by omega) ?_)|refine Wr.i64 (by omega) (by omega) ?_);conv=>whnf)|(refine Br.dec (fun _=>?_) (fun _=>?_)<;>first|(exfalso;omega)|conv=>whnf)|(refine Br.dec2 (fun _=>?_) (fun _=>?_)<;>first|(exfalso;omega)|conv=>whnf)|(refine Br.n (fun _=>?_) (fun _=>?_)<;>conv=>whnf)|(refine Br.b (fun _=>?_) (fun _=>?_)<;>conv=>whnf))
     exact ⟨_,.refl _,by rw [h3];exact ⟨rfl,rfl⟩⟩
theorem GV (x:X):SpecP Tryz.prog 178 [.agg x.cells] (fun r=>r = .bool (z2g x)):=by
 refine SpecP.body VT QQ Tryz.func178 rfl Tryz.call178 (by show 1≤_;decide) ?_
 conv=>whnf
 repeat' (first|((first|intro (_:_≤9223372036854775807)|refine DrawK.auto QQ mixed (by kernel_rfl) ?_|refine And.intro rfl ?_|(refine And.intro ⟨by decide,by decide⟩ ?_)|(refine And.intro ⟨rfl,rfl,by decide⟩ ?_)|refine BsK.pure (fun x hx=>by rcases List.mem_singleton.1 hx with rfl;rfl) rfl ?_|refine IdxK.map (by omega) (fun _=>rfl) ?_|refine IdxK.xs (by omega) ?_|refine IdxK.ss (by omega) ?_|(refine ByteK.at (by omega) ?_)|refine Wr.i64 (by omega) (by omega) ?_|(refine CallK.pure (JO 20 (by omega) x) (.cons (Sub.refl _) (.cons (Sub.refl _) .nil)) ?_;rintro _ rfl)|(refine CallK.pure (KZ (wX x+1) x (by omega)) (.cons (Sub.refl _) .nil) ?_;rintro _ rfl));conv=>whnf)|(refine Br.dec (fun _=>?_) (fun _=>?_)<;>first|(exfalso;omega)|conv=>whnf)|(refine Br.dec2 (fun _=>?_) (fun _=>?_)<;>first|(exfalso;omega)|conv=>whnf)|(refine Br.n (fun _=>?_) (fun _=>?_)<;>conv=>whnf)|(refine Br.b (fun _=>?_) (fun _=>?_)<;>conv=>whnf))
 all_goals rw [← x4h]
 all_goals first
  | exact RetK.bool (by unfold mayXR;rw [decide_eq_true (by omega)];rfl)
  | exact RetK.ff (by unfold mayXR;rw [decide_eq_false (by omega)];rfl)
theorem JW (x:X):SpecP Tryz.prog 121 [.agg x.cells] (fun r=>r=QH (ZE x)):=by
 refine SpecP.body BQ QQ Tryz.func121 rfl Tryz.call121 (by show 1≤_;decide) ?_
 conv=>whnf
 have hM:=GV x
 unfold ZE
 cases hm:z2g x with
 | false =>
   rw [hm] at hM
   repeat' (first|((first|intro (_:_≤9223372036854775807)|refine DrawK.auto QQ mixed (by kernel_rfl) ?_|refine And.intro rfl ?_|(refine And.intro ⟨by decide,by decide⟩ ?_)|(refine And.intro ⟨rfl,rfl,by decide⟩ ?_)|refine BsK.pure (fun x hx=>by rcases List.mem_singleton.1 hx with rfl;rfl) rfl ?_|refine IdxK.map (by omega) (fun _=>rfl) ?_|refine IdxK.xs (by omega) ?_|refine IdxK.ss (by omega) ?_|(refine ByteK.at (by omega) ?_)|refine Wr.i64 (by omega) (by omega) ?_|(refine CallK.pure hM (.cons (Sub.refl _) .nil) ?_;rintro _ rfl));conv=>whnf)|(refine Br.dec (fun _=>?_) (fun _=>?_)<;>first|(exfalso;omega)|conv=>whnf)|(refine Br.dec2 (fun _=>?_) (fun _=>?_)<;>first|(exfalso;omega)|conv=>whnf)|(refine Br.n (fun _=>?_) (fun _=>?_)<;>conv=>whnf)|(refine Br.b (fun _=>?_) (fun _=>?_)<;>conv=>whnf))
   all_goals first
    | exact ⟨_,.p Sub.nils,rfl⟩
    | (exfalso;simp_all;done)
 | true =>
   rw [hm] at hM
   repeat' (first|((first|intro (_:_≤9223372036854775807)|refine DrawK.auto QQ mixed (by kernel_rfl) ?_|refine And.intro rfl ?_|(refine And.intro ⟨by decide,by decide⟩ ?_)|(refine And.intro ⟨rfl,rfl,by decide⟩ ?_)|refine BsK.pure (fun x hx=>by rcases List.mem_singleton.1 hx with rfl;rfl) rfl ?_|refine IdxK.map (by omega) (fun _=>rfl) ?_|refine IdxK.xs (by omega) ?_|refine IdxK.ss (by omega) ?_|(refine ByteK.at (by omega) ?_)|refine Wr.i64 (by omega) (by omega) ?_|(refine CallK.pure hM (.cons (Sub.refl _) .nil) ?_;rintro _ rfl));conv=>whnf)|(refine Br.dec (fun _=>?_) (fun _=>?_)<;>first|(exfalso;omega)|conv=>whnf)|(refine Br.dec2 (fun _=>?_) (fun _=>?_)<;>first|(exfalso;omega)|conv=>whnf)|(refine Br.n (fun _=>?_) (fun _=>?_)<;>conv=>whnf)|(refine Br.b (fun _=>?_) (fun _=>?_)<;>conv=>whnf))
   all_goals first
    | (exfalso;simp_all;done)
    | (refine CallK.nil 5 9 1 rfl (.cons rfl (.row .nil)) ?_
       refine CallK.heap [(2000,5)] 0 (by repeat' (first|exact ArgsH.nil|refine ArgsH.cons ?_ ?_|exact LSub.refl _|exact LSub.p Sub.nils|exact LSub.p (Sub.tt rfl)|exact LSub.p (Sub.ff rfl)|exact LSub.p (Sub.int (by omega)))) (by refine BlksH.cons (j:=5) rfl rfl ?_ ?_;exact CSub.refl _;exact BlksH.nil) (q1q 20 (by omega) x (by assumption) [] (by simp)) rfl rfl ?_
       rintro l' H' ⟨rfl,rfl⟩
       conv=>whnf
       exact ⟨_,.hd rfl (by simp),rfl⟩)
open Go.Proofs
theorem q3x {s:S} (h:oneOk s=true→False):oneOk s=false:=by
 cases hq:oneOk s with
 | false=>rfl
 | true=>exact (h hq).elim
theorem PX (s:S):SpecP Tryz.prog 177 [.agg s.cells] (fun r=>r = .bool (oneOk s)):=by
 refine SpecP.body MI QQ Tryz.func177 rfl Tryz.call177 (by show 1≤_;decide) ?_
 conv=>whnf
 have hal:(s.args.map fun a=>AV.agg a.cells).length=s.args.length:=List.length_map _
 have htl:((S.avs s.thn).length:Int)=s.thn.length:=by rw [S.avs_len]
 have hel:((S.avs s.els).length:Int)=s.els.length:=by rw [S.avs_len]
 repeat' (first|((first|intro (_:_≤9223372036854775807)|(refine CallK.pure (XH _) (by repeat' (first|exact ArgP.nil|refine ArgP.cons ?_ ?_|exact Sub.refl _|exact Sub.tt rfl|exact Sub.ff rfl)) ?_;rintro _ rfl)|(refine CallK.pure (VZ _) (by repeat' (first|exact ArgP.nil|refine ArgP.cons ?_ ?_|exact Sub.refl _|exact Sub.tt rfl|exact Sub.ff rfl)) ?_;rintro _ rfl)|(refine CallK.pure (KF _) (by repeat' (first|exact ArgP.nil|refine ArgP.cons ?_ ?_|exact Sub.refl _|exact Sub.tt rfl|exact Sub.ff rfl)) ?_;rintro _ rfl)|(refine CallK.pure (UN _) (by repeat' (first|exact ArgP.nil|refine ArgP.cons ?_ ?_|exact Sub.refl _|exact Sub.tt rfl|exact Sub.ff rfl)) ?_;rintro _ rfl)|(refine CallK.pure (GT _) (by repeat' (first|exact ArgP.nil|refine ArgP.cons ?_ ?_|exact Sub.refl _|exact Sub.tt rfl|exact Sub.ff rfl)) ?_;rintro _ rfl)|refine DrawK.auto QQ mixed (by kernel_rfl) ?_|refine And.intro rfl ?_|(refine And.intro ⟨by decide,by decide⟩ ?_)|(refine And.intro ⟨rfl,rfl,by decide⟩ ?_)|refine BsK.pure (fun x hx=>by rcases List.mem_singleton.1 hx with rfl;rfl) rfl ?_|refine IdxK.map (by omega) (fun _=>rfl) ?_|refine IdxK.xs (by omega) ?_|refine IdxK.ss (by omega) ?_|(refine ByteK.at (by omega) ?_)|refine Wr.i64 (by omega) (by omega) ?_|refine ValO.boolNeq QQ rfl rfl rfl rfl rfl ?_);conv=>whnf)|(refine Br.dec (fun _=>?_) (fun _=>?_)<;>first|(exfalso;omega)|conv=>whnf)|(refine Br.dec2 (fun _=>?_) (fun _=>?_)<;>first|(exfalso;omega)|conv=>whnf)|(refine Br.n (fun _=>?_) (fun _=>?_)<;>conv=>whnf)|(refine Br.b (fun _=>?_) (fun _=>?_)<;>conv=>whnf))
 all_goals simp only [show (ByteArray.mk #[]).data.toList=[] from rfl] at *
 all_goals first
  | (refine RetK.ff (q3x fun h => ?_)
     obtain ⟨f1,f2,f3,f4,f5,f6,f7,f8,f9,f10,f11,f12,f13,f14⟩:=YP h
     first
      | omega
      | (exfalso;simp_all [hasXB];done)
      | (exfalso;simp_all [hasXB];omega)
      | (rename_i hq
         by_cases hk:s.kind=4
         ·have h15:=q0q (f9 hk)
          simp_all
          done
         ·have h15:=f10 hk
          simp_all
          done))
  | skip
 all_goals
  have G:s.args.all argR=true→(s.thn.length=0∨s.kind=5∨s.kind=6)→(s.els.length=0∨s.kind=5)→oneOk s=true:=fun g1 g2 g3=>by
   refine z3c ⟨by assumption,by omega,by omega,fun q => ?_,fun q => ?_,fun q => ?_,fun q => ?_,fun q => ?_,fun q => ?_,fun q => ?_,g1,fun q => ?_,g2,g3⟩
   all_goals clear hal htl hel g1 g2 g3
   all_goals first
    | omega
    | assumption
    | (simp_all [hasXB];done)
    | (simp_all [hasXB];omega)
    | (have h4:(s.kind==4) = !(s.proc==[]):=by assumption
       have h5:(s.kind==4)=false:=beq_eq_false_iff_ne.2 (by assumption)
       rw [h5] at h4
       revert h4
       cases (s.proc==[])<;>simp
       done)
    | trace_state
  refine LoopK.inv QQ (fun j:Nat=>⟨[(1,.p (.ip s.cells)),(143,.p (.sl (s.args.map fun a => .agg a.cells))),(144,.p (.int .i64 (s.args.map fun a=>AV.agg a.cells).length)),(145,.p (.int .i64 j))],[]⟩) (fun j=>j≤s.args.length∧(s.args.drop j).all argR=s.args.all argR) (fun j=>s.args.length-j) 0 (Le.of_eq rfl) ⟨Nat.zero_le _,rfl⟩ ?_
  rintro j ⟨h2,h3⟩
  rcases Nat.lt_or_ge j s.args.length with hj|hj
  ·conv=>whnf
   repeat' (first|((first|intro (_:_≤9223372036854775807)|(refine CallK.pure (GT _) (by repeat' (first|exact ArgP.nil|refine ArgP.cons ?_ ?_|exact Sub.refl _|exact Sub.tt rfl|exact Sub.ff rfl)) ?_;rintro _ rfl)|refine DrawK.auto QQ mixed (by kernel_rfl) ?_|refine And.intro rfl ?_|(refine And.intro ⟨by decide,by decide⟩ ?_)|(refine And.intro ⟨rfl,rfl,by decide⟩ ?_)|refine BsK.pure (fun x hx=>by rcases List.mem_singleton.1 hx with rfl;rfl) rfl ?_|refine IdxK.map (by omega) (fun _=>rfl) ?_|refine IdxK.xs (by omega) ?_|refine IdxK.ss (by omega) ?_|(refine ByteK.at (by omega) ?_)|refine Wr.i64 (by omega) (by omega) ?_);conv=>whnf)|(refine Br.dec (fun _=>?_) (fun _=>?_)<;>first|(exfalso;omega)|conv=>whnf)|(refine Br.dec2 (fun _=>?_) (fun _=>?_)<;>first|(exfalso;omega)|conv=>whnf)|(refine Br.n (fun _=>?_) (fun _=>?_)<;>conv=>whnf)|(refine Br.b (fun _=>?_) (fun _=>?_)<;>conv=>whnf))
   all_goals first
    | exact ⟨j+1,⟨hj,by rw [JP hj (by assumption)];exact h3⟩,by omega,Le.of_eq rfl⟩
    | (refine RetK.ff (q3x fun h => ?_)
       have h4:=List.all_eq_true.1 (YP h).args _ (List.getElem_mem hj)
       simp_all)
  ·rw [JD hj] at h3
   have G:=G h3.symm
   conv=>whnf
   repeat' (first|((first|intro (_:_≤9223372036854775807)|refine DrawK.auto QQ mixed (by kernel_rfl) ?_|refine And.intro rfl ?_|(refine And.intro ⟨by decide,by decide⟩ ?_)|(refine And.intro ⟨rfl,rfl,by decide⟩ ?_)|refine BsK.pure (fun x hx=>by rcases List.mem_singleton.1 hx with rfl;rfl) rfl ?_|refine IdxK.map (by omega) (fun _=>rfl) ?_|refine IdxK.xs (by omega) ?_|refine IdxK.ss (by omega) ?_|(refine ByteK.at (by omega) ?_)|refine Wr.i64 (by omega) (by omega) ?_);conv=>whnf)|(refine Br.dec (fun _=>?_) (fun _=>?_)<;>first|(exfalso;omega)|conv=>whnf)|(refine Br.dec2 (fun _=>?_) (fun _=>?_)<;>first|(exfalso;omega)|conv=>whnf)|(refine Br.n (fun _=>?_) (fun _=>?_)<;>conv=>whnf)|(refine Br.b (fun _=>?_) (fun _=>?_)<;>conv=>whnf))
   all_goals first
    | exact RetK.tt (G (by omega) (by omega))
    | (refine RetK.ff (q3x fun h => ?_)
       have F1:=(YP h).thn
       have F2:=(YP h).els
       omega)
    | (refine RetK.bool ?_
       first
        | rw [Bool.eq_iff_iff,beq_iff_eq]
        | rw [Bool.eq_iff_iff,decide_eq_true_eq]
       exact ⟨fun q=>G (by omega) (by omega),fun h=>by have F1:=(YP h).thn;have F2:=(YP h).els;omega⟩)
    | trace_state
open Go.Proofs
theorem HL {p:Pg} (h:WM p=true→False):WM p=false:=by
 cases hq:WM p with
 | false=>rfl
 | true=>exact (h hq).elim
theorem YH (p:Pg):SpecP Tryz.prog 120 [.agg p.cells] (fun r=>r = .bool (WM p)):=by
 refine SpecP.body MZ QQ Tryz.func120 rfl Tryz.call120 (by show 1≤_;decide) ?_
 conv=>whnf
 have hgl:(p.globals.map AV.str).length=p.globals.length:=List.length_map _
 have hpl:(p.procs.map fun f=>AV.agg f.cells).length=p.procs.length:=List.length_map _
 repeat' (first|((first|intro (_:_≤9223372036854775807)|(refine CallK.pure (VZ _) (by repeat' (first|exact ArgP.nil|refine ArgP.cons ?_ ?_|exact Sub.refl _|exact Sub.tt rfl|exact Sub.ff rfl)) ?_;rintro _ rfl)|refine DrawK.auto QQ mixed (by kernel_rfl) ?_|refine And.intro rfl ?_|(refine And.intro ⟨by decide,by decide⟩ ?_)|(refine And.intro ⟨rfl,rfl,by decide⟩ ?_)|refine BsK.pure (fun x hx=>by rcases List.mem_singleton.1 hx with rfl;rfl) rfl ?_|refine IdxK.map (by omega) (fun _=>rfl) ?_|refine IdxK.xs (by omega) ?_|refine IdxK.ss (by omega) ?_|(refine ByteK.at (by omega) ?_)|refine Wr.i64 (by omega) (by omega) ?_);conv=>whnf)|(refine Br.dec (fun _=>?_) (fun _=>?_)<;>first|(exfalso;omega)|conv=>whnf)|(refine Br.dec2 (fun _=>?_) (fun _=>?_)<;>first|(exfalso;omega)|conv=>whnf)|(refine Br.n (fun _=>?_) (fun _=>?_)<;>conv=>whnf)|(refine Br.b (fun _=>?_) (fun _=>?_)<;>conv=>whnf))
 all_goals first
  | (refine RetK.ff (HL fun h => ?_)
     have F:=FC h
     have F1:=F.gl
     have F2:=F.pl
     have F3:=F.gn
     first
      | omega
      | (simp_all;done))
  | skip
 have G1:p.globals.length≤16:=by omega
 have G2:p.procs.length≤16:=by omega
 have G3:namesB p.globals=true:=by assumption
 refine LoopK.inv QQ (fun j:Nat=>⟨[(1,.p (.ip p.cells)),(26,.p (.sl (p.procs.map fun f => .agg f.cells))),(27,.p (.int .i64 (p.procs.map fun f=>AV.agg f.cells).length)),(28,.p (.int .i64 j))],[]⟩) (fun j=>j≤p.procs.length ∧ ∀ m (hm:m<p.procs.length),m<j→JL p.procs[m]=true) (fun j=>p.procs.length-j) 0 (Le.of_eq rfl) ⟨Nat.zero_le _,fun m hm h=>absurd h (Nat.not_lt_zero _)⟩ ?_
 rintro j ⟨h2,G4⟩
 rcases Nat.lt_or_ge j p.procs.length with hj|hj
 ·have hpm:(p.procs[j].params.map fun a=>AV.agg a.cells).length=p.procs[j].params.length:=List.length_map _
  have hvs:(p.procs[j].vars.map AV.str).length=p.procs[j].vars.length:=List.length_map _
  conv=>whnf
  repeat' (first|((first|intro (_:_≤9223372036854775807)|(refine CallK.pure (VZ _) (by repeat' (first|exact ArgP.nil|refine ArgP.cons ?_ ?_|exact Sub.refl _|exact Sub.tt rfl|exact Sub.ff rfl)) ?_;rintro _ rfl)|(refine CallK.pure (XH _) (by repeat' (first|exact ArgP.nil|refine ArgP.cons ?_ ?_|exact Sub.refl _|exact Sub.tt rfl|exact Sub.ff rfl)) ?_;rintro _ rfl)|refine DrawK.auto QQ mixed (by kernel_rfl) ?_|refine And.intro rfl ?_|(refine And.intro ⟨by decide,by decide⟩ ?_)|(refine And.intro ⟨rfl,rfl,by decide⟩ ?_)|refine BsK.pure (fun x hx=>by rcases List.mem_singleton.1 hx with rfl;rfl) rfl ?_|refine IdxK.map (by omega) (fun _=>rfl) ?_|refine IdxK.xs (by omega) ?_|refine IdxK.ss (by omega) ?_|(refine ByteK.at (by omega) ?_)|refine Wr.i64 (by omega) (by omega) ?_);conv=>whnf)|(refine Br.dec (fun _=>?_) (fun _=>?_)<;>first|(exfalso;omega)|conv=>whnf)|(refine Br.dec2 (fun _=>?_) (fun _=>?_)<;>first|(exfalso;omega)|conv=>whnf)|(refine Br.n (fun _=>?_) (fun _=>?_)<;>conv=>whnf)|(refine Br.b (fun _=>?_) (fun _=>?_)<;>conv=>whnf))
  all_goals first
   | (refine RetK.ff (HL fun h => ?_)
      obtain ⟨F1,F2,F3,F4,F5,F6⟩:=(FC h).pr _ (List.getElem_mem hj)
      first
       | omega
       | (simp_all;done))
   | skip
  have G5:(p.procs[j].params.all fun a=>isName a.name)=true→JL p.procs[j]=true:=fun g=>HH.2 ⟨by omega,by omega,by assumption,by assumption,by assumption,g⟩
  refine LoopK.inv QQ (fun k:Nat=>⟨[(1,.p (.ip p.cells)),(26,.p (.sl (p.procs.map fun f => .agg f.cells))),(27,.p (.int .i64 (p.procs.map fun f=>AV.agg f.cells).length)),(28,.p (.int .i64 j)),(61,.p (.sl (p.procs[j].params.map fun a => .agg a.cells))),(62,.p (.int .i64 (p.procs[j].params.map fun a=>AV.agg a.cells).length)),(63,.p (.int .i64 k))],[]⟩) (fun k=>k≤p.procs[j].params.length∧(p.procs[j].params.drop k).all (fun a=>isName a.name)=p.procs[j].params.all fun a=>isName a.name) (fun k=>p.procs[j].params.length-k) 0 (Le.of_eq rfl) ⟨Nat.zero_le _,rfl⟩ ?_
  rintro k ⟨h3,h4⟩
  rcases Nat.lt_or_ge k p.procs[j].params.length with hk|hk
  ·conv=>whnf
   repeat' (first|((first|intro (_:_≤9223372036854775807)|(refine CallK.pure (XH _) (by repeat' (first|exact ArgP.nil|refine ArgP.cons ?_ ?_|exact Sub.refl _|exact Sub.tt rfl|exact Sub.ff rfl)) ?_;rintro _ rfl)|refine DrawK.auto QQ mixed (by kernel_rfl) ?_|refine And.intro rfl ?_|(refine And.intro ⟨by decide,by decide⟩ ?_)|(refine And.intro ⟨rfl,rfl,by decide⟩ ?_)|refine BsK.pure (fun x hx=>by rcases List.mem_singleton.1 hx with rfl;rfl) rfl ?_|refine IdxK.map (by omega) (fun _=>rfl) ?_|refine IdxK.xs (by omega) ?_|refine IdxK.ss (by omega) ?_|(refine ByteK.at (by omega) ?_)|refine Wr.i64 (by omega) (by omega) ?_);conv=>whnf)|(refine Br.dec (fun _=>?_) (fun _=>?_)<;>first|(exfalso;omega)|conv=>whnf)|(refine Br.dec2 (fun _=>?_) (fun _=>?_)<;>first|(exfalso;omega)|conv=>whnf)|(refine Br.n (fun _=>?_) (fun _=>?_)<;>conv=>whnf)|(refine Br.b (fun _=>?_) (fun _=>?_)<;>conv=>whnf))
   ·exact ⟨k+1,⟨hk,by rw [← h4,JP (p:=fun a:Param=>isName a.name) hk (by assumption)]⟩,by omega,Le.of_eq rfl⟩
   ·refine RetK.ff (HL fun h => ?_)
    have h5:=List.all_eq_true.1 ((FC h).pr _ (List.getElem_mem hj)).2.2.2.2.2 _ (List.getElem_mem hk)
    simp_all
  ·rw [JD hk] at h4
   have G6:=G5 h4.symm
   conv=>whnf
   repeat' (first|((first|intro (_:_≤9223372036854775807)|refine DrawK.auto QQ mixed (by kernel_rfl) ?_|refine And.intro rfl ?_|(refine And.intro ⟨by decide,by decide⟩ ?_)|(refine And.intro ⟨rfl,rfl,by decide⟩ ?_)|refine BsK.pure (fun x hx=>by rcases List.mem_singleton.1 hx with rfl;rfl) rfl ?_|refine IdxK.map (by omega) (fun _=>rfl) ?_|refine IdxK.xs (by omega) ?_|refine IdxK.ss (by omega) ?_|(refine ByteK.at (by omega) ?_)|refine Wr.i64 (by omega) (by omega) ?_);conv=>whnf)|(refine Br.dec (fun _=>?_) (fun _=>?_)<;>first|(exfalso;omega)|conv=>whnf)|(refine Br.dec2 (fun _=>?_) (fun _=>?_)<;>first|(exfalso;omega)|conv=>whnf)|(refine Br.n (fun _=>?_) (fun _=>?_)<;>conv=>whnf)|(refine Br.b (fun _=>?_) (fun _=>?_)<;>conv=>whnf))
   refine ⟨j+1,⟨hj,fun m hm hmj => ?_⟩,by omega,Le.of_eq rfl⟩
   rcases Nat.lt_or_ge m j with h5|h5
   ·exact G4 m hm h5
   ·obtain rfl:m=j:=by omega
    exact G6
 ·have G5 : ∀ f∈p.procs,JL f=true:=fun f hf=>by
   obtain ⟨m,hm,rfl⟩:=List.mem_iff_getElem.1 hf
   exact G4 m hm (by omega)
  conv=>whnf
  have hrl:=WP (allR p)
  repeat' (first|((first|intro (_:_≤9223372036854775807)|(refine CallK.pure (UG _) (by repeat' (first|exact ArgP.nil|refine ArgP.cons ?_ ?_|exact Sub.refl _|exact Sub.tt rfl|exact Sub.ff rfl)) ?_;rintro _ rfl)|refine DrawK.auto QQ mixed (by kernel_rfl) ?_|refine And.intro rfl ?_|(refine And.intro ⟨by decide,by decide⟩ ?_)|(refine And.intro ⟨rfl,rfl,by decide⟩ ?_)|refine BsK.pure (fun x hx=>by rcases List.mem_singleton.1 hx with rfl;rfl) rfl ?_|refine IdxK.map (by omega) (fun _=>rfl) ?_|refine IdxK.xs (by omega) ?_|refine IdxK.ss (by omega) ?_|(refine ByteK.at (by omega) ?_)|refine Wr.i64 (by omega) (by omega) ?_);conv=>whnf)|(refine Br.dec (fun _=>?_) (fun _=>?_)<;>first|(exfalso;omega)|conv=>whnf)|(refine Br.dec2 (fun _=>?_) (fun _=>?_)<;>first|(exfalso;omega)|conv=>whnf)|(refine Br.n (fun _=>?_) (fun _=>?_)<;>conv=>whnf)|(refine Br.b (fun _=>?_) (fun _=>?_)<;>conv=>whnf))
  ·refine RetK.ff (HL fun h => ?_)
   have:=(FC h).len
   omega
  have G6:(allR p).length≤200:=by omega
  refine LoopK.inv QQ (fun k:Nat=>⟨[(7,.p (KT (allR p))),(79,.p (.int .i64 ((allR p).map fun i=>AV.agg i.cells).length)),(80,.p (.int .i64 k))],[]⟩) (fun k=>k≤(allR p).length ∧ ∀ (m:Nat) (x:RI),m<k→(allR p)[m]? = some x→x.s.id=(m:Int)+1∧x.deep≤12∧oneOk x.s=true) (fun k=>(allR p).length-k) 0 (Le.of_eq rfl) ⟨Nat.zero_le _,fun m x h=>absurd h (Nat.not_lt_zero _)⟩ ?_
  rintro k ⟨h3,G7⟩
  rcases Nat.lt_or_ge k (allR p).length with hk|hk
  ·conv=>whnf
   have F:=fun h:WM p=true=>(FC h).its k _ (List.getElem?_eq_getElem hk)
   repeat' (first|((first|intro (_:_≤9223372036854775807)|refine DrawK.auto QQ mixed (by kernel_rfl) ?_|refine And.intro rfl ?_|(refine And.intro ⟨by decide,by decide⟩ ?_)|(refine And.intro ⟨rfl,rfl,by decide⟩ ?_)|refine BsK.pure (fun x hx=>by rcases List.mem_singleton.1 hx with rfl;rfl) rfl ?_|refine IdxK.map (by omega) (fun _=>rfl) ?_|refine IdxK.xs (by omega) ?_|refine IdxK.ss (by omega) ?_|(refine ByteK.at (by omega) ?_)|refine Wr.i64 (by omega) (by omega) ?_|(refine CallK.pure (PX (allR p)[k].s) (.cons (Sub.refl _) .nil) ?_;rintro _ rfl));conv=>whnf)|(refine Br.dec (fun _=>?_) (fun _=>?_)<;>first|(exfalso;omega)|conv=>whnf)|(refine Br.dec2 (fun _=>?_) (fun _=>?_)<;>first|(exfalso;omega)|conv=>whnf)|(refine Br.n (fun _=>?_) (fun _=>?_)<;>conv=>whnf)|(refine Br.b (fun _=>?_) (fun _=>?_)<;>conv=>whnf))
   all_goals first
    | (refine ⟨k+1,⟨hk,fun m x hm hx => ?_⟩,by omega,Le.of_eq rfl⟩
       rcases Nat.lt_or_ge m k with h5|h5
       ·exact G7 m x h5 hx
       ·obtain rfl:m=k:=by omega
        rw [List.getElem?_eq_getElem hk] at hx
        obtain rfl:=Option.some.inj hx
        exact ⟨by omega,by omega,by assumption⟩)
    | (refine RetK.ff (HL fun h => ?_)
       obtain ⟨F1,F2,F3⟩:=F h
       first
        | omega
        | (simp_all
           done))
  ·conv=>whnf
   repeat' (first|((first|intro (_:_≤9223372036854775807)|refine DrawK.auto QQ mixed (by kernel_rfl) ?_|refine And.intro rfl ?_|(refine And.intro ⟨by decide,by decide⟩ ?_)|(refine And.intro ⟨rfl,rfl,by decide⟩ ?_)|refine BsK.pure (fun x hx=>by rcases List.mem_singleton.1 hx with rfl;rfl) rfl ?_|refine IdxK.map (by omega) (fun _=>rfl) ?_|refine IdxK.xs (by omega) ?_|refine IdxK.ss (by omega) ?_|(refine ByteK.at (by omega) ?_)|refine Wr.i64 (by omega) (by omega) ?_);conv=>whnf)|(refine Br.dec (fun _=>?_) (fun _=>?_)<;>first|(exfalso;omega)|conv=>whnf)|(refine Br.dec2 (fun _=>?_) (fun _=>?_)<;>first|(exfalso;omega)|conv=>whnf)|(refine Br.n (fun _=>?_) (fun _=>?_)<;>conv=>whnf)|(refine Br.b (fun _=>?_) (fun _=>?_)<;>conv=>whnf))
   exact RetK.tt (z9k G1 G2 G3 G5 G6 fun m x hx=>G7 m x (by have:=(List.getElem?_eq_some_iff.1 hx).1;omega) hx)
def q0n (p:Pg) (n:Str):Pr×Bool:=bif WM p then VF p n else (Pr0,false)
theorem WU (p:Pg) (n:Str):SpecP Tryz.prog 58 [.agg p.cells,.str n] (fun r=>r = .tup [.agg (q0n p n).1.cells,.bool (q0n p n).2]):=by
 refine SpecP.body NW QQ Tryz.func58 rfl Tryz.call58 (by show 2≤_;decide) ?_
 conv=>whnf
 have hpl:(p.procs.map fun f=>AV.agg f.cells).length=p.procs.length:=List.length_map _
 repeat' (first|((first|intro (_:_≤9223372036854775807)|(refine CallK.pure (YH _) (by repeat' (first|exact ArgP.nil|refine ArgP.cons ?_ ?_|exact Sub.refl _|exact Sub.tt rfl|exact Sub.ff rfl)) ?_;rintro _ rfl)|refine DrawK.auto QQ mixed (by kernel_rfl) ?_|refine And.intro rfl ?_|(refine And.intro ⟨by decide,by decide⟩ ?_)|(refine And.intro ⟨rfl,rfl,by decide⟩ ?_)|refine BsK.pure (fun x hx=>by rcases List.mem_singleton.1 hx with rfl;rfl) rfl ?_|refine IdxK.map (by omega) (fun _=>rfl) ?_|refine IdxK.xs (by omega) ?_|refine IdxK.ss (by omega) ?_|(refine ByteK.at (by omega) ?_)|refine Wr.i64 (by omega) (by omega) ?_);conv=>whnf)|(refine Br.dec (fun _=>?_) (fun _=>?_)<;>first|(exfalso;omega)|conv=>whnf)|(refine Br.dec2 (fun _=>?_) (fun _=>?_)<;>first|(exfalso;omega)|conv=>whnf)|(refine Br.n (fun _=>?_) (fun _=>?_)<;>conv=>whnf)|(refine Br.b (fun _=>?_) (fun _=>?_)<;>conv=>whnf))
 ·have hM:q0n p n=VF p n:=by unfold q0n;rw [show WM p=true by assumption];rfl
  rw [hM]
  refine LoopK.inv QQ (fun j:Nat=>⟨[(1,.p (.str n)),(4,.ptr 1 0),(11,.p (.sl (p.procs.map fun f => .agg f.cells))),(12,.p (.int .i64 (p.procs.map fun f=>AV.agg f.cells).length)),(13,.p (.int .i64 j))],[(1,.obj 67 [.p (.str []),.p .nils,.p .nils,.p .nils,.p .nils])]⟩) (fun j=>j≤p.procs.length∧(p.procs.drop j).find? (fun f=>f.name==n)=p.procs.find? fun f=>f.name==n) (fun j=>p.procs.length-j) 0 (Le.of_eq rfl) ⟨Nat.zero_le _,rfl⟩ ?_
  rintro j ⟨h2,h3⟩
  rcases Nat.lt_or_ge j p.procs.length with hj|hj
  ·rw [QJ hj,List.find?_cons] at h3
   conv=>whnf
   repeat' (first|((first|intro (_:_≤9223372036854775807)|refine DrawK.auto QQ mixed (by kernel_rfl) ?_|refine And.intro rfl ?_|(refine And.intro ⟨by decide,by decide⟩ ?_)|(refine And.intro ⟨rfl,rfl,by decide⟩ ?_)|refine BsK.pure (fun x hx=>by rcases List.mem_singleton.1 hx with rfl;rfl) rfl ?_|refine IdxK.map (by omega) (fun _=>rfl) ?_|refine IdxK.xs (by omega) ?_|refine IdxK.ss (by omega) ?_|(refine ByteK.at (by omega) ?_)|refine Wr.i64 (by omega) (by omega) ?_);conv=>whnf)|(refine Br.dec (fun _=>?_) (fun _=>?_)<;>first|(exfalso;omega)|conv=>whnf)|(refine Br.dec2 (fun _=>?_) (fun _=>?_)<;>first|(exfalso;omega)|conv=>whnf)|(refine Br.n (fun _=>?_) (fun _=>?_)<;>conv=>whnf)|(refine Br.b (fun _=>?_) (fun _=>?_)<;>conv=>whnf))
   ·have hn:(p.procs[j].name==n)=true:=by assumption
    rw [hn] at h3
    exact ⟨_,.p (Sub.tup (SubL.cons (Sub.refl _) (SubL.cons (Sub.tt rfl) SubL.nil))),by unfold VF;rw [← h3];first|done|rfl⟩
   ·have hn:(p.procs[j].name==n)=false:=by assumption
    rw [hn] at h3
    exact ⟨j+1,⟨hj,h3⟩,by omega,Le.of_eq rfl⟩
  ·rw [List.drop_eq_nil_of_le hj,List.find?_nil] at h3
   conv=>whnf
   repeat' (first|((first|intro (_:_≤9223372036854775807)|refine DrawK.auto QQ mixed (by kernel_rfl) ?_|refine And.intro rfl ?_|(refine And.intro ⟨by decide,by decide⟩ ?_)|(refine And.intro ⟨rfl,rfl,by decide⟩ ?_)|refine BsK.pure (fun x hx=>by rcases List.mem_singleton.1 hx with rfl;rfl) rfl ?_|refine IdxK.map (by omega) (fun _=>rfl) ?_|refine IdxK.xs (by omega) ?_|refine IdxK.ss (by omega) ?_|(refine ByteK.at (by omega) ?_)|refine Wr.i64 (by omega) (by omega) ?_);conv=>whnf)|(refine Br.dec (fun _=>?_) (fun _=>?_)<;>first|(exfalso;omega)|conv=>whnf)|(refine Br.dec2 (fun _=>?_) (fun _=>?_)<;>first|(exfalso;omega)|conv=>whnf)|(refine Br.n (fun _=>?_) (fun _=>?_)<;>conv=>whnf)|(refine Br.b (fun _=>?_) (fun _=>?_)<;>conv=>whnf))
   exact ⟨_,.p (Sub.tup (SubL.cons x3r (SubL.cons (Sub.ff rfl) SubL.nil))),by unfold VF;rw [← h3];first|done|rfl⟩
 ·have hM:q0n p n=(Pr0,false):=by unfold q0n;rw [show WM p=false by assumption];rfl
  rw [hM]
  exact ⟨_,.p (Sub.tup (SubL.cons x3r (SubL.cons (Sub.ff rfl) SubL.nil))),rfl⟩
open Go.Proofs
theorem x4z {l:List Str} (h : ¬l.Nodup):XZ l=true:=by
 cases hq:XZ l with
 | true=>rfl
 | false=>exact absurd (ZF.1 hq) h
theorem XR (l:List Str):SpecP Tryz.prog 268 [QH l] (fun r=>r = .bool (XZ l)):=by
 refine SpecP.body BU QQ Tryz.func268 rfl Tryz.call268 (by show 1≤_;decide) ?_
 conv=>whnf
 intro (_:_≤9223372036854775807)
 have hl:(l.map AV.str).length=l.length:=List.length_map _
 conv=>whnf
 refine LoopK.inv QQ (fun j:Nat=>⟨[(0,.p (QH l)),(6,.p (.int .i64 (l.map AV.str).length)),(7,.p (.int .i64 j))],[]⟩) (fun j=>j≤l.length∧(l.take j).Nodup) (fun j=>l.length-j) 0 (Le.of_eq rfl) ⟨Nat.zero_le _,by simp⟩ ?_
 rintro j ⟨h2,h3⟩
 rcases Nat.lt_or_ge j l.length with hj|hj
 ·conv=>whnf
  repeat' (first|((first|intro (_:_≤9223372036854775807)|refine DrawK.auto QQ mixed (by kernel_rfl) ?_|refine And.intro rfl ?_|(refine And.intro ⟨by decide,by decide⟩ ?_)|(refine And.intro ⟨rfl,rfl,by decide⟩ ?_)|refine BsK.pure (fun x hx=>by rcases List.mem_singleton.1 hx with rfl;rfl) rfl ?_|refine IdxK.map (by omega) (fun _=>rfl) ?_|refine IdxK.xs (by omega) ?_|refine IdxK.ss (by omega) ?_|(refine ByteK.at (by omega) ?_)|refine Wr.i64 (by omega) (by omega) ?_);conv=>whnf)|(refine Br.dec (fun _=>?_) (fun _=>?_)<;>first|(exfalso;omega)|conv=>whnf)|(refine Br.dec2 (fun _=>?_) (fun _=>?_)<;>first|(exfalso;omega)|conv=>whnf)|(refine Br.n (fun _=>?_) (fun _=>?_)<;>conv=>whnf)|(refine Br.b (fun _=>?_) (fun _=>?_)<;>conv=>whnf))
  refine LoopK.inv QQ (fun k:Nat=>⟨[(0,.p (QH l)),(3,.p (.int .i64 j)),(4,.p (.int .i64 k)),(6,.p (.int .i64 (l.map AV.str).length)),(7,.p (.int .i64 j))],[]⟩) (fun k=>k≤j ∧ ∀ s∈l.take k,s≠l[j]) (fun k=>j-k) 0 (Le.of_eq rfl) ⟨Nat.zero_le _,fun s hs=>by rw [List.take_zero] at hs;cases hs⟩ ?_
  rintro k ⟨h4,h5⟩
  rcases Nat.lt_or_ge k j with hk|hk
  ·conv=>whnf
   repeat' (first|((first|intro (_:_≤9223372036854775807)|refine DrawK.auto QQ mixed (by kernel_rfl) ?_|refine And.intro rfl ?_|(refine And.intro ⟨by decide,by decide⟩ ?_)|(refine And.intro ⟨rfl,rfl,by decide⟩ ?_)|refine BsK.pure (fun x hx=>by rcases List.mem_singleton.1 hx with rfl;rfl) rfl ?_|refine IdxK.map (by omega) (fun _=>rfl) ?_|refine IdxK.xs (by omega) ?_|refine IdxK.ss (by omega) ?_|(refine ByteK.at (by omega) ?_)|refine Wr.i64 (by omega) (by omega) ?_);conv=>whnf)|(refine Br.dec (fun _=>?_) (fun _=>?_)<;>first|(exfalso;omega)|conv=>whnf)|(refine Br.dec2 (fun _=>?_) (fun _=>?_)<;>first|(exfalso;omega)|conv=>whnf)|(refine Br.n (fun _=>?_) (fun _=>?_)<;>conv=>whnf)|(refine Br.b (fun _=>?_) (fun _=>?_)<;>conv=>whnf))
   ·refine RetK.tt (x4z fun hn => ?_)
    have he:l[j]=l[k]:=eq_of_beq (by assumption)
    have:=(List.getElem_inj hn).1 he
    omega
   ·have he:(l[j]==l[k])=false:=by assumption
    refine ⟨k+1,⟨by omega,fun s hs => ?_⟩,by omega,Le.of_eq rfl⟩
    rcases (QI (by omega)).1 hs with h6|rfl
    ·exact h5 s h6
    ·exact fun e=>by rw [e] at he;simp at he
  ·obtain rfl:k=j:=by omega
   conv=>whnf
   repeat' (first|((first|intro (_:_≤9223372036854775807)|refine DrawK.auto QQ mixed (by kernel_rfl) ?_|refine And.intro rfl ?_|(refine And.intro ⟨by decide,by decide⟩ ?_)|(refine And.intro ⟨rfl,rfl,by decide⟩ ?_)|refine BsK.pure (fun x hx=>by rcases List.mem_singleton.1 hx with rfl;rfl) rfl ?_|refine IdxK.map (by omega) (fun _=>rfl) ?_|refine IdxK.xs (by omega) ?_|refine IdxK.ss (by omega) ?_|(refine ByteK.at (by omega) ?_)|refine Wr.i64 (by omega) (by omega) ?_);conv=>whnf)|(refine Br.dec (fun _=>?_) (fun _=>?_)<;>first|(exfalso;omega)|conv=>whnf)|(refine Br.dec2 (fun _=>?_) (fun _=>?_)<;>first|(exfalso;omega)|conv=>whnf)|(refine Br.n (fun _=>?_) (fun _=>?_)<;>conv=>whnf)|(refine Br.b (fun _=>?_) (fun _=>?_)<;>conv=>whnf))
   refine ⟨k+1,⟨by omega,?_⟩,by omega,Le.of_eq rfl⟩
   rw [List.take_succ_eq_append_getElem hj,List.nodup_append]
   exact ⟨h3,by simp,fun a ha b hb e=>h5 a ha (by rw [e];exact List.mem_singleton.1 hb)⟩
 ·rw [List.take_of_length_le hj] at h3
  conv=>whnf
  repeat' (first|((first|intro (_:_≤9223372036854775807)|refine DrawK.auto QQ mixed (by kernel_rfl) ?_|refine And.intro rfl ?_|(refine And.intro ⟨by decide,by decide⟩ ?_)|(refine And.intro ⟨rfl,rfl,by decide⟩ ?_)|refine BsK.pure (fun x hx=>by rcases List.mem_singleton.1 hx with rfl;rfl) rfl ?_|refine IdxK.map (by omega) (fun _=>rfl) ?_|refine IdxK.xs (by omega) ?_|refine IdxK.ss (by omega) ?_|(refine ByteK.at (by omega) ?_)|refine Wr.i64 (by omega) (by omega) ?_);conv=>whnf)|(refine Br.dec (fun _=>?_) (fun _=>?_)<;>first|(exfalso;omega)|conv=>whnf)|(refine Br.dec2 (fun _=>?_) (fun _=>?_)<;>first|(exfalso;omega)|conv=>whnf)|(refine Br.n (fun _=>?_) (fun _=>?_)<;>conv=>whnf)|(refine Br.b (fun _=>?_) (fun _=>?_)<;>conv=>whnf))
  exact RetK.ff (ZF.2 h3)
theorem PK (f:Pr) (h1:f.params.length≤1000000):SpecP Tryz.prog 269 [.agg f.cells] (fun r=>r=QH (f.params.map Param.name)):=by
 refine SpecP.body HD QQ Tryz.func269 rfl Tryz.call269 (by show 1≤_;decide) ?_
 conv=>whnf
 intro (_:_≤9223372036854775807)
 have hl:(f.params.map fun a=>AV.agg a.cells).length=f.params.length:=List.length_map _
 conv=>whnf
 refine LoopK.inv QQ (fun j:Nat=>⟨[(3,.hd 0 0 j),(7,.p (.sl (f.params.map fun a=>AV.agg a.cells))),(8,.p (.int .i64 (f.params.map fun a=>AV.agg a.cells).length)),(9,.p (.int .i64 j))],[(0,.own 9 1 (((f.params.map Param.name).take j).map .str))]⟩) (fun j=>j≤f.params.length) (fun j=>f.params.length-j) 0
  (Le.mk [(0,.own 9 1 [])] (by simp [Chunk.new0];rfl) (by simp) (by simp) (.cons (.nil List.mem_cons_self) (.cons (.refl _) (.cons (.refl _) (.cons (.refl _) .nil)))) (.new List.mem_cons_self .nil)) (Nat.zero_le _) ?_
 intro j h3
 rcases Nat.lt_or_ge j f.params.length with hj|hj
 ·have hr:((f.params.map Param.name).take (j+1))=(f.params.map Param.name).take j++[f.params[j].name]:=by
   rw [List.take_succ_eq_append_getElem (by simpa using hj),List.getElem_map]
  have hlt:((f.params.map Param.name).take j).length=j:=by simp;omega
  generalize (f.params.map Param.name).take j=acc at *
  conv=>whnf
  repeat' (first|((first|intro (_:_≤9223372036854775807)|refine DrawK.auto QQ mixed (by kernel_rfl) ?_|refine And.intro rfl ?_|(refine And.intro ⟨by decide,by decide⟩ ?_)|(refine And.intro ⟨rfl,rfl,by decide⟩ ?_)|refine BsK.pure (fun x hx=>by rcases List.mem_singleton.1 hx with rfl;rfl) rfl ?_|refine IdxK.map (by omega) (fun _=>rfl) ?_|refine IdxK.xs (by omega) ?_|refine IdxK.ss (by omega) ?_|(refine ByteK.at (by omega) ?_)|refine Wr.i64 (by omega) (by omega) ?_|refine AppK.str1 (by simp;omega) (by simp;omega) ?_);conv=>whnf)|(refine Br.dec (fun _=>?_) (fun _=>?_)<;>first|(exfalso;omega)|conv=>whnf)|(refine Br.dec2 (fun _=>?_) (fun _=>?_)<;>first|(exfalso;omega)|conv=>whnf)|(refine Br.n (fun _=>?_) (fun _=>?_)<;>conv=>whnf)|(refine Br.b (fun _=>?_) (fun _=>?_)<;>conv=>whnf))
  exact ⟨j+1,by omega,by omega,Le.of_eq (by rw [hr];simp;rfl)⟩
 ·rw [List.take_of_length_le (by simpa using hj)]
  conv=>whnf
  repeat' (first|((first|intro (_:_≤9223372036854775807)|refine DrawK.auto QQ mixed (by kernel_rfl) ?_|refine And.intro rfl ?_|(refine And.intro ⟨by decide,by decide⟩ ?_)|(refine And.intro ⟨rfl,rfl,by decide⟩ ?_)|refine BsK.pure (fun x hx=>by rcases List.mem_singleton.1 hx with rfl;rfl) rfl ?_|refine IdxK.map (by omega) (fun _=>rfl) ?_|refine IdxK.xs (by omega) ?_|refine IdxK.ss (by omega) ?_|(refine ByteK.at (by omega) ?_)|refine Wr.i64 (by omega) (by omega) ?_);conv=>whnf)|(refine Br.dec (fun _=>?_) (fun _=>?_)<;>first|(exfalso;omega)|conv=>whnf)|(refine Br.dec2 (fun _=>?_) (fun _=>?_)<;>first|(exfalso;omega)|conv=>whnf)|(refine Br.n (fun _=>?_) (fun _=>?_)<;>conv=>whnf)|(refine Br.b (fun _=>?_) (fun _=>?_)<;>conv=>whnf))
  exact ⟨_,.hd rfl (by simp;omega),rfl⟩
theorem q0k (p:Pg) (f:Pr) (name:Str):SpecP Tryz.prog 270 [.agg p.cells,.agg f.cells,.str name] (fun r=>r = .int .i64 (GB p f name)):=by
 refine SpecP.body PS QQ Tryz.func270 rfl Tryz.call270 (by show 3≤_;decide) ?_
 conv=>whnf
 repeat' (first|((first|intro (_:_≤9223372036854775807)|refine DrawK.auto QQ mixed (by kernel_rfl) ?_|refine And.intro rfl ?_|(refine And.intro ⟨by decide,by decide⟩ ?_)|(refine And.intro ⟨rfl,rfl,by decide⟩ ?_)|refine BsK.pure (fun x hx=>by rcases List.mem_singleton.1 hx with rfl;rfl) rfl ?_|refine IdxK.map (by omega) (fun _=>rfl) ?_|refine IdxK.xs (by omega) ?_|refine IdxK.ss (by omega) ?_|(refine ByteK.at (by omega) ?_)|refine Wr.i64 (by omega) (by omega) ?_);conv=>whnf)|(refine Br.dec (fun _=>?_) (fun _=>?_)<;>first|(exfalso;omega)|conv=>whnf)|(refine Br.dec2 (fun _=>?_) (fun _=>?_)<;>first|(exfalso;omega)|conv=>whnf)|(refine Br.n (fun _=>?_) (fun _=>?_)<;>conv=>whnf)|(refine Br.b (fun _=>?_) (fun _=>?_)<;>conv=>whnf))
 have hl:(f.params.map fun a=>AV.agg a.cells).length=f.params.length:=List.length_map _
 refine LoopK.inv QQ (fun j:Nat=>⟨[(2,.p (.str name)),(3,.p (.ip p.cells)),(4,.p (.ip f.cells)),(10,.p (.sl (f.params.map fun a => .agg a.cells))),(11,.p (.int .i64 (f.params.map fun a=>AV.agg a.cells).length)),(12,.p (.int .i64 j))],[]⟩) (fun j=>j≤f.params.length∧(f.params.drop j).find? (fun a=>a.name==name)=f.params.find? fun a=>a.name==name) (fun j=>f.params.length-j) 0 (Le.of_eq rfl) ⟨Nat.zero_le _,rfl⟩ ?_
 rintro j ⟨h2,h3⟩
 rcases Nat.lt_or_ge j f.params.length with hj|hj
 ·conv=>whnf
  repeat' (first|((first|intro (_:_≤9223372036854775807)|refine DrawK.auto QQ mixed (by kernel_rfl) ?_|refine And.intro rfl ?_|(refine And.intro ⟨by decide,by decide⟩ ?_)|(refine And.intro ⟨rfl,rfl,by decide⟩ ?_)|refine BsK.pure (fun x hx=>by rcases List.mem_singleton.1 hx with rfl;rfl) rfl ?_|refine IdxK.map (by omega) (fun _=>rfl) ?_|refine IdxK.xs (by omega) ?_|refine IdxK.ss (by omega) ?_|(refine ByteK.at (by omega) ?_)|refine Wr.i64 (by omega) (by omega) ?_);conv=>whnf)|(refine Br.dec (fun _=>?_) (fun _=>?_)<;>first|(exfalso;omega)|conv=>whnf)|(refine Br.dec2 (fun _=>?_) (fun _=>?_)<;>first|(exfalso;omega)|conv=>whnf)|(refine Br.n (fun _=>?_) (fun _=>?_)<;>conv=>whnf)|(refine Br.b (fun _=>?_) (fun _=>?_)<;>conv=>whnf))
  all_goals first
   | (exfalso;simp_all;done)
   | (have e:=JY (p:=fun a:Param=>a.name==name) hj (by assumption)
      rw [h3] at e
      exact RetK.int (by unfold GB;rw [e];simp [*]))
   | (refine ⟨j+1,⟨by omega,by rw [← h3,HC (p:=fun a:Param=>a.name==name) hj (by assumption)]⟩,by omega,Le.of_eq rfl⟩)
 ·have e:f.params.find? (fun a=>a.name==name)=none:=by rw [← h3,JU (by omega)]
  conv=>whnf
  repeat' (first|((first|intro (_:_≤9223372036854775807)|(refine CallK.pure (QB _ _) (by repeat' (first|exact ArgP.nil|refine ArgP.cons ?_ ?_|exact Sub.refl _|exact Sub.tt rfl|exact Sub.ff rfl)) ?_;rintro _ rfl)|refine DrawK.auto QQ mixed (by kernel_rfl) ?_|refine And.intro rfl ?_|(refine And.intro ⟨by decide,by decide⟩ ?_)|(refine And.intro ⟨rfl,rfl,by decide⟩ ?_)|refine BsK.pure (fun x hx=>by rcases List.mem_singleton.1 hx with rfl;rfl) rfl ?_|refine IdxK.map (by omega) (fun _=>rfl) ?_|refine IdxK.xs (by omega) ?_|refine IdxK.ss (by omega) ?_|(refine ByteK.at (by omega) ?_)|refine Wr.i64 (by omega) (by omega) ?_);conv=>whnf)|(refine Br.dec (fun _=>?_) (fun _=>?_)<;>first|(exfalso;omega)|conv=>whnf)|(refine Br.dec2 (fun _=>?_) (fun _=>?_)<;>first|(exfalso;omega)|conv=>whnf)|(refine Br.n (fun _=>?_) (fun _=>?_)<;>conv=>whnf)|(refine Br.b (fun _=>?_) (fun _=>?_)<;>conv=>whnf))
  all_goals
   simp only [BN] at *
   exact RetK.int (by unfold GB;rw [e];simp [*])
theorem KP (t:S) (ha:t.args.length≤20000):SpecP Tryz.prog 60 [.agg t.cells] (fun r=>r=QH (ZP t)):=by
 refine SpecP.body PQ QQ Tryz.func60 rfl Tryz.call60 (by show 1≤_;decide) ?_
 conv=>whnf
 repeat' (first|((first|intro (_:_≤9223372036854775807)|(refine CallK.pure (JW _) (by repeat' (first|exact ArgP.nil|refine ArgP.cons ?_ ?_|exact Sub.refl _|exact Sub.tt rfl|exact Sub.ff rfl)) ?_;rintro _ rfl)|refine DrawK.auto QQ mixed (by kernel_rfl) ?_|refine And.intro rfl ?_|(refine And.intro ⟨by decide,by decide⟩ ?_)|(refine And.intro ⟨rfl,rfl,by decide⟩ ?_)|refine BsK.pure (fun x hx=>by rcases List.mem_singleton.1 hx with rfl;rfl) rfl ?_|refine IdxK.map (by omega) (fun _=>rfl) ?_|refine IdxK.xs (by omega) ?_|refine IdxK.ss (by omega) ?_|(refine ByteK.at (by omega) ?_)|refine Wr.i64 (by omega) (by omega) ?_|refine AppK.strs _ (by simp) (by have:=UA t.x;simp;omega) ?_|refine AppK.str1 (by simp) (by simp) ?_);conv=>whnf)|(refine Br.dec (fun _=>?_) (fun _=>?_)<;>first|(exfalso;omega)|conv=>whnf)|(refine Br.dec2 (fun _=>?_) (fun _=>?_)<;>first|(exfalso;omega)|conv=>whnf)|(refine Br.n (fun _=>?_) (fun _=>?_)<;>conv=>whnf)|(refine Br.b (fun _=>?_) (fun _=>?_)<;>conv=>whnf))
 all_goals simp only [show (ByteArray.mk #[]).data.toList=[] from rfl] at *
 all_goals
  have hl:(t.args.map fun a=>AV.agg a.cells).length=t.args.length:=List.length_map _
  refine LoopK.inv QQ (GM t 9) (fun j=>j≤t.args.length) (fun j=>t.args.length-j) 0 (Le.of_eq ?_) (Nat.zero_le _) ?_
  ·first
    | (have e:q9g t 0=ZE t.x:=by simp [q9g,GI,show t.kind=10 by assumption]
       rw [GM,e];simp only [Nat.zero_add,List.length_map,List.length_append,List.map_append,List.nil_append];rfl)
    | (have e:q9g t 0=ZE t.x:=by simp [q9g,GI,show t.name=[] by simpa using (show (t.name==[])=true by assumption)]
       rw [GM,e];simp only [Nat.zero_add,List.length_map,List.length_append,List.map_append,List.nil_append];rfl)
    | (have e:q9g t 0=[t.name]++ZE t.x:=by
        have:(t.name==[])=false:=by assumption
        simp [q9g,GI,show ¬t.kind=10 by assumption,this]
       rw [GM,e];simp only [Nat.zero_add,List.length_map,List.length_append,List.map_append,List.nil_append];rfl)
  intro j h2
  have hacc:=x7z t h2 ha
  conv=>whnf
  repeat' (first|((first|intro (_:_≤9223372036854775807)|(refine CallK.pure (JW _) (by repeat' (first|exact ArgP.nil|refine ArgP.cons ?_ ?_|exact Sub.refl _|exact Sub.tt rfl|exact Sub.ff rfl)) ?_;rintro _ rfl)|refine DrawK.auto QQ mixed (by kernel_rfl) ?_|refine And.intro rfl ?_|(refine And.intro ⟨by decide,by decide⟩ ?_)|(refine And.intro ⟨rfl,rfl,by decide⟩ ?_)|refine BsK.pure (fun x hx=>by rcases List.mem_singleton.1 hx with rfl;rfl) rfl ?_|refine IdxK.map (by omega) (fun _=>rfl) ?_|refine IdxK.xs (by omega) ?_|refine IdxK.ss (by omega) ?_|(refine ByteK.at (by omega) ?_)|refine Wr.i64 (by omega) (by omega) ?_|refine AppK.strs _ (by simp) (by have:=UA (t.args[j]'(by omega)).x;simp;omega) ?_|refine AppK.str1 (by simp) (by simp;omega) ?_);conv=>whnf)|(refine Br.dec (fun _=>?_) (fun _=>?_)<;>first|(exfalso;omega)|conv=>whnf)|(refine Br.dec2 (fun _=>?_) (fun _=>?_)<;>first|(exfalso;omega)|conv=>whnf)|(refine Br.n (fun _=>?_) (fun _=>?_)<;>conv=>whnf)|(refine Br.b (fun _=>?_) (fun _=>?_)<;>conv=>whnf))
  all_goals first
   | exact ⟨_,.hd rfl (by simp),by
      have:t.args.take j=t.args:=List.take_of_length_le (by omega)
      rw [ZP,← this];rfl⟩
   | (have hj:j<t.args.length:=by omega
      have hst:=x1o hj
      refine ⟨j+1,by show j+1≤_;omega,by show t.args.length-(j+1)<t.args.length-j;omega,Le.of_eq ?_⟩
      first
       | (have hn:UB t.args[j]=[t.args[j].name]++ZE t.args[j].x:=by rw [UB,show t.args[j].ref=true by assumption];rfl
          rw [GM,hst,hn]
          simp only [List.length_append,List.map_append,List.length_map,← List.append_assoc,← Nat.add_assoc]
          rfl)
       | (have hn:UB t.args[j]=ZE t.args[j].x:=by rw [UB,show t.args[j].ref=false by assumption];rfl
          rw [GM,hst,hn]
          simp only [List.length_append,List.map_append,List.length_map]
          rfl))
theorem ZM (p:Pg) (n:Str):SpecP Tryz.prog 267 [.agg p.cells,.str n] (fun r=>r = .tup [.agg (VF p n).1.cells,.bool (VF p n).2]):=by
 refine SpecP.body DD QQ Tryz.func267 rfl Tryz.call267 (by show 2≤_;decide) ?_
 conv=>whnf
 have hpl:(p.procs.map fun f=>AV.agg f.cells).length=p.procs.length:=List.length_map _
 repeat' (first|((first|intro (_:_≤9223372036854775807)|refine DrawK.auto QQ mixed (by kernel_rfl) ?_|refine And.intro rfl ?_|(refine And.intro ⟨by decide,by decide⟩ ?_)|(refine And.intro ⟨rfl,rfl,by decide⟩ ?_)|refine BsK.pure (fun x hx=>by rcases List.mem_singleton.1 hx with rfl;rfl) rfl ?_|refine IdxK.map (by omega) (fun _=>rfl) ?_|refine IdxK.xs (by omega) ?_|refine IdxK.ss (by omega) ?_|(refine ByteK.at (by omega) ?_)|refine Wr.i64 (by omega) (by omega) ?_);conv=>whnf)|(refine Br.dec (fun _=>?_) (fun _=>?_)<;>first|(exfalso;omega)|conv=>whnf)|(refine Br.dec2 (fun _=>?_) (fun _=>?_)<;>first|(exfalso;omega)|conv=>whnf)|(refine Br.n (fun _=>?_) (fun _=>?_)<;>conv=>whnf)|(refine Br.b (fun _=>?_) (fun _=>?_)<;>conv=>whnf))
 refine LoopK.inv QQ (fun j:Nat=>⟨[(1,.p (.str n)),(4,.ptr 1 0),(9,.p (.sl (p.procs.map fun f => .agg f.cells))),(10,.p (.int .i64 (p.procs.map fun f=>AV.agg f.cells).length)),(11,.p (.int .i64 j))],[(1,.obj 67 [.p (.str []),.p .nils,.p .nils,.p .nils,.p .nils])]⟩) (fun j=>j≤p.procs.length∧(p.procs.drop j).find? (fun f=>f.name==n)=p.procs.find? fun f=>f.name==n) (fun j=>p.procs.length-j) 0 (Le.of_eq rfl) ⟨Nat.zero_le _,rfl⟩ ?_
 rintro j ⟨h2,h3⟩
 rcases Nat.lt_or_ge j p.procs.length with hj|hj
 ·rw [QJ hj,List.find?_cons] at h3
  conv=>whnf
  repeat' (first|((first|intro (_:_≤9223372036854775807)|refine DrawK.auto QQ mixed (by kernel_rfl) ?_|refine And.intro rfl ?_|(refine And.intro ⟨by decide,by decide⟩ ?_)|(refine And.intro ⟨rfl,rfl,by decide⟩ ?_)|refine BsK.pure (fun x hx=>by rcases List.mem_singleton.1 hx with rfl;rfl) rfl ?_|refine IdxK.map (by omega) (fun _=>rfl) ?_|refine IdxK.xs (by omega) ?_|refine IdxK.ss (by omega) ?_|(refine ByteK.at (by omega) ?_)|refine Wr.i64 (by omega) (by omega) ?_);conv=>whnf)|(refine Br.dec (fun _=>?_) (fun _=>?_)<;>first|(exfalso;omega)|conv=>whnf)|(refine Br.dec2 (fun _=>?_) (fun _=>?_)<;>first|(exfalso;omega)|conv=>whnf)|(refine Br.n (fun _=>?_) (fun _=>?_)<;>conv=>whnf)|(refine Br.b (fun _=>?_) (fun _=>?_)<;>conv=>whnf))
  ·have hn:(p.procs[j].name==n)=true:=by assumption
   rw [hn] at h3
   exact ⟨_,.p (Sub.tup (SubL.cons (Sub.refl _) (SubL.cons (Sub.tt rfl) SubL.nil))),by unfold VF;rw [← h3];first|done|rfl⟩
  ·have hn:(p.procs[j].name==n)=false:=by assumption
   rw [hn] at h3
   exact ⟨j+1,⟨hj,h3⟩,by omega,Le.of_eq rfl⟩
 ·rw [List.drop_eq_nil_of_le hj,List.find?_nil] at h3
  conv=>whnf
  repeat' (first|((first|intro (_:_≤9223372036854775807)|refine DrawK.auto QQ mixed (by kernel_rfl) ?_|refine And.intro rfl ?_|(refine And.intro ⟨by decide,by decide⟩ ?_)|(refine And.intro ⟨rfl,rfl,by decide⟩ ?_)|refine BsK.pure (fun x hx=>by rcases List.mem_singleton.1 hx with rfl;rfl) rfl ?_|refine IdxK.map (by omega) (fun _=>rfl) ?_|refine IdxK.xs (by omega) ?_|refine IdxK.ss (by omega) ?_|(refine ByteK.at (by omega) ?_)|refine Wr.i64 (by omega) (by omega) ?_);conv=>whnf)|(refine Br.dec (fun _=>?_) (fun _=>?_)<;>first|(exfalso;omega)|conv=>whnf)|(refine Br.dec2 (fun _=>?_) (fun _=>?_)<;>first|(exfalso;omega)|conv=>whnf)|(refine Br.n (fun _=>?_) (fun _=>?_)<;>conv=>whnf)|(refine Br.b (fun _=>?_) (fun _=>?_)<;>conv=>whnf))
  exact ⟨_,.p (Sub.tup (SubL.cons x3r (SubL.cons (Sub.ff rfl) SubL.nil))),by unfold VF;rw [← h3];first|done|rfl⟩
theorem z4w (p:Pg) (s:S):UY p s=(decide (s.kind=4)&&((VF p s.proc).2&&q5e (VF p s.proc).1.params s.args)):=by
 unfold UY VF
 cases p.procs.find? (fun f=>f.name==s.proc)<;>rfl
theorem UV (p:Pg) (s:S):SpecP Tryz.prog 271 [.agg p.cells,.agg s.cells] (fun r=>r = .bool (UY p s)):=by
 refine SpecP.body GU QQ Tryz.func271 rfl Tryz.call271 (by show 2≤_;decide) ?_
 conv=>whnf
 have hN:=ZM p s.proc
 have hF:=z4w p s
 rw [hF]
 generalize (VF p s.proc).2=ok at *
 generalize (VF p s.proc).1=q at *
 have hal:(s.args.map fun a=>AV.agg a.cells).length=s.args.length:=List.length_map _
 have hql:(q.params.map fun a=>AV.agg a.cells).length=q.params.length:=List.length_map _
 repeat' (first|((first|intro (_:_≤9223372036854775807)|refine DrawK.auto QQ mixed (by kernel_rfl) ?_|refine And.intro rfl ?_|(refine And.intro ⟨by decide,by decide⟩ ?_)|(refine And.intro ⟨rfl,rfl,by decide⟩ ?_)|refine BsK.pure (fun x hx=>by rcases List.mem_singleton.1 hx with rfl;rfl) rfl ?_|refine IdxK.map (by omega) (fun _=>rfl) ?_|refine IdxK.xs (by omega) ?_|refine IdxK.ss (by omega) ?_|(refine ByteK.at (by omega) ?_)|refine Wr.i64 (by omega) (by omega) ?_|(refine CallK.pure hN (.cons (Sub.refl _) (.cons (Sub.refl _) .nil)) ?_;rintro _ rfl));conv=>whnf)|(refine Br.dec (fun _=>?_) (fun _=>?_)<;>first|(exfalso;omega)|conv=>whnf)|(refine Br.dec2 (fun _=>?_) (fun _=>?_)<;>first|(exfalso;omega)|conv=>whnf)|(refine Br.n (fun _=>?_) (fun _=>?_)<;>conv=>whnf)|(refine Br.b (fun _=>?_) (fun _=>?_)<;>conv=>whnf))
 all_goals first
  | (refine RetK.ff ?_;simp_all;done)
  | (refine RetK.ff ?_
     have:q5e q.params s.args=false:=by
      unfold q5e
      rw [decide_eq_false_iff_not]
      intro he
      have:=congrArg List.length he
      simp at this
      omega
     rw [this]
     simp)
  | skip
 have hk:s.kind=4:=by omega
 have hlen:s.args.length=q.params.length:=by omega
 have hok:ok=true:=by assumption
 rw [hok,decide_eq_true hk,Bool.true_and,Bool.true_and]
 refine LoopK.inv QQ (fun j:Nat=>⟨[(3,.p (.ip s.cells)),(5,.p (.ip q.cells)),(33,.p (.int .i64 (s.args.map fun a=>AV.agg a.cells).length)),(34,.p (.int .i64 j))],[]⟩) (fun j=>j≤s.args.length ∧ ∀ k (hk:k<j) (h1:k<s.args.length) (h2:k<q.params.length),s.args[k].ref=q.params[k].ref) (fun j=>s.args.length-j) 0 (Le.of_eq rfl) ⟨Nat.zero_le _,fun k hk=>absurd hk (Nat.not_lt_zero _)⟩ ?_
 rintro j ⟨h2,h3⟩
 rcases Nat.lt_or_ge j s.args.length with hj|hj
 ·have hjq:j<q.params.length:=by omega
  conv=>whnf
  repeat' (first|((first|intro (_:_≤9223372036854775807)|refine DrawK.auto QQ mixed (by kernel_rfl) ?_|refine And.intro rfl ?_|(refine And.intro ⟨by decide,by decide⟩ ?_)|(refine And.intro ⟨rfl,rfl,by decide⟩ ?_)|refine BsK.pure (fun x hx=>by rcases List.mem_singleton.1 hx with rfl;rfl) rfl ?_|refine IdxK.map (by omega) (fun _=>rfl) ?_|refine IdxK.xs (by omega) ?_|refine IdxK.ss (by omega) ?_|(refine ByteK.at (by omega) ?_)|refine Wr.i64 (by omega) (by omega) ?_|refine ValO.boolNeq QQ rfl rfl rfl rfl rfl ?_);conv=>whnf)|(refine Br.dec (fun _=>?_) (fun _=>?_)<;>first|(exfalso;omega)|conv=>whnf)|(refine Br.dec2 (fun _=>?_) (fun _=>?_)<;>first|(exfalso;omega)|conv=>whnf)|(refine Br.n (fun _=>?_) (fun _=>?_)<;>conv=>whnf)|(refine Br.b (fun _=>?_) (fun _=>?_)<;>conv=>whnf))
  all_goals first
   | (refine RetK.ff ?_
      unfold q5e
      rw [decide_eq_false_iff_not]
      intro he
      have h4:=congrArg (fun l=>l[j]?) he
      simp only [List.getElem?_map,List.getElem?_eq_getElem hj,List.getElem?_eq_getElem hjq,Option.map_some] at h4
      have h5:=Option.some.inj h4
      simp_all
      done)
   | (refine ⟨j+1,⟨by omega,fun k hk h1 h2 => ?_⟩,by omega,Le.of_eq rfl⟩
      rcases Nat.lt_or_ge k j with h5|h5
      ·exact h3 k h5 h1 h2
      ·obtain rfl:k=j:=by omega
       simp_all)
 ·conv=>whnf
  repeat' (first|((first|intro (_:_≤9223372036854775807)|refine DrawK.auto QQ mixed (by kernel_rfl) ?_|refine And.intro rfl ?_|(refine And.intro ⟨by decide,by decide⟩ ?_)|(refine And.intro ⟨rfl,rfl,by decide⟩ ?_)|refine BsK.pure (fun x hx=>by rcases List.mem_singleton.1 hx with rfl;rfl) rfl ?_|refine IdxK.map (by omega) (fun _=>rfl) ?_|refine IdxK.xs (by omega) ?_|refine IdxK.ss (by omega) ?_|(refine ByteK.at (by omega) ?_)|refine Wr.i64 (by omega) (by omega) ?_);conv=>whnf)|(refine Br.dec (fun _=>?_) (fun _=>?_)<;>first|(exfalso;omega)|conv=>whnf)|(refine Br.dec2 (fun _=>?_) (fun _=>?_)<;>first|(exfalso;omega)|conv=>whnf)|(refine Br.n (fun _=>?_) (fun _=>?_)<;>conv=>whnf)|(refine Br.b (fun _=>?_) (fun _=>?_)<;>conv=>whnf))
  refine RetK.tt ?_
  unfold q5e
  rw [decide_eq_true_eq]
  refine List.ext_getElem (by simp;omega) fun k h4 h5 => ?_
  simp only [List.length_map] at h4 h5
  rw [List.getElem_map,List.getElem_map,h3 k (by omega) h5 h4]
theorem PB (f:Pr) (hl : ∀ x∈ZV f,x.s.labels.length≤20000) (hf:f.fin.length≤20000):SpecP Tryz.prog 272 [.agg f.cells] (fun r=>r=QH ((ZV f).flatMap (fun x=>x.s.labels)++f.fin)):=by
 refine SpecP.body FT QQ Tryz.func272 rfl Tryz.call272 (by show 1≤_;decide) ?_
 conv=>whnf
 have hF:=QN f
 have hrl:=YW f
 generalize ZV f=L at *
 have hLl:=WP L
 repeat' (first|((first|intro (_:_≤9223372036854775807)|refine DrawK.auto QQ mixed (by kernel_rfl) ?_|refine And.intro rfl ?_|(refine And.intro ⟨by decide,by decide⟩ ?_)|(refine And.intro ⟨rfl,rfl,by decide⟩ ?_)|refine BsK.pure (fun x hx=>by rcases List.mem_singleton.1 hx with rfl;rfl) rfl ?_|refine IdxK.map (by omega) (fun _=>rfl) ?_|refine IdxK.xs (by omega) ?_|refine IdxK.ss (by omega) ?_|(refine ByteK.at (by omega) ?_)|refine Wr.i64 (by omega) (by omega) ?_|(refine CallK.pure hF (.cons (Sub.refl _) .nil) ?_;rintro _ rfl));conv=>whnf)|(refine Br.dec (fun _=>?_) (fun _=>?_)<;>first|(exfalso;omega)|conv=>whnf)|(refine Br.dec2 (fun _=>?_) (fun _=>?_)<;>first|(exfalso;omega)|conv=>whnf)|(refine Br.n (fun _=>?_) (fun _=>?_)<;>conv=>whnf)|(refine Br.b (fun _=>?_) (fun _=>?_)<;>conv=>whnf))
 refine LoopK.inv QQ (fun x:Nat×List Str=>⟨[(1,.p (.ip f.cells)),(3,.hd 0 0 x.2.length),(7,.p (KT L)),(8,.p (.int .i64 (L.map fun i=>AV.agg i.cells).length)),(9,.p (.int .i64 x.1))],[(0,.own 9 1 (x.2.map .str))]⟩) (fun x=>x.1≤L.length∧x.2=(L.take x.1).flatMap (fun x=>x.s.labels)∧x.2.length≤20000*x.1) (fun x=>L.length-x.1) (0,[])
  (Le.mk [(0,.own 9 1 [])] (by simp [Chunk.new0];rfl) (by simp) (by simp) (.cons (.refl _) (.cons (.nil List.mem_cons_self) (.cons (.refl _) (.cons (.refl _) (.cons (.refl _) .nil))))) (.new List.mem_cons_self .nil)) ⟨Nat.zero_le _,by simp,by simp⟩ ?_
 rintro ⟨j,acc⟩ ⟨h2,h3,h4⟩
 simp only at h2 h3 h4 ⊢
 rcases Nat.lt_or_ge j L.length with hj|hj
 ·have h5:=hl _ (List.getElem_mem hj)
  have h6:acc++L[j].s.labels=(L.take (j+1)).flatMap (fun x=>x.s.labels):=by rw [List.take_succ_eq_append_getElem hj,List.flatMap_append,← h3];simp
  conv=>whnf
  repeat' (first|((first|intro (_:_≤9223372036854775807)|refine DrawK.auto QQ mixed (by kernel_rfl) ?_|refine And.intro rfl ?_|(refine And.intro ⟨by decide,by decide⟩ ?_)|(refine And.intro ⟨rfl,rfl,by decide⟩ ?_)|refine BsK.pure (fun x hx=>by rcases List.mem_singleton.1 hx with rfl;rfl) rfl ?_|refine IdxK.map (by omega) (fun _=>rfl) ?_|refine IdxK.xs (by omega) ?_|refine IdxK.ss (by omega) ?_|(refine ByteK.at (by omega) ?_)|refine Wr.i64 (by omega) (by omega) ?_|refine AppK.strs _ (by simp) (by simp;omega) ?_);conv=>whnf)|(refine Br.dec (fun _=>?_) (fun _=>?_)<;>first|(exfalso;omega)|conv=>whnf)|(refine Br.dec2 (fun _=>?_) (fun _=>?_)<;>first|(exfalso;omega)|conv=>whnf)|(refine Br.n (fun _=>?_) (fun _=>?_)<;>conv=>whnf)|(refine Br.b (fun _=>?_) (fun _=>?_)<;>conv=>whnf))
  exact ⟨(j+1,acc++L[j].s.labels),⟨by simp only;omega,h6,by simp;omega⟩,by simp only;omega,Le.of_eq (by simp;rfl)⟩
 ·rw [List.take_of_length_le hj] at h3
  conv=>whnf
  repeat' (first|((first|intro (_:_≤9223372036854775807)|refine DrawK.auto QQ mixed (by kernel_rfl) ?_|refine And.intro rfl ?_|(refine And.intro ⟨by decide,by decide⟩ ?_)|(refine And.intro ⟨rfl,rfl,by decide⟩ ?_)|refine BsK.pure (fun x hx=>by rcases List.mem_singleton.1 hx with rfl;rfl) rfl ?_|refine IdxK.map (by omega) (fun _=>rfl) ?_|refine IdxK.xs (by omega) ?_|refine IdxK.ss (by omega) ?_|(refine ByteK.at (by omega) ?_)|refine Wr.i64 (by omega) (by omega) ?_|refine AppK.strs _ (by simp) (by simp;omega) ?_);conv=>whnf)|(refine Br.dec (fun _=>?_) (fun _=>?_)<;>first|(exfalso;omega)|conv=>whnf)|(refine Br.dec2 (fun _=>?_) (fun _=>?_)<;>first|(exfalso;omega)|conv=>whnf)|(refine Br.n (fun _=>?_) (fun _=>?_)<;>conv=>whnf)|(refine Br.b (fun _=>?_) (fun _=>?_)<;>conv=>whnf))
  exact ⟨_,.hd rfl (by simp),by rw [← h3];simp [QH]⟩
def BT (l:List RI) (fin:List Str) (label:Str):Int×Bool:=match l.find? fun x=>inS x.s.labels label with
 | some x=>(x.s.id,true)
 | none=>if inS fin label=true then (-1,true) else (0,false)
theorem LP (l:List RI) (fin:List Str) (label:Str):SpecP Tryz.prog 206 [KT l,QH fin,.str label] (fun r=>r = .tup [.int .i64 (BT l fin label).1,.bool (BT l fin label).2]):=by
 refine SpecP.body DN QQ Tryz.func206 rfl Tryz.call206 (by show 3≤_;decide) ?_
 conv=>whnf
 intro (_:_≤9223372036854775807)
 have hLl:=WP l
 conv=>whnf
 refine LoopK.inv QQ (fun j:Nat=>⟨[(1,.p (QH fin)),(2,.p (.str label)),(10,.p (KT l)),(11,.p (.int .i64 (l.map fun i=>AV.agg i.cells).length)),(12,.p (.int .i64 j))],[]⟩) (fun j=>j≤l.length∧(l.drop j).find? (fun x=>inS x.s.labels label)=l.find? fun x=>inS x.s.labels label) (fun j=>l.length-j) 0 (Le.of_eq rfl) ⟨Nat.zero_le _,rfl⟩ ?_
 rintro j ⟨h2,h3⟩
 rcases Nat.lt_or_ge j l.length with hj|hj
 ·conv=>whnf
  repeat' (first|((first|intro (_:_≤9223372036854775807)|(refine CallK.pure (QB _ _) (by repeat' (first|exact ArgP.nil|refine ArgP.cons ?_ ?_|exact Sub.refl _|exact Sub.tt rfl|exact Sub.ff rfl)) ?_;rintro _ rfl)|refine DrawK.auto QQ mixed (by kernel_rfl) ?_|refine And.intro rfl ?_|(refine And.intro ⟨by decide,by decide⟩ ?_)|(refine And.intro ⟨rfl,rfl,by decide⟩ ?_)|refine BsK.pure (fun x hx=>by rcases List.mem_singleton.1 hx with rfl;rfl) rfl ?_|refine IdxK.map (by omega) (fun _=>rfl) ?_|refine IdxK.xs (by omega) ?_|refine IdxK.ss (by omega) ?_|(refine ByteK.at (by omega) ?_)|refine Wr.i64 (by omega) (by omega) ?_);conv=>whnf)|(refine Br.dec (fun _=>?_) (fun _=>?_)<;>first|(exfalso;omega)|conv=>whnf)|(refine Br.dec2 (fun _=>?_) (fun _=>?_)<;>first|(exfalso;omega)|conv=>whnf)|(refine Br.n (fun _=>?_) (fun _=>?_)<;>conv=>whnf)|(refine Br.b (fun _=>?_) (fun _=>?_)<;>conv=>whnf))
  ·have e:=JY (p:=fun x:RI=>inS x.s.labels label) hj (by assumption)
   rw [h3] at e
   exact RetK.tup2 (by unfold BT;rw [e]) (Sub.tt (by unfold BT;rw [e]))
  ·exact ⟨j+1,⟨by omega,by rw [← h3,HC (p:=fun x:RI=>inS x.s.labels label) hj (by assumption)]⟩,by omega,Le.of_eq rfl⟩
 ·have e:l.find? (fun x=>inS x.s.labels label)=none:=by rw [← h3,JU hj]
  conv=>whnf
  repeat' (first|((first|intro (_:_≤9223372036854775807)|(refine CallK.pure (QB _ _) (by repeat' (first|exact ArgP.nil|refine ArgP.cons ?_ ?_|exact Sub.refl _|exact Sub.tt rfl|exact Sub.ff rfl)) ?_;rintro _ rfl)|refine DrawK.auto QQ mixed (by kernel_rfl) ?_|refine And.intro rfl ?_|(refine And.intro ⟨by decide,by decide⟩ ?_)|(refine And.intro ⟨rfl,rfl,by decide⟩ ?_)|refine BsK.pure (fun x hx=>by rcases List.mem_singleton.1 hx with rfl;rfl) rfl ?_|refine IdxK.map (by omega) (fun _=>rfl) ?_|refine IdxK.xs (by omega) ?_|refine IdxK.ss (by omega) ?_|(refine ByteK.at (by omega) ?_)|refine Wr.i64 (by omega) (by omega) ?_);conv=>whnf)|(refine Br.dec (fun _=>?_) (fun _=>?_)<;>first|(exfalso;omega)|conv=>whnf)|(refine Br.dec2 (fun _=>?_) (fun _=>?_)<;>first|(exfalso;omega)|conv=>whnf)|(refine Br.n (fun _=>?_) (fun _=>?_)<;>conv=>whnf)|(refine Br.b (fun _=>?_) (fun _=>?_)<;>conv=>whnf))
  ·exact RetK.tup2 (by unfold BT;rw [e];simp [*]) (Sub.tt (by unfold BT;rw [e];simp [*]))
  ·exact RetK.tup2 (by unfold BT;rw [e];simp [*]) (Sub.ff (by unfold BT;rw [e];simp [*]))
theorem YJ (l:List RI) (id:Int):SpecP Tryz.prog 207 [KT l,.int .i64 id] (fun r=>r = .tup [.int .i64 (x3g l.reverse id).1,.bool (x3g l.reverse id).2]):=by
 refine SpecP.body FX QQ Tryz.func207 rfl Tryz.call207 (by show 2≤_;decide) ?_
 conv=>whnf
 intro (_:_≤9223372036854775807)
 have hLl:=WP l
 conv=>whnf
 repeat' (first|((first|intro (_:_≤9223372036854775807)|refine DrawK.auto QQ mixed (by kernel_rfl) ?_|refine And.intro rfl ?_|(refine And.intro ⟨by decide,by decide⟩ ?_)|(refine And.intro ⟨rfl,rfl,by decide⟩ ?_)|refine BsK.pure (fun x hx=>by rcases List.mem_singleton.1 hx with rfl;rfl) rfl ?_|refine IdxK.map (by omega) (fun _=>rfl) ?_|refine IdxK.xs (by omega) ?_|refine IdxK.ss (by omega) ?_|(refine ByteK.at (by omega) ?_)|refine Wr.i64 (by omega) (by omega) ?_);conv=>whnf)|(refine Br.dec (fun _=>?_) (fun _=>?_)<;>first|(exfalso;omega)|conv=>whnf)|(refine Br.dec2 (fun _=>?_) (fun _=>?_)<;>first|(exfalso;omega)|conv=>whnf)|(refine Br.n (fun _=>?_) (fun _=>?_)<;>conv=>whnf)|(refine Br.b (fun _=>?_) (fun _=>?_)<;>conv=>whnf))
 refine LoopK.inv QQ (fun n:Nat=>⟨[(0,.p (KT l)),(1,.p (.int .i64 id)),(6,.p (.int .i64 ((n:Int)-1)))],[]⟩) (fun n=>n≤l.length∧x3g (l.take n).reverse id=x3g l.reverse id) (fun n=>n) l.length (Le.of_eq (by rw [hLl])) ⟨Nat.le_refl _,by rw [List.take_length]⟩ ?_
 rintro n ⟨h2,h3⟩
 cases n with
 | zero =>
   rw [← h3]
   conv=>whnf
   repeat' (first|((first|intro (_:_≤9223372036854775807)|refine DrawK.auto QQ mixed (by kernel_rfl) ?_|refine And.intro rfl ?_|(refine And.intro ⟨by decide,by decide⟩ ?_)|(refine And.intro ⟨rfl,rfl,by decide⟩ ?_)|refine BsK.pure (fun x hx=>by rcases List.mem_singleton.1 hx with rfl;rfl) rfl ?_|refine IdxK.map (by omega) (fun _=>rfl) ?_|refine IdxK.xs (by omega) ?_|refine IdxK.ss (by omega) ?_|(refine ByteK.at (by omega) ?_)|refine Wr.i64 (by omega) (by omega) ?_);conv=>whnf)|(refine Br.dec (fun _=>?_) (fun _=>?_)<;>first|(exfalso;omega)|conv=>whnf)|(refine Br.dec2 (fun _=>?_) (fun _=>?_)<;>first|(exfalso;omega)|conv=>whnf)|(refine Br.n (fun _=>?_) (fun _=>?_)<;>conv=>whnf)|(refine Br.b (fun _=>?_) (fun _=>?_)<;>conv=>whnf))
   exact RetK.tup2 rfl (Sub.ff rfl)
 | succ n =>
   have hn:n<l.length:=by omega
   have hst:=x1s hn id
   have e1:((n+1:Nat):Int)-1=(n:Nat):=by omega
   rw [e1]
   conv=>whnf
   repeat' (first|((first|intro (_:_≤9223372036854775807)|refine DrawK.auto QQ mixed (by kernel_rfl) ?_|refine And.intro rfl ?_|(refine And.intro ⟨by decide,by decide⟩ ?_)|(refine And.intro ⟨rfl,rfl,by decide⟩ ?_)|refine BsK.pure (fun x hx=>by rcases List.mem_singleton.1 hx with rfl;rfl) rfl ?_|refine IdxK.map (by omega) (fun _=>rfl) ?_|refine IdxK.xs (by omega) ?_|refine IdxK.ss (by omega) ?_|(refine ByteK.at (by omega) ?_)|refine Wr.eq (m:=(n:Int)-1) rfl (by omega) (by omega) ?_);conv=>whnf)|(refine Br.dec (fun _=>?_) (fun _=>?_)<;>first|(exfalso;omega)|conv=>whnf)|(refine Br.dec2 (fun _=>?_) (fun _=>?_)<;>first|(exfalso;omega)|conv=>whnf)|(refine Br.n (fun _=>?_) (fun _=>?_)<;>conv=>whnf)|(refine Br.b (fun _=>?_) (fun _=>?_)<;>conv=>whnf))
   rotate_left 1
   ·rw [if_neg (by assumption)] at hst
    exact ⟨n,⟨by omega,by rw [← hst];exact h3⟩,by omega,Le.of_eq rfl⟩
   rw [if_pos (by omega)] at hst
   refine LoopK.inv QQ (fun x:Nat×Int=>⟨[(0,.p (KT l)),(1,.p (.int .i64 id)),(6,.p (.int .i64 n)),(7,.p (.int .i64 x.2)),(8,.p (.int .i64 ((x.1:Int)-1)))],[]⟩) (fun x=>x.1≤n∧JK (l.take x.1).reverse x.2=JK (l.take n).reverse l[n].inn) (fun x=>x.1) (n,l[n].inn) (Le.of_eq rfl) ⟨Nat.le_refl _,rfl⟩ ?_
   rintro ⟨m,i⟩ ⟨h4,h5⟩
   simp only at h4 h5 ⊢
   cases m with
   | zero =>
     have e:JK (l.take 0).reverse i=(0,false):=rfl
     rw [e] at h5
     rw [← h5,if_neg (by decide)] at hst
     conv=>whnf
     repeat' (first|((first|intro (_:_≤9223372036854775807)|refine DrawK.auto QQ mixed (by kernel_rfl) ?_|refine And.intro rfl ?_|(refine And.intro ⟨by decide,by decide⟩ ?_)|(refine And.intro ⟨rfl,rfl,by decide⟩ ?_)|refine BsK.pure (fun x hx=>by rcases List.mem_singleton.1 hx with rfl;rfl) rfl ?_|refine IdxK.map (by omega) (fun _=>rfl) ?_|refine IdxK.xs (by omega) ?_|refine IdxK.ss (by omega) ?_|(refine ByteK.at (by omega) ?_)|refine Wr.eq (m:=(n:Int)-1) rfl (by omega) (by omega) ?_);conv=>whnf)|(refine Br.dec (fun _=>?_) (fun _=>?_)<;>first|(exfalso;omega)|conv=>whnf)|(refine Br.dec2 (fun _=>?_) (fun _=>?_)<;>first|(exfalso;omega)|conv=>whnf)|(refine Br.n (fun _=>?_) (fun _=>?_)<;>conv=>whnf)|(refine Br.b (fun _=>?_) (fun _=>?_)<;>conv=>whnf))
     exact ⟨n,⟨by omega,by rw [← hst];exact h3⟩,by omega,Le.of_eq rfl⟩
   | succ m =>
     have hm:m<l.length:=by omega
     have hs2:=x9o hm i
     have e2:((m+1:Nat):Int)-1=(m:Nat):=by omega
     rw [e2]
     conv=>whnf
     repeat' (first|((first|intro (_:_≤9223372036854775807)|refine DrawK.auto QQ mixed (by kernel_rfl) ?_|refine And.intro rfl ?_|(refine And.intro ⟨by decide,by decide⟩ ?_)|(refine And.intro ⟨rfl,rfl,by decide⟩ ?_)|refine BsK.pure (fun x hx=>by rcases List.mem_singleton.1 hx with rfl;rfl) rfl ?_|refine IdxK.map (by omega) (fun _=>rfl) ?_|refine IdxK.xs (by omega) ?_|refine IdxK.ss (by omega) ?_|(refine ByteK.at (by omega) ?_)|refine Wr.eq (m:=(n:Int)-1) rfl (by omega) (by omega) ?_|refine Wr.eq (m:=(m:Int)-1) rfl (by omega) (by omega) ?_);conv=>whnf)|(refine Br.dec (fun _=>?_) (fun _=>?_)<;>first|(exfalso;omega)|conv=>whnf)|(refine Br.dec2 (fun _=>?_) (fun _=>?_)<;>first|(exfalso;omega)|conv=>whnf)|(refine Br.n (fun _=>?_) (fun _=>?_)<;>conv=>whnf)|(refine Br.b (fun _=>?_) (fun _=>?_)<;>conv=>whnf))
     all_goals first
      | (rw [if_pos (by omega)] at hs2
         rw [hs2] at h5
         rw [← h5,if_neg (by decide)] at hst
         exact ⟨n,⟨by omega,by rw [← hst];exact h3⟩,by omega,Le.of_eq rfl⟩)
      | (rw [if_neg (by assumption),if_neg (by assumption)] at hs2
         exact ⟨(m,i),⟨by simp only;omega,by rw [← hs2];exact h5⟩,by simp only;omega,Le.of_eq rfl⟩)
      | (rw [if_neg (by assumption),if_pos (by omega),if_pos (by assumption)] at hs2
         rw [hs2] at h5
         rw [← h5,if_pos rfl] at hst
         rw [← h3,hst]
         exact RetK.tup2 rfl (Sub.tt rfl))
      | (rw [if_neg (by assumption),if_pos (by omega),if_neg (by assumption)] at hs2
         exact ⟨(m,l[m].inn),⟨by simp only;omega,by rw [← hs2];exact h5⟩,by simp only;omega,Le.of_eq rfl⟩)
      | trace_state
def pureL:LV→LV
 | .p a => .p a
 | _ => .p .any
def x9q:List (Nat×LV)→List (Nat×LV)
 | []=>[]
 | (j,l)::r=>(j,pureL l)::x9q r
theorem x1i : ∀ (sl:List (Nat×LV)) (i:Nat),getS (x9q sl) i=pureL (getS sl i)
 | [],i=>rfl
 | (j,l)::r,i=>by
   rw [x9q,getS,getS]
   cases j==i with
   | true=>rfl
   | false=>exact x1i r i
theorem CallK.give {P:Program} {N:Nat} {g:FuncId} {args:List LV} {dst:Option Nat} {s:St} {K:St→Prop} {avs:List AV} {R:AV→Prop} (hs:SpecP P g avs R) (ha:FrzL s.H args avs)
  (h : ∀ c,R c→setD N (x9q s.sl) dst (.p c) fun sl=>K ⟨sl,[]⟩):CallK P N g args dst s K:=by
 refine ⟨fun σ β a w hr vals hn hv=>⟨hs.go vals,?_⟩⟩
 obtain ⟨hlen,hget⟩:=ha.get
 obtain ⟨τ,h5,h6,h7,h8⟩:=q4s hr.heap
 refine (hs.ok τ w vals (hn.trans hlen) (fun j c hj => ?_) h6).mono fun e w' ⟨c,u,σ',he,hR,hrep,hle,hl,hf,hnew⟩ => ?_
 ·obtain ⟨l,h1,h2⟩:=hget j c hj
  exact h8 l _ c (hv j l h1) h2
 ·have hr':Rel N σ' β ⟨x9q s.sl,[]⟩ a w':=⟨hr.size,hr.defers,fun i=>by
   show RepL σ' β (getS (x9q s.sl) i) _
   rw [x1i]
   have:=hr.slots i
   generalize getS s.sl i=l at this ⊢
   cases l with
   | p x=>exact this.mono (Mem.le_trans h5 hle)
   | _=>exact .p (.any _),⟨hl,fun k c h=>(by cases h),List.nodup_nil,fun k h=>(by cases h),fun k h=>(by cases h)⟩⟩
  obtain ⟨sl,hK,hr''⟩:=hr'.setD (.p hrep) (h c hR)
  refine ⟨u,σ',β,_,he,hK,hr'',Mem.le_trans h5 hle,⟨hf.os,hf.tape,hf.output,hf.drawn,hf.size,fun b hb _=>hf.block b hb id⟩,fun b h0 h1 => ?_,fun b ⟨j,hj,_⟩=>(by cases hj),fun _ _ _=>rfl⟩
  by_cases h2:τ b=none
  ·exact .inr (hnew b h2 h1)
  ·rcases h7 b h2 with h3|h3
   ·exact absurd h0 h3
   ·exact .inl h3
end Go.Ab
