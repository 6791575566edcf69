/- tree, flat, scope: the names of an expression, of a statement; what a name is. -/
import Derived.Test.YtiaikoimoonlmaaGreatDomR8
set_option linter.unusedSimpArgs false
set_option linter.unusedVariables false
set_option maxRecDepth 100000
set_option maxHeartbeats 16000000
open List (drop_eq_nil_of_le drop_zero length_append length_cons length_map mem_cons_self nil_append take_of_length_le)
open Nat (zero_le)
namespace Go.Ab
open Go.Proofs
theorem MZ {es:List AV} {n:Nat} {K:Prop} (xs:List Str) (hn:n=es.length) (hb:es.length+xs.length<=8796093022208) (hK:K):AppK es (xs.map .str) n (xs.map AV.str).length 1 16 K :=
 .mk hn rfl (by rw [hn];simp;omega) (by rw [hn];simp [maxLen];omega) (fun x hx=>by obtain ⟨y,_,rfl⟩:=List.mem_map.1 hx;exact ⟨rfl,rfl⟩) hK
theorem UX {es:List AV} {n:Nat} {K:Prop} {s:Str} (hn:n=es.length) (hb:es.length<=8796093022000) (hK:K):AppK es [.str s] n 1 1 16 K :=
 .mk hn rfl (by omega) (by simp only [maxLen];omega) (fun x hx=>by rcases List.mem_singleton.1 hx with rfl;exact ⟨rfl,rfl⟩) hK
theorem ZU {es:List AV} {n:Nat} {K:Prop} {s:Int} (hn:n=es.length) (hb:es.length<=8796093022000) (hK:K):AppK es [.int .i64 s] n 1 1 8 K :=
 .mk hn rfl (by omega) (by simp only [maxLen];omega) (fun x hx=>by rcases List.mem_singleton.1 hx with rfl;exact ⟨rfl,rfl⟩) hK
mutual
def x6j:X->List Str->List Str
 | .mk op _ name kids,out=>GE kids (if op=2∧(out.any fun s=>name==s)=false then out++[name] else out)
def GE:List X->List Str->List Str
 | [],out=>out
 | x::r,out=>GE r (x6j x out)
end
theorem x7u (x:X) (out:List Str):x6j x out=GE x.kids (if x.op=2∧(out.any fun s=>x.name==s)=false then out++[x.name] else out):=by
 cases x;rw [x6j];rfl
theorem z3n {l:List X} {j:Nat} {out:List Str} (hj:j<l.length):GE (l.drop j) out=GE (l.drop (j+1)) (x6j l[j] out):=by
 rw [QG hj,GE]
theorem z7f {l:List X} {j:Nat} {out:List Str} (hj:l.length<=j):GE (l.drop j) out=out:=by
 rw [drop_eq_nil_of_le hj,GE]
theorem q0w {n:Nat} {x:X} (h:ZE (n+1) x=true):x.kids.length<=2∧(x.op=2->x.kids.length=0) ∧ ∀ k∈x.kids,ZE n k=true:=by
 rw [ZE] at h;simp only [Bool.and_eq_true,decide_eq_true_eq] at h;obtain ⟨h1,h2⟩:=h;refine ⟨?_,fun he => ?_,?_⟩
 ·unfold q1c at h1;(repeat' split at h1)<;>omega
 ·unfold q1c at h1;rw [if_pos (by omega)] at h1;omega
 ·by_cases h3:x.op=1
  ·have:x.kids.length=0:=by unfold q1c at h1;rw [if_pos (by omega)] at h1;omega
   rw [List.eq_nil_of_length_eq_zero this];simp
  ·by_cases h4:x.op=2
   ·have:x.kids.length=0:=by unfold q1c at h1;rw [if_pos (by omega)] at h1;omega
    rw [List.eq_nil_of_length_eq_zero this];simp
   ·rw [if_neg h3,if_neg h4] at h2;simp only [Bool.and_eq_true] at h2;exact List.all_eq_true.1 h2.2
theorem w0q : ∀ (n:Nat) (x:X) (out:List Str),ZE n x=true->out.length<=(x6j x out).length∧(x6j x out).length<=out.length+2 ^ n:=by
 intro n;induction n with
 | zero=>intro x out h;rw [ZE] at h;cases h
 | succ n ih =>
   intro x out h;obtain ⟨h1,h2,h3⟩:=q0w h;have key : ∀ (l:List X) (o:List Str),(∀ k∈l,ZE n k=true)->o.length<=(GE l o).length∧(GE l o).length<=o.length+l.length*2 ^ n:=by
    intro l;induction l with
    | nil=>intro o _;simp [GE]
    | cons k r ihl =>
      intro o hk;rw [GE];have h5:=ih k o (hk k (by simp));have h6:=ihl (x6j k o) fun k hk'=>hk k (by simp [hk']);simp only [length_cons,Nat.add_mul,Nat.one_mul];omega
   rw [x7u];have hp:2 ^ (n+1)=2*2 ^ n:=by rw [Nat.pow_succ];omega
   have hpos:0<2 ^ n:=Nat.pow_pos (by decide);have h4:=key x.kids (if x.op=2∧(out.any fun s=>x.name==s)=false then out++[x.name] else out) h3;have h5:x.kids.length*2 ^ n<=2*2 ^ n:=Nat.mul_le_mul_right _ h1;split at h4
   ·rename_i hc;have:=h2 hc.1;rw [this] at h4;rw [if_pos hc];simp only [length_append,List.length_singleton] at h4;omega
   ·rename_i hc;rw [if_neg hc];omega
def z5y (t:Nat) (out:List Str):Heap:=[(2000,.own t 1 (out.map .str))]
theorem x8w : ∀ (n:Nat) (_:n<=20) (x:X) (_:ZE n x=true) (out:List Str) (_:out.length+2 ^ n<=1073741824),
  SpecH Tryz.prog 262 [.p (.agg x.cells),.hd 2000 0 out.length] (z5y 9 out) (fun r H=>r = .hd 2000 0 (x6j x out).length∧H=z5y 9 (x6j x out)):=by
 intro n;induction n with
 | zero=>intro _ x h;rw [ZE] at h;cases h
 | succ n ih =>
   intro hn x hx out ho;have hp:2 ^ (n+1)=2*2 ^ n:=by rw [Nat.pow_succ];omega
   have hpos:0<2 ^ n:=Nat.pow_pos (by decide);obtain ⟨hk1,hk2,hk3⟩:=q0w hx;have hxl:=X.avs_len x.kids;refine sH x0g Tryz.func262 rfl Tryz.call262 ?_;conv=>whnf
   repeat' (first|((first|(refine iM fun _=>?_)|refine And.intro rfl ?_|refine aD ?_|refine bP ?_|(refine QI (QX out x.name) (.cons (.hd rfl (by simp)) (.cons (.p (Sub.refl _)) .nil)) (by rintro _ rfl;rfl) ?_;rintro _ rfl)|refine AppK.mk (by simp) rfl (by show (out.length+1)*16<=140737488355328;omega) (by show out.length+1<=9223372036854775807;omega) (fun x hx=>by rcases List.mem_singleton.1 hx with rfl;exact ⟨rfl,rfl⟩) ?_);conv=>whnf)|(apply bD<;>intro _<;>first|omega|conv=>whnf)|(apply bN<;>intro _<;>conv=>whnf))
   all_goals
    have hmul : ∀ j,j<x.kids.length->(x.kids.length-j)*2 ^ n=(x.kids.length-(j+1))*2 ^ n+2 ^ n:=fun j hj=>by
     rw [show x.kids.length-j=(x.kids.length-(j+1))+1 by omega,Nat.add_mul,Nat.one_mul]
    have hmul0:x.kids.length*2 ^ n<=2*2 ^ n:=Nat.mul_le_mul_right _ hk1;first
    | refine LoopK.inv QV (fun i:Nat×List Str=>⟨[(1,.hd 2000 0 i.2.length),(23,.p (.sl (X.avs x.kids))),(24,.p (.int .i64 (X.avs x.kids).length)),(25,.p (.int .i64 i.1))],z5y 9 i.2⟩) (fun i=>i.1<=x.kids.length∧GE (x.kids.drop i.1) i.2=x6j x out∧i.2.length+(x.kids.length-i.1)*2 ^ n<=1073741824) (fun i=>x.kids.length-i.1) (0,out++[x.name]) (Le.of_eq (by simp [z5y];exact ⟨rfl,rfl⟩)) ⟨zero_le _,by simp only [drop_zero];rw [x7u,if_pos ⟨by assumption,by assumption⟩],by have:=hk2 (by assumption);simp [this];omega⟩ ?_
    | refine LoopK.inv QV (fun i:Nat×List Str=>⟨[(1,.hd 2000 0 i.2.length),(23,.p (.sl (X.avs x.kids))),(24,.p (.int .i64 (X.avs x.kids).length)),(25,.p (.int .i64 i.1))],z5y 9 i.2⟩) (fun i=>i.1<=x.kids.length∧GE (x.kids.drop i.1) i.2=x6j x out∧i.2.length+(x.kids.length-i.1)*2 ^ n<=1073741824) (fun i=>x.kids.length-i.1) (0,out) (Le.of_eq rfl) ⟨zero_le _,by simp only [drop_zero];rw [x7u,if_neg (by simp [*])],by simp only [Nat.sub_zero];omega⟩ ?_
    rintro ⟨j,acc⟩ ⟨h2,h3,h4⟩;simp only at h2 h3 h4 ⊢;conv=>whnf
    repeat' (first|((first|refine And.intro rfl ?_|refine IdxK.xs (by omega) ?_);conv=>whnf)|(apply bD<;>intro _<;>first|omega|conv=>whnf))
    all_goals first
     | (rw [z7f (by omega)] at h3
        exact ⟨_,.refl _,by rw [h3];exact ⟨rfl,rfl⟩⟩)
     | (have hj:j<x.kids.length:=by omega
        have hm:=hmul j hj;have hg:=w0q n x.kids[j] acc (hk3 _ (List.getElem_mem hj));refine CallK.heap [(2000,2000)] 0 (by repeat' (first|exact ArgsH.nil|refine ArgsH.cons ?_ ?_|exact LSub.refl _|exact LSub.p Sub.nils|exact LSub.p (Sub.tt rfl)|exact LSub.p (Sub.ff rfl)|exact LSub.p (Sub.int (by omega)))) (by refine BlksH.cons (j:=2000) rfl rfl ?_ ?_;exact CSub.refl _;exact BlksH.nil) (ih (by omega) x.kids[j] (hk3 _ (List.getElem_mem hj)) acc (by omega)) rfl rfl ?_;rintro l' H' ⟨rfl,rfl⟩;conv=>whnf
        refine wI ?_;conv=>whnf
        exact ⟨(j+1,x6j x.kids[j] acc),⟨by simp only;omega,by simp only;rw [<- h3,z3n hj],by simp only;omega⟩,by simp only;omega,Le.of_eq rfl⟩)
def VS (x:X):List Str:=bif w1h x then x6j x [] else []
theorem FY (x:X):(VS x).length<=1048576:=by
 unfold VS;cases h:w1h x with
 | false=>simp
 | true =>
   have:=(w0q 20 x [] h).2;simpa using this
theorem q7e (x:X):SpecP Tryz.prog 211 [.agg x.cells] (fun r=>r=QP (VS x)):=by
 refine sB x4q Tryz.func211 rfl Tryz.call211 ?_;conv=>whnf
 repeat' (first|(refine cP (FZ _) ?_;conv=>whnf)|(apply bN<;>intro _<;>conv=>whnf))
 ·refine CallK.nil 5 9 1 rfl (.cons rfl (.row .nil)) ?_;refine CallK.heap [(2000,5)] 0 (by repeat' (first|exact ArgsH.nil|refine ArgsH.cons ?_ ?_|exact LSub.refl _|exact LSub.p Sub.nils|exact LSub.p (Sub.tt rfl)|exact LSub.p (Sub.ff rfl)|exact LSub.p (Sub.int (by omega)))) (by refine BlksH.cons (j:=5) rfl rfl ?_ ?_;exact CSub.refl _;exact BlksH.nil) (x8w 20 (by omega) x (by assumption) [] (by simp)) rfl rfl ?_;rintro l' H' ⟨rfl,rfl⟩;conv=>whnf
  refine ⟨_,.hd rfl (by simp),?_⟩;unfold VS;rw [show w1h x=true by assumption];rfl
 ·refine ⟨_,.p Sub.nils,?_⟩;unfold VS;rw [show w1h x=false by assumption];rfl
def JI (a:Arg):List Str:=(bif a.ref then [a.name] else [])++VS a.x
def GJ (t:S):List Str:=(bif t.kind≠10 && !(t.name==[]) then [t.name] else [])++VS t.x
def ZX (t:S):List Str:=GJ t++t.args.flatMap JI
theorem z3f (a:Arg):(JI a).length<=1048577:=by
 have:=FY a.x;unfold JI;cases a.ref<;>simp<;>omega
theorem z4k (t:S):(GJ t).length<=1048577:=by
 have:=FY t.x;unfold GJ;cases (t.kind≠10 && !(t.name==[]):Bool)<;>simp<;>omega
theorem q3h {α β:Type} {f:α->List β} {c:Nat} (h : ∀ a,(f a).length<=c) : ∀ l:List α,(l.flatMap f).length<=l.length*c
 | []=>by simp
 | x::r=>by
   have:=q3h h r;have:=h x;simp only [List.flatMap_cons,length_append,length_cons,Nat.add_mul,Nat.one_mul];omega
def z4e (t:S) (j:Nat):List Str:=GJ t++(t.args.take j).flatMap JI
theorem w3f (t:S) {j:Nat} (h:j<=t.args.length) (ha:t.args.length<=20000):(z4e t j).length<=21000000000:=by
 have h1:=z4k t;have h2:=q3h z3f (t.args.take j);have h3:(t.args.take j).length*1048577<=20000*1048577:=Nat.mul_le_mul_right _ (by simp;omega);unfold z4e;simp only [length_append];omega
theorem z5e {t:S} {j:Nat} (hj:j<t.args.length):z4e t (j+1)=z4e t j++JI t.args[j]:=by
 unfold z4e;rw [List.take_succ_eq_append_getElem hj,List.flatMap_append,List.append_assoc];simp
def q7c (t:S) (tS:Nat) (j:Nat):St:=⟨[(3,.hd 0 0 (z4e t j).length),(25,.p (.sl (t.args.map fun a => .agg a.cells))),(26,.p (.int .i64 (t.args.map fun a=>AV.agg a.cells).length)),(27,.p (.int .i64 j))],[(0,.own tS 1 ((z4e t j).map .str))]⟩
theorem q8n (t:S) (ha:t.args.length<=20000):SpecP Tryz.prog 251 [.agg t.cells] (fun r=>r=QP (ZX t)):=by
 refine sB x5h Tryz.func251 rfl Tryz.call251 ?_;conv=>whnf
 repeat' (first|((first|(refine iM fun _=>?_)|refine cP (q7e _) ?_|refine And.intro rfl ?_|refine aD ?_|refine bP ?_|refine MZ _ (by simp) (by have:=FY t.x;simp;omega) ?_|refine UX (by simp) (by simp) ?_);conv=>whnf)|(apply bE<;>intro _<;>first|omega|conv=>whnf)|(apply bN<;>intro _<;>conv=>whnf))
 all_goals
  have hl:(t.args.map fun a=>AV.agg a.cells).length=t.args.length:=length_map _;refine LoopK.inv QV (q7c t 9) (fun j=>j<=t.args.length) (fun j=>t.args.length-j) 0 (Le.of_eq ?_) (zero_le _) ?_
  ·first
    | (have e:z4e t 0=VS t.x:=by simp [z4e,GJ,show t.kind=10 by assumption]
       rw [q7c,e];simp only [Nat.zero_add,length_map,length_append,List.map_append,nil_append];rfl)
    | (have e:z4e t 0=VS t.x:=by simp [z4e,GJ,show t.name=[] by simpa using (show (t.name==[])=true by assumption)]
       rw [q7c,e];simp only [Nat.zero_add,length_map,length_append,List.map_append,nil_append];rfl)
    | (have e:z4e t 0=[t.name]++VS t.x:=by
        have:(t.name==[])=false:=by assumption
        simp [z4e,GJ,show ¬t.kind=10 by assumption,this]
       rw [q7c,e];simp only [Nat.zero_add,length_map,length_append,List.map_append,nil_append];rfl)
  intro j h2;have hacc:=w3f t h2 ha;conv=>whnf
  repeat' (first|((first|refine cP (q7e _) ?_|refine And.intro rfl ?_|refine aD ?_|refine bP ?_|(refine iA fun _=>?_)|refine wI ?_|refine MZ _ (by simp) (by have:=FY (t.args[j]'(by omega)).x;simp;omega) ?_|refine UX (by simp) (by simp;omega) ?_);conv=>whnf)|(apply bD<;>intro _<;>first|omega|conv=>whnf)|(apply bB<;>intro _<;>conv=>whnf))
  all_goals first
   | exact ⟨_,.hd rfl (by simp),by
      have:t.args.take j=t.args:=take_of_length_le (by omega);rw [ZX,<- this];rfl⟩
   | (have hj:j<t.args.length:=by omega
      have hst:=z5e hj;refine ⟨j+1,by show j+1<=_;omega,by show t.args.length-(j+1)<t.args.length-j;omega,Le.of_eq ?_⟩;first
       | (have hn:JI t.args[j]=[t.args[j].name]++VS t.args[j].x:=by rw [JI,show t.args[j].ref=true by assumption];rfl
          rw [q7c,hst,hn];simp only [length_append,List.map_append,length_map,<- List.append_assoc,<- Nat.add_assoc];rfl)
       | (have hn:JI t.args[j]=VS t.args[j].x:=by rw [JI,show t.args[j].ref=false by assumption];rfl
          rw [q7c,hst,hn];simp only [length_append,List.map_append,length_map];rfl))
def z5u:List Str->Nat
 | []=>0
 | s::r=>1+z5u r
mutual
def wX:X->Nat
 | .mk _ _ name kids=>1+wXs kids
def wXs:List X->Nat
 | []=>0
 | x::r=>wX x+wXs r
end
def q1k:List Arg->Nat
 | []=>0
 | a::r=>wX a.x+1+q1k r
mutual
def wS:S->Nat
 | .mk _ _ labels name proc x _ args thn els=>wX x+z5u labels+1+1+q1k args+wL thn+wL els
def wL:List S->Nat
 | []=>0
 | s::r=>wS s+wL r
end
def w9v:List Param->Nat
 | []=>0
 | a::r=>1+w9v r
def wPr (f:Pr):Nat:=1+z5u f.vars+z5u f.fin+w9v f.params+wL f.body
def w8h:List Pr->Nat
 | []=>0
 | f::r=>wPr f+w8h r
def wPg (p:Pg):Nat:=z5u p.globals+w8h p.procs
def Fit (p:Pg):Prop:=wPg p<=20000
theorem FU : ∀ l:List Str,l.length<=z5u l
 | []=>zero_le _
 | s::r=>by have:=FU r;simp only [length_cons,z5u];omega
theorem HJ : ∀ l:List Arg,l.length<=q1k l
 | []=>zero_le _
 | s::r=>by have:=HJ r;simp only [length_cons,q1k];omega
theorem x9x : ∀ l:List Param,l.length<=w9v l
 | []=>zero_le _
 | s::r=>by have:=x9x r;simp only [length_cons,w9v];omega
theorem x7g (s:S):wS s=wX s.x+z5u s.labels+1+1+q1k s.args+wL s.thn+wL s.els:=by
 cases s;rw [wS];rfl
mutual
theorem v0n : ∀ s:S,XB s<=wS s
 | .mk id kind labels name proc x has args thn els=>by
   have:=x2h thn;have:=x2h els;rw [XB,wS];omega
theorem x2h : ∀ l:List S,cntL l<=wL l
 | []=>by rw [cntL,wL];exact Nat.le_refl _
 | s::r=>by
   have:=v0n s;have:=x2h r;rw [cntL,wL];omega
end
theorem x8j : ∀ {l:List Pr} {f:Pr},f∈l->wPr f<=w8h l
 | g::r,f,h=>by
   simp only [w8h];rcases List.mem_cons.1 h with rfl|h
   ·omega
   ·have:=x8j h;omega
theorem Fit.pr {p:Pg} (h:Fit p) {f:Pr} (hf:f∈p.procs):wPr f<=20000:=by
 have:=x8j hf;unfold Fit wPg at h;omega
mutual
def flS:S->List S
 | .mk id kind labels name proc x has args thn els => .mk id kind labels name proc x has args thn els::(flL thn++flL els)
def flL:List S->List S
 | []=>[]
 | s::r=>flS s++flL r
end
theorem q7p (s:S):flS s=s::(flL s.thn++flL s.els):=by
 cases s;rw [flS];rfl
mutual
theorem w9d : ∀ s:S,(flS s).length=XB s
 | .mk id kind labels name proc x has args thn els=>by
   rw [flS,XB,length_cons,length_append,q3o thn,q3o els];omega
theorem q3o : ∀ l:List S,(flL l).length=cntL l
 | []=>by rw [flL,cntL];rfl
 | s::r=>by rw [flL,cntL,length_append,w9d s,q3o r]
end
mutual
theorem v4b : ∀ (s t:S),t∈flS s->wS t<=wS s
 | .mk id kind labels name proc x has args thn els,t,h=>by
   rw [flS] at h;rcases List.mem_cons.1 h with rfl|h
   ·exact Nat.le_refl _
   ·rw [wS];rcases List.mem_append.1 h with h|h
    ·have:=x3g thn t h;omega
    ·have:=x3g els t h;omega
theorem x3g : ∀ (l:List S) (t:S),t∈flL l->wS t<=wL l
 | [],t,h=>by rw [flL] at h;cases h
 | s::r,t,h=>by
   rw [flL] at h;rw [wL];rcases List.mem_append.1 h with h|h
   ·have:=v4b s t h;omega
   ·have:=x3g r t h;omega
end

mutual
def itS (proc up nx loop:Int) (n:Nat):S->List Item
 | .mk id kind labels name pr x has args thn els =>
   ⟨.mk id kind labels name pr x has args thn els,proc,up,nx,loop⟩::(itL proc (n+1) (if kind=6 then n+1 else nx) (if kind=6 then n+1 else loop) (n+1) thn ++
     itL proc (n+1) (if kind=6 then n+1 else nx) (if kind=6 then n+1 else loop) (n+1+cntL thn) els)
def itL (proc up nx loop:Int) (n:Nat):List S->List Item
 | []=>[]
 | t::r=>itS proc up (if r.isEmpty then nx else n+1+XB t) loop n t++itL proc up nx loop (n+XB t) r
end
theorem z8h (proc up nx loop:Int) (n:Nat) (t:S):itS proc up nx loop n t=⟨t,proc,up,nx,loop⟩::(itL proc (n+1) (if t.kind=6 then n+1 else nx) (if t.kind=6 then n+1 else loop) (n+1) t.thn ++
   itL proc (n+1) (if t.kind=6 then n+1 else nx) (if t.kind=6 then n+1 else loop) (n+1+cntL t.thn) t.els):=by
 cases t;rw [itS];rfl
mutual
theorem w7o (proc up nx loop:Int) : ∀ (t:S) (acc:List Item),q2x proc up nx loop acc t=acc++itS proc up nx loop acc.length t
 | .mk id kind labels name pr x has args thn els,acc=>by
   rw [q2x,itS,PO _ _ _ _ thn,PO _ _ _ _ els];simp only [length_append,length_cons,List.length_nil,List.append_assoc,List.cons_append,nil_append,XO proc _ _ _ _ thn,Nat.zero_add,Nat.add_assoc,Nat.add_comm (cntL thn) 1]
theorem PO (proc up nx loop:Int) : ∀ (l:List S) (acc:List Item),XG proc up nx loop acc l=acc++itL proc up nx loop acc.length l
 | [],acc=>by rw [XG,itL,List.append_nil]
 | t::r,acc=>by
   rw [XG,itL,w7o _ _ _ _ t,PO _ _ _ _ r];simp only [length_append,List.append_assoc,x7f proc _ _ _ _ t]
theorem x7f (proc up nx loop:Int) (n:Nat) : ∀ t:S,(itS proc up nx loop n t).length=XB t
 | .mk id kind labels name pr x has args thn els=>by
   rw [itS,XB,length_cons,length_append,XO _ _ _ _ _ thn,XO _ _ _ _ _ els];omega
theorem XO (proc up nx loop:Int) (n:Nat) : ∀ l:List S,(itL proc up nx loop n l).length=cntL l
 | []=>by rw [itL,cntL];rfl
 | t::r=>by rw [itL,cntL,length_append,x7f _ _ _ _ _ t,XO _ _ _ _ _ r]
end
mutual
theorem v3w (proc up nx loop:Int) (n:Nat) : ∀ t:S,(itS proc up nx loop n t).map Item.s=flS t
 | .mk id kind labels name pr x has args thn els=>by
   rw [itS,flS,List.map_cons,List.map_append,DW _ _ _ _ _ thn,DW _ _ _ _ _ els]
theorem DW (proc up nx loop:Int) (n:Nat) : ∀ l:List S,(itL proc up nx loop n l).map Item.s=flL l
 | []=>by rw [itL,flL];rfl
 | t::r=>by rw [itL,flL,List.map_append,v3w _ _ _ _ _ t,DW _ _ _ _ _ r]
end
def QD:List Pr->Nat->Nat
 | _,0=>0
 | [],_+1=>0
 | f::r,i+1=>cntL f.body+QD r i
theorem x3b : ∀ (l:List Pr) (i:Nat) (acc:List Item) (lo hi:List Int),lo.length=i->hi.length=i ->
  (q6q i acc lo hi l).2.1.length=i+l.length∧(q6q i acc lo hi l).2.2.length=i+l.length ∧
  (∀ k,k<i->(q6q i acc lo hi l).2.1[k]? = lo[k]? ∧ (q6q i acc lo hi l).2.2[k]? = hi[k]?) ∧ ∃ L,(q6q i acc lo hi l).1=acc++L∧L.length=cntP l ∧
  ∀ (k:Nat) (f:Pr),l[k]? = some f->(q6q i acc lo hi l).2.1[i+k]? = some ((acc.length+QD l k:Nat)+1:Int)∧(q6q i acc lo hi l).2.2[i+k]? = some ((acc.length+QD l k+cntL f.body:Nat)+1:Int) ∧
   QD l k+cntL f.body<=cntP l∧(L.take (QD l k+cntL f.body)).drop (QD l k)=itL (i+k:Nat) 0 (-1) 0 (acc.length+QD l k) f.body
 | [],i,acc,lo,hi,h1,h2=>by
   rw [q6q];exact ⟨by simpa using h1,by simpa using h2,fun _ _=>⟨rfl,rfl⟩,[],by simp,rfl,fun k f h=>by simp at h⟩
 | f::r,i,acc,lo,hi,h1,h2=>by
   rw [q6q];have hrow:=PO i 0 (-1) 0 f.body acc;have hlen:=XY i 0 (-1) 0 acc f.body;obtain ⟨h3,h4,h5,L,h6,h7,h8⟩:=x3b r (i+1) (XG i 0 (-1) 0 acc f.body) (lo++[(acc.length:Int)+1]) (hi++[((XG i 0 (-1) 0 acc f.body).length:Int)+1]) (by simp [h1]) (by simp [h2]);refine ⟨by rw [h3,length_cons];omega,by rw [h4,length_cons];omega,fun k hk => ?_,itL i 0 (-1) 0 acc.length f.body++L,?_,?_,fun k g hg => ?_⟩
   ·obtain ⟨h9,h10⟩:=h5 k (by omega);rw [h9,h10,List.getElem?_append_left (by omega),List.getElem?_append_left (by omega)];exact ⟨rfl,rfl⟩
   ·rw [h6,hrow,List.append_assoc]
   ·rw [length_append,h7,XO,cntP]
   ·cases k with
    | zero =>
      simp only [List.getElem?_cons_zero,Option.some.injEq] at hg;subst hg;obtain ⟨h9,h10⟩:=h5 i (by omega);simp only [Nat.add_zero,QD,Nat.zero_add,drop_zero];refine ⟨?_,?_,?_,?_⟩
      ·rw [h9,List.getElem?_append_right (by omega),h1];simp
      ·rw [h10,List.getElem?_append_right (by omega),h2,hlen];simp
      ·rw [cntP];omega
      ·rw [List.take_append_of_le_length (by rw [XO];omega),take_of_length_le (by rw [XO];omega)]
    | succ k =>
      simp only [List.getElem?_cons_succ] at hg;obtain ⟨h9,h10,h11,h12⟩:=h8 k g hg;rw [hlen] at h12;simp only [QD];refine ⟨?_,?_,?_,?_⟩
      ·rw [show i+(k+1)=i+1+k by omega,h9,hlen];congr 2;omega
      ·rw [show i+(k+1)=i+1+k by omega,h10,hlen];congr 2;omega
      ·rw [cntP];omega
      ·rw [List.take_append,List.drop_append,XO,take_of_length_le (by rw [XO];omega),drop_eq_nil_of_le (by rw [XO];omega),nil_append];simp only [XO];rw [show cntL f.body+QD r k+cntL g.body-cntL f.body=QD r k+cntL g.body by omega,show cntL f.body+QD r k-cntL f.body=QD r k by omega,h12];rw [show i+(k+1)=i+1+k by omega,show acc.length+(cntL f.body+QD r k)=acc.length+cntL f.body+QD r k by omega]
theorem QU (p:Pg):(sheetOf p).p=p∧(sheetOf p).lo.length=p.procs.length∧(sheetOf p).hi.length=p.procs.length∧(sheetOf p).l.length=cntP p.procs ∧
  ∀ (k:Nat) (f:Pr),p.procs[k]? = some f->(sheetOf p).lo[k]? = some ((QD p.procs k:Nat)+1:Int)∧(sheetOf p).hi[k]? = some ((QD p.procs k+cntL f.body:Nat)+1:Int) ∧
   QD p.procs k+cntL f.body<=cntP p.procs∧((sheetOf p).l.take (QD p.procs k+cntL f.body)).drop (QD p.procs k)=itL k 0 (-1) 0 (QD p.procs k) f.body:=by
 obtain ⟨h3,h4,_,L,h6,h7,h8⟩:=x3b p.procs 0 [] [] [] rfl rfl;refine ⟨rfl,by unfold sheetOf;simpa using h3,by unfold sheetOf;simpa using h4,by unfold sheetOf;simp [h6,h7],fun k f hk => ?_⟩;have:=h8 k f hk;unfold sheetOf;simp only [h6,nil_append,List.length_nil,Nat.zero_add] at this ⊢;exact this
mutual
theorem z2w (nest seen:Int) : ∀ (s:S) {m:Int},x0m nest seen s=some m->m=seen+XB s
 | .mk id kind labels name proc x has args thn els,m,h=>by
   simp only [x0m] at h;split at h
   ·cases h
   split at h
   ·cases h
   cases hn:namesB labels<;>rw [hn] at h
   ·cases h
   cases hf:ZH (.mk id kind labels name proc x has args thn els)<;>rw [hf] at h
   ·cases h
   simp only [cond_true] at h;split at h
   ·rename_i m1 h1;have h2:=YM (nest+1) (seen+1) thn h1;have h3:=YM (nest+1) m1 els h;rw [XB];omega
   ·cases h
theorem YM (nest seen:Int) : ∀ (l:List S) {m:Int},VH nest seen l=some m->m=seen+cntL l
 | [],m,h=>by
   simp only [VH] at h;cases h;rw [cntL];simp
 | s::r,m,h=>by
   simp only [VH] at h;split at h
   ·cases h
   split at h
   ·rename_i m1 h1;have h2:=z2w nest seen s h1;have h3:=YM nest m1 r h;rw [cntL];omega
   ·cases h
end
theorem q7h : ∀ (l:List Pr) {seen m:Int},seen<=200->XP seen l=some m->m=seen+cntP l∧m<=200
 | [],seen,m,h0,h=>by rw [XP] at h;cases h;simp [cntP];exact h0
 | f::r,seen,m,h0,h=>by
   rw [XP] at h;cases hm:HA f<;>rw [hm] at h
   ·cases h
   simp only [cond_true] at h;split at h
   ·rename_i m1 h1;have h2:=YM 1 seen f.body h1;have h3:=q5j 1 seen f.body h0 h1;have h4:=q7h r (by omega) h;rw [cntP];omega
   ·cases h
theorem WD {p:Pg} (h:KG p=true):p.globals.length<=16∧p.procs.length<=16∧cntP p.procs<=200:=by
 unfold KG at h;simp only [Bool.and_eq_true,decide_eq_true_eq] at h;obtain ⟨⟨⟨h1,h2⟩,_⟩,h3⟩:=h;cases hm:XP 0 p.procs with
 | none=>rw [hm] at h3;cases h3
 | some m =>
   have:=q7h p.procs (by decide) hm;omega
theorem z8f {p:Pg} (h:KG p=true) {f:Pr} (hf:f∈p.procs):HA f=true:=by
 unfold KG at h;simp only [Bool.and_eq_true] at h;have h3:=h.2;have key : ∀ (l:List Pr) (seen:Int),(XP seen l).isSome=true -> ∀ f∈l,HA f=true:=fun l=>by
  induction l with
  | nil=>intro _ _ f hf;cases hf
  | cons g r ih =>
    intro seen h f hf;rw [XP] at h;cases hm:HA g<;>rw [hm] at h
    ·cases h
    simp only [cond_true] at h;split at h
    ·rename_i m1 h1;rcases List.mem_cons.1 hf with rfl|hf
     ·exact hm
     ·exact ih _ h f hf
    ·cases h
 exact key _ _ h3 f hf
def q1v (p:Pg) (f:Pr) (name:Str):Int :=
 match f.params.find? (fun a=>a.name==name) with
 | some a=>bif a.ref then 3 else 2
 | none=>bif f.vars.any (fun s=>name==s) then 4 else bif p.globals.any (fun s=>name==s) then 1 else 0
theorem MC {α:Type} {l:List α} {p:α->Bool} {j:Nat} (hj:j<l.length) (h:p l[j]=false):(l.drop (j+1)).find? p=(l.drop j).find? p:=by
 rw [QG hj,List.find?_cons,h]
theorem FD {α:Type} {l:List α} {p:α->Bool} {j:Nat} (hj:j<l.length) (h:p l[j]=true):(l.drop j).find? p=some l[j]:=by
 rw [QG hj,List.find?_cons,h]
theorem FC {α:Type} {l:List α} {p:α->Bool} {j:Nat} (hj:l.length<=j):(l.drop j).find? p=none:=by
 rw [drop_eq_nil_of_le hj];rfl
theorem z4t (p:Pg) (f:Pr) (name:Str):SpecP Tryz.prog 107 [.agg p.cells,.agg f.cells,.str name] (fun r=>r = .int .i64 (q1v p f name)):=by
 refine sB x5j Tryz.func107 rfl Tryz.call107 ?_;conv=>whnf
 repeat' (refine iM fun _=>?_;conv=>whnf)
 have hl:(f.params.map fun a=>AV.agg a.cells).length=f.params.length:=length_map _;refine LoopK.inv QV (fun j:Nat=>⟨[(2,.p (.str name)),(3,.p (.ip p.cells)),(4,.p (.ip f.cells)),(10,.p (.sl (f.params.map fun a => .agg a.cells))),(11,.p (.int .i64 (f.params.map fun a=>AV.agg a.cells).length)),(12,.p (.int .i64 j))],[]⟩) (fun j=>j<=f.params.length∧(f.params.drop j).find? (fun a=>a.name==name)=f.params.find? (fun a=>a.name==name)) (fun j=>f.params.length-j) 0 (Le.of_eq rfl) ⟨zero_le _,rfl⟩ ?_;rintro j ⟨h2,h3⟩;conv=>whnf
 repeat' (first|((first|refine cP (QX _ _) ?_|refine And.intro rfl ?_|(refine iA fun _=>?_)|refine wI ?_);conv=>whnf)|(apply bD<;>intro _<;>first|omega|conv=>whnf)|(apply bB<;>intro _<;>conv=>whnf))
 all_goals try have hj:j<f.params.length:=by omega
 all_goals first
  | (exfalso
     have h8:((f.params[j]'(by omega)).name==name)=true:=by assumption
     have h9:((f.params[j]'(by omega)).name==name)=false:=by assumption
     rw [h8] at h9;cases h9)
  | (have e:=FD (p:=fun a:Param=>a.name==name) (by omega) (by assumption)
     rw [h3] at e;exact RetK.int (by unfold q1v;rw [e];simp [*]))
  | (refine ⟨j+1,⟨by omega,by rw [<- h3,MC (p:=fun a:Param=>a.name==name) (by omega) (by assumption)]⟩,by omega,Le.of_eq rfl⟩)
  | (have e:f.params.find? (fun a=>a.name==name)=none:=by rw [<- h3,FC (by omega)]
     exact RetK.int (by unfold q1v;rw [e];simp [*]))
def mainS:Str:=[109,97,105,110]
def knownB (p:Pg) (f:Pr) (procs:List Str) (t:S):Bool:=(ZX t).all (fun n => !(q1v p f n==0))&&(decide (t.kind≠4)||(!(t.proc==mainS)&&procs.any fun s=>t.proc==s))
theorem x7i (p:Pg) (f:Pr) (procs:List Str) (t:S) (ha:t.args.length<=20000):SpecP Tryz.prog 196 [.agg p.cells,.agg f.cells,QP procs,.agg t.cells] (fun r=>r = .bool (knownB p f procs t)):=by
 refine sB x0p Tryz.func196 rfl Tryz.call196 ?_;conv=>whnf
 repeat' ((first|(refine iM fun _=>?_)|refine cP (q8n _ ha) ?_);conv=>whnf)
 have hl:((ZX t).map AV.str).length=(ZX t).length:=length_map _;refine LoopK.inv QV (fun j:Nat=>⟨[(2,.p (QP procs)),(4,.p (.ip p.cells)),(5,.p (.ip f.cells)),(7,.p (.ip t.cells)),(12,.p (QP (ZX t))),(13,.p (.int .i64 ((ZX t).map AV.str).length)),(14,.p (.int .i64 j))],[]⟩) (fun j=>j<=(ZX t).length∧((ZX t).drop j).all (fun n => !(q1v p f n==0))=(ZX t).all (fun n => !(q1v p f n==0))) (fun j=>(ZX t).length-j) 0 (Le.of_eq rfl) ⟨zero_le _,rfl⟩ ?_;rintro j ⟨h2,h3⟩;conv=>whnf
 repeat' (first|((first|refine cP (z4t _ _ _) ?_|refine cP (QX _ _) ?_|(refine iA fun _=>?_)|refine wI ?_);conv=>whnf)|(apply bD<;>intro _<;>first|omega|conv=>whnf)|(apply bE<;>intro _<;>first|omega|conv=>whnf)|(apply bN<;>intro _<;>conv=>whnf))
 ·exact RetK.ff (by
   have e:=q8j (p:=fun n => !(q1v p f n==0)) (l:=ZX t) (j:=j) (by omega) (by simp;assumption);rw [knownB,<- h3,e,Bool.false_and])
 ·exact ⟨j+1,⟨by omega,by rw [<- h3,q2a (p:=fun n => !(q1v p f n==0)) (by omega) (by simp;assumption)]⟩,by omega,Le.of_eq rfl⟩
 all_goals
  have e:(ZX t).all (fun n => !(q1v p f n==0))=true:=by rw [<- h3,q2e (by omega)]
 ·exact RetK.ff (by
   have h8:(t.proc==mainS)=true:=by assumption
   rw [knownB,e,h8];simp [*])
 ·exact RetK.bool (by
   have h8:(t.proc==mainS)=false:=by assumption
   rw [knownB,e,h8];simp [*])
 ·exact RetK.tt (by rw [knownB,e];simp [*])
def q8k (c at_:Int):AV := .agg [.int .i64 c,.int .i64 at_]
def procsN (p:Pg):List Str:=p.procs.map Pr.name
def XR (p:Pg):Bool:=ZW p.globals||(ZW (procsN p)||(!((procsN p).any fun s=>mainS==s)||match p.procs.find? (fun f=>mainS==f.name) with
 | some f=>decide (0<f.params.length)
 | none=>true))
def WX (p:Pg) (f:Pr):Option Int :=
 bif ZW (MJ f)||(MJ f).any (fun n=>p.globals.any fun s=>n==s) then some 0 else ((flL f.body).find? fun t => !knownB p f (procsN p) t).map S.id
def QE (p:Pg):Int×Int :=
 bif KG p then bif XR p then (5,0) else match p.procs.findSome? (WX p) with
  | some a=>(5,a)
  | none=>(0,0)
 else (1,0)
theorem z0a {α:Type} {l:List α} {p:α->Bool} (h:l.any p=true) : ∃ (k:Nat) (hk:k<l.length),idxF p l=k∧p l[k]=true∧l.find? p=some l[k]:=by
 have h1:l.findIdx p<l.length:=by
  rw [List.findIdx_lt_length];exact List.any_eq_true.1 h
 refine ⟨l.findIdx p,h1,by unfold idxF;rw [h];rfl,List.findIdx_getElem,?_⟩;rw [List.find?_eq_some_iff_getElem];exact ⟨List.findIdx_getElem,l.findIdx p,h1,rfl,fun j hj=>by simpa using List.not_of_lt_findIdx hj⟩
theorem z1h {p:Pg} (h:(procsN p).any (fun s=>mainS==s)=true) : ∃ (k:Nat) (hk:k<p.procs.length),idxF (fun s=>mainS==s) (procsN p)=k∧p.procs.find? (fun f=>mainS==f.name)=some p.procs[k]:=by
 have h':p.procs.any (fun f=>mainS==f.name)=true:=by simpa [procsN,List.any_map,Function.comp_def] using h
 obtain ⟨k,hk,h1,_,h2⟩:=z0a h';refine ⟨k,hk,?_,h2⟩;rw [<- h1];unfold idxF;rw [h,h'];simp [procsN,List.findIdx_map,Function.comp_def]
theorem x8c (p:Pg) {j:Nat} {f:Pr} (hj:p.procs[j]? = some f) (hc:cntP p.procs<=1000):SpecP Tryz.prog 195 [.ip (sheetOf p).cells,.int .i64 j] (fun r=>r=YL (itL j 0 (-1) 0 (QD p.procs j) f.body)):=by
 obtain ⟨_,h2,h3,h4,h5⟩:=QU p;obtain ⟨h6,h7,h8,h9⟩:=h5 j f hj;have:=x1s (sheetOf p) j _ _ h6 h7 (by omega) (by omega) (by omega);rw [h9] at this;exact this
theorem ZI (l:List Item):(l.map fun i=>AV.agg i.cells).length=l.length:=length_map _
theorem q2s {α β:Type} {l:List α} {f:α->Option β} {j:Nat} (hj:j<l.length) (h:f l[j]=none):(l.drop (j+1)).findSome? f=(l.drop j).findSome? f:=by
 rw [QG hj,List.findSome?_cons,h]
theorem WL {α β:Type} {l:List α} {f:α->Option β} {j:Nat} {b:β} (hj:j<l.length) (h:f l[j]=some b):(l.drop j).findSome? f=some b:=by
 rw [QG hj,List.findSome?_cons,h]
theorem q0t {α β:Type} {l:List α} {f:α->Option β} {j:Nat} (hj:l.length<=j):(l.drop j).findSome? f=none:=by
 rw [drop_eq_nil_of_le hj];rfl
theorem FH {q:S->Bool} (l:List Item):(l.find? fun it=>q it.s).map (fun it=>it.s.id)=((l.map Item.s).find? q).map S.id:=by
 rw [List.find?_map];cases h:l.find? (q∘Item.s) with
 | none=>rw [show (l.find? fun it=>q it.s)=none from h];rfl
 | some i=>rw [show (l.find? fun it=>q it.s)=some i from h];rfl
theorem z7j {l:List Pr} {j:Nat} (hj:j<l.length) (h:wPr l[j]<=20000) {a b c d:Int} {n k:Nat} (hk:k<(itL a b c d n l[j].body).length):(itL a b c d n l[j].body)[k].s.args.length<=20000:=by
 have hm:(itL a b c d n l[j].body)[k].s∈flL l[j].body:=by
  rw [<- DW a b c d n];exact List.mem_map.2 ⟨_,List.getElem_mem hk,rfl⟩
 have h1:=x3g _ _ hm;have h2:=x7g (itL a b c d n l[j].body)[k].s;have h3:=HJ (itL a b c d n l[j].body)[k].s.args;unfold wPr at h;omega
theorem QL {H:Heap} {a b c d:Int} (h:a=c) (h':b=d):RetK H (.p (.agg [.int .i64 a,.int .i64 b])) (fun r=>r=q8k c d):=⟨_,.p (Sub.refl _),by rw [h,h'];rfl⟩
theorem YX (p:Pg) (hf:Fit p):SpecP Tryz.prog 124 [.agg p.cells] (fun r=>r=q8k (QE p).1 (QE p).2):=by
 refine sB x2z Tryz.func124 rfl Tryz.call124 ?_;conv=>whnf
 repeat' (first|((first|(refine iM fun _=>?_)|refine cP (x1x _) ?_|refine And.intro rfl ?_);conv=>whnf)|(apply bN<;>intro _<;>conv=>whnf))
 rotate_left 1
 ·exact QL (by simp [QE, *]) (by simp [QE, *])
 have hm:KG p=true:=by assumption
 obtain ⟨hg,hpl,hcn⟩:=WD hm;have hl:(p.procs.map fun f=>AV.agg f.cells).length=p.procs.length:=length_map _;have hnl:(procsN p).length=p.procs.length:=by simp [procsN]
 refine LoopK.inv QV (fun i:Nat×List Str=>⟨[(1,.p (.ip p.cells)),(2,.ptr 1 0),(3,.hd 0 0 i.2.length),(18,.p (.sl (p.procs.map fun f => .agg f.cells))),(19,.p (.int .i64 (p.procs.map fun f=>AV.agg f.cells).length)),(20,.p (.int .i64 i.1))],[(0,.own 9 1 (i.2.map .str)),(1,.obj 112 [.p (.int .i64 0),.p (.int .i64 0)])]⟩)
  (fun i=>i.1<=p.procs.length∧i.2=(procsN p).take i.1) (fun i=>p.procs.length-i.1) (0,[])
  (Le.mk [(0,.own 9 1 [])] (by simp [Chunk.new0];rfl) (by simp) (by simp) (.cons (.refl _) (.cons (.refl _) (.cons (.nil mem_cons_self) (.cons (.refl _) (.cons (.refl _) (.cons (.refl _) .nil)))))) (.new mem_cons_self (.cons rfl (.refl _) .nil)))
  ⟨zero_le _,by simp⟩ ?_
 rintro ⟨j,acc⟩ ⟨h2,h3⟩;simp only at h2 h3 ⊢;have hal:acc.length<=16:=by rw [h3];simp;omega
 conv=>whnf
 repeat' (first|((first|refine And.intro rfl ?_|refine aD ?_|refine bP ?_|(refine iA fun _=>?_)|refine wI ?_|refine UX (by simp) (by simp;omega) ?_|(refine QI (XX acc mainS) (.cons (.hd rfl (by simp)) (.cons (.p (Sub.refl _)) .nil)) (by rintro _ rfl;rfl) ?_;rintro _ rfl)|(refine QI (PW acc) (.cons (.hd rfl (by simp)) .nil) (by rintro _ rfl;rfl) ?_;rintro _ rfl)|refine cP (PW _) ?_);conv=>whnf)|(apply bD<;>intro _<;>first|omega|conv=>whnf)|(apply bB<;>intro _<;>conv=>whnf))
 ·exact ⟨(j+1,acc++[p.procs[j].name]),⟨by simp only;omega,by simp only;rw [h3,List.take_succ_eq_append_getElem (by omega)];simp [procsN]⟩,by simp only;omega,Le.of_eq (by simp only [length_append,List.map_append];rfl)⟩
 all_goals
  have hacc:acc=procsN p:=by rw [h3,take_of_length_le (by omega)]
  clear h3;subst hacc
 ·have hb:XR p=true:=by unfold XR;rw [show ZW p.globals=true by assumption];rfl
  exact QL (by unfold QE;rw [hm,hb];rfl) (by unfold QE;rw [hm,hb];rfl)
 ·have hb:XR p=true:=by unfold XR;rw [show ZW p.globals=false by assumption,show ZW (procsN p)=true by assumption];rfl
  exact QL (by unfold QE;rw [hm,hb];rfl) (by unfold QE;rw [hm,hb];rfl)
 ·have hany:((procsN p).any fun s=>mainS==s)=false:=by
   rw [<- MY];simp;omega
  have hb:XR p=true:=by unfold XR;rw [show ZW p.globals=false by assumption,show ZW (procsN p)=false by assumption,hany];rfl
  exact QL (by unfold QE;rw [hm,hb];rfl) (by unfold QE;rw [hm,hb];rfl)
 have hany:((procsN p).any fun s=>mainS==s)=true:=by
  rw [<- MY];simp;omega
 obtain ⟨k,hk,hik,hfind⟩:=z1h hany;have hlk:(p.procs.map fun f=>AV.agg f.cells)[k]? = some (.agg p.procs[k].cells):=by simp [hk]
 have hpl2:(p.procs[k].params.map fun a=>AV.agg a.cells).length=p.procs[k].params.length:=length_map _;refine IdxK.at hik hlk rfl ?_;conv=>whnf
 repeat' (first|((first|(refine iM fun _=>?_)|refine And.intro rfl ?_|(refine CallK.pure (YR p (by omega) (by omega)) (.cons (Sub.refl _) .nil) ?_;rintro _ rfl));conv=>whnf)|(apply bD<;>intro _<;>first|omega|conv=>whnf))
 ·have hb:XR p=true:=by
   unfold XR;rw [show ZW p.globals=false by assumption,show ZW (procsN p)=false by assumption,hany,hfind];have:0<p.procs[k].params.length:=by omega
   simp [this]
  exact QL (by unfold QE;rw [hm,hb];rfl) (by unfold QE;rw [hm,hb];rfl)
 have hb:XR p=false:=by
  unfold XR;rw [show ZW p.globals=false by assumption,show ZW (procsN p)=false by assumption,hany,hfind];have : ¬0<p.procs[k].params.length:=by omega
  simp [this]
 have hsc:QE p=match p.procs.findSome? (WX p) with
  | some a=>(5,a)
  | none=>(0,0):=by unfold QE;rw [hm,hb];rfl
 rw [hsc];refine LoopK.inv QV (fun j:Nat=>⟨[(1,.p (.ip p.cells)),(2,.ptr 1 0),(3,.hd 0 0 (procsN p).length),(7,.p (.ip (sheetOf p).cells)),(57,.p (.sl (p.procs.map fun f => .agg f.cells))),(58,.p (.int .i64 (p.procs.map fun f=>AV.agg f.cells).length)),(59,.p (.int .i64 j))],[(0,.own 9 1 ((procsN p).map .str)),(1,.obj 112 [.p (.int .i64 0),.p (.int .i64 0)])]⟩)
  (fun j=>j<=p.procs.length∧(p.procs.drop j).findSome? (WX p)=p.procs.findSome? (WX p)) (fun j=>p.procs.length-j) 0 (Le.of_eq rfl) ⟨zero_le _,rfl⟩ ?_
 clear h2 hik hfind hlk hpl2;rintro j ⟨h2,h3⟩;rcases Nat.lt_or_ge j p.procs.length with hj|hj;rotate_left 1
 ·have e:p.procs.findSome? (WX p)=none:=by rw [<- h3,q0t hj]
  rw [e];conv=>whnf
  repeat' (first|(refine And.intro rfl ?_;conv=>whnf)|(apply bD<;>intro _<;>first|omega|conv=>whnf))
  exact QL rfl rfl
 have hfp:=hf.pr (List.getElem_mem hj);have hmp:=UA.1 (z8f hm (List.getElem_mem hj));conv=>whnf
 repeat' (first|((first|(refine iM fun _=>?_)|refine cP (PW _) ?_|refine And.intro rfl ?_|(refine iA fun _=>?_)|(refine CallK.pure (x5q (p.procs[j]'hj) (by have:=hmp.1;omega) (by have:=hmp.2.1;omega)) (.cons (Sub.refl _) .nil) ?_;rintro _ rfl)|refine cP (WC (MJ (p.procs[j]'hj)) 194 (.ip p.cells) (fun n=>p.globals.any fun s=>n==s) (q9i p)) ?_|(refine CallK.pure (x8c p (f:=p.procs[j]'hj) (by simp) (by omega)) (.cons (Sub.refl _) (.cons (Sub.refl _) .nil)) ?_;rintro _ rfl));conv=>whnf)|(apply bD<;>intro _<;>first|omega|conv=>whnf)|(apply bB<;>intro _<;>conv=>whnf))
 ·have e:WX p p.procs[j]=some 0:=by
   unfold WX;rw [show ZW (MJ p.procs[j])=true by assumption];rfl
  have e2:=WL hj e;rw [h3] at e2;rw [e2];exact QL rfl rfl
 ·have e:WX p p.procs[j]=some 0:=by
   unfold WX;rw [show ZW (MJ p.procs[j])=false by assumption,show ((MJ p.procs[j]).any fun n=>p.globals.any fun s=>n==s)=true by assumption];rfl
  have e2:=WL hj e;rw [h3] at e2;rw [e2];exact QL rfl rfl
 have hsa:WX p p.procs[j]=((flL p.procs[j].body).find? fun t => !knownB p p.procs[j] (procsN p) t).map S.id:=by
  unfold WX;rw [show ZW (MJ p.procs[j])=false by assumption,show ((MJ p.procs[j]).any fun n=>p.globals.any fun s=>n==s)=false by assumption];rfl
 have hitm : ∀ k (hk:k<(itL (j:Nat) 0 (-1) 0 (QD p.procs j) p.procs[j].body).length),(itL (j:Nat) 0 (-1) 0 (QD p.procs j) p.procs[j].body)[k].s.args.length<=20000:=fun k hk=>z7j hj hfp hk;rw [<- DW (j:Nat) 0 (-1) 0 (QD p.procs j),<- FH] at hsa;have hib:(itL (j:Nat) 0 (-1) 0 (QD p.procs j) p.procs[j].body).length<=20000:=by
  have:=x2h p.procs[j].body;unfold wPr at hfp;rw [XO];omega
 generalize hits:itL (j:Nat) 0 (-1) 0 (QD p.procs j) p.procs[j].body=its at hsa hitm hib ⊢;have hil:=ZI its;refine LoopK.inv QV (fun k:Nat=>⟨[(1,.p (.ip p.cells)),(2,.ptr 1 0),(3,.hd 0 0 (procsN p).length),(7,.p (.ip (sheetOf p).cells)),(9,.p (.ip (p.procs[j]'hj).cells)),(57,.p (.sl (p.procs.map fun f => .agg f.cells))),(58,.p (.int .i64 (p.procs.map fun f=>AV.agg f.cells).length)),(59,.p (.int .i64 j)),(76,.p (YL its)),(77,.p (.int .i64 (its.map fun i=>AV.agg i.cells).length)),(78,.p (.int .i64 k))],[(0,.own 9 1 ((procsN p).map .str)),(1,.obj 112 [.p (.int .i64 0),.p (.int .i64 0)])]⟩)
  (fun k=>k<=its.length∧(its.drop k).find? (fun it => !knownB p p.procs[j] (procsN p) it.s)=its.find? fun it => !knownB p p.procs[j] (procsN p) it.s) (fun k=>its.length-k) 0 (Le.of_eq rfl) ⟨zero_le _,rfl⟩ ?_
 rintro k ⟨h5,h6⟩;rcases Nat.lt_or_ge k its.length with hk|hk;rotate_left 1
 ·rw [<- h6,FC hk] at hsa;conv=>whnf
  repeat' (first|(refine wI ?_;conv=>whnf)|(apply bD<;>intro _<;>first|omega|conv=>whnf))
  exact ⟨j+1,⟨by omega,by rw [<- h3,q2s hj hsa]⟩,by omega,Le.of_eq rfl⟩
 have hka:=hitm k hk;conv=>whnf
 repeat' (first|((first|refine And.intro rfl ?_|(refine iA fun _=>?_)|refine wI ?_|(refine QI (x7i p p.procs[j] (procsN p) its[k].s hka) (.cons (.p (Sub.refl _)) (.cons (.p (Sub.refl _)) (.cons (.hd rfl (by simp)) (.cons (.p (Sub.refl _)) .nil)))) (by rintro _ rfl;rfl) ?_;rintro _ rfl));conv=>whnf)|(apply bD<;>intro _<;>first|omega|conv=>whnf)|(apply bN<;>intro _<;>conv=>whnf))
 ·exact ⟨k+1,⟨by omega,by rw [<- h6,MC (p:=fun it:Item => !knownB p p.procs[j] (procsN p) it.s) hk (by simp;assumption)]⟩,by omega,Le.of_eq rfl⟩
 ·have e3:=FD (p:=fun it:Item => !knownB p p.procs[j] (procsN p) it.s) hk (by simp;assumption);rw [<- h6,e3] at hsa;have e2:=WL hj hsa;rw [h3] at e2;rw [e2];exact QL rfl rfl
def v1e:LV->Option Bool
 | .p .tt=>some true
 | .p .ff=>some false
 | .p (.bool b)=>some b
 | _=>none
theorem x9o {σ:Mem} {β:Lab} {l:LV} {v:Value} {b:Bool} (h:RepL σ β l v) (hb:v1e l=some b):v = .bool b:=by
 cases h with
 | p h=>cases h<;>simp [v1e] at hb<;>subst hb<;>rfl
 | _=>simp [v1e] at hb
theorem q1q {P:Program} {T:Tab} {hr:Bool} {s:St} {o:Oper} {K:LV->Prop} (hT:TabOK P T) {t u:TypeId} {x y:Operand} (hop:o.op = .binOp .neq t x y u) {i:TyI} (ht:T.get t=some i) (hd:i.desc = .bool)
  {a b:Bool} (hx:v1e (QT s.sl x)=some a) (hy:v1e (QT s.sl y)=some b) (hK:K (.p (.bool (a != b)))):ValO P hr s o K:=by
 refine ⟨fun σ β ac w hs _=>⟨_,.bool (a != b),hK,.p (.bool _),fun w' _ _ => ?_⟩⟩;have h1:=x9o (QQ hs x) hx;have h2:=x9o (QQ hs y) hy;have hu:=hT.of ht;rw [hd] at hu;have hg:(eqGuard .neq t x y (.bool a) (.bool b)).run P w' = .ok () w':=by unfold eqGuard;rfl
 have he:(Op.equal t (.bool a) (.bool b)).run P w' = .ok (a==b) w':=by
  have e:Op.equal t (.bool a) (.bool b)=Op.equalIn (9999+1) t (.bool a) (.bool b):=rfl;rw [e,Op.equalIn,Sem.run_bind,run_underlying hu,Result.andThen_ok];rfl
 simp only [execOp,hop,h1,h2,Sem.run_bind,hg,Result.andThen_ok,binOp];simp [he];cases a<;>cases b<;>rfl
def z4h (l:List Param) (args:List Arg):Bool:=decide (l.map Param.ref=args.map Arg.ref)
theorem z2j (l:List Param) (args:List Arg):SpecP Tryz.prog 252 [.sl (l.map fun a => .agg a.cells),w1x args] (fun r=>r = .bool (z4h l args)):=by
 refine sB x3f Tryz.func252 rfl Tryz.call252 ?_;conv=>whnf
 repeat' (first|(refine iM fun _=>?_;conv=>whnf)|(apply bE<;>intro _<;>first|omega|conv=>whnf))
 all_goals
  have hl:(l.map fun a=>AV.agg a.cells).length=l.length:=length_map _;have hl2:(args.map fun a=>AV.agg a.cells).length=args.length:=length_map _
 ·have hlen:l.length=args.length:=by omega
  refine LoopK.inv QV (fun j:Nat=>⟨[(1,.p (w1x args)),(12,.p (.sl (l.map fun a => .agg a.cells))),(13,.p (.int .i64 (l.map fun a=>AV.agg a.cells).length)),(14,.p (.int .i64 j))],[]⟩) (fun j=>j<=l.length∧(l.map Param.ref).take j=(args.map Arg.ref).take j) (fun j=>l.length-j) 0 (Le.of_eq rfl) ⟨zero_le _,rfl⟩ ?_;rintro j ⟨h2,h3⟩;rcases Nat.lt_or_ge j l.length with hj|hj
  ·conv=>whnf
   repeat' (first|((first|refine dA ?_|refine And.intro rfl ?_|(refine iA fun _=>?_)|refine wI ?_|refine q1q QV rfl rfl rfl rfl rfl ?_);conv=>whnf)|(apply bD<;>intro _<;>first|omega|conv=>whnf)|(apply bE<;>intro _<;>first|omega|conv=>whnf))
   ·have hne:l[j].ref=(args[j]'(by omega)).ref:=by assumption
    exact ⟨j+1,⟨by omega,by
     rw [List.take_succ_eq_append_getElem (by simp;omega),List.take_succ_eq_append_getElem (by simp;omega),h3];simp [hne]⟩,by omega,Le.of_eq rfl⟩
   ·have hne : ¬l[j].ref=(args[j]'(by omega)).ref:=by assumption
    exact RetK.ff (by
     unfold z4h;rw [decide_eq_false_iff_not];intro he;have:(l.map Param.ref)[j]? = (args.map Arg.ref)[j]? := by rw [he]
     rw [List.getElem?_map,List.getElem?_map,List.getElem?_eq_getElem hj,List.getElem?_eq_getElem (by omega)] at this;simp at this;exact hne this)
  ·conv=>whnf
   repeat' (apply bD<;>intro _<;>first|omega|conv=>whnf)
   exact RetK.tt (by
    unfold z4h;rw [decide_eq_true_eq]
    rwa [take_of_length_le (by simp;omega),take_of_length_le (by simp;omega)] at h3)
 ·exact RetK.ff (by
   unfold z4h;rw [decide_eq_false_iff_not];intro he;have:=congrArg List.length he;simp at this;omega)
def GC (p:Pg) (s:S):Bool:=decide (s.kind=4)&&match p.procs.find? (fun f=>f.name==s.proc) with
 | some f=>z4h f.params s.args
 | none=>false
theorem z3i (p:Pg) (s:S):SpecP Tryz.prog 197 [.agg p.cells,.agg s.cells] (fun r=>r = .bool (GC p s)):=by
 refine sB x3n Tryz.func197 rfl Tryz.call197 ?_;conv=>whnf
 repeat' (first|(refine iM fun _=>?_;conv=>whnf)|(apply bE<;>intro _<;>first|omega|conv=>whnf))
 ·have hl:(p.procs.map fun f=>AV.agg f.cells).length=p.procs.length:=length_map _;refine LoopK.inv QV (fun j:Nat=>⟨[(3,.p (.ip s.cells)),(11,.p (.sl (p.procs.map fun f => .agg f.cells))),(12,.p (.int .i64 (p.procs.map fun f=>AV.agg f.cells).length)),(13,.p (.int .i64 j))],[]⟩) (fun j=>j<=p.procs.length∧(p.procs.drop j).find? (fun f=>f.name==s.proc)=p.procs.find? (fun f=>f.name==s.proc)) (fun j=>p.procs.length-j) 0 (Le.of_eq rfl) ⟨zero_le _,rfl⟩ ?_;rintro j ⟨h2,h3⟩;conv=>whnf
  repeat' (first|((first|refine cP (z2j _ _) ?_|refine And.intro rfl ?_|(refine iA fun _=>?_)|refine wI ?_);conv=>whnf)|(apply bD<;>intro _<;>first|omega|conv=>whnf)|(apply bB<;>intro _<;>conv=>whnf))
  ·have e:=FD (p:=fun f:Pr=>f.name==s.proc) (l:=p.procs) (j:=j) (by omega) (by assumption);rw [h3] at e;exact RetK.bool (by unfold GC;rw [e];simp [*])
  ·exact ⟨j+1,⟨by omega,by rw [<- h3,MC (p:=fun f:Pr=>f.name==s.proc) (by omega) (by assumption)]⟩,by omega,Le.of_eq rfl⟩
  ·have e:p.procs.find? (fun f=>f.name==s.proc)=none:=by rw [<- h3,FC (by omega)]
   exact RetK.ff (by unfold GC;rw [e];simp)
 ·exact RetK.ff (by unfold GC;simp [*])
def JK (p:Pg):List S:=p.procs.flatMap fun f=>flL f.body
theorem w5a : ∀ (l:List Pr) (i:Nat) (acc:List Item) (lo hi:List Int),(q6q i acc lo hi l).1.map Item.s=acc.map Item.s++l.flatMap fun f=>flL f.body
 | [],i,acc,lo,hi=>by rw [q6q];simp
 | f::r,i,acc,lo,hi=>by
   rw [q6q,w5a r,PO,List.map_append,DW,List.flatMap_cons,List.append_assoc]
theorem x1a (p:Pg):(sheetOf p).l.map Item.s=JK p:=by
 have:=w5a p.procs 0 [] [] [];unfold sheetOf JK;simpa using this
theorem z2g {p:Pg} (hf:Fit p) {k:Nat} (hk:k<(sheetOf p).l.length):wS (sheetOf p).l[k].s<=20000:=by
 have hm:(sheetOf p).l[k].s∈JK p:=by
  rw [<- x1a];exact List.mem_map.2 ⟨_,List.getElem_mem hk,rfl⟩
 unfold JK at hm;obtain ⟨f,h1,h2⟩:=List.mem_flatMap.1 hm;have h3:=x3g _ _ h2;have h4:=hf.pr h1;unfold wPr at h4;omega
def WS (p:Pg):Int×Int :=
 if (QE p).1≠0 then (1,0) else match (JK p).find? fun t=>decide (t.kind=4) && !GC p t with
  | some t=>(6,t.id)
  | none=>(0,0)
theorem YP {p:Pg} (h:(QE p).1=0):KG p=true∧XR p=false∧p.procs.findSome? (WX p)=none:=by
 unfold QE at h;cases hm:KG p<;>rw [hm] at h
 ·cases h
 cases hb:XR p<;>rw [hb] at h
 ·refine ⟨rfl,rfl,?_⟩;simp only [cond_true,cond_false] at h;split at h
  ·cases h
  ·assumption
 ·cases h
theorem q4r (p:Pg) (hf:Fit p):SpecP Tryz.prog 125 [.agg p.cells] (fun r=>r=q8k (WS p).1 (WS p).2):=by
 refine sB q9r Tryz.func125 rfl Tryz.call125 ?_;conv=>whnf
 repeat' (first|((first|refine cP (YX p hf) ?_|refine And.intro rfl ?_);conv=>whnf)|(apply bE<;>intro _<;>first|omega|conv=>whnf))
 rotate_left 1
 ·have e:WS p=(1,0):=by unfold WS;rw [if_pos (by assumption)]
  exact QL (by rw [e]) (by rw [e])
 have hs:(QE p).1=0:=by assumption
 obtain ⟨hm,hb,hns⟩:=YP hs;obtain ⟨hg,hpl,hcn⟩:=WD hm;have hA:WS p=match (JK p).find? fun t=>decide (t.kind=4) && !GC p t with
  | some t=>(6,t.id)
  | none=>(0,0):=by unfold WS;rw [if_neg (by omega)]
 repeat' ((first|(refine iM fun _=>?_)|(refine CallK.pure (YR p (by omega) (by omega)) (.cons (Sub.refl _) .nil) ?_;rintro _ rfl));conv=>whnf)
 have hil:=ZI (sheetOf p).l;have hib:(sheetOf p).l.length<=200:=by have:=(QU p).2.2.2.1;omega
 have hfi:=FH (q:=fun t=>decide (t.kind=4) && !GC p t) (sheetOf p).l;rw [x1a] at hfi;have hA2:WS p=match ((sheetOf p).l.find? fun it=>decide (it.s.kind=4) && !GC p it.s).map (fun it=>it.s.id) with
  | some a=>(6,a)
  | none=>(0,0):=by
  rw [hA,hfi];cases (JK p).find? fun t=>decide (t.kind=4) && !GC p t<;>rfl
 rw [hA2];refine LoopK.inv QV (fun k:Nat=>⟨[(1,.p (.ip p.cells)),(2,.ptr 1 0),(14,.p (YL (sheetOf p).l)),(15,.p (.int .i64 ((sheetOf p).l.map fun i=>AV.agg i.cells).length)),(16,.p (.int .i64 k))],[(1,.obj 112 [.p (.int .i64 0),.p (.int .i64 0)])]⟩)
  (fun k=>k<=(sheetOf p).l.length∧((sheetOf p).l.drop k).find? (fun it=>decide (it.s.kind=4) && !GC p it.s)=(sheetOf p).l.find? fun it=>decide (it.s.kind=4) && !GC p it.s) (fun k=>(sheetOf p).l.length-k) 0 (Le.of_eq rfl) ⟨zero_le _,rfl⟩ ?_
 rintro k ⟨h5,h6⟩;rcases Nat.lt_or_ge k (sheetOf p).l.length with hk|hk;rotate_left 1
 ·rw [<- h6,FC hk];conv=>whnf
  repeat' (first|(refine And.intro rfl ?_;conv=>whnf)|(apply bD<;>intro _<;>first|omega|conv=>whnf))
  exact QL rfl rfl
 conv=>whnf
 repeat' (first|((first|refine cP (z3i _ _) ?_|refine And.intro rfl ?_|(refine iA fun _=>?_)|refine wI ?_);conv=>whnf)|(apply bD<;>intro _<;>first|omega|conv=>whnf)|(apply bN<;>intro _<;>conv=>whnf))
 all_goals first
  | (have e3:=FD (p:=fun it:Item=>decide (it.s.kind=4) && !GC p it.s) hk (by simp [*])
     rw [<- h6,e3];exact QL rfl rfl)
  | exact ⟨k+1,⟨by omega,by rw [<- h6,MC (p:=fun it:Item=>decide (it.s.kind=4) && !GC p it.s) hk (by simp [*])]⟩,by omega,Le.of_eq rfl⟩
def VQ:List Str->List Str->Option (List Str)
 | seen,[]=>some seen
 | seen,n::r=>bif seen.any (fun s=>n==s) then none else VQ (seen++[n]) r
theorem w2y {seen l:List Str} {j:Nat} (hj:j<l.length) (h:(seen.any fun s=>l[j]==s)=true):VQ seen (l.drop j)=none:=by
 rw [QG hj,VQ,h];rfl
theorem z7h {seen l:List Str} {j:Nat} (hj:j<l.length) (h:(seen.any fun s=>l[j]==s)=false):VQ seen (l.drop j)=VQ (seen++[l[j]]) (l.drop (j+1)):=by
 rw [QG hj,VQ,h];rfl
theorem NI : ∀ {l seen out:List Str},VQ seen l=some out->out=seen++l
 | [],seen,out,h=>by rw [VQ] at h;cases h;simp
 | n::r,seen,out,h=>by
   rw [VQ] at h;cases hc:(seen.any fun s=>n==s)<;>rw [hc] at h
   ·have:=NI h;simpa using this
   ·cases h
def z8w (t:Nat) (seen l:List Str) (r:LV) (H:Heap):Prop :=
 match VQ seen l with
 | some out=>r = .tup [.hd 2000 0 out.length,.p .tt]∧H=z5y t out
 | none => ∃ out,r = .tup [.hd 2000 0 out.length,.p .ff]∧H=z5y t out
theorem q4n {t:Nat} {seen l:List Str} {Q:LV->Heap->Prop} (h1:VQ seen l=some (seen++l)->Q (.tup [.hd 2000 0 (seen++l).length,.p .tt]) (z5y t (seen++l)))
  (h2:VQ seen l=none -> ∀ out,Q (.tup [.hd 2000 0 out.length,.p .ff]) (z5y t out)) : ∀ l' H',z8w t seen l l' H'->Q l' H':=by
 intro l' H' h;unfold z8w at h;cases hr:VQ seen l with
 | some out =>
   rw [hr] at h;obtain ⟨rfl,rfl⟩:=h;have:=NI hr;subst this;exact h1 hr
 | none =>
   rw [hr] at h;obtain ⟨out,rfl,rfl⟩:=h;exact h2 hr out
theorem x3z (seen l:List Str) (hlen:seen.length+l.length<=1000000000) :
  SpecH Tryz.prog 199 [.hd 2000 0 seen.length,.p (QP l)] (z5y 9 seen) (z8w 9 seen l):=by
 refine sH x7k Tryz.func199 rfl Tryz.call199 ?_;conv=>whnf
 repeat' (refine iM fun _=>?_;conv=>whnf)
 have hl:(l.map AV.str).length=l.length:=length_map _;refine LoopK.inv QV (fun i:Nat×List Str=>⟨[(0,.hd 2000 0 i.2.length),(8,.p (QP l)),(9,.p (.int .i64 (l.map AV.str).length)),(10,.p (.int .i64 i.1))],z5y 9 i.2⟩) (fun i=>i.1<=l.length∧i.2.length+(l.length-i.1)=seen.length+l.length∧VQ i.2 (l.drop i.1)=VQ seen l) (fun i=>l.length-i.1) (0,seen) (Le.of_eq rfl) ⟨zero_le _,by simp,rfl⟩ ?_;rintro ⟨j,acc⟩ ⟨h2,h3,h4⟩;simp only at h2 h3 h4 ⊢;rcases Nat.lt_or_ge j l.length with hj|hj
 ·conv=>whnf
  repeat' (first|((first|refine And.intro rfl ?_|refine aD ?_|refine bP ?_|(refine iA fun _=>?_)|refine wI ?_|(refine QI (QX acc (l[j]'hj)) (.cons (.hd rfl (by simp)) (.cons (.p (Sub.refl _)) .nil)) (by rintro _ rfl;rfl) ?_;rintro _ rfl)|refine UX (by simp) (by simp;omega) ?_);conv=>whnf)|(apply bD<;>intro _<;>first|omega|conv=>whnf)|(apply bB<;>intro _<;>conv=>whnf))
  ·exact ⟨_,.refl _,by unfold z8w;rw [<- h4,w2y hj (by assumption)];exact ⟨acc,rfl,rfl⟩⟩
  ·exact ⟨(j+1,acc++[l[j]]),⟨by simp only;omega,by simp;omega,by simp only;rw [<- h4,z7h hj (by assumption)]⟩,by simp only;omega,Le.of_eq (by simp only [z5y,length_append,List.map_append];rfl)⟩
 ·conv=>whnf
  repeat' (apply bD<;>intro _<;>first|omega|conv=>whnf)
  rw [drop_eq_nil_of_le hj,VQ] at h4;exact ⟨_,.refl _,by unfold z8w;rw [<- h4];exact ⟨rfl,rfl⟩⟩
def atB (f:Pr) (label:Str):Int×Bool :=
 match (flL f.body).find? fun t=>t.labels.any fun s=>label==s with
 | some t=>(t.id,true)
 | none=>bif f.fin.any fun s=>label==s then (-1,true) else (0,false)
theorem RetK.tup2 {H:Heap} {k:IntKind} {m n:Int} {x:AV} {b:Bool} (h:m=n) (hb:Sub x (.bool b)):RetK H (.p (.tup [.int k m,x])) (fun r=>r = .tup [.int k n,.bool b]) :=
 ⟨_,.p (Sub.tup (SubL.cons (Sub.int h) (SubL.cons hb SubL.nil))),rfl⟩
theorem KC (p:Pg) (j:Nat) (f:Pr) (hj:p.procs[j]? = some f) (hc:cntP p.procs<=1000) (label:Str):SpecP Tryz.prog 181 [.ip (sheetOf p).cells,.int .i64 j,.str label] (fun r=>r = .tup [.int .i64 (atB f label).1,.bool (atB f label).2]):=by
 refine sB q5v Tryz.func181 rfl Tryz.call181 ?_;conv=>whnf
 repeat' ((first|(refine iM fun _=>?_)|refine cP (x8c p hj hc) ?_);conv=>whnf)
 have hfi:=FH (q:=fun t=>t.labels.any fun s=>label==s) (itL (j:Nat) 0 (-1) 0 (QD p.procs j) f.body);rw [DW] at hfi;have hib:(itL (j:Nat) 0 (-1) 0 (QD p.procs j) f.body).length<=1000:=by
  have:=(QU p).2.2.2.2 j f hj;rw [XO];omega
 generalize hits:itL (j:Nat) 0 (-1) 0 (QD p.procs j) f.body=its at hfi hib ⊢;have hil:=ZI its;have hat:atB f label=match (its.find? fun it=>it.s.labels.any fun s=>label==s).map (fun it=>it.s.id) with
  | some a=>(a,true)
  | none=>bif f.fin.any fun s=>label==s then (-1,true) else (0,false):=by
  unfold atB;rw [hfi];cases (flL f.body).find? fun t=>t.labels.any fun s=>label==s<;>rfl
 rw [hat];refine LoopK.inv QV (fun k:Nat=>⟨[(0,.p (.ip (sheetOf p).cells)),(1,.p (.int .i64 j)),(2,.p (.str label)),(12,.p (YL its)),(13,.p (.int .i64 (its.map fun i=>AV.agg i.cells).length)),(14,.p (.int .i64 k))],[]⟩)
  (fun k=>k<=its.length∧(its.drop k).find? (fun it=>it.s.labels.any fun s=>label==s)=its.find? fun it=>it.s.labels.any fun s=>label==s) (fun k=>its.length-k) 0 (Le.of_eq rfl) ⟨zero_le _,rfl⟩ ?_
 rintro k ⟨h5,h6⟩;rcases Nat.lt_or_ge k its.length with hk|hk
 ·conv=>whnf
  repeat' (first|((first|refine cP (QX _ _) ?_|refine And.intro rfl ?_|(refine iA fun _=>?_)|refine wI ?_);conv=>whnf)|(apply bD<;>intro _<;>first|omega|conv=>whnf)|(apply bB<;>intro _<;>conv=>whnf))
  ·have e3:=FD (p:=fun it:Item=>it.s.labels.any fun s=>label==s) hk (by assumption);rw [<- h6,e3];exact RetK.tup2 rfl (Sub.tt rfl)
  ·exact ⟨k+1,⟨by omega,by rw [<- h6,MC (p:=fun it:Item=>it.s.labels.any fun s=>label==s) hk (by assumption)]⟩,by omega,Le.of_eq rfl⟩
 ·rw [<- h6,FC hk];have hpj:(p.procs.map fun f=>AV.agg f.cells)[j]? = some (.agg f.cells):=by simp [hj]
  conv=>whnf
  repeat' (first|((first|refine cP (QX _ _) ?_|(refine IdxK.at rfl hpj rfl ?_));conv=>whnf)|(apply bD<;>intro _<;>first|omega|conv=>whnf)|(apply bB<;>intro _<;>conv=>whnf))
  ·exact RetK.tup2 (by simp [*]) (Sub.tt (by simp [*]))
  ·exact RetK.tup2 (by simp [*]) (Sub.ff (by simp [*]))
def WR (f:Pr) (it:Item):Bool:=if it.s.kind=7∨it.s.kind=8 then !(it.loop==0) else if it.s.kind=10 then (atB f it.s.name).2 else true
theorem z4y (p:Pg) (j:Nat) (f:Pr) (hj:p.procs[j]? = some f) (hc:cntP p.procs<=1000) (it:Item) (hp:it.proc=j):SpecP Tryz.prog 200 [.ip (sheetOf p).cells,.agg it.cells] (fun r=>r = .bool (WR f it)):=by
 refine sB x2b Tryz.func200 rfl Tryz.call200 ?_;conv=>whnf
 repeat' (first|(refine CallK.pure (KC p j f hj hc it.s.name) (.cons (Sub.refl _) (.cons (Sub.int hp) (.cons (Sub.refl _) .nil))) ?_;rintro _ rfl;conv=>whnf)|(apply bD<;>intro _<;>first|omega|conv=>whnf))
 all_goals first
  | exact RetK.bool (by simp [WR, *];rfl)
  | exact RetK.bool (by simp [WR, *])
  | exact RetK.tt (by simp [WR, *])
theorem z4b (p:Pg) (hf:Fit p) (h:(QE p).1=0):SpecP Tryz.prog 198 [.agg p.cells] (fun r=>r = .ip (sheetOf p).cells):=by
 refine sB q0i Tryz.func198 rfl Tryz.call198 ?_;conv=>whnf
 obtain ⟨hm,hb,hns⟩:=YP h;obtain ⟨hg,hpl,hcn⟩:=WD hm;repeat' (first|((first|refine cP (YX p hf) ?_|(refine CallK.pure (YR p (by omega) (by omega)) (.cons (Sub.refl _) .nil) ?_;rintro _ rfl));conv=>whnf)|(apply bE<;>intro _<;>first|omega|conv=>whnf))
 exact RetK.p rfl
theorem x1d (p:Pg) (hf:Fit p) (h:(QE p).1≠0):SpecP Tryz.prog 198 [.agg p.cells] (fun r=>r = .nilp):=by
 refine sB q0i Tryz.func198 rfl Tryz.call198 ?_;conv=>whnf
 repeat' (first|(refine cP (YX p hf) ?_;conv=>whnf)|(apply bE<;>intro _<;>first|omega|conv=>whnf))
 exact RetK.p rfl
mutual
theorem w2p (proc up nx loop:Int) (n:Nat) : ∀ (t:S) (it:Item),it∈itS proc up nx loop n t->it.proc=proc
 | .mk id kind labels name pr x has args thn els,it,h=>by
   rw [itS] at h;rcases List.mem_cons.1 h with rfl|h
   ·rfl
   ·rcases List.mem_append.1 h with h|h
    ·exact DX _ _ _ _ _ thn it h
    ·exact DX _ _ _ _ _ els it h
theorem DX (proc up nx loop:Int) (n:Nat) : ∀ (l:List S) (it:Item),it∈itL proc up nx loop n l->it.proc=proc
 | [],it,h=>by rw [itL] at h;cases h
 | t::r,it,h=>by
   rw [itL] at h;rcases List.mem_append.1 h with h|h
   ·exact w2p _ _ _ _ _ t it h
   ·exact DX _ _ _ _ _ r it h
end
def UV (f:Pr):List Item->List Str->Except Int (List Str)
 | [],seen => .ok seen
 | it::r,seen=>match VQ seen it.s.labels with
   | none => .error it.s.id
   | some s=>bif WR f it then UV f r s else .error it.s.id
def VI (p:Pg) (j:Nat):Option Int :=
 match p.procs[j]? with
 | none=>none
 | some f=>match UV f (itL (j:Nat) 0 (-1) 0 (QD p.procs j) f.body) [] with
   | .error id=>some id
   | .ok seen=>match VQ seen f.fin with
     | none=>some 0
     | some _=>none
def DV (p:Pg):Int×Int :=
 if (QE p).1≠0 then (1,0) else match (List.range p.procs.length).findSome? (VI p) with
  | some a=>(7,a)
  | none=>(0,0)
theorem w4e {f:Pr} {its:List Item} {seen:List Str} {k:Nat} (hk:k<its.length) (h:VQ seen its[k].s.labels=none):UV f (its.drop k) seen = .error its[k].s.id:=by
 rw [QG hk,UV,h]
theorem z8j {f:Pr} {its:List Item} {seen s:List Str} {k:Nat} (hk:k<its.length) (h:VQ seen its[k].s.labels=some s) (hl:WR f its[k]=false):UV f (its.drop k) seen = .error its[k].s.id:=by
 rw [QG hk,UV,h];simp only [hl,cond_false]
theorem z9c {f:Pr} {its:List Item} {seen s:List Str} {k:Nat} (hk:k<its.length) (h:VQ seen its[k].s.labels=some s) (hl:WR f its[k]=true):UV f (its.drop k) seen=UV f (its.drop (k+1)) s:=by
 rw [QG hk,UV,h];simp only [hl,cond_true]
theorem x8t {l:List Pr} {j:Nat} (hj:j<l.length) (h:wPr l[j]<=20000) {a b c d:Int} {n k:Nat} (hk:k<(itL a b c d n l[j].body).length):(itL a b c d n l[j].body)[k].s.labels.length<=20000:=by
 have hm:(itL a b c d n l[j].body)[k].s∈flL l[j].body:=by
  rw [<- DW a b c d n];exact List.mem_map.2 ⟨_,List.getElem_mem hk,rfl⟩
 have h1:=x3g _ _ hm;have h2:=x7g (itL a b c d n l[j].body)[k].s;have h3:=FU (itL a b c d n l[j].body)[k].s.labels;unfold wPr at h;omega
theorem z2t (p:Pg) (hf:Fit p):SpecP Tryz.prog 126 [.agg p.cells] (fun r=>r=q8k (DV p).1 (DV p).2):=by
 refine sB x4o Tryz.func126 rfl Tryz.call126 ?_;conv=>whnf
 rcases Decidable.em ((QE p).1=0) with hs|hs;rotate_left 1
 ·
  repeat' ((first|refine cP (x1d p hf hs) ?_|refine And.intro rfl ?_);conv=>whnf)
  have e:DV p=(1,0):=by unfold DV;rw [if_pos hs]
  exact QL (by rw [e]) (by rw [e])
 obtain ⟨hm,hb,hns⟩:=YP hs;obtain ⟨hg,hpl,hcn⟩:=WD hm;have hJ:DV p=match (List.range p.procs.length).findSome? (VI p) with
  | some a=>(7,a)
  | none=>(0,0):=by unfold DV;rw [if_neg (by omega)]
 rw [hJ];have hl:(p.procs.map fun f=>AV.agg f.cells).length=p.procs.length:=length_map _;repeat' ((first|(refine iM fun _=>?_)|refine cP (z4b p hf hs) ?_);conv=>whnf)
 refine LoopK.inv QV (fun j:Nat=>⟨[(2,.ptr 1 0),(3,.p (.ip (sheetOf p).cells)),(16,.p (.sl (p.procs.map fun f => .agg f.cells))),(17,.p (.int .i64 (p.procs.map fun f=>AV.agg f.cells).length)),(18,.p (.int .i64 j))],[(1,.obj 112 [.p (.int .i64 0),.p (.int .i64 0)])]⟩)
  (fun j=>j<=p.procs.length∧((List.range p.procs.length).drop j).findSome? (VI p)=(List.range p.procs.length).findSome? (VI p)) (fun j=>p.procs.length-j) 0 (Le.of_eq rfl) ⟨zero_le _,rfl⟩ ?_
 rintro j ⟨h2,h3⟩;rcases Nat.lt_or_ge j p.procs.length with hj|hj;rotate_left 1
 ·have e:(List.range p.procs.length).findSome? (VI p)=none:=by rw [<- h3,q0t (by simpa using hj)]
  rw [e];conv=>whnf
  repeat' (first|(refine And.intro rfl ?_;conv=>whnf)|(apply bD<;>intro _<;>first|omega|conv=>whnf))
  exact QL rfl rfl
 have hfp:=hf.pr (List.getElem_mem hj);have hjr:j<(List.range p.procs.length).length:=by simpa using hj
 have hrj:(List.range p.procs.length)[j]=j:=by simp
 have hpj:p.procs[j]? = some p.procs[j]:=by simp [hj]
 conv=>whnf
 repeat' (first|((first|(refine iM fun _=>?_)|refine And.intro rfl ?_|(refine iA fun _=>?_)|(refine CallK.pure (x8c p (f:=p.procs[j]'hj) hpj (by omega)) (.cons (Sub.refl _) (.cons (Sub.refl _) .nil)) ?_;rintro _ rfl));conv=>whnf)|(apply bD<;>intro _<;>first|omega|conv=>whnf))
 have hlab : ∀ k (hk:k<(itL (j:Nat) 0 (-1) 0 (QD p.procs j) p.procs[j].body).length),(itL (j:Nat) 0 (-1) 0 (QD p.procs j) p.procs[j].body)[k].s.labels.length<=20000:=fun k hk=>x8t hj hfp hk;have hprc : ∀ k (hk:k<(itL (j:Nat) 0 (-1) 0 (QD p.procs j) p.procs[j].body).length),(itL (j:Nat) 0 (-1) 0 (QD p.procs j) p.procs[j].body)[k].proc=j:=fun k hk=>DX _ _ _ _ _ _ _ (List.getElem_mem hk);have hib:(itL (j:Nat) 0 (-1) 0 (QD p.procs j) p.procs[j].body).length<=200:=by
  have:=(QU p).2.2.2.2 j _ hpj;rw [XO];omega
 have hja:VI p j=match UV p.procs[j] (itL (j:Nat) 0 (-1) 0 (QD p.procs j) p.procs[j].body) [] with
  | .error id=>some id
  | .ok seen=>match VQ seen p.procs[j].fin with
    | none=>some 0
    | some _=>none:=by
  unfold VI;rw [hpj]
 generalize hits:itL (j:Nat) 0 (-1) 0 (QD p.procs j) p.procs[j].body=its at hlab hprc hib hja ⊢;have hil:=ZI its;refine LoopK.inv QV (fun i:Nat×List Str=>⟨[(2,.ptr 1 0),(3,.p (.ip (sheetOf p).cells)),(5,.p (.ip (p.procs[j]'hj).cells)),(6,.hd 0 0 i.2.length),(16,.p (.sl (p.procs.map fun f => .agg f.cells))),(17,.p (.int .i64 (p.procs.map fun f=>AV.agg f.cells).length)),(18,.p (.int .i64 j)),(25,.p (YL its)),(26,.p (.int .i64 (its.map fun i=>AV.agg i.cells).length)),(27,.p (.int .i64 i.1))],[(0,.own 9 1 (i.2.map .str)),(1,.obj 112 [.p (.int .i64 0),.p (.int .i64 0)])]⟩)
  (fun i=>i.1<=its.length∧i.2.length<=20000*i.1∧UV p.procs[j] (its.drop i.1) i.2=UV p.procs[j] its []) (fun i=>its.length-i.1) (0,[])
  (Le.mk [(0,.own 9 1 [])] (by simp [Chunk.new0];rfl) (by simp) (by simp) (.cons (.refl _) (.cons (.refl _) (.cons (.refl _) (.cons (.nil mem_cons_self) (.cons (.refl _) (.cons (.refl _) (.cons (.refl _) (.cons (.refl _) (.cons (.refl _) (.cons (.refl _) .nil)))))))))) (.new mem_cons_self (.cons rfl (.refl _) .nil)))
  ⟨zero_le _,by simp,rfl⟩ ?_
 rintro ⟨k,acc⟩ ⟨h5,h6,h7⟩;simp only at h5 h6 h7 ⊢;rcases Nat.lt_or_ge k its.length with hk|hk
 ·have hlk:=hlab k hk;conv=>whnf
  repeat' (first|((first|refine And.intro rfl ?_|(refine iA fun _=>?_)|refine wI ?_|(refine CallK.pure (z4y p j p.procs[j] hpj (by omega) its[k] (hprc k hk)) (.cons (Sub.refl _) (.cons (Sub.refl _) .nil)) ?_;rintro _ rfl));conv=>whnf)|(apply bD<;>intro _<;>first|omega|conv=>whnf)|(apply bN<;>intro _<;>conv=>whnf)|(refine CallK.heap [(2000,0)] 0 (by repeat' (first|exact ArgsH.nil|refine ArgsH.cons ?_ ?_|exact LSub.refl _|exact LSub.p Sub.nils|exact LSub.p (Sub.tt rfl)|exact LSub.p (Sub.ff rfl)|exact LSub.p (Sub.int (by omega)))) (by refine BlksH.cons (j:=0) rfl rfl ?_ ?_;exact CSub.refl _;exact BlksH.nil) (x3z acc its[k].s.labels (by omega)) rfl rfl (q4n (fun hjo => ?_) (fun hjo out => ?_))<;>conv=>whnf))
  ·exact ⟨(k+1,acc++its[k].s.labels),⟨by simp only;omega,by simp;omega,by simp only;rw [<- h7,z9c hk hjo (by assumption)]⟩,by simp only;omega,Le.of_eq rfl⟩
  ·rw [<- h7,z8j hk hjo (by assumption)] at hja;have e2:=WL (f:=VI p) hjr (by rw [hrj];exact hja);rw [h3] at e2;rw [e2];exact QL rfl rfl
  ·rw [<- h7,w4e hk hjo] at hja;have e2:=WL (f:=VI p) hjr (by rw [hrj];exact hja);rw [h3] at e2;rw [e2];exact QL rfl rfl
 ·have hfin:p.procs[j].fin.length<=20000:=by
   have:=FU p.procs[j].fin;unfold wPr at hfp;omega
  rw [drop_eq_nil_of_le hk,UV] at h7;rw [<- h7] at hja;simp only at hja;conv=>whnf
  repeat' (first|((first|refine And.intro rfl ?_|refine wI ?_);conv=>whnf)|(apply bD<;>intro _<;>first|omega|conv=>whnf)|(refine CallK.heap [(2000,0)] 0 (by repeat' (first|exact ArgsH.nil|refine ArgsH.cons ?_ ?_|exact LSub.refl _|exact LSub.p Sub.nils|exact LSub.p (Sub.tt rfl)|exact LSub.p (Sub.ff rfl)|exact LSub.p (Sub.int (by omega)))) (by refine BlksH.cons (j:=0) rfl rfl ?_ ?_;exact CSub.refl _;exact BlksH.nil) (x3z acc p.procs[j].fin (by omega)) rfl rfl (q4n (fun hjo => ?_) (fun hjo out => ?_))<;>conv=>whnf))
  ·rw [hjo] at hja;exact ⟨j+1,⟨by omega,by rw [<- h3,q2s (f:=VI p) hjr (by rw [hrj];exact hja)]⟩,by omega,Le.of_eq rfl⟩
  ·rw [hjo] at hja;have e2:=WL (f:=VI p) hjr (by rw [hrj];exact hja);rw [h3] at e2;rw [e2];exact QL rfl rfl
theorem MX {es:List AV} {sz:Nat} {out:List LV} {Kp Ko:Prop} (hx:(es.all fun x=>x.cells.length==sz)=true) (ho:out=(es.flatMap AV.cells).map .p) (hK:Kp):BsK es sz out Kp Ko := .pure (fun x h=>by simpa using List.all_eq_true.1 hx x h) ho hK
end Go.Ab
