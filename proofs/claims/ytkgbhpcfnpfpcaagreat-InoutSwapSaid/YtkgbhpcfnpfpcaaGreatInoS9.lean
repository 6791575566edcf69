/- tree, flat, scope: the names of an expression, of a statement; what a name is. -/
import Derived.Test.YtkgbhpcfnpfpcaaGreatInoS8
set_option linter.unusedSimpArgs false
set_option linter.unusedVariables false
set_option maxRecDepth 100000
set_option maxHeartbeats 16000000
open List (drop_eq_nil_of_le drop_zero length_append length_cons length_map map_cons mem_cons_self nil_append take_of_length_le)
open Nat (zero_le)
namespace Go.Ab
open Go.Proofs
theorem FN {es:List AV} {n:Nat} {K:Prop} (xs:List Str) (hn:n=es.length) (hb:es.length+xs.length<=8796093022208) (hK:K):AppK es (xs.map .str) n (xs.map AV.str).length 1 16 K :=
 .mk hn rfl (by rw [hn];simp;omega) (by rw [hn];simp [maxLen];omega) (fun x hx=>by obtain ⟨y,_,rfl⟩:=List.mem_map.1 hx;exact ⟨rfl,rfl⟩) hK
theorem QE {es:List AV} {n:Nat} {K:Prop} {s:Str} (hn:n=es.length) (hb:es.length<=8796093022000) (hK:K):AppK es [.str s] n 1 1 16 K :=
 .mk hn rfl (by omega) (by simp only [maxLen];omega) (fun x hx=>by rcases List.mem_singleton.1 hx with rfl;exact ⟨rfl,rfl⟩) hK
theorem WO {es:List AV} {n:Nat} {K:Prop} {s:Int} (hn:n=es.length) (hb:es.length<=8796093022000) (hK:K):AppK es [.int .i64 s] n 1 1 8 K :=
 .mk hn rfl (by omega) (by simp only [maxLen];omega) (fun x hx=>by rcases List.mem_singleton.1 hx with rfl;exact ⟨rfl,rfl⟩) hK
mutual
def q6v:X->List Str->List Str
 | .mk op _ name kids,out=>YR kids (if op=2∧(out.any fun s=>name==s)=false then out++[name] else out)
def YR:List X->List Str->List Str
 | [],out=>out
 | x::r,out=>YR r (q6v x out)
end
theorem x6k (x:X) (out:List Str):q6v x out=YR x.kids (if x.op=2∧(out.any fun s=>x.name==s)=false then out++[x.name] else out):=by
 cases x;rw [q6v];rfl
theorem z2j {l:List X} {j:Nat} {out:List Str} (hj:j<l.length):YR (l.drop j) out=YR (l.drop (j+1)) (q6v l[j] out):=by
 rw [QD hj,YR]
theorem z7s {l:List X} {j:Nat} {out:List Str} (hj:l.length<=j):YR (l.drop j) out=out:=by
 rw [drop_eq_nil_of_le hj,YR]
theorem q7v {n:Nat} {x:X} (h:WW (n+1) x=true):x.kids.length<=2∧(x.op=2->x.kids.length=0) ∧ ∀ k∈x.kids,WW n k=true:=by
 rw [WW] at h;simp only [Bool.and_eq_true,decide_eq_true_eq] at h;obtain ⟨h1,h2⟩:=h;refine ⟨?_,fun he => ?_,?_⟩
 ·unfold q1y at h1;(repeat' split at h1)<;>omega
 ·unfold q1y at h1;rw [if_pos (by omega)] at h1;omega
 ·by_cases h3:x.op=1
  ·have:x.kids.length=0:=by unfold q1y at h1;rw [if_pos (by omega)] at h1;omega
   rw [List.eq_nil_of_length_eq_zero this];simp
  ·by_cases h4:x.op=2
   ·have:x.kids.length=0:=by unfold q1y at h1;rw [if_pos (by omega)] at h1;omega
    rw [List.eq_nil_of_length_eq_zero this];simp
   ·rw [if_neg h3,if_neg h4] at h2;simp only [Bool.and_eq_true] at h2;exact List.all_eq_true.1 h2.2
theorem z6t : ∀ (n:Nat) (x:X) (out:List Str),WW n x=true->out.length<=(q6v x out).length∧(q6v x out).length<=out.length+2 ^ n:=by
 intro n;induction n with
 | zero=>intro x out h;rw [WW] at h;cases h
 | succ n ih =>
   intro x out h;obtain ⟨h1,h2,h3⟩:=q7v h;have key : ∀ (l:List X) (o:List Str),(∀ k∈l,WW n k=true)->o.length<=(YR l o).length∧(YR l o).length<=o.length+l.length*2 ^ n:=by
    intro l;induction l with
    | nil=>intro o _;simp [YR]
    | cons k r ihl =>
      intro o hk;rw [YR];have h5:=ih k o (hk k (by simp));have h6:=ihl (q6v k o) fun k hk'=>hk k (by simp [hk']);simp only [length_cons,Nat.add_mul,Nat.one_mul];omega
   rw [x6k];have hp:2 ^ (n+1)=2*2 ^ n:=by rw [Nat.pow_succ];omega
   have hpos:0<2 ^ n:=Nat.pow_pos (by decide);have h4:=key x.kids (if x.op=2∧(out.any fun s=>x.name==s)=false then out++[x.name] else out) h3;have h5:x.kids.length*2 ^ n<=2*2 ^ n:=Nat.mul_le_mul_right _ h1;split at h4
   ·rename_i hc;have:=h2 hc.1;rw [this] at h4;rw [if_pos hc];simp only [length_append,List.length_singleton] at h4;omega
   ·rename_i hc;rw [if_neg hc];omega
def z2p (t:Nat) (out:List Str):Heap:=[(2000,.own t 1 (out.map .str))]
theorem q2s : ∀ (n:Nat) (_:n<=20) (x:X) (_:WW n x=true) (out:List Str) (_:out.length+2 ^ n<=1073741824),
  SpecH Tryz.prog 278 [.p (.agg x.cells),.hd 2000 0 out.length] (z2p 9 out) (fun r H=>r = .hd 2000 0 (q6v x out).length∧H=z2p 9 (q6v x out)):=by
 intro n;induction n with
 | zero=>intro _ x h;rw [WW] at h;cases h
 | succ n ih =>
   intro hn x hx out ho;have hp:2 ^ (n+1)=2*2 ^ n:=by rw [Nat.pow_succ];omega
   have hpos:0<2 ^ n:=Nat.pow_pos (by decide);obtain ⟨hk1,hk2,hk3⟩:=q7v hx;have hxl:=X.avs_len x.kids;refine sH q8a Tryz.func278 rfl Tryz.call278 ?_;conv=>whnf
   repeat' (first|((first|(refine iM fun _=>?_)|refine And.intro rfl ?_|refine aD ?_|refine bP ?_|(refine QI (QW out x.name) (.cons (.hd rfl (by simp)) (.cons (.p (Sub.refl _)) .nil)) (by rintro _ rfl;rfl) ?_;rintro _ rfl)|refine AppK.mk (by simp) rfl (by show (out.length+1)*16<=140737488355328;omega) (by show out.length+1<=9223372036854775807;omega) (fun x hx=>by rcases List.mem_singleton.1 hx with rfl;exact ⟨rfl,rfl⟩) ?_);conv=>whnf)|(apply bD<;>intro _<;>first|omega|conv=>whnf)|(apply bN<;>intro _<;>conv=>whnf))
   all_goals
    have hmul : ∀ j,j<x.kids.length->(x.kids.length-j)*2 ^ n=(x.kids.length-(j+1))*2 ^ n+2 ^ n:=fun j hj=>by
     rw [show x.kids.length-j=(x.kids.length-(j+1))+1 by omega,Nat.add_mul,Nat.one_mul]
    have hmul0:x.kids.length*2 ^ n<=2*2 ^ n:=Nat.mul_le_mul_right _ hk1;first
    | refine LoopK.inv QJ (fun i:Nat×List Str=>⟨[(1,.hd 2000 0 i.2.length),(23,.p (.sl (X.avs x.kids))),(24,.p (.int .i64 (X.avs x.kids).length)),(25,.p (.int .i64 i.1))],z2p 9 i.2⟩) (fun i=>i.1<=x.kids.length∧YR (x.kids.drop i.1) i.2=q6v x out∧i.2.length+(x.kids.length-i.1)*2 ^ n<=1073741824) (fun i=>x.kids.length-i.1) (0,out++[x.name]) (Le.of_eq (by simp [z2p];exact ⟨rfl,rfl⟩)) ⟨zero_le _,by simp only [drop_zero];rw [x6k,if_pos ⟨by assumption,by assumption⟩],by have:=hk2 (by assumption);simp [this];omega⟩ ?_
    | refine LoopK.inv QJ (fun i:Nat×List Str=>⟨[(1,.hd 2000 0 i.2.length),(23,.p (.sl (X.avs x.kids))),(24,.p (.int .i64 (X.avs x.kids).length)),(25,.p (.int .i64 i.1))],z2p 9 i.2⟩) (fun i=>i.1<=x.kids.length∧YR (x.kids.drop i.1) i.2=q6v x out∧i.2.length+(x.kids.length-i.1)*2 ^ n<=1073741824) (fun i=>x.kids.length-i.1) (0,out) (Le.of_eq rfl) ⟨zero_le _,by simp only [drop_zero];rw [x6k,if_neg (by simp [*])],by simp only [Nat.sub_zero];omega⟩ ?_
    rintro ⟨j,acc⟩ ⟨h2,h3,h4⟩;simp only at h2 h3 h4 ⊢;conv=>whnf
    repeat' (first|((first|refine And.intro rfl ?_|refine IdxK.xs (by omega) ?_);conv=>whnf)|(apply bD<;>intro _<;>first|omega|conv=>whnf))
    all_goals first
     | (rw [z7s (by omega)] at h3
        exact ⟨_,.refl _,by rw [h3];exact ⟨rfl,rfl⟩⟩)
     | (have hj:j<x.kids.length:=by omega
        have hm:=hmul j hj;have hg:=z6t n x.kids[j] acc (hk3 _ (List.getElem_mem hj));refine CallK.heap [(2000,2000)] 0 (by repeat' (first|exact ArgsH.nil|refine ArgsH.cons ?_ ?_|exact LSub.refl _|exact LSub.p Sub.nils|exact LSub.p (Sub.tt rfl)|exact LSub.p (Sub.ff rfl)|exact LSub.p (Sub.int (by omega)))) (by refine BlksH.cons (j:=2000) rfl rfl ?_ ?_;exact CSub.refl _;exact BlksH.nil) (ih (by omega) x.kids[j] (hk3 _ (List.getElem_mem hj)) acc (by omega)) rfl rfl ?_;rintro l' H' ⟨rfl,rfl⟩;conv=>whnf
        refine wI ?_;conv=>whnf
        exact ⟨(j+1,q6v x.kids[j] acc),⟨by simp only;omega,by simp only;rw [<- h3,z2j hj],by simp only;omega⟩,by simp only;omega,Le.of_eq rfl⟩)
def XD (x:X):List Str:=bif x6h x then q6v x [] else []
theorem VH (x:X):(XD x).length<=1048576:=by
 unfold XD;cases h:x6h x with
 | false=>simp
 | true =>
   have:=(z6t 20 x [] h).2;simpa using this
theorem q0z (x:X):SpecP Tryz.prog 211 [.agg x.cells] (fun r=>r=eStrs (XD x)):=by
 refine sB q0i Tryz.func211 rfl Tryz.call211 ?_;conv=>whnf
 repeat' (first|(refine cP (UD _) ?_;conv=>whnf)|(apply bN<;>intro _<;>conv=>whnf))
 ·refine CallK.nil 5 9 1 rfl (.cons rfl (.row .nil)) ?_;refine CallK.heap [(2000,5)] 0 (by repeat' (first|exact ArgsH.nil|refine ArgsH.cons ?_ ?_|exact LSub.refl _|exact LSub.p Sub.nils|exact LSub.p (Sub.tt rfl)|exact LSub.p (Sub.ff rfl)|exact LSub.p (Sub.int (by omega)))) (by refine BlksH.cons (j:=5) rfl rfl ?_ ?_;exact CSub.refl _;exact BlksH.nil) (q2s 20 (by omega) x (by assumption) [] (by simp)) rfl rfl ?_;rintro l' H' ⟨rfl,rfl⟩;conv=>whnf
  refine ⟨_,.hd rfl (by simp),?_⟩;unfold XD;rw [show x6h x=true by assumption];rfl
 ·refine ⟨_,.p Sub.nils,?_⟩;unfold XD;rw [show x6h x=false by assumption];rfl
def YJ (a:Arg):List Str:=(bif a.ref then [a.name] else [])++XD a.x
def GE (t:S):List Str:=(bif t.kind≠10 && !(t.name==[]) then [t.name] else [])++XD t.x
def WC (t:S):List Str:=GE t++t.args.flatMap YJ
theorem z1k (a:Arg):(YJ a).length<=1048577:=by
 have:=VH a.x;unfold YJ;cases a.ref<;>simp<;>omega
theorem z0b (t:S):(GE t).length<=1048577:=by
 have:=VH t.x;unfold GE;cases (t.kind≠10 && !(t.name==[]):Bool)<;>simp<;>omega
theorem KR {α β:Type} {f:α->List β} {c:Nat} (h : ∀ a,(f a).length<=c) : ∀ l:List α,(l.flatMap f).length<=l.length*c
 | []=>by simp
 | x::r=>by
   have:=KR h r;have:=h x;simp only [List.flatMap_cons,length_append,length_cons,Nat.add_mul,Nat.one_mul];omega
def z0r (t:S) (j:Nat):List Str:=GE t++(t.args.take j).flatMap YJ
theorem w0w (t:S) {j:Nat} (h:j<=t.args.length) (ha:t.args.length<=20000):(z0r t j).length<=21000000000:=by
 have h1:=z0b t;have h2:=KR z1k (t.args.take j);have h3:(t.args.take j).length*1048577<=20000*1048577:=Nat.mul_le_mul_right _ (by simp;omega);unfold z0r;simp only [length_append];omega
theorem z5k {t:S} {j:Nat} (hj:j<t.args.length):z0r t (j+1)=z0r t j++YJ t.args[j]:=by
 unfold z0r;rw [List.take_succ_eq_append_getElem hj,List.flatMap_append,List.append_assoc];simp
def q6t (t:S) (tS:Nat) (j:Nat):St:=⟨[(3,.hd 0 0 (z0r t j).length),(25,.p (.sl (t.args.map fun a => .agg a.cells))),(26,.p (.int .i64 (t.args.map fun a=>AV.agg a.cells).length)),(27,.p (.int .i64 j))],[(0,.own tS 1 ((z0r t j).map .str))]⟩
theorem q7k (t:S) (ha:t.args.length<=20000):SpecP Tryz.prog 273 [.agg t.cells] (fun r=>r=eStrs (WC t)):=by
 refine sB x1k Tryz.func273 rfl Tryz.call273 ?_;conv=>whnf
 repeat' (first|((first|(refine iM fun _=>?_)|refine cP (q0z _) ?_|refine And.intro rfl ?_|refine aD ?_|refine bP ?_|refine FN _ (by simp) (by have:=VH t.x;simp;omega) ?_|refine QE (by simp) (by simp) ?_);conv=>whnf)|(apply bE<;>intro _<;>first|omega|conv=>whnf)|(apply bN<;>intro _<;>conv=>whnf))
 all_goals
  have hl:(t.args.map fun a=>AV.agg a.cells).length=t.args.length:=length_map _;refine LoopK.inv QJ (q6t t 9) (fun j=>j<=t.args.length) (fun j=>t.args.length-j) 0 (Le.of_eq ?_) (zero_le _) ?_
  ·first
    | (have e:z0r t 0=XD t.x:=by simp [z0r,GE,show t.kind=10 by assumption]
       rw [q6t,e];simp only [Nat.zero_add,length_map,length_append,List.map_append,nil_append];rfl)
    | (have e:z0r t 0=XD t.x:=by simp [z0r,GE,show t.name=[] by simpa using (show (t.name==[])=true by assumption)]
       rw [q6t,e];simp only [Nat.zero_add,length_map,length_append,List.map_append,nil_append];rfl)
    | (have e:z0r t 0=[t.name]++XD t.x:=by
        have:(t.name==[])=false:=by assumption
        simp [z0r,GE,show ¬t.kind=10 by assumption,this]
       rw [q6t,e];simp only [Nat.zero_add,length_map,length_append,List.map_append,nil_append];rfl)
  intro j h2;have hacc:=w0w t h2 ha;conv=>whnf
  repeat' (first|((first|refine cP (q0z _) ?_|refine And.intro rfl ?_|refine aD ?_|refine bP ?_|(refine iA fun _=>?_)|refine wI ?_|refine FN _ (by simp) (by have:=VH (t.args[j]'(by omega)).x;simp;omega) ?_|refine QE (by simp) (by simp;omega) ?_);conv=>whnf)|(apply bD<;>intro _<;>first|omega|conv=>whnf)|(apply bB<;>intro _<;>conv=>whnf))
  all_goals first
   | exact ⟨_,.hd rfl (by simp),by
      have:t.args.take j=t.args:=take_of_length_le (by omega);rw [WC,<- this];rfl⟩
   | (have hj:j<t.args.length:=by omega
      have hst:=z5k hj;refine ⟨j+1,by show j+1<=_;omega,by show t.args.length-(j+1)<t.args.length-j;omega,Le.of_eq ?_⟩;first
       | (have hn:YJ t.args[j]=[t.args[j].name]++XD t.args[j].x:=by rw [YJ,show t.args[j].ref=true by assumption];rfl
          rw [q6t,hst,hn];simp only [length_append,List.map_append,length_map,<- List.append_assoc,<- Nat.add_assoc];rfl)
       | (have hn:YJ t.args[j]=XD t.args[j].x:=by rw [YJ,show t.args[j].ref=false by assumption];rfl
          rw [q6t,hst,hn];simp only [length_append,List.map_append,length_map];rfl))
def x8x:List Str->Nat
 | []=>0
 | s::r=>1+x8x r
mutual
def wX:X->Nat
 | .mk _ _ name kids=>1+wXs kids
def wXs:List X->Nat
 | []=>0
 | x::r=>wX x+wXs r
end
def GW:List Arg->Nat
 | []=>0
 | a::r=>wX a.x+1+GW r
mutual
def wS:S->Nat
 | .mk _ _ labels name proc x _ args thn els=>wX x+x8x labels+1+1+GW args+wL thn+wL els
def wL:List S->Nat
 | []=>0
 | s::r=>wS s+wL r
end
def z8h:List Param->Nat
 | []=>0
 | a::r=>1+z8h r
def wPr (f:Pr):Nat:=1+x8x f.vars+x8x f.fin+z8h f.params+wL f.body
def z8g:List Pr->Nat
 | []=>0
 | f::r=>wPr f+z8g r
def wPg (p:Pg):Nat:=x8x p.globals+z8g p.procs
def Fit (p:Pg):Prop:=wPg p<=20000
theorem DJ : ∀ l:List Str,l.length<=x8x l
 | []=>zero_le _
 | s::r=>by have:=DJ r;simp only [length_cons,x8x];omega
theorem HY : ∀ l:List Arg,l.length<=GW l
 | []=>zero_le _
 | s::r=>by have:=HY r;simp only [length_cons,GW];omega
theorem x8o : ∀ l:List Param,l.length<=z8h l
 | []=>zero_le _
 | s::r=>by have:=x8o r;simp only [length_cons,z8h];omega
theorem z0p (s:S):wS s=wX s.x+x8x s.labels+1+1+GW s.args+wL s.thn+wL s.els:=by
 cases s;rw [wS];rfl
mutual
theorem w7k : ∀ s:S,ZS s<=wS s
 | .mk id kind labels name proc x has args thn els=>by
   have:=x1g thn;have:=x1g els;rw [ZS,wS];omega
theorem x1g : ∀ l:List S,cntL l<=wL l
 | []=>by rw [cntL,wL];exact Nat.le_refl _
 | s::r=>by
   have:=w7k s;have:=x1g r;rw [cntL,wL];omega
end
theorem z7n : ∀ {l:List Pr} {f:Pr},f∈l->wPr f<=z8g l
 | g::r,f,h=>by
   simp only [z8g];rcases List.mem_cons.1 h with rfl|h
   ·omega
   ·have:=z7n h;omega
theorem Fit.pr {p:Pg} (h:Fit p) {f:Pr} (hf:f∈p.procs):wPr f<=20000:=by
 have:=z7n hf;unfold Fit wPg at h;omega
mutual
def flS:S->List S
 | .mk id kind labels name proc x has args thn els => .mk id kind labels name proc x has args thn els::(flL thn++flL els)
def flL:List S->List S
 | []=>[]
 | s::r=>flS s++flL r
end
theorem q6b (s:S):flS s=s::(flL s.thn++flL s.els):=by
 cases s;rw [flS];rfl
mutual
theorem w3j : ∀ s:S,(flS s).length=ZS s
 | .mk id kind labels name proc x has args thn els=>by
   rw [flS,ZS,length_cons,length_append,q9b thn,q9b els];omega
theorem q9b : ∀ l:List S,(flL l).length=cntL l
 | []=>by rw [flL,cntL];rfl
 | s::r=>by rw [flL,cntL,length_append,w3j s,q9b r]
end
mutual
theorem v0k : ∀ (s t:S),t∈flS s->wS t<=wS s
 | .mk id kind labels name proc x has args thn els,t,h=>by
   rw [flS] at h;rcases List.mem_cons.1 h with rfl|h
   ·exact Nat.le_refl _
   ·rw [wS];rcases List.mem_append.1 h with h|h
    ·have:=x4t thn t h;omega
    ·have:=x4t els t h;omega
theorem x4t : ∀ (l:List S) (t:S),t∈flL l->wS t<=wL l
 | [],t,h=>by rw [flL] at h;cases h
 | s::r,t,h=>by
   rw [flL] at h;rw [wL];rcases List.mem_append.1 h with h|h
   ·have:=v0k s t h;omega
   ·have:=x4t r t h;omega
end

mutual
def itS (proc up nx loop:Int) (n:Nat):S->List Item
 | .mk id kind labels name pr x has args thn els =>
   ⟨.mk id kind labels name pr x has args thn els,proc,up,nx,loop⟩::(itL proc (n+1) (if kind=6 then n+1 else nx) (if kind=6 then n+1 else loop) (n+1) thn ++
     itL proc (n+1) (if kind=6 then n+1 else nx) (if kind=6 then n+1 else loop) (n+1+cntL thn) els)
def itL (proc up nx loop:Int) (n:Nat):List S->List Item
 | []=>[]
 | t::r=>itS proc up (if r.isEmpty then nx else n+1+ZS t) loop n t++itL proc up nx loop (n+ZS t) r
end
mutual
theorem w3a (proc up nx loop:Int) : ∀ (t:S) (acc:List Item),q2k proc up nx loop acc t=acc++itS proc up nx loop acc.length t
 | .mk id kind labels name pr x has args thn els,acc=>by
   rw [q2k,itS,KS _ _ _ _ thn,KS _ _ _ _ els];simp only [length_append,length_cons,List.length_nil,List.append_assoc,List.cons_append,nil_append,ZB proc _ _ _ _ thn,Nat.zero_add,Nat.add_assoc,Nat.add_comm (cntL thn) 1]
theorem KS (proc up nx loop:Int) : ∀ (l:List S) (acc:List Item),XJ proc up nx loop acc l=acc++itL proc up nx loop acc.length l
 | [],acc=>by rw [XJ,itL,List.append_nil]
 | t::r,acc=>by
   rw [XJ,itL,w3a _ _ _ _ t,KS _ _ _ _ r];simp only [length_append,List.append_assoc,z7h proc _ _ _ _ t]
theorem z7h (proc up nx loop:Int) (n:Nat) : ∀ t:S,(itS proc up nx loop n t).length=ZS t
 | .mk id kind labels name pr x has args thn els=>by
   rw [itS,ZS,length_cons,length_append,ZB _ _ _ _ _ thn,ZB _ _ _ _ _ els];omega
theorem ZB (proc up nx loop:Int) (n:Nat) : ∀ l:List S,(itL proc up nx loop n l).length=cntL l
 | []=>by rw [itL,cntL];rfl
 | t::r=>by rw [itL,cntL,length_append,z7h _ _ _ _ _ t,ZB _ _ _ _ _ r]
end
mutual
theorem w9u (proc up nx loop:Int) (n:Nat) : ∀ t:S,(itS proc up nx loop n t).map Item.s=flS t
 | .mk id kind labels name pr x has args thn els=>by
   rw [itS,flS,map_cons,List.map_append,LU _ _ _ _ _ thn,LU _ _ _ _ _ els]
theorem LU (proc up nx loop:Int) (n:Nat) : ∀ l:List S,(itL proc up nx loop n l).map Item.s=flL l
 | []=>by rw [itL,flL];rfl
 | t::r=>by rw [itL,flL,List.map_append,w9u _ _ _ _ _ t,LU _ _ _ _ _ r]
end
def QM:List Pr->Nat->Nat
 | _,0=>0
 | [],_+1=>0
 | f::r,i+1=>cntL f.body+QM r i
theorem x3z : ∀ (l:List Pr) (i:Nat) (acc:List Item) (lo hi:List Int),lo.length=i->hi.length=i ->
  (q1z i acc lo hi l).2.1.length=i+l.length∧(q1z i acc lo hi l).2.2.length=i+l.length ∧
  (∀ k,k<i->(q1z i acc lo hi l).2.1[k]? = lo[k]? ∧ (q1z i acc lo hi l).2.2[k]? = hi[k]?) ∧ ∃ L,(q1z i acc lo hi l).1=acc++L∧L.length=cntP l ∧
  ∀ (k:Nat) (f:Pr),l[k]? = some f->(q1z i acc lo hi l).2.1[i+k]? = some ((acc.length+QM l k:Nat)+1:Int)∧(q1z i acc lo hi l).2.2[i+k]? = some ((acc.length+QM l k+cntL f.body:Nat)+1:Int) ∧
   QM l k+cntL f.body<=cntP l∧(L.take (QM l k+cntL f.body)).drop (QM l k)=itL (i+k:Nat) 0 (-1) 0 (acc.length+QM l k) f.body
 | [],i,acc,lo,hi,h1,h2=>by
   rw [q1z];exact ⟨by simpa using h1,by simpa using h2,fun _ _=>⟨rfl,rfl⟩,[],by simp,rfl,fun k f h=>by simp at h⟩
 | f::r,i,acc,lo,hi,h1,h2=>by
   rw [q1z];have hrow:=KS i 0 (-1) 0 f.body acc;have hlen:=XZ i 0 (-1) 0 acc f.body;obtain ⟨h3,h4,h5,L,h6,h7,h8⟩:=x3z r (i+1) (XJ i 0 (-1) 0 acc f.body) (lo++[(acc.length:Int)+1]) (hi++[((XJ i 0 (-1) 0 acc f.body).length:Int)+1]) (by simp [h1]) (by simp [h2]);refine ⟨by rw [h3,length_cons];omega,by rw [h4,length_cons];omega,fun k hk => ?_,itL i 0 (-1) 0 acc.length f.body++L,?_,?_,fun k g hg => ?_⟩
   ·obtain ⟨h9,h10⟩:=h5 k (by omega);rw [h9,h10,List.getElem?_append_left (by omega),List.getElem?_append_left (by omega)];exact ⟨rfl,rfl⟩
   ·rw [h6,hrow,List.append_assoc]
   ·rw [length_append,h7,ZB,cntP]
   ·cases k with
    | zero =>
      simp only [List.getElem?_cons_zero,Option.some.injEq] at hg;subst hg;obtain ⟨h9,h10⟩:=h5 i (by omega);simp only [Nat.add_zero,QM,Nat.zero_add,drop_zero];refine ⟨?_,?_,?_,?_⟩
      ·rw [h9,List.getElem?_append_right (by omega),h1];simp
      ·rw [h10,List.getElem?_append_right (by omega),h2,hlen];simp
      ·rw [cntP];omega
      ·rw [List.take_append_of_le_length (by rw [ZB];omega),take_of_length_le (by rw [ZB];omega)]
    | succ k =>
      simp only [List.getElem?_cons_succ] at hg;obtain ⟨h9,h10,h11,h12⟩:=h8 k g hg;rw [hlen] at h12;simp only [QM];refine ⟨?_,?_,?_,?_⟩
      ·rw [show i+(k+1)=i+1+k by omega,h9,hlen];congr 2;omega
      ·rw [show i+(k+1)=i+1+k by omega,h10,hlen];congr 2;omega
      ·rw [cntP];omega
      ·rw [List.take_append,List.drop_append,ZB,take_of_length_le (by rw [ZB];omega),drop_eq_nil_of_le (by rw [ZB];omega),nil_append];simp only [ZB];rw [show cntL f.body+QM r k+cntL g.body-cntL f.body=QM r k+cntL g.body by omega,show cntL f.body+QM r k-cntL f.body=QM r k by omega,h12];rw [show i+(k+1)=i+1+k by omega,show acc.length+(cntL f.body+QM r k)=acc.length+cntL f.body+QM r k by omega]
theorem QK (p:Pg):(sheetOf p).p=p∧(sheetOf p).lo.length=p.procs.length∧(sheetOf p).hi.length=p.procs.length∧(sheetOf p).l.length=cntP p.procs ∧
  ∀ (k:Nat) (f:Pr),p.procs[k]? = some f->(sheetOf p).lo[k]? = some ((QM p.procs k:Nat)+1:Int)∧(sheetOf p).hi[k]? = some ((QM p.procs k+cntL f.body:Nat)+1:Int) ∧
   QM p.procs k+cntL f.body<=cntP p.procs∧((sheetOf p).l.take (QM p.procs k+cntL f.body)).drop (QM p.procs k)=itL k 0 (-1) 0 (QM p.procs k) f.body:=by
 obtain ⟨h3,h4,_,L,h6,h7,h8⟩:=x3z p.procs 0 [] [] [] rfl rfl;refine ⟨rfl,by unfold sheetOf;simpa using h3,by unfold sheetOf;simpa using h4,by unfold sheetOf;simp [h6,h7],fun k f hk => ?_⟩;have:=h8 k f hk;unfold sheetOf;simp only [h6,nil_append,List.length_nil,Nat.zero_add] at this ⊢;exact this
mutual
theorem x8p (nest seen:Int) : ∀ (s:S) {m:Int},q6h nest seen s=some m->m=seen+ZS s
 | .mk id kind labels name proc x has args thn els,m,h=>by
   simp only [q6h] at h;split at h
   ·cases h
   split at h
   ·cases h
   cases hn:namesB labels<;>rw [hn] at h
   ·cases h
   cases hf:ZC (.mk id kind labels name proc x has args thn els)<;>rw [hf] at h
   ·cases h
   simp only [cond_true] at h;split at h
   ·rename_i m1 h1;have h2:=GP (nest+1) (seen+1) thn h1;have h3:=GP (nest+1) m1 els h;rw [ZS];omega
   ·cases h
theorem GP (nest seen:Int) : ∀ (l:List S) {m:Int},YZ nest seen l=some m->m=seen+cntL l
 | [],m,h=>by
   simp only [YZ] at h;cases h;rw [cntL];simp
 | s::r,m,h=>by
   simp only [YZ] at h;split at h
   ·cases h
   split at h
   ·rename_i m1 h1;have h2:=x8p nest seen s h1;have h3:=GP nest m1 r h;rw [cntL];omega
   ·cases h
end
theorem q7b : ∀ (l:List Pr) {seen m:Int},seen<=200->ZG seen l=some m->m=seen+cntP l∧m<=200
 | [],seen,m,h0,h=>by rw [ZG] at h;cases h;simp [cntP];exact h0
 | f::r,seen,m,h0,h=>by
   rw [ZG] at h;cases hm:BE f<;>rw [hm] at h
   ·cases h
   simp only [cond_true] at h;split at h
   ·rename_i m1 h1;have h2:=GP 1 seen f.body h1;have h3:=q5z 1 seen f.body h0 h1;have h4:=q7b r (by omega) h;rw [cntP];omega
   ·cases h
theorem YQ {p:Pg} (h:MY p=true):p.globals.length<=16∧p.procs.length<=16∧cntP p.procs<=200:=by
 unfold MY at h;simp only [Bool.and_eq_true,decide_eq_true_eq] at h;obtain ⟨⟨⟨h1,h2⟩,_⟩,h3⟩:=h;cases hm:ZG 0 p.procs with
 | none=>rw [hm] at h3;cases h3
 | some m =>
   have:=q7b p.procs (by decide) hm;omega
theorem z3j {p:Pg} (h:MY p=true) {f:Pr} (hf:f∈p.procs):BE f=true:=by
 unfold MY at h;simp only [Bool.and_eq_true] at h;have h3:=h.2;have key : ∀ (l:List Pr) (seen:Int),(ZG seen l).isSome=true -> ∀ f∈l,BE f=true:=fun l=>by
  induction l with
  | nil=>intro _ _ f hf;cases hf
  | cons g r ih =>
    intro seen h f hf;rw [ZG] at h;cases hm:BE g<;>rw [hm] at h
    ·cases h
    simp only [cond_true] at h;split at h
    ·rename_i m1 h1;rcases List.mem_cons.1 hf with rfl|hf
     ·exact hm
     ·exact ih _ h f hf
    ·cases h
 exact key _ _ h3 f hf
def LM (p:Pg) (f:Pr) (name:Str):Int :=
 match f.params.find? (fun a=>a.name==name) with
 | some a=>bif a.ref then 3 else 2
 | none=>bif f.vars.any (fun s=>name==s) then 4 else bif p.globals.any (fun s=>name==s) then 1 else 0
theorem LN {α:Type} {l:List α} {p:α->Bool} {j:Nat} (hj:j<l.length) (h:p l[j]=false):(l.drop (j+1)).find? p=(l.drop j).find? p:=by
 rw [QD hj,List.find?_cons,h]
theorem FE {α:Type} {l:List α} {p:α->Bool} {j:Nat} (hj:j<l.length) (h:p l[j]=true):(l.drop j).find? p=some l[j]:=by
 rw [QD hj,List.find?_cons,h]
theorem FI {α:Type} {l:List α} {p:α->Bool} {j:Nat} (hj:l.length<=j):(l.drop j).find? p=none:=by
 rw [drop_eq_nil_of_le hj];rfl
theorem z2q (p:Pg) (f:Pr) (name:Str):SpecP Tryz.prog 123 [.agg p.cells,.agg f.cells,.str name] (fun r=>r = .int .i64 (LM p f name)):=by
 refine sB x2m Tryz.func123 rfl Tryz.call123 ?_;conv=>whnf
 repeat' (refine iM fun _=>?_;conv=>whnf)
 have hl:(f.params.map fun a=>AV.agg a.cells).length=f.params.length:=length_map _;refine LoopK.inv QJ (fun j:Nat=>⟨[(2,.p (.str name)),(3,.p (.ip p.cells)),(4,.p (.ip f.cells)),(10,.p (.sl (f.params.map fun a => .agg a.cells))),(11,.p (.int .i64 (f.params.map fun a=>AV.agg a.cells).length)),(12,.p (.int .i64 j))],[]⟩) (fun j=>j<=f.params.length∧(f.params.drop j).find? (fun a=>a.name==name)=f.params.find? (fun a=>a.name==name)) (fun j=>f.params.length-j) 0 (Le.of_eq rfl) ⟨zero_le _,rfl⟩ ?_;rintro j ⟨h2,h3⟩;conv=>whnf
 repeat' (first|((first|refine cP (QW _ _) ?_|refine And.intro rfl ?_|(refine iA fun _=>?_)|refine wI ?_);conv=>whnf)|(apply bD<;>intro _<;>first|omega|conv=>whnf)|(apply bB<;>intro _<;>conv=>whnf))
 all_goals try have hj:j<f.params.length:=by omega
 all_goals first
  | (exfalso
     have h8:((f.params[j]'(by omega)).name==name)=true:=by assumption
     have h9:((f.params[j]'(by omega)).name==name)=false:=by assumption
     rw [h8] at h9;cases h9)
  | (have e:=FE (p:=fun a:Param=>a.name==name) (by omega) (by assumption)
     rw [h3] at e;exact RetK.int (by unfold LM;rw [e];simp [*]))
  | (refine ⟨j+1,⟨by omega,by rw [<- h3,LN (p:=fun a:Param=>a.name==name) (by omega) (by assumption)]⟩,by omega,Le.of_eq rfl⟩)
  | (have e:f.params.find? (fun a=>a.name==name)=none:=by rw [<- h3,FI (by omega)]
     exact RetK.int (by unfold LM;rw [e];simp [*]))
def mainS:Str:=[109,97,105,110]
def WR (p:Pg) (f:Pr) (procs:List Str) (t:S):Bool:=(WC t).all (fun n => !(LM p f n==0))&&(decide (t.kind≠4)||(!(t.proc==mainS)&&procs.any fun s=>t.proc==s))
theorem x6b (p:Pg) (f:Pr) (procs:List Str) (t:S) (ha:t.args.length<=20000):SpecP Tryz.prog 199 [.agg p.cells,.agg f.cells,eStrs procs,.agg t.cells] (fun r=>r = .bool (WR p f procs t)):=by
 refine sB q9u Tryz.func199 rfl Tryz.call199 ?_;conv=>whnf
 repeat' ((first|(refine iM fun _=>?_)|refine cP (q7k _ ha) ?_);conv=>whnf)
 have hl:((WC t).map AV.str).length=(WC t).length:=length_map _;refine LoopK.inv QJ (fun j:Nat=>⟨[(2,.p (eStrs procs)),(4,.p (.ip p.cells)),(5,.p (.ip f.cells)),(7,.p (.ip t.cells)),(12,.p (eStrs (WC t))),(13,.p (.int .i64 ((WC t).map AV.str).length)),(14,.p (.int .i64 j))],[]⟩) (fun j=>j<=(WC t).length∧((WC t).drop j).all (fun n => !(LM p f n==0))=(WC t).all (fun n => !(LM p f n==0))) (fun j=>(WC t).length-j) 0 (Le.of_eq rfl) ⟨zero_le _,rfl⟩ ?_;rintro j ⟨h2,h3⟩;conv=>whnf
 repeat' (first|((first|refine cP (z2q _ _ _) ?_|refine cP (QW _ _) ?_|(refine iA fun _=>?_)|refine wI ?_);conv=>whnf)|(apply bD<;>intro _<;>first|omega|conv=>whnf)|(apply bE<;>intro _<;>first|omega|conv=>whnf)|(apply bN<;>intro _<;>conv=>whnf))
 ·exact RetK.ff (by
   have e:=q7a (p:=fun n => !(LM p f n==0)) (l:=WC t) (j:=j) (by omega) (by simp;assumption);rw [WR,<- h3,e,Bool.false_and])
 ·exact ⟨j+1,⟨by omega,by rw [<- h3,q5k (p:=fun n => !(LM p f n==0)) (by omega) (by simp;assumption)]⟩,by omega,Le.of_eq rfl⟩
 all_goals
  have e:(WC t).all (fun n => !(LM p f n==0))=true:=by rw [<- h3,q3o (by omega)]
 ·exact RetK.ff (by
   have h8:(t.proc==mainS)=true:=by assumption
   rw [WR,e,h8];simp [*])
 ·exact RetK.bool (by
   have h8:(t.proc==mainS)=false:=by assumption
   rw [WR,e,h8];simp [*])
 ·exact RetK.tt (by rw [WR,e];simp [*])
def q7r (c at_:Int):AV := .agg [.int .i64 c,.int .i64 at_]
def QH (p:Pg):List Str:=p.procs.map Pr.name
def WN (p:Pg):Bool:=ZA p.globals||(ZA (QH p)||(!((QH p).any fun s=>mainS==s)||match p.procs.find? (fun f=>mainS==f.name) with
 | some f=>decide (0<f.params.length)
 | none=>true))
def ZD (p:Pg) (f:Pr):Option Int :=
 bif ZA (x1r f)||(x1r f).any (fun n=>p.globals.any fun s=>n==s) then some 0 else ((flL f.body).find? fun t => !WR p f (QH p) t).map S.id
def QC (p:Pg):Int×Int :=
 bif MY p then bif WN p then (5,0) else match p.procs.findSome? (ZD p) with
  | some a=>(5,a)
  | none=>(0,0)
 else (1,0)
theorem x8c {α:Type} {l:List α} {p:α->Bool} (h:l.any p=true) : ∃ (k:Nat) (hk:k<l.length),q0t p l=k∧p l[k]=true∧l.find? p=some l[k]:=by
 have h1:l.findIdx p<l.length:=by
  rw [List.findIdx_lt_length];exact List.any_eq_true.1 h
 refine ⟨l.findIdx p,h1,by unfold q0t;rw [h];rfl,List.findIdx_getElem,?_⟩;rw [List.find?_eq_some_iff_getElem];exact ⟨List.findIdx_getElem,l.findIdx p,h1,rfl,fun j hj=>by simpa using List.not_of_lt_findIdx hj⟩
theorem z9d {p:Pg} (h:(QH p).any (fun s=>mainS==s)=true) : ∃ (k:Nat) (hk:k<p.procs.length),q0t (fun s=>mainS==s) (QH p)=k∧p.procs.find? (fun f=>mainS==f.name)=some p.procs[k]:=by
 have h':p.procs.any (fun f=>mainS==f.name)=true:=by simpa [QH,List.any_map,Function.comp_def] using h
 obtain ⟨k,hk,h1,_,h2⟩:=x8c h';refine ⟨k,hk,?_,h2⟩;rw [<- h1];unfold q0t;rw [h,h'];simp [QH,List.findIdx_map,Function.comp_def]
theorem z0o (p:Pg) {j:Nat} {f:Pr} (hj:p.procs[j]? = some f) (hc:cntP p.procs<=1000):SpecP Tryz.prog 198 [.ip (sheetOf p).cells,.int .i64 j] (fun r=>r=VT (itL j 0 (-1) 0 (QM p.procs j) f.body)):=by
 obtain ⟨_,h2,h3,h4,h5⟩:=QK p;obtain ⟨h6,h7,h8,h9⟩:=h5 j f hj;have:=NC (sheetOf p) j _ _ h6 h7 (by omega) (by omega) (by omega);rw [h9] at this;exact this
theorem VF (l:List Item):(l.map fun i=>AV.agg i.cells).length=l.length:=length_map _
theorem q3u {α β:Type} {l:List α} {f:α->Option β} {j:Nat} (hj:j<l.length) (h:f l[j]=none):(l.drop (j+1)).findSome? f=(l.drop j).findSome? f:=by
 rw [QD hj,List.findSome?_cons,h]
theorem VG {α β:Type} {l:List α} {f:α->Option β} {j:Nat} {b:β} (hj:j<l.length) (h:f l[j]=some b):(l.drop j).findSome? f=some b:=by
 rw [QD hj,List.findSome?_cons,h]
theorem q0m {α β:Type} {l:List α} {f:α->Option β} {j:Nat} (hj:l.length<=j):(l.drop j).findSome? f=none:=by
 rw [drop_eq_nil_of_le hj];rfl
theorem FS {q:S->Bool} (l:List Item):(l.find? fun it=>q it.s).map (fun it=>it.s.id)=((l.map Item.s).find? q).map S.id:=by
 rw [List.find?_map];cases h:l.find? (q∘Item.s) with
 | none=>rw [show (l.find? fun it=>q it.s)=none from h];rfl
 | some i=>rw [show (l.find? fun it=>q it.s)=some i from h];rfl
theorem z7j {l:List Pr} {j:Nat} (hj:j<l.length) (h:wPr l[j]<=20000) {a b c d:Int} {n k:Nat} (hk:k<(itL a b c d n l[j].body).length):(itL a b c d n l[j].body)[k].s.args.length<=20000:=by
 have hm:(itL a b c d n l[j].body)[k].s∈flL l[j].body:=by
  rw [<- LU a b c d n];exact List.mem_map.2 ⟨_,List.getElem_mem hk,rfl⟩
 have h1:=x4t _ _ hm;have h2:=z0p (itL a b c d n l[j].body)[k].s;have h3:=HY (itL a b c d n l[j].body)[k].s.args;unfold wPr at h;omega
theorem QP {H:Heap} {a b c d:Int} (h:a=c) (h':b=d):RetK H (.p (.agg [.int .i64 a,.int .i64 b])) (fun r=>r=q7r c d):=⟨_,.p (Sub.refl _),by rw [h,h'];rfl⟩
theorem YN (p:Pg) (hf:Fit p):SpecP Tryz.prog 129 [.agg p.cells] (fun r=>r=q7r (QC p).1 (QC p).2):=by
 refine sB q9i Tryz.func129 rfl Tryz.call129 ?_;conv=>whnf
 repeat' (first|((first|(refine iM fun _=>?_)|refine cP (x9s _) ?_|refine And.intro rfl ?_);conv=>whnf)|(apply bN<;>intro _<;>conv=>whnf))
 rotate_left 1
 ·exact QP (by simp [QC, *]) (by simp [QC, *])
 have hm:MY p=true:=by assumption
 obtain ⟨hg,hpl,hcn⟩:=YQ hm;have hl:(p.procs.map fun f=>AV.agg f.cells).length=p.procs.length:=length_map _;have hnl:(QH p).length=p.procs.length:=by simp [QH]
 refine LoopK.inv QJ (fun i:Nat×List Str=>⟨[(1,.p (.ip p.cells)),(2,.ptr 1 0),(3,.hd 0 0 i.2.length),(18,.p (.sl (p.procs.map fun f => .agg f.cells))),(19,.p (.int .i64 (p.procs.map fun f=>AV.agg f.cells).length)),(20,.p (.int .i64 i.1))],[(0,.own 9 1 (i.2.map .str)),(1,.obj 114 [.p (.int .i64 0),.p (.int .i64 0)])]⟩)
  (fun i=>i.1<=p.procs.length∧i.2=(QH p).take i.1) (fun i=>p.procs.length-i.1) (0,[])
  (Le.mk [(0,.own 9 1 [])] (by simp [Chunk.new0];rfl) (by simp) (by simp) (.cons (.refl _) (.cons (.refl _) (.cons (.nil mem_cons_self) (.cons (.refl _) (.cons (.refl _) (.cons (.refl _) .nil)))))) (.new mem_cons_self (.cons rfl (.refl _) .nil)))
  ⟨zero_le _,by simp⟩ ?_
 rintro ⟨j,acc⟩ ⟨h2,h3⟩;simp only at h2 h3 ⊢;have hal:acc.length<=16:=by rw [h3];simp;omega
 conv=>whnf
 repeat' (first|((first|refine And.intro rfl ?_|refine aD ?_|refine bP ?_|(refine iA fun _=>?_)|refine wI ?_|refine QE (by simp) (by simp;omega) ?_|(refine QI (ZT acc mainS) (.cons (.hd rfl (by simp)) (.cons (.p (Sub.refl _)) .nil)) (by rintro _ rfl;rfl) ?_;rintro _ rfl)|(refine QI (PQ acc) (.cons (.hd rfl (by simp)) .nil) (by rintro _ rfl;rfl) ?_;rintro _ rfl)|refine cP (PQ _) ?_);conv=>whnf)|(apply bD<;>intro _<;>first|omega|conv=>whnf)|(apply bB<;>intro _<;>conv=>whnf))
 ·exact ⟨(j+1,acc++[p.procs[j].name]),⟨by simp only;omega,by simp only;rw [h3,List.take_succ_eq_append_getElem (by omega)];simp [QH]⟩,by simp only;omega,Le.of_eq (by simp only [length_append,List.map_append];rfl)⟩
 all_goals
  have hacc:acc=QH p:=by rw [h3,take_of_length_le (by omega)]
  clear h3;subst hacc
 ·have hb:WN p=true:=by unfold WN;rw [show ZA p.globals=true by assumption];rfl
  exact QP (by unfold QC;rw [hm,hb];rfl) (by unfold QC;rw [hm,hb];rfl)
 ·have hb:WN p=true:=by unfold WN;rw [show ZA p.globals=false by assumption,show ZA (QH p)=true by assumption];rfl
  exact QP (by unfold QC;rw [hm,hb];rfl) (by unfold QC;rw [hm,hb];rfl)
 ·have hany:((QH p).any fun s=>mainS==s)=false:=by
   rw [<- q4q];simp;omega
  have hb:WN p=true:=by unfold WN;rw [show ZA p.globals=false by assumption,show ZA (QH p)=false by assumption,hany];rfl
  exact QP (by unfold QC;rw [hm,hb];rfl) (by unfold QC;rw [hm,hb];rfl)
 have hany:((QH p).any fun s=>mainS==s)=true:=by
  rw [<- q4q];simp;omega
 obtain ⟨k,hk,hik,hfind⟩:=z9d hany;have hlk:(p.procs.map fun f=>AV.agg f.cells)[k]? = some (.agg p.procs[k].cells):=by simp [hk]
 have hpl2:(p.procs[k].params.map fun a=>AV.agg a.cells).length=p.procs[k].params.length:=length_map _;refine IdxK.at hik hlk rfl ?_;conv=>whnf
 repeat' (first|((first|(refine iM fun _=>?_)|refine And.intro rfl ?_|(refine CallK.pure (DX p (by omega) (by omega)) (.cons (Sub.refl _) .nil) ?_;rintro _ rfl));conv=>whnf)|(apply bD<;>intro _<;>first|omega|conv=>whnf))
 ·have hb:WN p=true:=by
   unfold WN;rw [show ZA p.globals=false by assumption,show ZA (QH p)=false by assumption,hany,hfind];have:0<p.procs[k].params.length:=by omega
   simp [this]
  exact QP (by unfold QC;rw [hm,hb];rfl) (by unfold QC;rw [hm,hb];rfl)
 have hb:WN p=false:=by
  unfold WN;rw [show ZA p.globals=false by assumption,show ZA (QH p)=false by assumption,hany,hfind];have : ¬0<p.procs[k].params.length:=by omega
  simp [this]
 have hsc:QC p=match p.procs.findSome? (ZD p) with
  | some a=>(5,a)
  | none=>(0,0):=by unfold QC;rw [hm,hb];rfl
 rw [hsc];refine LoopK.inv QJ (fun j:Nat=>⟨[(1,.p (.ip p.cells)),(2,.ptr 1 0),(3,.hd 0 0 (QH p).length),(7,.p (.ip (sheetOf p).cells)),(57,.p (.sl (p.procs.map fun f => .agg f.cells))),(58,.p (.int .i64 (p.procs.map fun f=>AV.agg f.cells).length)),(59,.p (.int .i64 j))],[(0,.own 9 1 ((QH p).map .str)),(1,.obj 114 [.p (.int .i64 0),.p (.int .i64 0)])]⟩)
  (fun j=>j<=p.procs.length∧(p.procs.drop j).findSome? (ZD p)=p.procs.findSome? (ZD p)) (fun j=>p.procs.length-j) 0 (Le.of_eq rfl) ⟨zero_le _,rfl⟩ ?_
 clear h2 hik hfind hlk hpl2;rintro j ⟨h2,h3⟩;rcases Nat.lt_or_ge j p.procs.length with hj|hj;rotate_left 1
 ·have e:p.procs.findSome? (ZD p)=none:=by rw [<- h3,q0m hj]
  rw [e];conv=>whnf
  repeat' (first|(refine And.intro rfl ?_;conv=>whnf)|(apply bD<;>intro _<;>first|omega|conv=>whnf))
  exact QP rfl rfl
 have hfp:=hf.pr (List.getElem_mem hj);have hmp:=NY.1 (z3j hm (List.getElem_mem hj));conv=>whnf
 repeat' (first|((first|(refine iM fun _=>?_)|refine cP (PQ _) ?_|refine And.intro rfl ?_|(refine iA fun _=>?_)|(refine CallK.pure (z6d (p.procs[j]'hj) (by have:=hmp.1;omega) (by have:=hmp.2.1;omega)) (.cons (Sub.refl _) .nil) ?_;rintro _ rfl)|refine cP (VB (x1r (p.procs[j]'hj)) 197 (.ip p.cells) (fun n=>p.globals.any fun s=>n==s) (q9d p)) ?_|(refine CallK.pure (z0o p (f:=p.procs[j]'hj) (by simp) (by omega)) (.cons (Sub.refl _) (.cons (Sub.refl _) .nil)) ?_;rintro _ rfl));conv=>whnf)|(apply bD<;>intro _<;>first|omega|conv=>whnf)|(apply bB<;>intro _<;>conv=>whnf))
 ·have e:ZD p p.procs[j]=some 0:=by
   unfold ZD;rw [show ZA (x1r p.procs[j])=true by assumption];rfl
  have e2:=VG hj e;rw [h3] at e2;rw [e2];exact QP rfl rfl
 ·have e:ZD p p.procs[j]=some 0:=by
   unfold ZD;rw [show ZA (x1r p.procs[j])=false by assumption,show ((x1r p.procs[j]).any fun n=>p.globals.any fun s=>n==s)=true by assumption];rfl
  have e2:=VG hj e;rw [h3] at e2;rw [e2];exact QP rfl rfl
 have hsa:ZD p p.procs[j]=((flL p.procs[j].body).find? fun t => !WR p p.procs[j] (QH p) t).map S.id:=by
  unfold ZD;rw [show ZA (x1r p.procs[j])=false by assumption,show ((x1r p.procs[j]).any fun n=>p.globals.any fun s=>n==s)=false by assumption];rfl
 have hitm : ∀ k (hk:k<(itL (j:Nat) 0 (-1) 0 (QM p.procs j) p.procs[j].body).length),(itL (j:Nat) 0 (-1) 0 (QM p.procs j) p.procs[j].body)[k].s.args.length<=20000:=fun k hk=>z7j hj hfp hk;rw [<- LU (j:Nat) 0 (-1) 0 (QM p.procs j),<- FS] at hsa;have hib:(itL (j:Nat) 0 (-1) 0 (QM p.procs j) p.procs[j].body).length<=20000:=by
  have:=x1g p.procs[j].body;unfold wPr at hfp;rw [ZB];omega
 generalize hits:itL (j:Nat) 0 (-1) 0 (QM p.procs j) p.procs[j].body=its at hsa hitm hib ⊢;have hil:=VF its;refine LoopK.inv QJ (fun k:Nat=>⟨[(1,.p (.ip p.cells)),(2,.ptr 1 0),(3,.hd 0 0 (QH p).length),(7,.p (.ip (sheetOf p).cells)),(9,.p (.ip (p.procs[j]'hj).cells)),(57,.p (.sl (p.procs.map fun f => .agg f.cells))),(58,.p (.int .i64 (p.procs.map fun f=>AV.agg f.cells).length)),(59,.p (.int .i64 j)),(76,.p (VT its)),(77,.p (.int .i64 (its.map fun i=>AV.agg i.cells).length)),(78,.p (.int .i64 k))],[(0,.own 9 1 ((QH p).map .str)),(1,.obj 114 [.p (.int .i64 0),.p (.int .i64 0)])]⟩)
  (fun k=>k<=its.length∧(its.drop k).find? (fun it => !WR p p.procs[j] (QH p) it.s)=its.find? fun it => !WR p p.procs[j] (QH p) it.s) (fun k=>its.length-k) 0 (Le.of_eq rfl) ⟨zero_le _,rfl⟩ ?_
 rintro k ⟨h5,h6⟩;rcases Nat.lt_or_ge k its.length with hk|hk;rotate_left 1
 ·rw [<- h6,FI hk] at hsa;conv=>whnf
  repeat' (first|(refine wI ?_;conv=>whnf)|(apply bD<;>intro _<;>first|omega|conv=>whnf))
  exact ⟨j+1,⟨by omega,by rw [<- h3,q3u hj hsa]⟩,by omega,Le.of_eq rfl⟩
 have hka:=hitm k hk;conv=>whnf
 repeat' (first|((first|refine And.intro rfl ?_|(refine iA fun _=>?_)|refine wI ?_|(refine QI (x6b p p.procs[j] (QH p) its[k].s hka) (.cons (.p (Sub.refl _)) (.cons (.p (Sub.refl _)) (.cons (.hd rfl (by simp)) (.cons (.p (Sub.refl _)) .nil)))) (by rintro _ rfl;rfl) ?_;rintro _ rfl));conv=>whnf)|(apply bD<;>intro _<;>first|omega|conv=>whnf)|(apply bN<;>intro _<;>conv=>whnf))
 ·exact ⟨k+1,⟨by omega,by rw [<- h6,LN (p:=fun it:Item => !WR p p.procs[j] (QH p) it.s) hk (by simp;assumption)]⟩,by omega,Le.of_eq rfl⟩
 ·have e3:=FE (p:=fun it:Item => !WR p p.procs[j] (QH p) it.s) hk (by simp;assumption);rw [<- h6,e3] at hsa;have e2:=VG hj hsa;rw [h3] at e2;rw [e2];exact QP rfl rfl
def w6o:LV->Option Bool
 | .p .tt=>some true
 | .p .ff=>some false
 | .p (.bool b)=>some b
 | _=>none
theorem x9a {σ:Mem} {β:Lab} {l:LV} {v:Value} {b:Bool} (h:RepL σ β l v) (hb:w6o l=some b):v = .bool b:=by
 cases h with
 | p h=>cases h<;>simp [w6o] at hb<;>subst hb<;>rfl
 | _=>simp [w6o] at hb
theorem x4o {P:Program} {T:Tab} {hr:Bool} {s:St} {o:Oper} {K:LV->Prop} (hT:TabOK P T) {t u:TypeId} {x y:Operand} (hop:o.op = .binOp .neq t x y u) {i:TyI} (ht:T.get t=some i) (hd:i.desc = .bool)
  {a b:Bool} (hx:w6o (QT s.sl x)=some a) (hy:w6o (QT s.sl y)=some b) (hK:K (.p (.bool (a != b)))):ValO P hr s o K:=by
 refine ⟨fun σ β ac w hs _=>⟨_,.bool (a != b),hK,.p (.bool _),fun w' _ _ => ?_⟩⟩;have h1:=x9a (QV hs x) hx;have h2:=x9a (QV hs y) hy;have hu:=hT.of ht;rw [hd] at hu;have hg:(eqGuard .neq t x y (.bool a) (.bool b)).run P w' = .ok () w':=by unfold eqGuard;rfl
 have he:(Op.equal t (.bool a) (.bool b)).run P w' = .ok (a==b) w':=by
  have e:Op.equal t (.bool a) (.bool b)=Op.equalIn (9999+1) t (.bool a) (.bool b):=rfl;rw [e,Op.equalIn,Sem.run_bind,run_underlying hu,Result.andThen_ok];rfl
 simp only [execOp,hop,h1,h2,Sem.run_bind,hg,Result.andThen_ok,binOp];simp [he];cases a<;>cases b<;>rfl
def x1l (l:List Param) (args:List Arg):Bool:=decide (l.map Param.ref=args.map Arg.ref)
theorem z2u (l:List Param) (args:List Arg):SpecP Tryz.prog 274 [.sl (l.map fun a => .agg a.cells),z1q args] (fun r=>r = .bool (x1l l args)):=by
 refine sB x3d Tryz.func274 rfl Tryz.call274 ?_;conv=>whnf
 repeat' (first|(refine iM fun _=>?_;conv=>whnf)|(apply bE<;>intro _<;>first|omega|conv=>whnf))
 all_goals
  have hl:(l.map fun a=>AV.agg a.cells).length=l.length:=length_map _;have hl2:(args.map fun a=>AV.agg a.cells).length=args.length:=length_map _
 ·have hlen:l.length=args.length:=by omega
  refine LoopK.inv QJ (fun j:Nat=>⟨[(1,.p (z1q args)),(12,.p (.sl (l.map fun a => .agg a.cells))),(13,.p (.int .i64 (l.map fun a=>AV.agg a.cells).length)),(14,.p (.int .i64 j))],[]⟩) (fun j=>j<=l.length∧(l.map Param.ref).take j=(args.map Arg.ref).take j) (fun j=>l.length-j) 0 (Le.of_eq rfl) ⟨zero_le _,rfl⟩ ?_;rintro j ⟨h2,h3⟩;rcases Nat.lt_or_ge j l.length with hj|hj
  ·conv=>whnf
   repeat' (first|((first|refine dA ?_|refine And.intro rfl ?_|(refine iA fun _=>?_)|refine wI ?_|refine x4o QJ rfl rfl rfl rfl rfl ?_);conv=>whnf)|(apply bD<;>intro _<;>first|omega|conv=>whnf)|(apply bE<;>intro _<;>first|omega|conv=>whnf))
   ·have hne:l[j].ref=(args[j]'(by omega)).ref:=by assumption
    exact ⟨j+1,⟨by omega,by
     rw [List.take_succ_eq_append_getElem (by simp;omega),List.take_succ_eq_append_getElem (by simp;omega),h3];simp [hne]⟩,by omega,Le.of_eq rfl⟩
   ·have hne : ¬l[j].ref=(args[j]'(by omega)).ref:=by assumption
    exact RetK.ff (by
     unfold x1l;rw [decide_eq_false_iff_not];intro he;have:(l.map Param.ref)[j]? = (args.map Arg.ref)[j]? := by rw [he]
     rw [List.getElem?_map,List.getElem?_map,List.getElem?_eq_getElem hj,List.getElem?_eq_getElem (by omega)] at this;simp at this;exact hne this)
  ·conv=>whnf
   repeat' (apply bD<;>intro _<;>first|omega|conv=>whnf)
   exact RetK.tt (by
    unfold x1l;rw [decide_eq_true_eq]
    rwa [take_of_length_le (by simp;omega),take_of_length_le (by simp;omega)] at h3)
 ·exact RetK.ff (by
   unfold x1l;rw [decide_eq_false_iff_not];intro he;have:=congrArg List.length he;simp at this;omega)
def UO (p:Pg) (s:S):Bool:=decide (s.kind=4)&&match p.procs.find? (fun f=>f.name==s.proc) with
 | some f=>x1l f.params s.args
 | none=>false
theorem z0j (p:Pg) (s:S):SpecP Tryz.prog 200 [.agg p.cells,.agg s.cells] (fun r=>r = .bool (UO p s)):=by
 refine sB x3f Tryz.func200 rfl Tryz.call200 ?_;conv=>whnf
 repeat' (first|(refine iM fun _=>?_;conv=>whnf)|(apply bE<;>intro _<;>first|omega|conv=>whnf))
 ·have hl:(p.procs.map fun f=>AV.agg f.cells).length=p.procs.length:=length_map _;refine LoopK.inv QJ (fun j:Nat=>⟨[(3,.p (.ip s.cells)),(11,.p (.sl (p.procs.map fun f => .agg f.cells))),(12,.p (.int .i64 (p.procs.map fun f=>AV.agg f.cells).length)),(13,.p (.int .i64 j))],[]⟩) (fun j=>j<=p.procs.length∧(p.procs.drop j).find? (fun f=>f.name==s.proc)=p.procs.find? (fun f=>f.name==s.proc)) (fun j=>p.procs.length-j) 0 (Le.of_eq rfl) ⟨zero_le _,rfl⟩ ?_;rintro j ⟨h2,h3⟩;conv=>whnf
  repeat' (first|((first|refine cP (z2u _ _) ?_|refine And.intro rfl ?_|(refine iA fun _=>?_)|refine wI ?_);conv=>whnf)|(apply bD<;>intro _<;>first|omega|conv=>whnf)|(apply bB<;>intro _<;>conv=>whnf))
  ·have e:=FE (p:=fun f:Pr=>f.name==s.proc) (l:=p.procs) (j:=j) (by omega) (by assumption);rw [h3] at e;exact RetK.bool (by unfold UO;rw [e];simp [*])
  ·exact ⟨j+1,⟨by omega,by rw [<- h3,LN (p:=fun f:Pr=>f.name==s.proc) (by omega) (by assumption)]⟩,by omega,Le.of_eq rfl⟩
  ·have e:p.procs.find? (fun f=>f.name==s.proc)=none:=by rw [<- h3,FI (by omega)]
   exact RetK.ff (by unfold UO;rw [e];simp)
 ·exact RetK.ff (by unfold UO;simp [*])
def WP (p:Pg):List S:=p.procs.flatMap fun f=>flL f.body
theorem w1a : ∀ (l:List Pr) (i:Nat) (acc:List Item) (lo hi:List Int),(q1z i acc lo hi l).1.map Item.s=acc.map Item.s++l.flatMap fun f=>flL f.body
 | [],i,acc,lo,hi=>by rw [q1z];simp
 | f::r,i,acc,lo,hi=>by
   rw [q1z,w1a r,KS,List.map_append,LU,List.flatMap_cons,List.append_assoc]
theorem YI (p:Pg):(sheetOf p).l.map Item.s=WP p:=by
 have:=w1a p.procs 0 [] [] [];unfold sheetOf WP;simpa using this
theorem q7z {p:Pg} (hf:Fit p) {k:Nat} (hk:k<(sheetOf p).l.length):wS (sheetOf p).l[k].s<=20000:=by
 have hm:(sheetOf p).l[k].s∈WP p:=by
  rw [<- YI];exact List.mem_map.2 ⟨_,List.getElem_mem hk,rfl⟩
 unfold WP at hm;obtain ⟨f,h1,h2⟩:=List.mem_flatMap.1 hm;have h3:=x4t _ _ h2;have h4:=hf.pr h1;unfold wPr at h4;omega
def WS (p:Pg):Int×Int :=
 if (QC p).1≠0 then (1,0) else match (WP p).find? fun t=>decide (t.kind=4) && !UO p t with
  | some t=>(6,t.id)
  | none=>(0,0)
theorem GX {p:Pg} (h:(QC p).1=0):MY p=true∧WN p=false∧p.procs.findSome? (ZD p)=none:=by
 unfold QC at h;cases hm:MY p<;>rw [hm] at h
 ·cases h
 cases hb:WN p<;>rw [hb] at h
 ·refine ⟨rfl,rfl,?_⟩;simp only [cond_true,cond_false] at h;split at h
  ·cases h
  ·assumption
 ·cases h
theorem q3d (p:Pg) (hf:Fit p):SpecP Tryz.prog 130 [.agg p.cells] (fun r=>r=q7r (WS p).1 (WS p).2):=by
 refine sB q9a Tryz.func130 rfl Tryz.call130 ?_;conv=>whnf
 repeat' (first|((first|refine cP (YN p hf) ?_|refine And.intro rfl ?_);conv=>whnf)|(apply bE<;>intro _<;>first|omega|conv=>whnf))
 rotate_left 1
 ·have e:WS p=(1,0):=by unfold WS;rw [if_pos (by assumption)]
  exact QP (by rw [e]) (by rw [e])
 have hs:(QC p).1=0:=by assumption
 obtain ⟨hm,hb,hns⟩:=GX hs;obtain ⟨hg,hpl,hcn⟩:=YQ hm;have hA:WS p=match (WP p).find? fun t=>decide (t.kind=4) && !UO p t with
  | some t=>(6,t.id)
  | none=>(0,0):=by unfold WS;rw [if_neg (by omega)]
 repeat' ((first|(refine iM fun _=>?_)|(refine CallK.pure (DX p (by omega) (by omega)) (.cons (Sub.refl _) .nil) ?_;rintro _ rfl));conv=>whnf)
 have hil:=VF (sheetOf p).l;have hib:(sheetOf p).l.length<=200:=by have:=(QK p).2.2.2.1;omega
 have hfi:=FS (q:=fun t=>decide (t.kind=4) && !UO p t) (sheetOf p).l;rw [YI] at hfi;have hA2:WS p=match ((sheetOf p).l.find? fun it=>decide (it.s.kind=4) && !UO p it.s).map (fun it=>it.s.id) with
  | some a=>(6,a)
  | none=>(0,0):=by
  rw [hA,hfi];cases (WP p).find? fun t=>decide (t.kind=4) && !UO p t<;>rfl
 rw [hA2];refine LoopK.inv QJ (fun k:Nat=>⟨[(1,.p (.ip p.cells)),(2,.ptr 1 0),(14,.p (VT (sheetOf p).l)),(15,.p (.int .i64 ((sheetOf p).l.map fun i=>AV.agg i.cells).length)),(16,.p (.int .i64 k))],[(1,.obj 114 [.p (.int .i64 0),.p (.int .i64 0)])]⟩)
  (fun k=>k<=(sheetOf p).l.length∧((sheetOf p).l.drop k).find? (fun it=>decide (it.s.kind=4) && !UO p it.s)=(sheetOf p).l.find? fun it=>decide (it.s.kind=4) && !UO p it.s) (fun k=>(sheetOf p).l.length-k) 0 (Le.of_eq rfl) ⟨zero_le _,rfl⟩ ?_
 rintro k ⟨h5,h6⟩;rcases Nat.lt_or_ge k (sheetOf p).l.length with hk|hk;rotate_left 1
 ·rw [<- h6,FI hk];conv=>whnf
  repeat' (first|(refine And.intro rfl ?_;conv=>whnf)|(apply bD<;>intro _<;>first|omega|conv=>whnf))
  exact QP rfl rfl
 conv=>whnf
 repeat' (first|((first|refine cP (z0j _ _) ?_|refine And.intro rfl ?_|(refine iA fun _=>?_)|refine wI ?_);conv=>whnf)|(apply bD<;>intro _<;>first|omega|conv=>whnf)|(apply bN<;>intro _<;>conv=>whnf))
 all_goals first
  | (have e3:=FE (p:=fun it:Item=>decide (it.s.kind=4) && !UO p it.s) hk (by simp [*])
     rw [<- h6,e3];exact QP rfl rfl)
  | exact ⟨k+1,⟨by omega,by rw [<- h6,LN (p:=fun it:Item=>decide (it.s.kind=4) && !UO p it.s) hk (by simp [*])]⟩,by omega,Le.of_eq rfl⟩
def VW:List Str->List Str->Option (List Str)
 | seen,[]=>some seen
 | seen,n::r=>bif seen.any (fun s=>n==s) then none else VW (seen++[n]) r
theorem z9t {seen l:List Str} {j:Nat} (hj:j<l.length) (h:(seen.any fun s=>l[j]==s)=true):VW seen (l.drop j)=none:=by
 rw [QD hj,VW,h];rfl
theorem z3n {seen l:List Str} {j:Nat} (hj:j<l.length) (h:(seen.any fun s=>l[j]==s)=false):VW seen (l.drop j)=VW (seen++[l[j]]) (l.drop (j+1)):=by
 rw [QD hj,VW,h];rfl
theorem x1b : ∀ {l seen out:List Str},VW seen l=some out->out=seen++l
 | [],seen,out,h=>by rw [VW] at h;cases h;simp
 | n::r,seen,out,h=>by
   rw [VW] at h;cases hc:(seen.any fun s=>n==s)<;>rw [hc] at h
   ·have:=x1b h;simpa using this
   ·cases h
def z6a (t:Nat) (seen l:List Str) (r:LV) (H:Heap):Prop :=
 match VW seen l with
 | some out=>r = .tup [.hd 2000 0 out.length,.p .tt]∧H=z2p t out
 | none => ∃ out,r = .tup [.hd 2000 0 out.length,.p .ff]∧H=z2p t out
theorem q5f {t:Nat} {seen l:List Str} {Q:LV->Heap->Prop} (h1:VW seen l=some (seen++l)->Q (.tup [.hd 2000 0 (seen++l).length,.p .tt]) (z2p t (seen++l)))
  (h2:VW seen l=none -> ∀ out,Q (.tup [.hd 2000 0 out.length,.p .ff]) (z2p t out)) : ∀ l' H',z6a t seen l l' H'->Q l' H':=by
 intro l' H' h;unfold z6a at h;cases hr:VW seen l with
 | some out =>
   rw [hr] at h;obtain ⟨rfl,rfl⟩:=h;have:=x1b hr;subst this;exact h1 hr
 | none =>
   rw [hr] at h;obtain ⟨out,rfl,rfl⟩:=h;exact h2 hr out
theorem x4k (seen l:List Str) (hlen:seen.length+l.length<=1000000000) :
  SpecH Tryz.prog 202 [.hd 2000 0 seen.length,.p (eStrs l)] (z2p 9 seen) (z6a 9 seen l):=by
 refine sH x5e Tryz.func202 rfl Tryz.call202 ?_;conv=>whnf
 repeat' (refine iM fun _=>?_;conv=>whnf)
 have hl:(l.map AV.str).length=l.length:=length_map _;refine LoopK.inv QJ (fun i:Nat×List Str=>⟨[(0,.hd 2000 0 i.2.length),(8,.p (eStrs l)),(9,.p (.int .i64 (l.map AV.str).length)),(10,.p (.int .i64 i.1))],z2p 9 i.2⟩) (fun i=>i.1<=l.length∧i.2.length+(l.length-i.1)=seen.length+l.length∧VW i.2 (l.drop i.1)=VW seen l) (fun i=>l.length-i.1) (0,seen) (Le.of_eq rfl) ⟨zero_le _,by simp,rfl⟩ ?_;rintro ⟨j,acc⟩ ⟨h2,h3,h4⟩;simp only at h2 h3 h4 ⊢;rcases Nat.lt_or_ge j l.length with hj|hj
 ·conv=>whnf
  repeat' (first|((first|refine And.intro rfl ?_|refine aD ?_|refine bP ?_|(refine iA fun _=>?_)|refine wI ?_|(refine QI (QW acc (l[j]'hj)) (.cons (.hd rfl (by simp)) (.cons (.p (Sub.refl _)) .nil)) (by rintro _ rfl;rfl) ?_;rintro _ rfl)|refine QE (by simp) (by simp;omega) ?_);conv=>whnf)|(apply bD<;>intro _<;>first|omega|conv=>whnf)|(apply bB<;>intro _<;>conv=>whnf))
  ·exact ⟨_,.refl _,by unfold z6a;rw [<- h4,z9t hj (by assumption)];exact ⟨acc,rfl,rfl⟩⟩
  ·exact ⟨(j+1,acc++[l[j]]),⟨by simp only;omega,by simp;omega,by simp only;rw [<- h4,z3n hj (by assumption)]⟩,by simp only;omega,Le.of_eq (by simp only [z2p,length_append,List.map_append];rfl)⟩
 ·conv=>whnf
  repeat' (apply bD<;>intro _<;>first|omega|conv=>whnf)
  rw [drop_eq_nil_of_le hj,VW] at h4;exact ⟨_,.refl _,by unfold z6a;rw [<- h4];exact ⟨rfl,rfl⟩⟩
def atB (f:Pr) (label:Str):Int×Bool :=
 match (flL f.body).find? fun t=>t.labels.any fun s=>label==s with
 | some t=>(t.id,true)
 | none=>bif f.fin.any fun s=>label==s then (-1,true) else (0,false)
theorem RetK.tup2 {H:Heap} {k:IntKind} {m n:Int} {x:AV} {b:Bool} (h:m=n) (hb:Sub x (.bool b)):RetK H (.p (.tup [.int k m,x])) (fun r=>r = .tup [.int k n,.bool b]) :=
 ⟨_,.p (Sub.tup (SubL.cons (Sub.int h) (SubL.cons hb SubL.nil))),rfl⟩
theorem NS (p:Pg) (j:Nat) (f:Pr) (hj:p.procs[j]? = some f) (hc:cntP p.procs<=1000) (label:Str):SpecP Tryz.prog 234 [.ip (sheetOf p).cells,.int .i64 j,.str label] (fun r=>r = .tup [.int .i64 (atB f label).1,.bool (atB f label).2]):=by
 refine sB q3g Tryz.func234 rfl Tryz.call234 ?_;conv=>whnf
 repeat' ((first|(refine iM fun _=>?_)|refine cP (z0o p hj hc) ?_);conv=>whnf)
 have hfi:=FS (q:=fun t=>t.labels.any fun s=>label==s) (itL (j:Nat) 0 (-1) 0 (QM p.procs j) f.body);rw [LU] at hfi;have hib:(itL (j:Nat) 0 (-1) 0 (QM p.procs j) f.body).length<=1000:=by
  have:=(QK p).2.2.2.2 j f hj;rw [ZB];omega
 generalize hits:itL (j:Nat) 0 (-1) 0 (QM p.procs j) f.body=its at hfi hib ⊢;have hil:=VF its;have hat:atB f label=match (its.find? fun it=>it.s.labels.any fun s=>label==s).map (fun it=>it.s.id) with
  | some a=>(a,true)
  | none=>bif f.fin.any fun s=>label==s then (-1,true) else (0,false):=by
  unfold atB;rw [hfi];cases (flL f.body).find? fun t=>t.labels.any fun s=>label==s<;>rfl
 rw [hat];refine LoopK.inv QJ (fun k:Nat=>⟨[(0,.p (.ip (sheetOf p).cells)),(1,.p (.int .i64 j)),(2,.p (.str label)),(12,.p (VT its)),(13,.p (.int .i64 (its.map fun i=>AV.agg i.cells).length)),(14,.p (.int .i64 k))],[]⟩)
  (fun k=>k<=its.length∧(its.drop k).find? (fun it=>it.s.labels.any fun s=>label==s)=its.find? fun it=>it.s.labels.any fun s=>label==s) (fun k=>its.length-k) 0 (Le.of_eq rfl) ⟨zero_le _,rfl⟩ ?_
 rintro k ⟨h5,h6⟩;rcases Nat.lt_or_ge k its.length with hk|hk
 ·conv=>whnf
  repeat' (first|((first|refine cP (QW _ _) ?_|refine And.intro rfl ?_|(refine iA fun _=>?_)|refine wI ?_);conv=>whnf)|(apply bD<;>intro _<;>first|omega|conv=>whnf)|(apply bB<;>intro _<;>conv=>whnf))
  ·have e3:=FE (p:=fun it:Item=>it.s.labels.any fun s=>label==s) hk (by assumption);rw [<- h6,e3];exact RetK.tup2 rfl (Sub.tt rfl)
  ·exact ⟨k+1,⟨by omega,by rw [<- h6,LN (p:=fun it:Item=>it.s.labels.any fun s=>label==s) hk (by assumption)]⟩,by omega,Le.of_eq rfl⟩
 ·rw [<- h6,FI hk];have hpj:(p.procs.map fun f=>AV.agg f.cells)[j]? = some (.agg f.cells):=by simp [hj]
  conv=>whnf
  repeat' (first|((first|refine cP (QW _ _) ?_|(refine IdxK.at rfl hpj rfl ?_));conv=>whnf)|(apply bD<;>intro _<;>first|omega|conv=>whnf)|(apply bB<;>intro _<;>conv=>whnf))
  ·exact RetK.tup2 (by simp [*]) (Sub.tt (by simp [*]))
  ·exact RetK.tup2 (by simp [*]) (Sub.ff (by simp [*]))
def VK (f:Pr) (it:Item):Bool:=if it.s.kind=7∨it.s.kind=8 then !(it.loop==0) else if it.s.kind=10 then (atB f it.s.name).2 else true
theorem z0e (p:Pg) (j:Nat) (f:Pr) (hj:p.procs[j]? = some f) (hc:cntP p.procs<=1000) (it:Item) (hp:it.proc=j):SpecP Tryz.prog 203 [.ip (sheetOf p).cells,.agg it.cells] (fun r=>r = .bool (VK f it)):=by
 refine sB x1t Tryz.func203 rfl Tryz.call203 ?_;conv=>whnf
 repeat' (first|(refine CallK.pure (NS p j f hj hc it.s.name) (.cons (Sub.refl _) (.cons (Sub.int hp) (.cons (Sub.refl _) .nil))) ?_;rintro _ rfl;conv=>whnf)|(apply bD<;>intro _<;>first|omega|conv=>whnf))
 all_goals first
  | exact RetK.bool (by simp [VK, *];rfl)
  | exact RetK.bool (by simp [VK, *])
  | exact RetK.tt (by simp [VK, *])
theorem z2x (p:Pg) (hf:Fit p) (h:(QC p).1=0):SpecP Tryz.prog 201 [.agg p.cells] (fun r=>r = .ip (sheetOf p).cells):=by
 refine sB q0g Tryz.func201 rfl Tryz.call201 ?_;conv=>whnf
 obtain ⟨hm,hb,hns⟩:=GX h;obtain ⟨hg,hpl,hcn⟩:=YQ hm;repeat' (first|((first|refine cP (YN p hf) ?_|(refine CallK.pure (DX p (by omega) (by omega)) (.cons (Sub.refl _) .nil) ?_;rintro _ rfl));conv=>whnf)|(apply bE<;>intro _<;>first|omega|conv=>whnf))
 exact RetK.p rfl
theorem x0v (p:Pg) (hf:Fit p) (h:(QC p).1≠0):SpecP Tryz.prog 201 [.agg p.cells] (fun r=>r = .nilp):=by
 refine sB q0g Tryz.func201 rfl Tryz.call201 ?_;conv=>whnf
 repeat' (first|(refine cP (YN p hf) ?_;conv=>whnf)|(apply bE<;>intro _<;>first|omega|conv=>whnf))
 exact RetK.p rfl
mutual
theorem w1j (proc up nx loop:Int) (n:Nat) : ∀ (t:S) (it:Item),it∈itS proc up nx loop n t->it.proc=proc
 | .mk id kind labels name pr x has args thn els,it,h=>by
   rw [itS] at h;rcases List.mem_cons.1 h with rfl|h
   ·rfl
   ·rcases List.mem_append.1 h with h|h
    ·exact MX _ _ _ _ _ thn it h
    ·exact MX _ _ _ _ _ els it h
theorem MX (proc up nx loop:Int) (n:Nat) : ∀ (l:List S) (it:Item),it∈itL proc up nx loop n l->it.proc=proc
 | [],it,h=>by rw [itL] at h;cases h
 | t::r,it,h=>by
   rw [itL] at h;rcases List.mem_append.1 h with h|h
   ·exact w1j _ _ _ _ _ t it h
   ·exact MX _ _ _ _ _ r it h
end
def YM (f:Pr):List Item->List Str->Except Int (List Str)
 | [],seen => .ok seen
 | it::r,seen=>match VW seen it.s.labels with
   | none => .error it.s.id
   | some s=>bif VK f it then YM f r s else .error it.s.id
def VL (p:Pg) (j:Nat):Option Int :=
 match p.procs[j]? with
 | none=>none
 | some f=>match YM f (itL (j:Nat) 0 (-1) 0 (QM p.procs j) f.body) [] with
   | .error id=>some id
   | .ok seen=>match VW seen f.fin with
     | none=>some 0
     | some _=>none
def BA (p:Pg):Int×Int :=
 if (QC p).1≠0 then (1,0) else match (List.range p.procs.length).findSome? (VL p) with
  | some a=>(7,a)
  | none=>(0,0)
theorem w1u {f:Pr} {its:List Item} {seen:List Str} {k:Nat} (hk:k<its.length) (h:VW seen its[k].s.labels=none):YM f (its.drop k) seen = .error its[k].s.id:=by
 rw [QD hk,YM,h]
theorem z6g {f:Pr} {its:List Item} {seen s:List Str} {k:Nat} (hk:k<its.length) (h:VW seen its[k].s.labels=some s) (hl:VK f its[k]=false):YM f (its.drop k) seen = .error its[k].s.id:=by
 rw [QD hk,YM,h];simp only [hl,cond_false]
theorem z4n {f:Pr} {its:List Item} {seen s:List Str} {k:Nat} (hk:k<its.length) (h:VW seen its[k].s.labels=some s) (hl:VK f its[k]=true):YM f (its.drop k) seen=YM f (its.drop (k+1)) s:=by
 rw [QD hk,YM,h];simp only [hl,cond_true]
theorem x6m {l:List Pr} {j:Nat} (hj:j<l.length) (h:wPr l[j]<=20000) {a b c d:Int} {n k:Nat} (hk:k<(itL a b c d n l[j].body).length):(itL a b c d n l[j].body)[k].s.labels.length<=20000:=by
 have hm:(itL a b c d n l[j].body)[k].s∈flL l[j].body:=by
  rw [<- LU a b c d n];exact List.mem_map.2 ⟨_,List.getElem_mem hk,rfl⟩
 have h1:=x4t _ _ hm;have h2:=z0p (itL a b c d n l[j].body)[k].s;have h3:=DJ (itL a b c d n l[j].body)[k].s.labels;unfold wPr at h;omega
theorem z2y (p:Pg) (hf:Fit p):SpecP Tryz.prog 131 [.agg p.cells] (fun r=>r=q7r (BA p).1 (BA p).2):=by
 refine sB x2j Tryz.func131 rfl Tryz.call131 ?_;conv=>whnf
 rcases Decidable.em ((QC p).1=0) with hs|hs;rotate_left 1
 ·
  repeat' ((first|refine cP (x0v p hf hs) ?_|refine And.intro rfl ?_);conv=>whnf)
  have e:BA p=(1,0):=by unfold BA;rw [if_pos hs]
  exact QP (by rw [e]) (by rw [e])
 obtain ⟨hm,hb,hns⟩:=GX hs;obtain ⟨hg,hpl,hcn⟩:=YQ hm;have hJ:BA p=match (List.range p.procs.length).findSome? (VL p) with
  | some a=>(7,a)
  | none=>(0,0):=by unfold BA;rw [if_neg (by omega)]
 rw [hJ];have hl:(p.procs.map fun f=>AV.agg f.cells).length=p.procs.length:=length_map _;repeat' ((first|(refine iM fun _=>?_)|refine cP (z2x p hf hs) ?_);conv=>whnf)
 refine LoopK.inv QJ (fun j:Nat=>⟨[(2,.ptr 1 0),(3,.p (.ip (sheetOf p).cells)),(16,.p (.sl (p.procs.map fun f => .agg f.cells))),(17,.p (.int .i64 (p.procs.map fun f=>AV.agg f.cells).length)),(18,.p (.int .i64 j))],[(1,.obj 114 [.p (.int .i64 0),.p (.int .i64 0)])]⟩)
  (fun j=>j<=p.procs.length∧((List.range p.procs.length).drop j).findSome? (VL p)=(List.range p.procs.length).findSome? (VL p)) (fun j=>p.procs.length-j) 0 (Le.of_eq rfl) ⟨zero_le _,rfl⟩ ?_
 rintro j ⟨h2,h3⟩;rcases Nat.lt_or_ge j p.procs.length with hj|hj;rotate_left 1
 ·have e:(List.range p.procs.length).findSome? (VL p)=none:=by rw [<- h3,q0m (by simpa using hj)]
  rw [e];conv=>whnf
  repeat' (first|(refine And.intro rfl ?_;conv=>whnf)|(apply bD<;>intro _<;>first|omega|conv=>whnf))
  exact QP rfl rfl
 have hfp:=hf.pr (List.getElem_mem hj);have hjr:j<(List.range p.procs.length).length:=by simpa using hj
 have hrj:(List.range p.procs.length)[j]=j:=by simp
 have hpj:p.procs[j]? = some p.procs[j]:=by simp [hj]
 conv=>whnf
 repeat' (first|((first|(refine iM fun _=>?_)|refine And.intro rfl ?_|(refine iA fun _=>?_)|(refine CallK.pure (z0o p (f:=p.procs[j]'hj) hpj (by omega)) (.cons (Sub.refl _) (.cons (Sub.refl _) .nil)) ?_;rintro _ rfl));conv=>whnf)|(apply bD<;>intro _<;>first|omega|conv=>whnf))
 have hlab : ∀ k (hk:k<(itL (j:Nat) 0 (-1) 0 (QM p.procs j) p.procs[j].body).length),(itL (j:Nat) 0 (-1) 0 (QM p.procs j) p.procs[j].body)[k].s.labels.length<=20000:=fun k hk=>x6m hj hfp hk;have hprc : ∀ k (hk:k<(itL (j:Nat) 0 (-1) 0 (QM p.procs j) p.procs[j].body).length),(itL (j:Nat) 0 (-1) 0 (QM p.procs j) p.procs[j].body)[k].proc=j:=fun k hk=>MX _ _ _ _ _ _ _ (List.getElem_mem hk);have hib:(itL (j:Nat) 0 (-1) 0 (QM p.procs j) p.procs[j].body).length<=200:=by
  have:=(QK p).2.2.2.2 j _ hpj;rw [ZB];omega
 have hja:VL p j=match YM p.procs[j] (itL (j:Nat) 0 (-1) 0 (QM p.procs j) p.procs[j].body) [] with
  | .error id=>some id
  | .ok seen=>match VW seen p.procs[j].fin with
    | none=>some 0
    | some _=>none:=by
  unfold VL;rw [hpj]
 generalize hits:itL (j:Nat) 0 (-1) 0 (QM p.procs j) p.procs[j].body=its at hlab hprc hib hja ⊢;have hil:=VF its;refine LoopK.inv QJ (fun i:Nat×List Str=>⟨[(2,.ptr 1 0),(3,.p (.ip (sheetOf p).cells)),(5,.p (.ip (p.procs[j]'hj).cells)),(6,.hd 0 0 i.2.length),(16,.p (.sl (p.procs.map fun f => .agg f.cells))),(17,.p (.int .i64 (p.procs.map fun f=>AV.agg f.cells).length)),(18,.p (.int .i64 j)),(25,.p (VT its)),(26,.p (.int .i64 (its.map fun i=>AV.agg i.cells).length)),(27,.p (.int .i64 i.1))],[(0,.own 9 1 (i.2.map .str)),(1,.obj 114 [.p (.int .i64 0),.p (.int .i64 0)])]⟩)
  (fun i=>i.1<=its.length∧i.2.length<=20000*i.1∧YM p.procs[j] (its.drop i.1) i.2=YM p.procs[j] its []) (fun i=>its.length-i.1) (0,[])
  (Le.mk [(0,.own 9 1 [])] (by simp [Chunk.new0];rfl) (by simp) (by simp) (.cons (.refl _) (.cons (.refl _) (.cons (.refl _) (.cons (.nil mem_cons_self) (.cons (.refl _) (.cons (.refl _) (.cons (.refl _) (.cons (.refl _) (.cons (.refl _) (.cons (.refl _) .nil)))))))))) (.new mem_cons_self (.cons rfl (.refl _) .nil)))
  ⟨zero_le _,by simp,rfl⟩ ?_
 rintro ⟨k,acc⟩ ⟨h5,h6,h7⟩;simp only at h5 h6 h7 ⊢;rcases Nat.lt_or_ge k its.length with hk|hk
 ·have hlk:=hlab k hk;conv=>whnf
  repeat' (first|((first|refine And.intro rfl ?_|(refine iA fun _=>?_)|refine wI ?_|(refine CallK.pure (z0e p j p.procs[j] hpj (by omega) its[k] (hprc k hk)) (.cons (Sub.refl _) (.cons (Sub.refl _) .nil)) ?_;rintro _ rfl));conv=>whnf)|(apply bD<;>intro _<;>first|omega|conv=>whnf)|(apply bN<;>intro _<;>conv=>whnf)|(refine CallK.heap [(2000,0)] 0 (by repeat' (first|exact ArgsH.nil|refine ArgsH.cons ?_ ?_|exact LSub.refl _|exact LSub.p Sub.nils|exact LSub.p (Sub.tt rfl)|exact LSub.p (Sub.ff rfl)|exact LSub.p (Sub.int (by omega)))) (by refine BlksH.cons (j:=0) rfl rfl ?_ ?_;exact CSub.refl _;exact BlksH.nil) (x4k acc its[k].s.labels (by omega)) rfl rfl (q5f (fun hjo => ?_) (fun hjo out => ?_))<;>conv=>whnf))
  ·exact ⟨(k+1,acc++its[k].s.labels),⟨by simp only;omega,by simp;omega,by simp only;rw [<- h7,z4n hk hjo (by assumption)]⟩,by simp only;omega,Le.of_eq rfl⟩
  ·rw [<- h7,z6g hk hjo (by assumption)] at hja;have e2:=VG (f:=VL p) hjr (by rw [hrj];exact hja);rw [h3] at e2;rw [e2];exact QP rfl rfl
  ·rw [<- h7,w1u hk hjo] at hja;have e2:=VG (f:=VL p) hjr (by rw [hrj];exact hja);rw [h3] at e2;rw [e2];exact QP rfl rfl
 ·have hfin:p.procs[j].fin.length<=20000:=by
   have:=DJ p.procs[j].fin;unfold wPr at hfp;omega
  rw [drop_eq_nil_of_le hk,YM] at h7;rw [<- h7] at hja;simp only at hja;conv=>whnf
  repeat' (first|((first|refine And.intro rfl ?_|refine wI ?_);conv=>whnf)|(apply bD<;>intro _<;>first|omega|conv=>whnf)|(refine CallK.heap [(2000,0)] 0 (by repeat' (first|exact ArgsH.nil|refine ArgsH.cons ?_ ?_|exact LSub.refl _|exact LSub.p Sub.nils|exact LSub.p (Sub.tt rfl)|exact LSub.p (Sub.ff rfl)|exact LSub.p (Sub.int (by omega)))) (by refine BlksH.cons (j:=0) rfl rfl ?_ ?_;exact CSub.refl _;exact BlksH.nil) (x4k acc p.procs[j].fin (by omega)) rfl rfl (q5f (fun hjo => ?_) (fun hjo out => ?_))<;>conv=>whnf))
  ·rw [hjo] at hja;exact ⟨j+1,⟨by omega,by rw [<- h3,q3u (f:=VL p) hjr (by rw [hrj];exact hja)]⟩,by omega,Le.of_eq rfl⟩
  ·rw [hjo] at hja;have e2:=VG (f:=VL p) hjr (by rw [hrj];exact hja);rw [h3] at e2;rw [e2];exact QP rfl rfl
theorem KN {es:List AV} {sz:Nat} {out:List LV} {Kp Ko:Prop} (hx:(es.all fun x=>x.cells.length==sz)=true) (ho:out=(es.flatMap AV.cells).map .p) (hK:Kp):BsK es sz out Kp Ko := .pure (fun x h=>by simpa using List.all_eq_true.1 hx x h) ho hK
def x2k (x:X):Bool:=decide (q1y x.op=(x.kids.length:Int))&&(decide (x.op=1)||decide (x.n=0))&&decide (0<=x.n)&&(decide (x.op=2) == !(x.name==[]))&&((x.name==[])||isName x.name)
def w1n:Nat->X->Bool
 | 0,_=>true
 | k+1,x=>x2k x&&x.kids.all (w1n k)
def w7v:List Nat->Nat
 | []=>0
 | a::r=>max a (w7v r)
def z4p:Nat->X->Nat
 | 0,_=>1
 | m+1,x=>1+w7v (x.kids.map (z4p m))
theorem w5y {l:List Nat} {m:Nat} (h : ∀ a∈l,a<=m):w7v l<=m:=by
 induction l with
 | nil=>exact zero_le _
 | cons a r ih =>
   have:=ih fun b hb=>h b (List.mem_cons_of_mem _ hb);have:=h a mem_cons_self;rw [w7v];omega
def mayXR (x:X):Bool:=decide (z4p 20 x<=20)&&w1n (wX x+1) x
theorem LA : ∀ (n:Nat) (x:X),WW n x=true->z4p n x<=n ∧ ∀ k,w1n k x=true
 | 0,x,h=>by rw [WW] at h;cases h
 | n+1,x,h=>by
   rw [WW] at h;simp only [Bool.and_eq_true,decide_eq_true_eq] at h;obtain ⟨h1,h2⟩:=h;have hkids:(∀ y∈x.kids,WW n y=true)∧x2k x=true:=by
    split at h2
    ·rename_i ho;simp only [Bool.and_eq_true,decide_eq_true_eq] at h2;have hk0:x.kids=[]:=by
      rw [ho] at h1;have:q1y 1=0:=by decide
      rw [this] at h1;exact List.length_eq_zero_iff.1 (by omega)
     refine ⟨by rw [hk0];simp,?_⟩;unfold x2k;rw [h1,ho,h2.2];simp [h2.1]
    split at h2
    ·rename_i ho;simp only [Bool.and_eq_true,decide_eq_true_eq] at h2;have hk0:x.kids=[]:=by
      rw [ho] at h1;have:q1y 2=0:=by decide
      rw [this] at h1;exact List.length_eq_zero_iff.1 (by omega)
     have hne:(x.name==[])=false:=by
      cases hq:x.name with
      | nil =>
        have:=h2.2;rw [hq] at this;unfold isName at this;rw [dif_neg (by simp)] at this;cases this
      | cons a r=>rfl
     refine ⟨by rw [hk0];simp,?_⟩;unfold x2k;rw [h1,ho,h2.2,hne,h2.1];simp
    ·rename_i ho1 ho2;simp only [Bool.and_eq_true,decide_eq_true_eq,List.all_eq_true] at h2;refine ⟨h2.2,?_⟩;unfold x2k;rw [h1,h2.1.1,h2.1.2];simp [ho1,ho2]
   refine ⟨?_,fun k => ?_⟩
   ·rw [z4p];have:w7v (x.kids.map (z4p n))<=n:=w5y fun a ha=>by
     obtain ⟨y,hy,rfl⟩:=List.mem_map.1 ha;exact (LA n y (hkids.1 y hy)).1
    omega
   ·cases k with
    | zero=>rfl
    | succ k =>
      rw [w1n,hkids.2,Bool.true_and,List.all_eq_true];exact fun y hy=>(LA n y (hkids.1 y hy)).2 k
theorem w2c {x:X} (h:x6h x=true):mayXR x=true:=by
 obtain ⟨h1,h2⟩:=LA 20 x h;unfold mayXR;rw [decide_eq_true h1,h2];rfl
def argR (a:Arg):Bool:=bif a.ref then isName a.name&&noneB a.x else (a.name==[])&&mayXR a.x
theorem w3d {a:Arg} (h:handB a=true):argR a=true:=by
 unfold handB YT JE at h;unfold argR;cases hr:a.ref with
 | true =>
   rw [hr] at h;simpa using h
 | false =>
   rw [hr] at h;simp only [cond_false,Bool.not_false,cond_true,Bool.and_eq_true] at h;rw [h.1,w2c h.2];rfl
def z1x (s:S):Bool:=ZC s&&namesB s.labels
def hasXB (s:S):Bool:=decide (s.kind=1)||decide (s.kind=3)||decide (s.kind=5)||decide (s.kind=6)||(decide (s.kind=9)&&s.has)
structure OneF (s:S):Prop where
 labels:namesB s.labels=true
 lo:1<=s.kind
 hi:s.kind<=10
 x:hasXB s=true->mayXR s.x=true
 nox:hasXB s=false->noneB s.x=true
 has:s.has=true->s.kind=9
 name:s.kind=1∨s.kind=2∨s.kind=10->isName s.name=true
 noname : ¬(s.kind=1∨s.kind=2∨s.kind=10)->(s.name==[])=true∨(s.kind=4∧isName s.name=true)
 proc:s.kind=4->isName s.proc=true
 noproc:s.kind≠4->(s.proc==[])=true
 args:s.args.all argR=true
 noargs:s.kind≠4->s.args.length=0
 thn:s.thn.length=0∨s.kind=5∨s.kind=6
 els:s.els.length=0∨s.kind=5
theorem z7i {s:S} (h:z1x s=true):OneF s:=by
 unfold z1x at h;rw [Bool.and_eq_true] at h;obtain ⟨h,hlab⟩:=h;have hargs:s.args.all handB=true->s.args.all argR=true:=fun h=>by
  rw [List.all_eq_true] at h ⊢;exact fun a ha=>w3d (h a ha)
 have key : ∀ (k:Int) (f:Flds),s.kind=k->q0y s.kind s.has (s.name==[])=some f->f.has=false∧(f.thn=false->s.thn.length=0)∧(f.els=false->s.els.length=0)∧(s.kind≠4->s.args.length=0)∧YT s.name f.name=true∧YT s.proc f.proc=true∧JE s.x f.x=true∧s.args.all argR=true:=fun k f hk hf=>by
  rw [z1i hf] at h;simp only [Bool.and_eq_true,Bool.not_eq_true',Bool.or_eq_false_iff,Bool.and_eq_false_iff,Bool.not_eq_false',decide_eq_false_iff_not,decide_eq_true_eq] at h;obtain ⟨⟨⟨⟨⟨⟨⟨h1,h2⟩,h3⟩,h4⟩,h5⟩,h6⟩,h7⟩,h8⟩:=h;refine ⟨h1,fun hq => ?_,fun hq => ?_,fun hq => ?_,h5,h6,h7,hargs h8⟩
  ·rcases h2 with h2|h2
   ·rw [hq] at h2;cases h2
   ·omega
  ·rcases h3 with h3|h3
   ·rw [hq] at h3;cases h3
   ·omega
  ·rcases h4 with h4|h4
   ·exact absurd h4 hq
   ·omega
 have hkind:s.kind=1∨s.kind=2∨s.kind=3∨s.kind=4∨s.kind=5∨s.kind=6∨s.kind=7∨s.kind=8∨s.kind=9∨s.kind=10:=by
  unfold ZC at h;split at h
  ·cases h
  ·rename_i f hf;unfold q0y at hf
   (repeat' split at hf)<;>first|(cases hf;done)|omega
 have fin : ∀ (k:Int) (f:Flds),s.kind=k->q0y s.kind s.has (s.name==[])=some f->(1<=k∧k<=10)->f.x=hasXB s->(s.has=true->f.has=true∨k=9)->((k=1∨k=2∨k=10)->f.name=true)->(¬(k=1∨k=2∨k=10)->f.name=false∨(k=4∧f.name = !(s.name==[])))->f.proc=decide (k=4)->(f.thn=true->k=5∨k=6)->(f.els=true->k=5)->OneF s:=fun k f hk hf hkk hfx hfh hfn hfnn hfp hft hfe=>by
  obtain ⟨h1,h2,h3,h4,h5,h6,h7,h8⟩:=key k f hk hf;unfold JE at h7;refine ⟨hlab,by omega,by omega,fun hq => ?_,fun hq => ?_,fun hq => ?_,fun hq => ?_,fun hq => ?_,fun hq => ?_,fun hq => ?_,h8,h4,?_,?_⟩
  ·rw [hfx,hq] at h7;exact w2c h7
  ·rw [hfx,hq] at h7;exact h7
  ·rcases hfh hq with h9|h9
   ·rw [h1] at h9;cases h9
   ·omega
  ·rw [hfn (by omega)] at h5;exact h5
  ·rcases hfnn (by omega) with h9|⟨h9,h10⟩
   ·rw [h9] at h5;exact .inl h5
   ·cases hq2:s.name==[] with
    | true=>exact .inl rfl
    | false =>
      rw [h10,hq2] at h5;exact .inr ⟨by omega,h5⟩
  ·rw [hfp,decide_eq_true (by omega)] at h6;exact h6
  ·rw [hfp,decide_eq_false (by omega)] at h6;exact h6
  ·cases ht:f.thn with
   | true=>exact .inr (by have:=hft ht;omega)
   | false=>exact .inl (h2 ht)
  ·cases he:f.els with
   | true=>exact .inr (by have:=hfe he;omega)
   | false=>exact .inl (h3 he)
 rcases hkind with hk|hk|hk|hk|hk|hk|hk|hk|hk|hk
 ·exact fin 1 ⟨true,false,true,s.has,false,false⟩ hk (by rw [hk];rfl) (by omega) (by unfold hasXB;rw [hk];rfl) (fun h => .inl h) (fun _=>rfl) (fun h=>absurd (by omega) h) rfl (fun h=>by cases h) (fun h=>by cases h)
 ·exact fin 2 ⟨true,false,false,s.has,false,false⟩ hk (by rw [hk];rfl) (by omega) (by unfold hasXB;rw [hk];rfl) (fun h => .inl h) (fun _=>rfl) (fun h=>absurd (by omega) h) rfl (fun h=>by cases h) (fun h=>by cases h)
 ·exact fin 3 ⟨false,false,true,s.has,false,false⟩ hk (by rw [hk];rfl) (by omega) (by unfold hasXB;rw [hk];rfl) (fun h => .inl h) (fun h=>by omega) (fun _ => .inl rfl) rfl (fun h=>by cases h) (fun h=>by cases h)
 ·exact fin 4 ⟨!(s.name==[]),true,false,s.has,false,false⟩ hk (by rw [hk];rfl) (by omega) (by unfold hasXB;rw [hk];rfl) (fun h => .inl h) (fun h=>by omega) (fun _ => .inr ⟨rfl,rfl⟩) rfl (fun h=>by cases h) (fun h=>by cases h)
 ·exact fin 5 ⟨false,false,true,s.has,true,true⟩ hk (by rw [hk];rfl) (by omega) (by unfold hasXB;rw [hk];rfl) (fun h => .inl h) (fun h=>by omega) (fun _ => .inl rfl) rfl (fun _ => .inl rfl) (fun _=>rfl)
 ·exact fin 6 ⟨false,false,true,s.has,true,false⟩ hk (by rw [hk];rfl) (by omega) (by unfold hasXB;rw [hk];rfl) (fun h => .inl h) (fun h=>by omega) (fun _ => .inl rfl) rfl (fun _ => .inr rfl) (fun h=>by cases h)
 ·exact fin 7 ⟨false,false,false,s.has,false,false⟩ hk (by rw [hk];rfl) (by omega) (by unfold hasXB;rw [hk];rfl) (fun h => .inl h) (fun h=>by omega) (fun _ => .inl rfl) rfl (fun h=>by cases h) (fun h=>by cases h)
 ·exact fin 8 ⟨false,false,false,s.has,false,false⟩ hk (by rw [hk];rfl) (by omega) (by unfold hasXB;rw [hk];rfl) (fun h => .inl h) (fun h=>by omega) (fun _ => .inl rfl) rfl (fun h=>by cases h) (fun h=>by cases h)
 ·exact fin 9 ⟨false,false,s.has,false,false,false⟩ hk (by rw [hk];rfl) (by omega) (by unfold hasXB;rw [hk];cases s.has<;>rfl) (fun _ => .inr rfl) (fun h=>by omega) (fun _ => .inl rfl) rfl (fun h=>by cases h) (fun h=>by cases h)
 ·exact fin 10 ⟨true,false,false,s.has,false,false⟩ hk (by rw [hk];rfl) (by omega) (by unfold hasXB;rw [hk];rfl) (fun h => .inl h) (fun _=>rfl) (fun h=>absurd (by omega) h) rfl (fun h=>by cases h) (fun h=>by cases h)
def q5m (n c:Nat):List Int:=(List.range' (n+1) c).map fun (k:Nat)=>(k:Int)
theorem q9k (n a b:Nat):q5m n (a+b)=q5m n a++q5m (n+a) b:=by
 unfold q5m;rw [<- List.map_append,show n+a+1=n+1+1*a by omega,List.range'_append]
theorem z9c (n:Nat):q5m n 1=[((n+1:Nat):Int)]:=by simp [q5m]
mutual
theorem w0v (nest:Int) : ∀ (t:S) {n:Nat} {m:Int},q6h nest n t=some m->(flS t).map S.id=q5m n (ZS t)
 | .mk id kind labels name proc x has args thn els,n,m,h=>by
   simp only [q6h] at h;split at h
   ·cases h
   split at h
   ·cases h
   rename_i hid;cases hn:namesB labels<;>rw [hn] at h
   ·cases h
   cases hf:ZC (.mk id kind labels name proc x has args thn els)<;>rw [hf] at h
   ·cases h
   simp only [cond_true] at h;split at h
   ·rename_i m1 h1;have h1':YZ (nest+1) ((n+1:Nat):Int) thn=some m1:=by rw [<- h1];rfl
    have h2:=GP _ _ thn h1';have h3:=q2b (nest+1) thn h1';have h':YZ (nest+1) ((n+1+cntL thn:Nat):Int) els=some m:=by rw [<- h,h2];rfl
    have h4:=q2b (nest+1) els h';rw [flS,ZS,map_cons,List.map_append,h3,h4,show 1+cntL thn+cntL els=1+(cntL thn+cntL els) by omega,q9k,z9c,q9k];have:id=((n+1:Nat):Int):=by omega
    rw [show (S.mk id kind labels name proc x has args thn els).id=id from rfl,this];rfl
   ·cases h
theorem q2b (nest:Int) : ∀ (l:List S) {n:Nat} {m:Int},YZ nest n l=some m->(flL l).map S.id=q5m n (cntL l)
 | [],n,m,h=>by rw [flL,cntL];rfl
 | t::r,n,m,h=>by
   simp only [YZ] at h;split at h
   ·cases h
   split at h
   ·rename_i m1 h1;have h2:=x8p _ _ t h1;have h3:=w0v nest t h1;have h':YZ nest ((n+ZS t:Nat):Int) r=some m:=by rw [<- h,h2];rfl
    have h4:=q2b nest r h';rw [flL,cntL,List.map_append,h3,h4,q9k]
   ·cases h
end
theorem q6d : ∀ (l:List Pr) {n:Nat} {m:Int},ZG n l=some m -> ∀ (j:Nat) (f:Pr),l[j]? = some f->(flL f.body).map S.id=q5m (n+QM l j) (cntL f.body)
 | [],_,_,_,j,f,hj=>by simp at hj
 | g::r,n,m,h,j,f,hj=>by
   rw [ZG] at h;cases hm:BE g<;>rw [hm] at h
   ·cases h
   simp only [cond_true] at h;split at h
   ·rename_i m1 h1;cases j with
    | zero =>
      simp at hj;subst hj;exact q2b 1 g.body h1
    | succ j =>
      have h2:=GP _ _ g.body h1;have h':ZG ((n+cntL g.body:Nat):Int) r=some m:=by rw [<- h,h2];rfl
      have:=q6d r h' j f (by simpa using hj);rw [QM,this,Nat.add_assoc]
   ·cases h
theorem z3f {p:Pg} (h:MY p=true) {j:Nat} {f:Pr} (hj:p.procs[j]? = some f):(flL f.body).map S.id=q5m (QM p.procs j) (cntL f.body):=by
 unfold MY at h;simp only [Bool.and_eq_true] at h;cases hm:ZG 0 p.procs with
 | none=>rw [hm] at h;cases h.2
 | some m =>
   have:=q6d p.procs (n:=0) hm j f hj;simpa using this
theorem w0q {n c:Nat} {a:Int} (h:a∈q5m n c):(n:Int)+1<=a∧a<=n+c:=by
 unfold q5m at h;obtain ⟨k,hk,rfl⟩:=List.mem_map.1 h;rw [List.mem_range'] at hk;obtain ⟨i,hi,rfl⟩:=hk;omega
def okI (lo hi:Nat) (x:Int):Prop:=x = -1∨((lo:Int)+1<=x∧x<=hi)
mutual
theorem w3h (proc:Int) (lo hi:Nat) : ∀ (t:S) (up nx loop:Int) (n:Nat) (it:Item),it∈itS proc up nx loop n t->okI lo hi nx->(loop=0∨((lo:Int)+1<=loop∧loop<=hi))->lo<=n->n+ZS t<=hi ->
  okI lo hi it.next∧(it.loop=0∨((lo:Int)+1<=it.loop∧it.loop<=hi))
 | .mk id kind labels name pr x has args thn els,up,nx,loop,n,it,h,h1,h2,h3,h4=>by
   rw [itS] at h;rw [ZS] at h4;rcases List.mem_cons.1 h with rfl|h
   ·exact ⟨h1,h2⟩
   ·have h5:okI lo hi (if kind=6 then ((n:Int)+1) else nx):=by
     split
     ·exact .inr ⟨by omega,by omega⟩
     ·exact h1
    have h6:(if kind=6 then ((n:Int)+1) else loop)=0∨((lo:Int)+1<=(if kind=6 then ((n:Int)+1) else loop)∧(if kind=6 then ((n:Int)+1) else loop)<=hi):=by
     split
     ·exact .inr ⟨by omega,by omega⟩
     ·exact h2
    rcases List.mem_append.1 h with h|h
    ·exact q8g proc lo hi thn _ _ _ _ it h h5 h6 (by omega) (by omega)
    ·exact q8g proc lo hi els _ _ _ _ it h h5 h6 (by omega) (by omega)
theorem q8g (proc:Int) (lo hi:Nat) : ∀ (l:List S) (up nx loop:Int) (n:Nat) (it:Item),it∈itL proc up nx loop n l->okI lo hi nx->(loop=0∨((lo:Int)+1<=loop∧loop<=hi))->lo<=n->n+cntL l<=hi ->
  okI lo hi it.next∧(it.loop=0∨((lo:Int)+1<=it.loop∧it.loop<=hi))
 | [],up,nx,loop,n,it,h,h1,h2,h3,h4=>by rw [itL] at h;cases h
 | t::r,up,nx,loop,n,it,h,h1,h2,h3,h4=>by
   rw [itL] at h;rw [cntL] at h4;rcases List.mem_append.1 h with h|h
   ·refine w3h proc lo hi t _ _ _ _ it h ?_ h2 h3 (by omega);cases r with
    | nil=>exact h1
    | cons u r =>
      have:1<=cntL (u::r):=by rw [cntL,WD];omega
      exact .inr ⟨by simp;omega,by simp;omega⟩
   ·exact q8g proc lo hi r _ _ _ _ it h h1 h2 (by omega) (by omega)
end
theorem PH : ∀ (l:List S) (v:S),v∈l->v∈flL l
 | [],v,h=>by cases h
 | t::r,v,h=>by
   rw [flL];rcases List.mem_cons.1 h with rfl|h
   ·refine List.mem_append.2 (.inl ?_);rw [q6b];exact mem_cons_self
   ·exact List.mem_append.2 (.inr (PH r v h))
end Go.Ab
