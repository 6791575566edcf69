/- tree, flat, scope: the names of an expression, of a statement; what a name is. -/
import Derived.Test.YtiaikoimoonlmaaGreatCfgR8
set_option linter.unusedSimpArgs false
set_option linter.unusedVariables false
set_option maxRecDepth 100000
set_option maxHeartbeats 16000000
open List (drop_eq_nil_of_le drop_zero length_append length_cons length_map mem_cons_self nil_append take_of_length_le)
open Nat (zero_le)
namespace Go.Ab
open Go.Proofs
theorem BW {es:List AV} {n:Nat} {K:Prop} (xs:List Str) (hn:n=es.length) (hb:es.length+xs.length<=8796093022208) (hK:K):AppK es (xs.map .str) n (xs.map AV.str).length 1 16 K :=
 .mk hn rfl (by rw [hn];simp;omega) (by rw [hn];simp [maxLen];omega) (fun x hx=>by obtain ⟨y,_,rfl⟩:=List.mem_map.1 hx;exact ⟨rfl,rfl⟩) hK
theorem WT {es:List AV} {n:Nat} {K:Prop} {s:Str} (hn:n=es.length) (hb:es.length<=8796093022000) (hK:K):AppK es [.str s] n 1 1 16 K :=
 .mk hn rfl (by omega) (by simp only [maxLen];omega) (fun x hx=>by rcases List.mem_singleton.1 hx with rfl;exact ⟨rfl,rfl⟩) hK
theorem UB {es:List AV} {n:Nat} {K:Prop} {s:Int} (hn:n=es.length) (hb:es.length<=8796093022000) (hK:K):AppK es [.int .i64 s] n 1 1 8 K :=
 .mk hn rfl (by omega) (by simp only [maxLen];omega) (fun x hx=>by rcases List.mem_singleton.1 hx with rfl;exact ⟨rfl,rfl⟩) hK
mutual
def x0w:X->List Str->List Str
 | .mk op _ name kids,out=>KY kids (if op=2∧(out.any fun s=>name==s)=false then out++[name] else out)
def KY:List X->List Str->List Str
 | [],out=>out
 | x::r,out=>KY r (x0w x out)
end
theorem x1x (x:X) (out:List Str):x0w x out=KY x.kids (if x.op=2∧(out.any fun s=>x.name==s)=false then out++[x.name] else out):=by
 cases x;rw [x0w];rfl
theorem x4a {l:List X} {j:Nat} {out:List Str} (hj:j<l.length):KY (l.drop j) out=KY (l.drop (j+1)) (x0w l[j] out):=by
 rw [QG hj,KY]
theorem x9i {l:List X} {j:Nat} {out:List Str} (hj:l.length<=j):KY (l.drop j) out=out:=by
 rw [drop_eq_nil_of_le hj,KY]
theorem BK {n:Nat} {x:X} (h:ZF (n+1) x=true):x.kids.length<=2∧(x.op=2->x.kids.length=0) ∧ ∀ k∈x.kids,ZF n k=true:=by
 rw [ZF] at h;simp only [Bool.and_eq_true,decide_eq_true_eq] at h;obtain ⟨h1,h2⟩:=h;refine ⟨?_,fun he => ?_,?_⟩
 ·unfold NO at h1;(repeat' split at h1)<;>omega
 ·unfold NO at h1;rw [if_pos (by omega)] at h1;omega
 ·by_cases h3:x.op=1
  ·have:x.kids.length=0:=by unfold NO at h1;rw [if_pos (by omega)] at h1;omega
   rw [List.eq_nil_of_length_eq_zero this];simp
  ·by_cases h4:x.op=2
   ·have:x.kids.length=0:=by unfold NO at h1;rw [if_pos (by omega)] at h1;omega
    rw [List.eq_nil_of_length_eq_zero this];simp
   ·rw [if_neg h3,if_neg h4] at h2;simp only [Bool.and_eq_true] at h2;exact List.all_eq_true.1 h2.2
theorem z0n : ∀ (n:Nat) (x:X) (out:List Str),ZF n x=true->out.length<=(x0w x out).length∧(x0w x out).length<=out.length+2 ^ n:=by
 intro n;induction n with
 | zero=>intro x out h;rw [ZF] at h;cases h
 | succ n ih =>
   intro x out h;obtain ⟨h1,h2,h3⟩:=BK h;have key : ∀ (l:List X) (o:List Str),(∀ k∈l,ZF n k=true)->o.length<=(KY l o).length∧(KY l o).length<=o.length+l.length*2 ^ n:=by
    intro l;induction l with
    | nil=>intro o _;simp [KY]
    | cons k r ihl =>
      intro o hk;rw [KY];have h5:=ih k o (hk k (by simp));have h6:=ihl (x0w k o) fun k hk'=>hk k (by simp [hk']);simp only [length_cons,Nat.add_mul,Nat.one_mul];omega
   rw [x1x];have hp:2 ^ (n+1)=2*2 ^ n:=by rw [Nat.pow_succ];omega
   have hpos:0<2 ^ n:=Nat.pow_pos (by decide);have h4:=key x.kids (if x.op=2∧(out.any fun s=>x.name==s)=false then out++[x.name] else out) h3;have h5:x.kids.length*2 ^ n<=2*2 ^ n:=Nat.mul_le_mul_right _ h1;split at h4
   ·rename_i hc;have:=h2 hc.1;rw [this] at h4;rw [if_pos hc];simp only [length_append,List.length_singleton] at h4;omega
   ·rename_i hc;rw [if_neg hc];omega
def x7g (t:Nat) (out:List Str):Heap:=[(2000,.own t 1 (out.map .str))]
theorem x2y : ∀ (n:Nat) (_:n<=20) (x:X) (_:ZF n x=true) (out:List Str) (_:out.length+2 ^ n<=1073741824),
  SpecH Tryz.prog 262 [.p (.agg x.cells),.hd 2000 0 out.length] (x7g 9 out) (fun r H=>r = .hd 2000 0 (x0w x out).length∧H=x7g 9 (x0w x out)):=by
 intro n;induction n with
 | zero=>intro _ x h;rw [ZF] at h;cases h
 | succ n ih =>
   intro hn x hx out ho;have hp:2 ^ (n+1)=2*2 ^ n:=by rw [Nat.pow_succ];omega
   have hpos:0<2 ^ n:=Nat.pow_pos (by decide);obtain ⟨hk1,hk2,hk3⟩:=BK hx;have hxl:=X.avs_len x.kids;refine sH q4d Tryz.func262 rfl Tryz.call262 ?_;conv=>whnf
   repeat' (first|((first|(refine iM fun _=>?_)|refine And.intro rfl ?_|refine aD ?_|refine bP ?_|(refine QO (QQ out x.name) (.cons (.hd rfl (by simp)) (.cons (.p (Sub.refl _)) .nil)) (by rintro _ rfl;rfl) ?_;rintro _ rfl)|refine AppK.mk (by simp) rfl (by show (out.length+1)*16<=140737488355328;omega) (by show out.length+1<=9223372036854775807;omega) (fun x hx=>by rcases List.mem_singleton.1 hx with rfl;exact ⟨rfl,rfl⟩) ?_);conv=>whnf)|(apply bD<;>intro _<;>first|omega|conv=>whnf)|(apply bN<;>intro _<;>conv=>whnf))
   all_goals
    have hmul : ∀ j,j<x.kids.length->(x.kids.length-j)*2 ^ n=(x.kids.length-(j+1))*2 ^ n+2 ^ n:=fun j hj=>by
     rw [show x.kids.length-j=(x.kids.length-(j+1))+1 by omega,Nat.add_mul,Nat.one_mul]
    have hmul0:x.kids.length*2 ^ n<=2*2 ^ n:=Nat.mul_le_mul_right _ hk1;first
    | refine LoopK.inv QU (fun i:Nat×List Str=>⟨[(1,.hd 2000 0 i.2.length),(23,.p (.sl (X.avs x.kids))),(24,.p (.int .i64 (X.avs x.kids).length)),(25,.p (.int .i64 i.1))],x7g 9 i.2⟩) (fun i=>i.1<=x.kids.length∧KY (x.kids.drop i.1) i.2=x0w x out∧i.2.length+(x.kids.length-i.1)*2 ^ n<=1073741824) (fun i=>x.kids.length-i.1) (0,out++[x.name]) (Le.of_eq (by simp [x7g];exact ⟨rfl,rfl⟩)) ⟨zero_le _,by simp only [drop_zero];rw [x1x,if_pos ⟨by assumption,by assumption⟩],by have:=hk2 (by assumption);simp [this];omega⟩ ?_
    | refine LoopK.inv QU (fun i:Nat×List Str=>⟨[(1,.hd 2000 0 i.2.length),(23,.p (.sl (X.avs x.kids))),(24,.p (.int .i64 (X.avs x.kids).length)),(25,.p (.int .i64 i.1))],x7g 9 i.2⟩) (fun i=>i.1<=x.kids.length∧KY (x.kids.drop i.1) i.2=x0w x out∧i.2.length+(x.kids.length-i.1)*2 ^ n<=1073741824) (fun i=>x.kids.length-i.1) (0,out) (Le.of_eq rfl) ⟨zero_le _,by simp only [drop_zero];rw [x1x,if_neg (by simp [*])],by simp only [Nat.sub_zero];omega⟩ ?_
    rintro ⟨j,acc⟩ ⟨h2,h3,h4⟩;simp only at h2 h3 h4 ⊢;conv=>whnf
    repeat' (first|((first|refine And.intro rfl ?_|refine IdxK.xs (by omega) ?_);conv=>whnf)|(apply bD<;>intro _<;>first|omega|conv=>whnf))
    all_goals first
     | (rw [x9i (by omega)] at h3
        exact ⟨_,.refl _,by rw [h3];exact ⟨rfl,rfl⟩⟩)
     | (have hj:j<x.kids.length:=by omega
        have hm:=hmul j hj;have hg:=z0n n x.kids[j] acc (hk3 _ (List.getElem_mem hj));refine CallK.heap [(2000,2000)] 0 (by repeat' (first|exact ArgsH.nil|refine ArgsH.cons ?_ ?_|exact LSub.refl _|exact LSub.p Sub.nils|exact LSub.p (Sub.tt rfl)|exact LSub.p (Sub.ff rfl)|exact LSub.p (Sub.int (by omega)))) (by refine BlksH.cons (j:=2000) rfl rfl ?_ ?_;exact CSub.refl _;exact BlksH.nil) (ih (by omega) x.kids[j] (hk3 _ (List.getElem_mem hj)) acc (by omega)) rfl rfl ?_;rintro l' H' ⟨rfl,rfl⟩;conv=>whnf
        refine wI ?_;conv=>whnf
        exact ⟨(j+1,x0w x.kids[j] acc),⟨by simp only;omega,by simp only;rw [<- h3,x4a hj],by simp only;omega⟩,by simp only;omega,Le.of_eq rfl⟩)
def VK (x:X):List Str:=bif z2v x then x0w x [] else []
theorem GX (x:X):(VK x).length<=1048576:=by
 unfold VK;cases h:z2v x with
 | false=>simp
 | true =>
   have:=(z0n 20 x [] h).2;simpa using this
theorem q3b (x:X):SpecP Tryz.prog 211 [.agg x.cells] (fun r=>r=QF (VK x)):=by
 refine sB q8r Tryz.func211 rfl Tryz.call211 ?_;conv=>whnf
 repeat' (first|(refine cP (KU _) ?_;conv=>whnf)|(apply bN<;>intro _<;>conv=>whnf))
 ·refine CallK.nil 5 9 1 rfl (.cons rfl (.row .nil)) ?_;refine CallK.heap [(2000,5)] 0 (by repeat' (first|exact ArgsH.nil|refine ArgsH.cons ?_ ?_|exact LSub.refl _|exact LSub.p Sub.nils|exact LSub.p (Sub.tt rfl)|exact LSub.p (Sub.ff rfl)|exact LSub.p (Sub.int (by omega)))) (by refine BlksH.cons (j:=5) rfl rfl ?_ ?_;exact CSub.refl _;exact BlksH.nil) (x2y 20 (by omega) x (by assumption) [] (by simp)) rfl rfl ?_;rintro l' H' ⟨rfl,rfl⟩;conv=>whnf
  refine ⟨_,.hd rfl (by simp),?_⟩;unfold VK;rw [show z2v x=true by assumption];rfl
 ·refine ⟨_,.p Sub.nils,?_⟩;unfold VK;rw [show z2v x=false by assumption];rfl
def YM (a:Arg):List Str:=(bif a.ref then [a.name] else [])++VK a.x
def JN (t:S):List Str:=(bif t.kind≠10 && !(t.name==[]) then [t.name] else [])++VK t.x
def XR (t:S):List Str:=JN t++t.args.flatMap YM
theorem x6a (a:Arg):(YM a).length<=1048577:=by
 have:=GX a.x;unfold YM;cases a.ref<;>simp<;>omega
theorem x4c (t:S):(JN t).length<=1048577:=by
 have:=GX t.x;unfold JN;cases (t.kind≠10 && !(t.name==[]):Bool)<;>simp<;>omega
theorem LT {α β:Type} {f:α->List β} {c:Nat} (h : ∀ a,(f a).length<=c) : ∀ l:List α,(l.flatMap f).length<=l.length*c
 | []=>by simp
 | x::r=>by
   have:=LT h r;have:=h x;simp only [List.flatMap_cons,length_append,length_cons,Nat.add_mul,Nat.one_mul];omega
def x6e (t:S) (j:Nat):List Str:=JN t++(t.args.take j).flatMap YM
theorem z4q (t:S) {j:Nat} (h:j<=t.args.length) (ha:t.args.length<=20000):(x6e t j).length<=21000000000:=by
 have h1:=x4c t;have h2:=LT x6a (t.args.take j);have h3:(t.args.take j).length*1048577<=20000*1048577:=Nat.mul_le_mul_right _ (by simp;omega);unfold x6e;simp only [length_append];omega
theorem x9k {t:S} {j:Nat} (hj:j<t.args.length):x6e t (j+1)=x6e t j++YM t.args[j]:=by
 unfold x6e;rw [List.take_succ_eq_append_getElem hj,List.flatMap_append,List.append_assoc];simp
def q4q (t:S) (tS:Nat) (j:Nat):St:=⟨[(3,.hd 0 0 (x6e t j).length),(25,.p (.sl (t.args.map fun a => .agg a.cells))),(26,.p (.int .i64 (t.args.map fun a=>AV.agg a.cells).length)),(27,.p (.int .i64 j))],[(0,.own tS 1 ((x6e t j).map .str))]⟩
theorem q3r (t:S) (ha:t.args.length<=20000):SpecP Tryz.prog 251 [.agg t.cells] (fun r=>r=QF (XR t)):=by
 refine sB q8u Tryz.func251 rfl Tryz.call251 ?_;conv=>whnf
 repeat' (first|((first|(refine iM fun _=>?_)|refine cP (q3b _) ?_|refine And.intro rfl ?_|refine aD ?_|refine bP ?_|refine BW _ (by simp) (by have:=GX t.x;simp;omega) ?_|refine WT (by simp) (by simp) ?_);conv=>whnf)|(apply bE<;>intro _<;>first|omega|conv=>whnf)|(apply bN<;>intro _<;>conv=>whnf))
 all_goals
  have hl:(t.args.map fun a=>AV.agg a.cells).length=t.args.length:=length_map _;refine LoopK.inv QU (q4q t 9) (fun j=>j<=t.args.length) (fun j=>t.args.length-j) 0 (Le.of_eq ?_) (zero_le _) ?_
  ·first
    | (have e:x6e t 0=VK t.x:=by simp [x6e,JN,show t.kind=10 by assumption]
       rw [q4q,e];simp only [Nat.zero_add,length_map,length_append,List.map_append,nil_append];rfl)
    | (have e:x6e t 0=VK t.x:=by simp [x6e,JN,show t.name=[] by simpa using (show (t.name==[])=true by assumption)]
       rw [q4q,e];simp only [Nat.zero_add,length_map,length_append,List.map_append,nil_append];rfl)
    | (have e:x6e t 0=[t.name]++VK t.x:=by
        have:(t.name==[])=false:=by assumption
        simp [x6e,JN,show ¬t.kind=10 by assumption,this]
       rw [q4q,e];simp only [Nat.zero_add,length_map,length_append,List.map_append,nil_append];rfl)
  intro j h2;have hacc:=z4q t h2 ha;conv=>whnf
  repeat' (first|((first|refine cP (q3b _) ?_|refine And.intro rfl ?_|refine aD ?_|refine bP ?_|(refine iA fun _=>?_)|refine wI ?_|refine BW _ (by simp) (by have:=GX (t.args[j]'(by omega)).x;simp;omega) ?_|refine WT (by simp) (by simp;omega) ?_);conv=>whnf)|(apply bD<;>intro _<;>first|omega|conv=>whnf)|(apply bB<;>intro _<;>conv=>whnf))
  all_goals first
   | exact ⟨_,.hd rfl (by simp),by
      have:t.args.take j=t.args:=take_of_length_le (by omega);rw [XR,<- this];rfl⟩
   | (have hj:j<t.args.length:=by omega
      have hst:=x9k hj;refine ⟨j+1,by show j+1<=_;omega,by show t.args.length-(j+1)<t.args.length-j;omega,Le.of_eq ?_⟩;first
       | (have hn:YM t.args[j]=[t.args[j].name]++VK t.args[j].x:=by rw [YM,show t.args[j].ref=true by assumption];rfl
          rw [q4q,hst,hn];simp only [length_append,List.map_append,length_map,<- List.append_assoc,<- Nat.add_assoc];rfl)
       | (have hn:YM t.args[j]=VK t.args[j].x:=by rw [YM,show t.args[j].ref=false by assumption];rfl
          rw [q4q,hst,hn];simp only [length_append,List.map_append,length_map];rfl))
def x7k:List Str->Nat
 | []=>0
 | s::r=>1+x7k r
mutual
def wX:X->Nat
 | .mk _ _ name kids=>1+wXs kids
def wXs:List X->Nat
 | []=>0
 | x::r=>wX x+wXs r
end
def NB:List Arg->Nat
 | []=>0
 | a::r=>wX a.x+1+NB r
mutual
def wS:S->Nat
 | .mk _ _ labels name proc x _ args thn els=>wX x+x7k labels+1+1+NB args+wL thn+wL els
def wL:List S->Nat
 | []=>0
 | s::r=>wS s+wL r
end
def z7h:List Param->Nat
 | []=>0
 | a::r=>1+z7h r
def wPr (f:Pr):Nat:=1+x7k f.vars+x7k f.fin+z7h f.params+wL f.body
def z8x:List Pr->Nat
 | []=>0
 | f::r=>wPr f+z8x r
def wPg (p:Pg):Nat:=x7k p.globals+z8x p.procs
def Fit (p:Pg):Prop:=wPg p<=20000
theorem GQ : ∀ l:List Str,l.length<=x7k l
 | []=>zero_le _
 | s::r=>by have:=GQ r;simp only [length_cons,x7k];omega
theorem KH : ∀ l:List Arg,l.length<=NB l
 | []=>zero_le _
 | s::r=>by have:=KH r;simp only [length_cons,NB];omega
theorem x2m : ∀ l:List Param,l.length<=z7h l
 | []=>zero_le _
 | s::r=>by have:=x2m r;simp only [length_cons,z7h];omega
theorem x0f (s:S):wS s=wX s.x+x7k s.labels+1+1+NB s.args+wL s.thn+wL s.els:=by
 cases s;rw [wS];rfl
mutual
theorem z9v : ∀ s:S,XL s<=wS s
 | .mk id kind labels name proc x has args thn els=>by
   have:=q8z thn;have:=q8z els;rw [XL,wS];omega
theorem q8z : ∀ l:List S,cntL l<=wL l
 | []=>by rw [cntL,wL];exact Nat.le_refl _
 | s::r=>by
   have:=z9v s;have:=q8z r;rw [cntL,wL];omega
end
theorem x1c : ∀ {l:List Pr} {f:Pr},f∈l->wPr f<=z8x l
 | g::r,f,h=>by
   simp only [z8x];rcases List.mem_cons.1 h with rfl|h
   ·omega
   ·have:=x1c h;omega
theorem Fit.pr {p:Pg} (h:Fit p) {f:Pr} (hf:f∈p.procs):wPr f<=20000:=by
 have:=x1c hf;unfold Fit wPg at h;omega
mutual
def flS:S->List S
 | .mk id kind labels name proc x has args thn els => .mk id kind labels name proc x has args thn els::(flL thn++flL els)
def flL:List S->List S
 | []=>[]
 | s::r=>flS s++flL r
end
theorem q3u (s:S):flS s=s::(flL s.thn++flL s.els):=by
 cases s;rw [flS];rfl
mutual
theorem z7e : ∀ s:S,(flS s).length=XL s
 | .mk id kind labels name proc x has args thn els=>by
   rw [flS,XL,length_cons,length_append,q0i thn,q0i els];omega
theorem q0i : ∀ l:List S,(flL l).length=cntL l
 | []=>by rw [flL,cntL];rfl
 | s::r=>by rw [flL,cntL,length_append,z7e s,q0i r]
end
mutual
theorem w1n : ∀ (s t:S),t∈flS s->wS t<=wS s
 | .mk id kind labels name proc x has args thn els,t,h=>by
   rw [flS] at h;rcases List.mem_cons.1 h with rfl|h
   ·exact Nat.le_refl _
   ·rw [wS];rcases List.mem_append.1 h with h|h
    ·have:=q8e thn t h;omega
    ·have:=q8e els t h;omega
theorem q8e : ∀ (l:List S) (t:S),t∈flL l->wS t<=wL l
 | [],t,h=>by rw [flL] at h;cases h
 | s::r,t,h=>by
   rw [flL] at h;rw [wL];rcases List.mem_append.1 h with h|h
   ·have:=w1n s t h;omega
   ·have:=q8e r t h;omega
end

mutual
def itS (proc up nx loop:Int) (n:Nat):S->List Item
 | .mk id kind labels name pr x has args thn els =>
   ⟨.mk id kind labels name pr x has args thn els,proc,up,nx,loop⟩::(itL proc (n+1) (if kind=6 then n+1 else nx) (if kind=6 then n+1 else loop) (n+1) thn ++
     itL proc (n+1) (if kind=6 then n+1 else nx) (if kind=6 then n+1 else loop) (n+1+cntL thn) els)
def itL (proc up nx loop:Int) (n:Nat):List S->List Item
 | []=>[]
 | t::r=>itS proc up (if r.isEmpty then nx else n+1+XL t) loop n t++itL proc up nx loop (n+XL t) r
end
theorem w0q (proc up nx loop:Int) (n:Nat) (t:S):itS proc up nx loop n t=⟨t,proc,up,nx,loop⟩::(itL proc (n+1) (if t.kind=6 then n+1 else nx) (if t.kind=6 then n+1 else loop) (n+1) t.thn ++
   itL proc (n+1) (if t.kind=6 then n+1 else nx) (if t.kind=6 then n+1 else loop) (n+1+cntL t.thn) t.els):=by
 cases t;rw [itS];rfl
mutual
theorem z7o (proc up nx loop:Int) : ∀ (t:S) (acc:List Item),ML proc up nx loop acc t=acc++itS proc up nx loop acc.length t
 | .mk id kind labels name pr x has args thn els,acc=>by
   rw [ML,itS,FB _ _ _ _ thn,FB _ _ _ _ els];simp only [length_append,length_cons,List.length_nil,List.append_assoc,List.cons_append,nil_append,ZX proc _ _ _ _ thn,Nat.zero_add,Nat.add_assoc,Nat.add_comm (cntL thn) 1]
theorem FB (proc up nx loop:Int) : ∀ (l:List S) (acc:List Item),XZ proc up nx loop acc l=acc++itL proc up nx loop acc.length l
 | [],acc=>by rw [XZ,itL,List.append_nil]
 | t::r,acc=>by
   rw [XZ,itL,z7o _ _ _ _ t,FB _ _ _ _ r];simp only [length_append,List.append_assoc,z0m proc _ _ _ _ t]
theorem z0m (proc up nx loop:Int) (n:Nat) : ∀ t:S,(itS proc up nx loop n t).length=XL t
 | .mk id kind labels name pr x has args thn els=>by
   rw [itS,XL,length_cons,length_append,ZX _ _ _ _ _ thn,ZX _ _ _ _ _ els];omega
theorem ZX (proc up nx loop:Int) (n:Nat) : ∀ l:List S,(itL proc up nx loop n l).length=cntL l
 | []=>by rw [itL,cntL];rfl
 | t::r=>by rw [itL,cntL,length_append,z0m _ _ _ _ _ t,ZX _ _ _ _ _ r]
end
mutual
theorem w1u (proc up nx loop:Int) (n:Nat) : ∀ t:S,(itS proc up nx loop n t).map Item.s=flS t
 | .mk id kind labels name pr x has args thn els=>by
   rw [itS,flS,List.map_cons,List.map_append,GR _ _ _ _ _ thn,GR _ _ _ _ _ els]
theorem GR (proc up nx loop:Int) (n:Nat) : ∀ l:List S,(itL proc up nx loop n l).map Item.s=flL l
 | []=>by rw [itL,flL];rfl
 | t::r=>by rw [itL,flL,List.map_append,w1u _ _ _ _ _ t,GR _ _ _ _ _ r]
end
def QN:List Pr->Nat->Nat
 | _,0=>0
 | [],_+1=>0
 | f::r,i+1=>cntL f.body+QN r i
theorem q7c : ∀ (l:List Pr) (i:Nat) (acc:List Item) (lo hi:List Int),lo.length=i->hi.length=i ->
  (q1n i acc lo hi l).2.1.length=i+l.length∧(q1n i acc lo hi l).2.2.length=i+l.length ∧
  (∀ k,k<i->(q1n i acc lo hi l).2.1[k]? = lo[k]? ∧ (q1n i acc lo hi l).2.2[k]? = hi[k]?) ∧ ∃ L,(q1n i acc lo hi l).1=acc++L∧L.length=cntP l ∧
  ∀ (k:Nat) (f:Pr),l[k]? = some f->(q1n i acc lo hi l).2.1[i+k]? = some ((acc.length+QN l k:Nat)+1:Int)∧(q1n i acc lo hi l).2.2[i+k]? = some ((acc.length+QN l k+cntL f.body:Nat)+1:Int) ∧
   QN l k+cntL f.body<=cntP l∧(L.take (QN l k+cntL f.body)).drop (QN l k)=itL (i+k:Nat) 0 (-1) 0 (acc.length+QN l k) f.body
 | [],i,acc,lo,hi,h1,h2=>by
   rw [q1n];exact ⟨by simpa using h1,by simpa using h2,fun _ _=>⟨rfl,rfl⟩,[],by simp,rfl,fun k f h=>by simp at h⟩
 | f::r,i,acc,lo,hi,h1,h2=>by
   rw [q1n];have hrow:=FB i 0 (-1) 0 f.body acc;have hlen:=XQ i 0 (-1) 0 acc f.body;obtain ⟨h3,h4,h5,L,h6,h7,h8⟩:=q7c r (i+1) (XZ i 0 (-1) 0 acc f.body) (lo++[(acc.length:Int)+1]) (hi++[((XZ i 0 (-1) 0 acc f.body).length:Int)+1]) (by simp [h1]) (by simp [h2]);refine ⟨by rw [h3,length_cons];omega,by rw [h4,length_cons];omega,fun k hk => ?_,itL i 0 (-1) 0 acc.length f.body++L,?_,?_,fun k g hg => ?_⟩
   ·obtain ⟨h9,h10⟩:=h5 k (by omega);rw [h9,h10,List.getElem?_append_left (by omega),List.getElem?_append_left (by omega)];exact ⟨rfl,rfl⟩
   ·rw [h6,hrow,List.append_assoc]
   ·rw [length_append,h7,ZX,cntP]
   ·cases k with
    | zero =>
      simp only [List.getElem?_cons_zero,Option.some.injEq] at hg;subst hg;obtain ⟨h9,h10⟩:=h5 i (by omega);simp only [Nat.add_zero,QN,Nat.zero_add,drop_zero];refine ⟨?_,?_,?_,?_⟩
      ·rw [h9,List.getElem?_append_right (by omega),h1];simp
      ·rw [h10,List.getElem?_append_right (by omega),h2,hlen];simp
      ·rw [cntP];omega
      ·rw [List.take_append_of_le_length (by rw [ZX];omega),take_of_length_le (by rw [ZX];omega)]
    | succ k =>
      simp only [List.getElem?_cons_succ] at hg;obtain ⟨h9,h10,h11,h12⟩:=h8 k g hg;rw [hlen] at h12;simp only [QN];refine ⟨?_,?_,?_,?_⟩
      ·rw [show i+(k+1)=i+1+k by omega,h9,hlen];congr 2;omega
      ·rw [show i+(k+1)=i+1+k by omega,h10,hlen];congr 2;omega
      ·rw [cntP];omega
      ·rw [List.take_append,List.drop_append,ZX,take_of_length_le (by rw [ZX];omega),drop_eq_nil_of_le (by rw [ZX];omega),nil_append];simp only [ZX];rw [show cntL f.body+QN r k+cntL g.body-cntL f.body=QN r k+cntL g.body by omega,show cntL f.body+QN r k-cntL f.body=QN r k by omega,h12];rw [show i+(k+1)=i+1+k by omega,show acc.length+(cntL f.body+QN r k)=acc.length+cntL f.body+QN r k by omega]
theorem QK (p:Pg):(sheetOf p).p=p∧(sheetOf p).lo.length=p.procs.length∧(sheetOf p).hi.length=p.procs.length∧(sheetOf p).l.length=cntP p.procs ∧
  ∀ (k:Nat) (f:Pr),p.procs[k]? = some f->(sheetOf p).lo[k]? = some ((QN p.procs k:Nat)+1:Int)∧(sheetOf p).hi[k]? = some ((QN p.procs k+cntL f.body:Nat)+1:Int) ∧
   QN p.procs k+cntL f.body<=cntP p.procs∧((sheetOf p).l.take (QN p.procs k+cntL f.body)).drop (QN p.procs k)=itL k 0 (-1) 0 (QN p.procs k) f.body:=by
 obtain ⟨h3,h4,_,L,h6,h7,h8⟩:=q7c p.procs 0 [] [] [] rfl rfl;refine ⟨rfl,by unfold sheetOf;simpa using h3,by unfold sheetOf;simpa using h4,by unfold sheetOf;simp [h6,h7],fun k f hk => ?_⟩;have:=h8 k f hk;unfold sheetOf;simp only [h6,nil_append,List.length_nil,Nat.zero_add] at this ⊢;exact this
mutual
theorem x4u (nest seen:Int) : ∀ (s:S) {m:Int},q5s nest seen s=some m->m=seen+XL s
 | .mk id kind labels name proc x has args thn els,m,h=>by
   simp only [q5s] at h;split at h
   ·cases h
   split at h
   ·cases h
   cases hn:namesB labels<;>rw [hn] at h
   ·cases h
   cases hf:XI (.mk id kind labels name proc x has args thn els)<;>rw [hf] at h
   ·cases h
   simp only [cond_true] at h;split at h
   ·rename_i m1 h1;have h2:=UC (nest+1) (seen+1) thn h1;have h3:=UC (nest+1) m1 els h;rw [XL];omega
   ·cases h
theorem UC (nest seen:Int) : ∀ (l:List S) {m:Int},WI nest seen l=some m->m=seen+cntL l
 | [],m,h=>by
   simp only [WI] at h;cases h;rw [cntL];simp
 | s::r,m,h=>by
   simp only [WI] at h;split at h
   ·cases h
   split at h
   ·rename_i m1 h1;have h2:=x4u nest seen s h1;have h3:=UC nest m1 r h;rw [cntL];omega
   ·cases h
end
theorem q3l : ∀ (l:List Pr) {seen m:Int},seen<=200->XH seen l=some m->m=seen+cntP l∧m<=200
 | [],seen,m,h0,h=>by rw [XH] at h;cases h;simp [cntP];exact h0
 | f::r,seen,m,h0,h=>by
   rw [XH] at h;cases hm:KQ f<;>rw [hm] at h
   ·cases h
   simp only [cond_true] at h;split at h
   ·rename_i m1 h1;have h2:=UC 1 seen f.body h1;have h3:=q0b 1 seen f.body h0 h1;have h4:=q3l r (by omega) h;rw [cntP];omega
   ·cases h
theorem ZI {p:Pg} (h:YA p=true):p.globals.length<=16∧p.procs.length<=16∧cntP p.procs<=200:=by
 unfold YA at h;simp only [Bool.and_eq_true,decide_eq_true_eq] at h;obtain ⟨⟨⟨h1,h2⟩,_⟩,h3⟩:=h;cases hm:XH 0 p.procs with
 | none=>rw [hm] at h3;cases h3
 | some m =>
   have:=q3l p.procs (by decide) hm;omega
theorem x9u {p:Pg} (h:YA p=true) {f:Pr} (hf:f∈p.procs):KQ f=true:=by
 unfold YA at h;simp only [Bool.and_eq_true] at h;have h3:=h.2;have key : ∀ (l:List Pr) (seen:Int),(XH seen l).isSome=true -> ∀ f∈l,KQ f=true:=fun l=>by
  induction l with
  | nil=>intro _ _ f hf;cases hf
  | cons g r ih =>
    intro seen h f hf;rw [XH] at h;cases hm:KQ g<;>rw [hm] at h
    ·cases h
    simp only [cond_true] at h;split at h
    ·rename_i m1 h1;rcases List.mem_cons.1 hf with rfl|hf
     ·exact hm
     ·exact ih _ h f hf
    ·cases h
 exact key _ _ h3 f hf
def MW (p:Pg) (f:Pr) (name:Str):Int :=
 match f.params.find? (fun a=>a.name==name) with
 | some a=>bif a.ref then 3 else 2
 | none=>bif f.vars.any (fun s=>name==s) then 4 else bif p.globals.any (fun s=>name==s) then 1 else 0
theorem BV {α:Type} {l:List α} {p:α->Bool} {j:Nat} (hj:j<l.length) (h:p l[j]=false):(l.drop (j+1)).find? p=(l.drop j).find? p:=by
 rw [QG hj,List.find?_cons,h]
theorem GF {α:Type} {l:List α} {p:α->Bool} {j:Nat} (hj:j<l.length) (h:p l[j]=true):(l.drop j).find? p=some l[j]:=by
 rw [QG hj,List.find?_cons,h]
theorem KO {α:Type} {l:List α} {p:α->Bool} {j:Nat} (hj:l.length<=j):(l.drop j).find? p=none:=by
 rw [drop_eq_nil_of_le hj];rfl
theorem x4p (p:Pg) (f:Pr) (name:Str):SpecP Tryz.prog 107 [.agg p.cells,.agg f.cells,.str name] (fun r=>r = .int .i64 (MW p f name)):=by
 refine sB q8m Tryz.func107 rfl Tryz.call107 ?_;conv=>whnf
 repeat' (refine iM fun _=>?_;conv=>whnf)
 have hl:(f.params.map fun a=>AV.agg a.cells).length=f.params.length:=length_map _;refine LoopK.inv QU (fun j:Nat=>⟨[(2,.p (.str name)),(3,.p (.ip p.cells)),(4,.p (.ip f.cells)),(10,.p (.sl (f.params.map fun a => .agg a.cells))),(11,.p (.int .i64 (f.params.map fun a=>AV.agg a.cells).length)),(12,.p (.int .i64 j))],[]⟩) (fun j=>j<=f.params.length∧(f.params.drop j).find? (fun a=>a.name==name)=f.params.find? (fun a=>a.name==name)) (fun j=>f.params.length-j) 0 (Le.of_eq rfl) ⟨zero_le _,rfl⟩ ?_;rintro j ⟨h2,h3⟩;conv=>whnf
 repeat' (first|((first|refine cP (QQ _ _) ?_|refine And.intro rfl ?_|(refine iA fun _=>?_)|refine wI ?_);conv=>whnf)|(apply bD<;>intro _<;>first|omega|conv=>whnf)|(apply bB<;>intro _<;>conv=>whnf))
 all_goals try have hj:j<f.params.length:=by omega
 all_goals first
  | (exfalso
     have h8:((f.params[j]'(by omega)).name==name)=true:=by assumption
     have h9:((f.params[j]'(by omega)).name==name)=false:=by assumption
     rw [h8] at h9;cases h9)
  | (have e:=GF (p:=fun a:Param=>a.name==name) (by omega) (by assumption)
     rw [h3] at e;exact RetK.int (by unfold MW;rw [e];simp [*]))
  | (refine ⟨j+1,⟨by omega,by rw [<- h3,BV (p:=fun a:Param=>a.name==name) (by omega) (by assumption)]⟩,by omega,Le.of_eq rfl⟩)
  | (have e:f.params.find? (fun a=>a.name==name)=none:=by rw [<- h3,KO (by omega)]
     exact RetK.int (by unfold MW;rw [e];simp [*]))
def mainS:Str:=[109,97,105,110]
def knownB (p:Pg) (f:Pr) (procs:List Str) (t:S):Bool:=(XR t).all (fun n => !(MW p f n==0))&&(decide (t.kind≠4)||(!(t.proc==mainS)&&procs.any fun s=>t.proc==s))
theorem x2k (p:Pg) (f:Pr) (procs:List Str) (t:S) (ha:t.args.length<=20000):SpecP Tryz.prog 196 [.agg p.cells,.agg f.cells,QF procs,.agg t.cells] (fun r=>r = .bool (knownB p f procs t)):=by
 refine sB q5r Tryz.func196 rfl Tryz.call196 ?_;conv=>whnf
 repeat' ((first|(refine iM fun _=>?_)|refine cP (q3r _ ha) ?_);conv=>whnf)
 have hl:((XR t).map AV.str).length=(XR t).length:=length_map _;refine LoopK.inv QU (fun j:Nat=>⟨[(2,.p (QF procs)),(4,.p (.ip p.cells)),(5,.p (.ip f.cells)),(7,.p (.ip t.cells)),(12,.p (QF (XR t))),(13,.p (.int .i64 ((XR t).map AV.str).length)),(14,.p (.int .i64 j))],[]⟩) (fun j=>j<=(XR t).length∧((XR t).drop j).all (fun n => !(MW p f n==0))=(XR t).all (fun n => !(MW p f n==0))) (fun j=>(XR t).length-j) 0 (Le.of_eq rfl) ⟨zero_le _,rfl⟩ ?_;rintro j ⟨h2,h3⟩;conv=>whnf
 repeat' (first|((first|refine cP (x4p _ _ _) ?_|refine cP (QQ _ _) ?_|(refine iA fun _=>?_)|refine wI ?_);conv=>whnf)|(apply bD<;>intro _<;>first|omega|conv=>whnf)|(apply bE<;>intro _<;>first|omega|conv=>whnf)|(apply bN<;>intro _<;>conv=>whnf))
 ·exact RetK.ff (by
   have e:=q2f (p:=fun n => !(MW p f n==0)) (l:=XR t) (j:=j) (by omega) (by simp;assumption);rw [knownB,<- h3,e,Bool.false_and])
 ·exact ⟨j+1,⟨by omega,by rw [<- h3,LH (p:=fun n => !(MW p f n==0)) (by omega) (by simp;assumption)]⟩,by omega,Le.of_eq rfl⟩
 all_goals
  have e:(XR t).all (fun n => !(MW p f n==0))=true:=by rw [<- h3,LM (by omega)]
 ·exact RetK.ff (by
   have h8:(t.proc==mainS)=true:=by assumption
   rw [knownB,e,h8];simp [*])
 ·exact RetK.bool (by
   have h8:(t.proc==mainS)=false:=by assumption
   rw [knownB,e,h8];simp [*])
 ·exact RetK.tt (by rw [knownB,e];simp [*])
def q3t (c at_:Int):AV := .agg [.int .i64 c,.int .i64 at_]
def procsN (p:Pg):List Str:=p.procs.map Pr.name
def XD (p:Pg):Bool:=XA p.globals||(XA (procsN p)||(!((procsN p).any fun s=>mainS==s)||match p.procs.find? (fun f=>mainS==f.name) with
 | some f=>decide (0<f.params.length)
 | none=>true))
def ZM (p:Pg) (f:Pr):Option Int :=
 bif XA (PQ f)||(PQ f).any (fun n=>p.globals.any fun s=>n==s) then some 0 else ((flL f.body).find? fun t => !knownB p f (procsN p) t).map S.id
def QT (p:Pg):Int×Int :=
 bif YA p then bif XD p then (5,0) else match p.procs.findSome? (ZM p) with
  | some a=>(5,a)
  | none=>(0,0)
 else (1,0)
theorem x3g {α:Type} {l:List α} {p:α->Bool} (h:l.any p=true) : ∃ (k:Nat) (hk:k<l.length),idxF p l=k∧p l[k]=true∧l.find? p=some l[k]:=by
 have h1:l.findIdx p<l.length:=by
  rw [List.findIdx_lt_length];exact List.any_eq_true.1 h
 refine ⟨l.findIdx p,h1,by unfold idxF;rw [h];rfl,List.findIdx_getElem,?_⟩;rw [List.find?_eq_some_iff_getElem];exact ⟨List.findIdx_getElem,l.findIdx p,h1,rfl,fun j hj=>by simpa using List.not_of_lt_findIdx hj⟩
theorem x3p {p:Pg} (h:(procsN p).any (fun s=>mainS==s)=true) : ∃ (k:Nat) (hk:k<p.procs.length),idxF (fun s=>mainS==s) (procsN p)=k∧p.procs.find? (fun f=>mainS==f.name)=some p.procs[k]:=by
 have h':p.procs.any (fun f=>mainS==f.name)=true:=by simpa [procsN,List.any_map,Function.comp_def] using h
 obtain ⟨k,hk,h1,_,h2⟩:=x3g h';refine ⟨k,hk,?_,h2⟩;rw [<- h1];unfold idxF;rw [h,h'];simp [procsN,List.findIdx_map,Function.comp_def]
theorem x6p (p:Pg) {j:Nat} {f:Pr} (hj:p.procs[j]? = some f) (hc:cntP p.procs<=1000):SpecP Tryz.prog 195 [.ip (sheetOf p).cells,.int .i64 j] (fun r=>r=YB (itL j 0 (-1) 0 (QN p.procs j) f.body)):=by
 obtain ⟨_,h2,h3,h4,h5⟩:=QK p;obtain ⟨h6,h7,h8,h9⟩:=h5 j f hj;have:=q5a (sheetOf p) j _ _ h6 h7 (by omega) (by omega) (by omega);rw [h9] at this;exact this
theorem WX (l:List Item):(l.map fun i=>AV.agg i.cells).length=l.length:=length_map _
theorem q1f {α β:Type} {l:List α} {f:α->Option β} {j:Nat} (hj:j<l.length) (h:f l[j]=none):(l.drop (j+1)).findSome? f=(l.drop j).findSome? f:=by
 rw [QG hj,List.findSome?_cons,h]
theorem WZ {α β:Type} {l:List α} {f:α->Option β} {j:Nat} {b:β} (hj:j<l.length) (h:f l[j]=some b):(l.drop j).findSome? f=some b:=by
 rw [QG hj,List.findSome?_cons,h]
theorem PS {α β:Type} {l:List α} {f:α->Option β} {j:Nat} (hj:l.length<=j):(l.drop j).findSome? f=none:=by
 rw [drop_eq_nil_of_le hj];rfl
theorem GV {q:S->Bool} (l:List Item):(l.find? fun it=>q it.s).map (fun it=>it.s.id)=((l.map Item.s).find? q).map S.id:=by
 rw [List.find?_map];cases h:l.find? (q∘Item.s) with
 | none=>rw [show (l.find? fun it=>q it.s)=none from h];rfl
 | some i=>rw [show (l.find? fun it=>q it.s)=some i from h];rfl
theorem z0z {l:List Pr} {j:Nat} (hj:j<l.length) (h:wPr l[j]<=20000) {a b c d:Int} {n k:Nat} (hk:k<(itL a b c d n l[j].body).length):(itL a b c d n l[j].body)[k].s.args.length<=20000:=by
 have hm:(itL a b c d n l[j].body)[k].s∈flL l[j].body:=by
  rw [<- GR a b c d n];exact List.mem_map.2 ⟨_,List.getElem_mem hk,rfl⟩
 have h1:=q8e _ _ hm;have h2:=x0f (itL a b c d n l[j].body)[k].s;have h3:=KH (itL a b c d n l[j].body)[k].s.args;unfold wPr at h;omega
theorem QB {H:Heap} {a b c d:Int} (h:a=c) (h':b=d):RetK H (.p (.agg [.int .i64 a,.int .i64 b])) (fun r=>r=q3t c d):=⟨_,.p (Sub.refl _),by rw [h,h'];rfl⟩
theorem UJ (p:Pg) (hf:Fit p):SpecP Tryz.prog 124 [.agg p.cells] (fun r=>r=q3t (QT p).1 (QT p).2):=by
 refine sB q5c Tryz.func124 rfl Tryz.call124 ?_;conv=>whnf
 repeat' (first|((first|(refine iM fun _=>?_)|refine cP (q4t _) ?_|refine And.intro rfl ?_);conv=>whnf)|(apply bN<;>intro _<;>conv=>whnf))
 rotate_left 1
 ·exact QB (by simp [QT, *]) (by simp [QT, *])
 have hm:YA p=true:=by assumption
 obtain ⟨hg,hpl,hcn⟩:=ZI hm;have hl:(p.procs.map fun f=>AV.agg f.cells).length=p.procs.length:=length_map _;have hnl:(procsN p).length=p.procs.length:=by simp [procsN]
 refine LoopK.inv QU (fun i:Nat×List Str=>⟨[(1,.p (.ip p.cells)),(2,.ptr 1 0),(3,.hd 0 0 i.2.length),(18,.p (.sl (p.procs.map fun f => .agg f.cells))),(19,.p (.int .i64 (p.procs.map fun f=>AV.agg f.cells).length)),(20,.p (.int .i64 i.1))],[(0,.own 9 1 (i.2.map .str)),(1,.obj 112 [.p (.int .i64 0),.p (.int .i64 0)])]⟩)
  (fun i=>i.1<=p.procs.length∧i.2=(procsN p).take i.1) (fun i=>p.procs.length-i.1) (0,[])
  (Le.mk [(0,.own 9 1 [])] (by simp [Chunk.new0];rfl) (by simp) (by simp) (.cons (.refl _) (.cons (.refl _) (.cons (.nil mem_cons_self) (.cons (.refl _) (.cons (.refl _) (.cons (.refl _) .nil)))))) (.new mem_cons_self (.cons rfl (.refl _) .nil)))
  ⟨zero_le _,by simp⟩ ?_
 rintro ⟨j,acc⟩ ⟨h2,h3⟩;simp only at h2 h3 ⊢;have hal:acc.length<=16:=by rw [h3];simp;omega
 conv=>whnf
 repeat' (first|((first|refine And.intro rfl ?_|refine aD ?_|refine bP ?_|(refine iA fun _=>?_)|refine wI ?_|refine WT (by simp) (by simp;omega) ?_|(refine QO (QE acc mainS) (.cons (.hd rfl (by simp)) (.cons (.p (Sub.refl _)) .nil)) (by rintro _ rfl;rfl) ?_;rintro _ rfl)|(refine QO (HS acc) (.cons (.hd rfl (by simp)) .nil) (by rintro _ rfl;rfl) ?_;rintro _ rfl)|refine cP (HS _) ?_);conv=>whnf)|(apply bD<;>intro _<;>first|omega|conv=>whnf)|(apply bB<;>intro _<;>conv=>whnf))
 ·exact ⟨(j+1,acc++[p.procs[j].name]),⟨by simp only;omega,by simp only;rw [h3,List.take_succ_eq_append_getElem (by omega)];simp [procsN]⟩,by simp only;omega,Le.of_eq (by simp only [length_append,List.map_append];rfl)⟩
 all_goals
  have hacc:acc=procsN p:=by rw [h3,take_of_length_le (by omega)]
  clear h3;subst hacc
 ·have hb:XD p=true:=by unfold XD;rw [show XA p.globals=true by assumption];rfl
  exact QB (by unfold QT;rw [hm,hb];rfl) (by unfold QT;rw [hm,hb];rfl)
 ·have hb:XD p=true:=by unfold XD;rw [show XA p.globals=false by assumption,show XA (procsN p)=true by assumption];rfl
  exact QB (by unfold QT;rw [hm,hb];rfl) (by unfold QT;rw [hm,hb];rfl)
 ·have hany:((procsN p).any fun s=>mainS==s)=false:=by
   rw [<- BO];simp;omega
  have hb:XD p=true:=by unfold XD;rw [show XA p.globals=false by assumption,show XA (procsN p)=false by assumption,hany];rfl
  exact QB (by unfold QT;rw [hm,hb];rfl) (by unfold QT;rw [hm,hb];rfl)
 have hany:((procsN p).any fun s=>mainS==s)=true:=by
  rw [<- BO];simp;omega
 obtain ⟨k,hk,hik,hfind⟩:=x3p hany;have hlk:(p.procs.map fun f=>AV.agg f.cells)[k]? = some (.agg p.procs[k].cells):=by simp [hk]
 have hpl2:(p.procs[k].params.map fun a=>AV.agg a.cells).length=p.procs[k].params.length:=length_map _;refine IdxK.at hik hlk rfl ?_;conv=>whnf
 repeat' (first|((first|(refine iM fun _=>?_)|refine And.intro rfl ?_|(refine CallK.pure (WH p (by omega) (by omega)) (.cons (Sub.refl _) .nil) ?_;rintro _ rfl));conv=>whnf)|(apply bD<;>intro _<;>first|omega|conv=>whnf))
 ·have hb:XD p=true:=by
   unfold XD;rw [show XA p.globals=false by assumption,show XA (procsN p)=false by assumption,hany,hfind];have:0<p.procs[k].params.length:=by omega
   simp [this]
  exact QB (by unfold QT;rw [hm,hb];rfl) (by unfold QT;rw [hm,hb];rfl)
 have hb:XD p=false:=by
  unfold XD;rw [show XA p.globals=false by assumption,show XA (procsN p)=false by assumption,hany,hfind];have : ¬0<p.procs[k].params.length:=by omega
  simp [this]
 have hsc:QT p=match p.procs.findSome? (ZM p) with
  | some a=>(5,a)
  | none=>(0,0):=by unfold QT;rw [hm,hb];rfl
 rw [hsc];refine LoopK.inv QU (fun j:Nat=>⟨[(1,.p (.ip p.cells)),(2,.ptr 1 0),(3,.hd 0 0 (procsN p).length),(7,.p (.ip (sheetOf p).cells)),(57,.p (.sl (p.procs.map fun f => .agg f.cells))),(58,.p (.int .i64 (p.procs.map fun f=>AV.agg f.cells).length)),(59,.p (.int .i64 j))],[(0,.own 9 1 ((procsN p).map .str)),(1,.obj 112 [.p (.int .i64 0),.p (.int .i64 0)])]⟩)
  (fun j=>j<=p.procs.length∧(p.procs.drop j).findSome? (ZM p)=p.procs.findSome? (ZM p)) (fun j=>p.procs.length-j) 0 (Le.of_eq rfl) ⟨zero_le _,rfl⟩ ?_
 clear h2 hik hfind hlk hpl2;rintro j ⟨h2,h3⟩;rcases Nat.lt_or_ge j p.procs.length with hj|hj;rotate_left 1
 ·have e:p.procs.findSome? (ZM p)=none:=by rw [<- h3,PS hj]
  rw [e];conv=>whnf
  repeat' (first|(refine And.intro rfl ?_;conv=>whnf)|(apply bD<;>intro _<;>first|omega|conv=>whnf))
  exact QB rfl rfl
 have hfp:=hf.pr (List.getElem_mem hj);have hmp:=UD.1 (x9u hm (List.getElem_mem hj));conv=>whnf
 repeat' (first|((first|(refine iM fun _=>?_)|refine cP (HS _) ?_|refine And.intro rfl ?_|(refine iA fun _=>?_)|(refine CallK.pure (q7q (p.procs[j]'hj) (by have:=hmp.1;omega) (by have:=hmp.2.1;omega)) (.cons (Sub.refl _) .nil) ?_;rintro _ rfl)|refine cP (WJ (PQ (p.procs[j]'hj)) 194 (.ip p.cells) (fun n=>p.globals.any fun s=>n==s) (q5w p)) ?_|(refine CallK.pure (x6p p (f:=p.procs[j]'hj) (by simp) (by omega)) (.cons (Sub.refl _) (.cons (Sub.refl _) .nil)) ?_;rintro _ rfl));conv=>whnf)|(apply bD<;>intro _<;>first|omega|conv=>whnf)|(apply bB<;>intro _<;>conv=>whnf))
 ·have e:ZM p p.procs[j]=some 0:=by
   unfold ZM;rw [show XA (PQ p.procs[j])=true by assumption];rfl
  have e2:=WZ hj e;rw [h3] at e2;rw [e2];exact QB rfl rfl
 ·have e:ZM p p.procs[j]=some 0:=by
   unfold ZM;rw [show XA (PQ p.procs[j])=false by assumption,show ((PQ p.procs[j]).any fun n=>p.globals.any fun s=>n==s)=true by assumption];rfl
  have e2:=WZ hj e;rw [h3] at e2;rw [e2];exact QB rfl rfl
 have hsa:ZM p p.procs[j]=((flL p.procs[j].body).find? fun t => !knownB p p.procs[j] (procsN p) t).map S.id:=by
  unfold ZM;rw [show XA (PQ p.procs[j])=false by assumption,show ((PQ p.procs[j]).any fun n=>p.globals.any fun s=>n==s)=false by assumption];rfl
 have hitm : ∀ k (hk:k<(itL (j:Nat) 0 (-1) 0 (QN p.procs j) p.procs[j].body).length),(itL (j:Nat) 0 (-1) 0 (QN p.procs j) p.procs[j].body)[k].s.args.length<=20000:=fun k hk=>z0z hj hfp hk;rw [<- GR (j:Nat) 0 (-1) 0 (QN p.procs j),<- GV] at hsa;have hib:(itL (j:Nat) 0 (-1) 0 (QN p.procs j) p.procs[j].body).length<=20000:=by
  have:=q8z p.procs[j].body;unfold wPr at hfp;rw [ZX];omega
 generalize hits:itL (j:Nat) 0 (-1) 0 (QN p.procs j) p.procs[j].body=its at hsa hitm hib ⊢;have hil:=WX its;refine LoopK.inv QU (fun k:Nat=>⟨[(1,.p (.ip p.cells)),(2,.ptr 1 0),(3,.hd 0 0 (procsN p).length),(7,.p (.ip (sheetOf p).cells)),(9,.p (.ip (p.procs[j]'hj).cells)),(57,.p (.sl (p.procs.map fun f => .agg f.cells))),(58,.p (.int .i64 (p.procs.map fun f=>AV.agg f.cells).length)),(59,.p (.int .i64 j)),(76,.p (YB its)),(77,.p (.int .i64 (its.map fun i=>AV.agg i.cells).length)),(78,.p (.int .i64 k))],[(0,.own 9 1 ((procsN p).map .str)),(1,.obj 112 [.p (.int .i64 0),.p (.int .i64 0)])]⟩)
  (fun k=>k<=its.length∧(its.drop k).find? (fun it => !knownB p p.procs[j] (procsN p) it.s)=its.find? fun it => !knownB p p.procs[j] (procsN p) it.s) (fun k=>its.length-k) 0 (Le.of_eq rfl) ⟨zero_le _,rfl⟩ ?_
 rintro k ⟨h5,h6⟩;rcases Nat.lt_or_ge k its.length with hk|hk;rotate_left 1
 ·rw [<- h6,KO hk] at hsa;conv=>whnf
  repeat' (first|(refine wI ?_;conv=>whnf)|(apply bD<;>intro _<;>first|omega|conv=>whnf))
  exact ⟨j+1,⟨by omega,by rw [<- h3,q1f hj hsa]⟩,by omega,Le.of_eq rfl⟩
 have hka:=hitm k hk;conv=>whnf
 repeat' (first|((first|refine And.intro rfl ?_|(refine iA fun _=>?_)|refine wI ?_|(refine QO (x2k p p.procs[j] (procsN p) its[k].s hka) (.cons (.p (Sub.refl _)) (.cons (.p (Sub.refl _)) (.cons (.hd rfl (by simp)) (.cons (.p (Sub.refl _)) .nil)))) (by rintro _ rfl;rfl) ?_;rintro _ rfl));conv=>whnf)|(apply bD<;>intro _<;>first|omega|conv=>whnf)|(apply bN<;>intro _<;>conv=>whnf))
 ·exact ⟨k+1,⟨by omega,by rw [<- h6,BV (p:=fun it:Item => !knownB p p.procs[j] (procsN p) it.s) hk (by simp;assumption)]⟩,by omega,Le.of_eq rfl⟩
 ·have e3:=GF (p:=fun it:Item => !knownB p p.procs[j] (procsN p) it.s) hk (by simp;assumption);rw [<- h6,e3] at hsa;have e2:=WZ hj hsa;rw [h3] at e2;rw [e2];exact QB rfl rfl
def z9l:LV->Option Bool
 | .p .tt=>some true
 | .p .ff=>some false
 | .p (.bool b)=>some b
 | _=>none
theorem x2a {σ:Mem} {β:Lab} {l:LV} {v:Value} {b:Bool} (h:RepL σ β l v) (hb:z9l l=some b):v = .bool b:=by
 cases h with
 | p h=>cases h<;>simp [z9l] at hb<;>subst hb<;>rfl
 | _=>simp [z9l] at hb
theorem x0x {P:Program} {T:Tab} {hr:Bool} {s:St} {o:Oper} {K:LV->Prop} (hT:TabOK P T) {t u:TypeId} {x y:Operand} (hop:o.op = .binOp .neq t x y u) {i:TyI} (ht:T.get t=some i) (hd:i.desc = .bool)
  {a b:Bool} (hx:z9l (QS s.sl x)=some a) (hy:z9l (QS s.sl y)=some b) (hK:K (.p (.bool (a != b)))):ValO P hr s o K:=by
 refine ⟨fun σ β ac w hs _=>⟨_,.bool (a != b),hK,.p (.bool _),fun w' _ _ => ?_⟩⟩;have h1:=x2a (QX hs x) hx;have h2:=x2a (QX hs y) hy;have hu:=hT.of ht;rw [hd] at hu;have hg:(eqGuard .neq t x y (.bool a) (.bool b)).run P w' = .ok () w':=by unfold eqGuard;rfl
 have he:(Op.equal t (.bool a) (.bool b)).run P w' = .ok (a==b) w':=by
  have e:Op.equal t (.bool a) (.bool b)=Op.equalIn (9999+1) t (.bool a) (.bool b):=rfl;rw [e,Op.equalIn,Sem.run_bind,run_underlying hu,Result.andThen_ok];rfl
 simp only [execOp,hop,h1,h2,Sem.run_bind,hg,Result.andThen_ok,binOp];simp [he];cases a<;>cases b<;>rfl
def x5i (l:List Param) (args:List Arg):Bool:=decide (l.map Param.ref=args.map Arg.ref)
theorem x6q (l:List Param) (args:List Arg):SpecP Tryz.prog 252 [.sl (l.map fun a => .agg a.cells),z0b args] (fun r=>r = .bool (x5i l args)):=by
 refine sB q8v Tryz.func252 rfl Tryz.call252 ?_;conv=>whnf
 repeat' (first|(refine iM fun _=>?_;conv=>whnf)|(apply bE<;>intro _<;>first|omega|conv=>whnf))
 all_goals
  have hl:(l.map fun a=>AV.agg a.cells).length=l.length:=length_map _;have hl2:(args.map fun a=>AV.agg a.cells).length=args.length:=length_map _
 ·have hlen:l.length=args.length:=by omega
  refine LoopK.inv QU (fun j:Nat=>⟨[(1,.p (z0b args)),(12,.p (.sl (l.map fun a => .agg a.cells))),(13,.p (.int .i64 (l.map fun a=>AV.agg a.cells).length)),(14,.p (.int .i64 j))],[]⟩) (fun j=>j<=l.length∧(l.map Param.ref).take j=(args.map Arg.ref).take j) (fun j=>l.length-j) 0 (Le.of_eq rfl) ⟨zero_le _,rfl⟩ ?_;rintro j ⟨h2,h3⟩;rcases Nat.lt_or_ge j l.length with hj|hj
  ·conv=>whnf
   repeat' (first|((first|refine dA ?_|refine And.intro rfl ?_|(refine iA fun _=>?_)|refine wI ?_|refine x0x QU rfl rfl rfl rfl rfl ?_);conv=>whnf)|(apply bD<;>intro _<;>first|omega|conv=>whnf)|(apply bE<;>intro _<;>first|omega|conv=>whnf))
   ·have hne:l[j].ref=(args[j]'(by omega)).ref:=by assumption
    exact ⟨j+1,⟨by omega,by
     rw [List.take_succ_eq_append_getElem (by simp;omega),List.take_succ_eq_append_getElem (by simp;omega),h3];simp [hne]⟩,by omega,Le.of_eq rfl⟩
   ·have hne : ¬l[j].ref=(args[j]'(by omega)).ref:=by assumption
    exact RetK.ff (by
     unfold x5i;rw [decide_eq_false_iff_not];intro he;have:(l.map Param.ref)[j]? = (args.map Arg.ref)[j]? := by rw [he]
     rw [List.getElem?_map,List.getElem?_map,List.getElem?_eq_getElem hj,List.getElem?_eq_getElem (by omega)] at this;simp at this;exact hne this)
  ·conv=>whnf
   repeat' (apply bD<;>intro _<;>first|omega|conv=>whnf)
   exact RetK.tt (by
    unfold x5i;rw [decide_eq_true_eq]
    rwa [take_of_length_le (by simp;omega),take_of_length_le (by simp;omega)] at h3)
 ·exact RetK.ff (by
   unfold x5i;rw [decide_eq_false_iff_not];intro he;have:=congrArg List.length he;simp at this;omega)
def KS (p:Pg) (s:S):Bool:=decide (s.kind=4)&&match p.procs.find? (fun f=>f.name==s.proc) with
 | some f=>x5i f.params s.args
 | none=>false
theorem x6m (p:Pg) (s:S):SpecP Tryz.prog 197 [.agg p.cells,.agg s.cells] (fun r=>r = .bool (KS p s)):=by
 refine sB q9l Tryz.func197 rfl Tryz.call197 ?_;conv=>whnf
 repeat' (first|(refine iM fun _=>?_;conv=>whnf)|(apply bE<;>intro _<;>first|omega|conv=>whnf))
 ·have hl:(p.procs.map fun f=>AV.agg f.cells).length=p.procs.length:=length_map _;refine LoopK.inv QU (fun j:Nat=>⟨[(3,.p (.ip s.cells)),(11,.p (.sl (p.procs.map fun f => .agg f.cells))),(12,.p (.int .i64 (p.procs.map fun f=>AV.agg f.cells).length)),(13,.p (.int .i64 j))],[]⟩) (fun j=>j<=p.procs.length∧(p.procs.drop j).find? (fun f=>f.name==s.proc)=p.procs.find? (fun f=>f.name==s.proc)) (fun j=>p.procs.length-j) 0 (Le.of_eq rfl) ⟨zero_le _,rfl⟩ ?_;rintro j ⟨h2,h3⟩;conv=>whnf
  repeat' (first|((first|refine cP (x6q _ _) ?_|refine And.intro rfl ?_|(refine iA fun _=>?_)|refine wI ?_);conv=>whnf)|(apply bD<;>intro _<;>first|omega|conv=>whnf)|(apply bB<;>intro _<;>conv=>whnf))
  ·have e:=GF (p:=fun f:Pr=>f.name==s.proc) (l:=p.procs) (j:=j) (by omega) (by assumption);rw [h3] at e;exact RetK.bool (by unfold KS;rw [e];simp [*])
  ·exact ⟨j+1,⟨by omega,by rw [<- h3,BV (p:=fun f:Pr=>f.name==s.proc) (by omega) (by assumption)]⟩,by omega,Le.of_eq rfl⟩
  ·have e:p.procs.find? (fun f=>f.name==s.proc)=none:=by rw [<- h3,KO (by omega)]
   exact RetK.ff (by unfold KS;rw [e];simp)
 ·exact RetK.ff (by unfold KS;simp [*])
def YX (p:Pg):List S:=p.procs.flatMap fun f=>flL f.body
theorem z5d : ∀ (l:List Pr) (i:Nat) (acc:List Item) (lo hi:List Int),(q1n i acc lo hi l).1.map Item.s=acc.map Item.s++l.flatMap fun f=>flL f.body
 | [],i,acc,lo,hi=>by rw [q1n];simp
 | f::r,i,acc,lo,hi=>by
   rw [q1n,z5d r,FB,List.map_append,GR,List.flatMap_cons,List.append_assoc]
theorem q4a (p:Pg):(sheetOf p).l.map Item.s=YX p:=by
 have:=z5d p.procs 0 [] [] [];unfold sheetOf YX;simpa using this
theorem x6x {p:Pg} (hf:Fit p) {k:Nat} (hk:k<(sheetOf p).l.length):wS (sheetOf p).l[k].s<=20000:=by
 have hm:(sheetOf p).l[k].s∈YX p:=by
  rw [<- q4a];exact List.mem_map.2 ⟨_,List.getElem_mem hk,rfl⟩
 unfold YX at hm;obtain ⟨f,h1,h2⟩:=List.mem_flatMap.1 hm;have h3:=q8e _ _ h2;have h4:=hf.pr h1;unfold wPr at h4;omega
def WY (p:Pg):Int×Int :=
 if (QT p).1≠0 then (1,0) else match (YX p).find? fun t=>decide (t.kind=4) && !KS p t with
  | some t=>(6,t.id)
  | none=>(0,0)
theorem UR {p:Pg} (h:(QT p).1=0):YA p=true∧XD p=false∧p.procs.findSome? (ZM p)=none:=by
 unfold QT at h;cases hm:YA p<;>rw [hm] at h
 ·cases h
 cases hb:XD p<;>rw [hb] at h
 ·refine ⟨rfl,rfl,?_⟩;simp only [cond_true,cond_false] at h;split at h
  ·cases h
  ·assumption
 ·cases h
theorem LO (p:Pg) (hf:Fit p):SpecP Tryz.prog 125 [.agg p.cells] (fun r=>r=q3t (WY p).1 (WY p).2):=by
 refine sB q5f Tryz.func125 rfl Tryz.call125 ?_;conv=>whnf
 repeat' (first|((first|refine cP (UJ p hf) ?_|refine And.intro rfl ?_);conv=>whnf)|(apply bE<;>intro _<;>first|omega|conv=>whnf))
 rotate_left 1
 ·have e:WY p=(1,0):=by unfold WY;rw [if_pos (by assumption)]
  exact QB (by rw [e]) (by rw [e])
 have hs:(QT p).1=0:=by assumption
 obtain ⟨hm,hb,hns⟩:=UR hs;obtain ⟨hg,hpl,hcn⟩:=ZI hm;have hA:WY p=match (YX p).find? fun t=>decide (t.kind=4) && !KS p t with
  | some t=>(6,t.id)
  | none=>(0,0):=by unfold WY;rw [if_neg (by omega)]
 repeat' ((first|(refine iM fun _=>?_)|(refine CallK.pure (WH p (by omega) (by omega)) (.cons (Sub.refl _) .nil) ?_;rintro _ rfl));conv=>whnf)
 have hil:=WX (sheetOf p).l;have hib:(sheetOf p).l.length<=200:=by have:=(QK p).2.2.2.1;omega
 have hfi:=GV (q:=fun t=>decide (t.kind=4) && !KS p t) (sheetOf p).l;rw [q4a] at hfi;have hA2:WY p=match ((sheetOf p).l.find? fun it=>decide (it.s.kind=4) && !KS p it.s).map (fun it=>it.s.id) with
  | some a=>(6,a)
  | none=>(0,0):=by
  rw [hA,hfi];cases (YX p).find? fun t=>decide (t.kind=4) && !KS p t<;>rfl
 rw [hA2];refine LoopK.inv QU (fun k:Nat=>⟨[(1,.p (.ip p.cells)),(2,.ptr 1 0),(14,.p (YB (sheetOf p).l)),(15,.p (.int .i64 ((sheetOf p).l.map fun i=>AV.agg i.cells).length)),(16,.p (.int .i64 k))],[(1,.obj 112 [.p (.int .i64 0),.p (.int .i64 0)])]⟩)
  (fun k=>k<=(sheetOf p).l.length∧((sheetOf p).l.drop k).find? (fun it=>decide (it.s.kind=4) && !KS p it.s)=(sheetOf p).l.find? fun it=>decide (it.s.kind=4) && !KS p it.s) (fun k=>(sheetOf p).l.length-k) 0 (Le.of_eq rfl) ⟨zero_le _,rfl⟩ ?_
 rintro k ⟨h5,h6⟩;rcases Nat.lt_or_ge k (sheetOf p).l.length with hk|hk;rotate_left 1
 ·rw [<- h6,KO hk];conv=>whnf
  repeat' (first|(refine And.intro rfl ?_;conv=>whnf)|(apply bD<;>intro _<;>first|omega|conv=>whnf))
  exact QB rfl rfl
 conv=>whnf
 repeat' (first|((first|refine cP (x6m _ _) ?_|refine And.intro rfl ?_|(refine iA fun _=>?_)|refine wI ?_);conv=>whnf)|(apply bD<;>intro _<;>first|omega|conv=>whnf)|(apply bN<;>intro _<;>conv=>whnf))
 all_goals first
  | (have e3:=GF (p:=fun it:Item=>decide (it.s.kind=4) && !KS p it.s) hk (by simp [*])
     rw [<- h6,e3];exact QB rfl rfl)
  | exact ⟨k+1,⟨by omega,by rw [<- h6,BV (p:=fun it:Item=>decide (it.s.kind=4) && !KS p it.s) hk (by simp [*])]⟩,by omega,Le.of_eq rfl⟩
def WG:List Str->List Str->Option (List Str)
 | seen,[]=>some seen
 | seen,n::r=>bif seen.any (fun s=>n==s) then none else WG (seen++[n]) r
theorem z3s {seen l:List Str} {j:Nat} (hj:j<l.length) (h:(seen.any fun s=>l[j]==s)=true):WG seen (l.drop j)=none:=by
 rw [QG hj,WG,h];rfl
theorem z1z {seen l:List Str} {j:Nat} (hj:j<l.length) (h:(seen.any fun s=>l[j]==s)=false):WG seen (l.drop j)=WG (seen++[l[j]]) (l.drop (j+1)):=by
 rw [QG hj,WG,h];rfl
theorem FN : ∀ {l seen out:List Str},WG seen l=some out->out=seen++l
 | [],seen,out,h=>by rw [WG] at h;cases h;simp
 | n::r,seen,out,h=>by
   rw [WG] at h;cases hc:(seen.any fun s=>n==s)<;>rw [hc] at h
   ·have:=FN h;simpa using this
   ·cases h
def x9o (t:Nat) (seen l:List Str) (r:LV) (H:Heap):Prop :=
 match WG seen l with
 | some out=>r = .tup [.hd 2000 0 out.length,.p .tt]∧H=x7g t out
 | none => ∃ out,r = .tup [.hd 2000 0 out.length,.p .ff]∧H=x7g t out
theorem LG {t:Nat} {seen l:List Str} {Q:LV->Heap->Prop} (h1:WG seen l=some (seen++l)->Q (.tup [.hd 2000 0 (seen++l).length,.p .tt]) (x7g t (seen++l)))
  (h2:WG seen l=none -> ∀ out,Q (.tup [.hd 2000 0 out.length,.p .ff]) (x7g t out)) : ∀ l' H',x9o t seen l l' H'->Q l' H':=by
 intro l' H' h;unfold x9o at h;cases hr:WG seen l with
 | some out =>
   rw [hr] at h;obtain ⟨rfl,rfl⟩:=h;have:=FN hr;subst this;exact h1 hr
 | none =>
   rw [hr] at h;obtain ⟨out,rfl,rfl⟩:=h;exact h2 hr out
theorem q9w (seen l:List Str) (hlen:seen.length+l.length<=1000000000) :
  SpecH Tryz.prog 199 [.hd 2000 0 seen.length,.p (QF l)] (x7g 9 seen) (x9o 9 seen l):=by
 refine sH x0m Tryz.func199 rfl Tryz.call199 ?_;conv=>whnf
 repeat' (refine iM fun _=>?_;conv=>whnf)
 have hl:(l.map AV.str).length=l.length:=length_map _;refine LoopK.inv QU (fun i:Nat×List Str=>⟨[(0,.hd 2000 0 i.2.length),(8,.p (QF l)),(9,.p (.int .i64 (l.map AV.str).length)),(10,.p (.int .i64 i.1))],x7g 9 i.2⟩) (fun i=>i.1<=l.length∧i.2.length+(l.length-i.1)=seen.length+l.length∧WG i.2 (l.drop i.1)=WG seen l) (fun i=>l.length-i.1) (0,seen) (Le.of_eq rfl) ⟨zero_le _,by simp,rfl⟩ ?_;rintro ⟨j,acc⟩ ⟨h2,h3,h4⟩;simp only at h2 h3 h4 ⊢;rcases Nat.lt_or_ge j l.length with hj|hj
 ·conv=>whnf
  repeat' (first|((first|refine And.intro rfl ?_|refine aD ?_|refine bP ?_|(refine iA fun _=>?_)|refine wI ?_|(refine QO (QQ acc (l[j]'hj)) (.cons (.hd rfl (by simp)) (.cons (.p (Sub.refl _)) .nil)) (by rintro _ rfl;rfl) ?_;rintro _ rfl)|refine WT (by simp) (by simp;omega) ?_);conv=>whnf)|(apply bD<;>intro _<;>first|omega|conv=>whnf)|(apply bB<;>intro _<;>conv=>whnf))
  ·exact ⟨_,.refl _,by unfold x9o;rw [<- h4,z3s hj (by assumption)];exact ⟨acc,rfl,rfl⟩⟩
  ·exact ⟨(j+1,acc++[l[j]]),⟨by simp only;omega,by simp;omega,by simp only;rw [<- h4,z1z hj (by assumption)]⟩,by simp only;omega,Le.of_eq (by simp only [x7g,length_append,List.map_append];rfl)⟩
 ·conv=>whnf
  repeat' (apply bD<;>intro _<;>first|omega|conv=>whnf)
  rw [drop_eq_nil_of_le hj,WG] at h4;exact ⟨_,.refl _,by unfold x9o;rw [<- h4];exact ⟨rfl,rfl⟩⟩
def atB (f:Pr) (label:Str):Int×Bool :=
 match (flL f.body).find? fun t=>t.labels.any fun s=>label==s with
 | some t=>(t.id,true)
 | none=>bif f.fin.any fun s=>label==s then (-1,true) else (0,false)
theorem RetK.tup2 {H:Heap} {k:IntKind} {m n:Int} {x:AV} {b:Bool} (h:m=n) (hb:Sub x (.bool b)):RetK H (.p (.tup [.int k m,x])) (fun r=>r = .tup [.int k n,.bool b]) :=
 ⟨_,.p (Sub.tup (SubL.cons (Sub.int h) (SubL.cons hb SubL.nil))),rfl⟩
theorem JZ (p:Pg) (j:Nat) (f:Pr) (hj:p.procs[j]? = some f) (hc:cntP p.procs<=1000) (label:Str):SpecP Tryz.prog 181 [.ip (sheetOf p).cells,.int .i64 j,.str label] (fun r=>r = .tup [.int .i64 (atB f label).1,.bool (atB f label).2]):=by
 refine sB q1z Tryz.func181 rfl Tryz.call181 ?_;conv=>whnf
 repeat' ((first|(refine iM fun _=>?_)|refine cP (x6p p hj hc) ?_);conv=>whnf)
 have hfi:=GV (q:=fun t=>t.labels.any fun s=>label==s) (itL (j:Nat) 0 (-1) 0 (QN p.procs j) f.body);rw [GR] at hfi;have hib:(itL (j:Nat) 0 (-1) 0 (QN p.procs j) f.body).length<=1000:=by
  have:=(QK p).2.2.2.2 j f hj;rw [ZX];omega
 generalize hits:itL (j:Nat) 0 (-1) 0 (QN p.procs j) f.body=its at hfi hib ⊢;have hil:=WX its;have hat:atB f label=match (its.find? fun it=>it.s.labels.any fun s=>label==s).map (fun it=>it.s.id) with
  | some a=>(a,true)
  | none=>bif f.fin.any fun s=>label==s then (-1,true) else (0,false):=by
  unfold atB;rw [hfi];cases (flL f.body).find? fun t=>t.labels.any fun s=>label==s<;>rfl
 rw [hat];refine LoopK.inv QU (fun k:Nat=>⟨[(0,.p (.ip (sheetOf p).cells)),(1,.p (.int .i64 j)),(2,.p (.str label)),(12,.p (YB its)),(13,.p (.int .i64 (its.map fun i=>AV.agg i.cells).length)),(14,.p (.int .i64 k))],[]⟩)
  (fun k=>k<=its.length∧(its.drop k).find? (fun it=>it.s.labels.any fun s=>label==s)=its.find? fun it=>it.s.labels.any fun s=>label==s) (fun k=>its.length-k) 0 (Le.of_eq rfl) ⟨zero_le _,rfl⟩ ?_
 rintro k ⟨h5,h6⟩;rcases Nat.lt_or_ge k its.length with hk|hk
 ·conv=>whnf
  repeat' (first|((first|refine cP (QQ _ _) ?_|refine And.intro rfl ?_|(refine iA fun _=>?_)|refine wI ?_);conv=>whnf)|(apply bD<;>intro _<;>first|omega|conv=>whnf)|(apply bB<;>intro _<;>conv=>whnf))
  ·have e3:=GF (p:=fun it:Item=>it.s.labels.any fun s=>label==s) hk (by assumption);rw [<- h6,e3];exact RetK.tup2 rfl (Sub.tt rfl)
  ·exact ⟨k+1,⟨by omega,by rw [<- h6,BV (p:=fun it:Item=>it.s.labels.any fun s=>label==s) hk (by assumption)]⟩,by omega,Le.of_eq rfl⟩
 ·rw [<- h6,KO hk];have hpj:(p.procs.map fun f=>AV.agg f.cells)[j]? = some (.agg f.cells):=by simp [hj]
  conv=>whnf
  repeat' (first|((first|refine cP (QQ _ _) ?_|(refine IdxK.at rfl hpj rfl ?_));conv=>whnf)|(apply bD<;>intro _<;>first|omega|conv=>whnf)|(apply bB<;>intro _<;>conv=>whnf))
  ·exact RetK.tup2 (by simp [*]) (Sub.tt (by simp [*]))
  ·exact RetK.tup2 (by simp [*]) (Sub.ff (by simp [*]))
def WL (f:Pr) (it:Item):Bool:=if it.s.kind=7∨it.s.kind=8 then !(it.loop==0) else if it.s.kind=10 then (atB f it.s.name).2 else true
theorem x5p (p:Pg) (j:Nat) (f:Pr) (hj:p.procs[j]? = some f) (hc:cntP p.procs<=1000) (it:Item) (hp:it.proc=j):SpecP Tryz.prog 200 [.ip (sheetOf p).cells,.agg it.cells] (fun r=>r = .bool (WL f it)):=by
 refine sB q9c Tryz.func200 rfl Tryz.call200 ?_;conv=>whnf
 repeat' (first|(refine CallK.pure (JZ p j f hj hc it.s.name) (.cons (Sub.refl _) (.cons (Sub.int hp) (.cons (Sub.refl _) .nil))) ?_;rintro _ rfl;conv=>whnf)|(apply bD<;>intro _<;>first|omega|conv=>whnf))
 all_goals first
  | exact RetK.bool (by simp [WL, *];rfl)
  | exact RetK.bool (by simp [WL, *])
  | exact RetK.tt (by simp [WL, *])
theorem x6k (p:Pg) (hf:Fit p) (h:(QT p).1=0):SpecP Tryz.prog 198 [.agg p.cells] (fun r=>r = .ip (sheetOf p).cells):=by
 refine sB PI Tryz.func198 rfl Tryz.call198 ?_;conv=>whnf
 obtain ⟨hm,hb,hns⟩:=UR h;obtain ⟨hg,hpl,hcn⟩:=ZI hm;repeat' (first|((first|refine cP (UJ p hf) ?_|(refine CallK.pure (WH p (by omega) (by omega)) (.cons (Sub.refl _) .nil) ?_;rintro _ rfl));conv=>whnf)|(apply bE<;>intro _<;>first|omega|conv=>whnf))
 exact RetK.p rfl
theorem q6f (p:Pg) (hf:Fit p) (h:(QT p).1≠0):SpecP Tryz.prog 198 [.agg p.cells] (fun r=>r = .nilp):=by
 refine sB PI Tryz.func198 rfl Tryz.call198 ?_;conv=>whnf
 repeat' (first|(refine cP (UJ p hf) ?_;conv=>whnf)|(apply bE<;>intro _<;>first|omega|conv=>whnf))
 exact RetK.p rfl
mutual
theorem z2p (proc up nx loop:Int) (n:Nat) : ∀ (t:S) (it:Item),it∈itS proc up nx loop n t->it.proc=proc
 | .mk id kind labels name pr x has args thn els,it,h=>by
   rw [itS] at h;rcases List.mem_cons.1 h with rfl|h
   ·rfl
   ·rcases List.mem_append.1 h with h|h
    ·exact GK _ _ _ _ _ thn it h
    ·exact GK _ _ _ _ _ els it h
theorem GK (proc up nx loop:Int) (n:Nat) : ∀ (l:List S) (it:Item),it∈itL proc up nx loop n l->it.proc=proc
 | [],it,h=>by rw [itL] at h;cases h
 | t::r,it,h=>by
   rw [itL] at h;rcases List.mem_append.1 h with h|h
   ·exact z2p _ _ _ _ _ t it h
   ·exact GK _ _ _ _ _ r it h
end
def VB (f:Pr):List Item->List Str->Except Int (List Str)
 | [],seen => .ok seen
 | it::r,seen=>match WG seen it.s.labels with
   | none => .error it.s.id
   | some s=>bif WL f it then VB f r s else .error it.s.id
def VH (p:Pg) (j:Nat):Option Int :=
 match p.procs[j]? with
 | none=>none
 | some f=>match VB f (itL (j:Nat) 0 (-1) 0 (QN p.procs j) f.body) [] with
   | .error id=>some id
   | .ok seen=>match WG seen f.fin with
     | none=>some 0
     | some _=>none
def GA (p:Pg):Int×Int :=
 if (QT p).1≠0 then (1,0) else match (List.range p.procs.length).findSome? (VH p) with
  | some a=>(7,a)
  | none=>(0,0)
theorem z4k {f:Pr} {its:List Item} {seen:List Str} {k:Nat} (hk:k<its.length) (h:WG seen its[k].s.labels=none):VB f (its.drop k) seen = .error its[k].s.id:=by
 rw [QG hk,VB,h]
theorem x9s {f:Pr} {its:List Item} {seen s:List Str} {k:Nat} (hk:k<its.length) (h:WG seen its[k].s.labels=some s) (hl:WL f its[k]=false):VB f (its.drop k) seen = .error its[k].s.id:=by
 rw [QG hk,VB,h];simp only [hl,cond_false]
theorem x8c {f:Pr} {its:List Item} {seen s:List Str} {k:Nat} (hk:k<its.length) (h:WG seen its[k].s.labels=some s) (hl:WL f its[k]=true):VB f (its.drop k) seen=VB f (its.drop (k+1)) s:=by
 rw [QG hk,VB,h];simp only [hl,cond_true]
theorem x1l {l:List Pr} {j:Nat} (hj:j<l.length) (h:wPr l[j]<=20000) {a b c d:Int} {n k:Nat} (hk:k<(itL a b c d n l[j].body).length):(itL a b c d n l[j].body)[k].s.labels.length<=20000:=by
 have hm:(itL a b c d n l[j].body)[k].s∈flL l[j].body:=by
  rw [<- GR a b c d n];exact List.mem_map.2 ⟨_,List.getElem_mem hk,rfl⟩
 have h1:=q8e _ _ hm;have h2:=x0f (itL a b c d n l[j].body)[k].s;have h3:=GQ (itL a b c d n l[j].body)[k].s.labels;unfold wPr at h;omega
theorem x7q (p:Pg) (hf:Fit p):SpecP Tryz.prog 126 [.agg p.cells] (fun r=>r=q3t (GA p).1 (GA p).2):=by
 refine sB q7g Tryz.func126 rfl Tryz.call126 ?_;conv=>whnf
 rcases Decidable.em ((QT p).1=0) with hs|hs;rotate_left 1
 ·
  repeat' ((first|refine cP (q6f p hf hs) ?_|refine And.intro rfl ?_);conv=>whnf)
  have e:GA p=(1,0):=by unfold GA;rw [if_pos hs]
  exact QB (by rw [e]) (by rw [e])
 obtain ⟨hm,hb,hns⟩:=UR hs;obtain ⟨hg,hpl,hcn⟩:=ZI hm;have hJ:GA p=match (List.range p.procs.length).findSome? (VH p) with
  | some a=>(7,a)
  | none=>(0,0):=by unfold GA;rw [if_neg (by omega)]
 rw [hJ];have hl:(p.procs.map fun f=>AV.agg f.cells).length=p.procs.length:=length_map _;repeat' ((first|(refine iM fun _=>?_)|refine cP (x6k p hf hs) ?_);conv=>whnf)
 refine LoopK.inv QU (fun j:Nat=>⟨[(2,.ptr 1 0),(3,.p (.ip (sheetOf p).cells)),(16,.p (.sl (p.procs.map fun f => .agg f.cells))),(17,.p (.int .i64 (p.procs.map fun f=>AV.agg f.cells).length)),(18,.p (.int .i64 j))],[(1,.obj 112 [.p (.int .i64 0),.p (.int .i64 0)])]⟩)
  (fun j=>j<=p.procs.length∧((List.range p.procs.length).drop j).findSome? (VH p)=(List.range p.procs.length).findSome? (VH p)) (fun j=>p.procs.length-j) 0 (Le.of_eq rfl) ⟨zero_le _,rfl⟩ ?_
 rintro j ⟨h2,h3⟩;rcases Nat.lt_or_ge j p.procs.length with hj|hj;rotate_left 1
 ·have e:(List.range p.procs.length).findSome? (VH p)=none:=by rw [<- h3,PS (by simpa using hj)]
  rw [e];conv=>whnf
  repeat' (first|(refine And.intro rfl ?_;conv=>whnf)|(apply bD<;>intro _<;>first|omega|conv=>whnf))
  exact QB rfl rfl
 have hfp:=hf.pr (List.getElem_mem hj);have hjr:j<(List.range p.procs.length).length:=by simpa using hj
 have hrj:(List.range p.procs.length)[j]=j:=by simp
 have hpj:p.procs[j]? = some p.procs[j]:=by simp [hj]
 conv=>whnf
 repeat' (first|((first|(refine iM fun _=>?_)|refine And.intro rfl ?_|(refine iA fun _=>?_)|(refine CallK.pure (x6p p (f:=p.procs[j]'hj) hpj (by omega)) (.cons (Sub.refl _) (.cons (Sub.refl _) .nil)) ?_;rintro _ rfl));conv=>whnf)|(apply bD<;>intro _<;>first|omega|conv=>whnf))
 have hlab : ∀ k (hk:k<(itL (j:Nat) 0 (-1) 0 (QN p.procs j) p.procs[j].body).length),(itL (j:Nat) 0 (-1) 0 (QN p.procs j) p.procs[j].body)[k].s.labels.length<=20000:=fun k hk=>x1l hj hfp hk;have hprc : ∀ k (hk:k<(itL (j:Nat) 0 (-1) 0 (QN p.procs j) p.procs[j].body).length),(itL (j:Nat) 0 (-1) 0 (QN p.procs j) p.procs[j].body)[k].proc=j:=fun k hk=>GK _ _ _ _ _ _ _ (List.getElem_mem hk);have hib:(itL (j:Nat) 0 (-1) 0 (QN p.procs j) p.procs[j].body).length<=200:=by
  have:=(QK p).2.2.2.2 j _ hpj;rw [ZX];omega
 have hja:VH p j=match VB p.procs[j] (itL (j:Nat) 0 (-1) 0 (QN p.procs j) p.procs[j].body) [] with
  | .error id=>some id
  | .ok seen=>match WG seen p.procs[j].fin with
    | none=>some 0
    | some _=>none:=by
  unfold VH;rw [hpj]
 generalize hits:itL (j:Nat) 0 (-1) 0 (QN p.procs j) p.procs[j].body=its at hlab hprc hib hja ⊢;have hil:=WX its;refine LoopK.inv QU (fun i:Nat×List Str=>⟨[(2,.ptr 1 0),(3,.p (.ip (sheetOf p).cells)),(5,.p (.ip (p.procs[j]'hj).cells)),(6,.hd 0 0 i.2.length),(16,.p (.sl (p.procs.map fun f => .agg f.cells))),(17,.p (.int .i64 (p.procs.map fun f=>AV.agg f.cells).length)),(18,.p (.int .i64 j)),(25,.p (YB its)),(26,.p (.int .i64 (its.map fun i=>AV.agg i.cells).length)),(27,.p (.int .i64 i.1))],[(0,.own 9 1 (i.2.map .str)),(1,.obj 112 [.p (.int .i64 0),.p (.int .i64 0)])]⟩)
  (fun i=>i.1<=its.length∧i.2.length<=20000*i.1∧VB p.procs[j] (its.drop i.1) i.2=VB p.procs[j] its []) (fun i=>its.length-i.1) (0,[])
  (Le.mk [(0,.own 9 1 [])] (by simp [Chunk.new0];rfl) (by simp) (by simp) (.cons (.refl _) (.cons (.refl _) (.cons (.refl _) (.cons (.nil mem_cons_self) (.cons (.refl _) (.cons (.refl _) (.cons (.refl _) (.cons (.refl _) (.cons (.refl _) (.cons (.refl _) .nil)))))))))) (.new mem_cons_self (.cons rfl (.refl _) .nil)))
  ⟨zero_le _,by simp,rfl⟩ ?_
 rintro ⟨k,acc⟩ ⟨h5,h6,h7⟩;simp only at h5 h6 h7 ⊢;rcases Nat.lt_or_ge k its.length with hk|hk
 ·have hlk:=hlab k hk;conv=>whnf
  repeat' (first|((first|refine And.intro rfl ?_|(refine iA fun _=>?_)|refine wI ?_|(refine CallK.pure (x5p p j p.procs[j] hpj (by omega) its[k] (hprc k hk)) (.cons (Sub.refl _) (.cons (Sub.refl _) .nil)) ?_;rintro _ rfl));conv=>whnf)|(apply bD<;>intro _<;>first|omega|conv=>whnf)|(apply bN<;>intro _<;>conv=>whnf)|(refine CallK.heap [(2000,0)] 0 (by repeat' (first|exact ArgsH.nil|refine ArgsH.cons ?_ ?_|exact LSub.refl _|exact LSub.p Sub.nils|exact LSub.p (Sub.tt rfl)|exact LSub.p (Sub.ff rfl)|exact LSub.p (Sub.int (by omega)))) (by refine BlksH.cons (j:=0) rfl rfl ?_ ?_;exact CSub.refl _;exact BlksH.nil) (q9w acc its[k].s.labels (by omega)) rfl rfl (LG (fun hjo => ?_) (fun hjo out => ?_))<;>conv=>whnf))
  ·exact ⟨(k+1,acc++its[k].s.labels),⟨by simp only;omega,by simp;omega,by simp only;rw [<- h7,x8c hk hjo (by assumption)]⟩,by simp only;omega,Le.of_eq rfl⟩
  ·rw [<- h7,x9s hk hjo (by assumption)] at hja;have e2:=WZ (f:=VH p) hjr (by rw [hrj];exact hja);rw [h3] at e2;rw [e2];exact QB rfl rfl
  ·rw [<- h7,z4k hk hjo] at hja;have e2:=WZ (f:=VH p) hjr (by rw [hrj];exact hja);rw [h3] at e2;rw [e2];exact QB rfl rfl
 ·have hfin:p.procs[j].fin.length<=20000:=by
   have:=GQ p.procs[j].fin;unfold wPr at hfp;omega
  rw [drop_eq_nil_of_le hk,VB] at h7;rw [<- h7] at hja;simp only at hja;conv=>whnf
  repeat' (first|((first|refine And.intro rfl ?_|refine wI ?_);conv=>whnf)|(apply bD<;>intro _<;>first|omega|conv=>whnf)|(refine CallK.heap [(2000,0)] 0 (by repeat' (first|exact ArgsH.nil|refine ArgsH.cons ?_ ?_|exact LSub.refl _|exact LSub.p Sub.nils|exact LSub.p (Sub.tt rfl)|exact LSub.p (Sub.ff rfl)|exact LSub.p (Sub.int (by omega)))) (by refine BlksH.cons (j:=0) rfl rfl ?_ ?_;exact CSub.refl _;exact BlksH.nil) (q9w acc p.procs[j].fin (by omega)) rfl rfl (LG (fun hjo => ?_) (fun hjo out => ?_))<;>conv=>whnf))
  ·rw [hjo] at hja;exact ⟨j+1,⟨by omega,by rw [<- h3,q1f (f:=VH p) hjr (by rw [hrj];exact hja)]⟩,by omega,Le.of_eq rfl⟩
  ·rw [hjo] at hja;have e2:=WZ (f:=VH p) hjr (by rw [hrj];exact hja);rw [h3] at e2;rw [e2];exact QB rfl rfl
theorem BZ {es:List AV} {sz:Nat} {out:List LV} {Kp Ko:Prop} (hx:(es.all fun x=>x.cells.length==sz)=true) (ho:out=(es.flatMap AV.cells).map .p) (hK:Kp):BsK es sz out Kp Ko := .pure (fun x h=>by simpa using List.all_eq_true.1 hx x h) ho hK
end Go.Ab
