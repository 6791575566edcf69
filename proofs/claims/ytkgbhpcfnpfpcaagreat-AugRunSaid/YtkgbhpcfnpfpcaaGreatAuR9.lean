/- tree, flat, scope: the names of an expression, of a statement; what a name is. -/
import Derived.Test.YtkgbhpcfnpfpcaaGreatAuR8
set_option linter.unusedSimpArgs false
set_option linter.unusedVariables false
set_option maxRecDepth 100000
set_option maxHeartbeats 16000000
open List (drop_eq_nil_of_le drop_zero length_append length_cons length_map mem_cons_self nil_append take_of_length_le)
open Nat (zero_le)
namespace Go.Ab
open Go.Proofs
theorem BU {es:List AV} {n:Nat} {K:Prop} (xs:List Str) (hn:n=es.length) (hb:es.length+xs.length<=8796093022208) (hK:K):AppK es (xs.map .str) n (xs.map AV.str).length 1 16 K :=
 .mk hn rfl (by rw [hn];simp;omega) (by rw [hn];simp [maxLen];omega) (fun x hx=>by obtain ⟨y,_,rfl⟩:=List.mem_map.1 hx;exact ⟨rfl,rfl⟩) hK
theorem VF {es:List AV} {n:Nat} {K:Prop} {s:Str} (hn:n=es.length) (hb:es.length<=8796093022000) (hK:K):AppK es [.str s] n 1 1 16 K :=
 .mk hn rfl (by omega) (by simp only [maxLen];omega) (fun x hx=>by rcases List.mem_singleton.1 hx with rfl;exact ⟨rfl,rfl⟩) hK
theorem WX {es:List AV} {n:Nat} {K:Prop} {s:Int} (hn:n=es.length) (hb:es.length<=8796093022000) (hK:K):AppK es [.int .i64 s] n 1 1 8 K :=
 .mk hn rfl (by omega) (by simp only [maxLen];omega) (fun x hx=>by rcases List.mem_singleton.1 hx with rfl;exact ⟨rfl,rfl⟩) hK
mutual
def x1q:X->List Str->List Str
 | .mk op _ name kids,out=>KN kids (if op=2∧(out.any fun s=>name==s)=false then out++[name] else out)
def KN:List X->List Str->List Str
 | [],out=>out
 | x::r,out=>KN r (x1q x out)
end
theorem x1y (x:X) (out:List Str):x1q x out=KN x.kids (if x.op=2∧(out.any fun s=>x.name==s)=false then out++[x.name] else out):=by
 cases x;rw [x1q];rfl
theorem x6c {l:List X} {j:Nat} {out:List Str} (hj:j<l.length):KN (l.drop j) out=KN (l.drop (j+1)) (x1q l[j] out):=by
 rw [QK hj,KN]
theorem x8o {l:List X} {j:Nat} {out:List Str} (hj:l.length<=j):KN (l.drop j) out=out:=by
 rw [drop_eq_nil_of_le hj,KN]
theorem PP {n:Nat} {x:X} (h:ZP (n+1) x=true):x.kids.length<=2∧(x.op=2->x.kids.length=0) ∧ ∀ k∈x.kids,ZP n k=true:=by
 rw [ZP] at h;simp only [Bool.and_eq_true,decide_eq_true_eq] at h;obtain ⟨h1,h2⟩:=h;refine ⟨?_,fun he => ?_,?_⟩
 ·unfold NC at h1;(repeat' split at h1)<;>omega
 ·unfold NC at h1;rw [if_pos (by omega)] at h1;omega
 ·by_cases h3:x.op=1
  ·have:x.kids.length=0:=by unfold NC at h1;rw [if_pos (by omega)] at h1;omega
   rw [List.eq_nil_of_length_eq_zero this];simp
  ·by_cases h4:x.op=2
   ·have:x.kids.length=0:=by unfold NC at h1;rw [if_pos (by omega)] at h1;omega
    rw [List.eq_nil_of_length_eq_zero this];simp
   ·rw [if_neg h3,if_neg h4] at h2;simp only [Bool.and_eq_true] at h2;exact List.all_eq_true.1 h2.2
theorem z1w : ∀ (n:Nat) (x:X) (out:List Str),ZP n x=true->out.length<=(x1q x out).length∧(x1q x out).length<=out.length+2 ^ n:=by
 intro n;induction n with
 | zero=>intro x out h;rw [ZP] at h;cases h
 | succ n ih =>
   intro x out h;obtain ⟨h1,h2,h3⟩:=PP h;have key : ∀ (l:List X) (o:List Str),(∀ k∈l,ZP n k=true)->o.length<=(KN l o).length∧(KN l o).length<=o.length+l.length*2 ^ n:=by
    intro l;induction l with
    | nil=>intro o _;simp [KN]
    | cons k r ihl =>
      intro o hk;rw [KN];have h5:=ih k o (hk k (by simp));have h6:=ihl (x1q k o) fun k hk'=>hk k (by simp [hk']);simp only [length_cons,Nat.add_mul,Nat.one_mul];omega
   rw [x1y];have hp:2 ^ (n+1)=2*2 ^ n:=by rw [Nat.pow_succ];omega
   have hpos:0<2 ^ n:=Nat.pow_pos (by decide);have h4:=key x.kids (if x.op=2∧(out.any fun s=>x.name==s)=false then out++[x.name] else out) h3;have h5:x.kids.length*2 ^ n<=2*2 ^ n:=Nat.mul_le_mul_right _ h1;split at h4
   ·rename_i hc;have:=h2 hc.1;rw [this] at h4;rw [if_pos hc];simp only [length_append,List.length_singleton] at h4;omega
   ·rename_i hc;rw [if_neg hc];omega
def x8z (t:Nat) (out:List Str):Heap:=[(2000,.own t 1 (out.map .str))]
theorem x1k : ∀ (n:Nat) (_:n<=20) (x:X) (_:ZP n x=true) (out:List Str) (_:out.length+2 ^ n<=1073741824),
  SpecH Tryz.prog 278 [.p (.agg x.cells),.hd 2000 0 out.length] (x8z 9 out) (fun r H=>r = .hd 2000 0 (x1q x out).length∧H=x8z 9 (x1q x out)):=by
 intro n;induction n with
 | zero=>intro _ x h;rw [ZP] at h;cases h
 | succ n ih =>
   intro hn x hx out ho;have hp:2 ^ (n+1)=2*2 ^ n:=by rw [Nat.pow_succ];omega
   have hpos:0<2 ^ n:=Nat.pow_pos (by decide);obtain ⟨hk1,hk2,hk3⟩:=PP hx;have hxl:=X.avs_len x.kids;refine sH q7j Tryz.func278 rfl Tryz.call278 ?_;conv=>whnf
   repeat' (first|((first|(refine iM fun _=>?_)|refine And.intro rfl ?_|refine aD ?_|refine bP ?_|(refine XK (QQ out x.name) (.cons (.hd rfl (by simp)) (.cons (.p (Sub.refl _)) .nil)) (by rintro _ rfl;rfl) ?_;rintro _ rfl)|refine AppK.mk (by simp) rfl (by show (out.length+1)*16<=140737488355328;omega) (by show out.length+1<=9223372036854775807;omega) (fun x hx=>by rcases List.mem_singleton.1 hx with rfl;exact ⟨rfl,rfl⟩) ?_);conv=>whnf)|(apply bD<;>intro _<;>first|omega|conv=>whnf)|(apply bN<;>intro _<;>conv=>whnf))
   all_goals
    have hmul : ∀ j,j<x.kids.length->(x.kids.length-j)*2 ^ n=(x.kids.length-(j+1))*2 ^ n+2 ^ n:=fun j hj=>by
     rw [show x.kids.length-j=(x.kids.length-(j+1))+1 by omega,Nat.add_mul,Nat.one_mul]
    have hmul0:x.kids.length*2 ^ n<=2*2 ^ n:=Nat.mul_le_mul_right _ hk1;first
    | refine LoopK.inv QU (fun i:Nat×List Str=>⟨[(1,.hd 2000 0 i.2.length),(23,.p (.sl (X.avs x.kids))),(24,.p (.int .i64 (X.avs x.kids).length)),(25,.p (.int .i64 i.1))],x8z 9 i.2⟩) (fun i=>i.1<=x.kids.length∧KN (x.kids.drop i.1) i.2=x1q x out∧i.2.length+(x.kids.length-i.1)*2 ^ n<=1073741824) (fun i=>x.kids.length-i.1) (0,out++[x.name]) (Le.of_eq (by simp [x8z];exact ⟨rfl,rfl⟩)) ⟨zero_le _,by simp only [drop_zero];rw [x1y,if_pos ⟨by assumption,by assumption⟩],by have:=hk2 (by assumption);simp [this];omega⟩ ?_
    | refine LoopK.inv QU (fun i:Nat×List Str=>⟨[(1,.hd 2000 0 i.2.length),(23,.p (.sl (X.avs x.kids))),(24,.p (.int .i64 (X.avs x.kids).length)),(25,.p (.int .i64 i.1))],x8z 9 i.2⟩) (fun i=>i.1<=x.kids.length∧KN (x.kids.drop i.1) i.2=x1q x out∧i.2.length+(x.kids.length-i.1)*2 ^ n<=1073741824) (fun i=>x.kids.length-i.1) (0,out) (Le.of_eq rfl) ⟨zero_le _,by simp only [drop_zero];rw [x1y,if_neg (by simp [*])],by simp only [Nat.sub_zero];omega⟩ ?_
    rintro ⟨j,acc⟩ ⟨h2,h3,h4⟩;simp only at h2 h3 h4 ⊢;conv=>whnf
    repeat' (first|((first|refine And.intro rfl ?_|refine IdxK.xs (by omega) ?_);conv=>whnf)|(apply bD<;>intro _<;>first|omega|conv=>whnf))
    all_goals first
     | (rw [x8o (by omega)] at h3
        exact ⟨_,.refl _,by rw [h3];exact ⟨rfl,rfl⟩⟩)
     | (have hj:j<x.kids.length:=by omega
        have hm:=hmul j hj;have hg:=z1w n x.kids[j] acc (hk3 _ (List.getElem_mem hj));refine CallK.heap [(2000,2000)] 0 (by repeat' (first|exact ArgsH.nil|refine ArgsH.cons ?_ ?_|exact LSub.refl _|exact LSub.p Sub.nils|exact LSub.p (Sub.tt rfl)|exact LSub.p (Sub.ff rfl)|exact LSub.p (Sub.int (by omega)))) (by refine BlksH.cons (j:=2000) rfl rfl ?_ ?_;exact CSub.refl _;exact BlksH.nil) (ih (by omega) x.kids[j] (hk3 _ (List.getElem_mem hj)) acc (by omega)) rfl rfl ?_;rintro l' H' ⟨rfl,rfl⟩;conv=>whnf
        refine wI ?_;conv=>whnf
        exact ⟨(j+1,x1q x.kids[j] acc),⟨by simp only;omega,by simp only;rw [<- h3,x6c hj],by simp only;omega⟩,by simp only;omega,Le.of_eq rfl⟩)
def VL (x:X):List Str:=bif z2p x then x1q x [] else []
theorem GJ (x:X):(VL x).length<=1048576:=by
 unfold VL;cases h:z2p x with
 | false=>simp
 | true =>
   have:=(z1w 20 x [] h).2;simpa using this
theorem q3q (x:X):SpecP Tryz.prog 211 [.agg x.cells] (fun r=>r=QS (VL x)):=by
 refine sB q7o Tryz.func211 rfl Tryz.call211 ?_;conv=>whnf
 repeat' (first|(refine cP (KS _) ?_;conv=>whnf)|(apply bN<;>intro _<;>conv=>whnf))
 ·refine CallK.nil 5 9 1 rfl (.cons rfl (.row .nil)) ?_;refine CallK.heap [(2000,5)] 0 (by repeat' (first|exact ArgsH.nil|refine ArgsH.cons ?_ ?_|exact LSub.refl _|exact LSub.p Sub.nils|exact LSub.p (Sub.tt rfl)|exact LSub.p (Sub.ff rfl)|exact LSub.p (Sub.int (by omega)))) (by refine BlksH.cons (j:=5) rfl rfl ?_ ?_;exact CSub.refl _;exact BlksH.nil) (x1k 20 (by omega) x (by assumption) [] (by simp)) rfl rfl ?_;rintro l' H' ⟨rfl,rfl⟩;conv=>whnf
  refine ⟨_,.hd rfl (by simp),?_⟩;unfold VL;rw [show z2p x=true by assumption];rfl
 ·refine ⟨_,.p Sub.nils,?_⟩;unfold VL;rw [show z2p x=false by assumption];rfl
def JX (a:Arg):List Str:=(bif a.ref then [a.name] else [])++VL a.x
def HX (t:S):List Str:=(bif t.kind≠10 && !(t.name==[]) then [t.name] else [])++VL t.x
def ZY (t:S):List Str:=HX t++t.args.flatMap JX
theorem x7g (a:Arg):(JX a).length<=1048577:=by
 have:=GJ a.x;unfold JX;cases a.ref<;>simp<;>omega
theorem x7v (t:S):(HX t).length<=1048577:=by
 have:=GJ t.x;unfold HX;cases (t.kind≠10 && !(t.name==[]):Bool)<;>simp<;>omega
theorem q1p {α β:Type} {f:α->List β} {c:Nat} (h : ∀ a,(f a).length<=c) : ∀ l:List α,(l.flatMap f).length<=l.length*c
 | []=>by simp
 | x::r=>by
   have:=q1p h r;have:=h x;simp only [List.flatMap_cons,length_append,length_cons,Nat.add_mul,Nat.one_mul];omega
def x6v (t:S) (j:Nat):List Str:=HX t++(t.args.take j).flatMap JX
theorem z4p (t:S) {j:Nat} (h:j<=t.args.length) (ha:t.args.length<=20000):(x6v t j).length<=21000000000:=by
 have h1:=x7v t;have h2:=q1p x7g (t.args.take j);have h3:(t.args.take j).length*1048577<=20000*1048577:=Nat.mul_le_mul_right _ (by simp;omega);unfold x6v;simp only [length_append];omega
theorem z1a {t:S} {j:Nat} (hj:j<t.args.length):x6v t (j+1)=x6v t j++JX t.args[j]:=by
 unfold x6v;rw [List.take_succ_eq_append_getElem hj,List.flatMap_append,List.append_assoc];simp
def q2o (t:S) (tS:Nat) (j:Nat):St:=⟨[(3,.hd 0 0 (x6v t j).length),(25,.p (.sl (t.args.map fun a => .agg a.cells))),(26,.p (.int .i64 (t.args.map fun a=>AV.agg a.cells).length)),(27,.p (.int .i64 j))],[(0,.own tS 1 ((x6v t j).map .str))]⟩
theorem q2s (t:S) (ha:t.args.length<=20000):SpecP Tryz.prog 273 [.agg t.cells] (fun r=>r=QS (ZY t)):=by
 refine sB q7i Tryz.func273 rfl Tryz.call273 ?_;conv=>whnf
 repeat' (first|((first|(refine iM fun _=>?_)|refine cP (q3q _) ?_|refine And.intro rfl ?_|refine aD ?_|refine bP ?_|refine BU _ (by simp) (by have:=GJ t.x;simp;omega) ?_|refine VF (by simp) (by simp) ?_);conv=>whnf)|(apply bE<;>intro _<;>first|omega|conv=>whnf)|(apply bN<;>intro _<;>conv=>whnf))
 all_goals
  have hl:(t.args.map fun a=>AV.agg a.cells).length=t.args.length:=length_map _;refine LoopK.inv QU (q2o t 9) (fun j=>j<=t.args.length) (fun j=>t.args.length-j) 0 (Le.of_eq ?_) (zero_le _) ?_
  ·first
    | (have e:x6v t 0=VL t.x:=by simp [x6v,HX,show t.kind=10 by assumption]
       rw [q2o,e];simp only [Nat.zero_add,length_map,length_append,List.map_append,nil_append];rfl)
    | (have e:x6v t 0=VL t.x:=by simp [x6v,HX,show t.name=[] by simpa using (show (t.name==[])=true by assumption)]
       rw [q2o,e];simp only [Nat.zero_add,length_map,length_append,List.map_append,nil_append];rfl)
    | (have e:x6v t 0=[t.name]++VL t.x:=by
        have:(t.name==[])=false:=by assumption
        simp [x6v,HX,show ¬t.kind=10 by assumption,this]
       rw [q2o,e];simp only [Nat.zero_add,length_map,length_append,List.map_append,nil_append];rfl)
  intro j h2;have hacc:=z4p t h2 ha;conv=>whnf
  repeat' (first|((first|refine cP (q3q _) ?_|refine And.intro rfl ?_|refine aD ?_|refine bP ?_|(refine iA fun _=>?_)|refine wI ?_|refine BU _ (by simp) (by have:=GJ (t.args[j]'(by omega)).x;simp;omega) ?_|refine VF (by simp) (by simp;omega) ?_);conv=>whnf)|(apply bD<;>intro _<;>first|omega|conv=>whnf)|(apply bB<;>intro _<;>conv=>whnf))
  all_goals first
   | exact ⟨_,.hd rfl (by simp),by
      have:t.args.take j=t.args:=take_of_length_le (by omega);rw [ZY,<- this];rfl⟩
   | (have hj:j<t.args.length:=by omega
      have hst:=z1a hj;refine ⟨j+1,by show j+1<=_;omega,by show t.args.length-(j+1)<t.args.length-j;omega,Le.of_eq ?_⟩;first
       | (have hn:JX t.args[j]=[t.args[j].name]++VL t.args[j].x:=by rw [JX,show t.args[j].ref=true by assumption];rfl
          rw [q2o,hst,hn];simp only [length_append,List.map_append,length_map,<- List.append_assoc,<- Nat.add_assoc];rfl)
       | (have hn:JX t.args[j]=VL t.args[j].x:=by rw [JX,show t.args[j].ref=false by assumption];rfl
          rw [q2o,hst,hn];simp only [length_append,List.map_append,length_map];rfl))
def z2l:List Str->Nat
 | []=>0
 | s::r=>1+z2l r
mutual
def wX:X->Nat
 | .mk _ _ name kids=>1+wXs kids
def wXs:List X->Nat
 | []=>0
 | x::r=>wX x+wXs r
end
def q6l:List Arg->Nat
 | []=>0
 | a::r=>wX a.x+1+q6l r
mutual
def wS:S->Nat
 | .mk _ _ labels name proc x _ args thn els=>wX x+z2l labels+1+1+q6l args+wL thn+wL els
def wL:List S->Nat
 | []=>0
 | s::r=>wS s+wL r
end
def w1f:List Param->Nat
 | []=>0
 | a::r=>1+w1f r
def wPr (f:Pr):Nat:=1+z2l f.vars+z2l f.fin+w1f f.params+wL f.body
def z6y:List Pr->Nat
 | []=>0
 | f::r=>wPr f+z6y r
def wPg (p:Pg):Nat:=z2l p.globals+z6y p.procs
def Fit (p:Pg):Prop:=wPg p<=20000
theorem q7u : ∀ l:List Str,l.length<=z2l l
 | []=>zero_le _
 | s::r=>by have:=q7u r;simp only [length_cons,z2l];omega
theorem BX : ∀ l:List Arg,l.length<=q6l l
 | []=>zero_le _
 | s::r=>by have:=BX r;simp only [length_cons,q6l];omega
theorem z1u (s:S):wS s=wX s.x+z2l s.labels+1+1+q6l s.args+wL s.thn+wL s.els:=by
 cases s;rw [wS];rfl
mutual
theorem w0c : ∀ s:S,WK s<=wS s
 | .mk id kind labels name proc x has args thn els=>by
   have:=x3d thn;have:=x3d els;rw [WK,wS];omega
theorem x3d : ∀ l:List S,QY l<=wL l
 | []=>by rw [QY,wL];exact Nat.le_refl _
 | s::r=>by
   have:=w0c s;have:=x3d r;rw [QY,wL];omega
end
theorem z0y : ∀ {l:List Pr} {f:Pr},f∈l->wPr f<=z6y l
 | g::r,f,h=>by
   simp only [z6y];rcases List.mem_cons.1 h with rfl|h
   ·omega
   ·have:=z0y h;omega
theorem Fit.pr {p:Pg} (h:Fit p) {f:Pr} (hf:f∈p.procs):wPr f<=20000:=by
 have:=z0y hf;unfold Fit wPg at h;omega
mutual
def flS:S->List S
 | .mk id kind labels name proc x has args thn els => .mk id kind labels name proc x has args thn els::(flL thn++flL els)
def flL:List S->List S
 | []=>[]
 | s::r=>flS s++flL r
end
theorem w0p (s:S):flS s=s::(flL s.thn++flL s.els):=by
 cases s;rw [flS];rfl
mutual
theorem z8t : ∀ s:S,(flS s).length=WK s
 | .mk id kind labels name proc x has args thn els=>by
   rw [flS,WK,length_cons,length_append,LN thn,LN els];omega
theorem LN : ∀ l:List S,(flL l).length=QY l
 | []=>by rw [flL,QY];rfl
 | s::r=>by rw [flL,QY,length_append,z8t s,LN r]
end
mutual
theorem w3p : ∀ (s t:S),t∈flS s->wS t<=wS s
 | .mk id kind labels name proc x has args thn els,t,h=>by
   rw [flS] at h;rcases List.mem_cons.1 h with rfl|h
   ·exact Nat.le_refl _
   ·rw [wS];rcases List.mem_append.1 h with h|h
    ·have:=x2j thn t h;omega
    ·have:=x2j els t h;omega
theorem x2j : ∀ (l:List S) (t:S),t∈flL l->wS t<=wL l
 | [],t,h=>by rw [flL] at h;cases h
 | s::r,t,h=>by
   rw [flL] at h;rw [wL];rcases List.mem_append.1 h with h|h
   ·have:=w3p s t h;omega
   ·have:=x2j r t h;omega
end

mutual
def itS (proc up nx loop:Int) (n:Nat):S->List Item
 | .mk id kind labels name pr x has args thn els =>
   ⟨.mk id kind labels name pr x has args thn els,proc,up,nx,loop⟩::(itL proc (n+1) (if kind=6 then n+1 else nx) (if kind=6 then n+1 else loop) (n+1) thn ++
     itL proc (n+1) (if kind=6 then n+1 else nx) (if kind=6 then n+1 else loop) (n+1+QY thn) els)
def itL (proc up nx loop:Int) (n:Nat):List S->List Item
 | []=>[]
 | t::r=>itS proc up (if r.isEmpty then nx else n+1+WK t) loop n t++itL proc up nx loop (n+WK t) r
end
mutual
theorem z8v (proc up nx loop:Int) : ∀ (t:S) (acc:List Item),MI proc up nx loop acc t=acc++itS proc up nx loop acc.length t
 | .mk id kind labels name pr x has args thn els,acc=>by
   rw [MI,itS,DZ _ _ _ _ thn,DZ _ _ _ _ els];simp only [length_append,length_cons,List.length_nil,List.append_assoc,List.cons_append,nil_append,ZX proc _ _ _ _ thn,Nat.zero_add,Nat.add_assoc,Nat.add_comm (QY thn) 1]
theorem DZ (proc up nx loop:Int) : ∀ (l:List S) (acc:List Item),XG proc up nx loop acc l=acc++itL proc up nx loop acc.length l
 | [],acc=>by rw [XG,itL,List.append_nil]
 | t::r,acc=>by
   rw [XG,itL,z8v _ _ _ _ t,DZ _ _ _ _ r];simp only [length_append,List.append_assoc,z1k proc _ _ _ _ t]
theorem z1k (proc up nx loop:Int) (n:Nat) : ∀ t:S,(itS proc up nx loop n t).length=WK t
 | .mk id kind labels name pr x has args thn els=>by
   rw [itS,WK,length_cons,length_append,ZX _ _ _ _ _ thn,ZX _ _ _ _ _ els];omega
theorem ZX (proc up nx loop:Int) (n:Nat) : ∀ l:List S,(itL proc up nx loop n l).length=QY l
 | []=>by rw [itL,QY];rfl
 | t::r=>by rw [itL,QY,length_append,z1k _ _ _ _ _ t,ZX _ _ _ _ _ r]
end
mutual
theorem w2t (proc up nx loop:Int) (n:Nat) : ∀ t:S,(itS proc up nx loop n t).map Item.s=flS t
 | .mk id kind labels name pr x has args thn els=>by
   rw [itS,flS,List.map_cons,List.map_append,BH _ _ _ _ _ thn,BH _ _ _ _ _ els]
theorem BH (proc up nx loop:Int) (n:Nat) : ∀ l:List S,(itL proc up nx loop n l).map Item.s=flL l
 | []=>by rw [itL,flL];rfl
 | t::r=>by rw [itL,flL,List.map_append,w2t _ _ _ _ _ t,BH _ _ _ _ _ r]
end
def QE:List Pr->Nat->Nat
 | _,0=>0
 | [],_+1=>0
 | f::r,i+1=>QY f.body+QE r i
theorem q8o : ∀ (l:List Pr) (i:Nat) (acc:List Item) (lo hi:List Int),lo.length=i->hi.length=i ->
  (q1o i acc lo hi l).2.1.length=i+l.length∧(q1o i acc lo hi l).2.2.length=i+l.length ∧
  (∀ k,k<i->(q1o i acc lo hi l).2.1[k]? = lo[k]? ∧ (q1o i acc lo hi l).2.2[k]? = hi[k]?) ∧ ∃ L,(q1o i acc lo hi l).1=acc++L∧L.length=cntP l ∧
  ∀ (k:Nat) (f:Pr),l[k]? = some f->(q1o i acc lo hi l).2.1[i+k]? = some ((acc.length+QE l k:Nat)+1:Int)∧(q1o i acc lo hi l).2.2[i+k]? = some ((acc.length+QE l k+QY f.body:Nat)+1:Int) ∧
   QE l k+QY f.body<=cntP l∧(L.take (QE l k+QY f.body)).drop (QE l k)=itL (i+k:Nat) 0 (-1) 0 (acc.length+QE l k) f.body
 | [],i,acc,lo,hi,h1,h2=>by
   rw [q1o];exact ⟨by simpa using h1,by simpa using h2,fun _ _=>⟨rfl,rfl⟩,[],by simp,rfl,fun k f h=>by simp at h⟩
 | f::r,i,acc,lo,hi,h1,h2=>by
   rw [q1o];have hrow:=DZ i 0 (-1) 0 f.body acc;have hlen:=XU i 0 (-1) 0 acc f.body;obtain ⟨h3,h4,h5,L,h6,h7,h8⟩:=q8o r (i+1) (XG i 0 (-1) 0 acc f.body) (lo++[(acc.length:Int)+1]) (hi++[((XG i 0 (-1) 0 acc f.body).length:Int)+1]) (by simp [h1]) (by simp [h2]);refine ⟨by rw [h3,length_cons];omega,by rw [h4,length_cons];omega,fun k hk => ?_,itL i 0 (-1) 0 acc.length f.body++L,?_,?_,fun k g hg => ?_⟩
   ·obtain ⟨h9,h10⟩:=h5 k (by omega);rw [h9,h10,List.getElem?_append_left (by omega),List.getElem?_append_left (by omega)];exact ⟨rfl,rfl⟩
   ·rw [h6,hrow,List.append_assoc]
   ·rw [length_append,h7,ZX,cntP]
   ·cases k with
    | zero =>
      simp only [List.getElem?_cons_zero,Option.some.injEq] at hg;subst hg;obtain ⟨h9,h10⟩:=h5 i (by omega);simp only [Nat.add_zero,QE,Nat.zero_add,drop_zero];refine ⟨?_,?_,?_,?_⟩
      ·rw [h9,List.getElem?_append_right (by omega),h1];simp
      ·rw [h10,List.getElem?_append_right (by omega),h2,hlen];simp
      ·rw [cntP];omega
      ·rw [List.take_append_of_le_length (by rw [ZX];omega),take_of_length_le (by rw [ZX];omega)]
    | succ k =>
      simp only [List.getElem?_cons_succ] at hg;obtain ⟨h9,h10,h11,h12⟩:=h8 k g hg;rw [hlen] at h12;simp only [QE];refine ⟨?_,?_,?_,?_⟩
      ·rw [show i+(k+1)=i+1+k by omega,h9,hlen];congr 2;omega
      ·rw [show i+(k+1)=i+1+k by omega,h10,hlen];congr 2;omega
      ·rw [cntP];omega
      ·rw [List.take_append,List.drop_append,ZX,take_of_length_le (by rw [ZX];omega),drop_eq_nil_of_le (by rw [ZX];omega),nil_append];simp only [ZX];rw [show QY f.body+QE r k+QY g.body-QY f.body=QE r k+QY g.body by omega,show QY f.body+QE r k-QY f.body=QE r k by omega,h12];rw [show i+(k+1)=i+1+k by omega,show acc.length+(QY f.body+QE r k)=acc.length+QY f.body+QE r k by omega]
theorem QJ (p:Pg):(sheetOf p).p=p∧(sheetOf p).lo.length=p.procs.length∧(sheetOf p).hi.length=p.procs.length∧(sheetOf p).l.length=cntP p.procs ∧
  ∀ (k:Nat) (f:Pr),p.procs[k]? = some f->(sheetOf p).lo[k]? = some ((QE p.procs k:Nat)+1:Int)∧(sheetOf p).hi[k]? = some ((QE p.procs k+QY f.body:Nat)+1:Int) ∧
   QE p.procs k+QY f.body<=cntP p.procs∧((sheetOf p).l.take (QE p.procs k+QY f.body)).drop (QE p.procs k)=itL k 0 (-1) 0 (QE p.procs k) f.body:=by
 obtain ⟨h3,h4,_,L,h6,h7,h8⟩:=q8o p.procs 0 [] [] [] rfl rfl;refine ⟨rfl,by unfold sheetOf;simpa using h3,by unfold sheetOf;simpa using h4,by unfold sheetOf;simp [h6,h7],fun k f hk => ?_⟩;have:=h8 k f hk;unfold sheetOf;simp only [h6,nil_append,List.length_nil,Nat.zero_add] at this ⊢;exact this
mutual
theorem x5v (nest seen:Int) : ∀ (s:S) {m:Int},x0w nest seen s=some m->m=seen+WK s
 | .mk id kind labels name proc x has args thn els,m,h=>by
   simp only [x0w] at h;split at h
   ·cases h
   split at h
   ·cases h
   cases hn:namesB labels<;>rw [hn] at h
   ·cases h
   cases hf:WN (.mk id kind labels name proc x has args thn els)<;>rw [hf] at h
   ·cases h
   simp only [cond_true] at h;split at h
   ·rename_i m1 h1;have h2:=YX (nest+1) (seen+1) thn h1;have h3:=YX (nest+1) m1 els h;rw [WK];omega
   ·cases h
theorem YX (nest seen:Int) : ∀ (l:List S) {m:Int},UN nest seen l=some m->m=seen+QY l
 | [],m,h=>by
   simp only [UN] at h;cases h;rw [QY];simp
 | s::r,m,h=>by
   simp only [UN] at h;split at h
   ·cases h
   split at h
   ·rename_i m1 h1;have h2:=x5v nest seen s h1;have h3:=YX nest m1 r h;rw [QY];omega
   ·cases h
end
theorem q3e : ∀ (l:List Pr) {seen m:Int},seen<=200->XM seen l=some m->m=seen+cntP l∧m<=200
 | [],seen,m,h0,h=>by rw [XM] at h;cases h;simp [cntP];exact h0
 | f::r,seen,m,h0,h=>by
   rw [XM] at h;cases hm:GN f<;>rw [hm] at h
   ·cases h
   simp only [cond_true] at h;split at h
   ·rename_i m1 h1;have h2:=YX 1 seen f.body h1;have h3:=q0w 1 seen f.body h0 h1;have h4:=q3e r (by omega) h;rw [cntP];omega
   ·cases h
theorem WZ {p:Pg} (h:GD p=true):p.globals.length<=16∧p.procs.length<=16∧cntP p.procs<=200:=by
 unfold GD at h;simp only [Bool.and_eq_true,decide_eq_true_eq] at h;obtain ⟨⟨⟨h1,h2⟩,_⟩,h3⟩:=h;cases hm:XM 0 p.procs with
 | none=>rw [hm] at h3;cases h3
 | some m =>
   have:=q3e p.procs (by decide) hm;omega
theorem z1n {p:Pg} (h:GD p=true) {f:Pr} (hf:f∈p.procs):GN f=true:=by
 unfold GD at h;simp only [Bool.and_eq_true] at h;have h3:=h.2;have key : ∀ (l:List Pr) (seen:Int),(XM seen l).isSome=true -> ∀ f∈l,GN f=true:=fun l=>by
  induction l with
  | nil=>intro _ _ f hf;cases hf
  | cons g r ih =>
    intro seen h f hf;rw [XM] at h;cases hm:GN g<;>rw [hm] at h
    ·cases h
    simp only [cond_true] at h;split at h
    ·rename_i m1 h1;rcases List.mem_cons.1 hf with rfl|hf
     ·exact hm
     ·exact ih _ h f hf
    ·cases h
 exact key _ _ h3 f hf
def MW (p:Pg) (f:Pr) (name:Str):Int :=
 match f.params.find? (fun a=>a.name==name) with
 | some a=>bif a.ref then 3 else 2
 | none=>bif f.vars.any (fun s=>name==s) then 4 else bif p.globals.any (fun s=>name==s) then 1 else 0
theorem BF {α:Type} {l:List α} {p:α->Bool} {j:Nat} (hj:j<l.length) (h:p l[j]=false):(l.drop (j+1)).find? p=(l.drop j).find? p:=by
 rw [QK hj,List.find?_cons,h]
theorem GB {α:Type} {l:List α} {p:α->Bool} {j:Nat} (hj:j<l.length) (h:p l[j]=true):(l.drop j).find? p=some l[j]:=by
 rw [QK hj,List.find?_cons,h]
theorem GH {α:Type} {l:List α} {p:α->Bool} {j:Nat} (hj:l.length<=j):(l.drop j).find? p=none:=by
 rw [drop_eq_nil_of_le hj];rfl
theorem x6r (p:Pg) (f:Pr) (name:Str):SpecP Tryz.prog 123 [.agg p.cells,.agg f.cells,.str name] (fun r=>r = .int .i64 (MW p f name)):=by
 refine sB q9o Tryz.func123 rfl Tryz.call123 ?_;conv=>whnf
 repeat' (refine iM fun _=>?_;conv=>whnf)
 have hl:(f.params.map fun a=>AV.agg a.cells).length=f.params.length:=length_map _;refine LoopK.inv QU (fun j:Nat=>⟨[(2,.p (.str name)),(3,.p (.ip p.cells)),(4,.p (.ip f.cells)),(10,.p (.sl (f.params.map fun a => .agg a.cells))),(11,.p (.int .i64 (f.params.map fun a=>AV.agg a.cells).length)),(12,.p (.int .i64 j))],[]⟩) (fun j=>j<=f.params.length∧(f.params.drop j).find? (fun a=>a.name==name)=f.params.find? (fun a=>a.name==name)) (fun j=>f.params.length-j) 0 (Le.of_eq rfl) ⟨zero_le _,rfl⟩ ?_;rintro j ⟨h2,h3⟩;conv=>whnf
 repeat' (first|((first|refine cP (QQ _ _) ?_|refine And.intro rfl ?_|(refine iA fun _=>?_)|refine wI ?_);conv=>whnf)|(apply bD<;>intro _<;>first|omega|conv=>whnf)|(apply bB<;>intro _<;>conv=>whnf))
 all_goals try have hj:j<f.params.length:=by omega
 all_goals first
  | (exfalso
     have h8:((f.params[j]'(by omega)).name==name)=true:=by assumption
     have h9:((f.params[j]'(by omega)).name==name)=false:=by assumption
     rw [h8] at h9;cases h9)
  | (have e:=GB (p:=fun a:Param=>a.name==name) (by omega) (by assumption)
     rw [h3] at e;exact RetK.int (by unfold MW;rw [e];simp [*]))
  | (refine ⟨j+1,⟨by omega,by rw [<- h3,BF (p:=fun a:Param=>a.name==name) (by omega) (by assumption)]⟩,by omega,Le.of_eq rfl⟩)
  | (have e:f.params.find? (fun a=>a.name==name)=none:=by rw [<- h3,GH (by omega)]
     exact RetK.int (by unfold MW;rw [e];simp [*]))
def mainS:Str:=[109,97,105,110]
def UR (p:Pg) (f:Pr) (procs:List Str) (t:S):Bool:=(ZY t).all (fun n => !(MW p f n==0))&&(decide (t.kind≠4)||(!(t.proc==mainS)&&procs.any fun s=>t.proc==s))
theorem x2o (p:Pg) (f:Pr) (procs:List Str) (t:S) (ha:t.args.length<=20000):SpecP Tryz.prog 199 [.agg p.cells,.agg f.cells,QS procs,.agg t.cells] (fun r=>r = .bool (UR p f procs t)):=by
 refine sB q6t Tryz.func199 rfl Tryz.call199 ?_;conv=>whnf
 repeat' ((first|(refine iM fun _=>?_)|refine cP (q2s _ ha) ?_);conv=>whnf)
 have hl:((ZY t).map AV.str).length=(ZY t).length:=length_map _;refine LoopK.inv QU (fun j:Nat=>⟨[(2,.p (QS procs)),(4,.p (.ip p.cells)),(5,.p (.ip f.cells)),(7,.p (.ip t.cells)),(12,.p (QS (ZY t))),(13,.p (.int .i64 ((ZY t).map AV.str).length)),(14,.p (.int .i64 j))],[]⟩) (fun j=>j<=(ZY t).length∧((ZY t).drop j).all (fun n => !(MW p f n==0))=(ZY t).all (fun n => !(MW p f n==0))) (fun j=>(ZY t).length-j) 0 (Le.of_eq rfl) ⟨zero_le _,rfl⟩ ?_;rintro j ⟨h2,h3⟩;conv=>whnf
 repeat' (first|((first|refine cP (x6r _ _ _) ?_|refine cP (QQ _ _) ?_|(refine iA fun _=>?_)|refine wI ?_);conv=>whnf)|(apply bD<;>intro _<;>first|omega|conv=>whnf)|(apply bE<;>intro _<;>first|omega|conv=>whnf)|(apply bN<;>intro _<;>conv=>whnf))
 ·exact RetK.ff (by
   have e:=q4v (p:=fun n => !(MW p f n==0)) (l:=ZY t) (j:=j) (by omega) (by simp;assumption);rw [UR,<- h3,e,Bool.false_and])
 ·exact ⟨j+1,⟨by omega,by rw [<- h3,LL (p:=fun n => !(MW p f n==0)) (by omega) (by simp;assumption)]⟩,by omega,Le.of_eq rfl⟩
 all_goals
  have e:(ZY t).all (fun n => !(MW p f n==0))=true:=by rw [<- h3,q0g (by omega)]
 ·exact RetK.ff (by
   have h8:(t.proc==mainS)=true:=by assumption
   rw [UR,e,h8];simp [*])
 ·exact RetK.bool (by
   have h8:(t.proc==mainS)=false:=by assumption
   rw [UR,e,h8];simp [*])
 ·exact RetK.tt (by rw [UR,e];simp [*])
def q3w (c at_:Int):AV := .agg [.int .i64 c,.int .i64 at_]
def QD (p:Pg):List Str:=p.procs.map Pr.name
def ZD (p:Pg):Bool:=WV p.globals||(WV (QD p)||(!((QD p).any fun s=>mainS==s)||match p.procs.find? (fun f=>mainS==f.name) with
 | some f=>decide (0<f.params.length)
 | none=>true))
def VQ (p:Pg) (f:Pr):Option Int :=
 bif WV (q2q f)||(q2q f).any (fun n=>p.globals.any fun s=>n==s) then some 0 else ((flL f.body).find? fun t => !UR p f (QD p) t).map S.id
def XQ (p:Pg):Int×Int :=
 bif GD p then bif ZD p then (5,0) else match p.procs.findSome? (VQ p) with
  | some a=>(5,a)
  | none=>(0,0)
 else (1,0)
theorem x3e {α:Type} {l:List α} {p:α->Bool} (h:l.any p=true) : ∃ (k:Nat) (hk:k<l.length),idxF p l=k∧p l[k]=true∧l.find? p=some l[k]:=by
 have h1:l.findIdx p<l.length:=by
  rw [List.findIdx_lt_length];exact List.any_eq_true.1 h
 refine ⟨l.findIdx p,h1,by unfold idxF;rw [h];rfl,List.findIdx_getElem,?_⟩;rw [List.find?_eq_some_iff_getElem];exact ⟨List.findIdx_getElem,l.findIdx p,h1,rfl,fun j hj=>by simpa using List.not_of_lt_findIdx hj⟩
theorem x3r {p:Pg} (h:(QD p).any (fun s=>mainS==s)=true) : ∃ (k:Nat) (hk:k<p.procs.length),idxF (fun s=>mainS==s) (QD p)=k∧p.procs.find? (fun f=>mainS==f.name)=some p.procs[k]:=by
 have h':p.procs.any (fun f=>mainS==f.name)=true:=by simpa [QD,List.any_map,Function.comp_def] using h
 obtain ⟨k,hk,h1,_,h2⟩:=x3e h';refine ⟨k,hk,?_,h2⟩;rw [<- h1];unfold idxF;rw [h,h'];simp [QD,List.findIdx_map,Function.comp_def]
theorem x1x (p:Pg) {j:Nat} {f:Pr} (hj:p.procs[j]? = some f) (hc:cntP p.procs<=1000):SpecP Tryz.prog 198 [.ip (sheetOf p).cells,.int .i64 j] (fun r=>r=UC (itL j 0 (-1) 0 (QE p.procs j) f.body)):=by
 obtain ⟨_,h2,h3,h4,h5⟩:=QJ p;obtain ⟨h6,h7,h8,h9⟩:=h5 j f hj;have:=q6i (sheetOf p) j _ _ h6 h7 (by omega) (by omega) (by omega);rw [h9] at this;exact this
theorem ZN (l:List Item):(l.map fun i=>AV.agg i.cells).length=l.length:=length_map _
theorem LU {α β:Type} {l:List α} {f:α->Option β} {j:Nat} (hj:j<l.length) (h:f l[j]=none):(l.drop (j+1)).findSome? f=(l.drop j).findSome? f:=by
 rw [QK hj,List.findSome?_cons,h]
theorem WU {α β:Type} {l:List α} {f:α->Option β} {j:Nat} {b:β} (hj:j<l.length) (h:f l[j]=some b):(l.drop j).findSome? f=some b:=by
 rw [QK hj,List.findSome?_cons,h]
theorem NP {α β:Type} {l:List α} {f:α->Option β} {j:Nat} (hj:l.length<=j):(l.drop j).findSome? f=none:=by
 rw [drop_eq_nil_of_le hj];rfl
theorem GX {q:S->Bool} (l:List Item):(l.find? fun it=>q it.s).map (fun it=>it.s.id)=((l.map Item.s).find? q).map S.id:=by
 rw [List.find?_map];cases h:l.find? (q∘Item.s) with
 | none=>rw [show (l.find? fun it=>q it.s)=none from h];rfl
 | some i=>rw [show (l.find? fun it=>q it.s)=some i from h];rfl
theorem x9q {l:List Pr} {j:Nat} (hj:j<l.length) (h:wPr l[j]<=20000) {a b c d:Int} {n k:Nat} (hk:k<(itL a b c d n l[j].body).length):(itL a b c d n l[j].body)[k].s.args.length<=20000:=by
 have hm:(itL a b c d n l[j].body)[k].s∈flL l[j].body:=by
  rw [<- BH a b c d n];exact List.mem_map.2 ⟨_,List.getElem_mem hk,rfl⟩
 have h1:=x2j _ _ hm;have h2:=z1u (itL a b c d n l[j].body)[k].s;have h3:=BX (itL a b c d n l[j].body)[k].s.args;unfold wPr at h;omega
theorem QP {H:Heap} {a b c d:Int} (h:a=c) (h':b=d):RetK H (.p (.agg [.int .i64 a,.int .i64 b])) (fun r=>r=q3w c d):=⟨_,.p (Sub.refl _),by rw [h,h'];rfl⟩
theorem UB (p:Pg) (hf:Fit p):SpecP Tryz.prog 129 [.agg p.cells] (fun r=>r=q3w (XQ p).1 (XQ p).2):=by
 refine sB q6w Tryz.func129 rfl Tryz.call129 ?_;conv=>whnf
 repeat' (first|((first|(refine iM fun _=>?_)|refine cP (q4o _) ?_|refine And.intro rfl ?_);conv=>whnf)|(apply bN<;>intro _<;>conv=>whnf))
 rotate_left 1
 ·exact QP (by simp [XQ, *]) (by simp [XQ, *])
 have hm:GD p=true:=by assumption
 obtain ⟨hg,hpl,hcn⟩:=WZ hm;have hl:(p.procs.map fun f=>AV.agg f.cells).length=p.procs.length:=length_map _;have hnl:(QD p).length=p.procs.length:=by simp [QD]
 refine LoopK.inv QU (fun i:Nat×List Str=>⟨[(1,.p (.ip p.cells)),(2,.ptr 1 0),(3,.hd 0 0 i.2.length),(18,.p (.sl (p.procs.map fun f => .agg f.cells))),(19,.p (.int .i64 (p.procs.map fun f=>AV.agg f.cells).length)),(20,.p (.int .i64 i.1))],[(0,.own 9 1 (i.2.map .str)),(1,.obj 114 [.p (.int .i64 0),.p (.int .i64 0)])]⟩)
  (fun i=>i.1<=p.procs.length∧i.2=(QD p).take i.1) (fun i=>p.procs.length-i.1) (0,[])
  (Le.mk [(0,.own 9 1 [])] (by simp [Chunk.new0];rfl) (by simp) (by simp) (.cons (.refl _) (.cons (.refl _) (.cons (.nil mem_cons_self) (.cons (.refl _) (.cons (.refl _) (.cons (.refl _) .nil)))))) (.new mem_cons_self (.cons rfl (.refl _) .nil)))
  ⟨zero_le _,by simp⟩ ?_
 rintro ⟨j,acc⟩ ⟨h2,h3⟩;simp only at h2 h3 ⊢;have hal:acc.length<=16:=by rw [h3];simp;omega
 conv=>whnf
 repeat' (first|((first|refine And.intro rfl ?_|refine aD ?_|refine bP ?_|(refine iA fun _=>?_)|refine wI ?_|refine VF (by simp) (by simp;omega) ?_|(refine XK (XX acc mainS) (.cons (.hd rfl (by simp)) (.cons (.p (Sub.refl _)) .nil)) (by rintro _ rfl;rfl) ?_;rintro _ rfl)|(refine XK (HG acc) (.cons (.hd rfl (by simp)) .nil) (by rintro _ rfl;rfl) ?_;rintro _ rfl)|refine cP (HG _) ?_);conv=>whnf)|(apply bD<;>intro _<;>first|omega|conv=>whnf)|(apply bB<;>intro _<;>conv=>whnf))
 ·exact ⟨(j+1,acc++[p.procs[j].name]),⟨by simp only;omega,by simp only;rw [h3,List.take_succ_eq_append_getElem (by omega)];simp [QD]⟩,by simp only;omega,Le.of_eq (by simp only [length_append,List.map_append];rfl)⟩
 all_goals
  have hacc:acc=QD p:=by rw [h3,take_of_length_le (by omega)]
  clear h3;subst hacc
 ·have hb:ZD p=true:=by unfold ZD;rw [show WV p.globals=true by assumption];rfl
  exact QP (by unfold XQ;rw [hm,hb];rfl) (by unfold XQ;rw [hm,hb];rfl)
 ·have hb:ZD p=true:=by unfold ZD;rw [show WV p.globals=false by assumption,show WV (QD p)=true by assumption];rfl
  exact QP (by unfold XQ;rw [hm,hb];rfl) (by unfold XQ;rw [hm,hb];rfl)
 ·have hany:((QD p).any fun s=>mainS==s)=false:=by
   rw [<- PG];simp;omega
  have hb:ZD p=true:=by unfold ZD;rw [show WV p.globals=false by assumption,show WV (QD p)=false by assumption,hany];rfl
  exact QP (by unfold XQ;rw [hm,hb];rfl) (by unfold XQ;rw [hm,hb];rfl)
 have hany:((QD p).any fun s=>mainS==s)=true:=by
  rw [<- PG];simp;omega
 obtain ⟨k,hk,hik,hfind⟩:=x3r hany;have hlk:(p.procs.map fun f=>AV.agg f.cells)[k]? = some (.agg p.procs[k].cells):=by simp [hk]
 have hpl2:(p.procs[k].params.map fun a=>AV.agg a.cells).length=p.procs[k].params.length:=length_map _;refine IdxK.at hik hlk rfl ?_;conv=>whnf
 repeat' (first|((first|(refine iM fun _=>?_)|refine And.intro rfl ?_|(refine CallK.pure (UI p (by omega) (by omega)) (.cons (Sub.refl _) .nil) ?_;rintro _ rfl));conv=>whnf)|(apply bD<;>intro _<;>first|omega|conv=>whnf))
 ·have hb:ZD p=true:=by
   unfold ZD;rw [show WV p.globals=false by assumption,show WV (QD p)=false by assumption,hany,hfind];have:0<p.procs[k].params.length:=by omega
   simp [this]
  exact QP (by unfold XQ;rw [hm,hb];rfl) (by unfold XQ;rw [hm,hb];rfl)
 have hb:ZD p=false:=by
  unfold ZD;rw [show WV p.globals=false by assumption,show WV (QD p)=false by assumption,hany,hfind];have : ¬0<p.procs[k].params.length:=by omega
  simp [this]
 have hsc:XQ p=match p.procs.findSome? (VQ p) with
  | some a=>(5,a)
  | none=>(0,0):=by unfold XQ;rw [hm,hb];rfl
 rw [hsc];refine LoopK.inv QU (fun j:Nat=>⟨[(1,.p (.ip p.cells)),(2,.ptr 1 0),(3,.hd 0 0 (QD p).length),(7,.p (.ip (sheetOf p).cells)),(57,.p (.sl (p.procs.map fun f => .agg f.cells))),(58,.p (.int .i64 (p.procs.map fun f=>AV.agg f.cells).length)),(59,.p (.int .i64 j))],[(0,.own 9 1 ((QD p).map .str)),(1,.obj 114 [.p (.int .i64 0),.p (.int .i64 0)])]⟩)
  (fun j=>j<=p.procs.length∧(p.procs.drop j).findSome? (VQ p)=p.procs.findSome? (VQ p)) (fun j=>p.procs.length-j) 0 (Le.of_eq rfl) ⟨zero_le _,rfl⟩ ?_
 clear h2 hik hfind hlk hpl2;rintro j ⟨h2,h3⟩;rcases Nat.lt_or_ge j p.procs.length with hj|hj;rotate_left 1
 ·have e:p.procs.findSome? (VQ p)=none:=by rw [<- h3,NP hj]
  rw [e];conv=>whnf
  repeat' (first|(refine And.intro rfl ?_;conv=>whnf)|(apply bD<;>intro _<;>first|omega|conv=>whnf))
  exact QP rfl rfl
 have hfp:=hf.pr (List.getElem_mem hj);have hmp:=KR.1 (z1n hm (List.getElem_mem hj));conv=>whnf
 repeat' (first|((first|(refine iM fun _=>?_)|refine cP (HG _) ?_|refine And.intro rfl ?_|(refine iA fun _=>?_)|(refine CallK.pure (q8d (p.procs[j]'hj) (by have:=hmp.1;omega) (by have:=hmp.2.1;omega)) (.cons (Sub.refl _) .nil) ?_;rintro _ rfl)|refine cP (WJ (q2q (p.procs[j]'hj)) 197 (.ip p.cells) (fun n=>p.globals.any fun s=>n==s) (q7k p)) ?_|(refine CallK.pure (x1x p (f:=p.procs[j]'hj) (by simp) (by omega)) (.cons (Sub.refl _) (.cons (Sub.refl _) .nil)) ?_;rintro _ rfl));conv=>whnf)|(apply bD<;>intro _<;>first|omega|conv=>whnf)|(apply bB<;>intro _<;>conv=>whnf))
 ·have e:VQ p p.procs[j]=some 0:=by
   unfold VQ;rw [show WV (q2q p.procs[j])=true by assumption];rfl
  have e2:=WU hj e;rw [h3] at e2;rw [e2];exact QP rfl rfl
 ·have e:VQ p p.procs[j]=some 0:=by
   unfold VQ;rw [show WV (q2q p.procs[j])=false by assumption,show ((q2q p.procs[j]).any fun n=>p.globals.any fun s=>n==s)=true by assumption];rfl
  have e2:=WU hj e;rw [h3] at e2;rw [e2];exact QP rfl rfl
 have hsa:VQ p p.procs[j]=((flL p.procs[j].body).find? fun t => !UR p p.procs[j] (QD p) t).map S.id:=by
  unfold VQ;rw [show WV (q2q p.procs[j])=false by assumption,show ((q2q p.procs[j]).any fun n=>p.globals.any fun s=>n==s)=false by assumption];rfl
 have hitm : ∀ k (hk:k<(itL (j:Nat) 0 (-1) 0 (QE p.procs j) p.procs[j].body).length),(itL (j:Nat) 0 (-1) 0 (QE p.procs j) p.procs[j].body)[k].s.args.length<=20000:=fun k hk=>x9q hj hfp hk;rw [<- BH (j:Nat) 0 (-1) 0 (QE p.procs j),<- GX] at hsa;have hib:(itL (j:Nat) 0 (-1) 0 (QE p.procs j) p.procs[j].body).length<=20000:=by
  have:=x3d p.procs[j].body;unfold wPr at hfp;rw [ZX];omega
 generalize hits:itL (j:Nat) 0 (-1) 0 (QE p.procs j) p.procs[j].body=its at hsa hitm hib ⊢;have hil:=ZN its;refine LoopK.inv QU (fun k:Nat=>⟨[(1,.p (.ip p.cells)),(2,.ptr 1 0),(3,.hd 0 0 (QD p).length),(7,.p (.ip (sheetOf p).cells)),(9,.p (.ip (p.procs[j]'hj).cells)),(57,.p (.sl (p.procs.map fun f => .agg f.cells))),(58,.p (.int .i64 (p.procs.map fun f=>AV.agg f.cells).length)),(59,.p (.int .i64 j)),(76,.p (UC its)),(77,.p (.int .i64 (its.map fun i=>AV.agg i.cells).length)),(78,.p (.int .i64 k))],[(0,.own 9 1 ((QD p).map .str)),(1,.obj 114 [.p (.int .i64 0),.p (.int .i64 0)])]⟩)
  (fun k=>k<=its.length∧(its.drop k).find? (fun it => !UR p p.procs[j] (QD p) it.s)=its.find? fun it => !UR p p.procs[j] (QD p) it.s) (fun k=>its.length-k) 0 (Le.of_eq rfl) ⟨zero_le _,rfl⟩ ?_
 rintro k ⟨h5,h6⟩;rcases Nat.lt_or_ge k its.length with hk|hk;rotate_left 1
 ·rw [<- h6,GH hk] at hsa;conv=>whnf
  repeat' (first|(refine wI ?_;conv=>whnf)|(apply bD<;>intro _<;>first|omega|conv=>whnf))
  exact ⟨j+1,⟨by omega,by rw [<- h3,LU hj hsa]⟩,by omega,Le.of_eq rfl⟩
 have hka:=hitm k hk;conv=>whnf
 repeat' (first|((first|refine And.intro rfl ?_|(refine iA fun _=>?_)|refine wI ?_|(refine XK (x2o p p.procs[j] (QD p) its[k].s hka) (.cons (.p (Sub.refl _)) (.cons (.p (Sub.refl _)) (.cons (.hd rfl (by simp)) (.cons (.p (Sub.refl _)) .nil)))) (by rintro _ rfl;rfl) ?_;rintro _ rfl));conv=>whnf)|(apply bD<;>intro _<;>first|omega|conv=>whnf)|(apply bN<;>intro _<;>conv=>whnf))
 ·exact ⟨k+1,⟨by omega,by rw [<- h6,BF (p:=fun it:Item => !UR p p.procs[j] (QD p) it.s) hk (by simp;assumption)]⟩,by omega,Le.of_eq rfl⟩
 ·have e3:=GB (p:=fun it:Item => !UR p p.procs[j] (QD p) it.s) hk (by simp;assumption);rw [<- h6,e3] at hsa;have e2:=WU hj hsa;rw [h3] at e2;rw [e2];exact QP rfl rfl
def w0g:LV->Option Bool
 | .p .tt=>some true
 | .p .ff=>some false
 | .p (.bool b)=>some b
 | _=>none
theorem x4n {σ:Mem} {β:Lab} {l:LV} {v:Value} {b:Bool} (h:RepL σ β l v) (hb:w0g l=some b):v = .bool b:=by
 cases h with
 | p h=>cases h<;>simp [w0g] at hb<;>subst hb<;>rfl
 | _=>simp [w0g] at hb
theorem x0c {P:Program} {T:Tab} {hr:Bool} {s:St} {o:Oper} {K:LV->Prop} (hT:TabOK P T) {t u:TypeId} {x y:Operand} (hop:o.op = .binOp .neq t x y u) {i:TyI} (ht:T.get t=some i) (hd:i.desc = .bool)
  {a b:Bool} (hx:w0g (QR s.sl x)=some a) (hy:w0g (QR s.sl y)=some b) (hK:K (.p (.bool (a != b)))):ValO P hr s o K:=by
 refine ⟨fun σ β ac w hs _=>⟨_,.bool (a != b),hK,.p (.bool _),fun w' _ _ => ?_⟩⟩;have h1:=x4n (QX hs x) hx;have h2:=x4n (QX hs y) hy;have hu:=hT.of ht;rw [hd] at hu;have hg:(eqGuard .neq t x y (.bool a) (.bool b)).run P w' = .ok () w':=by unfold eqGuard;rfl
 have he:(Op.equal t (.bool a) (.bool b)).run P w' = .ok (a==b) w':=by
  have e:Op.equal t (.bool a) (.bool b)=Op.equalIn (9999+1) t (.bool a) (.bool b):=rfl;rw [e,Op.equalIn,Sem.run_bind,run_underlying hu,Result.andThen_ok];rfl
 simp only [execOp,hop,h1,h2,Sem.run_bind,hg,Result.andThen_ok,binOp];simp [he];cases a<;>cases b<;>rfl
def x5l (l:List Param) (args:List Arg):Bool:=decide (l.map Param.ref=args.map Arg.ref)
theorem x5s (l:List Param) (args:List Arg):SpecP Tryz.prog 274 [.sl (l.map fun a => .agg a.cells),z4z args] (fun r=>r = .bool (x5l l args)):=by
 refine sB q9y Tryz.func274 rfl Tryz.call274 ?_;conv=>whnf
 repeat' (first|(refine iM fun _=>?_;conv=>whnf)|(apply bE<;>intro _<;>first|omega|conv=>whnf))
 all_goals
  have hl:(l.map fun a=>AV.agg a.cells).length=l.length:=length_map _;have hl2:(args.map fun a=>AV.agg a.cells).length=args.length:=length_map _
 ·have hlen:l.length=args.length:=by omega
  refine LoopK.inv QU (fun j:Nat=>⟨[(1,.p (z4z args)),(12,.p (.sl (l.map fun a => .agg a.cells))),(13,.p (.int .i64 (l.map fun a=>AV.agg a.cells).length)),(14,.p (.int .i64 j))],[]⟩) (fun j=>j<=l.length∧(l.map Param.ref).take j=(args.map Arg.ref).take j) (fun j=>l.length-j) 0 (Le.of_eq rfl) ⟨zero_le _,rfl⟩ ?_;rintro j ⟨h2,h3⟩;rcases Nat.lt_or_ge j l.length with hj|hj
  ·conv=>whnf
   repeat' (first|((first|refine dA ?_|refine And.intro rfl ?_|(refine iA fun _=>?_)|refine wI ?_|refine x0c QU rfl rfl rfl rfl rfl ?_);conv=>whnf)|(apply bD<;>intro _<;>first|omega|conv=>whnf)|(apply bE<;>intro _<;>first|omega|conv=>whnf))
   ·have hne:l[j].ref=(args[j]'(by omega)).ref:=by assumption
    exact ⟨j+1,⟨by omega,by
     rw [List.take_succ_eq_append_getElem (by simp;omega),List.take_succ_eq_append_getElem (by simp;omega),h3];simp [hne]⟩,by omega,Le.of_eq rfl⟩
   ·have hne : ¬l[j].ref=(args[j]'(by omega)).ref:=by assumption
    exact RetK.ff (by
     unfold x5l;rw [decide_eq_false_iff_not];intro he;have:(l.map Param.ref)[j]? = (args.map Arg.ref)[j]? := by rw [he]
     rw [List.getElem?_map,List.getElem?_map,List.getElem?_eq_getElem hj,List.getElem?_eq_getElem (by omega)] at this;simp at this;exact hne this)
  ·conv=>whnf
   repeat' (apply bD<;>intro _<;>first|omega|conv=>whnf)
   exact RetK.tt (by
    unfold x5l;rw [decide_eq_true_eq]
    rwa [take_of_length_le (by simp;omega),take_of_length_le (by simp;omega)] at h3)
 ·exact RetK.ff (by
   unfold x5l;rw [decide_eq_false_iff_not];intro he;have:=congrArg List.length he;simp at this;omega)
def KY (p:Pg) (s:S):Bool:=decide (s.kind=4)&&match p.procs.find? (fun f=>f.name==s.proc) with
 | some f=>x5l f.params s.args
 | none=>false
theorem x7n (p:Pg) (s:S):SpecP Tryz.prog 200 [.agg p.cells,.agg s.cells] (fun r=>r = .bool (KY p s)):=by
 refine sB x0m Tryz.func200 rfl Tryz.call200 ?_;conv=>whnf
 repeat' (first|(refine iM fun _=>?_;conv=>whnf)|(apply bE<;>intro _<;>first|omega|conv=>whnf))
 ·have hl:(p.procs.map fun f=>AV.agg f.cells).length=p.procs.length:=length_map _;refine LoopK.inv QU (fun j:Nat=>⟨[(3,.p (.ip s.cells)),(11,.p (.sl (p.procs.map fun f => .agg f.cells))),(12,.p (.int .i64 (p.procs.map fun f=>AV.agg f.cells).length)),(13,.p (.int .i64 j))],[]⟩) (fun j=>j<=p.procs.length∧(p.procs.drop j).find? (fun f=>f.name==s.proc)=p.procs.find? (fun f=>f.name==s.proc)) (fun j=>p.procs.length-j) 0 (Le.of_eq rfl) ⟨zero_le _,rfl⟩ ?_;rintro j ⟨h2,h3⟩;conv=>whnf
  repeat' (first|((first|refine cP (x5s _ _) ?_|refine And.intro rfl ?_|(refine iA fun _=>?_)|refine wI ?_);conv=>whnf)|(apply bD<;>intro _<;>first|omega|conv=>whnf)|(apply bB<;>intro _<;>conv=>whnf))
  ·have e:=GB (p:=fun f:Pr=>f.name==s.proc) (l:=p.procs) (j:=j) (by omega) (by assumption);rw [h3] at e;exact RetK.bool (by unfold KY;rw [e];simp [*])
  ·exact ⟨j+1,⟨by omega,by rw [<- h3,BF (p:=fun f:Pr=>f.name==s.proc) (by omega) (by assumption)]⟩,by omega,Le.of_eq rfl⟩
  ·have e:p.procs.find? (fun f=>f.name==s.proc)=none:=by rw [<- h3,GH (by omega)]
   exact RetK.ff (by unfold KY;rw [e];simp)
 ·exact RetK.ff (by unfold KY;simp [*])
def GL (p:Pg):List S:=p.procs.flatMap fun f=>flL f.body
theorem z5c : ∀ (l:List Pr) (i:Nat) (acc:List Item) (lo hi:List Int),(q1o i acc lo hi l).1.map Item.s=acc.map Item.s++l.flatMap fun f=>flL f.body
 | [],i,acc,lo,hi=>by rw [q1o];simp
 | f::r,i,acc,lo,hi=>by
   rw [q1o,z5c r,DZ,List.map_append,BH,List.flatMap_cons,List.append_assoc]
theorem q6u (p:Pg):(sheetOf p).l.map Item.s=GL p:=by
 have:=z5c p.procs 0 [] [] [];unfold sheetOf GL;simpa using this
theorem x7w {p:Pg} (hf:Fit p) {k:Nat} (hk:k<(sheetOf p).l.length):wS (sheetOf p).l[k].s<=20000:=by
 have hm:(sheetOf p).l[k].s∈GL p:=by
  rw [<- q6u];exact List.mem_map.2 ⟨_,List.getElem_mem hk,rfl⟩
 unfold GL at hm;obtain ⟨f,h1,h2⟩:=List.mem_flatMap.1 hm;have h3:=x2j _ _ h2;have h4:=hf.pr h1;unfold wPr at h4;omega
def VV (p:Pg):Int×Int :=
 if (XQ p).1≠0 then (1,0) else match (GL p).find? fun t=>decide (t.kind=4) && !KY p t with
  | some t=>(6,t.id)
  | none=>(0,0)
theorem VC {p:Pg} (h:(XQ p).1=0):GD p=true∧ZD p=false∧p.procs.findSome? (VQ p)=none:=by
 unfold XQ at h;cases hm:GD p<;>rw [hm] at h
 ·cases h
 cases hb:ZD p<;>rw [hb] at h
 ·refine ⟨rfl,rfl,?_⟩;simp only [cond_true,cond_false] at h;split at h
  ·cases h
  ·assumption
 ·cases h
theorem LO (p:Pg) (hf:Fit p):SpecP Tryz.prog 130 [.agg p.cells] (fun r=>r=q3w (VV p).1 (VV p).2):=by
 refine sB q6r Tryz.func130 rfl Tryz.call130 ?_;conv=>whnf
 repeat' (first|((first|refine cP (UB p hf) ?_|refine And.intro rfl ?_);conv=>whnf)|(apply bE<;>intro _<;>first|omega|conv=>whnf))
 rotate_left 1
 ·have e:VV p=(1,0):=by unfold VV;rw [if_pos (by assumption)]
  exact QP (by rw [e]) (by rw [e])
 have hs:(XQ p).1=0:=by assumption
 obtain ⟨hm,hb,hns⟩:=VC hs;obtain ⟨hg,hpl,hcn⟩:=WZ hm;have hA:VV p=match (GL p).find? fun t=>decide (t.kind=4) && !KY p t with
  | some t=>(6,t.id)
  | none=>(0,0):=by unfold VV;rw [if_neg (by omega)]
 repeat' ((first|(refine iM fun _=>?_)|(refine CallK.pure (UI p (by omega) (by omega)) (.cons (Sub.refl _) .nil) ?_;rintro _ rfl));conv=>whnf)
 have hil:=ZN (sheetOf p).l;have hib:(sheetOf p).l.length<=200:=by have:=(QJ p).2.2.2.1;omega
 have hfi:=GX (q:=fun t=>decide (t.kind=4) && !KY p t) (sheetOf p).l;rw [q6u] at hfi;have hA2:VV p=match ((sheetOf p).l.find? fun it=>decide (it.s.kind=4) && !KY p it.s).map (fun it=>it.s.id) with
  | some a=>(6,a)
  | none=>(0,0):=by
  rw [hA,hfi];cases (GL p).find? fun t=>decide (t.kind=4) && !KY p t<;>rfl
 rw [hA2];refine LoopK.inv QU (fun k:Nat=>⟨[(1,.p (.ip p.cells)),(2,.ptr 1 0),(14,.p (UC (sheetOf p).l)),(15,.p (.int .i64 ((sheetOf p).l.map fun i=>AV.agg i.cells).length)),(16,.p (.int .i64 k))],[(1,.obj 114 [.p (.int .i64 0),.p (.int .i64 0)])]⟩)
  (fun k=>k<=(sheetOf p).l.length∧((sheetOf p).l.drop k).find? (fun it=>decide (it.s.kind=4) && !KY p it.s)=(sheetOf p).l.find? fun it=>decide (it.s.kind=4) && !KY p it.s) (fun k=>(sheetOf p).l.length-k) 0 (Le.of_eq rfl) ⟨zero_le _,rfl⟩ ?_
 rintro k ⟨h5,h6⟩;rcases Nat.lt_or_ge k (sheetOf p).l.length with hk|hk;rotate_left 1
 ·rw [<- h6,GH hk];conv=>whnf
  repeat' (first|(refine And.intro rfl ?_;conv=>whnf)|(apply bD<;>intro _<;>first|omega|conv=>whnf))
  exact QP rfl rfl
 conv=>whnf
 repeat' (first|((first|refine cP (x7n _ _) ?_|refine And.intro rfl ?_|(refine iA fun _=>?_)|refine wI ?_);conv=>whnf)|(apply bD<;>intro _<;>first|omega|conv=>whnf)|(apply bN<;>intro _<;>conv=>whnf))
 all_goals first
  | (have e3:=GB (p:=fun it:Item=>decide (it.s.kind=4) && !KY p it.s) hk (by simp [*])
     rw [<- h6,e3];exact QP rfl rfl)
  | exact ⟨k+1,⟨by omega,by rw [<- h6,BF (p:=fun it:Item=>decide (it.s.kind=4) && !KY p it.s) hk (by simp [*])]⟩,by omega,Le.of_eq rfl⟩
def UH:List Str->List Str->Option (List Str)
 | seen,[]=>some seen
 | seen,n::r=>bif seen.any (fun s=>n==s) then none else UH (seen++[n]) r
theorem z5k {seen l:List Str} {j:Nat} (hj:j<l.length) (h:(seen.any fun s=>l[j]==s)=true):UH seen (l.drop j)=none:=by
 rw [QK hj,UH,h];rfl
theorem z0m {seen l:List Str} {j:Nat} (hj:j<l.length) (h:(seen.any fun s=>l[j]==s)=false):UH seen (l.drop j)=UH (seen++[l[j]]) (l.drop (j+1)):=by
 rw [QK hj,UH,h];rfl
theorem q7n : ∀ {l seen out:List Str},UH seen l=some out->out=seen++l
 | [],seen,out,h=>by rw [UH] at h;cases h;simp
 | n::r,seen,out,h=>by
   rw [UH] at h;cases hc:(seen.any fun s=>n==s)<;>rw [hc] at h
   ·have:=q7n h;simpa using this
   ·cases h
def z0u (t:Nat) (seen l:List Str) (r:LV) (H:Heap):Prop :=
 match UH seen l with
 | some out=>r = .tup [.hd 2000 0 out.length,.p .tt]∧H=x8z t out
 | none => ∃ out,r = .tup [.hd 2000 0 out.length,.p .ff]∧H=x8z t out
theorem LP {t:Nat} {seen l:List Str} {Q:LV->Heap->Prop} (h1:UH seen l=some (seen++l)->Q (.tup [.hd 2000 0 (seen++l).length,.p .tt]) (x8z t (seen++l)))
  (h2:UH seen l=none -> ∀ out,Q (.tup [.hd 2000 0 out.length,.p .ff]) (x8z t out)) : ∀ l' H',z0u t seen l l' H'->Q l' H':=by
 intro l' H' h;unfold z0u at h;cases hr:UH seen l with
 | some out =>
   rw [hr] at h;obtain ⟨rfl,rfl⟩:=h;have:=q7n hr;subst this;exact h1 hr
 | none =>
   rw [hr] at h;obtain ⟨out,rfl,rfl⟩:=h;exact h2 hr out
theorem x0k (seen l:List Str) (hlen:seen.length+l.length<=1000000000) :
  SpecH Tryz.prog 202 [.hd 2000 0 seen.length,.p (QS l)] (x8z 9 seen) (z0u 9 seen l):=by
 refine sH x2g Tryz.func202 rfl Tryz.call202 ?_;conv=>whnf
 repeat' (refine iM fun _=>?_;conv=>whnf)
 have hl:(l.map AV.str).length=l.length:=length_map _;refine LoopK.inv QU (fun i:Nat×List Str=>⟨[(0,.hd 2000 0 i.2.length),(8,.p (QS l)),(9,.p (.int .i64 (l.map AV.str).length)),(10,.p (.int .i64 i.1))],x8z 9 i.2⟩) (fun i=>i.1<=l.length∧i.2.length+(l.length-i.1)=seen.length+l.length∧UH i.2 (l.drop i.1)=UH seen l) (fun i=>l.length-i.1) (0,seen) (Le.of_eq rfl) ⟨zero_le _,by simp,rfl⟩ ?_;rintro ⟨j,acc⟩ ⟨h2,h3,h4⟩;simp only at h2 h3 h4 ⊢;rcases Nat.lt_or_ge j l.length with hj|hj
 ·conv=>whnf
  repeat' (first|((first|refine And.intro rfl ?_|refine aD ?_|refine bP ?_|(refine iA fun _=>?_)|refine wI ?_|(refine XK (QQ acc (l[j]'hj)) (.cons (.hd rfl (by simp)) (.cons (.p (Sub.refl _)) .nil)) (by rintro _ rfl;rfl) ?_;rintro _ rfl)|refine VF (by simp) (by simp;omega) ?_);conv=>whnf)|(apply bD<;>intro _<;>first|omega|conv=>whnf)|(apply bB<;>intro _<;>conv=>whnf))
  ·exact ⟨_,.refl _,by unfold z0u;rw [<- h4,z5k hj (by assumption)];exact ⟨acc,rfl,rfl⟩⟩
  ·exact ⟨(j+1,acc++[l[j]]),⟨by simp only;omega,by simp;omega,by simp only;rw [<- h4,z0m hj (by assumption)]⟩,by simp only;omega,Le.of_eq (by simp only [x8z,length_append,List.map_append];rfl)⟩
 ·conv=>whnf
  repeat' (apply bD<;>intro _<;>first|omega|conv=>whnf)
  rw [drop_eq_nil_of_le hj,UH] at h4;exact ⟨_,.refl _,by unfold z0u;rw [<- h4];exact ⟨rfl,rfl⟩⟩
def atB (f:Pr) (label:Str):Int×Bool :=
 match (flL f.body).find? fun t=>t.labels.any fun s=>label==s with
 | some t=>(t.id,true)
 | none=>bif f.fin.any fun s=>label==s then (-1,true) else (0,false)
theorem RetK.tup2 {H:Heap} {k:IntKind} {m n:Int} {x:AV} {b:Bool} (h:m=n) (hb:Sub x (.bool b)):RetK H (.p (.tup [.int k m,x])) (fun r=>r = .tup [.int k n,.bool b]) :=
 ⟨_,.p (Sub.tup (SubL.cons (Sub.int h) (SubL.cons hb SubL.nil))),rfl⟩
theorem JD (p:Pg) (j:Nat) (f:Pr) (hj:p.procs[j]? = some f) (hc:cntP p.procs<=1000) (label:Str):SpecP Tryz.prog 234 [.ip (sheetOf p).cells,.int .i64 j,.str label] (fun r=>r = .tup [.int .i64 (atB f label).1,.bool (atB f label).2]):=by
 refine sB q0d Tryz.func234 rfl Tryz.call234 ?_;conv=>whnf
 repeat' ((first|(refine iM fun _=>?_)|refine cP (x1x p hj hc) ?_);conv=>whnf)
 have hfi:=GX (q:=fun t=>t.labels.any fun s=>label==s) (itL (j:Nat) 0 (-1) 0 (QE p.procs j) f.body);rw [BH] at hfi;have hib:(itL (j:Nat) 0 (-1) 0 (QE p.procs j) f.body).length<=1000:=by
  have:=(QJ p).2.2.2.2 j f hj;rw [ZX];omega
 generalize hits:itL (j:Nat) 0 (-1) 0 (QE p.procs j) f.body=its at hfi hib ⊢;have hil:=ZN its;have hat:atB f label=match (its.find? fun it=>it.s.labels.any fun s=>label==s).map (fun it=>it.s.id) with
  | some a=>(a,true)
  | none=>bif f.fin.any fun s=>label==s then (-1,true) else (0,false):=by
  unfold atB;rw [hfi];cases (flL f.body).find? fun t=>t.labels.any fun s=>label==s<;>rfl
 rw [hat];refine LoopK.inv QU (fun k:Nat=>⟨[(0,.p (.ip (sheetOf p).cells)),(1,.p (.int .i64 j)),(2,.p (.str label)),(12,.p (UC its)),(13,.p (.int .i64 (its.map fun i=>AV.agg i.cells).length)),(14,.p (.int .i64 k))],[]⟩)
  (fun k=>k<=its.length∧(its.drop k).find? (fun it=>it.s.labels.any fun s=>label==s)=its.find? fun it=>it.s.labels.any fun s=>label==s) (fun k=>its.length-k) 0 (Le.of_eq rfl) ⟨zero_le _,rfl⟩ ?_
 rintro k ⟨h5,h6⟩;rcases Nat.lt_or_ge k its.length with hk|hk
 ·conv=>whnf
  repeat' (first|((first|refine cP (QQ _ _) ?_|refine And.intro rfl ?_|(refine iA fun _=>?_)|refine wI ?_);conv=>whnf)|(apply bD<;>intro _<;>first|omega|conv=>whnf)|(apply bB<;>intro _<;>conv=>whnf))
  ·have e3:=GB (p:=fun it:Item=>it.s.labels.any fun s=>label==s) hk (by assumption);rw [<- h6,e3];exact RetK.tup2 rfl (Sub.tt rfl)
  ·exact ⟨k+1,⟨by omega,by rw [<- h6,BF (p:=fun it:Item=>it.s.labels.any fun s=>label==s) hk (by assumption)]⟩,by omega,Le.of_eq rfl⟩
 ·rw [<- h6,GH hk];have hpj:(p.procs.map fun f=>AV.agg f.cells)[j]? = some (.agg f.cells):=by simp [hj]
  conv=>whnf
  repeat' (first|((first|refine cP (QQ _ _) ?_|(refine IdxK.at rfl hpj rfl ?_));conv=>whnf)|(apply bD<;>intro _<;>first|omega|conv=>whnf)|(apply bB<;>intro _<;>conv=>whnf))
  ·exact RetK.tup2 (by simp [*]) (Sub.tt (by simp [*]))
  ·exact RetK.tup2 (by simp [*]) (Sub.ff (by simp [*]))
def UA (f:Pr) (it:Item):Bool:=if it.s.kind=7∨it.s.kind=8 then !(it.loop==0) else if it.s.kind=10 then (atB f it.s.name).2 else true
theorem x7q (p:Pg) (j:Nat) (f:Pr) (hj:p.procs[j]? = some f) (hc:cntP p.procs<=1000) (it:Item) (hp:it.proc=j):SpecP Tryz.prog 203 [.ip (sheetOf p).cells,.agg it.cells] (fun r=>r = .bool (UA f it)):=by
 refine sB x0d Tryz.func203 rfl Tryz.call203 ?_;conv=>whnf
 repeat' (first|(refine CallK.pure (JD p j f hj hc it.s.name) (.cons (Sub.refl _) (.cons (Sub.int hp) (.cons (Sub.refl _) .nil))) ?_;rintro _ rfl;conv=>whnf)|(apply bD<;>intro _<;>first|omega|conv=>whnf))
 all_goals first
  | exact RetK.bool (by simp [UA, *];rfl)
  | exact RetK.bool (by simp [UA, *])
  | exact RetK.tt (by simp [UA, *])
theorem x7c (p:Pg) (hf:Fit p) (h:(XQ p).1=0):SpecP Tryz.prog 201 [.agg p.cells] (fun r=>r = .ip (sheetOf p).cells):=by
 refine sB NG Tryz.func201 rfl Tryz.call201 ?_;conv=>whnf
 obtain ⟨hm,hb,hns⟩:=VC h;obtain ⟨hg,hpl,hcn⟩:=WZ hm;repeat' (first|((first|refine cP (UB p hf) ?_|(refine CallK.pure (UI p (by omega) (by omega)) (.cons (Sub.refl _) .nil) ?_;rintro _ rfl));conv=>whnf)|(apply bE<;>intro _<;>first|omega|conv=>whnf))
 exact RetK.p rfl
theorem q5q (p:Pg) (hf:Fit p) (h:(XQ p).1≠0):SpecP Tryz.prog 201 [.agg p.cells] (fun r=>r = .nilp):=by
 refine sB NG Tryz.func201 rfl Tryz.call201 ?_;conv=>whnf
 repeat' (first|(refine cP (UB p hf) ?_;conv=>whnf)|(apply bE<;>intro _<;>first|omega|conv=>whnf))
 exact RetK.p rfl
mutual
theorem z5b (proc up nx loop:Int) (n:Nat) : ∀ (t:S) (it:Item),it∈itS proc up nx loop n t->it.proc=proc
 | .mk id kind labels name pr x has args thn els,it,h=>by
   rw [itS] at h;rcases List.mem_cons.1 h with rfl|h
   ·rfl
   ·rcases List.mem_append.1 h with h|h
    ·exact YQ _ _ _ _ _ thn it h
    ·exact YQ _ _ _ _ _ els it h
theorem YQ (proc up nx loop:Int) (n:Nat) : ∀ (l:List S) (it:Item),it∈itL proc up nx loop n l->it.proc=proc
 | [],it,h=>by rw [itL] at h;cases h
 | t::r,it,h=>by
   rw [itL] at h;rcases List.mem_append.1 h with h|h
   ·exact z5b _ _ _ _ _ t it h
   ·exact YQ _ _ _ _ _ r it h
end
def GM (f:Pr):List Item->List Str->Except Int (List Str)
 | [],seen => .ok seen
 | it::r,seen=>match UH seen it.s.labels with
   | none => .error it.s.id
   | some s=>bif UA f it then GM f r s else .error it.s.id
def YZ (p:Pg) (j:Nat):Option Int :=
 match p.procs[j]? with
 | none=>none
 | some f=>match GM f (itL (j:Nat) 0 (-1) 0 (QE p.procs j) f.body) [] with
   | .error id=>some id
   | .ok seen=>match UH seen f.fin with
     | none=>some 0
     | some _=>none
def MZ (p:Pg):Int×Int :=
 if (XQ p).1≠0 then (1,0) else match (List.range p.procs.length).findSome? (YZ p) with
  | some a=>(7,a)
  | none=>(0,0)
theorem z5m {f:Pr} {its:List Item} {seen:List Str} {k:Nat} (hk:k<its.length) (h:UH seen its[k].s.labels=none):GM f (its.drop k) seen = .error its[k].s.id:=by
 rw [QK hk,GM,h]
theorem x9e {f:Pr} {its:List Item} {seen s:List Str} {k:Nat} (hk:k<its.length) (h:UH seen its[k].s.labels=some s) (hl:UA f its[k]=false):GM f (its.drop k) seen = .error its[k].s.id:=by
 rw [QK hk,GM,h];simp only [hl,cond_false]
theorem z0x {f:Pr} {its:List Item} {seen s:List Str} {k:Nat} (hk:k<its.length) (h:UH seen its[k].s.labels=some s) (hl:UA f its[k]=true):GM f (its.drop k) seen=GM f (its.drop (k+1)) s:=by
 rw [QK hk,GM,h];simp only [hl,cond_true]
theorem x1i {l:List Pr} {j:Nat} (hj:j<l.length) (h:wPr l[j]<=20000) {a b c d:Int} {n k:Nat} (hk:k<(itL a b c d n l[j].body).length):(itL a b c d n l[j].body)[k].s.labels.length<=20000:=by
 have hm:(itL a b c d n l[j].body)[k].s∈flL l[j].body:=by
  rw [<- BH a b c d n];exact List.mem_map.2 ⟨_,List.getElem_mem hk,rfl⟩
 have h1:=x2j _ _ hm;have h2:=z1u (itL a b c d n l[j].body)[k].s;have h3:=q7u (itL a b c d n l[j].body)[k].s.labels;unfold wPr at h;omega
theorem x6a (p:Pg) (hf:Fit p):SpecP Tryz.prog 131 [.agg p.cells] (fun r=>r=q3w (MZ p).1 (MZ p).2):=by
 refine sB q9a Tryz.func131 rfl Tryz.call131 ?_;conv=>whnf
 rcases Decidable.em ((XQ p).1=0) with hs|hs;rotate_left 1
 ·
  repeat' ((first|refine cP (q5q p hf hs) ?_|refine And.intro rfl ?_);conv=>whnf)
  have e:MZ p=(1,0):=by unfold MZ;rw [if_pos hs]
  exact QP (by rw [e]) (by rw [e])
 obtain ⟨hm,hb,hns⟩:=VC hs;obtain ⟨hg,hpl,hcn⟩:=WZ hm;have hJ:MZ p=match (List.range p.procs.length).findSome? (YZ p) with
  | some a=>(7,a)
  | none=>(0,0):=by unfold MZ;rw [if_neg (by omega)]
 rw [hJ];have hl:(p.procs.map fun f=>AV.agg f.cells).length=p.procs.length:=length_map _;repeat' ((first|(refine iM fun _=>?_)|refine cP (x7c p hf hs) ?_);conv=>whnf)
 refine LoopK.inv QU (fun j:Nat=>⟨[(2,.ptr 1 0),(3,.p (.ip (sheetOf p).cells)),(16,.p (.sl (p.procs.map fun f => .agg f.cells))),(17,.p (.int .i64 (p.procs.map fun f=>AV.agg f.cells).length)),(18,.p (.int .i64 j))],[(1,.obj 114 [.p (.int .i64 0),.p (.int .i64 0)])]⟩)
  (fun j=>j<=p.procs.length∧((List.range p.procs.length).drop j).findSome? (YZ p)=(List.range p.procs.length).findSome? (YZ p)) (fun j=>p.procs.length-j) 0 (Le.of_eq rfl) ⟨zero_le _,rfl⟩ ?_
 rintro j ⟨h2,h3⟩;rcases Nat.lt_or_ge j p.procs.length with hj|hj;rotate_left 1
 ·have e:(List.range p.procs.length).findSome? (YZ p)=none:=by rw [<- h3,NP (by simpa using hj)]
  rw [e];conv=>whnf
  repeat' (first|(refine And.intro rfl ?_;conv=>whnf)|(apply bD<;>intro _<;>first|omega|conv=>whnf))
  exact QP rfl rfl
 have hfp:=hf.pr (List.getElem_mem hj);have hjr:j<(List.range p.procs.length).length:=by simpa using hj
 have hrj:(List.range p.procs.length)[j]=j:=by simp
 have hpj:p.procs[j]? = some p.procs[j]:=by simp [hj]
 conv=>whnf
 repeat' (first|((first|(refine iM fun _=>?_)|refine And.intro rfl ?_|(refine iA fun _=>?_)|(refine CallK.pure (x1x p (f:=p.procs[j]'hj) hpj (by omega)) (.cons (Sub.refl _) (.cons (Sub.refl _) .nil)) ?_;rintro _ rfl));conv=>whnf)|(apply bD<;>intro _<;>first|omega|conv=>whnf))
 have hlab : ∀ k (hk:k<(itL (j:Nat) 0 (-1) 0 (QE p.procs j) p.procs[j].body).length),(itL (j:Nat) 0 (-1) 0 (QE p.procs j) p.procs[j].body)[k].s.labels.length<=20000:=fun k hk=>x1i hj hfp hk;have hprc : ∀ k (hk:k<(itL (j:Nat) 0 (-1) 0 (QE p.procs j) p.procs[j].body).length),(itL (j:Nat) 0 (-1) 0 (QE p.procs j) p.procs[j].body)[k].proc=j:=fun k hk=>YQ _ _ _ _ _ _ _ (List.getElem_mem hk);have hib:(itL (j:Nat) 0 (-1) 0 (QE p.procs j) p.procs[j].body).length<=200:=by
  have:=(QJ p).2.2.2.2 j _ hpj;rw [ZX];omega
 have hja:YZ p j=match GM p.procs[j] (itL (j:Nat) 0 (-1) 0 (QE p.procs j) p.procs[j].body) [] with
  | .error id=>some id
  | .ok seen=>match UH seen p.procs[j].fin with
    | none=>some 0
    | some _=>none:=by
  unfold YZ;rw [hpj]
 generalize hits:itL (j:Nat) 0 (-1) 0 (QE p.procs j) p.procs[j].body=its at hlab hprc hib hja ⊢;have hil:=ZN its;refine LoopK.inv QU (fun i:Nat×List Str=>⟨[(2,.ptr 1 0),(3,.p (.ip (sheetOf p).cells)),(5,.p (.ip (p.procs[j]'hj).cells)),(6,.hd 0 0 i.2.length),(16,.p (.sl (p.procs.map fun f => .agg f.cells))),(17,.p (.int .i64 (p.procs.map fun f=>AV.agg f.cells).length)),(18,.p (.int .i64 j)),(25,.p (UC its)),(26,.p (.int .i64 (its.map fun i=>AV.agg i.cells).length)),(27,.p (.int .i64 i.1))],[(0,.own 9 1 (i.2.map .str)),(1,.obj 114 [.p (.int .i64 0),.p (.int .i64 0)])]⟩)
  (fun i=>i.1<=its.length∧i.2.length<=20000*i.1∧GM p.procs[j] (its.drop i.1) i.2=GM p.procs[j] its []) (fun i=>its.length-i.1) (0,[])
  (Le.mk [(0,.own 9 1 [])] (by simp [Chunk.new0];rfl) (by simp) (by simp) (.cons (.refl _) (.cons (.refl _) (.cons (.refl _) (.cons (.nil mem_cons_self) (.cons (.refl _) (.cons (.refl _) (.cons (.refl _) (.cons (.refl _) (.cons (.refl _) (.cons (.refl _) .nil)))))))))) (.new mem_cons_self (.cons rfl (.refl _) .nil)))
  ⟨zero_le _,by simp,rfl⟩ ?_
 rintro ⟨k,acc⟩ ⟨h5,h6,h7⟩;simp only at h5 h6 h7 ⊢;rcases Nat.lt_or_ge k its.length with hk|hk
 ·have hlk:=hlab k hk;conv=>whnf
  repeat' (first|((first|refine And.intro rfl ?_|(refine iA fun _=>?_)|refine wI ?_|(refine CallK.pure (x7q p j p.procs[j] hpj (by omega) its[k] (hprc k hk)) (.cons (Sub.refl _) (.cons (Sub.refl _) .nil)) ?_;rintro _ rfl));conv=>whnf)|(apply bD<;>intro _<;>first|omega|conv=>whnf)|(apply bN<;>intro _<;>conv=>whnf)|(refine CallK.heap [(2000,0)] 0 (by repeat' (first|exact ArgsH.nil|refine ArgsH.cons ?_ ?_|exact LSub.refl _|exact LSub.p Sub.nils|exact LSub.p (Sub.tt rfl)|exact LSub.p (Sub.ff rfl)|exact LSub.p (Sub.int (by omega)))) (by refine BlksH.cons (j:=0) rfl rfl ?_ ?_;exact CSub.refl _;exact BlksH.nil) (x0k acc its[k].s.labels (by omega)) rfl rfl (LP (fun hjo => ?_) (fun hjo out => ?_))<;>conv=>whnf))
  ·exact ⟨(k+1,acc++its[k].s.labels),⟨by simp only;omega,by simp;omega,by simp only;rw [<- h7,z0x hk hjo (by assumption)]⟩,by simp only;omega,Le.of_eq rfl⟩
  ·rw [<- h7,x9e hk hjo (by assumption)] at hja;have e2:=WU (f:=YZ p) hjr (by rw [hrj];exact hja);rw [h3] at e2;rw [e2];exact QP rfl rfl
  ·rw [<- h7,z5m hk hjo] at hja;have e2:=WU (f:=YZ p) hjr (by rw [hrj];exact hja);rw [h3] at e2;rw [e2];exact QP rfl rfl
 ·have hfin:p.procs[j].fin.length<=20000:=by
   have:=q7u p.procs[j].fin;unfold wPr at hfp;omega
  rw [drop_eq_nil_of_le hk,GM] at h7;rw [<- h7] at hja;simp only at hja;conv=>whnf
  repeat' (first|((first|refine And.intro rfl ?_|refine wI ?_);conv=>whnf)|(apply bD<;>intro _<;>first|omega|conv=>whnf)|(refine CallK.heap [(2000,0)] 0 (by repeat' (first|exact ArgsH.nil|refine ArgsH.cons ?_ ?_|exact LSub.refl _|exact LSub.p Sub.nils|exact LSub.p (Sub.tt rfl)|exact LSub.p (Sub.ff rfl)|exact LSub.p (Sub.int (by omega)))) (by refine BlksH.cons (j:=0) rfl rfl ?_ ?_;exact CSub.refl _;exact BlksH.nil) (x0k acc p.procs[j].fin (by omega)) rfl rfl (LP (fun hjo => ?_) (fun hjo out => ?_))<;>conv=>whnf))
  ·rw [hjo] at hja;exact ⟨j+1,⟨by omega,by rw [<- h3,LU (f:=YZ p) hjr (by rw [hrj];exact hja)]⟩,by omega,Le.of_eq rfl⟩
  ·rw [hjo] at hja;have e2:=WU (f:=YZ p) hjr (by rw [hrj];exact hja);rw [h3] at e2;rw [e2];exact QP rfl rfl
theorem BJ {es:List AV} {sz:Nat} {out:List LV} {Kp Ko:Prop} (hx:(es.all fun x=>x.cells.length==sz)=true) (ho:out=(es.flatMap AV.cells).map .p) (hK:Kp):BsK es sz out Kp Ko := .pure (fun x h=>by simpa using List.all_eq_true.1 hx x h) ho hK
def w64 (n:Int):Int:=IntKind.wrap .i64 n
def x8g (b:Bool):Int:=bif b then 1 else 0
def z2m (op a:Int):Int×Bool:=if op=3 then (w64 (0-a),true) else if op=4 then (x8g (a==0),true) else (0,false)
def w1j (op a b:Int):Int×Bool:=if b=0 then (0,false) else if b = -1 then (if op=7 then (0,true) else if a = -9223372036854775808 then (a,true) else (w64 (0-a),true)) else if op=7 then (a.tmod b,true) else (w64 (a.tdiv b),true)
def w1b (op a b:Int):Int×Bool:=if op=10 then (x8g (decide (a<b)),true) else if op=11 then (x8g (decide (a<=b)),true) else if op=12 then (x8g (decide (a>b)),true) else if op=13 then (x8g (decide (a≥b)),true) else if op=14 then (x8g (a==b),true) else if op=15 then (x8g (a != b),true) else (0,false)
def w0j (op a b:Int):Int×Bool:=if op=8 then (w64 (a+b),true) else if op=9 then (w64 (a-b),true) else if op=5 then (w64 (a*b),true) else if op=6∨op=7 then w1j op a b else if op=16 then (x8g (a != 0&&b != 0),true) else if op=17 then (x8g (a != 0||b != 0),true) else w1b op a b
def z6v (r:Int×Bool):AV := .tup [.int .i64 r.1,.bool r.2]
theorem QB {H:Heap} {a:Int} {x:AV} {r:Int×Bool} (h1:a=r.1) (h2:Sub x (.bool r.2)):RetK H (.p (.tup [.int .i64 a,x])) (fun y=>y=z6v r):=RetK.tup2 h1 h2
theorem GV (b:Bool):SpecP Tryz.prog 364 [.bool b] (fun r=>r = .int .i64 (x8g b)):=by
 refine sB x6f Tryz.func364 rfl Tryz.call364 ?_;conv=>whnf
 repeat' (apply bB<;>intro _<;>conv=>whnf)
 all_goals exact RetK.int (by simp_all [x8g])
theorem x5i (a:Int):SpecP Tryz.prog 347 [.int .i64 a] (fun r=>r = .bool (a != 0)):=by
 refine sB q8i Tryz.func347 rfl Tryz.call347 ?_;conv=>whnf
 skip
 all_goals exact RetK.bool rfl
theorem z4c (op a:Int):SpecP Tryz.prog 346 [.int .i64 op,.int .i64 a] (fun r=>r=z6v (z2m op a)):=by
 refine sB x5e Tryz.func346 rfl Tryz.call346 ?_;conv=>whnf
 repeat' (first|((first|refine cP (GV _) ?_|refine Wr.wrap ?_);conv=>whnf)|(apply bD<;>intro _<;>first|omega|conv=>whnf))
 all_goals first
  | exact QB (by unfold z2m;rw [if_pos (by assumption)];rfl) (Sub.tt (by unfold z2m;rw [if_pos (by assumption)]))
  | exact QB (by unfold z2m;rw [if_neg (by assumption),if_pos (by assumption)]) (Sub.tt (by unfold z2m;rw [if_neg (by assumption),if_pos (by assumption)]))
  | exact QB (by unfold z2m;rw [if_neg (by assumption),if_neg (by assumption)]) (Sub.ff (by unfold z2m;rw [if_neg (by assumption),if_neg (by assumption)]))
theorem x2t (op a b:Int):SpecP Tryz.prog 365 [.int .i64 op,.int .i64 a,.int .i64 b] (fun r=>r=z6v (w1j op a b)):=by
 refine sB q6f Tryz.func365 rfl Tryz.call365 ?_;conv=>whnf
 unfold w1j;by_cases h0:b=0
 ·rw [if_pos h0];repeat' (apply bD<;>intro _<;>first|omega|conv=>whnf)
  all_goals exact QB rfl (Sub.ff rfl)
 rw [if_neg h0];by_cases h1:b = -1
 ·rw [if_pos h1];by_cases h7:op=7
  ·rw [if_pos h7];repeat' (apply bD<;>intro _<;>first|omega|conv=>whnf)
   all_goals exact QB rfl (Sub.tt rfl)
  rw [if_neg h7];by_cases hm:a = -9223372036854775808
  ·rw [if_pos hm];repeat' (apply bD<;>intro _<;>first|omega|conv=>whnf)
   all_goals exact QB rfl (Sub.tt rfl)
  rw [if_neg hm];repeat' (first|(refine Wr.wrap ?_;conv=>whnf)|(apply bD<;>intro _<;>first|omega|conv=>whnf))
  all_goals exact QB rfl (Sub.tt rfl)
 rw [if_neg h1];by_cases h7:op=7
 ·rw [if_pos h7];repeat' (first|(refine And.intro h0 ?_;conv=>whnf)|(apply bD<;>intro _<;>first|omega|conv=>whnf))
  all_goals exact QB rfl (Sub.tt rfl)
 rw [if_neg h7];repeat' (first|((first|refine And.intro h0 ?_|refine Wr.wrap ?_);conv=>whnf)|(apply bD<;>intro _<;>first|omega|conv=>whnf))
 all_goals exact QB rfl (Sub.tt rfl)
theorem q8t (op a b:Int):SpecP Tryz.prog 366 [.int .i64 op,.int .i64 a,.int .i64 b] (fun r=>r=z6v (w1b op a b)):=by
 refine sB q2y Tryz.func366 rfl Tryz.call366 ?_;conv=>whnf
 repeat' (first|(refine cP (GV _) ?_;conv=>whnf)|(apply bD<;>intro _<;>first|omega|conv=>whnf))
 all_goals
  unfold w1b
  (repeat' first
    | rw [if_pos (by assumption)]
    | rw [if_neg (by assumption)])
  first
   | exact QB rfl (Sub.tt rfl)
   | exact QB rfl (Sub.ff rfl)
theorem z4a (op a b:Int):SpecP Tryz.prog 348 [.int .i64 op,.int .i64 a,.int .i64 b] (fun r=>r=z6v (w0j op a b)):=by
 refine sB x6d Tryz.func348 rfl Tryz.call348 ?_;conv=>whnf
 have hD:=x2t op a b;have hC:=q8t op a b;unfold w0j;by_cases h8:op=8
 ·rw [if_pos h8];repeat' (first|(refine Wr.wrap ?_;conv=>whnf)|(apply bD<;>intro _<;>first|omega|conv=>whnf))
  all_goals exact QB rfl (Sub.tt rfl)
 rw [if_neg h8];by_cases h9:op=9
 ·rw [if_pos h9];repeat' (first|(refine Wr.wrap ?_;conv=>whnf)|(apply bD<;>intro _<;>first|omega|conv=>whnf))
  all_goals exact QB rfl (Sub.tt rfl)
 rw [if_neg h9];by_cases h5:op=5
 ·rw [if_pos h5];repeat' (first|(refine Wr.wrap ?_;conv=>whnf)|(apply bD<;>intro _<;>first|omega|conv=>whnf))
  all_goals exact QB rfl (Sub.tt rfl)
 rw [if_neg h5];by_cases h67:op=6∨op=7
 ·rw [if_pos h67];generalize w1j op a b=d at *
  repeat' (first|(refine cP hD ?_;conv=>whnf)|(apply bD<;>intro _<;>first|omega|conv=>whnf))
  all_goals first
   | exact QB rfl (Sub.refl _)
   | (exfalso;omega)
 rw [if_neg h67];by_cases h16:op=16
 ·rw [if_pos h16];repeat' (first|((first|refine cP (GV _) ?_|(refine CallK.pure (GV false) (.cons (Sub.ff rfl) .nil) ?_;rintro _ rfl));conv=>whnf)|(apply bD<;>intro _<;>first|omega|conv=>whnf)|(apply bE<;>intro _<;>first|omega|conv=>whnf))
  all_goals first
   | (exfalso;omega)
   | exact QB (by rw [show (a != 0)=true by simpa using (show ¬a=0 by assumption)];rfl) (Sub.tt rfl)
   | exact QB (by rw [show (a != 0)=false by simpa using (show a=0 by assumption)];rfl) (Sub.tt rfl)
   | exact QB (by simp_all;done) (Sub.tt rfl)
 rw [if_neg h16];by_cases h17:op=17
 ·rw [if_pos h17];repeat' (first|((first|refine cP (GV _) ?_|(refine CallK.pure (GV true) (.cons (Sub.tt rfl) .nil) ?_;rintro _ rfl));conv=>whnf)|(apply bD<;>intro _<;>first|omega|conv=>whnf)|(apply bE<;>intro _<;>first|omega|conv=>whnf))
  all_goals first
   | (exfalso;omega)
   | exact QB (by rw [show (a != 0)=true by simpa using (show ¬a=0 by assumption)];rfl) (Sub.tt rfl)
   | exact QB (by rw [show (a != 0)=false by simpa using (show a=0 by assumption)];rfl) (Sub.tt rfl)
   | exact QB (by simp_all;done) (Sub.tt rfl)
 rw [if_neg h17];generalize w1b op a b=d at *
 repeat' (first|(refine cP hC ?_;conv=>whnf)|(apply bD<;>intro _<;>first|omega|conv=>whnf))
 all_goals first
  | exact QB rfl (Sub.refl _)
  | (exfalso;omega)
def q1e (names:List Str) (vals:List Int) (s:Str):Int:=if 0<=idxF (fun y=>s==y) names∧idxF (fun y=>s==y) names<vals.length then vals.getD (idxF (fun y=>s==y) names).toNat 0 else 0
def evN (env:Str->Int):Nat->X->Int×Bool
 | 0,_=>(0,false)
 | n+1,x=>if x.op=1 then (x.n,true) else if x.op=2 then (env x.name,true) else match x.kids with
   | []=>(0,false)
   | [a]=>bif (evN env n a).2 then z2m x.op (evN env n a).1 else (0,false)
   | a::b::_=>bif (evN env n a).2 then (if x.op=16∧(evN env n a).1=0 then (0,true) else if x.op=17∧(evN env n a).1≠0 then (1,true) else bif (evN env n b).2 then w0j x.op (evN env n a).1 (evN env n b).1 else (0,false)) else (0,false)
def evX (env:Str->Int) (x:X):Int×Bool:=bif z2p x then evN env 20 x else (0,false)
theorem x8w {n:Nat} {x:X} (h:ZP (n+1) x=true) (h1:x.op≠1) (h2:x.op≠2):(∃ a,x.kids=[a]∧ZP n a=true) ∨ ∃ a b,x.kids=[a,b]∧ZP n a=true∧ZP n b=true:=by
 obtain ⟨h3,_,h5⟩:=PP h;have hk:(x.kids.length:Int)=NC x.op:=by
  rw [ZP,Bool.and_eq_true] at h;exact of_decide_eq_true h.1
 have h0:0<x.kids.length:=by
  unfold NC at hk
  (repeat' split at hk)<;>omega
 match hq:x.kids,h0,h3,h5 with
 | [a],_,_,h5=>exact .inl ⟨a,rfl,h5 a (by simp)⟩
 | [a,b],_,_,h5=>exact .inr ⟨a,b,rfl,h5 a (by simp),h5 b (by simp)⟩
 | a::b::c::r,_,h3,_=>simp at h3
theorem z7d : ∀ (n:Nat) (x:X) (_:ZP n x=true) (names:List Str) (vals:List Int),SpecP Tryz.prog 329 [.agg x.cells,QS names,QO vals] (fun r=>r=z6v (evN (q1e names vals) n x)):=by
 intro n;induction n with
 | zero=>intro x h;rw [ZP] at h;cases h
 | succ n ih =>
   intro x hx names vals;have hIx:=XX names x.name;have hvl:(vals.map (AV.int .i64)).length=vals.length:=length_map _;refine sB z1d Tryz.func329 rfl Tryz.call329 ?_;conv=>whnf
   by_cases h1:x.op=1
   ·have e:evN (q1e names vals) (n+1) x=(x.n,true):=by rw [evN,if_pos h1]
    rw [e];repeat' (apply bD<;>intro _<;>first|omega|conv=>whnf)
    all_goals exact QB rfl (Sub.tt rfl)
   by_cases h2:x.op=2
   ·have e:evN (q1e names vals) (n+1) x=(q1e names vals x.name,true):=by rw [evN,if_neg h1,if_pos h2]
    rw [e];unfold q1e;generalize idxF (fun y=>x.name==y) names=ix at *
    by_cases h3:0<=ix∧ix<vals.length
    ·rw [if_pos h3];have hg:(vals.map (AV.int .i64))[ix.toNat]? = some (.int .i64 (vals.getD ix.toNat 0)):=by
      rw [List.getElem?_map,List.getD_eq_getElem?_getD,List.getElem?_eq_getElem (by omega)];rfl
     repeat' (first|((first|(refine iM fun _=>?_)|refine cP hIx ?_|(refine IdxK.at (k:=ix.toNat) (by omega) hg rfl ?_));conv=>whnf)|(apply bD<;>intro _<;>first|omega|conv=>whnf))
     all_goals first
      | exact QB rfl (Sub.tt rfl)
      | (exfalso;omega)
    ·rw [if_neg h3];repeat' (first|((first|(refine iM fun _=>?_)|refine cP hIx ?_);conv=>whnf)|(apply bD<;>intro _<;>first|omega|conv=>whnf))
     all_goals first
      | (exfalso;omega)
      | exact QB rfl (Sub.tt rfl)
   rcases x8w hx h1 h2 with ⟨a,hk,ha⟩|⟨a,b,hk,ha,hb⟩
   ·have hA:=ih a ha names vals;have e:evN (q1e names vals) (n+1) x=bif (evN (q1e names vals) n a).2 then z2m x.op (evN (q1e names vals) n a).1 else (0,false):=by rw [evN,if_neg h1,if_neg h2,hk]
    rw [e];have hg0:(X.avs x.kids)[0]? = some (.agg a.cells):=by rw [hk,X.avs_eq];rfl
    have hkl:(X.avs x.kids).length=1:=by rw [hk,X.avs_eq];rfl
    generalize evN (q1e names vals) n a=ea at *
    obtain ⟨va,ta⟩:=ea;have hO:=z4c x.op va;generalize X.avs x.kids=ks at *
    cases ta;all_goals
     simp only [cond_true,cond_false];generalize z2m x.op va=ov at *
     repeat' (first|((first|(refine iM fun _=>?_)|(refine IdxK.at (k:=0) rfl hg0 rfl ?_)|refine cP hA ?_|refine cP hO ?_|refine Br.tt ?_|refine Br.ff ?_);conv=>whnf)|(apply bD<;>intro _<;>first|omega|conv=>whnf))
     all_goals first
      | contradiction
      | exact QB rfl (Sub.refl _)
      | exact QB rfl (Sub.ff rfl)
      | (exfalso;omega)
   ·have hA:=ih a ha names vals;have hB:=ih b hb names vals;have e:evN (q1e names vals) (n+1) x=bif (evN (q1e names vals) n a).2 then (if x.op=16∧(evN (q1e names vals) n a).1=0 then (0,true) else if x.op=17∧(evN (q1e names vals) n a).1≠0 then (1,true) else bif (evN (q1e names vals) n b).2 then w0j x.op (evN (q1e names vals) n a).1 (evN (q1e names vals) n b).1 else (0,false)) else (0,false):=by rw [evN,if_neg h1,if_neg h2,hk]
    rw [e];have hg0:(X.avs x.kids)[0]? = some (.agg a.cells):=by rw [hk,X.avs_eq];rfl
    have hg1:(X.avs x.kids)[1]? = some (.agg b.cells):=by rw [hk,X.avs_eq];rfl
    have hkl:(X.avs x.kids).length=2:=by rw [hk,X.avs_eq];rfl
    generalize evN (q1e names vals) n a=ea at *
    generalize evN (q1e names vals) n b=eb at *
    obtain ⟨va,ta⟩:=ea;obtain ⟨vb,tb⟩:=eb;have hO:=z4a x.op va vb;have hT:=x5i va;have hTe:(va != 0) = !decide (va=0):=by by_cases h:va=0<;>simp [h]
    rw [hTe] at hT;generalize X.avs x.kids=ks at *
    generalize w0j x.op va vb=ov at *
    cases ta<;>cases tb;all_goals
     simp only [cond_true,cond_false];by_cases h16:x.op=16∧va=0
     ·first
       | rw [if_pos h16]
       | skip
      repeat' (first|((first|(refine iM fun _=>?_)|(refine IdxK.at (k:=0) rfl hg0 rfl ?_)|(refine IdxK.at (k:=1) rfl hg1 rfl ?_)|refine cP hA ?_|refine cP hB ?_|refine cP hO ?_|refine cP hT ?_|refine Br.tt ?_|refine Br.ff ?_);conv=>whnf)|(apply bD<;>intro _<;>first|omega|conv=>whnf)|(apply bN<;>intro _<;>conv=>whnf))
      all_goals first
       | contradiction
       | exact QB rfl (Sub.tt rfl)
       | exact QB rfl (Sub.ff rfl)
       | (exfalso;omega)
       | (exfalso;have hh:(!decide (va=0))=true:=(by assumption);simp at hh;omega)
       | (exfalso;have hh:(!decide (va=0))=false:=(by assumption);simp at hh;omega)
     by_cases h17:x.op=17∧va≠0
     ·first
       | rw [if_neg h16,if_pos h17]
       | skip
      repeat' (first|((first|(refine iM fun _=>?_)|(refine IdxK.at (k:=0) rfl hg0 rfl ?_)|refine cP hA ?_|refine cP hT ?_|refine Br.tt ?_|refine Br.ff ?_);conv=>whnf)|(apply bD<;>intro _<;>first|omega|conv=>whnf)|(apply bE<;>intro _<;>first|omega|conv=>whnf))
      all_goals first
       | contradiction
       | exact QB rfl (Sub.tt rfl)
       | exact QB rfl (Sub.ff rfl)
       | (exfalso;omega)
       | (exfalso;have hh:(!decide (va=0))=true:=(by assumption);simp at hh;omega)
       | (exfalso;have hh:(!decide (va=0))=false:=(by assumption);simp at hh;omega)
     first
      | rw [if_neg h16,if_neg h17]
      | skip
     repeat' (first|((first|(refine iM fun _=>?_)|(refine IdxK.at (k:=0) rfl hg0 rfl ?_)|(refine IdxK.at (k:=1) rfl hg1 rfl ?_)|refine cP hA ?_|refine cP hB ?_|refine cP hO ?_|refine cP hT ?_|refine Br.tt ?_|refine Br.ff ?_);conv=>whnf)|(apply bD<;>intro _<;>first|omega|conv=>whnf)|(apply bE<;>intro _<;>first|omega|conv=>whnf)|(apply bN<;>intro _<;>conv=>whnf))
     all_goals first
      | contradiction
      | exact QB rfl (Sub.refl _)
      | exact QB rfl (Sub.ff rfl)
      | (exfalso;omega)
      | (exfalso;have hh:(!decide (va=0))=true:=(by assumption);simp at hh;omega)
      | (exfalso;have hh:(!decide (va=0))=false:=(by assumption);simp at hh;omega)
theorem z7p (x:X) (names:List Str) (vals:List Int):SpecP Tryz.prog 296 [.agg x.cells,QS names,QO vals] (fun r=>r=z6v (evX (q1e names vals) x)):=by
 refine sB z0e Tryz.func296 rfl Tryz.call296 ?_;conv=>whnf
 have hM:=KS x;unfold evX;cases hm:z2p x with
 | false =>
   rw [hm] at hM;repeat' ((first|refine cP hM ?_|refine Br.tt ?_);conv=>whnf)
   all_goals first
    | contradiction
    | exact QB rfl (Sub.ff rfl)
 | true =>
   have hE:=z7d 20 x hm names vals;rw [hm] at hM;rw [cond_true];generalize evN (q1e names vals) 20 x=ev at *
   repeat' ((first|refine cP hM ?_|refine cP hE ?_|refine Br.ff ?_);conv=>whnf)
   all_goals first
    | contradiction
    | exact QB rfl (Sub.refl _)
end Go.Ab
