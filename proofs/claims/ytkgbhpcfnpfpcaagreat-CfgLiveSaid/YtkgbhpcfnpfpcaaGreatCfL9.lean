/- tree, flat, scope: the names of an expression, of a statement; what a name is. -/
import Derived.Test.YtkgbhpcfnpfpcaaGreatCfL8
set_option linter.unusedSimpArgs false
set_option linter.unusedVariables false
set_option maxRecDepth 100000
set_option maxHeartbeats 16000000
open List (drop_eq_nil_of_le drop_zero length_append length_cons length_map mem_cons_self nil_append take_of_length_le)
open Nat (zero_le)
namespace Go.Ab
open Go.Proofs
theorem DB {es:List AV} {n:Nat} {K:Prop} (xs:List Str) (hn:n=es.length) (hb:es.length+xs.length<=8796093022208) (hK:K):AppK es (xs.map .str) n (xs.map AV.str).length 1 16 K :=
 .mk hn rfl (by rw [hn];simp;omega) (by rw [hn];simp [maxLen];omega) (fun x hx=>by obtain ⟨y,_,rfl⟩:=List.mem_map.1 hx;exact ⟨rfl,rfl⟩) hK
theorem WP {es:List AV} {n:Nat} {K:Prop} {s:Str} (hn:n=es.length) (hb:es.length<=8796093022000) (hK:K):AppK es [.str s] n 1 1 16 K :=
 .mk hn rfl (by omega) (by simp only [maxLen];omega) (fun x hx=>by rcases List.mem_singleton.1 hx with rfl;exact ⟨rfl,rfl⟩) hK
theorem UD {es:List AV} {n:Nat} {K:Prop} {s:Int} (hn:n=es.length) (hb:es.length<=8796093022000) (hK:K):AppK es [.int .i64 s] n 1 1 8 K :=
 .mk hn rfl (by omega) (by simp only [maxLen];omega) (fun x hx=>by rcases List.mem_singleton.1 hx with rfl;exact ⟨rfl,rfl⟩) hK
mutual
def q8c:X->List Str->List Str
 | .mk op _ name kids,out=>JA kids (if op=2∧(out.any fun s=>name==s)=false then out++[name] else out)
def JA:List X->List Str->List Str
 | [],out=>out
 | x::r,out=>JA r (q8c x out)
end
theorem x0u (x:X) (out:List Str):q8c x out=JA x.kids (if x.op=2∧(out.any fun s=>x.name==s)=false then out++[x.name] else out):=by
 cases x;rw [q8c];rfl
theorem x4v {l:List X} {j:Nat} {out:List Str} (hj:j<l.length):JA (l.drop j) out=JA (l.drop (j+1)) (q8c l[j] out):=by
 rw [QJ hj,JA]
theorem x6g {l:List X} {j:Nat} {out:List Str} (hj:l.length<=j):JA (l.drop j) out=out:=by
 rw [drop_eq_nil_of_le hj,JA]
theorem DS {n:Nat} {x:X} (h:ZK (n+1) x=true):x.kids.length<=2∧(x.op=2->x.kids.length=0) ∧ ∀ k∈x.kids,ZK n k=true:=by
 rw [ZK] at h;simp only [Bool.and_eq_true,decide_eq_true_eq] at h;obtain ⟨h1,h2⟩:=h;refine ⟨?_,fun he => ?_,?_⟩
 ·unfold NV at h1;(repeat' split at h1)<;>omega
 ·unfold NV at h1;rw [if_pos (by omega)] at h1;omega
 ·by_cases h3:x.op=1
  ·have:x.kids.length=0:=by unfold NV at h1;rw [if_pos (by omega)] at h1;omega
   rw [List.eq_nil_of_length_eq_zero this];simp
  ·by_cases h4:x.op=2
   ·have:x.kids.length=0:=by unfold NV at h1;rw [if_pos (by omega)] at h1;omega
    rw [List.eq_nil_of_length_eq_zero this];simp
   ·rw [if_neg h3,if_neg h4] at h2;simp only [Bool.and_eq_true] at h2;exact List.all_eq_true.1 h2.2
theorem x6b : ∀ (n:Nat) (x:X) (out:List Str),ZK n x=true->out.length<=(q8c x out).length∧(q8c x out).length<=out.length+2 ^ n:=by
 intro n;induction n with
 | zero=>intro x out h;rw [ZK] at h;cases h
 | succ n ih =>
   intro x out h;obtain ⟨h1,h2,h3⟩:=DS h;have key : ∀ (l:List X) (o:List Str),(∀ k∈l,ZK n k=true)->o.length<=(JA l o).length∧(JA l o).length<=o.length+l.length*2 ^ n:=by
    intro l;induction l with
    | nil=>intro o _;simp [JA]
    | cons k r ihl =>
      intro o hk;rw [JA];have h5:=ih k o (hk k (by simp));have h6:=ihl (q8c k o) fun k hk'=>hk k (by simp [hk']);simp only [length_cons,Nat.add_mul,Nat.one_mul];omega
   rw [x0u];have hp:2 ^ (n+1)=2*2 ^ n:=by rw [Nat.pow_succ];omega
   have hpos:0<2 ^ n:=Nat.pow_pos (by decide);have h4:=key x.kids (if x.op=2∧(out.any fun s=>x.name==s)=false then out++[x.name] else out) h3;have h5:x.kids.length*2 ^ n<=2*2 ^ n:=Nat.mul_le_mul_right _ h1;split at h4
   ·rename_i hc;have:=h2 hc.1;rw [this] at h4;rw [if_pos hc];simp only [length_append,List.length_singleton] at h4;omega
   ·rename_i hc;rw [if_neg hc];omega
def x5d (t:Nat) (out:List Str):Heap:=[(2000,.own t 1 (out.map .str))]
theorem q9e : ∀ (n:Nat) (_:n<=20) (x:X) (_:ZK n x=true) (out:List Str) (_:out.length+2 ^ n<=1073741824),
  SpecH Tryz.prog 278 [.p (.agg x.cells),.hd 2000 0 out.length] (x5d 9 out) (fun r H=>r = .hd 2000 0 (q8c x out).length∧H=x5d 9 (q8c x out)):=by
 intro n;induction n with
 | zero=>intro _ x h;rw [ZK] at h;cases h
 | succ n ih =>
   intro hn x hx out ho;have hp:2 ^ (n+1)=2*2 ^ n:=by rw [Nat.pow_succ];omega
   have hpos:0<2 ^ n:=Nat.pow_pos (by decide);obtain ⟨hk1,hk2,hk3⟩:=DS hx;have hxl:=X.avs_len x.kids;refine sH q3n Tryz.func278 rfl Tryz.call278 ?_;conv=>whnf
   repeat' (first|((first|(refine iM fun _=>?_)|refine And.intro rfl ?_|refine aD ?_|refine bP ?_|(refine XQ (QQ out x.name) (.cons (.hd rfl (by simp)) (.cons (.p (Sub.refl _)) .nil)) (by rintro _ rfl;rfl) ?_;rintro _ rfl)|refine AppK.mk (by simp) rfl (by show (out.length+1)*16<=140737488355328;omega) (by show out.length+1<=9223372036854775807;omega) (fun x hx=>by rcases List.mem_singleton.1 hx with rfl;exact ⟨rfl,rfl⟩) ?_);conv=>whnf)|(apply bD<;>intro _<;>first|omega|conv=>whnf)|(apply bN<;>intro _<;>conv=>whnf))
   all_goals
    have hmul : ∀ j,j<x.kids.length->(x.kids.length-j)*2 ^ n=(x.kids.length-(j+1))*2 ^ n+2 ^ n:=fun j hj=>by
     rw [show x.kids.length-j=(x.kids.length-(j+1))+1 by omega,Nat.add_mul,Nat.one_mul]
    have hmul0:x.kids.length*2 ^ n<=2*2 ^ n:=Nat.mul_le_mul_right _ hk1;first
    | refine LoopK.inv QY (fun i:Nat×List Str=>⟨[(1,.hd 2000 0 i.2.length),(23,.p (.sl (X.avs x.kids))),(24,.p (.int .i64 (X.avs x.kids).length)),(25,.p (.int .i64 i.1))],x5d 9 i.2⟩) (fun i=>i.1<=x.kids.length∧JA (x.kids.drop i.1) i.2=q8c x out∧i.2.length+(x.kids.length-i.1)*2 ^ n<=1073741824) (fun i=>x.kids.length-i.1) (0,out++[x.name]) (Le.of_eq (by simp [x5d];exact ⟨rfl,rfl⟩)) ⟨zero_le _,by simp only [drop_zero];rw [x0u,if_pos ⟨by assumption,by assumption⟩],by have:=hk2 (by assumption);simp [this];omega⟩ ?_
    | refine LoopK.inv QY (fun i:Nat×List Str=>⟨[(1,.hd 2000 0 i.2.length),(23,.p (.sl (X.avs x.kids))),(24,.p (.int .i64 (X.avs x.kids).length)),(25,.p (.int .i64 i.1))],x5d 9 i.2⟩) (fun i=>i.1<=x.kids.length∧JA (x.kids.drop i.1) i.2=q8c x out∧i.2.length+(x.kids.length-i.1)*2 ^ n<=1073741824) (fun i=>x.kids.length-i.1) (0,out) (Le.of_eq rfl) ⟨zero_le _,by simp only [drop_zero];rw [x0u,if_neg (by simp [*])],by simp only [Nat.sub_zero];omega⟩ ?_
    rintro ⟨j,acc⟩ ⟨h2,h3,h4⟩;simp only at h2 h3 h4 ⊢;conv=>whnf
    repeat' (first|((first|refine And.intro rfl ?_|refine IdxK.xs (by omega) ?_);conv=>whnf)|(apply bD<;>intro _<;>first|omega|conv=>whnf))
    all_goals first
     | (rw [x6g (by omega)] at h3
        exact ⟨_,.refl _,by rw [h3];exact ⟨rfl,rfl⟩⟩)
     | (have hj:j<x.kids.length:=by omega
        have hm:=hmul j hj;have hg:=x6b n x.kids[j] acc (hk3 _ (List.getElem_mem hj));refine CallK.heap [(2000,2000)] 0 (by repeat' (first|exact ArgsH.nil|refine ArgsH.cons ?_ ?_|exact LSub.refl _|exact LSub.p Sub.nils|exact LSub.p (Sub.tt rfl)|exact LSub.p (Sub.ff rfl)|exact LSub.p (Sub.int (by omega)))) (by refine BlksH.cons (j:=2000) rfl rfl ?_ ?_;exact CSub.refl _;exact BlksH.nil) (ih (by omega) x.kids[j] (hk3 _ (List.getElem_mem hj)) acc (by omega)) rfl rfl ?_;rintro l' H' ⟨rfl,rfl⟩;conv=>whnf
        refine wI ?_;conv=>whnf
        exact ⟨(j+1,q8c x.kids[j] acc),⟨by simp only;omega,by simp only;rw [<- h3,x4v hj],by simp only;omega⟩,by simp only;omega,Le.of_eq rfl⟩)
def VN (x:X):List Str:=bif x9r x then q8c x [] else []
theorem KT (x:X):(VN x).length<=1048576:=by
 unfold VN;cases h:x9r x with
 | false=>simp
 | true =>
   have:=(x6b 20 x [] h).2;simpa using this
theorem q2g (x:X):SpecP Tryz.prog 211 [.agg x.cells] (fun r=>r=QL (VN x)):=by
 refine sB q7s Tryz.func211 rfl Tryz.call211 ?_;conv=>whnf
 repeat' (first|(refine cP (KJ _) ?_;conv=>whnf)|(apply bN<;>intro _<;>conv=>whnf))
 ·refine CallK.nil 5 9 1 rfl (.cons rfl (.row .nil)) ?_;refine CallK.heap [(2000,5)] 0 (by repeat' (first|exact ArgsH.nil|refine ArgsH.cons ?_ ?_|exact LSub.refl _|exact LSub.p Sub.nils|exact LSub.p (Sub.tt rfl)|exact LSub.p (Sub.ff rfl)|exact LSub.p (Sub.int (by omega)))) (by refine BlksH.cons (j:=5) rfl rfl ?_ ?_;exact CSub.refl _;exact BlksH.nil) (q9e 20 (by omega) x (by assumption) [] (by simp)) rfl rfl ?_;rintro l' H' ⟨rfl,rfl⟩;conv=>whnf
  refine ⟨_,.hd rfl (by simp),?_⟩;unfold VN;rw [show x9r x=true by assumption];rfl
 ·refine ⟨_,.p Sub.nils,?_⟩;unfold VN;rw [show x9r x=false by assumption];rfl
def YN (a:Arg):List Str:=(bif a.ref then [a.name] else [])++VN a.x
def GF (t:S):List Str:=(bif t.kind≠10 && !(t.name==[]) then [t.name] else [])++VN t.x
def ZQ (t:S):List Str:=GF t++t.args.flatMap YN
theorem x3w (a:Arg):(YN a).length<=1048577:=by
 have:=KT a.x;unfold YN;cases a.ref<;>simp<;>omega
theorem x3x (t:S):(GF t).length<=1048577:=by
 have:=KT t.x;unfold GF;cases (t.kind≠10 && !(t.name==[]):Bool)<;>simp<;>omega
theorem MZ {α β:Type} {f:α->List β} {c:Nat} (h : ∀ a,(f a).length<=c) : ∀ l:List α,(l.flatMap f).length<=l.length*c
 | []=>by simp
 | x::r=>by
   have:=MZ h r;have:=h x;simp only [List.flatMap_cons,length_append,length_cons,Nat.add_mul,Nat.one_mul];omega
def x3p (t:S) (j:Nat):List Str:=GF t++(t.args.take j).flatMap YN
theorem z1a (t:S) {j:Nat} (h:j<=t.args.length) (ha:t.args.length<=20000):(x3p t j).length<=21000000000:=by
 have h1:=x3x t;have h2:=MZ x3w (t.args.take j);have h3:(t.args.take j).length*1048577<=20000*1048577:=Nat.mul_le_mul_right _ (by simp;omega);unfold x3p;simp only [length_append];omega
theorem x6m {t:S} {j:Nat} (hj:j<t.args.length):x3p t (j+1)=x3p t j++YN t.args[j]:=by
 unfold x3p;rw [List.take_succ_eq_append_getElem hj,List.flatMap_append,List.append_assoc];simp
def q2d (t:S) (tS:Nat) (j:Nat):St:=⟨[(3,.hd 0 0 (x3p t j).length),(25,.p (.sl (t.args.map fun a => .agg a.cells))),(26,.p (.int .i64 (t.args.map fun a=>AV.agg a.cells).length)),(27,.p (.int .i64 j))],[(0,.own tS 1 ((x3p t j).map .str))]⟩
theorem q1c (t:S) (ha:t.args.length<=20000):SpecP Tryz.prog 273 [.agg t.cells] (fun r=>r=QL (ZQ t)):=by
 refine sB q7n Tryz.func273 rfl Tryz.call273 ?_;conv=>whnf
 repeat' (first|((first|(refine iM fun _=>?_)|refine cP (q2g _) ?_|refine And.intro rfl ?_|refine aD ?_|refine bP ?_|refine DB _ (by simp) (by have:=KT t.x;simp;omega) ?_|refine WP (by simp) (by simp) ?_);conv=>whnf)|(apply bE<;>intro _<;>first|omega|conv=>whnf)|(apply bN<;>intro _<;>conv=>whnf))
 all_goals
  have hl:(t.args.map fun a=>AV.agg a.cells).length=t.args.length:=length_map _;refine LoopK.inv QY (q2d t 9) (fun j=>j<=t.args.length) (fun j=>t.args.length-j) 0 (Le.of_eq ?_) (zero_le _) ?_
  ·first
    | (have e:x3p t 0=VN t.x:=by simp [x3p,GF,show t.kind=10 by assumption]
       rw [q2d,e];simp only [Nat.zero_add,length_map,length_append,List.map_append,nil_append];rfl)
    | (have e:x3p t 0=VN t.x:=by simp [x3p,GF,show t.name=[] by simpa using (show (t.name==[])=true by assumption)]
       rw [q2d,e];simp only [Nat.zero_add,length_map,length_append,List.map_append,nil_append];rfl)
    | (have e:x3p t 0=[t.name]++VN t.x:=by
        have:(t.name==[])=false:=by assumption
        simp [x3p,GF,show ¬t.kind=10 by assumption,this]
       rw [q2d,e];simp only [Nat.zero_add,length_map,length_append,List.map_append,nil_append];rfl)
  intro j h2;have hacc:=z1a t h2 ha;conv=>whnf
  repeat' (first|((first|refine cP (q2g _) ?_|refine And.intro rfl ?_|refine aD ?_|refine bP ?_|(refine iA fun _=>?_)|refine wI ?_|refine DB _ (by simp) (by have:=KT (t.args[j]'(by omega)).x;simp;omega) ?_|refine WP (by simp) (by simp;omega) ?_);conv=>whnf)|(apply bD<;>intro _<;>first|omega|conv=>whnf)|(apply bB<;>intro _<;>conv=>whnf))
  all_goals first
   | exact ⟨_,.hd rfl (by simp),by
      have:t.args.take j=t.args:=take_of_length_le (by omega);rw [ZQ,<- this];rfl⟩
   | (have hj:j<t.args.length:=by omega
      have hst:=x6m hj;refine ⟨j+1,by show j+1<=_;omega,by show t.args.length-(j+1)<t.args.length-j;omega,Le.of_eq ?_⟩;first
       | (have hn:YN t.args[j]=[t.args[j].name]++VN t.args[j].x:=by rw [YN,show t.args[j].ref=true by assumption];rfl
          rw [q2d,hst,hn];simp only [length_append,List.map_append,length_map,<- List.append_assoc,<- Nat.add_assoc];rfl)
       | (have hn:YN t.args[j]=VN t.args[j].x:=by rw [YN,show t.args[j].ref=false by assumption];rfl
          rw [q2d,hst,hn];simp only [length_append,List.map_append,length_map];rfl))
def x9l:List Str->Nat
 | []=>0
 | s::r=>1+x9l r
mutual
def wX:X->Nat
 | .mk _ _ name kids=>1+wXs kids
def wXs:List X->Nat
 | []=>0
 | x::r=>wX x+wXs r
end
def q3k:List Arg->Nat
 | []=>0
 | a::r=>wX a.x+1+q3k r
mutual
def wS:S->Nat
 | .mk _ _ labels name proc x _ args thn els=>wX x+x9l labels+1+1+q3k args+wL thn+wL els
def wL:List S->Nat
 | []=>0
 | s::r=>wS s+wL r
end
def z7s:List Param->Nat
 | []=>0
 | a::r=>1+z7s r
def wPr (f:Pr):Nat:=1+x9l f.vars+x9l f.fin+z7s f.params+wL f.body
def z6u:List Pr->Nat
 | []=>0
 | f::r=>wPr f+z6u r
def wPg (p:Pg):Nat:=x9l p.globals+z6u p.procs
def Fit (p:Pg):Prop:=wPg p<=20000
theorem q5y : ∀ l:List Str,l.length<=x9l l
 | []=>zero_le _
 | s::r=>by have:=q5y r;simp only [length_cons,x9l];omega
theorem FS : ∀ l:List Arg,l.length<=q3k l
 | []=>zero_le _
 | s::r=>by have:=FS r;simp only [length_cons,q3k];omega
theorem x7s (s:S):wS s=wX s.x+x9l s.labels+1+1+q3k s.args+wL s.thn+wL s.els:=by
 cases s;rw [wS];rfl
mutual
theorem z6l : ∀ s:S,WV s<=wS s
 | .mk id kind labels name proc x has args thn els=>by
   have:=x2p thn;have:=x2p els;rw [WV,wS];omega
theorem x2p : ∀ l:List S,QF l<=wL l
 | []=>by rw [QF,wL];exact Nat.le_refl _
 | s::r=>by
   have:=z6l s;have:=x2p r;rw [QF,wL];omega
end
theorem x7y : ∀ {l:List Pr} {f:Pr},f∈l->wPr f<=z6u l
 | g::r,f,h=>by
   simp only [z6u];rcases List.mem_cons.1 h with rfl|h
   ·omega
   ·have:=x7y h;omega
theorem Fit.pr {p:Pg} (h:Fit p) {f:Pr} (hf:f∈p.procs):wPr f<=20000:=by
 have:=x7y hf;unfold Fit wPg at h;omega
mutual
def flS:S->List S
 | .mk id kind labels name proc x has args thn els => .mk id kind labels name proc x has args thn els::(flL thn++flL els)
def flL:List S->List S
 | []=>[]
 | s::r=>flS s++flL r
end
theorem z6h (s:S):flS s=s::(flL s.thn++flL s.els):=by
 cases s;rw [flS];rfl
mutual
theorem z4a : ∀ s:S,(flS s).length=WV s
 | .mk id kind labels name proc x has args thn els=>by
   rw [flS,WV,length_cons,length_append,LF thn,LF els];omega
theorem LF : ∀ l:List S,(flL l).length=QF l
 | []=>by rw [flL,QF];rfl
 | s::r=>by rw [flL,QF,length_append,z4a s,LF r]
end
mutual
theorem z8j : ∀ (s t:S),t∈flS s->wS t<=wS s
 | .mk id kind labels name proc x has args thn els,t,h=>by
   rw [flS] at h;rcases List.mem_cons.1 h with rfl|h
   ·exact Nat.le_refl _
   ·rw [wS];rcases List.mem_append.1 h with h|h
    ·have:=q8a thn t h;omega
    ·have:=q8a els t h;omega
theorem q8a : ∀ (l:List S) (t:S),t∈flL l->wS t<=wL l
 | [],t,h=>by rw [flL] at h;cases h
 | s::r,t,h=>by
   rw [flL] at h;rw [wL];rcases List.mem_append.1 h with h|h
   ·have:=z8j s t h;omega
   ·have:=q8a r t h;omega
end

mutual
def itS (proc up nx loop:Int) (n:Nat):S->List Item
 | .mk id kind labels name pr x has args thn els =>
   ⟨.mk id kind labels name pr x has args thn els,proc,up,nx,loop⟩::(itL proc (n+1) (if kind=6 then n+1 else nx) (if kind=6 then n+1 else loop) (n+1) thn ++
     itL proc (n+1) (if kind=6 then n+1 else nx) (if kind=6 then n+1 else loop) (n+1+QF thn) els)
def itL (proc up nx loop:Int) (n:Nat):List S->List Item
 | []=>[]
 | t::r=>itS proc up (if r.isEmpty then nx else n+1+WV t) loop n t++itL proc up nx loop (n+WV t) r
end
mutual
theorem z4b (proc up nx loop:Int) : ∀ (t:S) (acc:List Item),NM proc up nx loop acc t=acc++itS proc up nx loop acc.length t
 | .mk id kind labels name pr x has args thn els,acc=>by
   rw [NM,itS,FZ _ _ _ _ thn,FZ _ _ _ _ els];simp only [length_append,length_cons,List.length_nil,List.append_assoc,List.cons_append,nil_append,XI proc _ _ _ _ thn,Nat.zero_add,Nat.add_assoc,Nat.add_comm (QF thn) 1]
theorem FZ (proc up nx loop:Int) : ∀ (l:List S) (acc:List Item),XU proc up nx loop acc l=acc++itL proc up nx loop acc.length l
 | [],acc=>by rw [XU,itL,List.append_nil]
 | t::r,acc=>by
   rw [XU,itL,z4b _ _ _ _ t,FZ _ _ _ _ r];simp only [length_append,List.append_assoc,x6s proc _ _ _ _ t]
theorem x6s (proc up nx loop:Int) (n:Nat) : ∀ t:S,(itS proc up nx loop n t).length=WV t
 | .mk id kind labels name pr x has args thn els=>by
   rw [itS,WV,length_cons,length_append,XI _ _ _ _ _ thn,XI _ _ _ _ _ els];omega
theorem XI (proc up nx loop:Int) (n:Nat) : ∀ l:List S,(itL proc up nx loop n l).length=QF l
 | []=>by rw [itL,QF];rfl
 | t::r=>by rw [itL,QF,length_append,x6s _ _ _ _ _ t,XI _ _ _ _ _ r]
end
mutual
theorem z8n (proc up nx loop:Int) (n:Nat) : ∀ t:S,(itS proc up nx loop n t).map Item.s=flS t
 | .mk id kind labels name pr x has args thn els=>by
   rw [itS,flS,List.map_cons,List.map_append,BU _ _ _ _ _ thn,BU _ _ _ _ _ els]
theorem BU (proc up nx loop:Int) (n:Nat) : ∀ l:List S,(itL proc up nx loop n l).map Item.s=flL l
 | []=>by rw [itL,flL];rfl
 | t::r=>by rw [itL,flL,List.map_append,z8n _ _ _ _ _ t,BU _ _ _ _ _ r]
end
def QT:List Pr->Nat->Nat
 | _,0=>0
 | [],_+1=>0
 | f::r,i+1=>QF f.body+QT r i
theorem q6m : ∀ (l:List Pr) (i:Nat) (acc:List Item) (lo hi:List Int),lo.length=i->hi.length=i ->
  (q0t i acc lo hi l).2.1.length=i+l.length∧(q0t i acc lo hi l).2.2.length=i+l.length ∧
  (∀ k,k<i->(q0t i acc lo hi l).2.1[k]? = lo[k]? ∧ (q0t i acc lo hi l).2.2[k]? = hi[k]?) ∧ ∃ L,(q0t i acc lo hi l).1=acc++L∧L.length=WR l ∧
  ∀ (k:Nat) (f:Pr),l[k]? = some f->(q0t i acc lo hi l).2.1[i+k]? = some ((acc.length+QT l k:Nat)+1:Int)∧(q0t i acc lo hi l).2.2[i+k]? = some ((acc.length+QT l k+QF f.body:Nat)+1:Int) ∧
   QT l k+QF f.body<=WR l∧(L.take (QT l k+QF f.body)).drop (QT l k)=itL (i+k:Nat) 0 (-1) 0 (acc.length+QT l k) f.body
 | [],i,acc,lo,hi,h1,h2=>by
   rw [q0t];exact ⟨by simpa using h1,by simpa using h2,fun _ _=>⟨rfl,rfl⟩,[],by simp,rfl,fun k f h=>by simp at h⟩
 | f::r,i,acc,lo,hi,h1,h2=>by
   rw [q0t];have hrow:=FZ i 0 (-1) 0 f.body acc;have hlen:=XZ i 0 (-1) 0 acc f.body;obtain ⟨h3,h4,h5,L,h6,h7,h8⟩:=q6m r (i+1) (XU i 0 (-1) 0 acc f.body) (lo++[(acc.length:Int)+1]) (hi++[((XU i 0 (-1) 0 acc f.body).length:Int)+1]) (by simp [h1]) (by simp [h2]);refine ⟨by rw [h3,length_cons];omega,by rw [h4,length_cons];omega,fun k hk => ?_,itL i 0 (-1) 0 acc.length f.body++L,?_,?_,fun k g hg => ?_⟩
   ·obtain ⟨h9,h10⟩:=h5 k (by omega);rw [h9,h10,List.getElem?_append_left (by omega),List.getElem?_append_left (by omega)];exact ⟨rfl,rfl⟩
   ·rw [h6,hrow,List.append_assoc]
   ·rw [length_append,h7,XI,WR]
   ·cases k with
    | zero =>
      simp only [List.getElem?_cons_zero,Option.some.injEq] at hg;subst hg;obtain ⟨h9,h10⟩:=h5 i (by omega);simp only [Nat.add_zero,QT,Nat.zero_add,drop_zero];refine ⟨?_,?_,?_,?_⟩
      ·rw [h9,List.getElem?_append_right (by omega),h1];simp
      ·rw [h10,List.getElem?_append_right (by omega),h2,hlen];simp
      ·rw [WR];omega
      ·rw [List.take_append_of_le_length (by rw [XI];omega),take_of_length_le (by rw [XI];omega)]
    | succ k =>
      simp only [List.getElem?_cons_succ] at hg;obtain ⟨h9,h10,h11,h12⟩:=h8 k g hg;rw [hlen] at h12;simp only [QT];refine ⟨?_,?_,?_,?_⟩
      ·rw [show i+(k+1)=i+1+k by omega,h9,hlen];congr 2;omega
      ·rw [show i+(k+1)=i+1+k by omega,h10,hlen];congr 2;omega
      ·rw [WR];omega
      ·rw [List.take_append,List.drop_append,XI,take_of_length_le (by rw [XI];omega),drop_eq_nil_of_le (by rw [XI];omega),nil_append];simp only [XI];rw [show QF f.body+QT r k+QF g.body-QF f.body=QT r k+QF g.body by omega,show QF f.body+QT r k-QF f.body=QT r k by omega,h12];rw [show i+(k+1)=i+1+k by omega,show acc.length+(QF f.body+QT r k)=acc.length+QF f.body+QT r k by omega]
theorem QU (p:Pg):(sheetOf p).p=p∧(sheetOf p).lo.length=p.procs.length∧(sheetOf p).hi.length=p.procs.length∧(sheetOf p).l.length=WR p.procs ∧
  ∀ (k:Nat) (f:Pr),p.procs[k]? = some f->(sheetOf p).lo[k]? = some ((QT p.procs k:Nat)+1:Int)∧(sheetOf p).hi[k]? = some ((QT p.procs k+QF f.body:Nat)+1:Int) ∧
   QT p.procs k+QF f.body<=WR p.procs∧((sheetOf p).l.take (QT p.procs k+QF f.body)).drop (QT p.procs k)=itL k 0 (-1) 0 (QT p.procs k) f.body:=by
 obtain ⟨h3,h4,_,L,h6,h7,h8⟩:=q6m p.procs 0 [] [] [] rfl rfl;refine ⟨rfl,by unfold sheetOf;simpa using h3,by unfold sheetOf;simpa using h4,by unfold sheetOf;simp [h6,h7],fun k f hk => ?_⟩;have:=h8 k f hk;unfold sheetOf;simp only [h6,nil_append,List.length_nil,Nat.zero_add] at this ⊢;exact this
mutual
theorem x1z (nest seen:Int) : ∀ (s:S) {m:Int},q7i nest seen s=some m->m=seen+WV s
 | .mk id kind labels name proc x has args thn els,m,h=>by
   simp only [q7i] at h;split at h
   ·cases h
   split at h
   ·cases h
   cases hn:namesB labels<;>rw [hn] at h
   ·cases h
   cases hf:WJ (.mk id kind labels name proc x has args thn els)<;>rw [hf] at h
   ·cases h
   simp only [cond_true] at h;split at h
   ·rename_i m1 h1;have h2:=UR (nest+1) (seen+1) thn h1;have h3:=UR (nest+1) m1 els h;rw [WV];omega
   ·cases h
theorem UR (nest seen:Int) : ∀ (l:List S) {m:Int},UB nest seen l=some m->m=seen+QF l
 | [],m,h=>by
   simp only [UB] at h;cases h;rw [QF];simp
 | s::r,m,h=>by
   simp only [UB] at h;split at h
   ·cases h
   split at h
   ·rename_i m1 h1;have h2:=x1z nest seen s h1;have h3:=UR nest m1 r h;rw [QF];omega
   ·cases h
end
theorem q2z : ∀ (l:List Pr) {seen m:Int},seen<=200->XN seen l=some m->m=seen+WR l∧m<=200
 | [],seen,m,h0,h=>by rw [XN] at h;cases h;simp [WR];exact h0
 | f::r,seen,m,h0,h=>by
   rw [XN] at h;cases hm:GV f<;>rw [hm] at h
   ·cases h
   simp only [cond_true] at h;split at h
   ·rename_i m1 h1;have h2:=UR 1 seen f.body h1;have h3:=MD 1 seen f.body h0 h1;have h4:=q2z r (by omega) h;rw [WR];omega
   ·cases h
theorem ZC {p:Pg} (h:KI p=true):p.globals.length<=16∧p.procs.length<=16∧WR p.procs<=200:=by
 unfold KI at h;simp only [Bool.and_eq_true,decide_eq_true_eq] at h;obtain ⟨⟨⟨h1,h2⟩,_⟩,h3⟩:=h;cases hm:XN 0 p.procs with
 | none=>rw [hm] at h3;cases h3
 | some m =>
   have:=q2z p.procs (by decide) hm;omega
theorem x8y {p:Pg} (h:KI p=true) {f:Pr} (hf:f∈p.procs):GV f=true:=by
 unfold KI at h;simp only [Bool.and_eq_true] at h;have h3:=h.2;have key : ∀ (l:List Pr) (seen:Int),(XN seen l).isSome=true -> ∀ f∈l,GV f=true:=fun l=>by
  induction l with
  | nil=>intro _ _ f hf;cases hf
  | cons g r ih =>
    intro seen h f hf;rw [XN] at h;cases hm:GV g<;>rw [hm] at h
    ·cases h
    simp only [cond_true] at h;split at h
    ·rename_i m1 h1;rcases List.mem_cons.1 hf with rfl|hf
     ·exact hm
     ·exact ih _ h f hf
    ·cases h
 exact key _ _ h3 f hf
def NJ (p:Pg) (f:Pr) (name:Str):Int :=
 match f.params.find? (fun a=>a.name==name) with
 | some a=>bif a.ref then 3 else 2
 | none=>bif f.vars.any (fun s=>name==s) then 4 else bif p.globals.any (fun s=>name==s) then 1 else 0
theorem BX {α:Type} {l:List α} {p:α->Bool} {j:Nat} (hj:j<l.length) (h:p l[j]=false):(l.drop (j+1)).find? p=(l.drop j).find? p:=by
 rw [QJ hj,List.find?_cons,h]
theorem KO {α:Type} {l:List α} {p:α->Bool} {j:Nat} (hj:j<l.length) (h:p l[j]=true):(l.drop j).find? p=some l[j]:=by
 rw [QJ hj,List.find?_cons,h]
theorem KC {α:Type} {l:List α} {p:α->Bool} {j:Nat} (hj:l.length<=j):(l.drop j).find? p=none:=by
 rw [drop_eq_nil_of_le hj];rfl
theorem x3q (p:Pg) (f:Pr) (name:Str):SpecP Tryz.prog 123 [.agg p.cells,.agg f.cells,.str name] (fun r=>r = .int .i64 (NJ p f name)):=by
 refine sB q7v Tryz.func123 rfl Tryz.call123 ?_;conv=>whnf
 repeat' (refine iM fun _=>?_;conv=>whnf)
 have hl:(f.params.map fun a=>AV.agg a.cells).length=f.params.length:=length_map _;refine LoopK.inv QY (fun j:Nat=>⟨[(2,.p (.str name)),(3,.p (.ip p.cells)),(4,.p (.ip f.cells)),(10,.p (.sl (f.params.map fun a => .agg a.cells))),(11,.p (.int .i64 (f.params.map fun a=>AV.agg a.cells).length)),(12,.p (.int .i64 j))],[]⟩) (fun j=>j<=f.params.length∧(f.params.drop j).find? (fun a=>a.name==name)=f.params.find? (fun a=>a.name==name)) (fun j=>f.params.length-j) 0 (Le.of_eq rfl) ⟨zero_le _,rfl⟩ ?_;rintro j ⟨h2,h3⟩;conv=>whnf
 repeat' (first|((first|refine cP (QQ _ _) ?_|refine And.intro rfl ?_|(refine iA fun _=>?_)|refine wI ?_);conv=>whnf)|(apply bD<;>intro _<;>first|omega|conv=>whnf)|(apply bB<;>intro _<;>conv=>whnf))
 all_goals try have hj:j<f.params.length:=by omega
 all_goals first
  | (exfalso
     have h8:((f.params[j]'(by omega)).name==name)=true:=by assumption
     have h9:((f.params[j]'(by omega)).name==name)=false:=by assumption
     rw [h8] at h9;cases h9)
  | (have e:=KO (p:=fun a:Param=>a.name==name) (by omega) (by assumption)
     rw [h3] at e;exact RetK.int (by unfold NJ;rw [e];simp [*]))
  | (refine ⟨j+1,⟨by omega,by rw [<- h3,BX (p:=fun a:Param=>a.name==name) (by omega) (by assumption)]⟩,by omega,Le.of_eq rfl⟩)
  | (have e:f.params.find? (fun a=>a.name==name)=none:=by rw [<- h3,KC (by omega)]
     exact RetK.int (by unfold NJ;rw [e];simp [*]))
def mainS:Str:=[109,97,105,110]
def UE (p:Pg) (f:Pr) (procs:List Str) (t:S):Bool:=(ZQ t).all (fun n => !(NJ p f n==0))&&(decide (t.kind≠4)||(!(t.proc==mainS)&&procs.any fun s=>t.proc==s))
theorem x0b (p:Pg) (f:Pr) (procs:List Str) (t:S) (ha:t.args.length<=20000):SpecP Tryz.prog 199 [.agg p.cells,.agg f.cells,QL procs,.agg t.cells] (fun r=>r = .bool (UE p f procs t)):=by
 refine sB q3y Tryz.func199 rfl Tryz.call199 ?_;conv=>whnf
 repeat' ((first|(refine iM fun _=>?_)|refine cP (q1c _ ha) ?_);conv=>whnf)
 have hl:((ZQ t).map AV.str).length=(ZQ t).length:=length_map _;refine LoopK.inv QY (fun j:Nat=>⟨[(2,.p (QL procs)),(4,.p (.ip p.cells)),(5,.p (.ip f.cells)),(7,.p (.ip t.cells)),(12,.p (QL (ZQ t))),(13,.p (.int .i64 ((ZQ t).map AV.str).length)),(14,.p (.int .i64 j))],[]⟩) (fun j=>j<=(ZQ t).length∧((ZQ t).drop j).all (fun n => !(NJ p f n==0))=(ZQ t).all (fun n => !(NJ p f n==0))) (fun j=>(ZQ t).length-j) 0 (Le.of_eq rfl) ⟨zero_le _,rfl⟩ ?_;rintro j ⟨h2,h3⟩;conv=>whnf
 repeat' (first|((first|refine cP (x3q _ _ _) ?_|refine cP (QQ _ _) ?_|(refine iA fun _=>?_)|refine wI ?_);conv=>whnf)|(apply bD<;>intro _<;>first|omega|conv=>whnf)|(apply bE<;>intro _<;>first|omega|conv=>whnf)|(apply bN<;>intro _<;>conv=>whnf))
 ·exact RetK.ff (by
   have e:=q2p (p:=fun n => !(NJ p f n==0)) (l:=ZQ t) (j:=j) (by omega) (by simp;assumption);rw [UE,<- h3,e,Bool.false_and])
 ·exact ⟨j+1,⟨by omega,by rw [<- h3,LQ (p:=fun n => !(NJ p f n==0)) (by omega) (by simp;assumption)]⟩,by omega,Le.of_eq rfl⟩
 all_goals
  have e:(ZQ t).all (fun n => !(NJ p f n==0))=true:=by rw [<- h3,MY (by omega)]
 ·exact RetK.ff (by
   have h8:(t.proc==mainS)=true:=by assumption
   rw [UE,e,h8];simp [*])
 ·exact RetK.bool (by
   have h8:(t.proc==mainS)=false:=by assumption
   rw [UE,e,h8];simp [*])
 ·exact RetK.tt (by rw [UE,e];simp [*])
def q1n (c at_:Int):AV := .agg [.int .i64 c,.int .i64 at_]
def QD (p:Pg):List Str:=p.procs.map Pr.name
def ZP (p:Pg):Bool:=ZO p.globals||(ZO (QD p)||(!((QD p).any fun s=>mainS==s)||match p.procs.find? (fun f=>mainS==f.name) with
 | some f=>decide (0<f.params.length)
 | none=>true))
def WI (p:Pg) (f:Pr):Option Int :=
 bif ZO (q0m f)||(q0m f).any (fun n=>p.globals.any fun s=>n==s) then some 0 else ((flL f.body).find? fun t => !UE p f (QD p) t).map S.id
def QO (p:Pg):Int×Int :=
 bif KI p then bif ZP p then (5,0) else match p.procs.findSome? (WI p) with
  | some a=>(5,a)
  | none=>(0,0)
 else (1,0)
theorem x0o {α:Type} {l:List α} {p:α->Bool} (h:l.any p=true) : ∃ (k:Nat) (hk:k<l.length),idxF p l=k∧p l[k]=true∧l.find? p=some l[k]:=by
 have h1:l.findIdx p<l.length:=by
  rw [List.findIdx_lt_length];exact List.any_eq_true.1 h
 refine ⟨l.findIdx p,h1,by unfold idxF;rw [h];rfl,List.findIdx_getElem,?_⟩;rw [List.find?_eq_some_iff_getElem];exact ⟨List.findIdx_getElem,l.findIdx p,h1,rfl,fun j hj=>by simpa using List.not_of_lt_findIdx hj⟩
theorem x2r {p:Pg} (h:(QD p).any (fun s=>mainS==s)=true) : ∃ (k:Nat) (hk:k<p.procs.length),idxF (fun s=>mainS==s) (QD p)=k∧p.procs.find? (fun f=>mainS==f.name)=some p.procs[k]:=by
 have h':p.procs.any (fun f=>mainS==f.name)=true:=by simpa [QD,List.any_map,Function.comp_def] using h
 obtain ⟨k,hk,h1,_,h2⟩:=x0o h';refine ⟨k,hk,?_,h2⟩;rw [<- h1];unfold idxF;rw [h,h'];simp [QD,List.findIdx_map,Function.comp_def]
theorem x3r (p:Pg) {j:Nat} {f:Pr} (hj:p.procs[j]? = some f) (hc:WR p.procs<=1000):SpecP Tryz.prog 198 [.ip (sheetOf p).cells,.int .i64 j] (fun r=>r=YP (itL j 0 (-1) 0 (QT p.procs j) f.body)):=by
 obtain ⟨_,h2,h3,h4,h5⟩:=QU p;obtain ⟨h6,h7,h8,h9⟩:=h5 j f hj;have:=q4y (sheetOf p) j _ _ h6 h7 (by omega) (by omega) (by omega);rw [h9] at this;exact this
theorem ZA (l:List Item):(l.map fun i=>AV.agg i.cells).length=l.length:=length_map _
theorem LO {α β:Type} {l:List α} {f:α->Option β} {j:Nat} (hj:j<l.length) (h:f l[j]=none):(l.drop (j+1)).findSome? f=(l.drop j).findSome? f:=by
 rw [QJ hj,List.findSome?_cons,h]
theorem WZ {α β:Type} {l:List α} {f:α->Option β} {j:Nat} {b:β} (hj:j<l.length) (h:f l[j]=some b):(l.drop j).findSome? f=some b:=by
 rw [QJ hj,List.findSome?_cons,h]
theorem PP {α β:Type} {l:List α} {f:α->Option β} {j:Nat} (hj:l.length<=j):(l.drop j).findSome? f=none:=by
 rw [drop_eq_nil_of_le hj];rfl
theorem KE {q:S->Bool} (l:List Item):(l.find? fun it=>q it.s).map (fun it=>it.s.id)=((l.map Item.s).find? q).map S.id:=by
 rw [List.find?_map];cases h:l.find? (q∘Item.s) with
 | none=>rw [show (l.find? fun it=>q it.s)=none from h];rfl
 | some i=>rw [show (l.find? fun it=>q it.s)=some i from h];rfl
theorem x8j {l:List Pr} {j:Nat} (hj:j<l.length) (h:wPr l[j]<=20000) {a b c d:Int} {n k:Nat} (hk:k<(itL a b c d n l[j].body).length):(itL a b c d n l[j].body)[k].s.args.length<=20000:=by
 have hm:(itL a b c d n l[j].body)[k].s∈flL l[j].body:=by
  rw [<- BU a b c d n];exact List.mem_map.2 ⟨_,List.getElem_mem hk,rfl⟩
 have h1:=q8a _ _ hm;have h2:=x7s (itL a b c d n l[j].body)[k].s;have h3:=FS (itL a b c d n l[j].body)[k].s.args;unfold wPr at h;omega
theorem QN {H:Heap} {a b c d:Int} (h:a=c) (h':b=d):RetK H (.p (.agg [.int .i64 a,.int .i64 b])) (fun r=>r=q1n c d):=⟨_,.p (Sub.refl _),by rw [h,h'];rfl⟩
theorem UQ (p:Pg) (hf:Fit p):SpecP Tryz.prog 129 [.agg p.cells] (fun r=>r=q1n (QO p).1 (QO p).2):=by
 refine sB q4l Tryz.func129 rfl Tryz.call129 ?_;conv=>whnf
 repeat' (first|((first|(refine iM fun _=>?_)|refine cP (q4w _) ?_|refine And.intro rfl ?_);conv=>whnf)|(apply bN<;>intro _<;>conv=>whnf))
 rotate_left 1
 ·exact QN (by simp [QO, *]) (by simp [QO, *])
 have hm:KI p=true:=by assumption
 obtain ⟨hg,hpl,hcn⟩:=ZC hm;have hl:(p.procs.map fun f=>AV.agg f.cells).length=p.procs.length:=length_map _;have hnl:(QD p).length=p.procs.length:=by simp [QD]
 refine LoopK.inv QY (fun i:Nat×List Str=>⟨[(1,.p (.ip p.cells)),(2,.ptr 1 0),(3,.hd 0 0 i.2.length),(18,.p (.sl (p.procs.map fun f => .agg f.cells))),(19,.p (.int .i64 (p.procs.map fun f=>AV.agg f.cells).length)),(20,.p (.int .i64 i.1))],[(0,.own 9 1 (i.2.map .str)),(1,.obj 114 [.p (.int .i64 0),.p (.int .i64 0)])]⟩)
  (fun i=>i.1<=p.procs.length∧i.2=(QD p).take i.1) (fun i=>p.procs.length-i.1) (0,[])
  (Le.mk [(0,.own 9 1 [])] (by simp [Chunk.new0];rfl) (by simp) (by simp) (.cons (.refl _) (.cons (.refl _) (.cons (.nil mem_cons_self) (.cons (.refl _) (.cons (.refl _) (.cons (.refl _) .nil)))))) (.new mem_cons_self (.cons rfl (.refl _) .nil)))
  ⟨zero_le _,by simp⟩ ?_
 rintro ⟨j,acc⟩ ⟨h2,h3⟩;simp only at h2 h3 ⊢;have hal:acc.length<=16:=by rw [h3];simp;omega
 conv=>whnf
 repeat' (first|((first|refine And.intro rfl ?_|refine aD ?_|refine bP ?_|(refine iA fun _=>?_)|refine wI ?_|refine WP (by simp) (by simp;omega) ?_|(refine XQ (QI acc mainS) (.cons (.hd rfl (by simp)) (.cons (.p (Sub.refl _)) .nil)) (by rintro _ rfl;rfl) ?_;rintro _ rfl)|(refine XQ (HT acc) (.cons (.hd rfl (by simp)) .nil) (by rintro _ rfl;rfl) ?_;rintro _ rfl)|refine cP (HT _) ?_);conv=>whnf)|(apply bD<;>intro _<;>first|omega|conv=>whnf)|(apply bB<;>intro _<;>conv=>whnf))
 ·exact ⟨(j+1,acc++[p.procs[j].name]),⟨by simp only;omega,by simp only;rw [h3,List.take_succ_eq_append_getElem (by omega)];simp [QD]⟩,by simp only;omega,Le.of_eq (by simp only [length_append,List.map_append];rfl)⟩
 all_goals
  have hacc:acc=QD p:=by rw [h3,take_of_length_le (by omega)]
  clear h3;subst hacc
 ·have hb:ZP p=true:=by unfold ZP;rw [show ZO p.globals=true by assumption];rfl
  exact QN (by unfold QO;rw [hm,hb];rfl) (by unfold QO;rw [hm,hb];rfl)
 ·have hb:ZP p=true:=by unfold ZP;rw [show ZO p.globals=false by assumption,show ZO (QD p)=true by assumption];rfl
  exact QN (by unfold QO;rw [hm,hb];rfl) (by unfold QO;rw [hm,hb];rfl)
 ·have hany:((QD p).any fun s=>mainS==s)=false:=by
   rw [<- DT];simp;omega
  have hb:ZP p=true:=by unfold ZP;rw [show ZO p.globals=false by assumption,show ZO (QD p)=false by assumption,hany];rfl
  exact QN (by unfold QO;rw [hm,hb];rfl) (by unfold QO;rw [hm,hb];rfl)
 have hany:((QD p).any fun s=>mainS==s)=true:=by
  rw [<- DT];simp;omega
 obtain ⟨k,hk,hik,hfind⟩:=x2r hany;have hlk:(p.procs.map fun f=>AV.agg f.cells)[k]? = some (.agg p.procs[k].cells):=by simp [hk]
 have hpl2:(p.procs[k].params.map fun a=>AV.agg a.cells).length=p.procs[k].params.length:=length_map _;refine IdxK.at hik hlk rfl ?_;conv=>whnf
 repeat' (first|((first|(refine iM fun _=>?_)|refine And.intro rfl ?_|(refine CallK.pure (WB p (by omega) (by omega)) (.cons (Sub.refl _) .nil) ?_;rintro _ rfl));conv=>whnf)|(apply bD<;>intro _<;>first|omega|conv=>whnf))
 ·have hb:ZP p=true:=by
   unfold ZP;rw [show ZO p.globals=false by assumption,show ZO (QD p)=false by assumption,hany,hfind];have:0<p.procs[k].params.length:=by omega
   simp [this]
  exact QN (by unfold QO;rw [hm,hb];rfl) (by unfold QO;rw [hm,hb];rfl)
 have hb:ZP p=false:=by
  unfold ZP;rw [show ZO p.globals=false by assumption,show ZO (QD p)=false by assumption,hany,hfind];have : ¬0<p.procs[k].params.length:=by omega
  simp [this]
 have hsc:QO p=match p.procs.findSome? (WI p) with
  | some a=>(5,a)
  | none=>(0,0):=by unfold QO;rw [hm,hb];rfl
 rw [hsc];refine LoopK.inv QY (fun j:Nat=>⟨[(1,.p (.ip p.cells)),(2,.ptr 1 0),(3,.hd 0 0 (QD p).length),(7,.p (.ip (sheetOf p).cells)),(57,.p (.sl (p.procs.map fun f => .agg f.cells))),(58,.p (.int .i64 (p.procs.map fun f=>AV.agg f.cells).length)),(59,.p (.int .i64 j))],[(0,.own 9 1 ((QD p).map .str)),(1,.obj 114 [.p (.int .i64 0),.p (.int .i64 0)])]⟩)
  (fun j=>j<=p.procs.length∧(p.procs.drop j).findSome? (WI p)=p.procs.findSome? (WI p)) (fun j=>p.procs.length-j) 0 (Le.of_eq rfl) ⟨zero_le _,rfl⟩ ?_
 clear h2 hik hfind hlk hpl2;rintro j ⟨h2,h3⟩;rcases Nat.lt_or_ge j p.procs.length with hj|hj;rotate_left 1
 ·have e:p.procs.findSome? (WI p)=none:=by rw [<- h3,PP hj]
  rw [e];conv=>whnf
  repeat' (first|(refine And.intro rfl ?_;conv=>whnf)|(apply bD<;>intro _<;>first|omega|conv=>whnf))
  exact QN rfl rfl
 have hfp:=hf.pr (List.getElem_mem hj);have hmp:=KU.1 (x8y hm (List.getElem_mem hj));conv=>whnf
 repeat' (first|((first|(refine iM fun _=>?_)|refine cP (HT _) ?_|refine And.intro rfl ?_|(refine iA fun _=>?_)|(refine CallK.pure (q6v (p.procs[j]'hj) (by have:=hmp.1;omega) (by have:=hmp.2.1;omega)) (.cons (Sub.refl _) .nil) ?_;rintro _ rfl)|refine cP (WW (q0m (p.procs[j]'hj)) 197 (.ip p.cells) (fun n=>p.globals.any fun s=>n==s) (q4k p)) ?_|(refine CallK.pure (x3r p (f:=p.procs[j]'hj) (by simp) (by omega)) (.cons (Sub.refl _) (.cons (Sub.refl _) .nil)) ?_;rintro _ rfl));conv=>whnf)|(apply bD<;>intro _<;>first|omega|conv=>whnf)|(apply bB<;>intro _<;>conv=>whnf))
 ·have e:WI p p.procs[j]=some 0:=by
   unfold WI;rw [show ZO (q0m p.procs[j])=true by assumption];rfl
  have e2:=WZ hj e;rw [h3] at e2;rw [e2];exact QN rfl rfl
 ·have e:WI p p.procs[j]=some 0:=by
   unfold WI;rw [show ZO (q0m p.procs[j])=false by assumption,show ((q0m p.procs[j]).any fun n=>p.globals.any fun s=>n==s)=true by assumption];rfl
  have e2:=WZ hj e;rw [h3] at e2;rw [e2];exact QN rfl rfl
 have hsa:WI p p.procs[j]=((flL p.procs[j].body).find? fun t => !UE p p.procs[j] (QD p) t).map S.id:=by
  unfold WI;rw [show ZO (q0m p.procs[j])=false by assumption,show ((q0m p.procs[j]).any fun n=>p.globals.any fun s=>n==s)=false by assumption];rfl
 have hitm : ∀ k (hk:k<(itL (j:Nat) 0 (-1) 0 (QT p.procs j) p.procs[j].body).length),(itL (j:Nat) 0 (-1) 0 (QT p.procs j) p.procs[j].body)[k].s.args.length<=20000:=fun k hk=>x8j hj hfp hk;rw [<- BU (j:Nat) 0 (-1) 0 (QT p.procs j),<- KE] at hsa;have hib:(itL (j:Nat) 0 (-1) 0 (QT p.procs j) p.procs[j].body).length<=20000:=by
  have:=x2p p.procs[j].body;unfold wPr at hfp;rw [XI];omega
 generalize hits:itL (j:Nat) 0 (-1) 0 (QT p.procs j) p.procs[j].body=its at hsa hitm hib ⊢;have hil:=ZA its;refine LoopK.inv QY (fun k:Nat=>⟨[(1,.p (.ip p.cells)),(2,.ptr 1 0),(3,.hd 0 0 (QD p).length),(7,.p (.ip (sheetOf p).cells)),(9,.p (.ip (p.procs[j]'hj).cells)),(57,.p (.sl (p.procs.map fun f => .agg f.cells))),(58,.p (.int .i64 (p.procs.map fun f=>AV.agg f.cells).length)),(59,.p (.int .i64 j)),(76,.p (YP its)),(77,.p (.int .i64 (its.map fun i=>AV.agg i.cells).length)),(78,.p (.int .i64 k))],[(0,.own 9 1 ((QD p).map .str)),(1,.obj 114 [.p (.int .i64 0),.p (.int .i64 0)])]⟩)
  (fun k=>k<=its.length∧(its.drop k).find? (fun it => !UE p p.procs[j] (QD p) it.s)=its.find? fun it => !UE p p.procs[j] (QD p) it.s) (fun k=>its.length-k) 0 (Le.of_eq rfl) ⟨zero_le _,rfl⟩ ?_
 rintro k ⟨h5,h6⟩;rcases Nat.lt_or_ge k its.length with hk|hk;rotate_left 1
 ·rw [<- h6,KC hk] at hsa;conv=>whnf
  repeat' (first|(refine wI ?_;conv=>whnf)|(apply bD<;>intro _<;>first|omega|conv=>whnf))
  exact ⟨j+1,⟨by omega,by rw [<- h3,LO hj hsa]⟩,by omega,Le.of_eq rfl⟩
 have hka:=hitm k hk;conv=>whnf
 repeat' (first|((first|refine And.intro rfl ?_|(refine iA fun _=>?_)|refine wI ?_|(refine XQ (x0b p p.procs[j] (QD p) its[k].s hka) (.cons (.p (Sub.refl _)) (.cons (.p (Sub.refl _)) (.cons (.hd rfl (by simp)) (.cons (.p (Sub.refl _)) .nil)))) (by rintro _ rfl;rfl) ?_;rintro _ rfl));conv=>whnf)|(apply bD<;>intro _<;>first|omega|conv=>whnf)|(apply bN<;>intro _<;>conv=>whnf))
 ·exact ⟨k+1,⟨by omega,by rw [<- h6,BX (p:=fun it:Item => !UE p p.procs[j] (QD p) it.s) hk (by simp;assumption)]⟩,by omega,Le.of_eq rfl⟩
 ·have e3:=KO (p:=fun it:Item => !UE p p.procs[j] (QD p) it.s) hk (by simp;assumption);rw [<- h6,e3] at hsa;have e2:=WZ hj hsa;rw [h3] at e2;rw [e2];exact QN rfl rfl
def z6d:LV->Option Bool
 | .p .tt=>some true
 | .p .ff=>some false
 | .p (.bool b)=>some b
 | _=>none
theorem x1d {σ:Mem} {β:Lab} {l:LV} {v:Value} {b:Bool} (h:RepL σ β l v) (hb:z6d l=some b):v = .bool b:=by
 cases h with
 | p h=>cases h<;>simp [z6d] at hb<;>subst hb<;>rfl
 | _=>simp [z6d] at hb
theorem q8l {P:Program} {T:Tab} {hr:Bool} {s:St} {o:Oper} {K:LV->Prop} (hT:TabOK P T) {t u:TypeId} {x y:Operand} (hop:o.op = .binOp .neq t x y u) {i:TyI} (ht:T.get t=some i) (hd:i.desc = .bool)
  {a b:Bool} (hx:z6d (QC s.sl x)=some a) (hy:z6d (QC s.sl y)=some b) (hK:K (.p (.bool (a != b)))):ValO P hr s o K:=by
 refine ⟨fun σ β ac w hs _=>⟨_,.bool (a != b),hK,.p (.bool _),fun w' _ _ => ?_⟩⟩;have h1:=x1d (QZ hs x) hx;have h2:=x1d (QZ hs y) hy;have hu:=hT.of ht;rw [hd] at hu;have hg:(eqGuard .neq t x y (.bool a) (.bool b)).run P w' = .ok () w':=by unfold eqGuard;rfl
 have he:(Op.equal t (.bool a) (.bool b)).run P w' = .ok (a==b) w':=by
  have e:Op.equal t (.bool a) (.bool b)=Op.equalIn (9999+1) t (.bool a) (.bool b):=rfl;rw [e,Op.equalIn,Sem.run_bind,run_underlying hu,Result.andThen_ok];rfl
 simp only [execOp,hop,h1,h2,Sem.run_bind,hg,Result.andThen_ok,binOp];simp [he];cases a<;>cases b<;>rfl
def x4l (l:List Param) (args:List Arg):Bool:=decide (l.map Param.ref=args.map Arg.ref)
theorem x5u (l:List Param) (args:List Arg):SpecP Tryz.prog 274 [.sl (l.map fun a => .agg a.cells),z0j args] (fun r=>r = .bool (x4l l args)):=by
 refine sB q7g Tryz.func274 rfl Tryz.call274 ?_;conv=>whnf
 repeat' (first|(refine iM fun _=>?_;conv=>whnf)|(apply bE<;>intro _<;>first|omega|conv=>whnf))
 all_goals
  have hl:(l.map fun a=>AV.agg a.cells).length=l.length:=length_map _;have hl2:(args.map fun a=>AV.agg a.cells).length=args.length:=length_map _
 ·have hlen:l.length=args.length:=by omega
  refine LoopK.inv QY (fun j:Nat=>⟨[(1,.p (z0j args)),(12,.p (.sl (l.map fun a => .agg a.cells))),(13,.p (.int .i64 (l.map fun a=>AV.agg a.cells).length)),(14,.p (.int .i64 j))],[]⟩) (fun j=>j<=l.length∧(l.map Param.ref).take j=(args.map Arg.ref).take j) (fun j=>l.length-j) 0 (Le.of_eq rfl) ⟨zero_le _,rfl⟩ ?_;rintro j ⟨h2,h3⟩;rcases Nat.lt_or_ge j l.length with hj|hj
  ·conv=>whnf
   repeat' (first|((first|refine dA ?_|refine And.intro rfl ?_|(refine iA fun _=>?_)|refine wI ?_|refine q8l QY rfl rfl rfl rfl rfl ?_);conv=>whnf)|(apply bD<;>intro _<;>first|omega|conv=>whnf)|(apply bE<;>intro _<;>first|omega|conv=>whnf))
   ·have hne:l[j].ref=(args[j]'(by omega)).ref:=by assumption
    exact ⟨j+1,⟨by omega,by
     rw [List.take_succ_eq_append_getElem (by simp;omega),List.take_succ_eq_append_getElem (by simp;omega),h3];simp [hne]⟩,by omega,Le.of_eq rfl⟩
   ·have hne : ¬l[j].ref=(args[j]'(by omega)).ref:=by assumption
    exact RetK.ff (by
     unfold x4l;rw [decide_eq_false_iff_not];intro he;have:(l.map Param.ref)[j]? = (args.map Arg.ref)[j]? := by rw [he]
     rw [List.getElem?_map,List.getElem?_map,List.getElem?_eq_getElem hj,List.getElem?_eq_getElem (by omega)] at this;simp at this;exact hne this)
  ·conv=>whnf
   repeat' (apply bD<;>intro _<;>first|omega|conv=>whnf)
   exact RetK.tt (by
    unfold x4l;rw [decide_eq_true_eq]
    rwa [take_of_length_le (by simp;omega),take_of_length_le (by simp;omega)] at h3)
 ·exact RetK.ff (by
   unfold x4l;rw [decide_eq_false_iff_not];intro he;have:=congrArg List.length he;simp at this;omega)
def KZ (p:Pg) (s:S):Bool:=decide (s.kind=4)&&match p.procs.find? (fun f=>f.name==s.proc) with
 | some f=>x4l f.params s.args
 | none=>false
theorem x4d (p:Pg) (s:S):SpecP Tryz.prog 200 [.agg p.cells,.agg s.cells] (fun r=>r = .bool (KZ p s)):=by
 refine sB q7f Tryz.func200 rfl Tryz.call200 ?_;conv=>whnf
 repeat' (first|(refine iM fun _=>?_;conv=>whnf)|(apply bE<;>intro _<;>first|omega|conv=>whnf))
 ·have hl:(p.procs.map fun f=>AV.agg f.cells).length=p.procs.length:=length_map _;refine LoopK.inv QY (fun j:Nat=>⟨[(3,.p (.ip s.cells)),(11,.p (.sl (p.procs.map fun f => .agg f.cells))),(12,.p (.int .i64 (p.procs.map fun f=>AV.agg f.cells).length)),(13,.p (.int .i64 j))],[]⟩) (fun j=>j<=p.procs.length∧(p.procs.drop j).find? (fun f=>f.name==s.proc)=p.procs.find? (fun f=>f.name==s.proc)) (fun j=>p.procs.length-j) 0 (Le.of_eq rfl) ⟨zero_le _,rfl⟩ ?_;rintro j ⟨h2,h3⟩;conv=>whnf
  repeat' (first|((first|refine cP (x5u _ _) ?_|refine And.intro rfl ?_|(refine iA fun _=>?_)|refine wI ?_);conv=>whnf)|(apply bD<;>intro _<;>first|omega|conv=>whnf)|(apply bB<;>intro _<;>conv=>whnf))
  ·have e:=KO (p:=fun f:Pr=>f.name==s.proc) (l:=p.procs) (j:=j) (by omega) (by assumption);rw [h3] at e;exact RetK.bool (by unfold KZ;rw [e];simp [*])
  ·exact ⟨j+1,⟨by omega,by rw [<- h3,BX (p:=fun f:Pr=>f.name==s.proc) (by omega) (by assumption)]⟩,by omega,Le.of_eq rfl⟩
  ·have e:p.procs.find? (fun f=>f.name==s.proc)=none:=by rw [<- h3,KC (by omega)]
   exact RetK.ff (by unfold KZ;rw [e];simp)
 ·exact RetK.ff (by unfold KZ;simp [*])
def GK (p:Pg):List S:=p.procs.flatMap fun f=>flL f.body
theorem z2o : ∀ (l:List Pr) (i:Nat) (acc:List Item) (lo hi:List Int),(q0t i acc lo hi l).1.map Item.s=acc.map Item.s++l.flatMap fun f=>flL f.body
 | [],i,acc,lo,hi=>by rw [q0t];simp
 | f::r,i,acc,lo,hi=>by
   rw [q0t,z2o r,FZ,List.map_append,BU,List.flatMap_cons,List.append_assoc]
theorem q5x (p:Pg):(sheetOf p).l.map Item.s=GK p:=by
 have:=z2o p.procs 0 [] [] [];unfold sheetOf GK;simpa using this
theorem x3v {p:Pg} (hf:Fit p) {k:Nat} (hk:k<(sheetOf p).l.length):wS (sheetOf p).l[k].s<=20000:=by
 have hm:(sheetOf p).l[k].s∈GK p:=by
  rw [<- q5x];exact List.mem_map.2 ⟨_,List.getElem_mem hk,rfl⟩
 unfold GK at hm;obtain ⟨f,h1,h2⟩:=List.mem_flatMap.1 hm;have h3:=q8a _ _ h2;have h4:=hf.pr h1;unfold wPr at h4;omega
def VJ (p:Pg):Int×Int :=
 if (QO p).1≠0 then (1,0) else match (GK p).find? fun t=>decide (t.kind=4) && !KZ p t with
  | some t=>(6,t.id)
  | none=>(0,0)
theorem US {p:Pg} (h:(QO p).1=0):KI p=true∧ZP p=false∧p.procs.findSome? (WI p)=none:=by
 unfold QO at h;cases hm:KI p<;>rw [hm] at h
 ·cases h
 cases hb:ZP p<;>rw [hb] at h
 ·refine ⟨rfl,rfl,?_⟩;simp only [cond_true,cond_false] at h;split at h
  ·cases h
  ·assumption
 ·cases h
theorem q0b (p:Pg) (hf:Fit p):SpecP Tryz.prog 130 [.agg p.cells] (fun r=>r=q1n (VJ p).1 (VJ p).2):=by
 refine sB q5g Tryz.func130 rfl Tryz.call130 ?_;conv=>whnf
 repeat' (first|((first|refine cP (UQ p hf) ?_|refine And.intro rfl ?_);conv=>whnf)|(apply bE<;>intro _<;>first|omega|conv=>whnf))
 rotate_left 1
 ·have e:VJ p=(1,0):=by unfold VJ;rw [if_pos (by assumption)]
  exact QN (by rw [e]) (by rw [e])
 have hs:(QO p).1=0:=by assumption
 obtain ⟨hm,hb,hns⟩:=US hs;obtain ⟨hg,hpl,hcn⟩:=ZC hm;have hA:VJ p=match (GK p).find? fun t=>decide (t.kind=4) && !KZ p t with
  | some t=>(6,t.id)
  | none=>(0,0):=by unfold VJ;rw [if_neg (by omega)]
 repeat' ((first|(refine iM fun _=>?_)|(refine CallK.pure (WB p (by omega) (by omega)) (.cons (Sub.refl _) .nil) ?_;rintro _ rfl));conv=>whnf)
 have hil:=ZA (sheetOf p).l;have hib:(sheetOf p).l.length<=200:=by have:=(QU p).2.2.2.1;omega
 have hfi:=KE (q:=fun t=>decide (t.kind=4) && !KZ p t) (sheetOf p).l;rw [q5x] at hfi;have hA2:VJ p=match ((sheetOf p).l.find? fun it=>decide (it.s.kind=4) && !KZ p it.s).map (fun it=>it.s.id) with
  | some a=>(6,a)
  | none=>(0,0):=by
  rw [hA,hfi];cases (GK p).find? fun t=>decide (t.kind=4) && !KZ p t<;>rfl
 rw [hA2];refine LoopK.inv QY (fun k:Nat=>⟨[(1,.p (.ip p.cells)),(2,.ptr 1 0),(14,.p (YP (sheetOf p).l)),(15,.p (.int .i64 ((sheetOf p).l.map fun i=>AV.agg i.cells).length)),(16,.p (.int .i64 k))],[(1,.obj 114 [.p (.int .i64 0),.p (.int .i64 0)])]⟩)
  (fun k=>k<=(sheetOf p).l.length∧((sheetOf p).l.drop k).find? (fun it=>decide (it.s.kind=4) && !KZ p it.s)=(sheetOf p).l.find? fun it=>decide (it.s.kind=4) && !KZ p it.s) (fun k=>(sheetOf p).l.length-k) 0 (Le.of_eq rfl) ⟨zero_le _,rfl⟩ ?_
 rintro k ⟨h5,h6⟩;rcases Nat.lt_or_ge k (sheetOf p).l.length with hk|hk;rotate_left 1
 ·rw [<- h6,KC hk];conv=>whnf
  repeat' (first|(refine And.intro rfl ?_;conv=>whnf)|(apply bD<;>intro _<;>first|omega|conv=>whnf))
  exact QN rfl rfl
 conv=>whnf
 repeat' (first|((first|refine cP (x4d _ _) ?_|refine And.intro rfl ?_|(refine iA fun _=>?_)|refine wI ?_);conv=>whnf)|(apply bD<;>intro _<;>first|omega|conv=>whnf)|(apply bN<;>intro _<;>conv=>whnf))
 all_goals first
  | (have e3:=KO (p:=fun it:Item=>decide (it.s.kind=4) && !KZ p it.s) hk (by simp [*])
     rw [<- h6,e3];exact QN rfl rfl)
  | exact ⟨k+1,⟨by omega,by rw [<- h6,BX (p:=fun it:Item=>decide (it.s.kind=4) && !KZ p it.s) hk (by simp [*])]⟩,by omega,Le.of_eq rfl⟩
def UZ:List Str->List Str->Option (List Str)
 | seen,[]=>some seen
 | seen,n::r=>bif seen.any (fun s=>n==s) then none else UZ (seen++[n]) r
theorem z1e {seen l:List Str} {j:Nat} (hj:j<l.length) (h:(seen.any fun s=>l[j]==s)=true):UZ seen (l.drop j)=none:=by
 rw [QJ hj,UZ,h];rfl
theorem x9u {seen l:List Str} {j:Nat} (hj:j<l.length) (h:(seen.any fun s=>l[j]==s)=false):UZ seen (l.drop j)=UZ (seen++[l[j]]) (l.drop (j+1)):=by
 rw [QJ hj,UZ,h];rfl
theorem q8f : ∀ {l seen out:List Str},UZ seen l=some out->out=seen++l
 | [],seen,out,h=>by rw [UZ] at h;cases h;simp
 | n::r,seen,out,h=>by
   rw [UZ] at h;cases hc:(seen.any fun s=>n==s)<;>rw [hc] at h
   ·have:=q8f h;simpa using this
   ·cases h
def x7m (t:Nat) (seen l:List Str) (r:LV) (H:Heap):Prop :=
 match UZ seen l with
 | some out=>r = .tup [.hd 2000 0 out.length,.p .tt]∧H=x5d t out
 | none => ∃ out,r = .tup [.hd 2000 0 out.length,.p .ff]∧H=x5d t out
theorem LY {t:Nat} {seen l:List Str} {Q:LV->Heap->Prop} (h1:UZ seen l=some (seen++l)->Q (.tup [.hd 2000 0 (seen++l).length,.p .tt]) (x5d t (seen++l)))
  (h2:UZ seen l=none -> ∀ out,Q (.tup [.hd 2000 0 out.length,.p .ff]) (x5d t out)) : ∀ l' H',x7m t seen l l' H'->Q l' H':=by
 intro l' H' h;unfold x7m at h;cases hr:UZ seen l with
 | some out =>
   rw [hr] at h;obtain ⟨rfl,rfl⟩:=h;have:=q8f hr;subst this;exact h1 hr
 | none =>
   rw [hr] at h;obtain ⟨out,rfl,rfl⟩:=h;exact h2 hr out
theorem q6n (seen l:List Str) (hlen:seen.length+l.length<=1000000000) :
  SpecH Tryz.prog 202 [.hd 2000 0 seen.length,.p (QL l)] (x5d 9 seen) (x7m 9 seen l):=by
 refine sH x0y Tryz.func202 rfl Tryz.call202 ?_;conv=>whnf
 repeat' (refine iM fun _=>?_;conv=>whnf)
 have hl:(l.map AV.str).length=l.length:=length_map _;refine LoopK.inv QY (fun i:Nat×List Str=>⟨[(0,.hd 2000 0 i.2.length),(8,.p (QL l)),(9,.p (.int .i64 (l.map AV.str).length)),(10,.p (.int .i64 i.1))],x5d 9 i.2⟩) (fun i=>i.1<=l.length∧i.2.length+(l.length-i.1)=seen.length+l.length∧UZ i.2 (l.drop i.1)=UZ seen l) (fun i=>l.length-i.1) (0,seen) (Le.of_eq rfl) ⟨zero_le _,by simp,rfl⟩ ?_;rintro ⟨j,acc⟩ ⟨h2,h3,h4⟩;simp only at h2 h3 h4 ⊢;rcases Nat.lt_or_ge j l.length with hj|hj
 ·conv=>whnf
  repeat' (first|((first|refine And.intro rfl ?_|refine aD ?_|refine bP ?_|(refine iA fun _=>?_)|refine wI ?_|(refine XQ (QQ acc (l[j]'hj)) (.cons (.hd rfl (by simp)) (.cons (.p (Sub.refl _)) .nil)) (by rintro _ rfl;rfl) ?_;rintro _ rfl)|refine WP (by simp) (by simp;omega) ?_);conv=>whnf)|(apply bD<;>intro _<;>first|omega|conv=>whnf)|(apply bB<;>intro _<;>conv=>whnf))
  ·exact ⟨_,.refl _,by unfold x7m;rw [<- h4,z1e hj (by assumption)];exact ⟨acc,rfl,rfl⟩⟩
  ·exact ⟨(j+1,acc++[l[j]]),⟨by simp only;omega,by simp;omega,by simp only;rw [<- h4,x9u hj (by assumption)]⟩,by simp only;omega,Le.of_eq (by simp only [x5d,length_append,List.map_append];rfl)⟩
 ·conv=>whnf
  repeat' (apply bD<;>intro _<;>first|omega|conv=>whnf)
  rw [drop_eq_nil_of_le hj,UZ] at h4;exact ⟨_,.refl _,by unfold x7m;rw [<- h4];exact ⟨rfl,rfl⟩⟩
def atB (f:Pr) (label:Str):Int×Bool :=
 match (flL f.body).find? fun t=>t.labels.any fun s=>label==s with
 | some t=>(t.id,true)
 | none=>bif f.fin.any fun s=>label==s then (-1,true) else (0,false)
theorem RetK.tup2 {H:Heap} {k:IntKind} {m n:Int} {x:AV} {b:Bool} (h:m=n) (hb:Sub x (.bool b)):RetK H (.p (.tup [.int k m,x])) (fun r=>r = .tup [.int k n,.bool b]) :=
 ⟨_,.p (Sub.tup (SubL.cons (Sub.int h) (SubL.cons hb SubL.nil))),rfl⟩
theorem JY (p:Pg) (j:Nat) (f:Pr) (hj:p.procs[j]? = some f) (hc:WR p.procs<=1000) (label:Str):SpecP Tryz.prog 234 [.ip (sheetOf p).cells,.int .i64 j,.str label] (fun r=>r = .tup [.int .i64 (atB f label).1,.bool (atB f label).2]):=by
 refine sB MK Tryz.func234 rfl Tryz.call234 ?_;conv=>whnf
 repeat' ((first|(refine iM fun _=>?_)|refine cP (x3r p hj hc) ?_);conv=>whnf)
 have hfi:=KE (q:=fun t=>t.labels.any fun s=>label==s) (itL (j:Nat) 0 (-1) 0 (QT p.procs j) f.body);rw [BU] at hfi;have hib:(itL (j:Nat) 0 (-1) 0 (QT p.procs j) f.body).length<=1000:=by
  have:=(QU p).2.2.2.2 j f hj;rw [XI];omega
 generalize hits:itL (j:Nat) 0 (-1) 0 (QT p.procs j) f.body=its at hfi hib ⊢;have hil:=ZA its;have hat:atB f label=match (its.find? fun it=>it.s.labels.any fun s=>label==s).map (fun it=>it.s.id) with
  | some a=>(a,true)
  | none=>bif f.fin.any fun s=>label==s then (-1,true) else (0,false):=by
  unfold atB;rw [hfi];cases (flL f.body).find? fun t=>t.labels.any fun s=>label==s<;>rfl
 rw [hat];refine LoopK.inv QY (fun k:Nat=>⟨[(0,.p (.ip (sheetOf p).cells)),(1,.p (.int .i64 j)),(2,.p (.str label)),(12,.p (YP its)),(13,.p (.int .i64 (its.map fun i=>AV.agg i.cells).length)),(14,.p (.int .i64 k))],[]⟩)
  (fun k=>k<=its.length∧(its.drop k).find? (fun it=>it.s.labels.any fun s=>label==s)=its.find? fun it=>it.s.labels.any fun s=>label==s) (fun k=>its.length-k) 0 (Le.of_eq rfl) ⟨zero_le _,rfl⟩ ?_
 rintro k ⟨h5,h6⟩;rcases Nat.lt_or_ge k its.length with hk|hk
 ·conv=>whnf
  repeat' (first|((first|refine cP (QQ _ _) ?_|refine And.intro rfl ?_|(refine iA fun _=>?_)|refine wI ?_);conv=>whnf)|(apply bD<;>intro _<;>first|omega|conv=>whnf)|(apply bB<;>intro _<;>conv=>whnf))
  ·have e3:=KO (p:=fun it:Item=>it.s.labels.any fun s=>label==s) hk (by assumption);rw [<- h6,e3];exact RetK.tup2 rfl (Sub.tt rfl)
  ·exact ⟨k+1,⟨by omega,by rw [<- h6,BX (p:=fun it:Item=>it.s.labels.any fun s=>label==s) hk (by assumption)]⟩,by omega,Le.of_eq rfl⟩
 ·rw [<- h6,KC hk];have hpj:(p.procs.map fun f=>AV.agg f.cells)[j]? = some (.agg f.cells):=by simp [hj]
  conv=>whnf
  repeat' (first|((first|refine cP (QQ _ _) ?_|(refine IdxK.at rfl hpj rfl ?_));conv=>whnf)|(apply bD<;>intro _<;>first|omega|conv=>whnf)|(apply bB<;>intro _<;>conv=>whnf))
  ·exact RetK.tup2 (by simp [*]) (Sub.tt (by simp [*]))
  ·exact RetK.tup2 (by simp [*]) (Sub.ff (by simp [*]))
def UO (f:Pr) (it:Item):Bool:=if it.s.kind=7∨it.s.kind=8 then !(it.loop==0) else if it.s.kind=10 then (atB f it.s.name).2 else true
theorem x3i (p:Pg) (j:Nat) (f:Pr) (hj:p.procs[j]? = some f) (hc:WR p.procs<=1000) (it:Item) (hp:it.proc=j):SpecP Tryz.prog 203 [.ip (sheetOf p).cells,.agg it.cells] (fun r=>r = .bool (UO f it)):=by
 refine sB q7l Tryz.func203 rfl Tryz.call203 ?_;conv=>whnf
 repeat' (first|(refine CallK.pure (JY p j f hj hc it.s.name) (.cons (Sub.refl _) (.cons (Sub.int hp) (.cons (Sub.refl _) .nil))) ?_;rintro _ rfl;conv=>whnf)|(apply bD<;>intro _<;>first|omega|conv=>whnf))
 all_goals first
  | exact RetK.bool (by simp [UO, *];rfl)
  | exact RetK.bool (by simp [UO, *])
  | exact RetK.tt (by simp [UO, *])
theorem x3o (p:Pg) (hf:Fit p) (h:(QO p).1=0):SpecP Tryz.prog 201 [.agg p.cells] (fun r=>r = .ip (sheetOf p).cells):=by
 refine sB PT Tryz.func201 rfl Tryz.call201 ?_;conv=>whnf
 obtain ⟨hm,hb,hns⟩:=US h;obtain ⟨hg,hpl,hcn⟩:=ZC hm;repeat' (first|((first|refine cP (UQ p hf) ?_|(refine CallK.pure (WB p (by omega) (by omega)) (.cons (Sub.refl _) .nil) ?_;rintro _ rfl));conv=>whnf)|(apply bE<;>intro _<;>first|omega|conv=>whnf))
 exact RetK.p rfl
theorem q4f (p:Pg) (hf:Fit p) (h:(QO p).1≠0):SpecP Tryz.prog 201 [.agg p.cells] (fun r=>r = .nilp):=by
 refine sB PT Tryz.func201 rfl Tryz.call201 ?_;conv=>whnf
 repeat' (first|(refine cP (UQ p hf) ?_;conv=>whnf)|(apply bE<;>intro _<;>first|omega|conv=>whnf))
 exact RetK.p rfl
mutual
theorem z2d (proc up nx loop:Int) (n:Nat) : ∀ (t:S) (it:Item),it∈itS proc up nx loop n t->it.proc=proc
 | .mk id kind labels name pr x has args thn els,it,h=>by
   rw [itS] at h;rcases List.mem_cons.1 h with rfl|h
   ·rfl
   ·rcases List.mem_append.1 h with h|h
    ·exact UA _ _ _ _ _ thn it h
    ·exact UA _ _ _ _ _ els it h
theorem UA (proc up nx loop:Int) (n:Nat) : ∀ (l:List S) (it:Item),it∈itL proc up nx loop n l->it.proc=proc
 | [],it,h=>by rw [itL] at h;cases h
 | t::r,it,h=>by
   rw [itL] at h;rcases List.mem_append.1 h with h|h
   ·exact z2d _ _ _ _ _ t it h
   ·exact UA _ _ _ _ _ r it h
end
def GY (f:Pr):List Item->List Str->Except Int (List Str)
 | [],seen => .ok seen
 | it::r,seen=>match UZ seen it.s.labels with
   | none => .error it.s.id
   | some s=>bif UO f it then GY f r s else .error it.s.id
def UC (p:Pg) (j:Nat):Option Int :=
 match p.procs[j]? with
 | none=>none
 | some f=>match GY f (itL (j:Nat) 0 (-1) 0 (QT p.procs j) f.body) [] with
   | .error id=>some id
   | .ok seen=>match UZ seen f.fin with
     | none=>some 0
     | some _=>none
def NF (p:Pg):Int×Int :=
 if (QO p).1≠0 then (1,0) else match (List.range p.procs.length).findSome? (UC p) with
  | some a=>(7,a)
  | none=>(0,0)
theorem z2k {f:Pr} {its:List Item} {seen:List Str} {k:Nat} (hk:k<its.length) (h:UZ seen its[k].s.labels=none):GY f (its.drop k) seen = .error its[k].s.id:=by
 rw [QJ hk,GY,h]
theorem x7h {f:Pr} {its:List Item} {seen s:List Str} {k:Nat} (hk:k<its.length) (h:UZ seen its[k].s.labels=some s) (hl:UO f its[k]=false):GY f (its.drop k) seen = .error its[k].s.id:=by
 rw [QJ hk,GY,h];simp only [hl,cond_false]
theorem x7i {f:Pr} {its:List Item} {seen s:List Str} {k:Nat} (hk:k<its.length) (h:UZ seen its[k].s.labels=some s) (hl:UO f its[k]=true):GY f (its.drop k) seen=GY f (its.drop (k+1)) s:=by
 rw [QJ hk,GY,h];simp only [hl,cond_true]
theorem q9q {l:List Pr} {j:Nat} (hj:j<l.length) (h:wPr l[j]<=20000) {a b c d:Int} {n k:Nat} (hk:k<(itL a b c d n l[j].body).length):(itL a b c d n l[j].body)[k].s.labels.length<=20000:=by
 have hm:(itL a b c d n l[j].body)[k].s∈flL l[j].body:=by
  rw [<- BU a b c d n];exact List.mem_map.2 ⟨_,List.getElem_mem hk,rfl⟩
 have h1:=q8a _ _ hm;have h2:=x7s (itL a b c d n l[j].body)[k].s;have h3:=q5y (itL a b c d n l[j].body)[k].s.labels;unfold wPr at h;omega
theorem x5w (p:Pg) (hf:Fit p):SpecP Tryz.prog 131 [.agg p.cells] (fun r=>r=q1n (NF p).1 (NF p).2):=by
 refine sB q7j Tryz.func131 rfl Tryz.call131 ?_;conv=>whnf
 rcases Decidable.em ((QO p).1=0) with hs|hs;rotate_left 1
 ·
  repeat' ((first|refine cP (q4f p hf hs) ?_|refine And.intro rfl ?_);conv=>whnf)
  have e:NF p=(1,0):=by unfold NF;rw [if_pos hs]
  exact QN (by rw [e]) (by rw [e])
 obtain ⟨hm,hb,hns⟩:=US hs;obtain ⟨hg,hpl,hcn⟩:=ZC hm;have hJ:NF p=match (List.range p.procs.length).findSome? (UC p) with
  | some a=>(7,a)
  | none=>(0,0):=by unfold NF;rw [if_neg (by omega)]
 rw [hJ];have hl:(p.procs.map fun f=>AV.agg f.cells).length=p.procs.length:=length_map _;repeat' ((first|(refine iM fun _=>?_)|refine cP (x3o p hf hs) ?_);conv=>whnf)
 refine LoopK.inv QY (fun j:Nat=>⟨[(2,.ptr 1 0),(3,.p (.ip (sheetOf p).cells)),(16,.p (.sl (p.procs.map fun f => .agg f.cells))),(17,.p (.int .i64 (p.procs.map fun f=>AV.agg f.cells).length)),(18,.p (.int .i64 j))],[(1,.obj 114 [.p (.int .i64 0),.p (.int .i64 0)])]⟩)
  (fun j=>j<=p.procs.length∧((List.range p.procs.length).drop j).findSome? (UC p)=(List.range p.procs.length).findSome? (UC p)) (fun j=>p.procs.length-j) 0 (Le.of_eq rfl) ⟨zero_le _,rfl⟩ ?_
 rintro j ⟨h2,h3⟩;rcases Nat.lt_or_ge j p.procs.length with hj|hj;rotate_left 1
 ·have e:(List.range p.procs.length).findSome? (UC p)=none:=by rw [<- h3,PP (by simpa using hj)]
  rw [e];conv=>whnf
  repeat' (first|(refine And.intro rfl ?_;conv=>whnf)|(apply bD<;>intro _<;>first|omega|conv=>whnf))
  exact QN rfl rfl
 have hfp:=hf.pr (List.getElem_mem hj);have hjr:j<(List.range p.procs.length).length:=by simpa using hj
 have hrj:(List.range p.procs.length)[j]=j:=by simp
 have hpj:p.procs[j]? = some p.procs[j]:=by simp [hj]
 conv=>whnf
 repeat' (first|((first|(refine iM fun _=>?_)|refine And.intro rfl ?_|(refine iA fun _=>?_)|(refine CallK.pure (x3r p (f:=p.procs[j]'hj) hpj (by omega)) (.cons (Sub.refl _) (.cons (Sub.refl _) .nil)) ?_;rintro _ rfl));conv=>whnf)|(apply bD<;>intro _<;>first|omega|conv=>whnf))
 have hlab : ∀ k (hk:k<(itL (j:Nat) 0 (-1) 0 (QT p.procs j) p.procs[j].body).length),(itL (j:Nat) 0 (-1) 0 (QT p.procs j) p.procs[j].body)[k].s.labels.length<=20000:=fun k hk=>q9q hj hfp hk;have hprc : ∀ k (hk:k<(itL (j:Nat) 0 (-1) 0 (QT p.procs j) p.procs[j].body).length),(itL (j:Nat) 0 (-1) 0 (QT p.procs j) p.procs[j].body)[k].proc=j:=fun k hk=>UA _ _ _ _ _ _ _ (List.getElem_mem hk);have hib:(itL (j:Nat) 0 (-1) 0 (QT p.procs j) p.procs[j].body).length<=200:=by
  have:=(QU p).2.2.2.2 j _ hpj;rw [XI];omega
 have hja:UC p j=match GY p.procs[j] (itL (j:Nat) 0 (-1) 0 (QT p.procs j) p.procs[j].body) [] with
  | .error id=>some id
  | .ok seen=>match UZ seen p.procs[j].fin with
    | none=>some 0
    | some _=>none:=by
  unfold UC;rw [hpj]
 generalize hits:itL (j:Nat) 0 (-1) 0 (QT p.procs j) p.procs[j].body=its at hlab hprc hib hja ⊢;have hil:=ZA its;refine LoopK.inv QY (fun i:Nat×List Str=>⟨[(2,.ptr 1 0),(3,.p (.ip (sheetOf p).cells)),(5,.p (.ip (p.procs[j]'hj).cells)),(6,.hd 0 0 i.2.length),(16,.p (.sl (p.procs.map fun f => .agg f.cells))),(17,.p (.int .i64 (p.procs.map fun f=>AV.agg f.cells).length)),(18,.p (.int .i64 j)),(25,.p (YP its)),(26,.p (.int .i64 (its.map fun i=>AV.agg i.cells).length)),(27,.p (.int .i64 i.1))],[(0,.own 9 1 (i.2.map .str)),(1,.obj 114 [.p (.int .i64 0),.p (.int .i64 0)])]⟩)
  (fun i=>i.1<=its.length∧i.2.length<=20000*i.1∧GY p.procs[j] (its.drop i.1) i.2=GY p.procs[j] its []) (fun i=>its.length-i.1) (0,[])
  (Le.mk [(0,.own 9 1 [])] (by simp [Chunk.new0];rfl) (by simp) (by simp) (.cons (.refl _) (.cons (.refl _) (.cons (.refl _) (.cons (.nil mem_cons_self) (.cons (.refl _) (.cons (.refl _) (.cons (.refl _) (.cons (.refl _) (.cons (.refl _) (.cons (.refl _) .nil)))))))))) (.new mem_cons_self (.cons rfl (.refl _) .nil)))
  ⟨zero_le _,by simp,rfl⟩ ?_
 rintro ⟨k,acc⟩ ⟨h5,h6,h7⟩;simp only at h5 h6 h7 ⊢;rcases Nat.lt_or_ge k its.length with hk|hk
 ·have hlk:=hlab k hk;conv=>whnf
  repeat' (first|((first|refine And.intro rfl ?_|(refine iA fun _=>?_)|refine wI ?_|(refine CallK.pure (x3i p j p.procs[j] hpj (by omega) its[k] (hprc k hk)) (.cons (Sub.refl _) (.cons (Sub.refl _) .nil)) ?_;rintro _ rfl));conv=>whnf)|(apply bD<;>intro _<;>first|omega|conv=>whnf)|(apply bN<;>intro _<;>conv=>whnf)|(refine CallK.heap [(2000,0)] 0 (by repeat' (first|exact ArgsH.nil|refine ArgsH.cons ?_ ?_|exact LSub.refl _|exact LSub.p Sub.nils|exact LSub.p (Sub.tt rfl)|exact LSub.p (Sub.ff rfl)|exact LSub.p (Sub.int (by omega)))) (by refine BlksH.cons (j:=0) rfl rfl ?_ ?_;exact CSub.refl _;exact BlksH.nil) (q6n acc its[k].s.labels (by omega)) rfl rfl (LY (fun hjo => ?_) (fun hjo out => ?_))<;>conv=>whnf))
  ·exact ⟨(k+1,acc++its[k].s.labels),⟨by simp only;omega,by simp;omega,by simp only;rw [<- h7,x7i hk hjo (by assumption)]⟩,by simp only;omega,Le.of_eq rfl⟩
  ·rw [<- h7,x7h hk hjo (by assumption)] at hja;have e2:=WZ (f:=UC p) hjr (by rw [hrj];exact hja);rw [h3] at e2;rw [e2];exact QN rfl rfl
  ·rw [<- h7,z2k hk hjo] at hja;have e2:=WZ (f:=UC p) hjr (by rw [hrj];exact hja);rw [h3] at e2;rw [e2];exact QN rfl rfl
 ·have hfin:p.procs[j].fin.length<=20000:=by
   have:=q5y p.procs[j].fin;unfold wPr at hfp;omega
  rw [drop_eq_nil_of_le hk,GY] at h7;rw [<- h7] at hja;simp only at hja;conv=>whnf
  repeat' (first|((first|refine And.intro rfl ?_|refine wI ?_);conv=>whnf)|(apply bD<;>intro _<;>first|omega|conv=>whnf)|(refine CallK.heap [(2000,0)] 0 (by repeat' (first|exact ArgsH.nil|refine ArgsH.cons ?_ ?_|exact LSub.refl _|exact LSub.p Sub.nils|exact LSub.p (Sub.tt rfl)|exact LSub.p (Sub.ff rfl)|exact LSub.p (Sub.int (by omega)))) (by refine BlksH.cons (j:=0) rfl rfl ?_ ?_;exact CSub.refl _;exact BlksH.nil) (q6n acc p.procs[j].fin (by omega)) rfl rfl (LY (fun hjo => ?_) (fun hjo out => ?_))<;>conv=>whnf))
  ·rw [hjo] at hja;exact ⟨j+1,⟨by omega,by rw [<- h3,LO (f:=UC p) hjr (by rw [hrj];exact hja)]⟩,by omega,Le.of_eq rfl⟩
  ·rw [hjo] at hja;have e2:=WZ (f:=UC p) hjr (by rw [hrj];exact hja);rw [h3] at e2;rw [e2];exact QN rfl rfl
theorem XE {es:List AV} {sz:Nat} {out:List LV} {Kp Ko:Prop} (hx:(es.all fun x=>x.cells.length==sz)=true) (ho:out=(es.flatMap AV.cells).map .p) (hK:Kp):BsK es sz out Kp Ko := .pure (fun x h=>by simpa using List.all_eq_true.1 hx x h) ho hK
end Go.Ab
