/- tree, flat, scope: the names of an expression, of a statement; what a name is. -/
import Derived.Test.YtiaikoimoonlmaaGreatCfgD8
set_option linter.unusedSimpArgs false
set_option linter.unusedVariables false
set_option maxRecDepth 100000
set_option maxHeartbeats 16000000
open List (drop_eq_nil_of_le drop_zero length_append length_cons length_map mem_cons_self nil_append take_of_length_le)
open Nat (zero_le)
namespace Go.Ab
open Go.Proofs
theorem BO {es:List AV} {n:Nat} {K:Prop} (xs:List Str) (hn:n=es.length) (hb:es.length+xs.length<=8796093022208) (hK:K):AppK es (xs.map .str) n (xs.map AV.str).length 1 16 K :=
 .mk hn rfl (by rw [hn];simp;omega) (by rw [hn];simp [maxLen];omega) (fun x hx=>by obtain ⟨y,_,rfl⟩:=List.mem_map.1 hx;exact ⟨rfl,rfl⟩) hK
theorem WT {es:List AV} {n:Nat} {K:Prop} {s:Str} (hn:n=es.length) (hb:es.length<=8796093022000) (hK:K):AppK es [.str s] n 1 1 16 K :=
 .mk hn rfl (by omega) (by simp only [maxLen];omega) (fun x hx=>by rcases List.mem_singleton.1 hx with rfl;exact ⟨rfl,rfl⟩) hK
theorem YQ {es:List AV} {n:Nat} {K:Prop} {s:Int} (hn:n=es.length) (hb:es.length<=8796093022000) (hK:K):AppK es [.int .i64 s] n 1 1 8 K :=
 .mk hn rfl (by omega) (by simp only [maxLen];omega) (fun x hx=>by rcases List.mem_singleton.1 hx with rfl;exact ⟨rfl,rfl⟩) hK
mutual
def x1y:X->List Str->List Str
 | .mk op _ name kids,out=>KS kids (if op=2∧(out.any fun s=>name==s)=false then out++[name] else out)
def KS:List X->List Str->List Str
 | [],out=>out
 | x::r,out=>KS r (x1y x out)
end
theorem x2d (x:X) (out:List Str):x1y x out=KS x.kids (if x.op=2∧(out.any fun s=>x.name==s)=false then out++[x.name] else out):=by
 cases x;rw [x1y];rfl
theorem x6h {l:List X} {j:Nat} {out:List Str} (hj:j<l.length):KS (l.drop j) out=KS (l.drop (j+1)) (x1y l[j] out):=by
 rw [QJ hj,KS]
theorem z1j {l:List X} {j:Nat} {out:List Str} (hj:l.length<=j):KS (l.drop j) out=out:=by
 rw [drop_eq_nil_of_le hj,KS]
theorem NG {n:Nat} {x:X} (h:ZF (n+1) x=true):x.kids.length<=2∧(x.op=2->x.kids.length=0) ∧ ∀ k∈x.kids,ZF n k=true:=by
 rw [ZF] at h;simp only [Bool.and_eq_true,decide_eq_true_eq] at h;obtain ⟨h1,h2⟩:=h;refine ⟨?_,fun he => ?_,?_⟩
 ·unfold MA at h1;(repeat' split at h1)<;>omega
 ·unfold MA at h1;rw [if_pos (by omega)] at h1;omega
 ·by_cases h3:x.op=1
  ·have:x.kids.length=0:=by unfold MA at h1;rw [if_pos (by omega)] at h1;omega
   rw [List.eq_nil_of_length_eq_zero this];simp
  ·by_cases h4:x.op=2
   ·have:x.kids.length=0:=by unfold MA at h1;rw [if_pos (by omega)] at h1;omega
    rw [List.eq_nil_of_length_eq_zero this];simp
   ·rw [if_neg h3,if_neg h4] at h2;simp only [Bool.and_eq_true] at h2;exact List.all_eq_true.1 h2.2
theorem x8a : ∀ (n:Nat) (x:X) (out:List Str),ZF n x=true->out.length<=(x1y x out).length∧(x1y x out).length<=out.length+2 ^ n:=by
 intro n;induction n with
 | zero=>intro x out h;rw [ZF] at h;cases h
 | succ n ih =>
   intro x out h;obtain ⟨h1,h2,h3⟩:=NG h;have key : ∀ (l:List X) (o:List Str),(∀ k∈l,ZF n k=true)->o.length<=(KS l o).length∧(KS l o).length<=o.length+l.length*2 ^ n:=by
    intro l;induction l with
    | nil=>intro o _;simp [KS]
    | cons k r ihl =>
      intro o hk;rw [KS];have h5:=ih k o (hk k (by simp));have h6:=ihl (x1y k o) fun k hk'=>hk k (by simp [hk']);simp only [length_cons,Nat.add_mul,Nat.one_mul];omega
   rw [x2d];have hp:2 ^ (n+1)=2*2 ^ n:=by rw [Nat.pow_succ];omega
   have hpos:0<2 ^ n:=Nat.pow_pos (by decide);have h4:=key x.kids (if x.op=2∧(out.any fun s=>x.name==s)=false then out++[x.name] else out) h3;have h5:x.kids.length*2 ^ n<=2*2 ^ n:=Nat.mul_le_mul_right _ h1;split at h4
   ·rename_i hc;have:=h2 hc.1;rw [this] at h4;rw [if_pos hc];simp only [length_append,List.length_singleton] at h4;omega
   ·rename_i hc;rw [if_neg hc];omega
def x8m (t:Nat) (out:List Str):Heap:=[(2000,.own t 1 (out.map .str))]
theorem x3y : ∀ (n:Nat) (_:n<=20) (x:X) (_:ZF n x=true) (out:List Str) (_:out.length+2 ^ n<=1073741824),
  SpecH Tryz.prog 262 [.p (.agg x.cells),.hd 2000 0 out.length] (x8m 9 out) (fun r H=>r = .hd 2000 0 (x1y x out).length∧H=x8m 9 (x1y x out)):=by
 intro n;induction n with
 | zero=>intro _ x h;rw [ZF] at h;cases h
 | succ n ih =>
   intro hn x hx out ho;have hp:2 ^ (n+1)=2*2 ^ n:=by rw [Nat.pow_succ];omega
   have hpos:0<2 ^ n:=Nat.pow_pos (by decide);obtain ⟨hk1,hk2,hk3⟩:=NG hx;have hxl:=X.avs_len x.kids;refine sH q5y Tryz.func262 rfl Tryz.call262 ?_;conv=>whnf
   repeat' (first|((first|(refine iM fun _=>?_)|refine And.intro rfl ?_|refine aD ?_|refine bP ?_|(refine QO (QQ out x.name) (.cons (.hd rfl (by simp)) (.cons (.p (Sub.refl _)) .nil)) (by rintro _ rfl;rfl) ?_;rintro _ rfl)|refine AppK.mk (by simp) rfl (by show (out.length+1)*16<=140737488355328;omega) (by show out.length+1<=9223372036854775807;omega) (fun x hx=>by rcases List.mem_singleton.1 hx with rfl;exact ⟨rfl,rfl⟩) ?_);conv=>whnf)|(apply bD<;>intro _<;>first|omega|conv=>whnf)|(apply bN<;>intro _<;>conv=>whnf))
   all_goals
    have hmul : ∀ j,j<x.kids.length->(x.kids.length-j)*2 ^ n=(x.kids.length-(j+1))*2 ^ n+2 ^ n:=fun j hj=>by
     rw [show x.kids.length-j=(x.kids.length-(j+1))+1 by omega,Nat.add_mul,Nat.one_mul]
    have hmul0:x.kids.length*2 ^ n<=2*2 ^ n:=Nat.mul_le_mul_right _ hk1;first
    | refine LoopK.inv QU (fun i:Nat×List Str=>⟨[(1,.hd 2000 0 i.2.length),(23,.p (.sl (X.avs x.kids))),(24,.p (.int .i64 (X.avs x.kids).length)),(25,.p (.int .i64 i.1))],x8m 9 i.2⟩) (fun i=>i.1<=x.kids.length∧KS (x.kids.drop i.1) i.2=x1y x out∧i.2.length+(x.kids.length-i.1)*2 ^ n<=1073741824) (fun i=>x.kids.length-i.1) (0,out++[x.name]) (Le.of_eq (by simp [x8m];exact ⟨rfl,rfl⟩)) ⟨zero_le _,by simp only [drop_zero];rw [x2d,if_pos ⟨by assumption,by assumption⟩],by have:=hk2 (by assumption);simp [this];omega⟩ ?_
    | refine LoopK.inv QU (fun i:Nat×List Str=>⟨[(1,.hd 2000 0 i.2.length),(23,.p (.sl (X.avs x.kids))),(24,.p (.int .i64 (X.avs x.kids).length)),(25,.p (.int .i64 i.1))],x8m 9 i.2⟩) (fun i=>i.1<=x.kids.length∧KS (x.kids.drop i.1) i.2=x1y x out∧i.2.length+(x.kids.length-i.1)*2 ^ n<=1073741824) (fun i=>x.kids.length-i.1) (0,out) (Le.of_eq rfl) ⟨zero_le _,by simp only [drop_zero];rw [x2d,if_neg (by simp [*])],by simp only [Nat.sub_zero];omega⟩ ?_
    rintro ⟨j,acc⟩ ⟨h2,h3,h4⟩;simp only at h2 h3 h4 ⊢;conv=>whnf
    repeat' (first|((first|refine And.intro rfl ?_|refine IdxK.xs (by omega) ?_);conv=>whnf)|(apply bD<;>intro _<;>first|omega|conv=>whnf))
    all_goals first
     | (rw [z1j (by omega)] at h3
        exact ⟨_,.refl _,by rw [h3];exact ⟨rfl,rfl⟩⟩)
     | (have hj:j<x.kids.length:=by omega
        have hm:=hmul j hj;have hg:=x8a n x.kids[j] acc (hk3 _ (List.getElem_mem hj));refine CallK.heap [(2000,2000)] 0 (by repeat' (first|exact ArgsH.nil|refine ArgsH.cons ?_ ?_|exact LSub.refl _|exact LSub.p Sub.nils|exact LSub.p (Sub.tt rfl)|exact LSub.p (Sub.ff rfl)|exact LSub.p (Sub.int (by omega)))) (by refine BlksH.cons (j:=2000) rfl rfl ?_ ?_;exact CSub.refl _;exact BlksH.nil) (ih (by omega) x.kids[j] (hk3 _ (List.getElem_mem hj)) acc (by omega)) rfl rfl ?_;rintro l' H' ⟨rfl,rfl⟩;conv=>whnf
        refine wI ?_;conv=>whnf
        exact ⟨(j+1,x1y x.kids[j] acc),⟨by simp only;omega,by simp only;rw [<- h3,x6h hj],by simp only;omega⟩,by simp only;omega,Le.of_eq rfl⟩)
def WQ (x:X):List Str:=bif x8n x then x1y x [] else []
theorem HQ (x:X):(WQ x).length<=1048576:=by
 unfold WQ;cases h:x8n x with
 | false=>simp
 | true =>
   have:=(x8a 20 x [] h).2;simpa using this
theorem q4r (x:X):SpecP Tryz.prog 211 [.agg x.cells] (fun r=>r=QP (WQ x)):=by
 refine sB q8h Tryz.func211 rfl Tryz.call211 ?_;conv=>whnf
 repeat' (first|(refine cP (GU _) ?_;conv=>whnf)|(apply bN<;>intro _<;>conv=>whnf))
 ·refine CallK.nil 5 9 1 rfl (.cons rfl (.row .nil)) ?_;refine CallK.heap [(2000,5)] 0 (by repeat' (first|exact ArgsH.nil|refine ArgsH.cons ?_ ?_|exact LSub.refl _|exact LSub.p Sub.nils|exact LSub.p (Sub.tt rfl)|exact LSub.p (Sub.ff rfl)|exact LSub.p (Sub.int (by omega)))) (by refine BlksH.cons (j:=5) rfl rfl ?_ ?_;exact CSub.refl _;exact BlksH.nil) (x3y 20 (by omega) x (by assumption) [] (by simp)) rfl rfl ?_;rintro l' H' ⟨rfl,rfl⟩;conv=>whnf
  refine ⟨_,.hd rfl (by simp),?_⟩;unfold WQ;rw [show x8n x=true by assumption];rfl
 ·refine ⟨_,.p Sub.nils,?_⟩;unfold WQ;rw [show x8n x=false by assumption];rfl
def JV (a:Arg):List Str:=(bif a.ref then [a.name] else [])++WQ a.x
def KT (t:S):List Str:=(bif t.kind≠10 && !(t.name==[]) then [t.name] else [])++WQ t.x
def XA (t:S):List Str:=KT t++t.args.flatMap JV
theorem x7d (a:Arg):(JV a).length<=1048577:=by
 have:=HQ a.x;unfold JV;cases a.ref<;>simp<;>omega
theorem x6x (t:S):(KT t).length<=1048577:=by
 have:=HQ t.x;unfold KT;cases (t.kind≠10 && !(t.name==[]):Bool)<;>simp<;>omega
theorem q0l {α β:Type} {f:α->List β} {c:Nat} (h : ∀ a,(f a).length<=c) : ∀ l:List α,(l.flatMap f).length<=l.length*c
 | []=>by simp
 | x::r=>by
   have:=q0l h r;have:=h x;simp only [List.flatMap_cons,length_append,length_cons,Nat.add_mul,Nat.one_mul];omega
def x5c (t:S) (j:Nat):List Str:=KT t++(t.args.take j).flatMap JV
theorem z4u (t:S) {j:Nat} (h:j<=t.args.length) (ha:t.args.length<=20000):(x5c t j).length<=21000000000:=by
 have h1:=x6x t;have h2:=q0l x7d (t.args.take j);have h3:(t.args.take j).length*1048577<=20000*1048577:=Nat.mul_le_mul_right _ (by simp;omega);unfold x5c;simp only [length_append];omega
theorem z2n {t:S} {j:Nat} (hj:j<t.args.length):x5c t (j+1)=x5c t j++JV t.args[j]:=by
 unfold x5c;rw [List.take_succ_eq_append_getElem hj,List.flatMap_append,List.append_assoc];simp
def q4l (t:S) (tS:Nat) (j:Nat):St:=⟨[(3,.hd 0 0 (x5c t j).length),(25,.p (.sl (t.args.map fun a => .agg a.cells))),(26,.p (.int .i64 (t.args.map fun a=>AV.agg a.cells).length)),(27,.p (.int .i64 j))],[(0,.own tS 1 ((x5c t j).map .str))]⟩
theorem q4m (t:S) (ha:t.args.length<=20000):SpecP Tryz.prog 251 [.agg t.cells] (fun r=>r=QP (XA t)):=by
 refine sB x0l Tryz.func251 rfl Tryz.call251 ?_;conv=>whnf
 repeat' (first|((first|(refine iM fun _=>?_)|refine cP (q4r _) ?_|refine And.intro rfl ?_|refine aD ?_|refine bP ?_|refine BO _ (by simp) (by have:=HQ t.x;simp;omega) ?_|refine WT (by simp) (by simp) ?_);conv=>whnf)|(apply bE<;>intro _<;>first|omega|conv=>whnf)|(apply bN<;>intro _<;>conv=>whnf))
 all_goals
  have hl:(t.args.map fun a=>AV.agg a.cells).length=t.args.length:=length_map _;refine LoopK.inv QU (q4l t 9) (fun j=>j<=t.args.length) (fun j=>t.args.length-j) 0 (Le.of_eq ?_) (zero_le _) ?_
  ·first
    | (have e:x5c t 0=WQ t.x:=by simp [x5c,KT,show t.kind=10 by assumption]
       rw [q4l,e];simp only [Nat.zero_add,length_map,length_append,List.map_append,nil_append];rfl)
    | (have e:x5c t 0=WQ t.x:=by simp [x5c,KT,show t.name=[] by simpa using (show (t.name==[])=true by assumption)]
       rw [q4l,e];simp only [Nat.zero_add,length_map,length_append,List.map_append,nil_append];rfl)
    | (have e:x5c t 0=[t.name]++WQ t.x:=by
        have:(t.name==[])=false:=by assumption
        simp [x5c,KT,show ¬t.kind=10 by assumption,this]
       rw [q4l,e];simp only [Nat.zero_add,length_map,length_append,List.map_append,nil_append];rfl)
  intro j h2;have hacc:=z4u t h2 ha;conv=>whnf
  repeat' (first|((first|refine cP (q4r _) ?_|refine And.intro rfl ?_|refine aD ?_|refine bP ?_|(refine iA fun _=>?_)|refine wI ?_|refine BO _ (by simp) (by have:=HQ (t.args[j]'(by omega)).x;simp;omega) ?_|refine WT (by simp) (by simp;omega) ?_);conv=>whnf)|(apply bD<;>intro _<;>first|omega|conv=>whnf)|(apply bB<;>intro _<;>conv=>whnf))
  all_goals first
   | exact ⟨_,.hd rfl (by simp),by
      have:t.args.take j=t.args:=take_of_length_le (by omega);rw [XA,<- this];rfl⟩
   | (have hj:j<t.args.length:=by omega
      have hst:=z2n hj;refine ⟨j+1,by show j+1<=_;omega,by show t.args.length-(j+1)<t.args.length-j;omega,Le.of_eq ?_⟩;first
       | (have hn:JV t.args[j]=[t.args[j].name]++WQ t.args[j].x:=by rw [JV,show t.args[j].ref=true by assumption];rfl
          rw [q4l,hst,hn];simp only [length_append,List.map_append,length_map,<- List.append_assoc,<- Nat.add_assoc];rfl)
       | (have hn:JV t.args[j]=WQ t.args[j].x:=by rw [JV,show t.args[j].ref=false by assumption];rfl
          rw [q4l,hst,hn];simp only [length_append,List.map_append,length_map];rfl))
def x7k:List Str->Nat
 | []=>0
 | s::r=>1+x7k r
mutual
def wX:X->Nat
 | .mk _ _ name kids=>1+wXs kids
def wXs:List X->Nat
 | []=>0
 | x::r=>wX x+wXs r
end
def q2z:List Arg->Nat
 | []=>0
 | a::r=>wX a.x+1+q2z r
mutual
def wS:S->Nat
 | .mk _ _ labels name proc x _ args thn els=>wX x+x7k labels+1+1+q2z args+wL thn+wL els
def wL:List S->Nat
 | []=>0
 | s::r=>wS s+wL r
end
def z9n:List Param->Nat
 | []=>0
 | a::r=>1+z9n r
def wPr (f:Pr):Nat:=1+x7k f.vars+x7k f.fin+z9n f.params+wL f.body
def x9f:List Pr->Nat
 | []=>0
 | f::r=>wPr f+x9f r
def wPg (p:Pg):Nat:=x7k p.globals+x9f p.procs
def Fit (p:Pg):Prop:=wPg p<=20000
theorem HW : ∀ l:List Str,l.length<=x7k l
 | []=>zero_le _
 | s::r=>by have:=HW r;simp only [length_cons,x7k];omega
theorem GC : ∀ l:List Arg,l.length<=q2z l
 | []=>zero_le _
 | s::r=>by have:=GC r;simp only [length_cons,q2z];omega
theorem x4x : ∀ l:List Param,l.length<=z9n l
 | []=>zero_le _
 | s::r=>by have:=x4x r;simp only [length_cons,z9n];omega
theorem x6a (s:S):wS s=wX s.x+x7k s.labels+1+1+q2z s.args+wL s.thn+wL s.els:=by
 cases s;rw [wS];rfl
mutual
theorem w2l : ∀ s:S,ZM s<=wS s
 | .mk id kind labels name proc x has args thn els=>by
   have:=q8d thn;have:=q8d els;rw [ZM,wS];omega
theorem q8d : ∀ l:List S,cntL l<=wL l
 | []=>by rw [cntL,wL];exact Nat.le_refl _
 | s::r=>by
   have:=w2l s;have:=q8d r;rw [cntL,wL];omega
end
theorem z2e : ∀ {l:List Pr} {f:Pr},f∈l->wPr f<=x9f l
 | g::r,f,h=>by
   simp only [x9f];rcases List.mem_cons.1 h with rfl|h
   ·omega
   ·have:=z2e h;omega
theorem Fit.pr {p:Pg} (h:Fit p) {f:Pr} (hf:f∈p.procs):wPr f<=20000:=by
 have:=z2e hf;unfold Fit wPg at h;omega
mutual
def flS:S->List S
 | .mk id kind labels name proc x has args thn els => .mk id kind labels name proc x has args thn els::(flL thn++flL els)
def flL:List S->List S
 | []=>[]
 | s::r=>flS s++flL r
end
theorem z7o (s:S):flS s=s::(flL s.thn++flL s.els):=by
 cases s;rw [flS];rfl
mutual
theorem z8g : ∀ s:S,(flS s).length=ZM s
 | .mk id kind labels name proc x has args thn els=>by
   rw [flS,ZM,length_cons,length_append,q2d thn,q2d els];omega
theorem q2d : ∀ l:List S,(flL l).length=cntL l
 | []=>by rw [flL,cntL];rfl
 | s::r=>by rw [flL,cntL,length_append,z8g s,q2d r]
end
mutual
theorem w5f : ∀ (s t:S),t∈flS s->wS t<=wS s
 | .mk id kind labels name proc x has args thn els,t,h=>by
   rw [flS] at h;rcases List.mem_cons.1 h with rfl|h
   ·exact Nat.le_refl _
   ·rw [wS];rcases List.mem_append.1 h with h|h
    ·have:=x0x thn t h;omega
    ·have:=x0x els t h;omega
theorem x0x : ∀ (l:List S) (t:S),t∈flL l->wS t<=wL l
 | [],t,h=>by rw [flL] at h;cases h
 | s::r,t,h=>by
   rw [flL] at h;rw [wL];rcases List.mem_append.1 h with h|h
   ·have:=w5f s t h;omega
   ·have:=x0x r t h;omega
end

mutual
def itS (proc up nx loop:Int) (n:Nat):S->List Item
 | .mk id kind labels name pr x has args thn els =>
   ⟨.mk id kind labels name pr x has args thn els,proc,up,nx,loop⟩::(itL proc (n+1) (if kind=6 then n+1 else nx) (if kind=6 then n+1 else loop) (n+1) thn ++
     itL proc (n+1) (if kind=6 then n+1 else nx) (if kind=6 then n+1 else loop) (n+1+cntL thn) els)
def itL (proc up nx loop:Int) (n:Nat):List S->List Item
 | []=>[]
 | t::r=>itS proc up (if r.isEmpty then nx else n+1+ZM t) loop n t++itL proc up nx loop (n+ZM t) r
end
mutual
theorem z8d (proc up nx loop:Int) : ∀ (t:S) (acc:List Item),LB proc up nx loop acc t=acc++itS proc up nx loop acc.length t
 | .mk id kind labels name pr x has args thn els,acc=>by
   rw [LB,itS,KW _ _ _ _ thn,KW _ _ _ _ els];simp only [length_append,length_cons,List.length_nil,List.append_assoc,List.cons_append,nil_append,ZZ proc _ _ _ _ thn,Nat.zero_add,Nat.add_assoc,Nat.add_comm (cntL thn) 1]
theorem KW (proc up nx loop:Int) : ∀ (l:List S) (acc:List Item),XZ proc up nx loop acc l=acc++itL proc up nx loop acc.length l
 | [],acc=>by rw [XZ,itL,List.append_nil]
 | t::r,acc=>by
   rw [XZ,itL,z8d _ _ _ _ t,KW _ _ _ _ r];simp only [length_append,List.append_assoc,z0o proc _ _ _ _ t]
theorem z0o (proc up nx loop:Int) (n:Nat) : ∀ t:S,(itS proc up nx loop n t).length=ZM t
 | .mk id kind labels name pr x has args thn els=>by
   rw [itS,ZM,length_cons,length_append,ZZ _ _ _ _ _ thn,ZZ _ _ _ _ _ els];omega
theorem ZZ (proc up nx loop:Int) (n:Nat) : ∀ l:List S,(itL proc up nx loop n l).length=cntL l
 | []=>by rw [itL,cntL];rfl
 | t::r=>by rw [itL,cntL,length_append,z0o _ _ _ _ _ t,ZZ _ _ _ _ _ r]
end
mutual
theorem w4q (proc up nx loop:Int) (n:Nat) : ∀ t:S,(itS proc up nx loop n t).map Item.s=flS t
 | .mk id kind labels name pr x has args thn els=>by
   rw [itS,flS,List.map_cons,List.map_append,BC _ _ _ _ _ thn,BC _ _ _ _ _ els]
theorem BC (proc up nx loop:Int) (n:Nat) : ∀ l:List S,(itL proc up nx loop n l).map Item.s=flL l
 | []=>by rw [itL,flL];rfl
 | t::r=>by rw [itL,flL,List.map_append,w4q _ _ _ _ _ t,BC _ _ _ _ _ r]
end
def QR:List Pr->Nat->Nat
 | _,0=>0
 | [],_+1=>0
 | f::r,i+1=>cntL f.body+QR r i
theorem q9j : ∀ (l:List Pr) (i:Nat) (acc:List Item) (lo hi:List Int),lo.length=i->hi.length=i ->
  (NI i acc lo hi l).2.1.length=i+l.length∧(NI i acc lo hi l).2.2.length=i+l.length ∧
  (∀ k,k<i->(NI i acc lo hi l).2.1[k]? = lo[k]? ∧ (NI i acc lo hi l).2.2[k]? = hi[k]?) ∧ ∃ L,(NI i acc lo hi l).1=acc++L∧L.length=VU l ∧
  ∀ (k:Nat) (f:Pr),l[k]? = some f->(NI i acc lo hi l).2.1[i+k]? = some ((acc.length+QR l k:Nat)+1:Int)∧(NI i acc lo hi l).2.2[i+k]? = some ((acc.length+QR l k+cntL f.body:Nat)+1:Int) ∧
   QR l k+cntL f.body<=VU l∧(L.take (QR l k+cntL f.body)).drop (QR l k)=itL (i+k:Nat) 0 (-1) 0 (acc.length+QR l k) f.body
 | [],i,acc,lo,hi,h1,h2=>by
   rw [NI];exact ⟨by simpa using h1,by simpa using h2,fun _ _=>⟨rfl,rfl⟩,[],by simp,rfl,fun k f h=>by simp at h⟩
 | f::r,i,acc,lo,hi,h1,h2=>by
   rw [NI];have hrow:=KW i 0 (-1) 0 f.body acc;have hlen:=XQ i 0 (-1) 0 acc f.body;obtain ⟨h3,h4,h5,L,h6,h7,h8⟩:=q9j r (i+1) (XZ i 0 (-1) 0 acc f.body) (lo++[(acc.length:Int)+1]) (hi++[((XZ i 0 (-1) 0 acc f.body).length:Int)+1]) (by simp [h1]) (by simp [h2]);refine ⟨by rw [h3,length_cons];omega,by rw [h4,length_cons];omega,fun k hk => ?_,itL i 0 (-1) 0 acc.length f.body++L,?_,?_,fun k g hg => ?_⟩
   ·obtain ⟨h9,h10⟩:=h5 k (by omega);rw [h9,h10,List.getElem?_append_left (by omega),List.getElem?_append_left (by omega)];exact ⟨rfl,rfl⟩
   ·rw [h6,hrow,List.append_assoc]
   ·rw [length_append,h7,ZZ,VU]
   ·cases k with
    | zero =>
      simp only [List.getElem?_cons_zero,Option.some.injEq] at hg;subst hg;obtain ⟨h9,h10⟩:=h5 i (by omega);simp only [Nat.add_zero,QR,Nat.zero_add,drop_zero];refine ⟨?_,?_,?_,?_⟩
      ·rw [h9,List.getElem?_append_right (by omega),h1];simp
      ·rw [h10,List.getElem?_append_right (by omega),h2,hlen];simp
      ·rw [VU];omega
      ·rw [List.take_append_of_le_length (by rw [ZZ];omega),take_of_length_le (by rw [ZZ];omega)]
    | succ k =>
      simp only [List.getElem?_cons_succ] at hg;obtain ⟨h9,h10,h11,h12⟩:=h8 k g hg;rw [hlen] at h12;simp only [QR];refine ⟨?_,?_,?_,?_⟩
      ·rw [show i+(k+1)=i+1+k by omega,h9,hlen];congr 2;omega
      ·rw [show i+(k+1)=i+1+k by omega,h10,hlen];congr 2;omega
      ·rw [VU];omega
      ·rw [List.take_append,List.drop_append,ZZ,take_of_length_le (by rw [ZZ];omega),drop_eq_nil_of_le (by rw [ZZ];omega),nil_append];simp only [ZZ];rw [show cntL f.body+QR r k+cntL g.body-cntL f.body=QR r k+cntL g.body by omega,show cntL f.body+QR r k-cntL f.body=QR r k by omega,h12];rw [show i+(k+1)=i+1+k by omega,show acc.length+(cntL f.body+QR r k)=acc.length+cntL f.body+QR r k by omega]
theorem QV (p:Pg):(sheetOf p).p=p∧(sheetOf p).lo.length=p.procs.length∧(sheetOf p).hi.length=p.procs.length∧(sheetOf p).l.length=VU p.procs ∧
  ∀ (k:Nat) (f:Pr),p.procs[k]? = some f->(sheetOf p).lo[k]? = some ((QR p.procs k:Nat)+1:Int)∧(sheetOf p).hi[k]? = some ((QR p.procs k+cntL f.body:Nat)+1:Int) ∧
   QR p.procs k+cntL f.body<=VU p.procs∧((sheetOf p).l.take (QR p.procs k+cntL f.body)).drop (QR p.procs k)=itL k 0 (-1) 0 (QR p.procs k) f.body:=by
 obtain ⟨h3,h4,_,L,h6,h7,h8⟩:=q9j p.procs 0 [] [] [] rfl rfl;refine ⟨rfl,by unfold sheetOf;simpa using h3,by unfold sheetOf;simpa using h4,by unfold sheetOf;simp [h6,h7],fun k f hk => ?_⟩;have:=h8 k f hk;unfold sheetOf;simp only [h6,nil_append,List.length_nil,Nat.zero_add] at this ⊢;exact this
mutual
theorem x5x (nest seen:Int) : ∀ (s:S) {m:Int},q5g nest seen s=some m->m=seen+ZM s
 | .mk id kind labels name proc x has args thn els,m,h=>by
   simp only [q5g] at h;split at h
   ·cases h
   split at h
   ·cases h
   cases hn:namesB labels<;>rw [hn] at h
   ·cases h
   cases hf:ZX (.mk id kind labels name proc x has args thn els)<;>rw [hf] at h
   ·cases h
   simp only [cond_true] at h;split at h
   ·rename_i m1 h1;have h2:=YH (nest+1) (seen+1) thn h1;have h3:=YH (nest+1) m1 els h;rw [ZM];omega
   ·cases h
theorem YH (nest seen:Int) : ∀ (l:List S) {m:Int},VH nest seen l=some m->m=seen+cntL l
 | [],m,h=>by
   simp only [VH] at h;cases h;rw [cntL];simp
 | s::r,m,h=>by
   simp only [VH] at h;split at h
   ·cases h
   split at h
   ·rename_i m1 h1;have h2:=x5x nest seen s h1;have h3:=YH nest m1 r h;rw [cntL];omega
   ·cases h
end
theorem q4f : ∀ (l:List Pr) {seen m:Int},seen<=200->XJ seen l=some m->m=seen+VU l∧m<=200
 | [],seen,m,h0,h=>by rw [XJ] at h;cases h;simp [VU];exact h0
 | f::r,seen,m,h0,h=>by
   rw [XJ] at h;cases hm:JT f<;>rw [hm] at h
   ·cases h
   simp only [cond_true] at h;split at h
   ·rename_i m1 h1;have h2:=YH 1 seen f.body h1;have h3:=q0i 1 seen f.body h0 h1;have h4:=q4f r (by omega) h;rw [VU];omega
   ·cases h
theorem ZI {p:Pg} (h:JA p=true):p.globals.length<=16∧p.procs.length<=16∧VU p.procs<=200:=by
 unfold JA at h;simp only [Bool.and_eq_true,decide_eq_true_eq] at h;obtain ⟨⟨⟨h1,h2⟩,_⟩,h3⟩:=h;cases hm:XJ 0 p.procs with
 | none=>rw [hm] at h3;cases h3
 | some m =>
   have:=q4f p.procs (by decide) hm;omega
theorem z0u {p:Pg} (h:JA p=true) {f:Pr} (hf:f∈p.procs):JT f=true:=by
 unfold JA at h;simp only [Bool.and_eq_true] at h;have h3:=h.2;have key : ∀ (l:List Pr) (seen:Int),(XJ seen l).isSome=true -> ∀ f∈l,JT f=true:=fun l=>by
  induction l with
  | nil=>intro _ _ f hf;cases hf
  | cons g r ih =>
    intro seen h f hf;rw [XJ] at h;cases hm:JT g<;>rw [hm] at h
    ·cases h
    simp only [cond_true] at h;split at h
    ·rename_i m1 h1;rcases List.mem_cons.1 hf with rfl|hf
     ·exact hm
     ·exact ih _ h f hf
    ·cases h
 exact key _ _ h3 f hf
def ME (p:Pg) (f:Pr) (name:Str):Int :=
 match f.params.find? (fun a=>a.name==name) with
 | some a=>bif a.ref then 3 else 2
 | none=>bif f.vars.any (fun s=>name==s) then 4 else bif p.globals.any (fun s=>name==s) then 1 else 0
theorem PM {α:Type} {l:List α} {p:α->Bool} {j:Nat} (hj:j<l.length) (h:p l[j]=false):(l.drop (j+1)).find? p=(l.drop j).find? p:=by
 rw [QJ hj,List.find?_cons,h]
theorem HX {α:Type} {l:List α} {p:α->Bool} {j:Nat} (hj:j<l.length) (h:p l[j]=true):(l.drop j).find? p=some l[j]:=by
 rw [QJ hj,List.find?_cons,h]
theorem GO {α:Type} {l:List α} {p:α->Bool} {j:Nat} (hj:l.length<=j):(l.drop j).find? p=none:=by
 rw [drop_eq_nil_of_le hj];rfl
theorem x6e (p:Pg) (f:Pr) (name:Str):SpecP Tryz.prog 107 [.agg p.cells,.agg f.cells,.str name] (fun r=>r = .int .i64 (ME p f name)):=by
 refine sB x0w Tryz.func107 rfl Tryz.call107 ?_;conv=>whnf
 repeat' (refine iM fun _=>?_;conv=>whnf)
 have hl:(f.params.map fun a=>AV.agg a.cells).length=f.params.length:=length_map _;refine LoopK.inv QU (fun j:Nat=>⟨[(2,.p (.str name)),(3,.p (.ip p.cells)),(4,.p (.ip f.cells)),(10,.p (.sl (f.params.map fun a => .agg a.cells))),(11,.p (.int .i64 (f.params.map fun a=>AV.agg a.cells).length)),(12,.p (.int .i64 j))],[]⟩) (fun j=>j<=f.params.length∧(f.params.drop j).find? (fun a=>a.name==name)=f.params.find? (fun a=>a.name==name)) (fun j=>f.params.length-j) 0 (Le.of_eq rfl) ⟨zero_le _,rfl⟩ ?_;rintro j ⟨h2,h3⟩;conv=>whnf
 repeat' (first|((first|refine cP (QQ _ _) ?_|refine And.intro rfl ?_|(refine iA fun _=>?_)|refine wI ?_);conv=>whnf)|(apply bD<;>intro _<;>first|omega|conv=>whnf)|(apply bB<;>intro _<;>conv=>whnf))
 all_goals try have hj:j<f.params.length:=by omega
 all_goals first
  | (exfalso
     have h8:((f.params[j]'(by omega)).name==name)=true:=by assumption
     have h9:((f.params[j]'(by omega)).name==name)=false:=by assumption
     rw [h8] at h9;cases h9)
  | (have e:=HX (p:=fun a:Param=>a.name==name) (by omega) (by assumption)
     rw [h3] at e;exact RetK.int (by unfold ME;rw [e];simp [*]))
  | (refine ⟨j+1,⟨by omega,by rw [<- h3,PM (p:=fun a:Param=>a.name==name) (by omega) (by assumption)]⟩,by omega,Le.of_eq rfl⟩)
  | (have e:f.params.find? (fun a=>a.name==name)=none:=by rw [<- h3,GO (by omega)]
     exact RetK.int (by unfold ME;rw [e];simp [*]))
def mainS:Str:=[109,97,105,110]
def knownB (p:Pg) (f:Pr) (procs:List Str) (t:S):Bool:=(XA t).all (fun n => !(ME p f n==0))&&(decide (t.kind≠4)||(!(t.proc==mainS)&&procs.any fun s=>t.proc==s))
theorem x1t (p:Pg) (f:Pr) (procs:List Str) (t:S) (ha:t.args.length<=20000):SpecP Tryz.prog 196 [.agg p.cells,.agg f.cells,QP procs,.agg t.cells] (fun r=>r = .bool (knownB p f procs t)):=by
 refine sB q5s Tryz.func196 rfl Tryz.call196 ?_;conv=>whnf
 repeat' ((first|(refine iM fun _=>?_)|refine cP (q4m _ ha) ?_);conv=>whnf)
 have hl:((XA t).map AV.str).length=(XA t).length:=length_map _;refine LoopK.inv QU (fun j:Nat=>⟨[(2,.p (QP procs)),(4,.p (.ip p.cells)),(5,.p (.ip f.cells)),(7,.p (.ip t.cells)),(12,.p (QP (XA t))),(13,.p (.int .i64 ((XA t).map AV.str).length)),(14,.p (.int .i64 j))],[]⟩) (fun j=>j<=(XA t).length∧((XA t).drop j).all (fun n => !(ME p f n==0))=(XA t).all (fun n => !(ME p f n==0))) (fun j=>(XA t).length-j) 0 (Le.of_eq rfl) ⟨zero_le _,rfl⟩ ?_;rintro j ⟨h2,h3⟩;conv=>whnf
 repeat' (first|((first|refine cP (x6e _ _ _) ?_|refine cP (QQ _ _) ?_|(refine iA fun _=>?_)|refine wI ?_);conv=>whnf)|(apply bD<;>intro _<;>first|omega|conv=>whnf)|(apply bE<;>intro _<;>first|omega|conv=>whnf)|(apply bN<;>intro _<;>conv=>whnf))
 ·exact RetK.ff (by
   have e:=q4i (p:=fun n => !(ME p f n==0)) (l:=XA t) (j:=j) (by omega) (by simp;assumption);rw [knownB,<- h3,e,Bool.false_and])
 ·exact ⟨j+1,⟨by omega,by rw [<- h3,q1r (p:=fun n => !(ME p f n==0)) (by omega) (by simp;assumption)]⟩,by omega,Le.of_eq rfl⟩
 all_goals
  have e:(XA t).all (fun n => !(ME p f n==0))=true:=by rw [<- h3,q2x (by omega)]
 ·exact RetK.ff (by
   have h8:(t.proc==mainS)=true:=by assumption
   rw [knownB,e,h8];simp [*])
 ·exact RetK.bool (by
   have h8:(t.proc==mainS)=false:=by assumption
   rw [knownB,e,h8];simp [*])
 ·exact RetK.tt (by rw [knownB,e];simp [*])
def q4t (c at_:Int):AV := .agg [.int .i64 c,.int .i64 at_]
def procsN (p:Pg):List Str:=p.procs.map Pr.name
def XM (p:Pg):Bool:=XE p.globals||(XE (procsN p)||(!((procsN p).any fun s=>mainS==s)||match p.procs.find? (fun f=>mainS==f.name) with
 | some f=>decide (0<f.params.length)
 | none=>true))
def ZR (p:Pg) (f:Pr):Option Int :=
 bif XE (NB f)||(NB f).any (fun n=>p.globals.any fun s=>n==s) then some 0 else ((flL f.body).find? fun t => !knownB p f (procsN p) t).map S.id
def QM (p:Pg):Int×Int :=
 bif JA p then bif XM p then (5,0) else match p.procs.findSome? (ZR p) with
  | some a=>(5,a)
  | none=>(0,0)
 else (1,0)
theorem x4t {α:Type} {l:List α} {p:α->Bool} (h:l.any p=true) : ∃ (k:Nat) (hk:k<l.length),idxF p l=k∧p l[k]=true∧l.find? p=some l[k]:=by
 have h1:l.findIdx p<l.length:=by
  rw [List.findIdx_lt_length];exact List.any_eq_true.1 h
 refine ⟨l.findIdx p,h1,by unfold idxF;rw [h];rfl,List.findIdx_getElem,?_⟩;rw [List.find?_eq_some_iff_getElem];exact ⟨List.findIdx_getElem,l.findIdx p,h1,rfl,fun j hj=>by simpa using List.not_of_lt_findIdx hj⟩
theorem x3d {p:Pg} (h:(procsN p).any (fun s=>mainS==s)=true) : ∃ (k:Nat) (hk:k<p.procs.length),idxF (fun s=>mainS==s) (procsN p)=k∧p.procs.find? (fun f=>mainS==f.name)=some p.procs[k]:=by
 have h':p.procs.any (fun f=>mainS==f.name)=true:=by simpa [procsN,List.any_map,Function.comp_def] using h
 obtain ⟨k,hk,h1,_,h2⟩:=x4t h';refine ⟨k,hk,?_,h2⟩;rw [<- h1];unfold idxF;rw [h,h'];simp [procsN,List.findIdx_map,Function.comp_def]
theorem x6u (p:Pg) {j:Nat} {f:Pr} (hj:p.procs[j]? = some f) (hc:VU p.procs<=1000):SpecP Tryz.prog 195 [.ip (sheetOf p).cells,.int .i64 j] (fun r=>r=YC (itL j 0 (-1) 0 (QR p.procs j) f.body)):=by
 obtain ⟨_,h2,h3,h4,h5⟩:=QV p;obtain ⟨h6,h7,h8,h9⟩:=h5 j f hj;have:=q6q (sheetOf p) j _ _ h6 h7 (by omega) (by omega) (by omega);rw [h9] at this;exact this
theorem WV (l:List Item):(l.map fun i=>AV.agg i.cells).length=l.length:=length_map _
theorem q2f {α β:Type} {l:List α} {f:α->Option β} {j:Nat} (hj:j<l.length) (h:f l[j]=none):(l.drop (j+1)).findSome? f=(l.drop j).findSome? f:=by
 rw [QJ hj,List.findSome?_cons,h]
theorem WX {α β:Type} {l:List α} {f:α->Option β} {j:Nat} {b:β} (hj:j<l.length) (h:f l[j]=some b):(l.drop j).findSome? f=some b:=by
 rw [QJ hj,List.findSome?_cons,h]
theorem MQ {α β:Type} {l:List α} {f:α->Option β} {j:Nat} (hj:l.length<=j):(l.drop j).findSome? f=none:=by
 rw [drop_eq_nil_of_le hj];rfl
theorem HZ {q:S->Bool} (l:List Item):(l.find? fun it=>q it.s).map (fun it=>it.s.id)=((l.map Item.s).find? q).map S.id:=by
 rw [List.find?_map];cases h:l.find? (q∘Item.s) with
 | none=>rw [show (l.find? fun it=>q it.s)=none from h];rfl
 | some i=>rw [show (l.find? fun it=>q it.s)=some i from h];rfl
theorem x9b {l:List Pr} {j:Nat} (hj:j<l.length) (h:wPr l[j]<=20000) {a b c d:Int} {n k:Nat} (hk:k<(itL a b c d n l[j].body).length):(itL a b c d n l[j].body)[k].s.args.length<=20000:=by
 have hm:(itL a b c d n l[j].body)[k].s∈flL l[j].body:=by
  rw [<- BC a b c d n];exact List.mem_map.2 ⟨_,List.getElem_mem hk,rfl⟩
 have h1:=x0x _ _ hm;have h2:=x6a (itL a b c d n l[j].body)[k].s;have h3:=GC (itL a b c d n l[j].body)[k].s.args;unfold wPr at h;omega
theorem QB {H:Heap} {a b c d:Int} (h:a=c) (h':b=d):RetK H (.p (.agg [.int .i64 a,.int .i64 b])) (fun r=>r=q4t c d):=⟨_,.p (Sub.refl _),by rw [h,h'];rfl⟩
theorem UC (p:Pg) (hf:Fit p):SpecP Tryz.prog 124 [.agg p.cells] (fun r=>r=q4t (QM p).1 (QM p).2):=by
 refine sB q7g Tryz.func124 rfl Tryz.call124 ?_;conv=>whnf
 repeat' (first|((first|(refine iM fun _=>?_)|refine cP (q7f _) ?_|refine And.intro rfl ?_);conv=>whnf)|(apply bN<;>intro _<;>conv=>whnf))
 rotate_left 1
 ·exact QB (by simp [QM, *]) (by simp [QM, *])
 have hm:JA p=true:=by assumption
 obtain ⟨hg,hpl,hcn⟩:=ZI hm;have hl:(p.procs.map fun f=>AV.agg f.cells).length=p.procs.length:=length_map _;have hnl:(procsN p).length=p.procs.length:=by simp [procsN]
 refine LoopK.inv QU (fun i:Nat×List Str=>⟨[(1,.p (.ip p.cells)),(2,.ptr 1 0),(3,.hd 0 0 i.2.length),(18,.p (.sl (p.procs.map fun f => .agg f.cells))),(19,.p (.int .i64 (p.procs.map fun f=>AV.agg f.cells).length)),(20,.p (.int .i64 i.1))],[(0,.own 9 1 (i.2.map .str)),(1,.obj 112 [.p (.int .i64 0),.p (.int .i64 0)])]⟩)
  (fun i=>i.1<=p.procs.length∧i.2=(procsN p).take i.1) (fun i=>p.procs.length-i.1) (0,[])
  (Le.mk [(0,.own 9 1 [])] (by simp [Chunk.new0];rfl) (by simp) (by simp) (.cons (.refl _) (.cons (.refl _) (.cons (.nil mem_cons_self) (.cons (.refl _) (.cons (.refl _) (.cons (.refl _) .nil)))))) (.new mem_cons_self (.cons rfl (.refl _) .nil)))
  ⟨zero_le _,by simp⟩ ?_
 rintro ⟨j,acc⟩ ⟨h2,h3⟩;simp only at h2 h3 ⊢;have hal:acc.length<=16:=by rw [h3];simp;omega
 conv=>whnf
 repeat' (first|((first|refine And.intro rfl ?_|refine aD ?_|refine bP ?_|(refine iA fun _=>?_)|refine wI ?_|refine WT (by simp) (by simp;omega) ?_|(refine QO (QE acc mainS) (.cons (.hd rfl (by simp)) (.cons (.p (Sub.refl _)) .nil)) (by rintro _ rfl;rfl) ?_;rintro _ rfl)|(refine QO (FK acc) (.cons (.hd rfl (by simp)) .nil) (by rintro _ rfl;rfl) ?_;rintro _ rfl)|refine cP (FK _) ?_);conv=>whnf)|(apply bD<;>intro _<;>first|omega|conv=>whnf)|(apply bB<;>intro _<;>conv=>whnf))
 ·exact ⟨(j+1,acc++[p.procs[j].name]),⟨by simp only;omega,by simp only;rw [h3,List.take_succ_eq_append_getElem (by omega)];simp [procsN]⟩,by simp only;omega,Le.of_eq (by simp only [length_append,List.map_append];rfl)⟩
 all_goals
  have hacc:acc=procsN p:=by rw [h3,take_of_length_le (by omega)]
  clear h3;subst hacc
 ·have hb:XM p=true:=by unfold XM;rw [show XE p.globals=true by assumption];rfl
  exact QB (by unfold QM;rw [hm,hb];rfl) (by unfold QM;rw [hm,hb];rfl)
 ·have hb:XM p=true:=by unfold XM;rw [show XE p.globals=false by assumption,show XE (procsN p)=true by assumption];rfl
  exact QB (by unfold QM;rw [hm,hb];rfl) (by unfold QM;rw [hm,hb];rfl)
 ·have hany:((procsN p).any fun s=>mainS==s)=false:=by
   rw [<- PD];simp;omega
  have hb:XM p=true:=by unfold XM;rw [show XE p.globals=false by assumption,show XE (procsN p)=false by assumption,hany];rfl
  exact QB (by unfold QM;rw [hm,hb];rfl) (by unfold QM;rw [hm,hb];rfl)
 have hany:((procsN p).any fun s=>mainS==s)=true:=by
  rw [<- PD];simp;omega
 obtain ⟨k,hk,hik,hfind⟩:=x3d hany;have hlk:(p.procs.map fun f=>AV.agg f.cells)[k]? = some (.agg p.procs[k].cells):=by simp [hk]
 have hpl2:(p.procs[k].params.map fun a=>AV.agg a.cells).length=p.procs[k].params.length:=length_map _;refine IdxK.at hik hlk rfl ?_;conv=>whnf
 repeat' (first|((first|(refine iM fun _=>?_)|refine And.intro rfl ?_|(refine CallK.pure (WF p (by omega) (by omega)) (.cons (Sub.refl _) .nil) ?_;rintro _ rfl));conv=>whnf)|(apply bD<;>intro _<;>first|omega|conv=>whnf))
 ·have hb:XM p=true:=by
   unfold XM;rw [show XE p.globals=false by assumption,show XE (procsN p)=false by assumption,hany,hfind];have:0<p.procs[k].params.length:=by omega
   simp [this]
  exact QB (by unfold QM;rw [hm,hb];rfl) (by unfold QM;rw [hm,hb];rfl)
 have hb:XM p=false:=by
  unfold XM;rw [show XE p.globals=false by assumption,show XE (procsN p)=false by assumption,hany,hfind];have : ¬0<p.procs[k].params.length:=by omega
  simp [this]
 have hsc:QM p=match p.procs.findSome? (ZR p) with
  | some a=>(5,a)
  | none=>(0,0):=by unfold QM;rw [hm,hb];rfl
 rw [hsc];refine LoopK.inv QU (fun j:Nat=>⟨[(1,.p (.ip p.cells)),(2,.ptr 1 0),(3,.hd 0 0 (procsN p).length),(7,.p (.ip (sheetOf p).cells)),(57,.p (.sl (p.procs.map fun f => .agg f.cells))),(58,.p (.int .i64 (p.procs.map fun f=>AV.agg f.cells).length)),(59,.p (.int .i64 j))],[(0,.own 9 1 ((procsN p).map .str)),(1,.obj 112 [.p (.int .i64 0),.p (.int .i64 0)])]⟩)
  (fun j=>j<=p.procs.length∧(p.procs.drop j).findSome? (ZR p)=p.procs.findSome? (ZR p)) (fun j=>p.procs.length-j) 0 (Le.of_eq rfl) ⟨zero_le _,rfl⟩ ?_
 clear h2 hik hfind hlk hpl2;rintro j ⟨h2,h3⟩;rcases Nat.lt_or_ge j p.procs.length with hj|hj;rotate_left 1
 ·have e:p.procs.findSome? (ZR p)=none:=by rw [<- h3,MQ hj]
  rw [e];conv=>whnf
  repeat' (first|(refine And.intro rfl ?_;conv=>whnf)|(apply bD<;>intro _<;>first|omega|conv=>whnf))
  exact QB rfl rfl
 have hfp:=hf.pr (List.getElem_mem hj);have hmp:=KA.1 (z0u hm (List.getElem_mem hj));conv=>whnf
 repeat' (first|((first|(refine iM fun _=>?_)|refine cP (FK _) ?_|refine And.intro rfl ?_|(refine iA fun _=>?_)|(refine CallK.pure (x0g (p.procs[j]'hj) (by have:=hmp.1;omega) (by have:=hmp.2.1;omega)) (.cons (Sub.refl _) .nil) ?_;rintro _ rfl)|refine cP (WK (NB (p.procs[j]'hj)) 194 (.ip p.cells) (fun n=>p.globals.any fun s=>n==s) (q7x p)) ?_|(refine CallK.pure (x6u p (f:=p.procs[j]'hj) (by simp) (by omega)) (.cons (Sub.refl _) (.cons (Sub.refl _) .nil)) ?_;rintro _ rfl));conv=>whnf)|(apply bD<;>intro _<;>first|omega|conv=>whnf)|(apply bB<;>intro _<;>conv=>whnf))
 ·have e:ZR p p.procs[j]=some 0:=by
   unfold ZR;rw [show XE (NB p.procs[j])=true by assumption];rfl
  have e2:=WX hj e;rw [h3] at e2;rw [e2];exact QB rfl rfl
 ·have e:ZR p p.procs[j]=some 0:=by
   unfold ZR;rw [show XE (NB p.procs[j])=false by assumption,show ((NB p.procs[j]).any fun n=>p.globals.any fun s=>n==s)=true by assumption];rfl
  have e2:=WX hj e;rw [h3] at e2;rw [e2];exact QB rfl rfl
 have hsa:ZR p p.procs[j]=((flL p.procs[j].body).find? fun t => !knownB p p.procs[j] (procsN p) t).map S.id:=by
  unfold ZR;rw [show XE (NB p.procs[j])=false by assumption,show ((NB p.procs[j]).any fun n=>p.globals.any fun s=>n==s)=false by assumption];rfl
 have hitm : ∀ k (hk:k<(itL (j:Nat) 0 (-1) 0 (QR p.procs j) p.procs[j].body).length),(itL (j:Nat) 0 (-1) 0 (QR p.procs j) p.procs[j].body)[k].s.args.length<=20000:=fun k hk=>x9b hj hfp hk;rw [<- BC (j:Nat) 0 (-1) 0 (QR p.procs j),<- HZ] at hsa;have hib:(itL (j:Nat) 0 (-1) 0 (QR p.procs j) p.procs[j].body).length<=20000:=by
  have:=q8d p.procs[j].body;unfold wPr at hfp;rw [ZZ];omega
 generalize hits:itL (j:Nat) 0 (-1) 0 (QR p.procs j) p.procs[j].body=its at hsa hitm hib ⊢;have hil:=WV its;refine LoopK.inv QU (fun k:Nat=>⟨[(1,.p (.ip p.cells)),(2,.ptr 1 0),(3,.hd 0 0 (procsN p).length),(7,.p (.ip (sheetOf p).cells)),(9,.p (.ip (p.procs[j]'hj).cells)),(57,.p (.sl (p.procs.map fun f => .agg f.cells))),(58,.p (.int .i64 (p.procs.map fun f=>AV.agg f.cells).length)),(59,.p (.int .i64 j)),(76,.p (YC its)),(77,.p (.int .i64 (its.map fun i=>AV.agg i.cells).length)),(78,.p (.int .i64 k))],[(0,.own 9 1 ((procsN p).map .str)),(1,.obj 112 [.p (.int .i64 0),.p (.int .i64 0)])]⟩)
  (fun k=>k<=its.length∧(its.drop k).find? (fun it => !knownB p p.procs[j] (procsN p) it.s)=its.find? fun it => !knownB p p.procs[j] (procsN p) it.s) (fun k=>its.length-k) 0 (Le.of_eq rfl) ⟨zero_le _,rfl⟩ ?_
 rintro k ⟨h5,h6⟩;rcases Nat.lt_or_ge k its.length with hk|hk;rotate_left 1
 ·rw [<- h6,GO hk] at hsa;conv=>whnf
  repeat' (first|(refine wI ?_;conv=>whnf)|(apply bD<;>intro _<;>first|omega|conv=>whnf))
  exact ⟨j+1,⟨by omega,by rw [<- h3,q2f hj hsa]⟩,by omega,Le.of_eq rfl⟩
 have hka:=hitm k hk;conv=>whnf
 repeat' (first|((first|refine And.intro rfl ?_|(refine iA fun _=>?_)|refine wI ?_|(refine QO (x1t p p.procs[j] (procsN p) its[k].s hka) (.cons (.p (Sub.refl _)) (.cons (.p (Sub.refl _)) (.cons (.hd rfl (by simp)) (.cons (.p (Sub.refl _)) .nil)))) (by rintro _ rfl;rfl) ?_;rintro _ rfl));conv=>whnf)|(apply bD<;>intro _<;>first|omega|conv=>whnf)|(apply bN<;>intro _<;>conv=>whnf))
 ·exact ⟨k+1,⟨by omega,by rw [<- h6,PM (p:=fun it:Item => !knownB p p.procs[j] (procsN p) it.s) hk (by simp;assumption)]⟩,by omega,Le.of_eq rfl⟩
 ·have e3:=HX (p:=fun it:Item => !knownB p p.procs[j] (procsN p) it.s) hk (by simp;assumption);rw [<- h6,e3] at hsa;have e2:=WX hj hsa;rw [h3] at e2;rw [e2];exact QB rfl rfl
def w0i:LV->Option Bool
 | .p .tt=>some true
 | .p .ff=>some false
 | .p (.bool b)=>some b
 | _=>none
theorem x4b {σ:Mem} {β:Lab} {l:LV} {v:Value} {b:Bool} (h:RepL σ β l v) (hb:w0i l=some b):v = .bool b:=by
 cases h with
 | p h=>cases h<;>simp [w0i] at hb<;>subst hb<;>rfl
 | _=>simp [w0i] at hb
theorem x1x {P:Program} {T:Tab} {hr:Bool} {s:St} {o:Oper} {K:LV->Prop} (hT:TabOK P T) {t u:TypeId} {x y:Operand} (hop:o.op = .binOp .neq t x y u) {i:TyI} (ht:T.get t=some i) (hd:i.desc = .bool)
  {a b:Bool} (hx:w0i (QC s.sl x)=some a) (hy:w0i (QC s.sl y)=some b) (hK:K (.p (.bool (a != b)))):ValO P hr s o K:=by
 refine ⟨fun σ β ac w hs _=>⟨_,.bool (a != b),hK,.p (.bool _),fun w' _ _ => ?_⟩⟩;have h1:=x4b (QX hs x) hx;have h2:=x4b (QX hs y) hy;have hu:=hT.of ht;rw [hd] at hu;have hg:(eqGuard .neq t x y (.bool a) (.bool b)).run P w' = .ok () w':=by unfold eqGuard;rfl
 have he:(Op.equal t (.bool a) (.bool b)).run P w' = .ok (a==b) w':=by
  have e:Op.equal t (.bool a) (.bool b)=Op.equalIn (9999+1) t (.bool a) (.bool b):=rfl;rw [e,Op.equalIn,Sem.run_bind,run_underlying hu,Result.andThen_ok];rfl
 simp only [execOp,hop,h1,h2,Sem.run_bind,hg,Result.andThen_ok,binOp];simp [he];cases a<;>cases b<;>rfl
def x7f (l:List Param) (args:List Arg):Bool:=decide (l.map Param.ref=args.map Arg.ref)
theorem x7b (l:List Param) (args:List Arg):SpecP Tryz.prog 252 [.sl (l.map fun a => .agg a.cells),z1r args] (fun r=>r = .bool (x7f l args)):=by
 refine sB q9v Tryz.func252 rfl Tryz.call252 ?_;conv=>whnf
 repeat' (first|(refine iM fun _=>?_;conv=>whnf)|(apply bE<;>intro _<;>first|omega|conv=>whnf))
 all_goals
  have hl:(l.map fun a=>AV.agg a.cells).length=l.length:=length_map _;have hl2:(args.map fun a=>AV.agg a.cells).length=args.length:=length_map _
 ·have hlen:l.length=args.length:=by omega
  refine LoopK.inv QU (fun j:Nat=>⟨[(1,.p (z1r args)),(12,.p (.sl (l.map fun a => .agg a.cells))),(13,.p (.int .i64 (l.map fun a=>AV.agg a.cells).length)),(14,.p (.int .i64 j))],[]⟩) (fun j=>j<=l.length∧(l.map Param.ref).take j=(args.map Arg.ref).take j) (fun j=>l.length-j) 0 (Le.of_eq rfl) ⟨zero_le _,rfl⟩ ?_;rintro j ⟨h2,h3⟩;rcases Nat.lt_or_ge j l.length with hj|hj
  ·conv=>whnf
   repeat' (first|((first|refine dA ?_|refine And.intro rfl ?_|(refine iA fun _=>?_)|refine wI ?_|refine x1x QU rfl rfl rfl rfl rfl ?_);conv=>whnf)|(apply bD<;>intro _<;>first|omega|conv=>whnf)|(apply bE<;>intro _<;>first|omega|conv=>whnf))
   ·have hne:l[j].ref=(args[j]'(by omega)).ref:=by assumption
    exact ⟨j+1,⟨by omega,by
     rw [List.take_succ_eq_append_getElem (by simp;omega),List.take_succ_eq_append_getElem (by simp;omega),h3];simp [hne]⟩,by omega,Le.of_eq rfl⟩
   ·have hne : ¬l[j].ref=(args[j]'(by omega)).ref:=by assumption
    exact RetK.ff (by
     unfold x7f;rw [decide_eq_false_iff_not];intro he;have:(l.map Param.ref)[j]? = (args.map Arg.ref)[j]? := by rw [he]
     rw [List.getElem?_map,List.getElem?_map,List.getElem?_eq_getElem hj,List.getElem?_eq_getElem (by omega)] at this;simp at this;exact hne this)
  ·conv=>whnf
   repeat' (apply bD<;>intro _<;>first|omega|conv=>whnf)
   exact RetK.tt (by
    unfold x7f;rw [decide_eq_true_eq]
    rwa [take_of_length_le (by simp;omega),take_of_length_le (by simp;omega)] at h3)
 ·exact RetK.ff (by
   unfold x7f;rw [decide_eq_false_iff_not];intro he;have:=congrArg List.length he;simp at this;omega)
def KR (p:Pg) (s:S):Bool:=decide (s.kind=4)&&match p.procs.find? (fun f=>f.name==s.proc) with
 | some f=>x7f f.params s.args
 | none=>false
theorem x8q (p:Pg) (s:S):SpecP Tryz.prog 197 [.agg p.cells,.agg s.cells] (fun r=>r = .bool (KR p s)):=by
 refine sB q9s Tryz.func197 rfl Tryz.call197 ?_;conv=>whnf
 repeat' (first|(refine iM fun _=>?_;conv=>whnf)|(apply bE<;>intro _<;>first|omega|conv=>whnf))
 ·have hl:(p.procs.map fun f=>AV.agg f.cells).length=p.procs.length:=length_map _;refine LoopK.inv QU (fun j:Nat=>⟨[(3,.p (.ip s.cells)),(11,.p (.sl (p.procs.map fun f => .agg f.cells))),(12,.p (.int .i64 (p.procs.map fun f=>AV.agg f.cells).length)),(13,.p (.int .i64 j))],[]⟩) (fun j=>j<=p.procs.length∧(p.procs.drop j).find? (fun f=>f.name==s.proc)=p.procs.find? (fun f=>f.name==s.proc)) (fun j=>p.procs.length-j) 0 (Le.of_eq rfl) ⟨zero_le _,rfl⟩ ?_;rintro j ⟨h2,h3⟩;conv=>whnf
  repeat' (first|((first|refine cP (x7b _ _) ?_|refine And.intro rfl ?_|(refine iA fun _=>?_)|refine wI ?_);conv=>whnf)|(apply bD<;>intro _<;>first|omega|conv=>whnf)|(apply bB<;>intro _<;>conv=>whnf))
  ·have e:=HX (p:=fun f:Pr=>f.name==s.proc) (l:=p.procs) (j:=j) (by omega) (by assumption);rw [h3] at e;exact RetK.bool (by unfold KR;rw [e];simp [*])
  ·exact ⟨j+1,⟨by omega,by rw [<- h3,PM (p:=fun f:Pr=>f.name==s.proc) (by omega) (by assumption)]⟩,by omega,Le.of_eq rfl⟩
  ·have e:p.procs.find? (fun f=>f.name==s.proc)=none:=by rw [<- h3,GO (by omega)]
   exact RetK.ff (by unfold KR;rw [e];simp)
 ·exact RetK.ff (by unfold KR;simp [*])
def WA (p:Pg):List S:=p.procs.flatMap fun f=>flL f.body
theorem z7i : ∀ (l:List Pr) (i:Nat) (acc:List Item) (lo hi:List Int),(NI i acc lo hi l).1.map Item.s=acc.map Item.s++l.flatMap fun f=>flL f.body
 | [],i,acc,lo,hi=>by rw [NI];simp
 | f::r,i,acc,lo,hi=>by
   rw [NI,z7i r,KW,List.map_append,BC,List.flatMap_cons,List.append_assoc]
theorem q6m (p:Pg):(sheetOf p).l.map Item.s=WA p:=by
 have:=z7i p.procs 0 [] [] [];unfold sheetOf WA;simpa using this
theorem x7r {p:Pg} (hf:Fit p) {k:Nat} (hk:k<(sheetOf p).l.length):wS (sheetOf p).l[k].s<=20000:=by
 have hm:(sheetOf p).l[k].s∈WA p:=by
  rw [<- q6m];exact List.mem_map.2 ⟨_,List.getElem_mem hk,rfl⟩
 unfold WA at hm;obtain ⟨f,h1,h2⟩:=List.mem_flatMap.1 hm;have h3:=x0x _ _ h2;have h4:=hf.pr h1;unfold wPr at h4;omega
def WW (p:Pg):Int×Int :=
 if (QM p).1≠0 then (1,0) else match (WA p).find? fun t=>decide (t.kind=4) && !KR p t with
  | some t=>(6,t.id)
  | none=>(0,0)
theorem YY {p:Pg} (h:(QM p).1=0):JA p=true∧XM p=false∧p.procs.findSome? (ZR p)=none:=by
 unfold QM at h;cases hm:JA p<;>rw [hm] at h
 ·cases h
 cases hb:XM p<;>rw [hb] at h
 ·refine ⟨rfl,rfl,?_⟩;simp only [cond_true,cond_false] at h;split at h
  ·cases h
  ·assumption
 ·cases h
theorem q0j (p:Pg) (hf:Fit p):SpecP Tryz.prog 125 [.agg p.cells] (fun r=>r=q4t (WW p).1 (WW p).2):=by
 refine sB q7q Tryz.func125 rfl Tryz.call125 ?_;conv=>whnf
 repeat' (first|((first|refine cP (UC p hf) ?_|refine And.intro rfl ?_);conv=>whnf)|(apply bE<;>intro _<;>first|omega|conv=>whnf))
 rotate_left 1
 ·have e:WW p=(1,0):=by unfold WW;rw [if_pos (by assumption)]
  exact QB (by rw [e]) (by rw [e])
 have hs:(QM p).1=0:=by assumption
 obtain ⟨hm,hb,hns⟩:=YY hs;obtain ⟨hg,hpl,hcn⟩:=ZI hm;have hA:WW p=match (WA p).find? fun t=>decide (t.kind=4) && !KR p t with
  | some t=>(6,t.id)
  | none=>(0,0):=by unfold WW;rw [if_neg (by omega)]
 repeat' ((first|(refine iM fun _=>?_)|(refine CallK.pure (WF p (by omega) (by omega)) (.cons (Sub.refl _) .nil) ?_;rintro _ rfl));conv=>whnf)
 have hil:=WV (sheetOf p).l;have hib:(sheetOf p).l.length<=200:=by have:=(QV p).2.2.2.1;omega
 have hfi:=HZ (q:=fun t=>decide (t.kind=4) && !KR p t) (sheetOf p).l;rw [q6m] at hfi;have hA2:WW p=match ((sheetOf p).l.find? fun it=>decide (it.s.kind=4) && !KR p it.s).map (fun it=>it.s.id) with
  | some a=>(6,a)
  | none=>(0,0):=by
  rw [hA,hfi];cases (WA p).find? fun t=>decide (t.kind=4) && !KR p t<;>rfl
 rw [hA2];refine LoopK.inv QU (fun k:Nat=>⟨[(1,.p (.ip p.cells)),(2,.ptr 1 0),(14,.p (YC (sheetOf p).l)),(15,.p (.int .i64 ((sheetOf p).l.map fun i=>AV.agg i.cells).length)),(16,.p (.int .i64 k))],[(1,.obj 112 [.p (.int .i64 0),.p (.int .i64 0)])]⟩)
  (fun k=>k<=(sheetOf p).l.length∧((sheetOf p).l.drop k).find? (fun it=>decide (it.s.kind=4) && !KR p it.s)=(sheetOf p).l.find? fun it=>decide (it.s.kind=4) && !KR p it.s) (fun k=>(sheetOf p).l.length-k) 0 (Le.of_eq rfl) ⟨zero_le _,rfl⟩ ?_
 rintro k ⟨h5,h6⟩;rcases Nat.lt_or_ge k (sheetOf p).l.length with hk|hk;rotate_left 1
 ·rw [<- h6,GO hk];conv=>whnf
  repeat' (first|(refine And.intro rfl ?_;conv=>whnf)|(apply bD<;>intro _<;>first|omega|conv=>whnf))
  exact QB rfl rfl
 conv=>whnf
 repeat' (first|((first|refine cP (x8q _ _) ?_|refine And.intro rfl ?_|(refine iA fun _=>?_)|refine wI ?_);conv=>whnf)|(apply bD<;>intro _<;>first|omega|conv=>whnf)|(apply bN<;>intro _<;>conv=>whnf))
 all_goals first
  | (have e3:=HX (p:=fun it:Item=>decide (it.s.kind=4) && !KR p it.s) hk (by simp [*])
     rw [<- h6,e3];exact QB rfl rfl)
  | exact ⟨k+1,⟨by omega,by rw [<- h6,PM (p:=fun it:Item=>decide (it.s.kind=4) && !KR p it.s) hk (by simp [*])]⟩,by omega,Le.of_eq rfl⟩
def WP:List Str->List Str->Option (List Str)
 | seen,[]=>some seen
 | seen,n::r=>bif seen.any (fun s=>n==s) then none else WP (seen++[n]) r
theorem z5y {seen l:List Str} {j:Nat} (hj:j<l.length) (h:(seen.any fun s=>l[j]==s)=true):WP seen (l.drop j)=none:=by
 rw [QJ hj,WP,h];rfl
theorem z1w {seen l:List Str} {j:Nat} (hj:j<l.length) (h:(seen.any fun s=>l[j]==s)=false):WP seen (l.drop j)=WP (seen++[l[j]]) (l.drop (j+1)):=by
 rw [QJ hj,WP,h];rfl
theorem DL : ∀ {l seen out:List Str},WP seen l=some out->out=seen++l
 | [],seen,out,h=>by rw [WP] at h;cases h;simp
 | n::r,seen,out,h=>by
   rw [WP] at h;cases hc:(seen.any fun s=>n==s)<;>rw [hc] at h
   ·have:=DL h;simpa using this
   ·cases h
def z2y (t:Nat) (seen l:List Str) (r:LV) (H:Heap):Prop :=
 match WP seen l with
 | some out=>r = .tup [.hd 2000 0 out.length,.p .tt]∧H=x8m t out
 | none => ∃ out,r = .tup [.hd 2000 0 out.length,.p .ff]∧H=x8m t out
theorem q1v {t:Nat} {seen l:List Str} {Q:LV->Heap->Prop} (h1:WP seen l=some (seen++l)->Q (.tup [.hd 2000 0 (seen++l).length,.p .tt]) (x8m t (seen++l)))
  (h2:WP seen l=none -> ∀ out,Q (.tup [.hd 2000 0 out.length,.p .ff]) (x8m t out)) : ∀ l' H',z2y t seen l l' H'->Q l' H':=by
 intro l' H' h;unfold z2y at h;cases hr:WP seen l with
 | some out =>
   rw [hr] at h;obtain ⟨rfl,rfl⟩:=h;have:=DL hr;subst this;exact h1 hr
 | none =>
   rw [hr] at h;obtain ⟨out,rfl,rfl⟩:=h;exact h2 hr out
theorem q8l (seen l:List Str) (hlen:seen.length+l.length<=1000000000) :
  SpecH Tryz.prog 199 [.hd 2000 0 seen.length,.p (QP l)] (x8m 9 seen) (z2y 9 seen l):=by
 refine sH x2f Tryz.func199 rfl Tryz.call199 ?_;conv=>whnf
 repeat' (refine iM fun _=>?_;conv=>whnf)
 have hl:(l.map AV.str).length=l.length:=length_map _;refine LoopK.inv QU (fun i:Nat×List Str=>⟨[(0,.hd 2000 0 i.2.length),(8,.p (QP l)),(9,.p (.int .i64 (l.map AV.str).length)),(10,.p (.int .i64 i.1))],x8m 9 i.2⟩) (fun i=>i.1<=l.length∧i.2.length+(l.length-i.1)=seen.length+l.length∧WP i.2 (l.drop i.1)=WP seen l) (fun i=>l.length-i.1) (0,seen) (Le.of_eq rfl) ⟨zero_le _,by simp,rfl⟩ ?_;rintro ⟨j,acc⟩ ⟨h2,h3,h4⟩;simp only at h2 h3 h4 ⊢;rcases Nat.lt_or_ge j l.length with hj|hj
 ·conv=>whnf
  repeat' (first|((first|refine And.intro rfl ?_|refine aD ?_|refine bP ?_|(refine iA fun _=>?_)|refine wI ?_|(refine QO (QQ acc (l[j]'hj)) (.cons (.hd rfl (by simp)) (.cons (.p (Sub.refl _)) .nil)) (by rintro _ rfl;rfl) ?_;rintro _ rfl)|refine WT (by simp) (by simp;omega) ?_);conv=>whnf)|(apply bD<;>intro _<;>first|omega|conv=>whnf)|(apply bB<;>intro _<;>conv=>whnf))
  ·exact ⟨_,.refl _,by unfold z2y;rw [<- h4,z5y hj (by assumption)];exact ⟨acc,rfl,rfl⟩⟩
  ·exact ⟨(j+1,acc++[l[j]]),⟨by simp only;omega,by simp;omega,by simp only;rw [<- h4,z1w hj (by assumption)]⟩,by simp only;omega,Le.of_eq (by simp only [x8m,length_append,List.map_append];rfl)⟩
 ·conv=>whnf
  repeat' (apply bD<;>intro _<;>first|omega|conv=>whnf)
  rw [drop_eq_nil_of_le hj,WP] at h4;exact ⟨_,.refl _,by unfold z2y;rw [<- h4];exact ⟨rfl,rfl⟩⟩
def atB (f:Pr) (label:Str):Int×Bool :=
 match (flL f.body).find? fun t=>t.labels.any fun s=>label==s with
 | some t=>(t.id,true)
 | none=>bif f.fin.any fun s=>label==s then (-1,true) else (0,false)
theorem RetK.tup2 {H:Heap} {k:IntKind} {m n:Int} {x:AV} {b:Bool} (h:m=n) (hb:Sub x (.bool b)):RetK H (.p (.tup [.int k m,x])) (fun r=>r = .tup [.int k n,.bool b]) :=
 ⟨_,.p (Sub.tup (SubL.cons (Sub.int h) (SubL.cons hb SubL.nil))),rfl⟩
theorem JR (p:Pg) (j:Nat) (f:Pr) (hj:p.procs[j]? = some f) (hc:VU p.procs<=1000) (label:Str):SpecP Tryz.prog 181 [.ip (sheetOf p).cells,.int .i64 j,.str label] (fun r=>r = .tup [.int .i64 (atB f label).1,.bool (atB f label).2]):=by
 refine sB q2g Tryz.func181 rfl Tryz.call181 ?_;conv=>whnf
 repeat' ((first|(refine iM fun _=>?_)|refine cP (x6u p hj hc) ?_);conv=>whnf)
 have hfi:=HZ (q:=fun t=>t.labels.any fun s=>label==s) (itL (j:Nat) 0 (-1) 0 (QR p.procs j) f.body);rw [BC] at hfi;have hib:(itL (j:Nat) 0 (-1) 0 (QR p.procs j) f.body).length<=1000:=by
  have:=(QV p).2.2.2.2 j f hj;rw [ZZ];omega
 generalize hits:itL (j:Nat) 0 (-1) 0 (QR p.procs j) f.body=its at hfi hib ⊢;have hil:=WV its;have hat:atB f label=match (its.find? fun it=>it.s.labels.any fun s=>label==s).map (fun it=>it.s.id) with
  | some a=>(a,true)
  | none=>bif f.fin.any fun s=>label==s then (-1,true) else (0,false):=by
  unfold atB;rw [hfi];cases (flL f.body).find? fun t=>t.labels.any fun s=>label==s<;>rfl
 rw [hat];refine LoopK.inv QU (fun k:Nat=>⟨[(0,.p (.ip (sheetOf p).cells)),(1,.p (.int .i64 j)),(2,.p (.str label)),(12,.p (YC its)),(13,.p (.int .i64 (its.map fun i=>AV.agg i.cells).length)),(14,.p (.int .i64 k))],[]⟩)
  (fun k=>k<=its.length∧(its.drop k).find? (fun it=>it.s.labels.any fun s=>label==s)=its.find? fun it=>it.s.labels.any fun s=>label==s) (fun k=>its.length-k) 0 (Le.of_eq rfl) ⟨zero_le _,rfl⟩ ?_
 rintro k ⟨h5,h6⟩;rcases Nat.lt_or_ge k its.length with hk|hk
 ·conv=>whnf
  repeat' (first|((first|refine cP (QQ _ _) ?_|refine And.intro rfl ?_|(refine iA fun _=>?_)|refine wI ?_);conv=>whnf)|(apply bD<;>intro _<;>first|omega|conv=>whnf)|(apply bB<;>intro _<;>conv=>whnf))
  ·have e3:=HX (p:=fun it:Item=>it.s.labels.any fun s=>label==s) hk (by assumption);rw [<- h6,e3];exact RetK.tup2 rfl (Sub.tt rfl)
  ·exact ⟨k+1,⟨by omega,by rw [<- h6,PM (p:=fun it:Item=>it.s.labels.any fun s=>label==s) hk (by assumption)]⟩,by omega,Le.of_eq rfl⟩
 ·rw [<- h6,GO hk];have hpj:(p.procs.map fun f=>AV.agg f.cells)[j]? = some (.agg f.cells):=by simp [hj]
  conv=>whnf
  repeat' (first|((first|refine cP (QQ _ _) ?_|(refine IdxK.at rfl hpj rfl ?_));conv=>whnf)|(apply bD<;>intro _<;>first|omega|conv=>whnf)|(apply bB<;>intro _<;>conv=>whnf))
  ·exact RetK.tup2 (by simp [*]) (Sub.tt (by simp [*]))
  ·exact RetK.tup2 (by simp [*]) (Sub.ff (by simp [*]))
def WG (f:Pr) (it:Item):Bool:=if it.s.kind=7∨it.s.kind=8 then !(it.loop==0) else if it.s.kind=10 then (atB f it.s.name).2 else true
theorem x5i (p:Pg) (j:Nat) (f:Pr) (hj:p.procs[j]? = some f) (hc:VU p.procs<=1000) (it:Item) (hp:it.proc=j):SpecP Tryz.prog 200 [.ip (sheetOf p).cells,.agg it.cells] (fun r=>r = .bool (WG f it)):=by
 refine sB q8j Tryz.func200 rfl Tryz.call200 ?_;conv=>whnf
 repeat' (first|(refine CallK.pure (JR p j f hj hc it.s.name) (.cons (Sub.refl _) (.cons (Sub.int hp) (.cons (Sub.refl _) .nil))) ?_;rintro _ rfl;conv=>whnf)|(apply bD<;>intro _<;>first|omega|conv=>whnf))
 all_goals first
  | exact RetK.bool (by simp [WG, *];rfl)
  | exact RetK.bool (by simp [WG, *])
  | exact RetK.tt (by simp [WG, *])
theorem x7h (p:Pg) (hf:Fit p) (h:(QM p).1=0):SpecP Tryz.prog 198 [.agg p.cells] (fun r=>r = .ip (sheetOf p).cells):=by
 refine sB MD Tryz.func198 rfl Tryz.call198 ?_;conv=>whnf
 obtain ⟨hm,hb,hns⟩:=YY h;obtain ⟨hg,hpl,hcn⟩:=ZI hm;repeat' (first|((first|refine cP (UC p hf) ?_|(refine CallK.pure (WF p (by omega) (by omega)) (.cons (Sub.refl _) .nil) ?_;rintro _ rfl));conv=>whnf)|(apply bE<;>intro _<;>first|omega|conv=>whnf))
 exact RetK.p rfl
theorem q5u (p:Pg) (hf:Fit p) (h:(QM p).1≠0):SpecP Tryz.prog 198 [.agg p.cells] (fun r=>r = .nilp):=by
 refine sB MD Tryz.func198 rfl Tryz.call198 ?_;conv=>whnf
 repeat' (first|(refine cP (UC p hf) ?_;conv=>whnf)|(apply bE<;>intro _<;>first|omega|conv=>whnf))
 exact RetK.p rfl
mutual
theorem z4p (proc up nx loop:Int) (n:Nat) : ∀ (t:S) (it:Item),it∈itS proc up nx loop n t->it.proc=proc
 | .mk id kind labels name pr x has args thn els,it,h=>by
   rw [itS] at h;rcases List.mem_cons.1 h with rfl|h
   ·rfl
   ·rcases List.mem_append.1 h with h|h
    ·exact YF _ _ _ _ _ thn it h
    ·exact YF _ _ _ _ _ els it h
theorem YF (proc up nx loop:Int) (n:Nat) : ∀ (l:List S) (it:Item),it∈itL proc up nx loop n l->it.proc=proc
 | [],it,h=>by rw [itL] at h;cases h
 | t::r,it,h=>by
   rw [itL] at h;rcases List.mem_append.1 h with h|h
   ·exact z4p _ _ _ _ _ t it h
   ·exact YF _ _ _ _ _ r it h
end
def VI (f:Pr):List Item->List Str->Except Int (List Str)
 | [],seen => .ok seen
 | it::r,seen=>match WP seen it.s.labels with
   | none => .error it.s.id
   | some s=>bif WG f it then VI f r s else .error it.s.id
def VL (p:Pg) (j:Nat):Option Int :=
 match p.procs[j]? with
 | none=>none
 | some f=>match VI f (itL (j:Nat) 0 (-1) 0 (QR p.procs j) f.body) [] with
   | .error id=>some id
   | .ok seen=>match WP seen f.fin with
     | none=>some 0
     | some _=>none
def HM (p:Pg):Int×Int :=
 if (QM p).1≠0 then (1,0) else match (List.range p.procs.length).findSome? (VL p) with
  | some a=>(7,a)
  | none=>(0,0)
theorem z5b {f:Pr} {its:List Item} {seen:List Str} {k:Nat} (hk:k<its.length) (h:WP seen its[k].s.labels=none):VI f (its.drop k) seen = .error its[k].s.id:=by
 rw [QJ hk,VI,h]
theorem z0k {f:Pr} {its:List Item} {seen s:List Str} {k:Nat} (hk:k<its.length) (h:WP seen its[k].s.labels=some s) (hl:WG f its[k]=false):VI f (its.drop k) seen = .error its[k].s.id:=by
 rw [QJ hk,VI,h];simp only [hl,cond_false]
theorem z2q {f:Pr} {its:List Item} {seen s:List Str} {k:Nat} (hk:k<its.length) (h:WP seen its[k].s.labels=some s) (hl:WG f its[k]=true):VI f (its.drop k) seen=VI f (its.drop (k+1)) s:=by
 rw [QJ hk,VI,h];simp only [hl,cond_true]
theorem x3g {l:List Pr} {j:Nat} (hj:j<l.length) (h:wPr l[j]<=20000) {a b c d:Int} {n k:Nat} (hk:k<(itL a b c d n l[j].body).length):(itL a b c d n l[j].body)[k].s.labels.length<=20000:=by
 have hm:(itL a b c d n l[j].body)[k].s∈flL l[j].body:=by
  rw [<- BC a b c d n];exact List.mem_map.2 ⟨_,List.getElem_mem hk,rfl⟩
 have h1:=x0x _ _ hm;have h2:=x6a (itL a b c d n l[j].body)[k].s;have h3:=HW (itL a b c d n l[j].body)[k].s.labels;unfold wPr at h;omega
theorem x7g (p:Pg) (hf:Fit p):SpecP Tryz.prog 126 [.agg p.cells] (fun r=>r=q4t (HM p).1 (HM p).2):=by
 refine sB q8m Tryz.func126 rfl Tryz.call126 ?_;conv=>whnf
 rcases Decidable.em ((QM p).1=0) with hs|hs;rotate_left 1
 ·
  repeat' ((first|refine cP (q5u p hf hs) ?_|refine And.intro rfl ?_);conv=>whnf)
  have e:HM p=(1,0):=by unfold HM;rw [if_pos hs]
  exact QB (by rw [e]) (by rw [e])
 obtain ⟨hm,hb,hns⟩:=YY hs;obtain ⟨hg,hpl,hcn⟩:=ZI hm;have hJ:HM p=match (List.range p.procs.length).findSome? (VL p) with
  | some a=>(7,a)
  | none=>(0,0):=by unfold HM;rw [if_neg (by omega)]
 rw [hJ];have hl:(p.procs.map fun f=>AV.agg f.cells).length=p.procs.length:=length_map _;repeat' ((first|(refine iM fun _=>?_)|refine cP (x7h p hf hs) ?_);conv=>whnf)
 refine LoopK.inv QU (fun j:Nat=>⟨[(2,.ptr 1 0),(3,.p (.ip (sheetOf p).cells)),(16,.p (.sl (p.procs.map fun f => .agg f.cells))),(17,.p (.int .i64 (p.procs.map fun f=>AV.agg f.cells).length)),(18,.p (.int .i64 j))],[(1,.obj 112 [.p (.int .i64 0),.p (.int .i64 0)])]⟩)
  (fun j=>j<=p.procs.length∧((List.range p.procs.length).drop j).findSome? (VL p)=(List.range p.procs.length).findSome? (VL p)) (fun j=>p.procs.length-j) 0 (Le.of_eq rfl) ⟨zero_le _,rfl⟩ ?_
 rintro j ⟨h2,h3⟩;rcases Nat.lt_or_ge j p.procs.length with hj|hj;rotate_left 1
 ·have e:(List.range p.procs.length).findSome? (VL p)=none:=by rw [<- h3,MQ (by simpa using hj)]
  rw [e];conv=>whnf
  repeat' (first|(refine And.intro rfl ?_;conv=>whnf)|(apply bD<;>intro _<;>first|omega|conv=>whnf))
  exact QB rfl rfl
 have hfp:=hf.pr (List.getElem_mem hj);have hjr:j<(List.range p.procs.length).length:=by simpa using hj
 have hrj:(List.range p.procs.length)[j]=j:=by simp
 have hpj:p.procs[j]? = some p.procs[j]:=by simp [hj]
 conv=>whnf
 repeat' (first|((first|(refine iM fun _=>?_)|refine And.intro rfl ?_|(refine iA fun _=>?_)|(refine CallK.pure (x6u p (f:=p.procs[j]'hj) hpj (by omega)) (.cons (Sub.refl _) (.cons (Sub.refl _) .nil)) ?_;rintro _ rfl));conv=>whnf)|(apply bD<;>intro _<;>first|omega|conv=>whnf))
 have hlab : ∀ k (hk:k<(itL (j:Nat) 0 (-1) 0 (QR p.procs j) p.procs[j].body).length),(itL (j:Nat) 0 (-1) 0 (QR p.procs j) p.procs[j].body)[k].s.labels.length<=20000:=fun k hk=>x3g hj hfp hk;have hprc : ∀ k (hk:k<(itL (j:Nat) 0 (-1) 0 (QR p.procs j) p.procs[j].body).length),(itL (j:Nat) 0 (-1) 0 (QR p.procs j) p.procs[j].body)[k].proc=j:=fun k hk=>YF _ _ _ _ _ _ _ (List.getElem_mem hk);have hib:(itL (j:Nat) 0 (-1) 0 (QR p.procs j) p.procs[j].body).length<=200:=by
  have:=(QV p).2.2.2.2 j _ hpj;rw [ZZ];omega
 have hja:VL p j=match VI p.procs[j] (itL (j:Nat) 0 (-1) 0 (QR p.procs j) p.procs[j].body) [] with
  | .error id=>some id
  | .ok seen=>match WP seen p.procs[j].fin with
    | none=>some 0
    | some _=>none:=by
  unfold VL;rw [hpj]
 generalize hits:itL (j:Nat) 0 (-1) 0 (QR p.procs j) p.procs[j].body=its at hlab hprc hib hja ⊢;have hil:=WV its;refine LoopK.inv QU (fun i:Nat×List Str=>⟨[(2,.ptr 1 0),(3,.p (.ip (sheetOf p).cells)),(5,.p (.ip (p.procs[j]'hj).cells)),(6,.hd 0 0 i.2.length),(16,.p (.sl (p.procs.map fun f => .agg f.cells))),(17,.p (.int .i64 (p.procs.map fun f=>AV.agg f.cells).length)),(18,.p (.int .i64 j)),(25,.p (YC its)),(26,.p (.int .i64 (its.map fun i=>AV.agg i.cells).length)),(27,.p (.int .i64 i.1))],[(0,.own 9 1 (i.2.map .str)),(1,.obj 112 [.p (.int .i64 0),.p (.int .i64 0)])]⟩)
  (fun i=>i.1<=its.length∧i.2.length<=20000*i.1∧VI p.procs[j] (its.drop i.1) i.2=VI p.procs[j] its []) (fun i=>its.length-i.1) (0,[])
  (Le.mk [(0,.own 9 1 [])] (by simp [Chunk.new0];rfl) (by simp) (by simp) (.cons (.refl _) (.cons (.refl _) (.cons (.refl _) (.cons (.nil mem_cons_self) (.cons (.refl _) (.cons (.refl _) (.cons (.refl _) (.cons (.refl _) (.cons (.refl _) (.cons (.refl _) .nil)))))))))) (.new mem_cons_self (.cons rfl (.refl _) .nil)))
  ⟨zero_le _,by simp,rfl⟩ ?_
 rintro ⟨k,acc⟩ ⟨h5,h6,h7⟩;simp only at h5 h6 h7 ⊢;rcases Nat.lt_or_ge k its.length with hk|hk
 ·have hlk:=hlab k hk;conv=>whnf
  repeat' (first|((first|refine And.intro rfl ?_|(refine iA fun _=>?_)|refine wI ?_|(refine CallK.pure (x5i p j p.procs[j] hpj (by omega) its[k] (hprc k hk)) (.cons (Sub.refl _) (.cons (Sub.refl _) .nil)) ?_;rintro _ rfl));conv=>whnf)|(apply bD<;>intro _<;>first|omega|conv=>whnf)|(apply bN<;>intro _<;>conv=>whnf)|(refine CallK.heap [(2000,0)] 0 (by repeat' (first|exact ArgsH.nil|refine ArgsH.cons ?_ ?_|exact LSub.refl _|exact LSub.p Sub.nils|exact LSub.p (Sub.tt rfl)|exact LSub.p (Sub.ff rfl)|exact LSub.p (Sub.int (by omega)))) (by refine BlksH.cons (j:=0) rfl rfl ?_ ?_;exact CSub.refl _;exact BlksH.nil) (q8l acc its[k].s.labels (by omega)) rfl rfl (q1v (fun hjo => ?_) (fun hjo out => ?_))<;>conv=>whnf))
  ·exact ⟨(k+1,acc++its[k].s.labels),⟨by simp only;omega,by simp;omega,by simp only;rw [<- h7,z2q hk hjo (by assumption)]⟩,by simp only;omega,Le.of_eq rfl⟩
  ·rw [<- h7,z0k hk hjo (by assumption)] at hja;have e2:=WX (f:=VL p) hjr (by rw [hrj];exact hja);rw [h3] at e2;rw [e2];exact QB rfl rfl
  ·rw [<- h7,z5b hk hjo] at hja;have e2:=WX (f:=VL p) hjr (by rw [hrj];exact hja);rw [h3] at e2;rw [e2];exact QB rfl rfl
 ·have hfin:p.procs[j].fin.length<=20000:=by
   have:=HW p.procs[j].fin;unfold wPr at hfp;omega
  rw [drop_eq_nil_of_le hk,VI] at h7;rw [<- h7] at hja;simp only at hja;conv=>whnf
  repeat' (first|((first|refine And.intro rfl ?_|refine wI ?_);conv=>whnf)|(apply bD<;>intro _<;>first|omega|conv=>whnf)|(refine CallK.heap [(2000,0)] 0 (by repeat' (first|exact ArgsH.nil|refine ArgsH.cons ?_ ?_|exact LSub.refl _|exact LSub.p Sub.nils|exact LSub.p (Sub.tt rfl)|exact LSub.p (Sub.ff rfl)|exact LSub.p (Sub.int (by omega)))) (by refine BlksH.cons (j:=0) rfl rfl ?_ ?_;exact CSub.refl _;exact BlksH.nil) (q8l acc p.procs[j].fin (by omega)) rfl rfl (q1v (fun hjo => ?_) (fun hjo out => ?_))<;>conv=>whnf))
  ·rw [hjo] at hja;exact ⟨j+1,⟨by omega,by rw [<- h3,q2f (f:=VL p) hjr (by rw [hrj];exact hja)]⟩,by omega,Le.of_eq rfl⟩
  ·rw [hjo] at hja;have e2:=WX (f:=VL p) hjr (by rw [hrj];exact hja);rw [h3] at e2;rw [e2];exact QB rfl rfl
theorem PX {es:List AV} {sz:Nat} {out:List LV} {Kp Ko:Prop} (hx:(es.all fun x=>x.cells.length==sz)=true) (ho:out=(es.flatMap AV.cells).map .p) (hK:Kp):BsK es sz out Kp Ko := .pure (fun x h=>by simpa using List.all_eq_true.1 hx x h) ho hK
def w64 (n:Int):Int:=IntKind.wrap .i64 n
def z1y (b:Bool):Int:=bif b then 1 else 0
def z3d (op a:Int):Int×Bool:=if op=3 then (w64 (0-a),true) else if op=4 then (z1y (a==0),true) else (0,false)
def w3q (op a b:Int):Int×Bool:=if b=0 then (0,false) else if b = -1 then (if op=7 then (0,true) else if a = -9223372036854775808 then (a,true) else (w64 (0-a),true)) else if op=7 then (a.tmod b,true) else (w64 (a.tdiv b),true)
def w2i (op a b:Int):Int×Bool:=if op=10 then (z1y (decide (a<b)),true) else if op=11 then (z1y (decide (a<=b)),true) else if op=12 then (z1y (decide (a>b)),true) else if op=13 then (z1y (decide (a≥b)),true) else if op=14 then (z1y (a==b),true) else if op=15 then (z1y (a != b),true) else (0,false)
def w2y (op a b:Int):Int×Bool:=if op=8 then (w64 (a+b),true) else if op=9 then (w64 (a-b),true) else if op=5 then (w64 (a*b),true) else if op=6∨op=7 then w3q op a b else if op=16 then (z1y (a != 0&&b != 0),true) else if op=17 then (z1y (a != 0||b != 0),true) else w2i op a b
def z7j (r:Int×Bool):AV := .tup [.int .i64 r.1,.bool r.2]
theorem QD {H:Heap} {a:Int} {x:AV} {r:Int×Bool} (h1:a=r.1) (h2:Sub x (.bool r.2)):RetK H (.p (.tup [.int .i64 a,x])) (fun y=>y=z7j r):=RetK.tup2 h1 h2
theorem HY (b:Bool):SpecP Tryz.prog 363 [.bool b] (fun r=>r = .int .i64 (z1y b)):=by
 refine sB x6b Tryz.func363 rfl Tryz.call363 ?_;conv=>whnf
 repeat' (apply bB<;>intro _<;>conv=>whnf)
 all_goals exact RetK.int (by simp_all [z1y])
theorem x7u (a:Int):SpecP Tryz.prog 341 [.int .i64 a] (fun r=>r = .bool (a != 0)):=by
 refine sB x0f Tryz.func341 rfl Tryz.call341 ?_;conv=>whnf
 skip
 all_goals exact RetK.bool rfl
theorem z6p (op a:Int):SpecP Tryz.prog 340 [.int .i64 op,.int .i64 a] (fun r=>r=z7j (z3d op a)):=by
 refine sB x7e Tryz.func340 rfl Tryz.call340 ?_;conv=>whnf
 repeat' (first|((first|refine cP (HY _) ?_|refine Wr.wrap ?_);conv=>whnf)|(apply bD<;>intro _<;>first|omega|conv=>whnf))
 all_goals first
  | exact QD (by unfold z3d;rw [if_pos (by assumption)];rfl) (Sub.tt (by unfold z3d;rw [if_pos (by assumption)]))
  | exact QD (by unfold z3d;rw [if_neg (by assumption),if_pos (by assumption)]) (Sub.tt (by unfold z3d;rw [if_neg (by assumption),if_pos (by assumption)]))
  | exact QD (by unfold z3d;rw [if_neg (by assumption),if_neg (by assumption)]) (Sub.ff (by unfold z3d;rw [if_neg (by assumption),if_neg (by assumption)]))
theorem x1e (op a b:Int):SpecP Tryz.prog 364 [.int .i64 op,.int .i64 a,.int .i64 b] (fun r=>r=z7j (w3q op a b)):=by
 refine sB q6b Tryz.func364 rfl Tryz.call364 ?_;conv=>whnf
 unfold w3q;by_cases h0:b=0
 ·rw [if_pos h0];repeat' (apply bD<;>intro _<;>first|omega|conv=>whnf)
  all_goals exact QD rfl (Sub.ff rfl)
 rw [if_neg h0];by_cases h1:b = -1
 ·rw [if_pos h1];by_cases h7:op=7
  ·rw [if_pos h7];repeat' (apply bD<;>intro _<;>first|omega|conv=>whnf)
   all_goals exact QD rfl (Sub.tt rfl)
  rw [if_neg h7];by_cases hm:a = -9223372036854775808
  ·rw [if_pos hm];repeat' (apply bD<;>intro _<;>first|omega|conv=>whnf)
   all_goals exact QD rfl (Sub.tt rfl)
  rw [if_neg hm];repeat' (first|(refine Wr.wrap ?_;conv=>whnf)|(apply bD<;>intro _<;>first|omega|conv=>whnf))
  all_goals exact QD rfl (Sub.tt rfl)
 rw [if_neg h1];by_cases h7:op=7
 ·rw [if_pos h7];repeat' (first|(refine And.intro h0 ?_;conv=>whnf)|(apply bD<;>intro _<;>first|omega|conv=>whnf))
  all_goals exact QD rfl (Sub.tt rfl)
 rw [if_neg h7];repeat' (first|((first|refine And.intro h0 ?_|refine Wr.wrap ?_);conv=>whnf)|(apply bD<;>intro _<;>first|omega|conv=>whnf))
 all_goals exact QD rfl (Sub.tt rfl)
theorem q8q (op a b:Int):SpecP Tryz.prog 365 [.int .i64 op,.int .i64 a,.int .i64 b] (fun r=>r=z7j (w2i op a b)):=by
 refine sB q3z Tryz.func365 rfl Tryz.call365 ?_;conv=>whnf
 repeat' (first|(refine cP (HY _) ?_;conv=>whnf)|(apply bD<;>intro _<;>first|omega|conv=>whnf))
 all_goals
  unfold w2i
  (repeat' first
    | rw [if_pos (by assumption)]
    | rw [if_neg (by assumption)])
  first
   | exact QD rfl (Sub.tt rfl)
   | exact QD rfl (Sub.ff rfl)
theorem z3s (op a b:Int):SpecP Tryz.prog 342 [.int .i64 op,.int .i64 a,.int .i64 b] (fun r=>r=z7j (w2y op a b)):=by
 refine sB x7o Tryz.func342 rfl Tryz.call342 ?_;conv=>whnf
 have hD:=x1e op a b;have hC:=q8q op a b;unfold w2y;by_cases h8:op=8
 ·rw [if_pos h8];repeat' (first|(refine Wr.wrap ?_;conv=>whnf)|(apply bD<;>intro _<;>first|omega|conv=>whnf))
  all_goals exact QD rfl (Sub.tt rfl)
 rw [if_neg h8];by_cases h9:op=9
 ·rw [if_pos h9];repeat' (first|(refine Wr.wrap ?_;conv=>whnf)|(apply bD<;>intro _<;>first|omega|conv=>whnf))
  all_goals exact QD rfl (Sub.tt rfl)
 rw [if_neg h9];by_cases h5:op=5
 ·rw [if_pos h5];repeat' (first|(refine Wr.wrap ?_;conv=>whnf)|(apply bD<;>intro _<;>first|omega|conv=>whnf))
  all_goals exact QD rfl (Sub.tt rfl)
 rw [if_neg h5];by_cases h67:op=6∨op=7
 ·rw [if_pos h67];generalize w3q op a b=d at *
  repeat' (first|(refine cP hD ?_;conv=>whnf)|(apply bD<;>intro _<;>first|omega|conv=>whnf))
  all_goals first
   | exact QD rfl (Sub.refl _)
   | (exfalso;omega)
 rw [if_neg h67];by_cases h16:op=16
 ·rw [if_pos h16];repeat' (first|((first|refine cP (HY _) ?_|(refine CallK.pure (HY false) (.cons (Sub.ff rfl) .nil) ?_;rintro _ rfl));conv=>whnf)|(apply bD<;>intro _<;>first|omega|conv=>whnf)|(apply bE<;>intro _<;>first|omega|conv=>whnf))
  all_goals first
   | (exfalso;omega)
   | exact QD (by rw [show (a != 0)=true by simpa using (show ¬a=0 by assumption)];rfl) (Sub.tt rfl)
   | exact QD (by rw [show (a != 0)=false by simpa using (show a=0 by assumption)];rfl) (Sub.tt rfl)
   | exact QD (by simp_all;done) (Sub.tt rfl)
 rw [if_neg h16];by_cases h17:op=17
 ·rw [if_pos h17];repeat' (first|((first|refine cP (HY _) ?_|(refine CallK.pure (HY true) (.cons (Sub.tt rfl) .nil) ?_;rintro _ rfl));conv=>whnf)|(apply bD<;>intro _<;>first|omega|conv=>whnf)|(apply bE<;>intro _<;>first|omega|conv=>whnf))
  all_goals first
   | (exfalso;omega)
   | exact QD (by rw [show (a != 0)=true by simpa using (show ¬a=0 by assumption)];rfl) (Sub.tt rfl)
   | exact QD (by rw [show (a != 0)=false by simpa using (show a=0 by assumption)];rfl) (Sub.tt rfl)
   | exact QD (by simp_all;done) (Sub.tt rfl)
 rw [if_neg h17];generalize w2i op a b=d at *
 repeat' (first|(refine cP hC ?_;conv=>whnf)|(apply bD<;>intro _<;>first|omega|conv=>whnf))
 all_goals first
  | exact QD rfl (Sub.refl _)
  | (exfalso;omega)
def q2n (names:List Str) (vals:List Int) (s:Str):Int:=if 0<=idxF (fun y=>s==y) names∧idxF (fun y=>s==y) names<vals.length then vals.getD (idxF (fun y=>s==y) names).toNat 0 else 0
def evN (env:Str->Int):Nat->X->Int×Bool
 | 0,_=>(0,false)
 | n+1,x=>if x.op=1 then (x.n,true) else if x.op=2 then (env x.name,true) else match x.kids with
   | []=>(0,false)
   | [a]=>bif (evN env n a).2 then z3d x.op (evN env n a).1 else (0,false)
   | a::b::_=>bif (evN env n a).2 then (if x.op=16∧(evN env n a).1=0 then (0,true) else if x.op=17∧(evN env n a).1≠0 then (1,true) else bif (evN env n b).2 then w2y x.op (evN env n a).1 (evN env n b).1 else (0,false)) else (0,false)
def evX (env:Str->Int) (x:X):Int×Bool:=bif x8n x then evN env 20 x else (0,false)
theorem z0p {n:Nat} {x:X} (h:ZF (n+1) x=true) (h1:x.op≠1) (h2:x.op≠2):(∃ a,x.kids=[a]∧ZF n a=true) ∨ ∃ a b,x.kids=[a,b]∧ZF n a=true∧ZF n b=true:=by
 obtain ⟨h3,_,h5⟩:=NG h;have hk:(x.kids.length:Int)=MA x.op:=by
  rw [ZF,Bool.and_eq_true] at h;exact of_decide_eq_true h.1
 have h0:0<x.kids.length:=by
  unfold MA at hk
  (repeat' split at hk)<;>omega
 match hq:x.kids,h0,h3,h5 with
 | [a],_,_,h5=>exact .inl ⟨a,rfl,h5 a (by simp)⟩
 | [a,b],_,_,h5=>exact .inr ⟨a,b,rfl,h5 a (by simp),h5 b (by simp)⟩
 | a::b::c::r,_,h3,_=>simp at h3
theorem z8m : ∀ (n:Nat) (x:X) (_:ZF n x=true) (names:List Str) (vals:List Int),SpecP Tryz.prog 312 [.agg x.cells,QP names,XW vals] (fun r=>r=z7j (evN (q2n names vals) n x)):=by
 intro n;induction n with
 | zero=>intro x h;rw [ZF] at h;cases h
 | succ n ih =>
   intro x hx names vals;have hIx:=QE names x.name;have hvl:(vals.map (AV.int .i64)).length=vals.length:=length_map _;refine sB x9i Tryz.func312 rfl Tryz.call312 ?_;conv=>whnf
   by_cases h1:x.op=1
   ·have e:evN (q2n names vals) (n+1) x=(x.n,true):=by rw [evN,if_pos h1]
    rw [e];repeat' (apply bD<;>intro _<;>first|omega|conv=>whnf)
    all_goals exact QD rfl (Sub.tt rfl)
   by_cases h2:x.op=2
   ·have e:evN (q2n names vals) (n+1) x=(q2n names vals x.name,true):=by rw [evN,if_neg h1,if_pos h2]
    rw [e];unfold q2n;generalize idxF (fun y=>x.name==y) names=ix at *
    by_cases h3:0<=ix∧ix<vals.length
    ·rw [if_pos h3];have hg:(vals.map (AV.int .i64))[ix.toNat]? = some (.int .i64 (vals.getD ix.toNat 0)):=by
      rw [List.getElem?_map,List.getD_eq_getElem?_getD,List.getElem?_eq_getElem (by omega)];rfl
     repeat' (first|((first|(refine iM fun _=>?_)|refine cP hIx ?_|(refine IdxK.at (k:=ix.toNat) (by omega) hg rfl ?_));conv=>whnf)|(apply bD<;>intro _<;>first|omega|conv=>whnf))
     all_goals first
      | exact QD rfl (Sub.tt rfl)
      | (exfalso;omega)
    ·rw [if_neg h3];repeat' (first|((first|(refine iM fun _=>?_)|refine cP hIx ?_);conv=>whnf)|(apply bD<;>intro _<;>first|omega|conv=>whnf))
     all_goals first
      | (exfalso;omega)
      | exact QD rfl (Sub.tt rfl)
   rcases z0p hx h1 h2 with ⟨a,hk,ha⟩|⟨a,b,hk,ha,hb⟩
   ·have hA:=ih a ha names vals;have e:evN (q2n names vals) (n+1) x=bif (evN (q2n names vals) n a).2 then z3d x.op (evN (q2n names vals) n a).1 else (0,false):=by rw [evN,if_neg h1,if_neg h2,hk]
    rw [e];have hg0:(X.avs x.kids)[0]? = some (.agg a.cells):=by rw [hk,X.avs_eq];rfl
    have hkl:(X.avs x.kids).length=1:=by rw [hk,X.avs_eq];rfl
    generalize evN (q2n names vals) n a=ea at *
    obtain ⟨va,ta⟩:=ea;have hO:=z6p x.op va;generalize X.avs x.kids=ks at *
    cases ta;all_goals
     simp only [cond_true,cond_false];generalize z3d x.op va=ov at *
     repeat' (first|((first|(refine iM fun _=>?_)|(refine IdxK.at (k:=0) rfl hg0 rfl ?_)|refine cP hA ?_|refine cP hO ?_|refine Br.tt ?_|refine Br.ff ?_);conv=>whnf)|(apply bD<;>intro _<;>first|omega|conv=>whnf))
     all_goals first
      | contradiction
      | exact QD rfl (Sub.refl _)
      | exact QD rfl (Sub.ff rfl)
      | (exfalso;omega)
   ·have hA:=ih a ha names vals;have hB:=ih b hb names vals;have e:evN (q2n names vals) (n+1) x=bif (evN (q2n names vals) n a).2 then (if x.op=16∧(evN (q2n names vals) n a).1=0 then (0,true) else if x.op=17∧(evN (q2n names vals) n a).1≠0 then (1,true) else bif (evN (q2n names vals) n b).2 then w2y x.op (evN (q2n names vals) n a).1 (evN (q2n names vals) n b).1 else (0,false)) else (0,false):=by rw [evN,if_neg h1,if_neg h2,hk]
    rw [e];have hg0:(X.avs x.kids)[0]? = some (.agg a.cells):=by rw [hk,X.avs_eq];rfl
    have hg1:(X.avs x.kids)[1]? = some (.agg b.cells):=by rw [hk,X.avs_eq];rfl
    have hkl:(X.avs x.kids).length=2:=by rw [hk,X.avs_eq];rfl
    generalize evN (q2n names vals) n a=ea at *
    generalize evN (q2n names vals) n b=eb at *
    obtain ⟨va,ta⟩:=ea;obtain ⟨vb,tb⟩:=eb;have hO:=z3s x.op va vb;have hT:=x7u va;have hTe:(va != 0) = !decide (va=0):=by by_cases h:va=0<;>simp [h]
    rw [hTe] at hT;generalize X.avs x.kids=ks at *
    generalize w2y x.op va vb=ov at *
    cases ta<;>cases tb;all_goals
     simp only [cond_true,cond_false];by_cases h16:x.op=16∧va=0
     ·first
       | rw [if_pos h16]
       | skip
      repeat' (first|((first|(refine iM fun _=>?_)|(refine IdxK.at (k:=0) rfl hg0 rfl ?_)|(refine IdxK.at (k:=1) rfl hg1 rfl ?_)|refine cP hA ?_|refine cP hB ?_|refine cP hO ?_|refine cP hT ?_|refine Br.tt ?_|refine Br.ff ?_);conv=>whnf)|(apply bD<;>intro _<;>first|omega|conv=>whnf)|(apply bN<;>intro _<;>conv=>whnf))
      all_goals first
       | contradiction
       | exact QD rfl (Sub.tt rfl)
       | exact QD rfl (Sub.ff rfl)
       | (exfalso;omega)
       | (exfalso;have hh:(!decide (va=0))=true:=(by assumption);simp at hh;omega)
       | (exfalso;have hh:(!decide (va=0))=false:=(by assumption);simp at hh;omega)
     by_cases h17:x.op=17∧va≠0
     ·first
       | rw [if_neg h16,if_pos h17]
       | skip
      repeat' (first|((first|(refine iM fun _=>?_)|(refine IdxK.at (k:=0) rfl hg0 rfl ?_)|refine cP hA ?_|refine cP hT ?_|refine Br.tt ?_|refine Br.ff ?_);conv=>whnf)|(apply bD<;>intro _<;>first|omega|conv=>whnf)|(apply bE<;>intro _<;>first|omega|conv=>whnf))
      all_goals first
       | contradiction
       | exact QD rfl (Sub.tt rfl)
       | exact QD rfl (Sub.ff rfl)
       | (exfalso;omega)
       | (exfalso;have hh:(!decide (va=0))=true:=(by assumption);simp at hh;omega)
       | (exfalso;have hh:(!decide (va=0))=false:=(by assumption);simp at hh;omega)
     first
      | rw [if_neg h16,if_neg h17]
      | skip
     repeat' (first|((first|(refine iM fun _=>?_)|(refine IdxK.at (k:=0) rfl hg0 rfl ?_)|(refine IdxK.at (k:=1) rfl hg1 rfl ?_)|refine cP hA ?_|refine cP hB ?_|refine cP hO ?_|refine cP hT ?_|refine Br.tt ?_|refine Br.ff ?_);conv=>whnf)|(apply bD<;>intro _<;>first|omega|conv=>whnf)|(apply bE<;>intro _<;>first|omega|conv=>whnf)|(apply bN<;>intro _<;>conv=>whnf))
     all_goals first
      | contradiction
      | exact QD rfl (Sub.refl _)
      | exact QD rfl (Sub.ff rfl)
      | (exfalso;omega)
      | (exfalso;have hh:(!decide (va=0))=true:=(by assumption);simp at hh;omega)
      | (exfalso;have hh:(!decide (va=0))=false:=(by assumption);simp at hh;omega)
theorem w0q (x:X) (names:List Str) (vals:List Int):SpecP Tryz.prog 248 [.agg x.cells,QP names,XW vals] (fun r=>r=z7j (evX (q2n names vals) x)):=by
 refine sB z0r Tryz.func248 rfl Tryz.call248 ?_;conv=>whnf
 have hM:=GU x;unfold evX;cases hm:x8n x with
 | false =>
   rw [hm] at hM;repeat' ((first|refine cP hM ?_|refine Br.tt ?_);conv=>whnf)
   all_goals first
    | contradiction
    | exact QD rfl (Sub.ff rfl)
 | true =>
   have hE:=z8m 20 x hm names vals;rw [hm] at hM;rw [cond_true];generalize evN (q2n names vals) 20 x=ev at *
   repeat' ((first|refine cP hM ?_|refine cP hE ?_|refine Br.ff ?_);conv=>whnf)
   all_goals first
    | contradiction
    | exact QD rfl (Sub.refl _)
end Go.Ab
