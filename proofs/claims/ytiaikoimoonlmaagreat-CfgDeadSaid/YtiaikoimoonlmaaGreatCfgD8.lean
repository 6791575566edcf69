/- lex and tree: which names, which expressions may be. -/
import Derived.Test.YtiaikoimoonlmaaGreatCfgD6
import Derived.Test.YtiaikoimoonlmaaGreatCfgD7
set_option linter.unusedSimpArgs false
set_option linter.unusedVariables false
set_option maxRecDepth 100000
set_option maxHeartbeats 16000000
open List (drop_eq_nil_of_le length_append length_map length_singleton map_take mem_cons_of_mem mem_cons_self)
open Nat (zero_le)
namespace Go.Ab
open Go.Proofs
def DR (c:UInt8):Bool:=decide (97<=(c.toNat:Int))&&decide ((c.toNat:Int)<=122)
def q6o (c:UInt8):Bool:=decide (48<=(c.toNat:Int))&&decide ((c.toNat:Int)<=57)
def w0s (c:UInt8):Bool:=DR c||q6o c
theorem q3f (c:UInt8):SpecP Tryz.prog 243 [.int .u8 c.toNat] (fun r=>r = .bool (DR c)):=by
 refine sB q9x Tryz.func243 rfl Tryz.call243 ?_;conv=>whnf
 repeat' (apply bD<;>intro _<;>first|omega|conv=>whnf)
 ·exact RetK.bool (by simp_all [DR];try omega)
 ·exact RetK.ff (by simp_all [DR];try omega)
theorem z2j (c:UInt8):SpecP Tryz.prog 308 [.int .u8 c.toNat] (fun r=>r = .bool (q6o c)):=by
 refine sB x2c Tryz.func308 rfl Tryz.call308 ?_;conv=>whnf
 repeat' (apply bD<;>intro _<;>first|omega|conv=>whnf)
 ·exact RetK.bool (by simp_all [q6o];try omega)
 ·exact RetK.ff (by simp_all [q6o];try omega)
def BQ (s:Str) (i:Nat):Nat:=i+((s.drop i).takeWhile w0s).length
theorem q4k {s:Str} {i:Nat} (h:i<s.length) (hc:w0s s[i]=true):BQ s (i+1)=BQ s i:=by
 unfold BQ;rw [QJ h,List.takeWhile_cons,if_pos hc];simp only [List.length_cons];omega
theorem q9u {s:Str} {i:Nat} (h : ∀ (hi:i<s.length),w0s s[i]=false):BQ s i=i:=by
 unfold BQ;by_cases hi:i<s.length
 ·rw [QJ hi,List.takeWhile_cons,if_neg (by simp [h hi])];rfl
 ·rw [drop_eq_nil_of_le (by omega)];rfl
theorem z9e (s:Str) (i:Nat) (hi:i<=s.length):SpecP Tryz.prog 244 [.str s,.int .i64 i] (fun r=>r = .int .i64 (BQ s i)):=by
 refine sB x9j Tryz.func244 rfl Tryz.call244 ?_;conv=>whnf
 refine LoopK.inv QU (fun j:Nat=>⟨[(0,.p (.str s)),(1,.p (.int .i64 j))],[]⟩) (fun j=>j<=s.length∧BQ s j=BQ s i) (fun j=>s.length-j) i (Le.of_eq rfl) ⟨hi,rfl⟩ ?_;rintro j ⟨h2,h3⟩;conv=>whnf
 repeat' (first|((first|(refine iM fun _=>?_)|refine cP (q3f _) ?_|refine cP (z2j _) ?_|(refine ByteK.at (by omega) ?_)|refine wI ?_);conv=>whnf)|(apply bD<;>intro _<;>first|omega|conv=>whnf)|(apply bB<;>intro _<;>conv=>whnf))
 ·exact ⟨j+1,⟨by omega,by rw [q4k (by omega) (by simp_all [w0s])];exact h3⟩,by omega,Le.of_eq rfl⟩
 ·exact ⟨j+1,⟨by omega,by rw [q4k (by omega) (by simp_all [w0s])];exact h3⟩,by omega,Le.of_eq rfl⟩
 ·exact RetK.int (by rw [<- h3,q9u fun _=>by simp_all [w0s]])
 ·exact RetK.int (by rw [<- h3,q9u fun _=>by omega])
def x5d (s:Str):Bool:=decide (s=[103,108,111,98,97,108])||decide (s=[112,114,111,99])||decide (s=[118,97,114])||decide (s=[114,101,102])||decide (s=[105,102])||decide (s=[101,108,115,101])||decide (s=[119,104,105,108,101])||decide (s=[98,114,101,97,107])||decide (s=[99,111,110,116,105,110,117,101])||decide (s=[114,101,116,117,114,110])||decide (s=[103,111,116,111])||decide (s=[114,101,97,100])||decide (s=[112,114,105,110,116])
theorem z4v (s:Str):SpecP Tryz.prog 245 [.str s] (fun r=>r = .bool (x5d s)):=by
 refine sB x7s Tryz.func245 rfl Tryz.call245 ?_;conv=>whnf
 repeat' (apply bB<;>intro _<;>conv=>whnf)
 all_goals first
  | exact RetK.tt (by simp_all [x5d])
  | exact RetK.ff (by simp_all [x5d])
def isName (s:Str):Bool:=if h:1<=s.length∧s.length<=8 then DR (s[0]'(by omega))&&decide (BQ s 0=s.length) && !x5d s else false
theorem BY (s:Str):SpecP Tryz.prog 174 [.str s] (fun r=>r = .bool (isName s)):=by
 refine sB x8x Tryz.func174 rfl Tryz.call174 ?_;conv=>whnf
 repeat' (first|((first|(refine iM fun _=>?_)|refine cP (q3f _) ?_|refine cP (z9e _ 0 (zero_le _)) ?_|refine cP (z4v _) ?_|(refine ByteK.at (k:=0) (by omega) ?_));conv=>whnf)|(apply bD<;>intro _<;>first|omega|conv=>whnf)|(apply bN<;>intro _<;>conv=>whnf))
 ·exact RetK.ff (by unfold isName;rw [dif_neg (by omega)])
 ·exact RetK.ff (by unfold isName;rw [dif_neg (by omega)])
 ·exact RetK.bool (by unfold isName;rw [dif_pos (by omega)];simp_all;omega)
 ·exact RetK.ff (by unfold isName;rw [dif_pos (by omega)];simp_all;omega)
 ·exact RetK.ff (by unfold isName;rw [dif_pos (by omega)];simp_all)
def namesB (l:List Str):Bool:=l.all isName
theorem NY (l:List Str):SpecP Tryz.prog 173 [QP l] (fun r=>r = .bool (namesB l)):=by
 refine sB q9f Tryz.func173 rfl Tryz.call173 ?_;conv=>whnf
 refine iM fun _=>?_;conv=>whnf
 refine LoopK.inv QU (fun j:Nat=>⟨[(5,.p (QP l)),(6,.p (.int .i64 (l.map AV.str).length)),(7,.p (.int .i64 j))],[]⟩) (fun j=>j<=l.length∧(l.drop j).all isName=namesB l) (fun j=>l.length-j) 0 (Le.of_eq rfl) ⟨zero_le _,rfl⟩ ?_;rintro j ⟨h2,h3⟩;have hl:(l.map AV.str).length=l.length:=length_map _;conv=>whnf
 repeat' (first|((first|refine cP (BY _) ?_|(refine iA fun _=>?_)|refine wI ?_);conv=>whnf)|(apply bD<;>intro _<;>first|omega|conv=>whnf)|(apply bN<;>intro _<;>conv=>whnf))
 ·exact ⟨j+1,⟨by omega,by rw [q1r (by omega) (by assumption)];exact h3⟩,by omega,Le.of_eq rfl⟩
 ·exact RetK.ff (by rw [<- h3,q4i (by omega) (by assumption)])
 ·exact RetK.tt (by rw [<- h3,q2x (by omega)])
def MA (op:Int):Int:=if op=1∨op=2 then 0 else if op=3∨op=4 then 1 else if 5<=op∧op<=17 then 2 else -1
theorem z2m (op:Int):SpecP Tryz.prog 346 [.int .i64 op] (fun r=>r = .int .i64 (MA op)):=by
 refine sB x2r Tryz.func346 rfl Tryz.call346 ?_;conv=>whnf
 repeat' (apply bD<;>intro _<;>first|omega|conv=>whnf)
 all_goals exact RetK.int (by unfold MA;(repeat' split)<;>omega)
def ZF:Nat->X->Bool
 | 0,_=>false
 | n+1,x=>decide ((x.kids.length:Int)=MA x.op)&&(if x.op=1 then decide (0<=x.n)&&(x.name==[]) else if x.op=2 then decide (x.n=0)&&isName x.name else decide (x.n=0)&&(x.name==[])&&x.kids.all (ZF n))
theorem z0x : ∀ (n:Nat) (_:n<=1000) (x:X),SpecP Tryz.prog 320 [.agg x.cells,.int .i64 n] (fun r=>r = .bool (ZF n x)):=by
 intro n;induction n with
 | zero =>
   intro _ x;refine sB q0c Tryz.func320 rfl Tryz.call320 ?_;conv=>whnf
   repeat' (first|(refine dA ?_;conv=>whnf)|(apply bD<;>intro _<;>first|omega|conv=>whnf))
   exact RetK.ff rfl
 | succ n ih =>
   intro hn x;refine sB q0c Tryz.func320 rfl Tryz.call320 ?_;conv=>whnf
   repeat' (first|((first|(refine iM fun _=>?_)|refine cP (z2m _) ?_|refine cP (BY _) ?_|refine dA ?_);conv=>whnf)|(apply bD<;>intro _<;>first|omega|conv=>whnf)|(apply bE<;>intro _<;>first|omega|conv=>whnf)|(apply bN<;>intro _<;>conv=>whnf))
   all_goals try (have hk:((X.avs x.kids).length:Int)=x.kids.length:=by rw [X.avs_len])
   ·exact RetK.bool (by simp_all [ZF])
   ·exact RetK.ff (by simp_all [ZF];try omega)
   ·exact RetK.bool (by simp_all [ZF])
   ·exact RetK.ff (by simp_all [ZF];try omega)
   ·have h0:ZF (n+1) x=x.kids.all (ZF n):=by simp_all [ZF]
    rw [h0];refine LoopK.inv QU (fun j:Nat=>⟨[(1,.p (.int .i64 (n+1:Nat))),(49,.p (.sl (X.avs x.kids))),(50,.p (.int .i64 (X.avs x.kids).length)),(51,.p (.int .i64 j))],[]⟩) (fun j=>j<=x.kids.length∧(x.kids.drop j).all (ZF n)=x.kids.all (ZF n)) (fun j=>x.kids.length-j) 0 (Le.of_eq rfl) ⟨zero_le _,rfl⟩ ?_;rintro j ⟨h2,h3⟩;conv=>whnf
    repeat' (first|((first|refine And.intro rfl ?_|refine IdxK.xs (by omega) ?_|refine wI ?_|(refine CallK.pure (ih (by omega) _) (.cons (Sub.refl _) (.cons (Sub.int (by omega)) .nil)) ?_;rintro _ rfl));conv=>whnf)|(apply bD<;>intro _<;>first|omega|conv=>whnf)|(apply bN<;>intro _<;>conv=>whnf))
    ·exact ⟨j+1,⟨by omega,by rw [q1r (by omega) (by assumption)];exact h3⟩,by omega,Le.of_eq rfl⟩
    ·exact RetK.ff (by rw [<- h3,q4i (by omega) (by assumption)])
    ·exact RetK.tt (by rw [<- h3,q2x (by omega)])
   ·exact RetK.ff (by simp_all [ZF];try omega)
   ·exact RetK.ff (by simp_all [ZF];try omega)
   ·exact RetK.ff (by simp_all [ZF];try omega)
def x8n (x:X):Bool:=ZF 20 x
theorem GU (x:X):SpecP Tryz.prog 261 [.agg x.cells] (fun r=>r = .bool (x8n x)):=by
 refine sB q3w Tryz.func261 rfl Tryz.call261 ?_;conv=>whnf
 repeat' (refine cP (z0x 20 (by omega) _) ?_;conv=>whnf)
 exact RetK.p rfl
def noneB (x:X):Bool:=decide (x.op=0)&&decide (x.n=0)&&(x.name==[])&&((x.kids.length:Int)==0)
theorem z1f (x:X):SpecP Tryz.prog 339 [.agg x.cells] (fun r=>r = .bool (noneB x)):=by
 refine sB x1i Tryz.func339 rfl Tryz.call339 ?_;conv=>whnf
 repeat' (first|(refine iM fun _=>?_;conv=>whnf)|(apply bD<;>intro _<;>first|omega|conv=>whnf)|(apply bB<;>intro _<;>conv=>whnf))
 all_goals have hk:((X.avs x.kids).length:Int)=x.kids.length:=by rw [X.avs_len]
 all_goals first
  | exact RetK.ff (by simp_all [noneB])
  | exact RetK.bool (by simp_all [noneB])
def KF (s:Str) (is:Bool):Bool:=bif is then isName s else s==[]
theorem q4d (s:Str) (is:Bool):SpecP Tryz.prog 309 [.str s,.bool is] (fun r=>r = .bool (KF s is)):=by
 refine sB x0h Tryz.func309 rfl Tryz.call309 ?_;conv=>whnf
 repeat' (first|(refine cP (BY _) ?_;conv=>whnf)|(apply bN<;>intro _<;>conv=>whnf)|(apply bB<;>intro _<;>conv=>whnf))
 all_goals first
  | exact RetK.tt (by simp_all [KF])
  | exact RetK.ff (by simp_all [KF])
  | exact RetK.bool (by simp_all [KF])
def JZ (x:X) (is:Bool):Bool:=bif is then x8n x else noneB x
theorem q4e (x:X) (is:Bool):SpecP Tryz.prog 310 [.agg x.cells,.bool is] (fun r=>r = .bool (JZ x is)):=by
 refine sB x0t Tryz.func310 rfl Tryz.call310 ?_;conv=>whnf
 repeat' (first|((first|refine cP (GU _) ?_|refine cP (z1f _) ?_);conv=>whnf)|(apply bN<;>intro _<;>conv=>whnf)|(apply bB<;>intro _<;>conv=>whnf))
 all_goals first
  | exact RetK.tt (by simp_all [JZ])
  | exact RetK.ff (by simp_all [JZ])
  | exact RetK.bool (by simp_all [JZ])
def q0p (a:Arg):Bool:=KF a.name a.ref&&JZ a.x (!a.ref)
theorem x3k (l:List Arg):SpecP Tryz.prog 311 [z1r l] (fun r=>r = .bool (l.all q0p)):=by
 refine sB q6k Tryz.func311 rfl Tryz.call311 ?_;conv=>whnf
 refine iM fun _=>?_;conv=>whnf
 refine LoopK.inv QU (fun j:Nat=>⟨[(5,.p (z1r l)),(6,.p (.int .i64 (l.map fun a=>AV.agg a.cells).length)),(7,.p (.int .i64 j))],[]⟩) (fun j=>j<=l.length∧(l.drop j).all q0p=l.all q0p) (fun j=>l.length-j) 0 (Le.of_eq rfl) ⟨zero_le _,rfl⟩ ?_;rintro j ⟨h2,h3⟩;have hl:(l.map fun a=>AV.agg a.cells).length=l.length:=length_map _;conv=>whnf
 repeat' (first|((first|refine cP (q4d _ _) ?_|refine cP (q4e _ _) ?_|refine And.intro rfl ?_|(refine iA fun _=>?_)|refine wI ?_);conv=>whnf)|(apply bD<;>intro _<;>first|omega|conv=>whnf)|(apply bN<;>intro _<;>conv=>whnf))
 ·exact ⟨j+1,⟨by omega,by rw [q1r (by omega) (by simp_all [q0p])];exact h3⟩,by omega,Le.of_eq rfl⟩
 ·exact RetK.ff (by rw [<- h3,q4i (by omega) (by simp_all [q0p])])
 ·exact RetK.ff (by rw [<- h3,q4i (by omega) (by simp_all [q0p])])
 ·exact RetK.tt (by rw [<- h3,q2x (by omega)])
structure Flds where
 name:Bool
 proc:Bool
 x:Bool
 has:Bool
 thn:Bool
 els:Bool
def DN (k:Int) (has:Bool) (noName:Bool):Option Flds :=
 if k=1 then some ⟨true,false,true,has,false,false⟩
 else if k=2 then some ⟨true,false,false,has,false,false⟩
 else if k=10 then some ⟨true,false,false,has,false,false⟩
 else if k=3 then some ⟨false,false,true,has,false,false⟩
 else if k=4 then some ⟨!noName,true,false,has,false,false⟩
 else if k=5 then some ⟨false,false,true,has,true,true⟩
 else if k=6 then some ⟨false,false,true,has,true,false⟩
 else if k=9 then some ⟨false,false,has,false,false,false⟩
 else if k=7 then some ⟨false,false,false,has,false,false⟩
 else if k=8 then some ⟨false,false,false,has,false,false⟩
 else none
def ZX (s:S):Bool :=
 match DN s.kind s.has (s.name==[]) with
 | none=>false
 | some f => !(f.has||(!f.thn&&decide (0<s.thn.length))||(!f.els&&decide (0<s.els.length))||(!decide (s.kind=4)&&decide (0<s.args.length)))&&KF s.name f.name&&KF s.proc f.proc&&JZ s.x f.x&&s.args.all q0p
theorem NX {s:S} {f:Flds} (h:DN s.kind s.has (s.name==[])=some f):ZX s=(!(f.has||(!f.thn&&decide (0<s.thn.length))||(!f.els&&decide (0<s.els.length))||(!decide (s.kind=4)&&decide (0<s.args.length)))&&KF s.name f.name&&KF s.proc f.proc&&JZ s.x f.x&&s.args.all q0p):=by
 unfold ZX;rw [h]
theorem x1o (s:S):SpecP Tryz.prog 246 [.agg s.cells] (fun r=>r = .bool (ZX s)):=by
 refine sB q5i Tryz.func246 rfl Tryz.call246 ?_;conv=>whnf
 repeat' (first|((first|(refine iM fun _=>?_)|refine cP (q4d _ _) ?_|refine cP (q4e _ _) ?_|refine cP (x3k _) ?_|refine dA ?_);conv=>whnf)|(apply bD<;>intro _<;>first|omega|conv=>whnf)|(apply bE<;>intro _<;>first|omega|conv=>whnf)|(apply bN<;>intro _<;>conv=>whnf)|(apply bB<;>intro _<;>conv=>whnf))
 all_goals first
  | exact RetK.ff (by simp_all [ZX,DN,S.avs_len])
  | exact RetK.bool (by simp_all [ZX,DN,S.avs_len])
  | exact RetK.ff (by simp_all [ZX,DN,S.avs_len];omega)
mutual
def q5g (nest seen:Int):S->Option Int
 | .mk id kind labels name proc x has args thn els =>
   if seen+1>200 then none else if id≠seen+1 then none else
   bif namesB labels then bif ZX (.mk id kind labels name proc x has args thn els) then
    match VH (nest+1) (seen+1) thn with
    | some m=>VH (nest+1) m els
    | none=>none
   else none else none
def VH (nest seen:Int):List S->Option Int
 | []=>some seen
 | s::r=>if nest>12 then none else match q5g nest seen s with
   | some m=>VH nest m r
   | none=>none
end
theorem q6x (nest seen:Int) (s:S):q5g nest seen s=if seen+1>200 then none else if s.id≠seen+1 then none else
  bif namesB s.labels then bif ZX s then
   match VH (nest+1) (seen+1) s.thn with
   | some m=>VH (nest+1) m s.els
   | none=>none
  else none else none:=by
 cases s;rw [q5g];rfl
mutual
theorem z9j (nest seen:Int) : ∀ (s:S) {m:Int},q5g nest seen s=some m->seen<m∧m<=200
 | .mk id kind labels name proc x has args thn els,m,h=>by
   simp only [q5g] at h;split at h
   ·cases h
   split at h
   ·cases h
   cases hn:namesB labels<;>rw [hn] at h
   ·cases h
   cases hf:ZX (.mk id kind labels name proc x has args thn els)<;>rw [hf] at h
   ·cases h
   simp only [cond_true] at h;split at h
   ·rename_i m1 h1;have h2:=q0i (nest+1) (seen+1) thn (by omega) h1;have h3:=q0i (nest+1) m1 els h2.2 h;omega
   ·cases h
theorem q0i (nest seen:Int) : ∀ (l:List S) {m:Int},seen<=200->VH nest seen l=some m->seen<=m∧m<=200
 | [],m,h0,h=>by
   simp only [VH] at h;cases h;omega
 | s::r,m,h0,h=>by
   simp only [VH] at h;split at h
   ·cases h
   split at h
   ·rename_i m1 h1;have h2:=z9j nest seen s h1;have h3:=q0i nest m1 r h2.2 h;omega
   ·cases h
end
def x2a (T:Nat) (nest seen:Int) (l:List S) (r:LV) (H:Heap):Prop :=
 match VH nest seen l with
 | some m=>r = .p .tt∧H=[(1000,.obj T [.p (.int .i64 m)])]
 | none=>r = .p .ff ∧ ∃ m,H=[(1000,.obj T [.p (.int .i64 m)])]
theorem q3j {T:Nat} {nest seen m:Int} {l:List S} (h:VH nest seen l=some m):RetHK [(1000,.obj T [.p (.int .i64 m)])] (.p .tt) (x2a T nest seen l) :=
 ⟨.p .tt,.refl _,by unfold x2a;rw [h];exact ⟨rfl,rfl⟩⟩
theorem NV {T:Nat} {nest seen m:Int} {l:List S} (h:VH nest seen l=none):RetHK [(1000,.obj T [.p (.int .i64 m)])] (.p .ff) (x2a T nest seen l) :=
 ⟨.p .ff,.refl _,by unfold x2a;rw [h];exact ⟨rfl,_,rfl⟩⟩
theorem q1n {T:Nat} {nest seen:Int} {l:List S} {Q:LV->Heap->Prop} (hs:seen<=200) (h1 : ∀ m,VH nest seen l=some m->seen<=m->m<=200->Q (.p .tt) [(1000,.obj T [.p (.int .i64 m)])])
  (h2:VH nest seen l=none -> ∀ m,Q (.p .ff) [(1000,.obj T [.p (.int .i64 m)])]) : ∀ l' H',x2a T nest seen l l' H'->Q l' H':=by
 intro l' H' h;unfold x2a at h;cases hr:VH nest seen l with
 | some m =>
   rw [hr] at h;obtain ⟨rfl,rfl⟩:=h;have:=q0i nest seen l hs hr;exact h1 m hr this.1 this.2
 | none =>
   rw [hr] at h;obtain ⟨rfl,m,rfl⟩:=h;exact h2 hr m
theorem q8f {nest seen:Int} {l:List S} (h:nest>12) (hl:0<l.length):VH nest seen l=none:=by
 cases l with
 | nil=>cases hl
 | cons s r=>simp only [VH];rw [if_pos h]
theorem z1d {nest seen:Int} {l:List S} {j:Nat} (h : ¬nest>12) (hj:j<l.length):VH nest seen (l.drop j)=match q5g nest seen l[j] with
  | some m=>VH nest m (l.drop (j+1))
  | none=>none:=by
 rw [QJ hj,VH,if_neg h]
theorem z0a : ∀ (d n:Nat) (_:n+d=14) (l:List S) (seen:Int) (_:0<=seen) (_:seen<=200),
  SpecH Tryz.prog 175 [.ptr 1000 0,.p (eSs l),.p (.int .i64 n)] [(1000,.obj 215 [.p (.int .i64 seen)])] (x2a 215 n seen l):=by
 intro d;induction d with
 | zero =>
   intro n hn l seen h0 h1;refine sH YG Tryz.func175 rfl Tryz.call175 ?_;conv=>whnf
   repeat' (first|(refine iM fun _=>?_;conv=>whnf)|(apply bD<;>intro _<;>first|omega|conv=>whnf))
   ·exact NV (q8f (by omega) (by rw [S.avs_len] at *;omega))
   ·have hl:=S.avs_len l;obtain rfl:l=[]:=List.eq_nil_of_length_eq_zero (by omega);refine LoopK.inv QU (fun _:Unit=>⟨[(0,.ptr 1000 0),(2,.p (.int .i64 n)),(16,.p (eSs [])),(17,.p (.int .i64 (S.avs []).length)),(18,.p (.int .i64 0))],[(1000,.obj 215 [.p (.int .i64 seen)])]⟩) (fun _=>True) (fun _=>0) () (Le.of_eq rfl) trivial ?_;intro _ _;conv=>whnf
    repeat' (apply bD<;>intro _<;>first|omega|conv=>whnf)
    exact q3j rfl
 | succ d ih =>
   intro n hn l seen h0 h1;refine sH YG Tryz.func175 rfl Tryz.call175 ?_;have hl:=S.avs_len l;conv=>whnf
   repeat' (first|(refine iM fun _=>?_;conv=>whnf)|(apply bD<;>intro _<;>first|omega|conv=>whnf))
   ·exact NV (q8f (by omega) (by omega))
   all_goals
    refine LoopK.inv QU (fun i:Nat×Int=>⟨[(0,.ptr 1000 0),(2,.p (.int .i64 n)),(16,.p (eSs l)),(17,.p (.int .i64 (S.avs l).length)),(18,.p (.int .i64 i.1))],[(1000,.obj 215 [.p (.int .i64 i.2)])]⟩) (fun i=>i.1<=l.length∧0<=i.2∧i.2<=200∧VH n i.2 (l.drop i.1)=VH n seen l) (fun i=>l.length-i.1) (0,seen) (Le.of_eq rfl) ⟨zero_le _,h0,h1,rfl⟩ ?_;rintro ⟨j,m⟩ ⟨h2,h3,h4,h5⟩;simp only at h2 h3 h4 h5 ⊢;conv=>whnf
    repeat' (first|((first|refine cP (NY _) ?_|refine cP (x1o _) ?_|refine dA ?_|refine And.intro rfl ?_|refine QF (by omega) ?_|refine wI ?_);conv=>whnf)|(apply bD<;>intro _<;>first|omega|conv=>whnf)|(apply bE<;>intro _<;>first|omega|conv=>whnf)|(apply bN<;>intro _<;>conv=>whnf)|(refine CallK.heap [(1000,1000)] 0 (by repeat' (first|exact ArgsH.nil|refine ArgsH.cons ?_ ?_|exact LSub.refl _|exact LSub.p Sub.nils|exact LSub.p (Sub.tt rfl)|exact LSub.p (Sub.ff rfl)|exact LSub.p (Sub.int (by omega)))) (by refine BlksH.cons (j:=1000) rfl rfl ?_ ?_;exact CSub.refl _;exact BlksH.nil) (ih (n+1) (by omega) _ _ (by omega) (by omega)) rfl rfl (q1n (by omega) (fun _ _ _ _ => ?_) (fun _ _ => ?_))<;>conv=>whnf))
    all_goals try (have hst:=z1d (seen:=m) (l:=l) (j:=j) (nest:=(n:Int)) (by omega) (by omega);rw [q6x,show (n:Int)+1=((n+1:Nat):Int) from rfl] at hst)
    all_goals first
     | exact q3j (by rw [<- h5,drop_eq_nil_of_le (by omega)];simp only [VH])
     | exact NV (by rw [<- h5,hst];clear h5 hst;first|rw [if_pos (by omega:m+1>200)]|(rw [if_neg (by omega : ¬m+1>200)];simp [*,-Int.natCast_add]))
     | exact ⟨(j+1,_),⟨by simp only;omega,by simp only;omega,by simp only;omega,by rw [<- h5,hst];clear h5 hst;first|rw [if_pos (by omega:m+1>200)]|(rw [if_neg (by omega : ¬m+1>200)];simp [*,-Int.natCast_add])⟩,by simp only;omega,Le.of_eq rfl⟩
def JT (f:Pr):Bool:=decide (f.params.length<=8)&&decide (f.vars.length<=16)&&isName f.name&&namesB f.vars&&namesB f.fin&&f.params.all fun a=>isName a.name
def XJ (seen:Int):List Pr->Option Int
 | []=>some seen
 | f::r=>bif JT f then match VH 1 seen f.body with
    | some m=>XJ m r
    | none=>none
   else none
def JA (p:Pg):Bool:=decide (p.globals.length<=16)&&decide (p.procs.length<=16)&&namesB p.globals&&(XJ 0 p.procs).isSome
theorem q1e {seen:Int} {l:List Pr} {j:Nat} (hj:j<l.length):XJ seen (l.drop j)=bif JT l[j] then match VH 1 seen l[j].body with
   | some m=>XJ m (l.drop (j+1))
   | none=>none
  else none:=by
 rw [QJ hj,XJ]
theorem KA {f:Pr}:JT f=true↔f.params.length<=8∧f.vars.length<=16∧isName f.name=true∧namesB f.vars=true∧namesB f.fin=true∧(f.params.all fun a=>isName a.name)=true:=by
 simp only [JT,Bool.and_eq_true,decide_eq_true_eq,and_assoc]
theorem q0h {seen:Int} {l:List Pr} {j:Nat} (hj:j<l.length) (h : ¬(l[j].params.length<=8∧l[j].vars.length<=16∧isName l[j].name=true∧namesB l[j].vars=true∧namesB l[j].fin=true∧(l[j].params.all fun a=>isName a.name)=true)):(XJ seen (l.drop j)).isSome=false:=by
 rw [q1e hj];have:JT l[j]=false:=by rw [Bool.eq_false_iff];intro hm;exact h (KA.1 hm)
 rw [this];rfl
theorem q7f (p:Pg):SpecP Tryz.prog 106 [.agg p.cells] (fun r=>r = .bool (JA p)):=by
 refine sB x6z Tryz.func106 rfl Tryz.call106 ?_;conv=>whnf
 repeat' (first|((first|(refine iM fun _=>?_)|refine cP (NY _) ?_|refine And.intro rfl ?_);conv=>whnf)|(apply bD<;>intro _<;>first|omega|conv=>whnf)|(apply bN<;>intro _<;>conv=>whnf))
 all_goals try have hl1:(p.globals.map AV.str).length=p.globals.length:=length_map _
 all_goals try have hl2:(p.procs.map fun f=>AV.agg f.cells).length=p.procs.length:=length_map _
 ·exact RetK.ff (by unfold JA;simp;omega)
 ·exact RetK.ff (by unfold JA;simp;omega)
 ·have h0:JA p=(XJ 0 p.procs).isSome:=by unfold JA;simp [*];omega
  rw [h0];refine LoopK.inv QU (fun i:Nat×Int=>⟨[(3,.ptr 0 0),(27,.p (.sl (p.procs.map fun f=>AV.agg f.cells))),(28,.p (.int .i64 (p.procs.map fun f=>AV.agg f.cells).length)),(29,.p (.int .i64 i.1))],[(0,.obj 215 [.p (.int .i64 i.2)])]⟩) (fun i=>i.1<=p.procs.length∧0<=i.2∧i.2<=200∧XJ i.2 (p.procs.drop i.1)=XJ 0 p.procs) (fun i=>p.procs.length-i.1) (0,0) (Le.of_eq rfl) ⟨zero_le _,by decide,by decide,rfl⟩ ?_;rintro ⟨j,m⟩ ⟨h2,h3,h4,h5⟩;simp only at h2 h3 h4 h5 ⊢;conv=>whnf
  repeat' (first|((first|(refine iM fun _=>?_)|refine cP (NY _) ?_|refine cP (BY _) ?_|refine And.intro rfl ?_|(refine iA fun _=>?_));conv=>whnf)|(apply bD<;>intro _<;>first|omega|conv=>whnf)|(apply bN<;>intro _<;>conv=>whnf))
  all_goals try have hl3:((p.procs[j]'(by omega)).params.map fun a=>AV.agg a.cells).length=(p.procs[j]'(by omega)).params.length:=length_map _
  all_goals try have hl4:((p.procs[j]'(by omega)).vars.map AV.str).length=(p.procs[j]'(by omega)).vars.length:=length_map _
  rotate_left 2
  ·have hj:j<p.procs.length:=by omega
   refine LoopK.inv QU (fun i:Nat=>⟨[(3,.ptr 0 0),(5,.p (.ip p.procs[j].cells)),(27,.p (.sl (p.procs.map fun f=>AV.agg f.cells))),(28,.p (.int .i64 (p.procs.map fun f=>AV.agg f.cells).length)),(29,.p (.int .i64 j)),(62,.p (.sl (p.procs[j].params.map fun a=>AV.agg a.cells))),(63,.p (.int .i64 (p.procs[j].params.map fun a=>AV.agg a.cells).length)),(64,.p (.int .i64 i))],[(0,.obj 215 [.p (.int .i64 m)])]⟩) (fun i=>i<=p.procs[j].params.length∧((p.procs[j].params.drop i).all fun a=>isName a.name)=p.procs[j].params.all fun a=>isName a.name) (fun i=>p.procs[j].params.length-i) 0 (Le.of_eq rfl) ⟨zero_le _,rfl⟩ ?_;rintro i ⟨h6,h7⟩;conv=>whnf
   repeat' (first|((first|refine cP (BY _) ?_|refine And.intro rfl ?_|(refine iA fun _=>?_)|refine wI ?_);conv=>whnf)|(apply bD<;>intro _<;>first|omega|conv=>whnf)|(apply bN<;>intro _<;>conv=>whnf)|(refine CallK.heap [(1000,0)] 0 (by repeat' (first|exact ArgsH.nil|refine ArgsH.cons ?_ ?_|exact LSub.refl _|exact LSub.p Sub.nils|exact LSub.p (Sub.tt rfl)|exact LSub.p (Sub.ff rfl)|exact LSub.p (Sub.int (by omega)))) (by refine BlksH.cons (j:=0) rfl rfl ?_ ?_;exact CSub.refl _;exact BlksH.nil) (z0a 13 1 rfl _ _ (by omega) (by omega)) rfl rfl (q1n (by omega) (fun _ _ _ _ => ?_) (fun _ _ => ?_))<;>conv=>whnf))
   ·exact ⟨i+1,⟨by omega,by rw [<- h7,q1r (p:=fun a:Param=>isName a.name) (by omega) (by assumption)]⟩,by omega,Le.of_eq rfl⟩
   ·exact RetK.ff (by
     rw [<- h5];refine q0h hj fun h => ?_;have:=q4i (p:=fun a:Param=>isName a.name) (l:=p.procs[j].params) (j:=i) (by omega) (by assumption);rw [h7,h.2.2.2.2.2] at this;cases this)
   all_goals
    have hall:(p.procs[j].params.all fun a=>isName a.name)=true:=by rw [<- h7,q2x (by omega)]
    have hp:JT p.procs[j]=true:=KA.2 ⟨by omega,by omega,by assumption,by assumption,by assumption,hall⟩;have hst:=q1e (seen:=m) hj;rw [hp,cond_true] at hst
   ·rename_i m2 hrow _ _;replace hrow:VH 1 m p.procs[j].body=some m2:=hrow;rw [hrow] at hst;exact ⟨(j+1,m2),⟨by simp only;omega,by simp only;omega,by simp only;omega,by rw [<- h5,hst]⟩,by simp only;omega,Le.of_eq rfl⟩
   ·rename_i hrow _;replace hrow:VH 1 m p.procs[j].body=none:=hrow;rw [hrow] at hst;exact RetK.ff (by rw [<- h5,hst];rfl)
  all_goals first
   | exact RetK.tt (by rw [<- h5,drop_eq_nil_of_le (by omega)];rfl)
   | exact RetK.ff (by rw [<- h5];exact q0h (by omega) fun h=>by omega)
   | exact RetK.ff (by rw [<- h5];exact q0h (by omega) fun h=>by simp_all)
 ·exact RetK.ff (by unfold JA;simp [*])
theorem QE (l:List Str) (v:Str):SpecP Tryz.prog 190 [QP l,.str v] (fun r=>r = .int .i64 (idxF (fun s=>v==s) l)):=by
 refine sB VO Tryz.func190 rfl Tryz.call190 ?_;conv=>whnf
 refine iM fun _=>?_;have hl:(l.map AV.str).length=l.length:=length_map _;conv=>whnf
 refine LoopK.inv QU (fun j:Nat=>⟨[(0,.p (QP l)),(1,.p (.str v)),(7,.p (.int .i64 (l.map AV.str).length)),(8,.p (.int .i64 j))],[]⟩) (fun j=>j<=l.length∧(l.drop j).any (fun s=>v==s)=l.any (fun s=>v==s)∧l.findIdx (fun s=>v==s)=j+(l.drop j).findIdx (fun s=>v==s)) (fun j=>l.length-j) 0 (Le.of_eq rfl) ⟨zero_le _,rfl,by simp⟩ ?_;rintro j ⟨h2,h3,h4⟩;conv=>whnf
 repeat' (first|((first|(refine iA fun _=>?_)|refine wI ?_);conv=>whnf)|(apply bD<;>intro _<;>first|omega|conv=>whnf)|(apply bB<;>intro _<;>conv=>whnf))
 ·exact RetK.int (LN (p:=fun s=>v==s) (by omega) (by assumption) h3 h4).symm
 ·exact ⟨j+1,⟨by omega,by rw [<- h3,q4z (p:=fun s=>v==s) (by omega) (by assumption)],by rw [h4,z5u (p:=fun s=>v==s) (by omega) (by assumption)];omega⟩,by omega,Le.of_eq rfl⟩
 ·exact RetK.int (by rw [q7p];rw [<- h3,PN (by omega)])
theorem QQ (l:List Str) (v:Str):SpecP Tryz.prog 147 [QP l,.str v] (fun r=>r = .bool (l.any fun s=>v==s)):=by
 refine sB WS Tryz.func147 rfl Tryz.call147 ?_;conv=>whnf
 repeat' (refine cP (QE _ _) ?_;conv=>whnf)
 exact RetK.bool PD
def XE (l:List Str):Bool:=(List.range l.length).any fun i=>(l.take i).any fun s=>l[i]?.getD []==s
theorem FK (l:List Str):SpecP Tryz.prog 191 [QP l] (fun r=>r = .bool (XE l)):=by
 refine sB q7z Tryz.func191 rfl Tryz.call191 ?_;conv=>whnf
 refine iM fun _=>?_;have hl:(l.map AV.str).length=l.length:=length_map _;conv=>whnf
 refine LoopK.inv QU (fun j:Nat=>⟨[(0,.p (QP l)),(5,.p (QP l)),(6,.p (.int .i64 (l.map AV.str).length)),(7,.p (.int .i64 j))],[]⟩) (fun j=>j<=l.length∧((List.range l.length).drop j).any (fun i=>(l.take i).any fun s=>l[i]?.getD []==s)=XE l) (fun j=>l.length-j) 0 (Le.of_eq rfl) ⟨zero_le _,rfl⟩ ?_;rintro j ⟨h2,h3⟩;conv=>whnf
 repeat' (first|((first|(refine iA fun _=>?_)|refine wI ?_|refine And.intro (fun e he=>by obtain ⟨x,_,rfl⟩:=List.mem_map.1 he;rfl) (SlK.mk 0 j rfl rfl (by omega) (by omega) ?_)|(refine CallK.pure (QQ (l.take j) (l[j]'(by omega))) (.cons (Sub.of_eq (by simp [QP,map_take])) (.cons (Sub.refl _) .nil)) ?_;rintro _ rfl));conv=>whnf)|(apply bD<;>intro _<;>first|omega|conv=>whnf)|(apply bB<;>intro _<;>conv=>whnf))
 all_goals try have hr:(List.range l.length)[j]'(by simp;omega)=j:=by simp
 all_goals try have e:l[j]?.getD []=l[j]'(by omega):=by rw [List.getElem?_eq_getElem (by omega)];rfl
 ·exact RetK.tt (by rw [<- h3,x2k (p:=fun i=>(l.take i).any fun s=>l[i]?.getD []==s) (by simp;omega) (by rw [hr,e];assumption)])
 ·exact ⟨j+1,⟨by omega,by rw [<- h3,q4z (p:=fun i=>(l.take i).any fun s=>l[i]?.getD []==s) (by simp;omega) (by rw [hr,e];assumption)]⟩,by omega,Le.of_eq rfl⟩
 ·exact RetK.ff (by rw [<- h3,PN (by simp;omega)])
def NB (f:Pr):List Str:=f.params.map Param.name++f.vars
theorem x0g (f:Pr) (h1:f.params.length<=1000) (h2:f.vars.length<=1000):SpecP Tryz.prog 192 [.agg f.cells] (fun r=>r=QP (NB f)):=by
 refine sB x1s Tryz.func192 rfl Tryz.call192 ?_;conv=>whnf
 refine iM fun _=>?_;have hl:(f.params.map fun a=>AV.agg a.cells).length=f.params.length:=length_map _;conv=>whnf
 refine LoopK.inv QU (fun j:Nat=>⟨[(1,.p (.ip f.cells)),(3,.hd 0 0 j),(7,.p (.sl (f.params.map fun a=>AV.agg a.cells))),(8,.p (.int .i64 (f.params.map fun a=>AV.agg a.cells).length)),(9,.p (.int .i64 j))],[(0,.own 9 1 ((f.params.take j).map fun a=>AV.str a.name))]⟩) (fun j=>j<=f.params.length) (fun j=>f.params.length-j) 0
  (Le.mk [(0,.own 9 1 [])] (by simp [Chunk.new0];rfl) (by simp) (by simp) (.cons (.refl _) (.cons (.nil mem_cons_self) (.cons (.refl _) (.cons (.refl _) (.cons (.refl _) .nil))))) (.new mem_cons_self .nil)) (zero_le _) ?_
 intro j h3;conv=>whnf
 repeat' (first|((first|refine And.intro rfl ?_|refine aD ?_|refine bP ?_|(refine iA fun _=>?_)|refine wI ?_|refine AppK.mk (by simp;omega) rfl (by show (j+1)*16<=140737488355328;omega) (by show j+1<=9223372036854775807;omega) (fun x hx=>by rcases List.mem_singleton.1 hx with rfl;exact ⟨rfl,rfl⟩) ?_|refine AppK.mk (by simp;omega) rfl (by rw [length_map];show (j+f.vars.length)*16<=140737488355328;omega) (by rw [length_map];show j+f.vars.length<=9223372036854775807;omega) (fun x hx=>by obtain ⟨y,_,rfl⟩:=List.mem_map.1 hx;exact ⟨rfl,rfl⟩) ?_);conv=>whnf)|(apply bD<;>intro _<;>first|omega|conv=>whnf))
 ·exact ⟨j+1,by omega,by omega,Le.of_eq (by rw [z5f (by omega)];rfl)⟩
 ·refine ⟨_,.hd rfl (by simp;omega),?_⟩;rw [List.take_of_length_le (by omega)];simp [QP,NB]
mutual
def ZM:S->Nat
 | .mk _ _ _ _ _ _ _ _ thn els=>1+cntL thn+cntL els
def cntL:List S->Nat
 | []=>0
 | s::r=>ZM s+cntL r
end
theorem ZO (s:S):ZM s=1+cntL s.thn+cntL s.els:=by
 cases s;rw [ZM];rfl
theorem BW {l:List S} {j:Nat} (hj:j<l.length):cntL (l.drop j)=ZM l[j]+cntL (l.drop (j+1)):=by
 rw [QJ hj,cntL]
theorem x3c {l:List S} {j:Nat} (hj:l.length<=j):cntL (l.drop j)=0:=by
 rw [drop_eq_nil_of_le hj,cntL]
theorem z3w : ∀ (n:Nat) (_:n<=100000) (s:S) (_:ZM s<=n),SpecP Tryz.prog 247 [.agg s.cells] (fun r=>r = .int .i64 (ZM s)):=by
 intro n;induction n with
 | zero=>intro _ s h;rw [ZO] at h;omega
 | succ n ih =>
   intro hn s h;have hs:=ZO s;have hl1:=S.avs_len s.thn;have hl2:=S.avs_len s.els;refine sB x2z Tryz.func247 rfl Tryz.call247 ?_;conv=>whnf
   repeat' (refine iM fun _=>?_;conv=>whnf)
   refine LoopK.inv QU (fun i:Nat×Nat=>⟨[(1,.p (.ip s.cells)),(3,.p (.int .i64 i.2)),(9,.p (eSs s.thn)),(10,.p (.int .i64 (S.avs s.thn).length)),(11,.p (.int .i64 i.1))],[]⟩) (fun i=>i.1<=s.thn.length∧1<=i.2∧i.2+cntL (s.thn.drop i.1)=1+cntL s.thn) (fun i=>s.thn.length-i.1) (0,1) (Le.of_eq rfl) ⟨zero_le _,Nat.le_refl _,rfl⟩ ?_;rintro ⟨j,a⟩ ⟨h2,h4,h3⟩;simp only at h2 h3 h4 ⊢;have hst : ∀ hj:j<s.thn.length,cntL (s.thn.drop j)=ZM s.thn[j]+cntL (s.thn.drop (j+1)):=fun hj=>BW hj;conv=>whnf
   repeat' (first|((first|(refine iM fun _=>?_)|refine And.intro rfl ?_|refine QF (by omega) ?_|refine wI ?_|(refine CallK.pure (ih (by omega) (s.thn[j]'(by omega)) (by have:=hst (by omega);omega)) (.cons (Sub.refl _) .nil) ?_;rintro _ rfl;have hst:=hst (by omega)));conv=>whnf)|(apply bD<;>intro _<;>first|omega|conv=>whnf))
   ·exact ⟨(j+1,a+ZM s.thn[j]),⟨by simp only;omega,by simp only;omega,by simp only;omega⟩,by simp only;omega,Le.of_eq rfl⟩
   ·have ha:a=1+cntL s.thn:=by rw [x3c (by omega)] at h3;omega
    refine LoopK.inv QU (fun i:Nat×Nat=>⟨[(3,.p (.int .i64 i.2)),(21,.p (eSs s.els)),(22,.p (.int .i64 (S.avs s.els).length)),(23,.p (.int .i64 i.1))],[]⟩) (fun i=>i.1<=s.els.length∧1<=i.2∧i.2+cntL (s.els.drop i.1)=ZM s) (fun i=>s.els.length-i.1) (0,a) (Le.of_eq rfl) ⟨zero_le _,h4,by simp only [List.drop_zero];omega⟩ ?_;rintro ⟨k,b⟩ ⟨h5,h6,h7⟩;simp only at h5 h6 h7 ⊢;have hst2 : ∀ hk:k<s.els.length,cntL (s.els.drop k)=ZM s.els[k]+cntL (s.els.drop (k+1)):=fun hk=>BW hk;conv=>whnf
    repeat' (first|((first|refine And.intro rfl ?_|refine QF (by omega) ?_|refine wI ?_|(refine CallK.pure (ih (by omega) (s.els[k]'(by omega)) (by have:=hst2 (by omega);omega)) (.cons (Sub.refl _) .nil) ?_;rintro _ rfl;have hst2:=hst2 (by omega)));conv=>whnf)|(apply bD<;>intro _<;>first|omega|conv=>whnf))
    ·exact ⟨(k+1,b+ZM s.els[k]),⟨by simp only;omega,by simp only;omega,by simp only;omega⟩,by simp only;omega,Le.of_eq rfl⟩
    ·exact RetK.int (by rw [x3c (by omega)] at h7;omega)
structure Item where
 s:S
 proc:Int
 up:Int
 next:Int
 loop:Int
def Item.cells (i:Item):List AV:=i.s.cells++[.int .i64 i.proc,.int .i64 i.up,.int .i64 i.next,.int .i64 i.loop]
mutual
def LB (proc up nx loop:Int) (acc:List Item):S->List Item
 | .mk id kind labels name pr x has args thn els =>
   XZ proc (acc.length+1) (if kind=6 then acc.length+1 else nx) (if kind=6 then acc.length+1 else loop)
    (XZ proc (acc.length+1) (if kind=6 then acc.length+1 else nx) (if kind=6 then acc.length+1 else loop) (acc++[⟨.mk id kind labels name pr x has args thn els,proc,up,nx,loop⟩]) thn) els
def XZ (proc up nx loop:Int) (acc:List Item):List S->List Item
 | []=>acc
 | t::r=>XZ proc up nx loop (LB proc up (if r.isEmpty then nx else acc.length+1+ZM t) loop acc t) r
end
theorem KO (proc up nx loop:Int) (acc:List Item) (t:S):LB proc up nx loop acc t=XZ proc (acc.length+1) (if t.kind=6 then acc.length+1 else nx) (if t.kind=6 then acc.length+1 else loop)
   (XZ proc (acc.length+1) (if t.kind=6 then acc.length+1 else nx) (if t.kind=6 then acc.length+1 else loop) (acc++[⟨t,proc,up,nx,loop⟩]) t.thn) t.els:=by
 cases t;rw [LB];rfl
mutual
theorem XB (proc up nx loop:Int) (acc:List Item) : ∀ t:S,(LB proc up nx loop acc t).length=acc.length+ZM t
 | .mk id kind labels name pr x has args thn els=>by
   rw [LB,ZM,XQ _ _ _ _ _ els,XQ _ _ _ _ _ thn];simp;omega
theorem XQ (proc up nx loop:Int) (acc:List Item) : ∀ l:List S,(XZ proc up nx loop acc l).length=acc.length+cntL l
 | []=>by rw [XZ,cntL];rfl
 | t::r=>by
   rw [XZ,cntL,XQ _ _ _ _ _ r,XB _ _ _ _ _ t];omega
end
theorem WJ {proc up nx loop:Int} {acc:List Item} {l:List S} {j:Nat} (hj:j<l.length) :
  XZ proc up nx loop acc (l.drop j)=XZ proc up nx loop (LB proc up (if j+1<l.length then acc.length+1+ZM l[j] else nx) loop acc l[j]) (l.drop (j+1)):=by
 rw [QJ hj,XZ];congr 2;by_cases h:j+1<l.length
 ·rw [if_pos h,if_neg];simp only [List.isEmpty_iff];intro he;have:=congrArg List.length he;simp at this;omega
 ·rw [if_neg h,if_pos];rw [drop_eq_nil_of_le (by omega)];rfl
def z2b (tS tI tN:Nat) (gl pr:AV) (L:List Item) (lo hi:List Int):Heap :=
 [(1000,.obj tS [.p gl,.p pr,.hd 2000 0 L.length,.hd 2001 0 lo.length,.hd 2002 0 hi.length]),(2000,.own tI 17 (L.map fun i => .agg i.cells)),(2001,.own tN 1 (lo.map (.int .i64))),(2002,.own tN 1 (hi.map (.int .i64)))]
def X0:X := .mk 0 0 [] []
def S0:S := .mk 0 0 [] [] [] X0 false [] [] []
theorem LSub.agg {cs ds:List AV} (h:SubL cs ds):LSub (.p (.agg cs)) (.p (.agg ds)) := .p (Sub.agg h)
theorem x3p : ∀ (n:Nat) (_:n<=1000) (l:List S) (_:cntL l<n) (acc:List Item) (_:acc.length+cntL l<=1000) (a:Item) (gl pr:AV) (lo hi:List Int),
  SpecH Tryz.prog 176 [.ptr 1000 0,.p (eSs l),.p (.agg a.cells)] (z2b 154 151 3 gl pr acc lo hi)
   (fun r H=>r = .p (.tup [])∧H=z2b 154 151 3 gl pr (XZ a.proc a.up a.next a.loop acc l) lo hi):=by
 intro n;induction n with
 | zero=>intro _ l h;omega
 | succ n ih =>
   intro hn l hl acc hacc a gl pr lo hi;have hl1:=S.avs_len l;refine sH ML Tryz.func176 rfl Tryz.call176 ?_;conv=>whnf
   repeat' (refine iM fun _=>?_;conv=>whnf)
   refine LoopK.inv QU (fun i:Nat×List Item=>⟨[(0,.ptr 1000 0),(1,.p (eSs l)),(5,.p (.ip a.cells)),(11,.p (eSs l)),(12,.p (.int .i64 (S.avs l).length)),(13,.p (.int .i64 i.1))],z2b 154 151 3 gl pr i.2 lo hi⟩) (fun i=>i.1<=l.length∧acc.length<=i.2.length∧i.2.length+cntL (l.drop i.1)=acc.length+cntL l∧XZ a.proc a.up a.next a.loop i.2 (l.drop i.1)=XZ a.proc a.up a.next a.loop acc l) (fun i=>l.length-i.1) (0,acc) (Le.of_eq rfl) ⟨zero_le _,Nat.le_refl _,rfl,rfl⟩ ?_;rintro ⟨j,b⟩ ⟨h2,h5,h3,h4⟩;simp only at h2 h3 h4 h5 ⊢;have hst : ∀ hj:j<l.length,cntL (l.drop j)=ZM l[j]+cntL (l.drop (j+1)):=fun hj=>BW hj;conv=>whnf
   repeat' (first|((first|(refine iM fun _=>?_)|refine dA ?_|refine And.intro rfl ?_|refine aD ?_|refine bP ?_|refine QF (by omega) ?_|refine wI ?_|(refine CallK.pure (z3w 1000 (by omega) (l[j]'(by omega)) (by have:=hst (by omega);omega)) (.cons (Sub.refl _) .nil) ?_;rintro _ rfl)|refine Wr.i64 (by have:=hst (by omega);omega) (by have:=hst (by omega);omega) ?_|refine AppK.mk (by simp) rfl (by show (b.length+1)*240<=140737488355328;have:=hst (by omega);omega) (by show b.length+1<=9223372036854775807;have:=hst (by omega);omega) (fun x hx=>by rcases List.mem_singleton.1 hx with rfl;exact ⟨rfl,rfl⟩) ?_);conv=>whnf)|(apply bD<;>intro _<;>first|omega|conv=>whnf)|(refine And.intro ?_ ?_<;>conv=>whnf))
   ·have hj:j<l.length:=by omega
    have hst:=hst hj;have hcs:=ZO l[j];refine CallK.heap [(1000,1000),(2000,2000),(2001,2001),(2002,2002)] 0 (by refine ArgsH.cons (LSub.refl _) (ArgsH.cons (LSub.refl _) (ArgsH.cons (LSub.agg ?_) ArgsH.nil));repeat' (first|exact SubL.nil|refine SubL.cons ?_ ?_|exact Sub.refl _|exact Sub.nils|exact Sub.ff rfl)) (by exact BlksH.cons (j:=1000) rfl rfl (CSub.of_eq (by rw [length_append];first|done|rfl)) (BlksH.cons (j:=2000) rfl rfl (CSub.of_eq (by rw [List.map_append];first|done|rfl)) (BlksH.cons (j:=2001) rfl rfl (CSub.refl _) (BlksH.cons (j:=2002) rfl rfl (CSub.refl _) BlksH.nil)))) (ih (by omega) l[j].thn (by omega) (b++[⟨l[j]'hj,a.proc,a.up,(b.length+1+ZM (l[j]'hj):Int),a.loop⟩]) (by rw [length_append];simp only [length_singleton];omega) ⟨S0,a.proc,b.length+1,(b.length+1:Int),(b.length+1:Int)⟩ gl pr lo hi) rfl rfl ?_;rintro l' H' ⟨rfl,rfl⟩;conv=>whnf
    refine CallK.heap [(1000,1000),(2000,2000),(2001,2001),(2002,2002)] 0 (by refine ArgsH.cons (LSub.refl _) (ArgsH.cons (LSub.refl _) (ArgsH.cons (LSub.agg ?_) ArgsH.nil));repeat' (first|exact SubL.nil|refine SubL.cons ?_ ?_|exact Sub.refl _|exact Sub.nils|exact Sub.ff rfl)) (by exact BlksH.cons (j:=1000) rfl rfl (CSub.refl _) (BlksH.cons (j:=2000) rfl rfl (CSub.refl _) (BlksH.cons (j:=2001) rfl rfl (CSub.refl _) (BlksH.cons (j:=2002) rfl rfl (CSub.refl _) BlksH.nil)))) (ih (by omega) l[j].els (by omega) (XZ a.proc (b.length+1) (b.length+1:Int) (b.length+1:Int) (b++[⟨l[j]'hj,a.proc,a.up,(b.length+1+ZM (l[j]'hj):Int),a.loop⟩]) (l[j]'hj).thn) (by rw [XQ,length_append];simp only [length_singleton];omega) ⟨S0,a.proc,b.length+1,(b.length+1:Int),(b.length+1:Int)⟩ gl pr lo hi) rfl rfl ?_;rintro l' H' ⟨rfl,rfl⟩;conv=>whnf
    refine wI ?_;conv=>whnf
    have hrow:LB a.proc a.up (b.length+1+ZM (l[j]'hj):Int) a.loop b l[j]=XZ a.proc (b.length+1) (b.length+1:Int) (b.length+1:Int) (XZ a.proc (b.length+1) (b.length+1:Int) (b.length+1:Int) (b++[⟨l[j]'hj,a.proc,a.up,(b.length+1+ZM (l[j]'hj):Int),a.loop⟩]) (l[j]'hj).thn) l[j].els:=by
     rw [KO,if_pos (by assumption),if_pos (by assumption)]
    exact ⟨(j+1,LB a.proc a.up (b.length+1+ZM (l[j]'hj):Int) a.loop b l[j]),⟨by simp only;omega,by simp only;rw [XB];omega,by simp only;rw [XB];omega,by simp only;rw [<- h4,WJ hj,if_pos (by omega)]⟩,by simp only;omega,Le.of_eq (by simp only;rw [hrow];rfl)⟩
   ·have hj:j<l.length:=by omega
    have hst:=hst hj;have hcs:=ZO l[j];refine CallK.heap [(1000,1000),(2000,2000),(2001,2001),(2002,2002)] 0 (by refine ArgsH.cons (LSub.refl _) (ArgsH.cons (LSub.refl _) (ArgsH.cons (LSub.agg ?_) ArgsH.nil));repeat' (first|exact SubL.nil|refine SubL.cons ?_ ?_|exact Sub.refl _|exact Sub.nils|exact Sub.ff rfl)) (by exact BlksH.cons (j:=1000) rfl rfl (CSub.of_eq (by rw [length_append];first|done|rfl)) (BlksH.cons (j:=2000) rfl rfl (CSub.of_eq (by rw [List.map_append];first|done|rfl)) (BlksH.cons (j:=2001) rfl rfl (CSub.refl _) (BlksH.cons (j:=2002) rfl rfl (CSub.refl _) BlksH.nil)))) (ih (by omega) l[j].thn (by omega) (b++[⟨l[j]'hj,a.proc,a.up,(b.length+1+ZM (l[j]'hj):Int),a.loop⟩]) (by rw [length_append];simp only [length_singleton];omega) ⟨S0,a.proc,b.length+1,(b.length+1+ZM (l[j]'hj):Int),a.loop⟩ gl pr lo hi) rfl rfl ?_;rintro l' H' ⟨rfl,rfl⟩;conv=>whnf
    refine CallK.heap [(1000,1000),(2000,2000),(2001,2001),(2002,2002)] 0 (by refine ArgsH.cons (LSub.refl _) (ArgsH.cons (LSub.refl _) (ArgsH.cons (LSub.agg ?_) ArgsH.nil));repeat' (first|exact SubL.nil|refine SubL.cons ?_ ?_|exact Sub.refl _|exact Sub.nils|exact Sub.ff rfl)) (by exact BlksH.cons (j:=1000) rfl rfl (CSub.refl _) (BlksH.cons (j:=2000) rfl rfl (CSub.refl _) (BlksH.cons (j:=2001) rfl rfl (CSub.refl _) (BlksH.cons (j:=2002) rfl rfl (CSub.refl _) BlksH.nil)))) (ih (by omega) l[j].els (by omega) (XZ a.proc (b.length+1) (b.length+1+ZM (l[j]'hj):Int) a.loop (b++[⟨l[j]'hj,a.proc,a.up,(b.length+1+ZM (l[j]'hj):Int),a.loop⟩]) (l[j]'hj).thn) (by rw [XQ,length_append];simp only [length_singleton];omega) ⟨S0,a.proc,b.length+1,(b.length+1+ZM (l[j]'hj):Int),a.loop⟩ gl pr lo hi) rfl rfl ?_;rintro l' H' ⟨rfl,rfl⟩;conv=>whnf
    refine wI ?_;conv=>whnf
    have hrow:LB a.proc a.up (b.length+1+ZM (l[j]'hj):Int) a.loop b l[j]=XZ a.proc (b.length+1) (b.length+1+ZM (l[j]'hj):Int) a.loop (XZ a.proc (b.length+1) (b.length+1+ZM (l[j]'hj):Int) a.loop (b++[⟨l[j]'hj,a.proc,a.up,(b.length+1+ZM (l[j]'hj):Int),a.loop⟩]) (l[j]'hj).thn) l[j].els:=by
     rw [KO,if_neg (by assumption),if_neg (by assumption)]
    exact ⟨(j+1,LB a.proc a.up (b.length+1+ZM (l[j]'hj):Int) a.loop b l[j]),⟨by simp only;omega,by simp only;rw [XB];omega,by simp only;rw [XB];omega,by simp only;rw [<- h4,WJ hj,if_pos (by omega)]⟩,by simp only;omega,Le.of_eq (by simp only;rw [hrow];rfl)⟩
   ·have hj:j<l.length:=by omega
    have hst:=hst hj;have hcs:=ZO l[j];refine CallK.heap [(1000,1000),(2000,2000),(2001,2001),(2002,2002)] 0 (by refine ArgsH.cons (LSub.refl _) (ArgsH.cons (LSub.refl _) (ArgsH.cons (LSub.agg ?_) ArgsH.nil));repeat' (first|exact SubL.nil|refine SubL.cons ?_ ?_|exact Sub.refl _|exact Sub.nils|exact Sub.ff rfl)) (by exact BlksH.cons (j:=1000) rfl rfl (CSub.of_eq (by rw [length_append];first|done|rfl)) (BlksH.cons (j:=2000) rfl rfl (CSub.of_eq (by rw [List.map_append];first|done|rfl)) (BlksH.cons (j:=2001) rfl rfl (CSub.refl _) (BlksH.cons (j:=2002) rfl rfl (CSub.refl _) BlksH.nil)))) (ih (by omega) l[j].thn (by omega) (b++[⟨l[j]'hj,a.proc,a.up,(b.length+1+ZM (l[j]'hj):Int),a.loop⟩]) (by rw [length_append];simp only [length_singleton];omega) ⟨S0,a.proc,b.length+1,(b.length+1:Int),(b.length+1:Int)⟩ gl pr lo hi) rfl rfl ?_;rintro l' H' ⟨rfl,rfl⟩;conv=>whnf
    refine CallK.heap [(1000,1000),(2000,2000),(2001,2001),(2002,2002)] 0 (by refine ArgsH.cons (LSub.refl _) (ArgsH.cons (LSub.refl _) (ArgsH.cons (LSub.agg ?_) ArgsH.nil));repeat' (first|exact SubL.nil|refine SubL.cons ?_ ?_|exact Sub.refl _|exact Sub.nils|exact Sub.ff rfl)) (by exact BlksH.cons (j:=1000) rfl rfl (CSub.refl _) (BlksH.cons (j:=2000) rfl rfl (CSub.refl _) (BlksH.cons (j:=2001) rfl rfl (CSub.refl _) (BlksH.cons (j:=2002) rfl rfl (CSub.refl _) BlksH.nil)))) (ih (by omega) l[j].els (by omega) (XZ a.proc (b.length+1) (b.length+1:Int) (b.length+1:Int) (b++[⟨l[j]'hj,a.proc,a.up,(b.length+1+ZM (l[j]'hj):Int),a.loop⟩]) (l[j]'hj).thn) (by rw [XQ,length_append];simp only [length_singleton];omega) ⟨S0,a.proc,b.length+1,(b.length+1:Int),(b.length+1:Int)⟩ gl pr lo hi) rfl rfl ?_;rintro l' H' ⟨rfl,rfl⟩;conv=>whnf
    refine wI ?_;conv=>whnf
    have hrow:LB a.proc a.up (b.length+1+ZM (l[j]'hj):Int) a.loop b l[j]=XZ a.proc (b.length+1) (b.length+1:Int) (b.length+1:Int) (XZ a.proc (b.length+1) (b.length+1:Int) (b.length+1:Int) (b++[⟨l[j]'hj,a.proc,a.up,(b.length+1+ZM (l[j]'hj):Int),a.loop⟩]) (l[j]'hj).thn) l[j].els:=by
     rw [KO,if_pos (by assumption),if_pos (by assumption)]
    exact ⟨(j+1,LB a.proc a.up (b.length+1+ZM (l[j]'hj):Int) a.loop b l[j]),⟨by simp only;omega,by simp only;rw [XB];omega,by simp only;rw [XB];omega,by simp only;rw [<- h4,WJ hj,if_pos (by omega)]⟩,by simp only;omega,Le.of_eq (by simp only;rw [hrow];rfl)⟩
   ·have hj:j<l.length:=by omega
    have hst:=hst hj;have hcs:=ZO l[j];refine CallK.heap [(1000,1000),(2000,2000),(2001,2001),(2002,2002)] 0 (by refine ArgsH.cons (LSub.refl _) (ArgsH.cons (LSub.refl _) (ArgsH.cons (LSub.agg ?_) ArgsH.nil));repeat' (first|exact SubL.nil|refine SubL.cons ?_ ?_|exact Sub.refl _|exact Sub.nils|exact Sub.ff rfl)) (by exact BlksH.cons (j:=1000) rfl rfl (CSub.of_eq (by rw [length_append];first|done|rfl)) (BlksH.cons (j:=2000) rfl rfl (CSub.of_eq (by rw [List.map_append];first|done|rfl)) (BlksH.cons (j:=2001) rfl rfl (CSub.refl _) (BlksH.cons (j:=2002) rfl rfl (CSub.refl _) BlksH.nil)))) (ih (by omega) l[j].thn (by omega) (b++[⟨l[j]'hj,a.proc,a.up,(b.length+1+ZM (l[j]'hj):Int),a.loop⟩]) (by rw [length_append];simp only [length_singleton];omega) ⟨S0,a.proc,b.length+1,(b.length+1+ZM (l[j]'hj):Int),a.loop⟩ gl pr lo hi) rfl rfl ?_;rintro l' H' ⟨rfl,rfl⟩;conv=>whnf
    refine CallK.heap [(1000,1000),(2000,2000),(2001,2001),(2002,2002)] 0 (by refine ArgsH.cons (LSub.refl _) (ArgsH.cons (LSub.refl _) (ArgsH.cons (LSub.agg ?_) ArgsH.nil));repeat' (first|exact SubL.nil|refine SubL.cons ?_ ?_|exact Sub.refl _|exact Sub.nils|exact Sub.ff rfl)) (by exact BlksH.cons (j:=1000) rfl rfl (CSub.refl _) (BlksH.cons (j:=2000) rfl rfl (CSub.refl _) (BlksH.cons (j:=2001) rfl rfl (CSub.refl _) (BlksH.cons (j:=2002) rfl rfl (CSub.refl _) BlksH.nil)))) (ih (by omega) l[j].els (by omega) (XZ a.proc (b.length+1) (b.length+1+ZM (l[j]'hj):Int) a.loop (b++[⟨l[j]'hj,a.proc,a.up,(b.length+1+ZM (l[j]'hj):Int),a.loop⟩]) (l[j]'hj).thn) (by rw [XQ,length_append];simp only [length_singleton];omega) ⟨S0,a.proc,b.length+1,(b.length+1+ZM (l[j]'hj):Int),a.loop⟩ gl pr lo hi) rfl rfl ?_;rintro l' H' ⟨rfl,rfl⟩;conv=>whnf
    refine wI ?_;conv=>whnf
    have hrow:LB a.proc a.up (b.length+1+ZM (l[j]'hj):Int) a.loop b l[j]=XZ a.proc (b.length+1) (b.length+1+ZM (l[j]'hj):Int) a.loop (XZ a.proc (b.length+1) (b.length+1+ZM (l[j]'hj):Int) a.loop (b++[⟨l[j]'hj,a.proc,a.up,(b.length+1+ZM (l[j]'hj):Int),a.loop⟩]) (l[j]'hj).thn) l[j].els:=by
     rw [KO,if_neg (by assumption),if_neg (by assumption)]
    exact ⟨(j+1,LB a.proc a.up (b.length+1+ZM (l[j]'hj):Int) a.loop b l[j]),⟨by simp only;omega,by simp only;rw [XB];omega,by simp only;rw [XB];omega,by simp only;rw [<- h4,WJ hj,if_pos (by omega)]⟩,by simp only;omega,Le.of_eq (by simp only;rw [hrow];rfl)⟩
   ·have hj:j<l.length:=by omega
    have hst:=hst hj;have hcs:=ZO l[j];refine CallK.heap [(1000,1000),(2000,2000),(2001,2001),(2002,2002)] 0 (by refine ArgsH.cons (LSub.refl _) (ArgsH.cons (LSub.refl _) (ArgsH.cons (LSub.agg ?_) ArgsH.nil));repeat' (first|exact SubL.nil|refine SubL.cons ?_ ?_|exact Sub.refl _|exact Sub.nils|exact Sub.ff rfl)) (by exact BlksH.cons (j:=1000) rfl rfl (CSub.of_eq (by rw [length_append];first|done|rfl)) (BlksH.cons (j:=2000) rfl rfl (CSub.of_eq (by rw [List.map_append];first|done|rfl)) (BlksH.cons (j:=2001) rfl rfl (CSub.refl _) (BlksH.cons (j:=2002) rfl rfl (CSub.refl _) BlksH.nil)))) (ih (by omega) l[j].thn (by omega) (b++[⟨l[j]'hj,a.proc,a.up,a.next,a.loop⟩]) (by rw [length_append];simp only [length_singleton];omega) ⟨S0,a.proc,b.length+1,(b.length+1:Int),(b.length+1:Int)⟩ gl pr lo hi) rfl rfl ?_;rintro l' H' ⟨rfl,rfl⟩;conv=>whnf
    refine CallK.heap [(1000,1000),(2000,2000),(2001,2001),(2002,2002)] 0 (by refine ArgsH.cons (LSub.refl _) (ArgsH.cons (LSub.refl _) (ArgsH.cons (LSub.agg ?_) ArgsH.nil));repeat' (first|exact SubL.nil|refine SubL.cons ?_ ?_|exact Sub.refl _|exact Sub.nils|exact Sub.ff rfl)) (by exact BlksH.cons (j:=1000) rfl rfl (CSub.refl _) (BlksH.cons (j:=2000) rfl rfl (CSub.refl _) (BlksH.cons (j:=2001) rfl rfl (CSub.refl _) (BlksH.cons (j:=2002) rfl rfl (CSub.refl _) BlksH.nil)))) (ih (by omega) l[j].els (by omega) (XZ a.proc (b.length+1) (b.length+1:Int) (b.length+1:Int) (b++[⟨l[j]'hj,a.proc,a.up,a.next,a.loop⟩]) (l[j]'hj).thn) (by rw [XQ,length_append];simp only [length_singleton];omega) ⟨S0,a.proc,b.length+1,(b.length+1:Int),(b.length+1:Int)⟩ gl pr lo hi) rfl rfl ?_;rintro l' H' ⟨rfl,rfl⟩;conv=>whnf
    refine wI ?_;conv=>whnf
    have hrow:LB a.proc a.up a.next a.loop b l[j]=XZ a.proc (b.length+1) (b.length+1:Int) (b.length+1:Int) (XZ a.proc (b.length+1) (b.length+1:Int) (b.length+1:Int) (b++[⟨l[j]'hj,a.proc,a.up,a.next,a.loop⟩]) (l[j]'hj).thn) l[j].els:=by
     rw [KO,if_pos (by assumption),if_pos (by assumption)]
    exact ⟨(j+1,LB a.proc a.up a.next a.loop b l[j]),⟨by simp only;omega,by simp only;rw [XB];omega,by simp only;rw [XB];omega,by simp only;rw [<- h4,WJ hj,if_neg (by omega)]⟩,by simp only;omega,Le.of_eq (by simp only;rw [hrow];rfl)⟩
   ·have hj:j<l.length:=by omega
    have hst:=hst hj;have hcs:=ZO l[j];refine CallK.heap [(1000,1000),(2000,2000),(2001,2001),(2002,2002)] 0 (by refine ArgsH.cons (LSub.refl _) (ArgsH.cons (LSub.refl _) (ArgsH.cons (LSub.agg ?_) ArgsH.nil));repeat' (first|exact SubL.nil|refine SubL.cons ?_ ?_|exact Sub.refl _|exact Sub.nils|exact Sub.ff rfl)) (by exact BlksH.cons (j:=1000) rfl rfl (CSub.of_eq (by rw [length_append];first|done|rfl)) (BlksH.cons (j:=2000) rfl rfl (CSub.of_eq (by rw [List.map_append];first|done|rfl)) (BlksH.cons (j:=2001) rfl rfl (CSub.refl _) (BlksH.cons (j:=2002) rfl rfl (CSub.refl _) BlksH.nil)))) (ih (by omega) l[j].thn (by omega) (b++[⟨l[j]'hj,a.proc,a.up,a.next,a.loop⟩]) (by rw [length_append];simp only [length_singleton];omega) ⟨S0,a.proc,b.length+1,a.next,a.loop⟩ gl pr lo hi) rfl rfl ?_;rintro l' H' ⟨rfl,rfl⟩;conv=>whnf
    refine CallK.heap [(1000,1000),(2000,2000),(2001,2001),(2002,2002)] 0 (by refine ArgsH.cons (LSub.refl _) (ArgsH.cons (LSub.refl _) (ArgsH.cons (LSub.agg ?_) ArgsH.nil));repeat' (first|exact SubL.nil|refine SubL.cons ?_ ?_|exact Sub.refl _|exact Sub.nils|exact Sub.ff rfl)) (by exact BlksH.cons (j:=1000) rfl rfl (CSub.refl _) (BlksH.cons (j:=2000) rfl rfl (CSub.refl _) (BlksH.cons (j:=2001) rfl rfl (CSub.refl _) (BlksH.cons (j:=2002) rfl rfl (CSub.refl _) BlksH.nil)))) (ih (by omega) l[j].els (by omega) (XZ a.proc (b.length+1) a.next a.loop (b++[⟨l[j]'hj,a.proc,a.up,a.next,a.loop⟩]) (l[j]'hj).thn) (by rw [XQ,length_append];simp only [length_singleton];omega) ⟨S0,a.proc,b.length+1,a.next,a.loop⟩ gl pr lo hi) rfl rfl ?_;rintro l' H' ⟨rfl,rfl⟩;conv=>whnf
    refine wI ?_;conv=>whnf
    have hrow:LB a.proc a.up a.next a.loop b l[j]=XZ a.proc (b.length+1) a.next a.loop (XZ a.proc (b.length+1) a.next a.loop (b++[⟨l[j]'hj,a.proc,a.up,a.next,a.loop⟩]) (l[j]'hj).thn) l[j].els:=by
     rw [KO,if_neg (by assumption),if_neg (by assumption)]
    exact ⟨(j+1,LB a.proc a.up a.next a.loop b l[j]),⟨by simp only;omega,by simp only;rw [XB];omega,by simp only;rw [XB];omega,by simp only;rw [<- h4,WJ hj,if_neg (by omega)]⟩,by simp only;omega,Le.of_eq (by simp only;rw [hrow];rfl)⟩
   ·have hj:j<l.length:=by omega
    have hst:=hst hj;have hcs:=ZO l[j];refine CallK.heap [(1000,1000),(2000,2000),(2001,2001),(2002,2002)] 0 (by refine ArgsH.cons (LSub.refl _) (ArgsH.cons (LSub.refl _) (ArgsH.cons (LSub.agg ?_) ArgsH.nil));repeat' (first|exact SubL.nil|refine SubL.cons ?_ ?_|exact Sub.refl _|exact Sub.nils|exact Sub.ff rfl)) (by exact BlksH.cons (j:=1000) rfl rfl (CSub.of_eq (by rw [length_append];first|done|rfl)) (BlksH.cons (j:=2000) rfl rfl (CSub.of_eq (by rw [List.map_append];first|done|rfl)) (BlksH.cons (j:=2001) rfl rfl (CSub.refl _) (BlksH.cons (j:=2002) rfl rfl (CSub.refl _) BlksH.nil)))) (ih (by omega) l[j].thn (by omega) (b++[⟨l[j]'hj,a.proc,a.up,a.next,a.loop⟩]) (by rw [length_append];simp only [length_singleton];omega) ⟨S0,a.proc,b.length+1,(b.length+1:Int),(b.length+1:Int)⟩ gl pr lo hi) rfl rfl ?_;rintro l' H' ⟨rfl,rfl⟩;conv=>whnf
    refine CallK.heap [(1000,1000),(2000,2000),(2001,2001),(2002,2002)] 0 (by refine ArgsH.cons (LSub.refl _) (ArgsH.cons (LSub.refl _) (ArgsH.cons (LSub.agg ?_) ArgsH.nil));repeat' (first|exact SubL.nil|refine SubL.cons ?_ ?_|exact Sub.refl _|exact Sub.nils|exact Sub.ff rfl)) (by exact BlksH.cons (j:=1000) rfl rfl (CSub.refl _) (BlksH.cons (j:=2000) rfl rfl (CSub.refl _) (BlksH.cons (j:=2001) rfl rfl (CSub.refl _) (BlksH.cons (j:=2002) rfl rfl (CSub.refl _) BlksH.nil)))) (ih (by omega) l[j].els (by omega) (XZ a.proc (b.length+1) (b.length+1:Int) (b.length+1:Int) (b++[⟨l[j]'hj,a.proc,a.up,a.next,a.loop⟩]) (l[j]'hj).thn) (by rw [XQ,length_append];simp only [length_singleton];omega) ⟨S0,a.proc,b.length+1,(b.length+1:Int),(b.length+1:Int)⟩ gl pr lo hi) rfl rfl ?_;rintro l' H' ⟨rfl,rfl⟩;conv=>whnf
    refine wI ?_;conv=>whnf
    have hrow:LB a.proc a.up a.next a.loop b l[j]=XZ a.proc (b.length+1) (b.length+1:Int) (b.length+1:Int) (XZ a.proc (b.length+1) (b.length+1:Int) (b.length+1:Int) (b++[⟨l[j]'hj,a.proc,a.up,a.next,a.loop⟩]) (l[j]'hj).thn) l[j].els:=by
     rw [KO,if_pos (by assumption),if_pos (by assumption)]
    exact ⟨(j+1,LB a.proc a.up a.next a.loop b l[j]),⟨by simp only;omega,by simp only;rw [XB];omega,by simp only;rw [XB];omega,by simp only;rw [<- h4,WJ hj,if_neg (by omega)]⟩,by simp only;omega,Le.of_eq (by simp only;rw [hrow];rfl)⟩
   ·have hj:j<l.length:=by omega
    have hst:=hst hj;have hcs:=ZO l[j];refine CallK.heap [(1000,1000),(2000,2000),(2001,2001),(2002,2002)] 0 (by refine ArgsH.cons (LSub.refl _) (ArgsH.cons (LSub.refl _) (ArgsH.cons (LSub.agg ?_) ArgsH.nil));repeat' (first|exact SubL.nil|refine SubL.cons ?_ ?_|exact Sub.refl _|exact Sub.nils|exact Sub.ff rfl)) (by exact BlksH.cons (j:=1000) rfl rfl (CSub.of_eq (by rw [length_append];first|done|rfl)) (BlksH.cons (j:=2000) rfl rfl (CSub.of_eq (by rw [List.map_append];first|done|rfl)) (BlksH.cons (j:=2001) rfl rfl (CSub.refl _) (BlksH.cons (j:=2002) rfl rfl (CSub.refl _) BlksH.nil)))) (ih (by omega) l[j].thn (by omega) (b++[⟨l[j]'hj,a.proc,a.up,a.next,a.loop⟩]) (by rw [length_append];simp only [length_singleton];omega) ⟨S0,a.proc,b.length+1,a.next,a.loop⟩ gl pr lo hi) rfl rfl ?_;rintro l' H' ⟨rfl,rfl⟩;conv=>whnf
    refine CallK.heap [(1000,1000),(2000,2000),(2001,2001),(2002,2002)] 0 (by refine ArgsH.cons (LSub.refl _) (ArgsH.cons (LSub.refl _) (ArgsH.cons (LSub.agg ?_) ArgsH.nil));repeat' (first|exact SubL.nil|refine SubL.cons ?_ ?_|exact Sub.refl _|exact Sub.nils|exact Sub.ff rfl)) (by exact BlksH.cons (j:=1000) rfl rfl (CSub.refl _) (BlksH.cons (j:=2000) rfl rfl (CSub.refl _) (BlksH.cons (j:=2001) rfl rfl (CSub.refl _) (BlksH.cons (j:=2002) rfl rfl (CSub.refl _) BlksH.nil)))) (ih (by omega) l[j].els (by omega) (XZ a.proc (b.length+1) a.next a.loop (b++[⟨l[j]'hj,a.proc,a.up,a.next,a.loop⟩]) (l[j]'hj).thn) (by rw [XQ,length_append];simp only [length_singleton];omega) ⟨S0,a.proc,b.length+1,a.next,a.loop⟩ gl pr lo hi) rfl rfl ?_;rintro l' H' ⟨rfl,rfl⟩;conv=>whnf
    refine wI ?_;conv=>whnf
    have hrow:LB a.proc a.up a.next a.loop b l[j]=XZ a.proc (b.length+1) a.next a.loop (XZ a.proc (b.length+1) a.next a.loop (b++[⟨l[j]'hj,a.proc,a.up,a.next,a.loop⟩]) (l[j]'hj).thn) l[j].els:=by
     rw [KO,if_neg (by assumption),if_neg (by assumption)]
    exact ⟨(j+1,LB a.proc a.up a.next a.loop b l[j]),⟨by simp only;omega,by simp only;rw [XB];omega,by simp only;rw [XB];omega,by simp only;rw [<- h4,WJ hj,if_neg (by omega)]⟩,by simp only;omega,Le.of_eq (by simp only;rw [hrow];rfl)⟩
   ·refine ⟨_,.refl _,rfl,?_⟩;rw [drop_eq_nil_of_le (by omega),XZ] at h4;rw [<- h4];rfl
structure Sheet where
 p:Pg
 l:List Item
 lo:List Int
 hi:List Int
def Sheet.cells (s:Sheet):List AV:=s.p.cells++[.sl (s.l.map fun i => .agg i.cells),XW s.lo,XW s.hi]
def VU:List Pr->Nat
 | []=>0
 | f::r=>cntL f.body+VU r
theorem q1u {l:List Pr} {j:Nat} (hj:j<l.length):VU (l.drop j)=cntL l[j].body+VU (l.drop (j+1)):=by
 rw [QJ hj,VU]
def NI (i:Nat) (acc:List Item) (lo hi:List Int):List Pr->List Item×List Int×List Int
 | []=>(acc,lo,hi)
 | f::r=>NI (i+1) (XZ i 0 (-1) 0 acc f.body) (lo++[(acc.length:Int)+1]) (hi++[((XZ i 0 (-1) 0 acc f.body).length:Int)+1]) r
def sheetOf (p:Pg):Sheet:=⟨p,(NI 0 [] [] [] p.procs).1,(NI 0 [] [] [] p.procs).2.1,(NI 0 [] [] [] p.procs).2.2⟩
theorem x0a {i:Nat} {acc:List Item} {lo hi:List Int} {l:List Pr} {j:Nat} (hj:j<l.length) :
  NI i acc lo hi (l.drop j)=NI (i+1) (XZ i 0 (-1) 0 acc l[j].body) (lo++[(acc.length:Int)+1]) (hi++[((XZ i 0 (-1) 0 acc l[j].body).length:Int)+1]) (l.drop (j+1)):=by
 rw [QJ hj,NI]
def w1d (tS tI tN:Nat) (p:Pg) (L:List Item) (lo hi:List Int):Heap :=
 [(0,.obj tS [.p (QP p.globals),.p (.sl (p.procs.map fun f => .agg f.cells)),.hd 1 0 L.length,.hd 2 0 lo.length,.hd 3 0 hi.length]),(1,.own tI 17 (L.map fun i => .agg i.cells)),(2,.own tN 1 (lo.map (.int .i64))),(3,.own tN 1 (hi.map (.int .i64)))]
theorem WF (p:Pg) (h1:p.procs.length<=1000) (hc:VU p.procs<=999):SpecP Tryz.prog 109 [.agg p.cells] (fun r=>r = .ip (sheetOf p).cells):=by
 refine sB x6d Tryz.func109 rfl Tryz.call109 ?_;conv=>whnf
 repeat' ((first|(refine iM fun _=>?_)|refine And.intro rfl ?_);conv=>whnf)
 have hl2:(p.procs.map fun f=>AV.agg f.cells).length=p.procs.length:=length_map _;refine LoopK.inv QU (fun i:Nat×List Item×List Int×List Int=>⟨[(3,.ptr 0 0),(10,.p (.sl (p.procs.map fun f=>AV.agg f.cells))),(11,.p (.int .i64 (p.procs.map fun f=>AV.agg f.cells).length)),(12,.p (.int .i64 i.1))],w1d 154 151 3 p i.2.1 i.2.2.1 i.2.2.2⟩)
  (fun i=>i.1<=p.procs.length∧i.2.1.length+VU (p.procs.drop i.1)=VU p.procs∧i.2.2.1.length=i.1∧i.2.2.2.length=i.1∧NI i.1 i.2.1 i.2.2.1 i.2.2.2 (p.procs.drop i.1)=NI 0 [] [] [] p.procs) (fun i=>p.procs.length-i.1) (0,[],[],[])
  (Le.mk [(1,.own 151 17 []),(2,.own 3 1 []),(3,.own 3 1 [])] (by simp [Chunk.new0];exact ⟨rfl,rfl,rfl⟩) (by simp) (by simp [w1d]) (.cons (.refl _) (.cons (.refl _) (.cons (.refl _) (.cons (.refl _) .nil))))
    (.cons rfl (.obj (.cons (.refl _) (.cons (.refl _) (.cons (.nil mem_cons_self) (.cons (.nil (mem_cons_of_mem _ mem_cons_self)) (.cons (.nil (mem_cons_of_mem _ (mem_cons_of_mem _ mem_cons_self))) .nil)))))) (.new mem_cons_self (.new (mem_cons_of_mem _ mem_cons_self) (.new (mem_cons_of_mem _ (mem_cons_of_mem _ mem_cons_self)) .nil)))))
  ⟨zero_le _,by simp,rfl,rfl,rfl⟩ ?_
 rintro ⟨j,b,lo,hi⟩ ⟨h2,h3,h4,h5,h6⟩;simp only at h2 h3 h4 h5 h6 ⊢;conv=>whnf
 repeat' (first|((first|(refine iM fun _=>?_)|refine dA ?_|refine And.intro rfl ?_|refine aD ?_|refine bP ?_|(refine iA fun _=>?_)|refine wI ?_|refine AppK.mk (by simp) rfl (by show (lo.length+1)*8<=140737488355328;omega) (by show lo.length+1<=9223372036854775807;omega) (fun x hx=>by rcases List.mem_singleton.1 hx with rfl;exact ⟨rfl,rfl⟩) ?_);conv=>whnf)|(apply bD<;>intro _<;>first|omega|conv=>whnf)|(refine And.intro ?_ ?_<;>conv=>whnf))
 ·have hj:j<p.procs.length:=by omega
  have hst:=q1u hj;refine CallK.heap [(1000,0),(2000,1),(2001,2),(2002,3)] 0 (by refine ArgsH.cons (LSub.refl _) (ArgsH.cons (LSub.refl _) (ArgsH.cons (LSub.agg ?_) ArgsH.nil));repeat' (first|exact SubL.nil|refine SubL.cons ?_ ?_|exact Sub.refl _|exact Sub.nils|exact Sub.ff rfl)) (by exact BlksH.cons (j:=0) rfl rfl (CSub.of_eq (by rw [length_append];first|done|rfl)) (BlksH.cons (j:=1) rfl rfl (CSub.refl _) (BlksH.cons (j:=2) rfl rfl (CSub.of_eq (by rw [List.map_append];first|done|rfl)) (BlksH.cons (j:=3) rfl rfl (CSub.refl _) BlksH.nil)))) (x3p 1000 (by omega) p.procs[j].body (by omega) b (by omega) ⟨S0,j,0,-1,0⟩ _ _ (lo++[(b.length:Int)+1]) hi) rfl rfl ?_;rintro l' H' ⟨rfl,rfl⟩;conv=>whnf
  have hlen:=XQ j 0 (-1) 0 b p.procs[j].body;repeat' (first|((first|(refine iM fun _=>?_)|refine dA ?_|refine And.intro rfl ?_|refine aD ?_|refine bP ?_|refine wI ?_|refine AppK.mk (by simp) rfl (by show (hi.length+1)*8<=140737488355328;omega) (by show hi.length+1<=9223372036854775807;omega) (fun x hx=>by rcases List.mem_singleton.1 hx with rfl;exact ⟨rfl,rfl⟩) ?_|refine Wr.i64 (by rw [XQ];omega) (by rw [XQ];omega) ?_);conv=>whnf)|(refine And.intro ?_ ?_<;>conv=>whnf))
  all_goals exact ⟨(j+1,XZ j 0 (-1) 0 b p.procs[j].body,lo++[(b.length:Int)+1],hi++[((XZ j 0 (-1) 0 b p.procs[j].body).length:Int)+1]),⟨by simp only;omega,by simp only;omega,by simp [h4],by simp [h5],by simp only;rw [<- h6,x0a hj]⟩,by simp only;omega,Le.of_eq (by simp only [w1d,length_append,List.map_append];rfl)⟩
 ·have hj:j<p.procs.length:=by omega
  have hst:=q1u hj;refine CallK.heap [(1000,0),(2000,1),(2001,2),(2002,3)] 0 (by refine ArgsH.cons (LSub.refl _) (ArgsH.cons (LSub.refl _) (ArgsH.cons (LSub.agg ?_) ArgsH.nil));repeat' (first|exact SubL.nil|refine SubL.cons ?_ ?_|exact Sub.refl _|exact Sub.nils|exact Sub.ff rfl)) (by exact BlksH.cons (j:=0) rfl rfl (CSub.of_eq (by rw [length_append];first|done|rfl)) (BlksH.cons (j:=1) rfl rfl (CSub.refl _) (BlksH.cons (j:=2) rfl rfl (CSub.of_eq (by rw [List.map_append];first|done|rfl)) (BlksH.cons (j:=3) rfl rfl (CSub.refl _) BlksH.nil)))) (x3p 1000 (by omega) p.procs[j].body (by omega) b (by omega) ⟨S0,j,0,-1,0⟩ _ _ (lo++[(b.length:Int)+1]) hi) rfl rfl ?_;rintro l' H' ⟨rfl,rfl⟩;conv=>whnf
  have hlen:=XQ j 0 (-1) 0 b p.procs[j].body;repeat' (first|((first|(refine iM fun _=>?_)|refine dA ?_|refine And.intro rfl ?_|refine aD ?_|refine bP ?_|refine wI ?_|refine AppK.mk (by simp) rfl (by show (hi.length+1)*8<=140737488355328;omega) (by show hi.length+1<=9223372036854775807;omega) (fun x hx=>by rcases List.mem_singleton.1 hx with rfl;exact ⟨rfl,rfl⟩) ?_|refine Wr.i64 (by rw [XQ];omega) (by rw [XQ];omega) ?_);conv=>whnf)|(refine And.intro ?_ ?_<;>conv=>whnf))
  all_goals exact ⟨(j+1,XZ j 0 (-1) 0 b p.procs[j].body,lo++[(b.length:Int)+1],hi++[((XZ j 0 (-1) 0 b p.procs[j].body).length:Int)+1]),⟨by simp only;omega,by simp only;omega,by simp [h4],by simp [h5],by simp only;rw [<- h6,x0a hj]⟩,by simp only;omega,Le.of_eq (by simp only [w1d,length_append,List.map_append];rfl)⟩
 ·have hd:p.procs.drop j=[]:=drop_eq_nil_of_le (by omega);rw [hd,NI] at h6;refine ⟨.ip (sheetOf p).cells,?_,rfl⟩;have e:(sheetOf p).cells=[QP p.globals,.sl (p.procs.map fun f => .agg f.cells),.sl (b.map fun i => .agg i.cells),XW lo,XW hi]:=by
   unfold sheetOf;rw [<- h6];rfl
  rw [e];have hF : ∀ H:Heap,getH H 1=some (.own 151 17 (b.map fun i => .agg i.cells))->getH H 2=some (.own 3 1 (lo.map (.int .i64)))->getH H 3=some (.own 3 1 (hi.map (.int .i64))) ->
    FrzL H [.p (QP p.globals),.p (.sl (p.procs.map fun f => .agg f.cells)),.hd 1 0 b.length,.hd 2 0 lo.length,.hd 3 0 hi.length] [QP p.globals,.sl (p.procs.map fun f => .agg f.cells),.sl (b.map fun i => .agg i.cells),XW lo,XW hi]:=fun H g1 g2 g3 =>
   .cons (.p (Sub.refl _)) (.cons (.p (Sub.refl _)) (.cons (.hd g1 (by simp)) (.cons (.hd g2 (by simp)) (.cons (.hd g3 (by simp)) .nil))))
  refine Frz.ptr (off:=0) rfl rfl fun m l c hl hc => ?_;obtain ⟨l',h7,h8⟩:=(hF (w1d 154 151 3 p b lo hi) rfl rfl rfl).get.2 m c hc;have h9:=h7.symm.trans hl;cases h9;exact h8
theorem IdxK.at {es:List AV} {sz k:Nat} {e:AV} {n:Int} {K:List AV->Prop} (hn:n=k) (he:es[k]? = some e) (hs:e.cells.length=sz) (h:K e.cells):IdxK es sz n K:=⟨k,e,hn,he,hs,h⟩
theorem WL {l:List Int} {k:Nat} {n:Int} (h:l[k]? = some n):(l.map (AV.int .i64))[k]? = some (.int .i64 n):=by simp [h]
def YC (l:List Item):AV := .sl (l.map fun i => .agg i.cells)
theorem q6q (s:Sheet) (i lo hi:Nat) (h1:s.lo[i]? = some ((lo:Int)+1)) (h2:s.hi[i]? = some ((hi:Int)+1)) (h3:lo<=hi) (h4:hi<=s.l.length) (h5:s.l.length<=1000):SpecP Tryz.prog 195 [.ip s.cells,.int .i64 i] (fun r=>r=YC ((s.l.take hi).drop lo)):=by
 refine sB q1t Tryz.func195 rfl Tryz.call195 ?_;conv=>whnf
 repeat' ((first|refine dA ?_|refine wI ?_|(refine IdxK.at rfl (WL h1) rfl ?_)|(refine IdxK.at rfl (WL h2) rfl ?_)|refine And.intro (fun e he=>by obtain ⟨x,_,rfl⟩:=List.mem_map.1 he;rfl) (SlK.mk lo hi (by simp) (by simp) h3 (by simpa using h4) ?_));conv=>whnf)
 exact RetK.p (by simp [YC,map_take,List.map_drop])
theorem HS (s:Sheet) (id:Int):SpecP Tryz.prog 82 [.ip s.cells,.int .i64 id] (fun r=>r = .bool (decide (1<=id)&&decide (id<=s.l.length))):=by
 refine sB MO Tryz.func82 rfl Tryz.call82 ?_;conv=>whnf
 repeat' (first|(refine iM fun _=>?_;conv=>whnf)|(apply bD<;>intro _<;>first|omega|conv=>whnf))
 all_goals have hl:(s.l.map fun i=>AV.agg i.cells).length=s.l.length:=length_map _
 ·exact RetK.bool (by simp_all)
 ·exact RetK.ff (by simp;omega)
theorem VC (s:Sheet) (i lo hi:Nat) (h1:s.lo[i]? = some ((lo:Int)+1)) (h2:s.hi[i]? = some ((hi:Int)+1)):SpecP Tryz.prog 146 [.ip s.cells,.int .i64 i] (fun r=>r = .int .i64 (if lo<hi then (lo:Int)+1 else -1)):=by
 refine sB BZ Tryz.func146 rfl Tryz.call146 ?_;conv=>whnf
 repeat' (first|((first|refine dA ?_|(refine IdxK.at rfl (WL h1) rfl ?_)|(refine IdxK.at rfl (WL h2) rfl ?_));conv=>whnf)|(apply bD<;>intro _<;>first|omega|conv=>whnf))
 ·exact RetK.int (by rw [if_pos (by omega)])
 ·exact RetK.int (by rw [if_neg (by omega)])
theorem VW (l:List Str) (g:Nat) (c:AV) (p:Str->Bool) (hp : ∀ s,SpecP Tryz.prog g [.str s,c] (fun r=>r = .bool (p s))):SpecP Tryz.prog 250 [QP l,.fn g [c]] (fun r=>r = .int .i64 (idxF p l)):=by
 refine sB WM Tryz.func250 rfl Tryz.call250 ?_;conv=>whnf
 refine iM fun _=>?_;have hl:(l.map AV.str).length=l.length:=length_map _;conv=>whnf
 refine LoopK.inv QU (fun j:Nat=>⟨[(0,.p (QP l)),(1,.p (.fn g [c])),(7,.p (.int .i64 (l.map AV.str).length)),(8,.p (.int .i64 j))],[]⟩) (fun j=>j<=l.length∧(l.drop j).any p=l.any p∧l.findIdx p=j+(l.drop j).findIdx p) (fun j=>l.length-j) 0 (Le.of_eq rfl) ⟨zero_le _,rfl,by simp⟩ ?_;rintro j ⟨h2,h3,h4⟩;conv=>whnf
 repeat' (first|((first|(refine iA fun _=>?_)|refine wI ?_|refine cP (hp _) ?_);conv=>whnf)|(apply bD<;>intro _<;>first|omega|conv=>whnf)|(apply bB<;>intro _<;>conv=>whnf))
 ·exact RetK.int (LN (p:=p) (by omega) (by assumption) h3 h4).symm
 ·exact ⟨j+1,⟨by omega,by rw [<- h3,q4z (p:=p) (by omega) (by assumption)],by rw [h4,z5u (p:=p) (by omega) (by assumption)];omega⟩,by omega,Le.of_eq rfl⟩
 ·exact RetK.int (by rw [q7p];rw [<- h3,PN (by omega)])
theorem WK (l:List Str) (g:Nat) (c:AV) (p:Str->Bool) (hp : ∀ s,SpecP Tryz.prog g [.str s,c] (fun r=>r = .bool (p s))):SpecP Tryz.prog 193 [QP l,.fn g [c]] (fun r=>r = .bool (l.any p)):=by
 refine sB ZA Tryz.func193 rfl Tryz.call193 ?_;conv=>whnf
 repeat' (refine cP (VW _ _ _ p hp) ?_;conv=>whnf)
 exact RetK.bool PD
theorem XF (l:List Pr) (g:Nat) (c:AV) (p:Pr->Bool) (hp : ∀ s:Pr,SpecP Tryz.prog g [.agg s.cells,c] (fun r=>r = .bool (p s))):SpecP Tryz.prog 135 [.sl (l.map fun f => .agg f.cells),.fn g [c]] (fun r=>r = .int .i64 (idxF p l)):=by
 refine sB ZS Tryz.func135 rfl Tryz.call135 ?_;conv=>whnf
 refine iM fun _=>?_;have hl:(l.map fun f=>AV.agg f.cells).length=l.length:=length_map _;conv=>whnf
 refine LoopK.inv QU (fun j:Nat=>⟨[(0,.p (.sl (l.map fun f => .agg f.cells))),(1,.p (.fn g [c])),(7,.p (.int .i64 (l.map fun f=>AV.agg f.cells).length)),(8,.p (.int .i64 j))],[]⟩) (fun j=>j<=l.length∧(l.drop j).any p=l.any p∧l.findIdx p=j+(l.drop j).findIdx p) (fun j=>l.length-j) 0 (Le.of_eq rfl) ⟨zero_le _,rfl,by simp⟩ ?_;rintro j ⟨h2,h3,h4⟩;conv=>whnf
 repeat' (first|((first|(refine iA fun _=>?_)|refine wI ?_|refine cP (hp _) ?_);conv=>whnf)|(apply bD<;>intro _<;>first|omega|conv=>whnf)|(apply bB<;>intro _<;>conv=>whnf))
 ·exact RetK.int (LN (p:=p) (by omega) (by assumption) h3 h4).symm
 ·exact ⟨j+1,⟨by omega,by rw [<- h3,q4z (p:=p) (by omega) (by assumption)],by rw [h4,z5u (p:=p) (by omega) (by assumption)];omega⟩,by omega,Le.of_eq rfl⟩
 ·exact RetK.int (by rw [q7p];rw [<- h3,PN (by omega)])
theorem ZN (l:List Pr) (g:Nat) (c:AV) (p:Pr->Bool) (hp : ∀ s:Pr,SpecP Tryz.prog g [.agg s.cells,c] (fun r=>r = .bool (p s))):SpecP Tryz.prog 315 [.sl (l.map fun f => .agg f.cells),.fn g [c]] (fun r=>r = .bool (l.any p)):=by
 refine sB ZY Tryz.func315 rfl Tryz.call315 ?_;conv=>whnf
 repeat' (refine cP (XF _ _ _ p hp) ?_;conv=>whnf)
 exact RetK.bool PD
theorem q7x (p:Pg) (n:Str):SpecP Tryz.prog 194 [.str n,.ip p.cells] (fun r=>r = .bool (p.globals.any fun s=>n==s)):=by
 refine sB q0r Tryz.func194 rfl Tryz.call194 ?_;conv=>whnf
 repeat' (refine cP (QQ _ _) ?_;conv=>whnf)
 exact RetK.p rfl
theorem PC (n:Str) (f:Pr):SpecP Tryz.prog 136 [.agg f.cells,.ip [.str n]] (fun r=>r = .bool (f.name==n)):=by
 refine sB DW Tryz.func136 rfl Tryz.call136 ?_;conv=>whnf
 skip
 exact RetK.p rfl
theorem q7t (n:Str) (f:Pr):SpecP Tryz.prog 316 [.agg f.cells,.ip [.str n]] (fun r=>r = .bool (f.name==n)):=by
 refine sB q1i Tryz.func316 rfl Tryz.call316 ?_;conv=>whnf
 skip
 exact RetK.p rfl
theorem XT (s:Sheet) (n:Str):SpecP Tryz.prog 76 [.ip s.cells,.str n] (fun r=>r = .int .i64 (idxF (fun f=>f.name==n) s.p.procs)):=by
 refine sB PF Tryz.func76 rfl Tryz.call76 ?_;conv=>whnf
 repeat' (refine cP (XF _ _ _ (fun f=>f.name==n) (fun f=>PC n f)) ?_;conv=>whnf)
 exact RetK.p rfl
end Go.Ab
