/- The reference's names. -/
import Derived.Test.YtlhblcpmfnkjpaaGreatInoA9
set_option linter.unusedSimpArgs false
set_option linter.unusedVariables false
set_option maxRecDepth 100000
set_option maxHeartbeats 16000000
open List (drop_eq_getElem_cons drop_eq_nil_of_le flatMap_cons length_append length_map map_cons mem_cons_self)
open Nat (zero_le)
namespace Go.Ab
open Go.Proofs
theorem YO (c:UInt8):SpecP Tryz.prog 258 [.int .u8 c.toNat] (fun r=>r = .bool (UT c)):=by
 refine sB BJ Tryz.func258 rfl Tryz.call258 ?_;conv=>whnf
 repeat' (apply bD<;>intro _<;>first|omega|conv=>whnf)
 ·exact RetK.bool (by simp_all [UT];try omega)
 ·exact RetK.ff (by simp_all [UT];try omega)
theorem MS (c:UInt8):SpecP Tryz.prog 259 [.int .u8 c.toNat] (fun r=>r = .bool (PS c)):=by
 refine sB DA Tryz.func259 rfl Tryz.call259 ?_;conv=>whnf
 repeat' (apply bD<;>intro _<;>first|omega|conv=>whnf)
 ·exact RetK.bool (by simp_all [PS];try omega)
 ·exact RetK.ff (by simp_all [PS];try omega)
def wordsL:List Str:=[[103,108,111,98,97,108],[112,114,111,99],[118,97,114],[114,101,102],[105,102],[101,108,115,101],[119,104,105,108,101],[98,114,101,97,107],[99,111,110,116,105,110,117,101],[114,101,116,117,114,110],[103,111,116,111],[114,101,97,100],[112,114,105,110,116]]
theorem LH:SpecP Tryz.prog 321 [] (fun r=>r=eStrs wordsL):=by
 refine sB BW Tryz.func321 rfl Tryz.call321 ?_;conv=>whnf
 repeat' ((first|refine And.intro rfl ?_|refine aD ?_|refine YT rfl rfl ?_);conv=>whnf)
 exact RetK.p rfl
theorem z3l (s:Str):q2g s=wordsL.any fun w=>w==s:=by
 rw [Bool.eq_iff_iff];unfold q2g wordsL;simp only [Bool.or_eq_true,decide_eq_true_eq,List.any_cons,List.any_nil,Bool.or_false,beq_iff_eq,or_assoc,@eq_comm _ s]
theorem q1x (s:Str):SpecP Tryz.prog 260 [.str s] (fun r=>r = .bool (q2g s)):=by
 refine sB BA Tryz.func260 rfl Tryz.call260 ?_;conv=>whnf
 rw [z3l];repeat' ((first|(refine iM fun _=>?_)|refine cP LH ?_);conv=>whnf)
 have hlb:wordsL.length<=1000:=by decide
 generalize wordsL=l at hlb ⊢;have hl:(l.map AV.str).length=l.length:=length_map _;refine LoopK.inv QY (fun j:Nat=>⟨[(0,.p (.str s)),(5,.p (eStrs l)),(6,.p (.int .i64 (l.map AV.str).length)),(7,.p (.int .i64 j))],[]⟩) (fun j=>j<=l.length∧(l.drop j).any (fun w=>w==s)=l.any fun w=>w==s) (fun j=>l.length-j) 0 (Le.of_eq rfl) ⟨zero_le _,rfl⟩ ?_;rintro j ⟨h2,h3⟩;conv=>whnf
 repeat' (first|((first|(refine iA fun _=>?_)|refine wI ?_);conv=>whnf)|(apply bD<;>intro _<;>first|omega|conv=>whnf)|(apply bB<;>intro _<;>conv=>whnf))
 ·exact RetK.tt (by rw [<- h3,q1t (p:=fun w=>w==s) (by omega) (by assumption)])
 ·exact ⟨j+1,⟨by omega,by rw [<- h3,LG (p:=fun w=>w==s) (by omega) (by assumption)]⟩,by omega,Le.of_eq rfl⟩
 ·exact RetK.ff (by rw [<- h3,GX (by omega)])
theorem x8m {s:Str} {i:Nat} (h:s.length<=i):YZ s i=i:=MQ fun hi=>by omega
theorem XP (s:Str):SpecP Tryz.prog 172 [.str s] (fun r=>r = .bool (isName s)):=by
 refine sB ND Tryz.func172 rfl Tryz.call172 ?_;conv=>whnf
 by_cases hs:s=[]
 ·subst hs;have e:isName []=false:=by unfold isName;rw [dif_neg (by simp)]
  rw [e];repeat' (first|(refine iM fun _=>?_;conv=>whnf)|(apply bD<;>intro _<;>first|omega|conv=>whnf)|(apply bB<;>intro _<;>conv=>whnf))
  all_goals first
   | exact RetK.ff rfl
   | (exfalso;simp_all;done)
 have hlen:0<s.length:=List.length_pos_iff.2 hs;have hsb:(s==(⟨#[]⟩:ByteArray).data.toList)=false:=by simpa using hs
 repeat' (first|((first|(refine iM fun _=>?_)|refine cP (YO _) ?_|(refine ByteK.at (by omega) ?_));conv=>whnf)|(apply bD<;>intro _<;>first|omega|conv=>whnf)|(apply bN<;>intro _<;>conv=>whnf)|(apply bB<;>intro _<;>conv=>whnf))
 ·exfalso;rename_i h;rw [hsb] at h;cases h
 ·exact RetK.ff (by unfold isName;rw [dif_neg (by omega)])
 rotate_left 1
 ·exact RetK.ff (by unfold isName;rw [dif_pos (by omega)];simp_all)
 have hl0:UT s[0]=true:=by assumption
 have hle:s.length<=8:=by omega
 have e0:YZ s 0=YZ s 1:=(DG hlen (by unfold w1i;rw [hl0];rfl)).symm;have en:isName s=(decide (YZ s 1=s.length) && !q2g s):=by
  unfold isName;rw [dif_pos (by omega),hl0,e0];rfl
 refine LoopK.inv QY (fun j:Nat=>⟨[(0,.p (.str s)),(3,.p (.int .i64 j))],[]⟩) (fun j=>1<=j∧j<=s.length∧YZ s j=YZ s 1) (fun j=>s.length-j) 1 (Le.of_eq rfl) ⟨Nat.le_refl _,hlen,rfl⟩ ?_;rintro j ⟨h1,h2,h3⟩;conv=>whnf
 repeat' (first|((first|(refine iM fun _=>?_)|refine cP (YO _) ?_|refine cP (MS _) ?_|refine cP (q1x _) ?_|(refine ByteK.at (by omega) ?_)|refine wI ?_);conv=>whnf)|(apply bD<;>intro _<;>first|omega|conv=>whnf)|(apply bN<;>intro _<;>conv=>whnf))
 all_goals first
  | exact ⟨j+1,⟨by omega,by omega,by rw [DG (by omega) (by simp_all [w1i])];exact h3⟩,by omega,Le.of_eq rfl⟩
  | exact RetK.ff (by rw [en,<- h3,MQ fun _=>by simp_all [w1i]];simp;omega)
  | exact RetK.bool (by rw [en,<- h3,x8m (by omega),show j=s.length by omega];simp)
theorem VU (l:List Str):SpecP Tryz.prog 171 [eStrs l] (fun r=>r = .bool (namesB l)):=by
 refine sB BV Tryz.func171 rfl Tryz.call171 ?_;conv=>whnf
 refine iM fun _=>?_;conv=>whnf
 refine LoopK.inv QY (fun j:Nat=>⟨[(5,.p (eStrs l)),(6,.p (.int .i64 (l.map AV.str).length)),(7,.p (.int .i64 j))],[]⟩) (fun j=>j<=l.length∧(l.drop j).all isName=namesB l) (fun j=>l.length-j) 0 (Le.of_eq rfl) ⟨zero_le _,rfl⟩ ?_;rintro j ⟨h2,h3⟩;have hl:(l.map AV.str).length=l.length:=length_map _;conv=>whnf
 repeat' (first|((first|refine cP (XP _) ?_|(refine iA fun _=>?_)|refine wI ?_);conv=>whnf)|(apply bD<;>intro _<;>first|omega|conv=>whnf)|(apply bN<;>intro _<;>conv=>whnf))
 ·exact ⟨j+1,⟨by omega,by rw [GR (by omega) (by assumption)];exact h3⟩,by omega,Le.of_eq rfl⟩
 ·exact RetK.ff (by rw [<- h3,q2s (by omega) (by assumption)])
 ·exact RetK.tt (by rw [<- h3,GV (by omega)])
theorem MA (op:Int):SpecP Tryz.prog 319 [.int .i64 op] (fun r=>r = .int .i64 (q3b op)):=by
 refine sB DI Tryz.func319 rfl Tryz.call319 ?_;conv=>whnf
 repeat' (apply bD<;>intro _<;>first|omega|conv=>whnf)
 all_goals exact RetK.int (by unfold q3b;(repeat' split)<;>omega)
theorem KR (x:X):SpecP Tryz.prog 261 [.agg x.cells] (fun r=>r = .bool (noneB x)):=by
 refine sB PL Tryz.func261 rfl Tryz.call261 ?_;conv=>whnf
 repeat' (first|(refine iM fun _=>?_;conv=>whnf)|(apply bD<;>intro _<;>first|omega|conv=>whnf)|(apply bB<;>intro _<;>conv=>whnf))
 all_goals have hk:((X.avs x.kids).length:Int)=x.kids.length:=by rw [X.avs_len]
 all_goals first
  | exact RetK.ff (by simp_all [noneB];done)
  | exact RetK.bool (by simp_all [noneB];done)
def KH (x:X):Bool:=decide (q3b x.op=(x.kids.length:Int))&&(decide (x.op=1)||decide (x.n=0))&&decide (0<=x.n)&&(decide (x.op=2) == !(x.name==[]))&&((x.name==[])||isName x.name)
def BQ:Nat->X->Bool
 | 0,_=>true
 | k+1,x=>KH x&&x.kids.all (BQ k)
theorem x9h : ∀ (l:List X) (y:X),y∈l->wX y<=wXs l
 | [],y,h=>by cases h
 | a::r,y,h=>by
   rw [wXs];rcases List.mem_cons.1 h with rfl|h
   ·omega
   ·have:=x9h r y h;omega
theorem KN : ∀ (k:Nat) (x:X) (_:wX x<k),SpecP Tryz.prog 253 [.agg x.cells] (fun r=>r = .bool (BQ k x)):=by
 intro k;induction k with
 | zero=>intro x h;omega
 | succ k ih =>
   intro x hx;have hxe:wX x=1+wXs x.kids:=by cases x;rw [wX];rfl
   have hk:((X.avs x.kids).length:Int)=x.kids.length:=by rw [X.avs_len]
   refine sB PY Tryz.func253 rfl Tryz.call253 ?_;conv=>whnf
   repeat' (first|((first|(refine iM fun _=>?_)|refine cP (MA _) ?_|refine cP (XP _) ?_|refine dA ?_|refine DV QY rfl rfl rfl rfl rfl ?_);conv=>whnf)|(apply bD<;>intro _<;>first|omega|conv=>whnf)|(apply bE<;>intro _<;>first|omega|conv=>whnf)|(apply bN<;>intro _<;>conv=>whnf))
   all_goals simp only [show (ByteArray.mk #[]).data.toList=[] from rfl] at *
   all_goals first
    | (refine RetK.ff ?_
       rw [BQ,Bool.and_eq_false_iff];left;unfold KH;rw [show decide (0<=x.n)=false from decide_eq_false (by omega)];simp
       done)
    | (refine RetK.ff ?_
       rw [BQ,Bool.and_eq_false_iff];left;rename_i h;have hq:(decide (x.op=2) == !(x.name==[]))=false:=by
        have e:decide (x.op=2)=(x.op==2):=rfl;rw [e]
        revert h
        cases (x.op==2)<;>cases (x.name==[])<;>decide
       unfold KH;rw [hq];simp
       done)
    | (refine RetK.ff ?_
       rw [BQ,Bool.and_eq_false_iff];left;simp_all [KH]
       done)
    | (refine RetK.ff ?_
       rw [BQ,Bool.and_eq_false_iff];left;simp_all [KH];omega)
    | (have h0:KH x=true:=by first
        | (simp_all [KH];done)
        | (simp_all [KH];omega)
       rw [show BQ (k+1) x=x.kids.all (BQ k) by rw [BQ,h0];rfl])
   all_goals
    clear h0;refine LoopK.inv QY (fun j:Nat=>⟨[(1,.p (.ip x.cells)),(48,.p (.int .i64 (X.avs x.kids).length)),(49,.p (.int .i64 j))],[]⟩) (fun j=>j<=x.kids.length∧(x.kids.drop j).all (BQ k)=x.kids.all (BQ k)) (fun j=>x.kids.length-j) 0 (Le.of_eq rfl) ⟨zero_le _,rfl⟩ ?_;rintro j ⟨h2,h3⟩;rcases Nat.lt_or_ge j x.kids.length with hj|hj
    ·have hw:=x9h x.kids _ (List.getElem_mem hj);conv=>whnf
     repeat' (first|((first|refine IdxK.xs (by omega) ?_|refine wI ?_|(refine CallK.pure (ih (x.kids[j]'hj) (by omega)) (.cons (Sub.refl _) .nil) ?_;rintro _ rfl));conv=>whnf)|(apply bD<;>intro _<;>first|omega|conv=>whnf)|(apply bN<;>intro _<;>conv=>whnf))
     ·exact ⟨j+1,⟨by omega,by rw [GR (by omega) (by assumption)];exact h3⟩,by omega,Le.of_eq rfl⟩
     ·exact RetK.ff (by rw [<- h3,q2s (by omega) (by assumption)])
    ·conv=>whnf
     repeat' (apply bD<;>intro _<;>first|omega|conv=>whnf)
     exact RetK.tt (by rw [<- h3,GV (by omega)])
def z3e:List Nat->Nat
 | []=>0
 | a::r=>max a (z3e r)
def JE:Nat->X->Nat
 | 0,_=>1
 | m+1,x=>1+z3e (x.kids.map (JE m))
theorem x9x {l:List Nat} {m:Nat} (h : ∀ a∈l,a<=m):z3e l<=m:=by
 induction l with
 | nil=>exact zero_le _
 | cons a r ih =>
   have:=ih fun b hb=>h b (List.mem_cons_of_mem _ hb);have:=h a mem_cons_self;rw [z3e];omega
theorem x1w : ∀ (m:Nat) (x:X),JE m x<=m+1
 | 0,_=>Nat.le_refl _
 | m+1,x=>by
   rw [JE];have:z3e (x.kids.map (JE m))<=m+1:=x9x fun a ha=>by
    obtain ⟨y,_,rfl⟩:=List.mem_map.1 ha;exact x1w m y
   omega
theorem KW : ∀ (m:Nat) (_:m<=1000) (x:X),SpecP Tryz.prog 252 [.agg x.cells,.int .i64 m] (fun r=>r = .int .i64 (JE m x)):=by
 intro m;induction m with
 | zero =>
   intro _ x;refine sB YF Tryz.func252 rfl Tryz.call252 ?_;conv=>whnf
   repeat' (apply bD<;>intro _<;>first|omega|conv=>whnf)
   exact RetK.int rfl
 | succ m ih =>
   intro hm x;have hk:((X.avs x.kids).length:Int)=x.kids.length:=by rw [X.avs_len]
   refine sB YF Tryz.func252 rfl Tryz.call252 ?_;conv=>whnf
   repeat' (apply bD<;>intro _<;>first|omega|conv=>whnf)
   have hmx:z3e (x.kids.map (JE m))<=m+1:=x9x fun a ha=>by
    obtain ⟨y,_,rfl⟩:=List.mem_map.1 ha;exact x1w m y
   refine LoopK.inv QY (fun y:Nat×Nat=>⟨[(1,.p (.int .i64 (m+1:Nat))),(2,.p (.ip x.cells)),(5,.p (.int .i64 y.2)),(6,.p (.int .i64 y.1))],[]⟩) (fun y=>y.1<=x.kids.length∧y.2<=m+1∧max y.2 (z3e ((x.kids.drop y.1).map (JE m)))=z3e (x.kids.map (JE m))) (fun y=>x.kids.length-y.1) (0,0) (Le.of_eq rfl) ⟨zero_le _,zero_le _,by simp⟩ ?_;rintro ⟨j,d⟩ ⟨h2,h3,h4⟩;simp only at h2 h3 h4 ⊢;rcases Nat.lt_or_ge j x.kids.length with hj|hj
   ·rw [drop_eq_getElem_cons hj,map_cons,z3e] at h4;have hd:=x1w m x.kids[j];conv=>whnf
    repeat' (first|((first|(refine iM fun _=>?_)|refine IdxK.xs (by omega) ?_|refine wI ?_|(refine CallK.pure (ih (by omega) (x.kids[j]'hj)) (.cons (Sub.refl _) (.cons (Sub.int (by omega)) .nil)) ?_;rintro _ rfl));conv=>whnf)|(apply bD<;>intro _<;>first|omega|conv=>whnf))
    all_goals first
     | exact ⟨(j+1,JE m x.kids[j]),⟨by simp only;omega,by simp only;omega,by simp only;omega⟩,by simp only;omega,Le.of_eq rfl⟩
     | exact ⟨(j+1,d),⟨by simp only;omega,by simp only;omega,by simp only;omega⟩,by simp only;omega,Le.of_eq rfl⟩
     | exact RetK.int (by rw [JE];omega)
   ·rw [drop_eq_nil_of_le hj,List.map_nil,z3e] at h4;conv=>whnf
    repeat' (first|((first|(refine iM fun _=>?_)|refine wI ?_);conv=>whnf)|(apply bD<;>intro _<;>first|omega|conv=>whnf))
    exact RetK.int (by rw [JE];omega)
def mayXR (x:X):Bool:=decide (JE 20 x<=20)&&BQ (wX x+1) x
theorem UB (x:X):SpecP Tryz.prog 166 [.agg x.cells] (fun r=>r = .bool (mayXR x)):=by
 refine sB VM Tryz.func166 rfl Tryz.call166 ?_;conv=>whnf
 repeat' (first|((first|(refine CallK.pure (KW 20 (by omega) x) (.cons (Sub.refl _) (.cons (Sub.refl _) .nil)) ?_;rintro _ rfl)|(refine CallK.pure (KN (wX x+1) x (by omega)) (.cons (Sub.refl _) .nil) ?_;rintro _ rfl));conv=>whnf)|(apply bD<;>intro _<;>first|omega|conv=>whnf))
 all_goals first
  | exact RetK.bool (by unfold mayXR;rw [decide_eq_true (by omega)];rfl)
  | exact RetK.ff (by unfold mayXR;rw [decide_eq_false (by omega)];rfl)
theorem q0h : ∀ (n:Nat) (x:X),WK n x=true->JE n x<=n ∧ ∀ k,BQ k x=true
 | 0,x,h=>by rw [WK] at h;cases h
 | n+1,x,h=>by
   rw [WK] at h;simp only [Bool.and_eq_true,decide_eq_true_eq] at h;obtain ⟨h1,h2⟩:=h;have hkids:(∀ y∈x.kids,WK n y=true)∧KH x=true:=by
    split at h2
    ·rename_i ho;simp only [Bool.and_eq_true,decide_eq_true_eq] at h2;have hk0:x.kids=[]:=by
      rw [ho] at h1;have:q3b 1=0:=by decide
      rw [this] at h1;exact List.length_eq_zero_iff.1 (by omega)
     refine ⟨by rw [hk0];simp,?_⟩;unfold KH;rw [h1,ho,h2.2];simp [h2.1]
    split at h2
    ·rename_i ho;simp only [Bool.and_eq_true,decide_eq_true_eq] at h2;have hk0:x.kids=[]:=by
      rw [ho] at h1;have:q3b 2=0:=by decide
      rw [this] at h1;exact List.length_eq_zero_iff.1 (by omega)
     have hne:(x.name==[])=false:=by
      cases hq:x.name with
      | nil =>
        have:=h2.2;rw [hq] at this;unfold isName at this;rw [dif_neg (by simp)] at this;cases this
      | cons a r=>rfl
     refine ⟨by rw [hk0];simp,?_⟩;unfold KH;rw [h1,ho,h2.2,hne,h2.1];simp
    ·rename_i ho1 ho2;simp only [Bool.and_eq_true,decide_eq_true_eq,List.all_eq_true] at h2;refine ⟨h2.2,?_⟩;unfold KH;rw [h1,h2.1.1,h2.1.2];simp [ho1,ho2]
   refine ⟨?_,fun k => ?_⟩
   ·rw [JE];have:z3e (x.kids.map (JE n))<=n:=x9x fun a ha=>by
     obtain ⟨y,hy,rfl⟩:=List.mem_map.1 ha;exact (q0h n y (hkids.1 y hy)).1
    omega
   ·cases k with
    | zero=>rfl
    | succ k =>
      rw [BQ,hkids.2,Bool.true_and,List.all_eq_true];exact fun y hy=>(q0h n y (hkids.1 y hy)).2 k
theorem z8l {x:X} (h:z3w x=true):mayXR x=true:=by
 obtain ⟨h1,h2⟩:=q0h 20 x h;unfold mayXR;rw [decide_eq_true h1,h2];rfl
def argR (a:Arg):Bool:=bif a.ref then isName a.name&&noneB a.x else (a.name==[])&&mayXR a.x
theorem q3k (a:Arg):SpecP Tryz.prog 262 [.agg a.cells] (fun r=>r = .bool (argR a)):=by
 refine sB MR Tryz.func262 rfl Tryz.call262 ?_;conv=>whnf
 repeat' (first|((first|refine cP (XP _) ?_|refine cP (KR _) ?_|refine cP (UB _) ?_);conv=>whnf)|(apply bB<;>intro _<;>conv=>whnf))
 all_goals simp only [show (ByteArray.mk #[]).data.toList=[] from rfl] at *
 all_goals first
  | exact RetK.bool (by simp_all [argR])
  | exact RetK.ff (by simp_all [argR])
theorem w5b {a:Arg} (h:LR a=true):argR a=true:=by
 unfold LR UD HH at h;unfold argR;cases hr:a.ref with
 | true =>
   rw [hr] at h;simpa using h
 | false =>
   rw [hr] at h;simp only [cond_false,Bool.not_false,cond_true,Bool.and_eq_true] at h;rw [h.1,z8l h.2];rfl
def oneOk (s:S):Bool:=WW s&&namesB s.labels
def hasXB (s:S):Bool:=decide (s.kind=1)||decide (s.kind=3)||decide (s.kind=5)||decide (s.kind=6)||(decide (s.kind=9)&&s.has)
structure OneF (s:S):Prop where
 labels:namesB s.labels=true
 lo:1<=s.kind
 hi:s.kind<=10
 x:hasXB s=true->mayXR s.x=true
 nox:hasXB s=false->noneB s.x=true
 has:s.has=true->s.kind=9
 name:s.kind=1∨s.kind=2∨s.kind=10->isName s.name=true
 noname : ¬(s.kind=1∨s.kind=2∨s.kind=10)->(s.name==[])=true∨(s.kind=4∧isName s.name=true)
 proc:s.kind=4->isName s.proc=true
 noproc:s.kind≠4->(s.proc==[])=true
 args:s.args.all argR=true
 noargs:s.kind≠4->s.args.length=0
 thn:s.thn.length=0∨s.kind=5∨s.kind=6
 els:s.els.length=0∨s.kind=5
theorem x0f {s:Str} (h:isName s=true):(s==[])=false:=by
 cases s with
 | nil=>unfold isName at h;rw [dif_neg (by simp)] at h;cases h
 | cons a r=>rfl
theorem YJ {s:S} (h:oneOk s=true):OneF s:=by
 unfold oneOk at h;rw [Bool.and_eq_true] at h;obtain ⟨h,hlab⟩:=h;have hargs:s.args.all LR=true->s.args.all argR=true:=fun h=>by
  rw [List.all_eq_true] at h ⊢;exact fun a ha=>w5b (h a ha)
 have key : ∀ (k:Int) (f:Flds),s.kind=k->NS s.kind s.has (s.name==[])=some f->f.has=false∧(f.thn=false->s.thn.length=0)∧(f.els=false->s.els.length=0)∧(s.kind≠4->s.args.length=0)∧UD s.name f.name=true∧UD s.proc f.proc=true∧HH s.x f.x=true∧s.args.all argR=true:=fun k f hk hf=>by
  rw [q8p hf] at h;simp only [Bool.and_eq_true,Bool.not_eq_true',Bool.or_eq_false_iff,Bool.and_eq_false_iff,Bool.not_eq_false',decide_eq_false_iff_not,decide_eq_true_eq] at h;obtain ⟨⟨⟨⟨⟨⟨⟨h1,h2⟩,h3⟩,h4⟩,h5⟩,h6⟩,h7⟩,h8⟩:=h;refine ⟨h1,fun hq => ?_,fun hq => ?_,fun hq => ?_,h5,h6,h7,hargs h8⟩
  ·rcases h2 with h2|h2
   ·rw [hq] at h2;cases h2
   ·omega
  ·rcases h3 with h3|h3
   ·rw [hq] at h3;cases h3
   ·omega
  ·rcases h4 with h4|h4
   ·exact absurd h4 hq
   ·omega
 have hkind:s.kind=1∨s.kind=2∨s.kind=3∨s.kind=4∨s.kind=5∨s.kind=6∨s.kind=7∨s.kind=8∨s.kind=9∨s.kind=10:=by
  unfold WW at h;split at h
  ·cases h
  ·rename_i f hf;unfold NS at hf
   (repeat' split at hf)<;>first|(cases hf;done)|omega
 have fin : ∀ (k:Int) (f:Flds),s.kind=k->NS s.kind s.has (s.name==[])=some f->(1<=k∧k<=10)->f.x=hasXB s->(s.has=true->f.has=true∨k=9)->((k=1∨k=2∨k=10)->f.name=true)->(¬(k=1∨k=2∨k=10)->f.name=false∨(k=4∧f.name = !(s.name==[])))->f.proc=decide (k=4)->(f.thn=true->k=5∨k=6)->(f.els=true->k=5)->OneF s:=fun k f hk hf hkk hfx hfh hfn hfnn hfp hft hfe=>by
  obtain ⟨h1,h2,h3,h4,h5,h6,h7,h8⟩:=key k f hk hf;unfold HH at h7;refine ⟨hlab,by omega,by omega,fun hq => ?_,fun hq => ?_,fun hq => ?_,fun hq => ?_,fun hq => ?_,fun hq => ?_,fun hq => ?_,h8,h4,?_,?_⟩
  ·rw [hfx,hq] at h7;exact z8l h7
  ·rw [hfx,hq] at h7;exact h7
  ·rcases hfh hq with h9|h9
   ·rw [h1] at h9;cases h9
   ·omega
  ·rw [hfn (by omega)] at h5;exact h5
  ·rcases hfnn (by omega) with h9|⟨h9,h10⟩
   ·rw [h9] at h5;exact .inl h5
   ·cases hq2:s.name==[] with
    | true=>exact .inl rfl
    | false =>
      rw [h10,hq2] at h5;exact .inr ⟨by omega,h5⟩
  ·rw [hfp,decide_eq_true (by omega)] at h6;exact h6
  ·rw [hfp,decide_eq_false (by omega)] at h6;exact h6
  ·cases ht:f.thn with
   | true=>exact .inr (by have:=hft ht;omega)
   | false=>exact .inl (h2 ht)
  ·cases he:f.els with
   | true=>exact .inr (by have:=hfe he;omega)
   | false=>exact .inl (h3 he)
 rcases hkind with hk|hk|hk|hk|hk|hk|hk|hk|hk|hk
 ·exact fin 1 ⟨true,false,true,s.has,false,false⟩ hk (by rw [hk];rfl) (by omega) (by unfold hasXB;rw [hk];rfl) (fun h => .inl h) (fun _=>rfl) (fun h=>absurd (by omega) h) rfl (fun h=>by cases h) (fun h=>by cases h)
 ·exact fin 2 ⟨true,false,false,s.has,false,false⟩ hk (by rw [hk];rfl) (by omega) (by unfold hasXB;rw [hk];rfl) (fun h => .inl h) (fun _=>rfl) (fun h=>absurd (by omega) h) rfl (fun h=>by cases h) (fun h=>by cases h)
 ·exact fin 3 ⟨false,false,true,s.has,false,false⟩ hk (by rw [hk];rfl) (by omega) (by unfold hasXB;rw [hk];rfl) (fun h => .inl h) (fun h=>by omega) (fun _ => .inl rfl) rfl (fun h=>by cases h) (fun h=>by cases h)
 ·exact fin 4 ⟨!(s.name==[]),true,false,s.has,false,false⟩ hk (by rw [hk];rfl) (by omega) (by unfold hasXB;rw [hk];rfl) (fun h => .inl h) (fun h=>by omega) (fun _ => .inr ⟨rfl,rfl⟩) rfl (fun h=>by cases h) (fun h=>by cases h)
 ·exact fin 5 ⟨false,false,true,s.has,true,true⟩ hk (by rw [hk];rfl) (by omega) (by unfold hasXB;rw [hk];rfl) (fun h => .inl h) (fun h=>by omega) (fun _ => .inl rfl) rfl (fun _ => .inl rfl) (fun _=>rfl)
 ·exact fin 6 ⟨false,false,true,s.has,true,false⟩ hk (by rw [hk];rfl) (by omega) (by unfold hasXB;rw [hk];rfl) (fun h => .inl h) (fun h=>by omega) (fun _ => .inl rfl) rfl (fun _ => .inr rfl) (fun h=>by cases h)
 ·exact fin 7 ⟨false,false,false,s.has,false,false⟩ hk (by rw [hk];rfl) (by omega) (by unfold hasXB;rw [hk];rfl) (fun h => .inl h) (fun h=>by omega) (fun _ => .inl rfl) rfl (fun h=>by cases h) (fun h=>by cases h)
 ·exact fin 8 ⟨false,false,false,s.has,false,false⟩ hk (by rw [hk];rfl) (by omega) (by unfold hasXB;rw [hk];rfl) (fun h => .inl h) (fun h=>by omega) (fun _ => .inl rfl) rfl (fun h=>by cases h) (fun h=>by cases h)
 ·exact fin 9 ⟨false,false,s.has,false,false,false⟩ hk (by rw [hk];rfl) (by omega) (by unfold hasXB;rw [hk];cases s.has<;>rfl) (fun _ => .inr rfl) (fun h=>by omega) (fun _ => .inl rfl) rfl (fun h=>by cases h) (fun h=>by cases h)
 ·exact fin 10 ⟨true,false,false,s.has,false,false⟩ hk (by rw [hk];rfl) (by omega) (by unfold hasXB;rw [hk];rfl) (fun h => .inl h) (fun _=>rfl) (fun h=>absurd (by omega) h) rfl (fun h=>by cases h) (fun h=>by cases h)
def KE (n c:Nat):List Int:=(List.range' (n+1) c).map fun (k:Nat)=>(k:Int)
theorem GQ (n a b:Nat):KE n (a+b)=KE n a++KE (n+a) b:=by
 unfold KE;rw [<- List.map_append,show n+a+1=n+1+1*a by omega,List.range'_append]
theorem w2g (n:Nat):KE n 1=[((n+1:Nat):Int)]:=by simp [KE]
mutual
theorem w2u (nest:Int) : ∀ (t:S) {n:Nat} {m:Int},x0e nest n t=some m->(flS t).map S.id=KE n (ZB t)
 | .mk id kind labels name proc x has args thn els,n,m,h=>by
   simp only [x0e] at h;split at h
   ·cases h
   split at h
   ·cases h
   rename_i hid;cases hn:namesB labels<;>rw [hn] at h
   ·cases h
   cases hf:WW (.mk id kind labels name proc x has args thn els)<;>rw [hf] at h
   ·cases h
   simp only [cond_true] at h;split at h
   ·rename_i m1 h1;have h1':UR (nest+1) ((n+1:Nat):Int) thn=some m1:=by rw [<- h1];rfl
    have h2:=JK _ _ thn h1';have h3:=LT (nest+1) thn h1';have h':UR (nest+1) ((n+1+cntL thn:Nat):Int) els=some m:=by rw [<- h,h2];rfl
    have h4:=LT (nest+1) els h';rw [flS,ZB,map_cons,List.map_append,h3,h4,show 1+cntL thn+cntL els=1+(cntL thn+cntL els) by omega,GQ,w2g,GQ];have:id=((n+1:Nat):Int):=by omega
    rw [show (S.mk id kind labels name proc x has args thn els).id=id from rfl,this];rfl
   ·cases h
theorem LT (nest:Int) : ∀ (l:List S) {n:Nat} {m:Int},UR nest n l=some m->(flL l).map S.id=KE n (cntL l)
 | [],n,m,h=>by rw [flL,cntL];rfl
 | t::r,n,m,h=>by
   simp only [UR] at h;split at h
   ·cases h
   split at h
   ·rename_i m1 h1;have h2:=z1v _ _ t h1;have h3:=w2u nest t h1;have h':UR nest ((n+ZB t:Nat):Int) r=some m:=by rw [<- h,h2];rfl
    have h4:=LT nest r h';rw [flL,cntL,List.map_append,h3,h4,GQ]
   ·cases h
end
theorem q9n : ∀ (l:List Pr) {n:Nat} {m:Int},XR n l=some m -> ∀ (j:Nat) (f:Pr),l[j]? = some f->(flL f.body).map S.id=KE (n+QL l j) (cntL f.body)
 | [],_,_,_,j,f,hj=>by simp at hj
 | g::r,n,m,h,j,f,hj=>by
   rw [XR] at h;cases hm:JH g<;>rw [hm] at h
   ·cases h
   simp only [cond_true] at h;split at h
   ·rename_i m1 h1;cases j with
    | zero =>
      simp at hj;subst hj;exact LT 1 g.body h1
    | succ j =>
      have h2:=JK _ _ g.body h1;have h':XR ((n+cntL g.body:Nat):Int) r=some m:=by rw [<- h,h2];rfl
      have:=q9n r h' j f (by simpa using hj);rw [QL,this,Nat.add_assoc]
   ·cases h
theorem z4a {p:Pg} (h:YS p=true) {j:Nat} {f:Pr} (hj:p.procs[j]? = some f):(flL f.body).map S.id=KE (QL p.procs j) (cntL f.body):=by
 unfold YS at h;simp only [Bool.and_eq_true] at h;cases hm:XR 0 p.procs with
 | none=>rw [hm] at h;cases h.2
 | some m =>
   have:=q9n p.procs (n:=0) hm j f hj;simpa using this
theorem w0j {n c:Nat} {a:Int} (h:a∈KE n c):(n:Int)+1<=a∧a<=n+c:=by
 unfold KE at h;obtain ⟨k,hk,rfl⟩:=List.mem_map.1 h;rw [List.mem_range'] at hk;obtain ⟨i,hi,rfl⟩:=hk;omega
def okI (lo hi:Nat) (x:Int):Prop:=x = -1∨((lo:Int)+1<=x∧x<=hi)
mutual
theorem w6p (proc:Int) (lo hi:Nat) : ∀ (t:S) (up nx loop:Int) (n:Nat) (it:Item),it∈itS proc up nx loop n t->okI lo hi nx->(loop=0∨((lo:Int)+1<=loop∧loop<=hi))->lo<=n->n+ZB t<=hi ->
  okI lo hi it.next∧(it.loop=0∨((lo:Int)+1<=it.loop∧it.loop<=hi))
 | .mk id kind labels name pr x has args thn els,up,nx,loop,n,it,h,h1,h2,h3,h4=>by
   rw [itS] at h;rw [ZB] at h4;rcases List.mem_cons.1 h with rfl|h
   ·exact ⟨h1,h2⟩
   ·have h5:okI lo hi (if kind=6 then ((n:Int)+1) else nx):=by
     split
     ·exact .inr ⟨by omega,by omega⟩
     ·exact h1
    have h6:(if kind=6 then ((n:Int)+1) else loop)=0∨((lo:Int)+1<=(if kind=6 then ((n:Int)+1) else loop)∧(if kind=6 then ((n:Int)+1) else loop)<=hi):=by
     split
     ·exact .inr ⟨by omega,by omega⟩
     ·exact h2
    rcases List.mem_append.1 h with h|h
    ·exact x1i proc lo hi thn _ _ _ _ it h h5 h6 (by omega) (by omega)
    ·exact x1i proc lo hi els _ _ _ _ it h h5 h6 (by omega) (by omega)
theorem x1i (proc:Int) (lo hi:Nat) : ∀ (l:List S) (up nx loop:Int) (n:Nat) (it:Item),it∈itL proc up nx loop n l->okI lo hi nx->(loop=0∨((lo:Int)+1<=loop∧loop<=hi))->lo<=n->n+cntL l<=hi ->
  okI lo hi it.next∧(it.loop=0∨((lo:Int)+1<=it.loop∧it.loop<=hi))
 | [],up,nx,loop,n,it,h,h1,h2,h3,h4=>by rw [itL] at h;cases h
 | t::r,up,nx,loop,n,it,h,h1,h2,h3,h4=>by
   rw [itL] at h;rw [cntL] at h4;rcases List.mem_append.1 h with h|h
   ·refine w6p proc lo hi t _ _ _ _ it h ?_ h2 h3 (by omega);cases r with
    | nil=>exact h1
    | cons u r =>
      have:1<=cntL (u::r):=by rw [cntL,ZA];omega
      exact .inr ⟨by simp;omega,by simp;omega⟩
   ·exact x1i proc lo hi r _ _ _ _ it h h1 h2 (by omega) (by omega)
end
theorem ML : ∀ (l:List S) (v:S),v∈l->v∈flL l
 | [],v,h=>by cases h
 | t::r,v,h=>by
   rw [flL];rcases List.mem_cons.1 h with rfl|h
   ·refine List.mem_append.2 (.inl ?_);rw [z4i];exact mem_cons_self
   ·exact List.mem_append.2 (.inr (ML r v h))
structure RI where
 s:S
 deep:Int
 inn:Int
 els:Bool
def RI.cells (i:RI):List AV:=i.s.cells++[.int .i64 i.deep,.int .i64 i.inn,.bool i.els]
def w6e (l:List RI):AV := .sl (l.map fun i => .agg i.cells)
def flF:Nat->Int->Bool->List S->List RI->List RI
 | 0,i,e,l,out=>l.foldl (fun o s=>if o.length<=200 then o++[⟨s,13,i,e⟩] else o) out
 | m+1,i,e,l,out=>l.foldl (fun o s=>if o.length<=200 then flF m s.id true s.els (flF m s.id false s.thn (o++[⟨s,13-((m+1:Nat):Int),i,e⟩])) else o) out
theorem FU : ∀ (m:Nat) (i:Int) (e:Bool) (l:List S) (out:List RI),out.length<=(flF m i e l out).length∧(flF m i e l out).length<=max out.length 201
 | 0,i,e,[],out=>by show out.length<=out.length∧_;exact ⟨Nat.le_refl _,Nat.le_max_left _ _⟩
 | m+1,i,e,[],out=>by show out.length<=out.length∧_;exact ⟨Nat.le_refl _,Nat.le_max_left _ _⟩
 | 0,i,e,s::r,out=>by
   have h:=FU 0 i e r (if out.length<=200 then out++[⟨s,13,i,e⟩] else out);show out.length<=(flF 0 i e r (if out.length<=200 then out++[⟨s,13,i,e⟩] else out)).length∧(flF 0 i e r (if out.length<=200 then out++[⟨s,13,i,e⟩] else out)).length<=_;split at h
   ·rw [if_pos (by assumption)];simp only [length_append,List.length_singleton] at h;omega
   ·rw [if_neg (by assumption)];exact h
 | m+1,i,e,s::r,out=>by
   have h:=FU (m+1) i e r (if out.length<=200 then flF m s.id true s.els (flF m s.id false s.thn (out++[⟨s,13-((m+1:Nat):Int),i,e⟩])) else out);show out.length<=(flF (m+1) i e r (if out.length<=200 then flF m s.id true s.els (flF m s.id false s.thn (out++[⟨s,13-((m+1:Nat):Int),i,e⟩])) else out)).length∧(flF (m+1) i e r (if out.length<=200 then flF m s.id true s.els (flF m s.id false s.thn (out++[⟨s,13-((m+1:Nat):Int),i,e⟩])) else out)).length<=_;split at h
   ·rw [if_pos (by assumption)];have h1:=FU m s.id false s.thn (out++[⟨s,13-((m+1:Nat):Int),i,e⟩]);have h2:=FU m s.id true s.els (flF m s.id false s.thn (out++[⟨s,13-((m+1:Nat):Int),i,e⟩]));simp only [length_append,List.length_singleton] at h1;omega
   ·rw [if_neg (by assumption)];exact h
mutual
def fuS (d i:Int) (e:Bool):S->List RI
 | .mk id kind labels name proc x has args thn els=>⟨.mk id kind labels name proc x has args thn els,d,i,e⟩::(fuL (d+1) id false thn++fuL (d+1) id true els)
def fuL (d i:Int) (e:Bool):List S->List RI
 | []=>[]
 | t::r=>fuS d i e t++fuL d i e r
end
theorem z5p (d i:Int) (e:Bool) (t:S):fuS d i e t=⟨t,d,i,e⟩::(fuL (d+1) t.id false t.thn++fuL (d+1) t.id true t.els):=by
 cases t;rw [fuS];rfl
mutual
theorem w9e (d i:Int) (e:Bool) : ∀ t:S,(fuS d i e t).map RI.s=flS t
 | .mk id kind labels name proc x has args thn els=>by
   rw [fuS,flS,map_cons,List.map_append,x7l _ _ _ thn,x7l _ _ _ els]
theorem x7l (d i:Int) (e:Bool) : ∀ l:List S,(fuL d i e l).map RI.s=flL l
 | []=>by rw [fuL,flL];rfl
 | t::r=>by rw [fuL,flL,List.map_append,w9e _ _ _ t,x7l _ _ _ r]
end
theorem NK (d i:Int) (e:Bool) (l:List S):(fuL d i e l).length=cntL l:=by
 rw [<- q5m,<- x7l d i e l,length_map]
theorem q0s {nest seen m:Int} {s:S} (h:x0e nest seen s=some m):oneOk s=true∧s.id=seen+1 ∧ ∃ m1,UR (nest+1) (seen+1) s.thn=some m1∧UR (nest+1) m1 s.els=some m:=by
 rw [z4t] at h;split at h
 ·cases h
 split at h
 ·cases h
 rename_i hid;cases hn:namesB s.labels<;>rw [hn] at h
 ·cases h
 cases hf:WW s<;>rw [hf] at h
 ·cases h
 simp only [cond_true] at h;split at h
 ·rename_i m1 h1;exact ⟨by unfold oneOk;rw [hn,hf];rfl,by omega,m1,h1,h⟩
 ·cases h
theorem DT {nest seen m:Int} {s:S} {r:List S} (h:UR nest seen (s::r)=some m):nest<=12 ∧ ∃ m1,x0e nest seen s=some m1∧UR nest m1 r=some m:=by
 rw [UR] at h;split at h
 ·cases h
 rename_i h0;split at h
 ·rename_i m1 h1;exact ⟨by omega,m1,h1,h⟩
 ·cases h
mutual
theorem w7e (d i:Int) (e:Bool) : ∀ (t:S) {n m:Int},d<=12->x0e d n t=some m -> ∀ x∈fuS d i e t,x.deep<=12∧oneOk x.s=true
 | .mk id kind labels name proc x has args thn els,n,m,hd,h,y,hy=>by
   obtain ⟨h1,_,m1,h2,h3⟩:=q0s h;rw [fuS] at hy;rcases List.mem_cons.1 hy with rfl|hy
   ·exact ⟨hd,h1⟩
   ·rcases List.mem_append.1 hy with hy|hy
    ·exact z1x _ _ _ thn h2 y hy
    ·exact z1x _ _ _ els h3 y hy
theorem z1x (d i:Int) (e:Bool) : ∀ (l:List S) {n m:Int},UR d n l=some m -> ∀ x∈fuL d i e l,x.deep<=12∧oneOk x.s=true
 | [],n,m,h,y,hy=>by rw [fuL] at hy;cases hy
 | t::r,n,m,h,y,hy=>by
   obtain ⟨h1,m1,h2,h3⟩:=DT h;rw [fuL] at hy;rcases List.mem_append.1 hy with hy|hy
   ·exact w7e _ _ _ t h1 h2 y hy
   ·exact z1x _ _ _ r h3 y hy
end
theorem w7r : ∀ (k:Nat) (l:List S) (i:Int) (e:Bool) (out:List RI) (seen m:Int),UR (13-(k:Int)) seen l=some m->out.length+cntL l<=200->flF k i e l out=out++fuL (13-(k:Int)) i e l:=by
 intro k;induction k with
 | zero =>
   intro l i e out seen m h hl;cases l with
   | nil=>rw [fuL,List.append_nil];rfl
   | cons s r =>
     have:=(DT h).1;simp at this
 | succ k ih =>
   intro l;induction l with
   | nil=>intro i e out seen m h hl;rw [fuL,List.append_nil];rfl
   | cons s r ihr =>
     intro i e out seen m h hl;obtain ⟨h1,m1,h2,h3⟩:=DT h;obtain ⟨_,_,m2,h4,h5⟩:=q0s h2;have ed:(13:Int)-((k+1:Nat):Int)+1=13-(k:Int):=by omega
     rw [ed] at h4 h5;rw [cntL,ZA] at hl;show flF (k+1) i e r (if out.length<=200 then flF k s.id true s.els (flF k s.id false s.thn (out++[⟨s,13-((k+1:Nat):Int),i,e⟩])) else out)=_;rw [if_pos (by omega),ih s.thn s.id false _ _ _ h4 (by simp;omega),ih s.els s.id true _ _ _ h5 (by simp [NK];omega),ihr i e _ _ _ h3 (by simp [NK];omega),fuL,z5p,ed];simp
def UG (f:Pr):List RI:=flF 12 0 false f.body []
def FR (l:List Pr) (out:List RI):List RI:=l.foldl (fun o f=>if o.length<=200 then o++UG f else o) out
def allR (p:Pg):List RI:=FR p.procs []
def flatU (f:Pr):List RI:=fuL 1 0 false f.body
theorem q5b : ∀ (l:List Pr) {n m:Int},XR n l=some m -> ∀ f∈l,JH f=true ∧ ∃ a b,UR 1 a f.body=some b
 | [],_,_,_,f,hf=>by cases hf
 | g::r,n,m,h,f,hf=>by
   rw [XR] at h;cases hm:JH g<;>rw [hm] at h
   ·cases h
   simp only [cond_true] at h;split at h
   ·rename_i m1 h1;rcases List.mem_cons.1 hf with rfl|hf
    ·exact ⟨hm,_,_,h1⟩
    ·exact q5b r h f hf
   ·cases h
theorem q0b {p:Pg} (h:YS p=true):p.globals.length<=16∧p.procs.length<=16∧namesB p.globals=true ∧ ∀ f∈p.procs,JH f=true ∧ ∃ a b,UR 1 a f.body=some b:=by
 unfold YS at h;simp only [Bool.and_eq_true,decide_eq_true_eq] at h;obtain ⟨⟨⟨h1,h2⟩,h3⟩,h4⟩:=h;refine ⟨h1,h2,h3,?_⟩;cases hm:XR 0 p.procs with
 | none=>rw [hm] at h4;cases h4
 | some m=>exact q5b p.procs hm
theorem x3d : ∀ (l:List Pr) (f:Pr),f∈l->cntL f.body<=cntP l
 | [],f,h=>by cases h
 | g::r,f,h=>by
   rw [cntP];rcases List.mem_cons.1 h with rfl|h
   ·omega
   ·have:=x3d r f h;omega
theorem q4u {p:Pg} (h:YS p=true) {f:Pr} (hf:f∈p.procs):UG f=flatU f:=by
 obtain ⟨_,_,_,h4⟩:=q0b h;obtain ⟨_,a,b,h5⟩:=h4 f hf;have h6:=(WD h).2.2;have h7:=x3d _ f hf;have:=w7r 12 f.body 0 false [] a b h5 (by simp;omega);simpa [UG,flatU] using this
theorem z0n : ∀ (l:List Pr) (out:List RI),(∀ f∈l,UG f=flatU f)->out.length+cntP l<=200->FR l out=out++l.flatMap flatU
 | [],out,_,_=>by show out=_;simp
 | f::r,out,h,hl=>by
   rw [cntP] at hl;show FR r (if out.length<=200 then out++UG f else out)=_;have e:=NK 1 0 false f.body;rw [if_pos (by omega),h f mem_cons_self,z0n r _ (fun g hg=>h g (List.mem_cons_of_mem _ hg)) (by simp only [flatU,length_append,e];omega)];simp
theorem x3n {p:Pg} (h:YS p=true):allR p=p.procs.flatMap flatU:=by
 have:=z0n p.procs [] (fun f hf=>q4u h hf) (by have:=(WD h).2.2;simpa using this);simpa [allR] using this
theorem w5h {p:Pg} (h:YS p=true) : ∀ x∈p.procs.flatMap flatU,x.deep<=12∧oneOk x.s=true:=by
 intro x hx;obtain ⟨f,hf,hx⟩:=List.mem_flatMap.1 hx;obtain ⟨_,_,_,h4⟩:=q0b h;obtain ⟨_,a,b,h5⟩:=h4 f hf;exact z1x 1 0 false f.body h5 x hx
theorem MN : ∀ (l:List Pr) {n:Nat} {m:Int},XR n l=some m->(l.flatMap fun f=>flL f.body).map S.id=KE n (cntP l)
 | [],n,m,_=>by rw [cntP];rfl
 | g::r,n,m,h=>by
   rw [XR] at h;cases hm:JH g<;>rw [hm] at h
   ·cases h
   simp only [cond_true] at h;split at h
   ·rename_i m1 h1;have h2:=JK _ _ g.body h1;have h':XR ((n+cntL g.body:Nat):Int) r=some m:=by rw [<- h,h2];rfl
    have h3:=MN r h';rw [flatMap_cons,List.map_append,LT 1 g.body h1,h3,cntP,GQ]
   ·cases h
theorem w4w (l:List Pr):(l.flatMap flatU).map RI.s=l.flatMap fun f=>flL f.body:=by
 induction l with
 | nil=>rfl
 | cons f r ih =>
   rw [flatMap_cons,flatMap_cons,List.map_append,ih];congr 1;exact x7l _ _ _ _
theorem NC (l:List Pr):(l.flatMap flatU).length=cntP l:=by
 induction l with
 | nil=>rfl
 | cons f r ih=>rw [flatMap_cons,length_append,ih,cntP];congr 1;exact NK _ _ _ _
theorem w0z {p:Pg} (h:YS p=true) {k:Nat} {x:RI} (hk:(p.procs.flatMap flatU)[k]? = some x):x.s.id=(k:Int)+1:=by
 unfold YS at h;simp only [Bool.and_eq_true,decide_eq_true_eq] at h;cases hm:XR 0 p.procs with
 | none=>rw [hm] at h;cases h.2
 | some m =>
   have h1:=MN p.procs (n:=0) hm;rw [<- w4w] at h1;have h2:(((p.procs.flatMap flatU).map RI.s).map S.id)[k]? = some x.s.id:=by simp [hk]
   rw [h1] at h2;unfold KE at h2;have hlt:k<cntP p.procs:=by rw [<- NC];exact (List.getElem?_eq_some_iff.1 hk).1
   rw [List.getElem?_map,List.getElem?_range' hlt] at h2;simp at h2;omega
def riH (t:Nat) (out:List RI):Heap:=[(2000,.own t 16 (out.map fun i => .agg i.cells))]
theorem w4d {t:Nat} {out:List RI} {x:RI}:riH t (out++[x])=[(2000,.own t 16 ((out.map fun i => .agg i.cells)++[.agg x.cells]))]:=by simp [riH]
theorem q9e (l:List RI):(l.map fun i=>AV.agg i.cells).length=l.length:=length_map _
theorem w1c {i:Int} {e:Bool} {l:List S} {j:Nat} {o:List RI} (hj:j<l.length) (h:o.length<=200):flF 0 i e (l.drop j) o=flF 0 i e (l.drop (j+1)) (o++[⟨l[j],13,i,e⟩]):=by
 rw [QG hj];show flF 0 i e (l.drop (j+1)) (if o.length<=200 then _ else _)=_;rw [if_pos h]
theorem w6q {m:Nat} {i:Int} {e:Bool} {l:List S} {j:Nat} {o:List RI} (hj:j<l.length) (h:o.length<=200):flF (m+1) i e (l.drop j) o=flF (m+1) i e (l.drop (j+1)) (flF m l[j].id true l[j].els (flF m l[j].id false l[j].thn (o++[RI.mk l[j] (13-((m+1:Nat):Int)) i e]))):=by
 rw [QG hj];show flF (m+1) i e (l.drop (j+1)) (if o.length<=200 then _ else _)=_;rw [if_pos h]
theorem q3a : ∀ (m:Nat) {i:Int} {e:Bool} {l:List S} {o:List RI},¬o.length<=200->flF m i e l o=o
 | 0,i,e,[],o,_=>rfl
 | m+1,i,e,[],o,_=>rfl
 | 0,i,e,s::r,o,h=>by
   show flF 0 i e r (if o.length<=200 then _ else o)=o;rw [if_neg h];exact q3a 0 h
 | m+1,i,e,s::r,o,h=>by
   show flF (m+1) i e r (if o.length<=200 then _ else o)=o;rw [if_neg h];exact q3a (m+1) h
theorem z5z (m:Nat) {i:Int} {e:Bool} {o:List RI}:flF m i e [] o=o:=by cases m<;>rfl
theorem q1o : ∀ (m:Nat) (_:m<=12) (l:List S) (i:Int) (e:Bool) (out:List RI),
  SpecH Tryz.prog 158 [.p (eSs l),.p (.int .i64 (13-(m:Int))),.p (.int .i64 i),.p (.bool e),.hd 2000 0 out.length] (riH 42 out)
   (fun r H=>r = .hd 2000 0 (flF m i e l out).length∧H=riH 42 (flF m i e l out)):=by
 intro m;induction m with
 | zero =>
   intro _ l i e out;have hll:=S.avs_len l;refine sH YW Tryz.func158 rfl Tryz.call158 ?_;conv=>whnf
   skip
   refine LoopK.inv QY (fun x:Nat×List RI=>⟨[(0,.p (eSs l)),(1,.p (.int .i64 (13-((0:Nat):Int)))),(2,.p (.int .i64 i)),(3,.p (.bool e)),(4,.hd 2000 0 x.2.length),(11,.p (.int .i64 x.1))],riH 42 x.2⟩) (fun x=>x.1<=l.length∧flF 0 i e (l.drop x.1) x.2=flF 0 i e l out) (fun x=>l.length-x.1) (0,out) (Le.of_eq rfl) ⟨zero_le _,rfl⟩ ?_;rintro ⟨j,o⟩ ⟨h2,h3⟩;simp only at h2 h3 ⊢;have hol:=q9e o;rcases Nat.lt_or_ge j l.length with hj|hj
   ·conv=>whnf
    repeat' (first|((first|(refine iM fun _=>?_)|refine And.intro rfl ?_|refine aD ?_|refine bP ?_|refine QX (by omega) ?_|refine wI ?_|refine AppK.mk (by simp) rfl (by show (o.length+1)*232<=140737488355328;omega) (by show o.length+1<=9223372036854775807;omega) (fun x hx=>by rcases List.mem_singleton.1 hx with rfl;exact ⟨rfl,rfl⟩) ?_);conv=>whnf)|(apply bD<;>intro _<;>first|omega|conv=>whnf))
    ·exact ⟨(j+1,o++[⟨l[j],13,i,e⟩]),⟨hj,by rw [<- h3,w1c hj (by omega)]⟩,by simp only;omega,Le.of_eq (by simp only [w4d,length_append,List.length_singleton];rfl)⟩
    ·rw [q3a 0 (by omega)] at h3;exact ⟨_,.refl _,by rw [<- h3];exact ⟨rfl,rfl⟩⟩
   ·conv=>whnf
    repeat' (first|(refine iM fun _=>?_;conv=>whnf)|(apply bD<;>intro _<;>first|omega|conv=>whnf))
    rw [drop_eq_nil_of_le hj,z5z] at h3;exact ⟨_,.refl _,by rw [<- h3];exact ⟨rfl,rfl⟩⟩
 | succ m ih =>
   intro hm l i e out;have hll:=S.avs_len l;refine sH YW Tryz.func158 rfl Tryz.call158 ?_;conv=>whnf
   skip
   refine LoopK.inv QY (fun x:Nat×List RI=>⟨[(0,.p (eSs l)),(1,.p (.int .i64 (13-((m+1:Nat):Int)))),(2,.p (.int .i64 i)),(3,.p (.bool e)),(4,.hd 2000 0 x.2.length),(11,.p (.int .i64 x.1))],riH 42 x.2⟩) (fun x=>x.1<=l.length∧flF (m+1) i e (l.drop x.1) x.2=flF (m+1) i e l out) (fun x=>l.length-x.1) (0,out) (Le.of_eq rfl) ⟨zero_le _,rfl⟩ ?_;rintro ⟨j,o⟩ ⟨h2,h3⟩;simp only at h2 h3 ⊢;have hol:=q9e o;rcases Nat.lt_or_ge j l.length with hj|hj
   ·conv=>whnf
    repeat' (first|((first|(refine iM fun _=>?_)|refine dA ?_|refine And.intro rfl ?_|refine aD ?_|refine bP ?_|refine QX (by omega) ?_|refine wI ?_|refine AppK.mk (by simp) rfl (by show (o.length+1)*232<=140737488355328;omega) (by show o.length+1<=9223372036854775807;omega) (fun x hx=>by rcases List.mem_singleton.1 hx with rfl;exact ⟨rfl,rfl⟩) ?_);conv=>whnf)|(apply bD<;>intro _<;>first|omega|conv=>whnf))
    ·refine CallK.heap [(2000,2000)] 0 (ArgsH.cons (LSub.refl _) (ArgsH.cons (LSub.p (Sub.int (by omega))) (ArgsH.cons (LSub.refl _) (ArgsH.cons (LSub.p (Sub.ff rfl)) (ArgsH.cons (LSub.of_eq (by rw [length_append];rfl)) ArgsH.nil))))) (by exact BlksH.cons (j:=2000) rfl rfl (CSub.of_eq (by rw [List.map_append];first|done|rfl)) BlksH.nil) (ih (by omega) l[j].thn l[j].id false (o++[RI.mk l[j] (13-((m+1:Nat):Int)) i e])) rfl rfl ?_;rintro l' H' ⟨rfl,rfl⟩;conv=>whnf
     repeat' ((first|refine dA ?_|refine QX (by omega) ?_|refine wI ?_);conv=>whnf)
     refine CallK.heap [(2000,2000)] 0 (ArgsH.cons (LSub.refl _) (ArgsH.cons (LSub.p (Sub.int (by omega))) (ArgsH.cons (LSub.refl _) (ArgsH.cons (LSub.p (Sub.tt rfl)) (ArgsH.cons (LSub.refl _) ArgsH.nil))))) (by exact BlksH.cons (j:=2000) rfl rfl (CSub.refl _) BlksH.nil) (ih (by omega) l[j].els l[j].id true (flF m l[j].id false l[j].thn (o++[RI.mk l[j] (13-((m+1:Nat):Int)) i e]))) rfl rfl ?_;rintro l' H' ⟨rfl,rfl⟩;conv=>whnf
     repeat' (refine wI ?_;conv=>whnf)
     exact ⟨(j+1,flF m l[j].id true l[j].els (flF m l[j].id false l[j].thn (o++[RI.mk l[j] (13-((m+1:Nat):Int)) i e]))),⟨hj,by rw [<- h3,w6q hj (by omega)]⟩,by simp only;omega,Le.of_eq rfl⟩
    ·rw [q3a (m+1) (by omega)] at h3;exact ⟨_,.refl _,by rw [<- h3];exact ⟨rfl,rfl⟩⟩
   ·conv=>whnf
    repeat' (first|(refine iM fun _=>?_;conv=>whnf)|(apply bD<;>intro _<;>first|omega|conv=>whnf))
    rw [drop_eq_nil_of_le hj,z5z] at h3;exact ⟨_,.refl _,by rw [<- h3];exact ⟨rfl,rfl⟩⟩
theorem KT (f:Pr):SpecP Tryz.prog 89 [.agg f.cells] (fun r=>r=w6e (UG f)):=by
 refine sB PH Tryz.func89 rfl Tryz.call89 ?_;conv=>whnf
 skip
 refine CallK.nil 5 42 16 rfl (.cons rfl (.cons rfl (.cons rfl (.cons rfl (.row .nil))))) ?_;refine CallK.heap [(2000,5)] 0 (by repeat' (first|exact ArgsH.nil|refine ArgsH.cons ?_ ?_|exact LSub.refl _|exact LSub.p Sub.nils|exact LSub.p (Sub.tt rfl)|exact LSub.p (Sub.ff rfl)|exact LSub.p (Sub.int (by omega)))) (by refine BlksH.cons (j:=5) rfl rfl ?_ ?_;exact CSub.refl _;exact BlksH.nil) (q1o 12 (by omega) f.body 0 false []) rfl rfl ?_;rintro l' H' ⟨rfl,rfl⟩;conv=>whnf
 exact ⟨_,.hd rfl (by simp [UG]),rfl⟩
theorem z4h {l:List Pr} {j:Nat} {o:List RI} (hj:j<l.length) (h:o.length<=200):FR (l.drop j) o=FR (l.drop (j+1)) (o++UG l[j]):=by
 rw [QG hj];show FR (l.drop (j+1)) (if o.length<=200 then _ else _)=_;rw [if_pos h]
theorem q9w : ∀ {l:List Pr} {o:List RI},¬o.length<=200->FR l o=o
 | [],o,_=>rfl
 | f::r,o,h=>by
   show FR r (if o.length<=200 then _ else o)=o;rw [if_neg h];exact q9w h
theorem x6p (f:Pr):(UG f).length<=201:=by
 have:=(FU 12 0 false f.body []).2;simpa [UG] using this
theorem HQ (p:Pg):SpecP Tryz.prog 61 [.agg p.cells] (fun r=>r=w6e (allR p)):=by
 refine sB MO Tryz.func61 rfl Tryz.call61 ?_;conv=>whnf
 repeat' (refine iM fun _=>?_;conv=>whnf)
 have hl2:(p.procs.map fun f=>AV.agg f.cells).length=p.procs.length:=length_map _;refine LoopK.inv QY (fun x:Nat×List RI=>⟨[(3,.hd 1 0 x.2.length),(7,.p (.sl (p.procs.map fun f => .agg f.cells))),(8,.p (.int .i64 (p.procs.map fun f=>AV.agg f.cells).length)),(9,.p (.int .i64 x.1))],[(1,.own 42 16 (x.2.map fun i => .agg i.cells))]⟩) (fun x=>x.1<=p.procs.length∧x.2.length<=200∧FR (p.procs.drop x.1) x.2=allR p) (fun x=>p.procs.length-x.1) (0,[])
  (Le.mk [(1,.own 42 16 [])] (by simp [Chunk.new0];rfl) (by simp) (by simp) (.cons (.nil mem_cons_self) (.cons (.refl _) (.cons (.refl _) (.cons (.refl _) .nil)))) (.new mem_cons_self .nil)) ⟨zero_le _,zero_le _,rfl⟩ ?_
 rintro ⟨j,o⟩ ⟨h2,h4,h3⟩;simp only at h2 h3 h4 ⊢;have hol:=q9e o;rcases Nat.lt_or_ge j p.procs.length with hj|hj
 ·have hfl:=x6p p.procs[j];have hst:=fun (h:o.length<=200)=>z4h hj h;have hF:=KT p.procs[j];generalize hL:UG p.procs[j]=L at hfl hst hF;have hfl2:=q9e L;conv=>whnf
  repeat' (first|((first|(refine iM fun _=>?_)|refine And.intro rfl ?_|refine aD ?_|(refine iA fun _=>?_)|refine wI ?_|refine cP hF ?_|refine AppK.mk (by simp) rfl (by rw [hfl2];show (o.length+L.length)*232<=140737488355328;omega) (by rw [hfl2];show o.length+L.length<=9223372036854775807;omega) (fun x hx=>by obtain ⟨y,_,rfl⟩:=List.mem_map.1 hx;exact ⟨rfl,rfl⟩) ?_);conv=>whnf)|(apply bD<;>intro _<;>first|omega|conv=>whnf))
  ·refine ⟨_,.hd rfl (by simp),?_⟩;rw [<- h3,hst h4,q9w (by simp;omega),<- List.map_append];rfl
  ·exact ⟨(j+1,o++L),⟨hj,by simp;omega,by rw [<- h3,hst h4]⟩,by simp only;omega,Le.of_eq (by simp only [length_append,List.map_append,length_map];rfl)⟩
 ·conv=>whnf
  repeat' (apply bD<;>intro _<;>first|omega|conv=>whnf)
  rw [drop_eq_nil_of_le hj] at h3;refine ⟨_,.hd rfl (by simp),?_⟩;rw [<- h3];simp [w6e,FR]
structure MayF (p:Pg):Prop where
 gl:p.globals.length<=16
 pl:p.procs.length<=16
 gn:namesB p.globals=true
 pr : ∀ f∈p.procs,f.params.length<=8∧f.vars.length<=16∧isName f.name=true∧namesB f.vars=true∧namesB f.fin=true∧(f.params.all fun a=>isName a.name)=true
 len:(allR p).length<=200
 its : ∀ (k:Nat) (x:RI),(allR p)[k]? = some x->x.s.id=(k:Int)+1∧x.deep<=12∧oneOk x.s=true
theorem JI {p:Pg} (h:YS p=true):MayF p:=by
 obtain ⟨h1,h2,h3,h4⟩:=q0b h;refine ⟨h1,h2,h3,fun f hf=>YM.1 (h4 f hf).1,?_,fun k x hk => ?_⟩
 ·rw [x3n h,NC];exact (WD h).2.2
 ·rw [x3n h] at hk;exact ⟨w0z h hk,w5h h x (List.mem_of_getElem? hk)⟩
def Pr0:Pr:=⟨[],[],[],[],[]⟩
def z8a (p:Pg) (n:Str):Pr×Bool:=match p.procs.find? (fun f=>f.name==n) with
 | some f=>(f,true)
 | none=>(Pr0,false)
theorem z8k:Sub (.agg [.str [],.nils,.nils,.nils,.nils]) (.agg Pr0.cells):=Sub.agg (SubL.cons (Sub.refl _) (SubL.cons Sub.nils (SubL.cons Sub.nils (SubL.cons Sub.nils (SubL.cons Sub.nils SubL.nil)))))
theorem ZD (l:List Str) (hl:l.length<=1000000):SpecP Tryz.prog 120 [eStrs l] (fun r=>r=eStrs l):=by
 refine sB DO Tryz.func120 rfl Tryz.call120 ?_;conv=>whnf
 have hlm:(l.map AV.str).length=l.length:=length_map _;repeat' (refine aD ?_;conv=>whnf)
 refine AppK.mk rfl rfl (by rw [hlm];show (0+l.length)*16<=140737488355328;omega) (by rw [hlm];show 0+l.length<=9223372036854775807;omega) (fun x hx=>by obtain ⟨s,_,rfl⟩:=List.mem_map.1 hx;exact ⟨rfl,rfl⟩) ?_;conv=>whnf
 skip
 exact ⟨_,.hd rfl (by simp),rfl⟩
def BF:List Str->Nat
 | []=>0
 | s::r=>1+s.length+BF r
mutual
def gX:X->Nat
 | .mk _ _ name kids=>1+name.length+gXs kids
def gXs:List X->Nat
 | []=>0
 | x::r=>gX x+gXs r
end
def q8g:List Arg->Nat
 | []=>0
 | a::r=>gX a.x+(1+a.name.length)+q8g r
mutual
def gS:S->Nat
 | .mk _ _ labels name proc x _ args thn els=>gX x+BF labels+(1+name.length)+(1+proc.length)+q8g args+gL thn+gL els
def gL:List S->Nat
 | []=>0
 | s::r=>gS s+gL r
end
def z9n:List Param->Nat
 | []=>0
 | a::r=>1+a.name.length+z9n r
def gPr (f:Pr):Nat:=1+f.name.length+BF f.vars+BF f.fin+z9n f.params+gL f.body
def x8h:List Pr->Nat
 | []=>0
 | f::r=>gPr f+x8h r
def gPg (p:Pg):Nat:=BF p.globals+x8h p.procs
theorem v1k (s:S):gS s=gX s.x+BF s.labels+(1+s.name.length)+(1+s.proc.length)+q8g s.args+gL s.thn+gL s.els:=by
 cases s;rw [gS];rfl
theorem x4q : ∀ l:List Str,z9p l<=BF l
 | []=>Nat.le_refl _
 | s::r=>by have:=x4q r;simp only [z9p,BF];omega
mutual
theorem v0i : ∀ x:X,wX x<=gX x
 | .mk _ _ name kids=>by have:=w8h kids;rw [wX,gX];omega
theorem w8h : ∀ l:List X,wXs l<=gXs l
 | []=>by rw [wXs];omega
 | x::r=>by have:=v0i x;have:=w8h r;rw [wXs,gXs];omega
end
theorem z8w : ∀ l:List Arg,x3j l<=q8g l
 | []=>Nat.le_refl _
 | a::r=>by have:=z8w r;have:=v0i a.x;simp only [x3j,q8g];omega
mutual
theorem v3z : ∀ s:S,wS s<=gS s
 | .mk _ _ labels name proc x _ args thn els=>by
   have:=v0i x;have:=x4q labels;have:=z8w args;have:=w9x thn;have:=w9x els;rw [wS,gS];omega
theorem w9x : ∀ l:List S,wL l<=gL l
 | []=>by rw [wL];omega
 | s::r=>by have:=v3z s;have:=w9x r;rw [wL,gL];omega
end
theorem w4j : ∀ l:List Param,w9v l<=z9n l
 | []=>Nat.le_refl _
 | a::r=>by have:=w4j r;simp only [w9v,z9n];omega
theorem w3a : ∀ l:List Pr,w6a l<=x8h l
 | []=>Nat.le_refl _
 | f::r=>by
   have:=w3a r;have:=x4q f.vars;have:=x4q f.fin;have:=w4j f.params;have:=w9x f.body;simp only [w6a,x8h,wPr,gPr];omega
theorem w9o (p:Pg):wPg p<=gPg p:=by
 have:=x4q p.globals;have:=w3a p.procs;unfold wPg gPg;omega
def XU (x:Int):Int:=if x>20000 then 20001 else x
theorem XS {a b:Int} (hb:0<=b):XU (XU a+b)=XU (a+b):=by
 unfold XU;split<;>split<;>(try split)<;>omega
theorem XT {a:Int} (h:0<=a):0<=XU a∧XU a<=20001:=by
 unfold XU;split<;>omega
theorem x1s {a:Int} (h:a<=20001):XU a=a:=by
 unfold XU;split<;>omega
theorem UW {a b:Int} (h:a>20000) (h1:a<=20001) (hb:0<=b):a=XU (a+b):=by
 unfold XU;split<;>omega
theorem QM (s:Str) (n:Int) (hn:0<=n∧n<=20001):SpecP Tryz.prog 81 [.str s,.int .i64 n] (fun r=>r = .int .i64 (XU (n+(1+s.length:Nat)))):=by
 refine sB KK Tryz.func81 rfl Tryz.call81 ?_;conv=>whnf
 repeat' (first|((first|(refine iM fun _=>?_)|refine wI ?_);conv=>whnf)|(apply bD<;>intro _<;>first|omega|conv=>whnf))
 all_goals exact RetK.int (by unfold XU;(repeat' split)<;>omega)
theorem XD (l:List Str) (n:Int) (hn:0<=n∧n<=20001):SpecP Tryz.prog 80 [eStrs l,.int .i64 n] (fun r=>r = .int .i64 (XU (n+BF l))):=by
 refine sB JD Tryz.func80 rfl Tryz.call80 ?_;conv=>whnf
 skip
 have hl:(l.map AV.str).length=l.length:=length_map _;refine LoopK.inv QY (fun x:Nat×Int=>⟨[(0,.p (eStrs l)),(1,.p (.int .i64 x.2)),(5,.p (.int .i64 x.1))],[]⟩) (fun x=>x.1<=l.length∧(0<=x.2∧x.2<=20001)∧XU (x.2+BF (l.drop x.1))=XU (n+BF l)) (fun x=>l.length-x.1) (0,n) (Le.of_eq rfl) ⟨zero_le _,hn,rfl⟩ ?_;rintro ⟨j,m⟩ ⟨h2,h3,h4⟩;simp only at h2 h3 h4 ⊢;rcases Nat.lt_or_ge j l.length with hj|hj
 ·rw [drop_eq_getElem_cons hj,BF] at h4;conv=>whnf
  repeat' (first|((first|(refine iM fun _=>?_)|refine cP (QM _ _ h3) ?_|(refine iA fun _=>?_)|refine wI ?_);conv=>whnf)|(apply bD<;>intro _<;>first|omega|conv=>whnf))
  ·have h5:XU (XU (m+(1+l[j].length:Nat))+BF (l.drop (j+1)))=XU (n+BF l):=by
    rw [XS (by omega),<- h4];congr 1;omega
   exact ⟨(j+1,XU (m+(1+l[j].length:Nat))),⟨by simp only;omega,XT (by omega),h5⟩,by simp only;omega,Le.of_eq rfl⟩
  ·exact RetK.int (by rw [<- h4];exact UW (by omega) h3.2 (by omega))
 ·rw [drop_eq_nil_of_le hj,BF] at h4;conv=>whnf
  repeat' (first|(refine iM fun _=>?_;conv=>whnf)|(apply bD<;>intro _<;>first|omega|conv=>whnf))
  exact RetK.int (by rw [<- h4,x1s (by omega)];simp)
theorem VN : ∀ (k:Nat) (x:X) (_:gX x<k) (n:Int) (_:0<=n∧n<=20001),SpecP Tryz.prog 143 [.agg x.cells,.int .i64 n] (fun r=>r = .int .i64 (XU (n+gX x))):=by
 intro k;induction k with
 | zero=>intro x h;omega
 | succ k ih =>
   intro x hx n hn;have hxe:gX x=1+x.name.length+gXs x.kids:=by cases x;rw [gX];rfl
   have hkl:=X.avs_len x.kids;refine sB JS Tryz.func143 rfl Tryz.call143 ?_;conv=>whnf
   repeat' (refine cP (QM _ _ hn) ?_;conv=>whnf)
   refine LoopK.inv QY (fun y:Nat×Int=>⟨[(1,.p (.int .i64 y.2)),(2,.p (.ip x.cells)),(5,.p (.int .i64 y.1))],[]⟩) (fun y=>y.1<=x.kids.length∧(0<=y.2∧y.2<=20001)∧XU (y.2+gXs (x.kids.drop y.1))=XU (n+gX x)) (fun y=>x.kids.length-y.1) (0,XU (n+(1+x.name.length:Nat))) (Le.of_eq rfl) ⟨zero_le _,XT (by omega),by
    show XU (XU (n+(1+x.name.length:Nat))+gXs x.kids)=_;rw [XS (by omega),hxe];congr 1;omega⟩ ?_
   rintro ⟨j,m⟩ ⟨h2,h3,h4⟩;simp only at h2 h3 h4 ⊢;rcases Nat.lt_or_ge j x.kids.length with hj|hj
   ·rw [drop_eq_getElem_cons hj,gXs] at h4;have hkw:gX x.kids[j]<k:=by
     have : ∀ (l:List X) (y:X),y∈l->gX y<=gXs l:=fun l=>by
      induction l with
      | nil=>intro y h;cases h
      | cons a r ih =>
        intro y h;rw [gXs];rcases List.mem_cons.1 h with rfl|h
        ·omega
        ·have:=ih y h;omega
     have:=this x.kids _ (List.getElem_mem hj);omega
    conv=>whnf
    repeat' (first|((first|(refine iM fun _=>?_)|refine IdxK.xs (by omega) ?_|refine wI ?_|refine cP (ih (x.kids[j]'hj) hkw m h3) ?_);conv=>whnf)|(apply bD<;>intro _<;>first|omega|conv=>whnf))
    ·have h5:XU (XU (m+gX x.kids[j])+gXs (x.kids.drop (j+1)))=XU (n+gX x):=by
      rw [XS (by omega),<- h4];congr 1;omega
     exact ⟨(j+1,XU (m+gX x.kids[j])),⟨by simp only;omega,XT (by omega),h5⟩,by simp only;omega,Le.of_eq rfl⟩
    ·exact RetK.int (by rw [<- h4];exact UW (by omega) h3.2 (by omega))
   ·rw [drop_eq_nil_of_le hj,gXs] at h4;conv=>whnf
    repeat' (first|(refine iM fun _=>?_;conv=>whnf)|(apply bD<;>intro _<;>first|omega|conv=>whnf))
    exact RetK.int (by rw [<- h4,x1s (by omega)];simp)
theorem w3j : ∀ (l:List S) (y:S),y∈l->gS y<=gL l
 | [],y,h=>by cases h
 | a::r,y,h=>by
   rw [gL];rcases List.mem_cons.1 h with rfl|h
   ·omega
   ·have:=w3j r y h;omega
theorem VZ : ∀ (k:Nat) (l:List S) (_:gL l<k) (n:Int) (_:0<=n∧n<=20001),SpecP Tryz.prog 82 [eSs l,.int .i64 n] (fun r=>r = .int .i64 (XU (n+gL l))):=by
 intro k;induction k with
 | zero=>intro l h;omega
 | succ k ih =>
   intro l hl n hn;have hkl:=S.avs_len l;refine sB JN Tryz.func82 rfl Tryz.call82 ?_;conv=>whnf
   skip
   refine LoopK.inv QY (fun y:Nat×Int=>⟨[(0,.p (eSs l)),(1,.p (.int .i64 y.2)),(5,.p (.int .i64 y.1))],[]⟩) (fun y=>y.1<=l.length∧(0<=y.2∧y.2<=20001)∧XU (y.2+gL (l.drop y.1))=XU (n+gL l)) (fun y=>l.length-y.1) (0,n) (Le.of_eq rfl) ⟨zero_le _,hn,rfl⟩ ?_;rintro ⟨j,m⟩ ⟨h2,h3,h4⟩;simp only at h2 h3 h4 ⊢;rcases Nat.lt_or_ge j l.length with hj|hj;rotate_left 1
   ·rw [drop_eq_nil_of_le hj,gL] at h4;conv=>whnf
    repeat' (first|(refine iM fun _=>?_;conv=>whnf)|(apply bD<;>intro _<;>first|omega|conv=>whnf))
    exact RetK.int (by rw [<- h4,x1s (by omega)];simp)
   rw [drop_eq_getElem_cons hj,gL] at h4;have hsw:=w3j l _ (List.getElem_mem hj);have hse:=v1k l[j];have q1:=XT (a:=m+gX l[j].x) (by omega);have q2:=XT (a:=XU (m+gX l[j].x)+BF l[j].labels) (by omega);have q3:=XT (a:=XU (XU (m+gX l[j].x)+BF l[j].labels)+(1+l[j].name.length:Nat)) (by omega);conv=>whnf
   repeat' (first|((first|(refine iM fun _=>?_)|refine dA ?_|refine And.intro rfl ?_|refine QX (by omega) ?_|(refine CallK.pure (VN (gX l[j].x+1) l[j].x (by omega) m h3) (.cons (Sub.refl _) (.cons (Sub.refl _) .nil)) ?_;rintro _ rfl)|refine cP (XD l[j].labels _ q1) ?_|refine cP (QM l[j].name _ q2) ?_|refine cP (QM l[j].proc _ q3) ?_);conv=>whnf)|(apply bD<;>intro _<;>first|omega|conv=>whnf))
   rotate_left 1
   ·exact RetK.int (by rw [<- h4];exact UW (by omega) h3.2 (by omega))
   have q4:=XT (a:=XU (XU (XU (m+gX l[j].x)+BF l[j].labels)+(1+l[j].name.length:Nat))+(1+l[j].proc.length:Nat)) (by omega);have h5:XU (XU (XU (XU (XU (m+gX l[j].x)+BF l[j].labels)+(1+l[j].name.length:Nat))+(1+l[j].proc.length:Nat))+(q8g l[j].args+(gL l[j].thn+gL l[j].els+gL (l.drop (j+1))):Nat))=XU (n+gL l):=by
    rw [XS (by omega),Int.add_assoc,XS (by omega),Int.add_assoc,XS (by omega),Int.add_assoc,XS (by omega),<- h4,hse];congr 1;omega
   generalize XU (XU (XU (XU (m+gX l[j].x)+BF l[j].labels)+(1+l[j].name.length:Nat))+(1+l[j].proc.length:Nat))=m0 at q4 h5 ⊢;have hal:(l[j].args.map fun a=>AV.agg a.cells).length=l[j].args.length:=length_map _;refine LoopK.inv QY (fun y:Nat×Int=>⟨[(0,.p (eSs l)),(1,.p (.int .i64 y.2)),(5,.p (.int .i64 j)),(6,.p (.ip l[j].cells)),(7,.p (.int .i64 y.1))],[]⟩) (fun y=>y.1<=l[j].args.length∧(0<=y.2∧y.2<=20001)∧XU (y.2+(q8g (l[j].args.drop y.1)+(gL l[j].thn+gL l[j].els+gL (l.drop (j+1))):Nat))=XU (n+gL l)) (fun y=>l[j].args.length-y.1) (0,m0) (Le.of_eq rfl) ⟨zero_le _,q4,h5⟩ ?_;rintro ⟨a,m2⟩ ⟨h6,h7,h8⟩;simp only at h6 h7 h8 ⊢;have fin:XU (m2+(gL l[j].thn+gL l[j].els+gL (l.drop (j+1)):Nat))=XU (n+gL l)->(0<=XU (XU (m2+gL l[j].thn)+gL l[j].els)∧XU (XU (m2+gL l[j].thn)+gL l[j].els)<=20001)∧XU (XU (XU (m2+gL l[j].thn)+gL l[j].els)+gL (l.drop (j+1)))=XU (n+gL l):=fun h=>by
    have:=XT (a:=m2+gL l[j].thn) (by omega);refine ⟨XT (by omega),?_⟩;rw [XS (by omega),Int.add_assoc,XS (by omega),<- h];congr 1;omega
   have r1:=XT (a:=m2+gL l[j].thn) (by omega);have full:m2>20000->XU (m2+(gL l[j].thn+gL l[j].els+gL (l.drop (j+1)):Nat))=XU (n+gL l):=fun h=>by
    rw [<- h8,<- UW h h7.2 (by omega),<- UW h h7.2 (by omega)]
   rcases Nat.lt_or_ge a l[j].args.length with ha|ha;rotate_left 1
   ·have h9:XU (m2+(gL l[j].thn+gL l[j].els+gL (l.drop (j+1)):Nat))=XU (n+gL l):=by
     rw [drop_eq_nil_of_le ha,q8g,Nat.zero_add] at h8;exact h8
    obtain ⟨f1,f2⟩:=fin h9;conv=>whnf
    repeat' (first|((first|(refine iM fun _=>?_)|refine dA ?_|refine wI ?_|(refine CallK.pure (ih l[j].thn (by omega) m2 h7) (.cons (Sub.refl _) (.cons (Sub.refl _) .nil)) ?_;rintro _ rfl)|(refine CallK.pure (ih l[j].els (by omega) _ r1) (.cons (Sub.refl _) (.cons (Sub.refl _) .nil)) ?_;rintro _ rfl));conv=>whnf)|(apply bD<;>intro _<;>first|omega|conv=>whnf))
    all_goals exact ⟨(j+1,XU (XU (m2+gL l[j].thn)+gL l[j].els)),⟨by simp only;omega,f1,f2⟩,by simp only;omega,Le.of_eq rfl⟩
   rw [drop_eq_getElem_cons ha,q8g] at h8;have q5:=XT (a:=m2+gX l[j].args[a].x) (by omega);conv=>whnf
   repeat' (first|((first|(refine iM fun _=>?_)|refine dA ?_|(refine iA fun _=>?_)|refine wI ?_|(refine CallK.pure (VN (gX l[j].args[a].x+1) l[j].args[a].x (by omega) m2 h7) (.cons (Sub.refl _) (.cons (Sub.refl _) .nil)) ?_;rintro _ rfl)|refine cP (QM l[j].args[a].name _ q5) ?_|(refine CallK.pure (ih l[j].thn (by omega) m2 h7) (.cons (Sub.refl _) (.cons (Sub.refl _) .nil)) ?_;rintro _ rfl)|(refine CallK.pure (ih l[j].els (by omega) _ r1) (.cons (Sub.refl _) (.cons (Sub.refl _) .nil)) ?_;rintro _ rfl));conv=>whnf)|(apply bD<;>intro _<;>first|omega|conv=>whnf))
   ·have h10:XU (XU (XU (m2+gX l[j].args[a].x)+(1+l[j].args[a].name.length:Nat))+(q8g (l[j].args.drop (a+1))+(gL l[j].thn+gL l[j].els+gL (l.drop (j+1))):Nat))=XU (n+gL l):=by
     rw [XS (by omega),Int.add_assoc,XS (by omega),<- h8];congr 1;omega
    exact ⟨(a+1,XU (XU (m2+gX l[j].args[a].x)+(1+l[j].args[a].name.length:Nat))),⟨by simp only;omega,XT (by omega),h10⟩,by simp only;omega,Le.of_eq rfl⟩
   ·obtain ⟨f1,f2⟩:=fin (full (by omega));exact ⟨(j+1,XU (XU (m2+gL l[j].thn)+gL l[j].els)),⟨by simp only;omega,f1,f2⟩,by simp only;omega,Le.of_eq rfl⟩
theorem w3p : ∀ {l:List X} {y:X},y∈l->wX y<=wXs l
 | [],_,h=>by cases h
 | a::r,y,h=>by
   rw [wXs];rcases List.mem_cons.1 h with rfl|h
   ·omega
   ·have:=w3p h;omega
theorem w8x (x:X):1<=wX x:=by cases x;rw [wX];omega
theorem z9y : ∀ l:List X,l.length<=wXs l
 | []=>by simp
 | a::r=>by
   rw [wXs,List.length_cons];have:=z9y r;have:=w8x a;omega
end Go.Ab
