/- The reference's names. -/
import Derived.Test.YtiaikoimoonlmaaGreatInoB9
set_option linter.unusedSimpArgs false
set_option linter.unusedVariables false
set_option maxRecDepth 100000
set_option maxHeartbeats 16000000
namespace Go.Ab
open Go.Proofs.Tryz
open Go.Proofs
theorem HD (c:UInt8):SpecP prog 238 [.int .u8 c.toNat] (fun r=>r = .bool (KN c)):=by
 refine sB LQ func238 rfl call238 ?_;conv=>whnf
 repeat' (apply bD<;>intro _<;>first|omega|conv=>whnf)
 ·exact RetK.bool (by simp_all [KN];try omega)
 ·exact RetK.ff (by simp_all [KN];try omega)
theorem q5u (c:UInt8):SpecP prog 239 [.int .u8 c.toNat] (fun r=>r = .bool (q1n c)):=by
 refine sB MO func239 rfl call239 ?_;conv=>whnf
 repeat' (apply bD<;>intro _<;>first|omega|conv=>whnf)
 ·exact RetK.bool (by simp_all [q1n];try omega)
 ·exact RetK.ff (by simp_all [q1n];try omega)
def wordsL:List Str:=[[103,108,111,98,97,108],[112,114,111,99],[118,97,114],[114,101,102],[105,102],[101,108,115,101],[119,104,105,108,101],[98,114,101,97,107],[99,111,110,116,105,110,117,101],[114,101,116,117,114,110],[103,111,116,111],[114,101,97,100],[112,114,105,110,116]]
theorem q5v:SpecP prog 307 [] (fun r=>r=eStrs wordsL):=by
 refine sB MI func307 rfl call307 ?_;conv=>whnf
 repeat' ((first|refine u3d rfl ?_|refine aD ?_|refine BsK.pureL rfl rfl ?_);conv=>whnf)
 exact RetK.p rfl
theorem w1v (s:Str):q8g s=wordsL.any fun w=>w==s:=by
 rw [u6a];unfold q8g wordsL;simp only [u8y,u4b,List.any_cons,List.any_nil,Bool.or_false,u6m,or_assoc,@eq_comm _ s]
theorem q7g (s:Str):SpecP prog 240 [.str s] (fun r=>r = .bool (q8g s)):=by
 refine sB q0l func240 rfl call240 ?_;conv=>whnf
 rw [w1v];repeat' ((first|(refine iM fun _=>?_)|refine cP q5v ?_);conv=>whnf)
 have hlb:wordsL.length<=1000:=by decide
 generalize wordsL=l at hlb ⊢;have hl:(l.map AV.str).length=l.length:=u3k _;refine LoopK.inv QX (fun j:Nat=>⟨[(0,.p (.str s)),(5,.p (eStrs l)),(6,.p (.int .i64 (l.map AV.str).length)),(7,.p (.int .i64 j))],[]⟩) (fun j=>j<=l.length∧(l.drop j).any (fun w=>w==s)=l.any fun w=>w==s) (fun j=>l.length-j) 0 (Le.of_eq rfl) ⟨u3l _,rfl⟩ ?_;rintro j ⟨h2,h3⟩;conv=>whnf
 repeat' (first|((first|(refine iA fun _=>?_)|refine wI ?_);conv=>whnf)|(apply bD<;>intro _<;>first|omega|conv=>whnf)|(apply bB<;>intro _<;>conv=>whnf))
 ·exact RetK.tt (by rw [<- h3,q1u (p:=fun w=>w==s) (by omega) (by assumption)])
 ·exact ⟨j+1,⟨by omega,by rw [<- h3,q0u (p:=fun w=>w==s) (by omega) (by assumption)]⟩,by omega,Le.of_eq rfl⟩
 ·exact RetK.ff (by rw [<- h3,HI (by omega)])
theorem z5b {s:Str} {i:Nat} (h:s.length<=i):GK s i=i:=q3o fun hi=>by omega
theorem ZX (s:Str):SpecP prog 171 [.str s] (fun r=>r = .bool (isName s)):=by
 refine sB q0m func171 rfl call171 ?_;conv=>whnf
 by_cases hs:s=[]
 ·subst hs;have e:isName []=false:=by unfold isName;rw [dif_neg (by simp)]
  rw [e];repeat' (first|(refine iM fun _=>?_;conv=>whnf)|(apply bD<;>intro _<;>first|omega|conv=>whnf)|(apply bB<;>intro _<;>conv=>whnf))
  all_goals first
   | exact RetK.ff rfl
   | (exfalso;simp_all;done)
 have hlen:0<s.length:=u9l.2 hs;have hsb:(s==(⟨#[]⟩:ByteArray).data.toList)=false:=by simpa using hs
 repeat' (first|((first|(refine iM fun _=>?_)|refine cP (HD _) ?_|(refine ByteK.at (by omega) ?_));conv=>whnf)|(apply bD<;>intro _<;>first|omega|conv=>whnf)|(apply bN<;>intro _<;>conv=>whnf)|(apply bB<;>intro _<;>conv=>whnf))
 ·exfalso;rename_i h;rw [hsb] at h;cases h
 ·exact RetK.ff (by unfold isName;rw [dif_neg (by omega)])
 rotate_left 1
 ·exact RetK.ff (by unfold isName;rw [dif_pos (by omega)];simp_all)
 have hl0:KN s[0]=true:=by assumption
 have hle:s.length<=8:=by omega
 have e0:GK s 0=GK s 1:=(MP hlen (by unfold w9b;rw [hl0];rfl)).symm;have en:isName s=(decide (GK s 1=s.length) && !q8g s):=by
  unfold isName;rw [dif_pos (by omega),hl0,e0];rfl
 refine LoopK.inv QX (fun j:Nat=>⟨[(0,.p (.str s)),(3,.p (.int .i64 j))],[]⟩) (fun j=>1<=j∧j<=s.length∧GK s j=GK s 1) (fun j=>s.length-j) 1 (Le.of_eq rfl) ⟨u4j _,hlen,rfl⟩ ?_;rintro j ⟨h1,h2,h3⟩;conv=>whnf
 repeat' (first|((first|(refine iM fun _=>?_)|refine cP (HD _) ?_|refine cP (q5u _) ?_|refine cP (q7g _) ?_|(refine ByteK.at (by omega) ?_)|refine wI ?_);conv=>whnf)|(apply bD<;>intro _<;>first|omega|conv=>whnf)|(apply bN<;>intro _<;>conv=>whnf))
 all_goals first
  | exact ⟨j+1,⟨by omega,by omega,by rw [MP (by omega) (by simp_all [w9b])];exact h3⟩,by omega,Le.of_eq rfl⟩
  | exact RetK.ff (by rw [en,<- h3,q3o fun _=>by simp_all [w9b]];simp;omega)
  | exact RetK.bool (by rw [en,<- h3,z5b (by omega),show j=s.length by omega];simp)
theorem YL (l:List Str):SpecP prog 170 [eStrs l] (fun r=>r = .bool (namesB l)):=by
 refine sB LJ func170 rfl call170 ?_;conv=>whnf
 refine iM fun _=>?_;conv=>whnf
 refine LoopK.inv QX (fun j:Nat=>⟨[(5,.p (eStrs l)),(6,.p (.int .i64 (l.map AV.str).length)),(7,.p (.int .i64 j))],[]⟩) (fun j=>j<=l.length∧(l.drop j).all isName=namesB l) (fun j=>l.length-j) 0 (Le.of_eq rfl) ⟨u3l _,rfl⟩ ?_;rintro j ⟨h2,h3⟩;have hl:(l.map AV.str).length=l.length:=u3k _;conv=>whnf
 repeat' (first|((first|refine cP (ZX _) ?_|(refine iA fun _=>?_)|refine wI ?_);conv=>whnf)|(apply bD<;>intro _<;>first|omega|conv=>whnf)|(apply bN<;>intro _<;>conv=>whnf))
 ·exact ⟨j+1,⟨by omega,by rw [HE (by omega) (by assumption)];exact h3⟩,by omega,Le.of_eq rfl⟩
 ·exact RetK.ff (by rw [<- h3,q3y (by omega) (by assumption)])
 ·exact RetK.tt (by rw [<- h3,HA (by omega)])
theorem q5j (op:Int):SpecP prog 278 [.int .i64 op] (fun r=>r = .int .i64 (q9v op)):=by
 refine sB LU func278 rfl call278 ?_;conv=>whnf
 repeat' (apply bD<;>intro _<;>first|omega|conv=>whnf)
 all_goals exact RetK.int (by unfold q9v;(repeat' split)<;>omega)
theorem DH (x:X):SpecP prog 241 [.agg x.cells] (fun r=>r = .bool (noneB x)):=by
 refine sB q0i func241 rfl call241 ?_;conv=>whnf
 repeat' (first|(refine iM fun _=>?_;conv=>whnf)|(apply bD<;>intro _<;>first|omega|conv=>whnf)|(apply bB<;>intro _<;>conv=>whnf))
 all_goals have hk:((X.avs x.kids).length:Int)=x.kids.length:=by rw [X.avs_len]
 all_goals first
  | exact RetK.ff (by simp_all [noneB];done)
  | exact RetK.bool (by simp_all [noneB];done)
def DQ (x:X):Bool:=decide (q9v x.op=(x.kids.length:Int))&&(decide (x.op=1)||decide (x.n=0))&&decide (0<=x.n)&&(decide (x.op=2) == !(x.name==[]))&&((x.name==[])||isName x.name)
def LC:Nat->X->Bool
 | 0,_=>true
 | k+1,x=>DQ x&&x.kids.all (LC k)
theorem z6c : ∀ (l:List X) (y:X),y∈l->wX y<=wXs l
 | [],y,h=>by cases h
 | a::r,y,h=>by
   rw [wXs];rcases u3c.1 h with rfl|h
   ·omega
   ·have:=z6c r y h;omega
theorem DK : ∀ (k:Nat) (x:X) (_:wX x<k),SpecP prog 224 [.agg x.cells] (fun r=>r = .bool (LC k x)):=by
 intro k;induction k with
 | zero=>intro x h;omega
 | succ k ih =>
   intro x hx;have hxe:wX x=1+wXs x.kids:=by cases x;rw [wX];rfl
   have hk:((X.avs x.kids).length:Int)=x.kids.length:=by rw [X.avs_len]
   refine sB q0a func224 rfl call224 ?_;conv=>whnf
   repeat' (first|((first|(refine iM fun _=>?_)|refine cP (q5j _) ?_|refine cP (ZX _) ?_|refine dA ?_|refine HZ QX rfl rfl rfl rfl rfl ?_);conv=>whnf)|(apply bD<;>intro _<;>first|omega|conv=>whnf)|(apply bE<;>intro _<;>first|omega|conv=>whnf)|(apply bN<;>intro _<;>conv=>whnf))
   all_goals simp only [show (ByteArray.mk #[]).data.toList=[] from rfl] at *
   all_goals first
    | (refine RetK.ff ?_
       rw [LC,u7m];left;unfold DQ;rw [show decide (0<=x.n)=false from u5h (by omega)];simp
       done)
    | (refine RetK.ff ?_
       rw [LC,u7m];left;rename_i h;have hq:(decide (x.op=2) == !(x.name==[]))=false:=by
        have e:decide (x.op=2)=(x.op==2):=rfl;rw [e]
        revert h
        cases (x.op==2)<;>cases (x.name==[])<;>decide
       unfold DQ;rw [hq];simp
       done)
    | (refine RetK.ff ?_
       rw [LC,u7m];left;simp_all [DQ]
       done)
    | (refine RetK.ff ?_
       rw [LC,u7m];left;simp_all [DQ];omega)
    | (have h0:DQ x=true:=by first
        | (simp_all [DQ];done)
        | (simp_all [DQ];omega)
       rw [show LC (k+1) x=x.kids.all (LC k) by rw [LC,h0];rfl])
   all_goals
    clear h0;refine LoopK.inv QX (fun j:Nat=>⟨[(1,.p (.ip x.cells)),(48,.p (.int .i64 (X.avs x.kids).length)),(49,.p (.int .i64 j))],[]⟩) (fun j=>j<=x.kids.length∧(x.kids.drop j).all (LC k)=x.kids.all (LC k)) (fun j=>x.kids.length-j) 0 (Le.of_eq rfl) ⟨u3l _,rfl⟩ ?_;rintro j ⟨h2,h3⟩;rcases u3r j x.kids.length with hj|hj
    ·have hw:=z6c x.kids _ (u3i hj);conv=>whnf
     repeat' (first|((first|refine IdxK.xs (by omega) ?_|refine wI ?_|(refine CallK.pure (ih (x.kids[j]'hj) (by omega)) (.cons (Sub.refl _) .nil) ?_;rintro _ rfl));conv=>whnf)|(apply bD<;>intro _<;>first|omega|conv=>whnf)|(apply bN<;>intro _<;>conv=>whnf))
     ·exact ⟨j+1,⟨by omega,by rw [HE (by omega) (by assumption)];exact h3⟩,by omega,Le.of_eq rfl⟩
     ·exact RetK.ff (by rw [<- h3,q3y (by omega) (by assumption)])
    ·conv=>whnf
     repeat' (apply bD<;>intro _<;>first|omega|conv=>whnf)
     exact RetK.tt (by rw [<- h3,HA (by omega)])
def w1h:List Nat->Nat
 | []=>0
 | a::r=>max a (w1h r)
def FR:Nat->X->Nat
 | 0,_=>1
 | m+1,x=>1+w1h (x.kids.map (FR m))
theorem z5l {l:List Nat} {m:Nat} (h : ∀ a∈l,a<=m):w1h l<=m:=by
 induction l with
 | nil=>exact u3l _
 | cons a r ih =>
   have:=ih fun b hb=>h b (u3n _ hb);have:=h a u3g;rw [w1h];omega
theorem x7t : ∀ (m:Nat) (x:X),FR m x<=m+1
 | 0,_=>u4j _
 | m+1,x=>by
   rw [FR];have:w1h (x.kids.map (FR m))<=m+1:=z5l fun a ha=>by
    obtain ⟨y,_,rfl⟩:=u3s.1 ha;exact x7t m y
   omega
theorem DJ : ∀ (m:Nat) (_:m<=1000) (x:X),SpecP prog 223 [.agg x.cells,.int .i64 m] (fun r=>r = .int .i64 (FR m x)):=by
 intro m;induction m with
 | zero =>
   intro _ x;refine sB GQ func223 rfl call223 ?_;conv=>whnf
   repeat' (apply bD<;>intro _<;>first|omega|conv=>whnf)
   exact RetK.int rfl
 | succ m ih =>
   intro hm x;have hk:((X.avs x.kids).length:Int)=x.kids.length:=by rw [X.avs_len]
   refine sB GQ func223 rfl call223 ?_;conv=>whnf
   repeat' (apply bD<;>intro _<;>first|omega|conv=>whnf)
   have hmx:w1h (x.kids.map (FR m))<=m+1:=z5l fun a ha=>by
    obtain ⟨y,_,rfl⟩:=u3s.1 ha;exact x7t m y
   refine LoopK.inv QX (fun y:Nat×Nat=>⟨[(1,.p (.int .i64 (m+1:Nat))),(2,.p (.ip x.cells)),(5,.p (.int .i64 y.2)),(6,.p (.int .i64 y.1))],[]⟩) (fun y=>y.1<=x.kids.length∧y.2<=m+1∧max y.2 (w1h ((x.kids.drop y.1).map (FR m)))=w1h (x.kids.map (FR m))) (fun y=>x.kids.length-y.1) (0,0) (Le.of_eq rfl) ⟨u3l _,u3l _,by simp⟩ ?_;rintro ⟨j,d⟩ ⟨h2,h3,h4⟩;simp only at h2 h3 h4 ⊢;rcases u3r j x.kids.length with hj|hj
   ·rw [u4n hj,u4m,w1h] at h4;have hd:=x7t m x.kids[j];conv=>whnf
    repeat' (first|((first|(refine iM fun _=>?_)|refine IdxK.xs (by omega) ?_|refine wI ?_|(refine CallK.pure (ih (by omega) (x.kids[j]'hj)) (.cons (Sub.refl _) (.cons (Sub.int (by omega)) .nil)) ?_;rintro _ rfl));conv=>whnf)|(apply bD<;>intro _<;>first|omega|conv=>whnf))
    all_goals first
     | exact ⟨(j+1,FR m x.kids[j]),⟨by simp only;omega,by simp only;omega,by simp only;omega⟩,by simp only;omega,Le.of_eq rfl⟩
     | exact ⟨(j+1,d),⟨by simp only;omega,by simp only;omega,by simp only;omega⟩,by simp only;omega,Le.of_eq rfl⟩
     | exact RetK.int (by rw [FR];omega)
   ·rw [u4z hj,u8k,w1h] at h4;conv=>whnf
    repeat' (first|((first|(refine iM fun _=>?_)|refine wI ?_);conv=>whnf)|(apply bD<;>intro _<;>first|omega|conv=>whnf))
    exact RetK.int (by rw [FR];omega)
def mayXR (x:X):Bool:=decide (FR 20 x<=20)&&LC (wX x+1) x
theorem KG (x:X):SpecP prog 144 [.agg x.cells] (fun r=>r = .bool (mayXR x)):=by
 refine sB YA func144 rfl call144 ?_;conv=>whnf
 repeat' (first|((first|(refine CallK.pure (DJ 20 (by omega) x) (.cons (Sub.refl _) (.cons (Sub.refl _) .nil)) ?_;rintro _ rfl)|(refine CallK.pure (DK (wX x+1) x (by omega)) (.cons (Sub.refl _) .nil) ?_;rintro _ rfl));conv=>whnf)|(apply bD<;>intro _<;>first|omega|conv=>whnf))
 all_goals first
  | exact RetK.bool (by unfold mayXR;rw [u5z (by omega)];rfl)
  | exact RetK.ff (by unfold mayXR;rw [u5h (by omega)];rfl)
theorem q6x : ∀ (n:Nat) (x:X),VO n x=true->FR n x<=n ∧ ∀ k,LC k x=true
 | 0,x,h=>by rw [VO] at h;cases h
 | n+1,x,h=>by
   rw [VO] at h;simp only [u4u,u4b] at h;obtain ⟨h1,h2⟩:=h;have hkids:(∀ y∈x.kids,VO n y=true)∧DQ x=true:=by
    split at h2
    ·rename_i ho;simp only [u4u,u4b] at h2;have hk0:x.kids=[]:=by
      rw [ho] at h1;have:q9v 1=0:=by decide
      rw [this] at h1;exact List.length_eq_zero_iff.1 (by omega)
     refine ⟨by rw [hk0];simp,?_⟩;unfold DQ;rw [h1,ho,h2.2];simp [h2.1]
    split at h2
    ·rename_i ho;simp only [u4u,u4b] at h2;have hk0:x.kids=[]:=by
      rw [ho] at h1;have:q9v 2=0:=by decide
      rw [this] at h1;exact List.length_eq_zero_iff.1 (by omega)
     have hne:(x.name==[])=false:=by
      cases hq:x.name with
      | nil =>
        have:=h2.2;rw [hq] at this;unfold isName at this;rw [dif_neg (by simp)] at this;cases this
      | cons a r=>rfl
     refine ⟨by rw [hk0];simp,?_⟩;unfold DQ;rw [h1,ho,h2.2,hne,h2.1];simp
    ·rename_i ho1 ho2;simp only [u4u,u4b,u5t] at h2;refine ⟨h2.2,?_⟩;unfold DQ;rw [h1,h2.1.1,h2.1.2];simp [ho1,ho2]
   refine ⟨?_,fun k => ?_⟩
   ·rw [FR];have:w1h (x.kids.map (FR n))<=n:=z5l fun a ha=>by
     obtain ⟨y,hy,rfl⟩:=u3s.1 ha;exact (q6x n y (hkids.1 y hy)).1
    omega
   ·cases k with
    | zero=>rfl
    | succ k =>
      rw [LC,hkids.2,u7e,u5t];exact fun y hy=>(q6x n y (hkids.1 y hy)).2 k
theorem w5f {x:X} (h:w1f x=true):mayXR x=true:=by
 obtain ⟨h1,h2⟩:=q6x 20 x h;unfold mayXR;rw [u5z h1,h2];rfl
def argR (a:Arg):Bool:=bif a.ref then isName a.name&&noneB a.x else (a.name==[])&&mayXR a.x
theorem q9h (a:Arg):SpecP prog 242 [.agg a.cells] (fun r=>r = .bool (argR a)):=by
 refine sB q2e func242 rfl call242 ?_;conv=>whnf
 repeat' (first|((first|refine cP (ZX _) ?_|refine cP (DH _) ?_|refine cP (KG _) ?_);conv=>whnf)|(apply bB<;>intro _<;>conv=>whnf))
 all_goals simp only [show (ByteArray.mk #[]).data.toList=[] from rfl] at *
 all_goals first
  | exact RetK.bool (by simp_all [argR])
  | exact RetK.ff (by simp_all [argR])
theorem v3r {a:Arg} (h:q3m a=true):argR a=true:=by
 unfold q3m KV PW at h;unfold argR;cases hr:a.ref with
 | true =>
   rw [hr] at h;simpa using h
 | false =>
   rw [hr] at h;simp only [u4h,Bool.not_false,u4y,u4u] at h;rw [h.1,w5f h.2];rfl
def oneOk (s:S):Bool:=VS s&&namesB s.labels
def hasXB (s:S):Bool:=decide (s.kind=1)||decide (s.kind=3)||decide (s.kind=5)||decide (s.kind=6)||(decide (s.kind=9)&&s.has)
structure OneF (s:S):Prop where
 labels:namesB s.labels=true
 lo:1<=s.kind
 hi:s.kind<=10
 x:hasXB s=true->mayXR s.x=true
 nox:hasXB s=false->noneB s.x=true
 has:s.has=true->s.kind=9
 name:s.kind=1∨s.kind=2∨s.kind=10->isName s.name=true
 noname : ¬(s.kind=1∨s.kind=2∨s.kind=10)->(s.name==[])=true∨(s.kind=4∧isName s.name=true)
 proc:s.kind=4->isName s.proc=true
 noproc:s.kind≠4->(s.proc==[])=true
 args:s.args.all argR=true
 noargs:s.kind≠4->s.args.length=0
 thn:s.thn.length=0∨s.kind=5∨s.kind=6
 els:s.els.length=0∨s.kind=5
theorem q6b {s:Str} (h:isName s=true):(s==[])=false:=by
 cases s with
 | nil=>unfold isName at h;rw [dif_neg (by simp)] at h;cases h
 | cons a r=>rfl
theorem JN {s:S} (h:oneOk s=true):OneF s:=by
 unfold oneOk at h;rw [u4u] at h;obtain ⟨h,hlab⟩:=h;have hargs:s.args.all q3m=true->s.args.all argR=true:=fun h=>by
  rw [u5t] at h ⊢;exact fun a ha=>v3r (h a ha)
 have key : ∀ (k:Int) (f:Flds),s.kind=k->q3n s.kind s.has (s.name==[])=some f->f.has=false∧(f.thn=false->s.thn.length=0)∧(f.els=false->s.els.length=0)∧(s.kind≠4->s.args.length=0)∧KV s.name f.name=true∧KV s.proc f.proc=true∧PW s.x f.x=true∧s.args.all argR=true:=fun k f hk hf=>by
  rw [x4e hf] at h;simp only [u4u,u7x,u8t,u7m,Bool.not_eq_false',u5a,u4b] at h;obtain ⟨⟨⟨⟨⟨⟨⟨h1,h2⟩,h3⟩,h4⟩,h5⟩,h6⟩,h7⟩,h8⟩:=h;refine ⟨h1,fun hq => ?_,fun hq => ?_,fun hq => ?_,h5,h6,h7,hargs h8⟩
  ·rcases h2 with h2|h2
   ·rw [hq] at h2;cases h2
   ·omega
  ·rcases h3 with h3|h3
   ·rw [hq] at h3;cases h3
   ·omega
  ·rcases h4 with h4|h4
   ·exact absurd h4 hq
   ·omega
 have hkind:s.kind=1∨s.kind=2∨s.kind=3∨s.kind=4∨s.kind=5∨s.kind=6∨s.kind=7∨s.kind=8∨s.kind=9∨s.kind=10:=by
  unfold VS at h;split at h
  ·cases h
  ·rename_i f hf;unfold q3n at hf
   (repeat' split at hf)<;>first|(cases hf;done)|omega
 have fin : ∀ (k:Int) (f:Flds),s.kind=k->q3n s.kind s.has (s.name==[])=some f->(1<=k∧k<=10)->f.x=hasXB s->(s.has=true->f.has=true∨k=9)->((k=1∨k=2∨k=10)->f.name=true)->(¬(k=1∨k=2∨k=10)->f.name=false∨(k=4∧f.name = !(s.name==[])))->f.proc=decide (k=4)->(f.thn=true->k=5∨k=6)->(f.els=true->k=5)->OneF s:=fun k f hk hf hkk hfx hfh hfn hfnn hfp hft hfe=>by
  obtain ⟨h1,h2,h3,h4,h5,h6,h7,h8⟩:=key k f hk hf;unfold PW at h7;refine ⟨hlab,by omega,by omega,fun hq => ?_,fun hq => ?_,fun hq => ?_,fun hq => ?_,fun hq => ?_,fun hq => ?_,fun hq => ?_,h8,h4,?_,?_⟩
  ·rw [hfx,hq] at h7;exact w5f h7
  ·rw [hfx,hq] at h7;exact h7
  ·rcases hfh hq with h9|h9
   ·rw [h1] at h9;cases h9
   ·omega
  ·rw [hfn (by omega)] at h5;exact h5
  ·rcases hfnn (by omega) with h9|⟨h9,h10⟩
   ·rw [h9] at h5;exact .inl h5
   ·cases hq2:s.name==[] with
    | true=>exact .inl rfl
    | false =>
      rw [h10,hq2] at h5;exact .inr ⟨by omega,h5⟩
  ·rw [hfp,u5z (by omega)] at h6;exact h6
  ·rw [hfp,u5h (by omega)] at h6;exact h6
  ·cases ht:f.thn with
   | true=>exact .inr (by have:=hft ht;omega)
   | false=>exact .inl (h2 ht)
  ·cases he:f.els with
   | true=>exact .inr (by have:=hfe he;omega)
   | false=>exact .inl (h3 he)
 rcases hkind with hk|hk|hk|hk|hk|hk|hk|hk|hk|hk
 ·exact fin 1 ⟨true,false,true,s.has,false,false⟩ hk (by rw [hk];rfl) (by omega) (by unfold hasXB;rw [hk];rfl) (fun h => .inl h) (fun _=>rfl) (fun h=>absurd (by omega) h) rfl (fun h=>by cases h) (fun h=>by cases h)
 ·exact fin 2 ⟨true,false,false,s.has,false,false⟩ hk (by rw [hk];rfl) (by omega) (by unfold hasXB;rw [hk];rfl) (fun h => .inl h) (fun _=>rfl) (fun h=>absurd (by omega) h) rfl (fun h=>by cases h) (fun h=>by cases h)
 ·exact fin 3 ⟨false,false,true,s.has,false,false⟩ hk (by rw [hk];rfl) (by omega) (by unfold hasXB;rw [hk];rfl) (fun h => .inl h) (fun h=>by omega) (fun _ => .inl rfl) rfl (fun h=>by cases h) (fun h=>by cases h)
 ·exact fin 4 ⟨!(s.name==[]),true,false,s.has,false,false⟩ hk (by rw [hk];rfl) (by omega) (by unfold hasXB;rw [hk];rfl) (fun h => .inl h) (fun h=>by omega) (fun _ => .inr ⟨rfl,rfl⟩) rfl (fun h=>by cases h) (fun h=>by cases h)
 ·exact fin 5 ⟨false,false,true,s.has,true,true⟩ hk (by rw [hk];rfl) (by omega) (by unfold hasXB;rw [hk];rfl) (fun h => .inl h) (fun h=>by omega) (fun _ => .inl rfl) rfl (fun _ => .inl rfl) (fun _=>rfl)
 ·exact fin 6 ⟨false,false,true,s.has,true,false⟩ hk (by rw [hk];rfl) (by omega) (by unfold hasXB;rw [hk];rfl) (fun h => .inl h) (fun h=>by omega) (fun _ => .inl rfl) rfl (fun _ => .inr rfl) (fun h=>by cases h)
 ·exact fin 7 ⟨false,false,false,s.has,false,false⟩ hk (by rw [hk];rfl) (by omega) (by unfold hasXB;rw [hk];rfl) (fun h => .inl h) (fun h=>by omega) (fun _ => .inl rfl) rfl (fun h=>by cases h) (fun h=>by cases h)
 ·exact fin 8 ⟨false,false,false,s.has,false,false⟩ hk (by rw [hk];rfl) (by omega) (by unfold hasXB;rw [hk];rfl) (fun h => .inl h) (fun h=>by omega) (fun _ => .inl rfl) rfl (fun h=>by cases h) (fun h=>by cases h)
 ·exact fin 9 ⟨false,false,s.has,false,false,false⟩ hk (by rw [hk];rfl) (by omega) (by unfold hasXB;rw [hk];cases s.has<;>rfl) (fun _ => .inr rfl) (fun h=>by omega) (fun _ => .inl rfl) rfl (fun h=>by cases h) (fun h=>by cases h)
 ·exact fin 10 ⟨true,false,false,s.has,false,false⟩ hk (by rw [hk];rfl) (by omega) (by unfold hasXB;rw [hk];rfl) (fun h => .inl h) (fun _=>rfl) (fun h=>absurd (by omega) h) rfl (fun h=>by cases h) (fun h=>by cases h)
def KT (n c:Nat):List Int:=(List.range' (n+1) c).map fun (k:Nat)=>(k:Int)
theorem BX (n a b:Nat):KT n (a+b)=KT n a++KT (n+a) b:=by
 unfold KT;rw [<- u3t,show n+a+1=n+1+1*a by omega,List.range'_append]
theorem w9h (n:Nat):KT n 1=[((n+1:Nat):Int)]:=by simp [KT]
mutual
theorem v0t (nest:Int) : ∀ (t:S) {n:Nat} {m:Int},x0y nest n t=some m->(flS t).map S.id=KT n (ZA t)
 | .mk id kind labels name proc x has args thn els,n,m,h=>by
   simp only [x0y] at h;split at h
   ·cases h
   split at h
   ·cases h
   rename_i hid;cases hn:namesB labels<;>rw [hn] at h
   ·cases h
   cases hf:VS (.mk id kind labels name proc x has args thn els)<;>rw [hf] at h
   ·cases h
   simp only [u4y] at h;split at h
   ·rename_i m1 h1;have h1':WV (nest+1) ((n+1:Nat):Int) thn=some m1:=by rw [<- h1];rfl
    have h2:=WG _ _ thn h1';have h3:=KM (nest+1) thn h1';have h':WV (nest+1) ((n+1+cntL thn:Nat):Int) els=some m:=by rw [<- h,h2];rfl
    have h4:=KM (nest+1) els h';rw [flS,ZA,u4m,u3t,h3,h4,show 1+cntL thn+cntL els=1+(cntL thn+cntL els) by omega,BX,w9h,BX];have:id=((n+1:Nat):Int):=by omega
    rw [show (S.mk id kind labels name proc x has args thn els).id=id from rfl,this];rfl
   ·cases h
theorem KM (nest:Int) : ∀ (l:List S) {n:Nat} {m:Int},WV nest n l=some m->(flL l).map S.id=KT n (cntL l)
 | [],n,m,h=>by rw [flL,cntL];rfl
 | t::r,n,m,h=>by
   simp only [WV] at h;split at h
   ·cases h
   split at h
   ·rename_i m1 h1;have h2:=KL _ _ t h1;have h3:=v0t nest t h1;have h':WV nest ((n+ZA t:Nat):Int) r=some m:=by rw [<- h,h2];rfl
    have h4:=KM nest r h';rw [flL,cntL,u3t,h3,h4,BX]
   ·cases h
end
theorem x5c : ∀ (l:List Pr) {n:Nat} {m:Int},ZY n l=some m -> ∀ (j:Nat) (f:Pr),l[j]? = some f->(flL f.body).map S.id=KT (n+QN l j) (cntL f.body)
 | [],_,_,_,j,f,hj=>by simp at hj
 | g::r,n,m,h,j,f,hj=>by
   rw [ZY] at h;cases hm:FX g<;>rw [hm] at h
   ·cases h
   simp only [u4y] at h;split at h
   ·rename_i m1 h1;cases j with
    | zero =>
      simp at hj;subst hj;exact KM 1 g.body h1
    | succ j =>
      have h2:=WG _ _ g.body h1;have h':ZY ((n+cntL g.body:Nat):Int) r=some m:=by rw [<- h,h2];rfl
      have:=x5c r h' j f (by simpa using hj);rw [QN,this,u6g]
   ·cases h
theorem x8f {p:Pg} (h:UB p=true) {j:Nat} {f:Pr} (hj:p.procs[j]? = some f):(flL f.body).map S.id=KT (QN p.procs j) (cntL f.body):=by
 unfold UB at h;simp only [u4u] at h;cases hm:ZY 0 p.procs with
 | none=>rw [hm] at h;cases h.2
 | some m =>
   have:=x5c p.procs (n:=0) hm j f hj;simpa using this
theorem q9s {n c:Nat} {a:Int} (h:a∈KT n c):(n:Int)+1<=a∧a<=n+c:=by
 unfold KT at h;obtain ⟨k,hk,rfl⟩:=u3s.1 h;rw [List.mem_range'] at hk;obtain ⟨i,hi,rfl⟩:=hk;omega
def okI (lo hi:Nat) (x:Int):Prop:=x = -1∨((lo:Int)+1<=x∧x<=hi)
mutual
theorem v4u (proc:Int) (lo hi:Nat) : ∀ (t:S) (up nx loop:Int) (n:Nat) (it:Item),it∈itS proc up nx loop n t->okI lo hi nx->(loop=0∨((lo:Int)+1<=loop∧loop<=hi))->lo<=n->n+ZA t<=hi ->
  okI lo hi it.next∧(it.loop=0∨((lo:Int)+1<=it.loop∧it.loop<=hi))
 | .mk id kind labels name pr x has args thn els,up,nx,loop,n,it,h,h1,h2,h3,h4=>by
   rw [itS] at h;rw [ZA] at h4;rcases u3c.1 h with rfl|h
   ·exact ⟨h1,h2⟩
   ·have h5:okI lo hi (if kind=6 then ((n:Int)+1) else nx):=by
     split
     ·exact .inr ⟨by omega,by omega⟩
     ·exact h1
    have h6:(if kind=6 then ((n:Int)+1) else loop)=0∨((lo:Int)+1<=(if kind=6 then ((n:Int)+1) else loop)∧(if kind=6 then ((n:Int)+1) else loop)<=hi):=by
     split
     ·exact .inr ⟨by omega,by omega⟩
     ·exact h2
    rcases u3p.1 h with h|h
    ·exact x8u proc lo hi thn _ _ _ _ it h h5 h6 (by omega) (by omega)
    ·exact x8u proc lo hi els _ _ _ _ it h h5 h6 (by omega) (by omega)
theorem x8u (proc:Int) (lo hi:Nat) : ∀ (l:List S) (up nx loop:Int) (n:Nat) (it:Item),it∈itL proc up nx loop n l->okI lo hi nx->(loop=0∨((lo:Int)+1<=loop∧loop<=hi))->lo<=n->n+cntL l<=hi ->
  okI lo hi it.next∧(it.loop=0∨((lo:Int)+1<=it.loop∧it.loop<=hi))
 | [],up,nx,loop,n,it,h,h1,h2,h3,h4=>by rw [itL] at h;cases h
 | t::r,up,nx,loop,n,it,h,h1,h2,h3,h4=>by
   rw [itL] at h;rw [cntL] at h4;rcases u3p.1 h with h|h
   ·refine v4u proc lo hi t _ _ _ _ it h ?_ h2 h3 (by omega);cases r with
    | nil=>exact h1
    | cons u r =>
      have:1<=cntL (u::r):=by rw [cntL,WK];omega
      exact .inr ⟨by simp;omega,by simp;omega⟩
   ·exact x8u proc lo hi r _ _ _ _ it h h1 h2 (by omega) (by omega)
end
theorem q3d : ∀ (l:List S) (v:S),v∈l->v∈flL l
 | [],v,h=>by cases h
 | t::r,v,h=>by
   rw [flL];rcases u3c.1 h with rfl|h
   ·refine u3p.2 (.inl ?_);rw [z7n];exact u3g
   ·exact u3p.2 (.inr (q3d r v h))
structure RI where
 s:S
 deep:Int
 inn:Int
 els:Bool
def RI.cells (i:RI):List AV:=i.s.cells++[.int .i64 i.deep,.int .i64 i.inn,.bool i.els]
def VM (l:List RI):AV := .sl (l.map fun i => .agg i.cells)
def flF:Nat->Int->Bool->List S->List RI->List RI
 | 0,i,e,l,out=>l.foldl (fun o s=>if o.length<=200 then o++[⟨s,13,i,e⟩] else o) out
 | m+1,i,e,l,out=>l.foldl (fun o s=>if o.length<=200 then flF m s.id true s.els (flF m s.id false s.thn (o++[⟨s,13-((m+1:Nat):Int),i,e⟩])) else o) out
theorem NK : ∀ (m:Nat) (i:Int) (e:Bool) (l:List S) (out:List RI),out.length<=(flF m i e l out).length∧(flF m i e l out).length<=max out.length 201
 | 0,i,e,[],out=>by show out.length<=out.length∧_;exact ⟨u4j _,Nat.le_max_left _ _⟩
 | m+1,i,e,[],out=>by show out.length<=out.length∧_;exact ⟨u4j _,Nat.le_max_left _ _⟩
 | 0,i,e,s::r,out=>by
   have h:=NK 0 i e r (if out.length<=200 then out++[⟨s,13,i,e⟩] else out);show out.length<=(flF 0 i e r (if out.length<=200 then out++[⟨s,13,i,e⟩] else out)).length∧(flF 0 i e r (if out.length<=200 then out++[⟨s,13,i,e⟩] else out)).length<=_;split at h
   ·rw [if_pos (by assumption)];simp only [u3f,u4l] at h;omega
   ·rw [if_neg (by assumption)];exact h
 | m+1,i,e,s::r,out=>by
   have h:=NK (m+1) i e r (if out.length<=200 then flF m s.id true s.els (flF m s.id false s.thn (out++[⟨s,13-((m+1:Nat):Int),i,e⟩])) else out);show out.length<=(flF (m+1) i e r (if out.length<=200 then flF m s.id true s.els (flF m s.id false s.thn (out++[⟨s,13-((m+1:Nat):Int),i,e⟩])) else out)).length∧(flF (m+1) i e r (if out.length<=200 then flF m s.id true s.els (flF m s.id false s.thn (out++[⟨s,13-((m+1:Nat):Int),i,e⟩])) else out)).length<=_;split at h
   ·rw [if_pos (by assumption)];have h1:=NK m s.id false s.thn (out++[⟨s,13-((m+1:Nat):Int),i,e⟩]);have h2:=NK m s.id true s.els (flF m s.id false s.thn (out++[⟨s,13-((m+1:Nat):Int),i,e⟩]));simp only [u3f,u4l] at h1;omega
   ·rw [if_neg (by assumption)];exact h
mutual
def fuS (d i:Int) (e:Bool):S->List RI
 | .mk id kind labels name proc x has args thn els=>⟨.mk id kind labels name proc x has args thn els,d,i,e⟩::(fuL (d+1) id false thn++fuL (d+1) id true els)
def fuL (d i:Int) (e:Bool):List S->List RI
 | []=>[]
 | t::r=>fuS d i e t++fuL d i e r
end
theorem x5v (d i:Int) (e:Bool) (t:S):fuS d i e t=⟨t,d,i,e⟩::(fuL (d+1) t.id false t.thn++fuL (d+1) t.id true t.els):=by
 cases t;rw [fuS];rfl
mutual
theorem v9v (d i:Int) (e:Bool) : ∀ t:S,(fuS d i e t).map RI.s=flS t
 | .mk id kind labels name proc x has args thn els=>by
   rw [fuS,flS,u4m,u3t,PH _ _ _ thn,PH _ _ _ els]
theorem PH (d i:Int) (e:Bool) : ∀ l:List S,(fuL d i e l).map RI.s=flL l
 | []=>by rw [fuL,flL];rfl
 | t::r=>by rw [fuL,flL,u3t,v9v _ _ _ t,PH _ _ _ r]
end
theorem UD (d i:Int) (e:Bool) (l:List S):(fuL d i e l).length=cntL l:=by
 rw [<- x1h,<- PH d i e l,u3k]
theorem WU {nest seen m:Int} {s:S} (h:x0y nest seen s=some m):oneOk s=true∧s.id=seen+1 ∧ ∃ m1,WV (nest+1) (seen+1) s.thn=some m1∧WV (nest+1) m1 s.els=some m:=by
 rw [w6v] at h;split at h
 ·cases h
 split at h
 ·cases h
 rename_i hid;cases hn:namesB s.labels<;>rw [hn] at h
 ·cases h
 cases hf:VS s<;>rw [hf] at h
 ·cases h
 simp only [u4y] at h;split at h
 ·rename_i m1 h1;exact ⟨by unfold oneOk;rw [hn,hf];rfl,by omega,m1,h1,h⟩
 ·cases h
theorem ZQ {nest seen m:Int} {s:S} {r:List S} (h:WV nest seen (s::r)=some m):nest<=12 ∧ ∃ m1,x0y nest seen s=some m1∧WV nest m1 r=some m:=by
 rw [WV] at h;split at h
 ·cases h
 rename_i h0;split at h
 ·rename_i m1 h1;exact ⟨by omega,m1,h1,h⟩
 ·cases h
mutual
theorem v7q (d i:Int) (e:Bool) : ∀ (t:S) {n m:Int},d<=12->x0y d n t=some m -> ∀ x∈fuS d i e t,x.deep<=12∧oneOk x.s=true
 | .mk id kind labels name proc x has args thn els,n,m,hd,h,y,hy=>by
   obtain ⟨h1,_,m1,h2,h3⟩:=WU h;rw [fuS] at hy;rcases u3c.1 hy with rfl|hy
   ·exact ⟨hd,h1⟩
   ·rcases u3p.1 hy with hy|hy
    ·exact z7a _ _ _ thn h2 y hy
    ·exact z7a _ _ _ els h3 y hy
theorem z7a (d i:Int) (e:Bool) : ∀ (l:List S) {n m:Int},WV d n l=some m -> ∀ x∈fuL d i e l,x.deep<=12∧oneOk x.s=true
 | [],n,m,h,y,hy=>by rw [fuL] at hy;cases hy
 | t::r,n,m,h,y,hy=>by
   obtain ⟨h1,m1,h2,h3⟩:=ZQ h;rw [fuL] at hy;rcases u3p.1 hy with hy|hy
   ·exact v7q _ _ _ t h1 h2 y hy
   ·exact z7a _ _ _ r h3 y hy
end
theorem v6i : ∀ (k:Nat) (l:List S) (i:Int) (e:Bool) (out:List RI) (seen m:Int),WV (13-(k:Int)) seen l=some m->out.length+cntL l<=200->flF k i e l out=out++fuL (13-(k:Int)) i e l:=by
 intro k;induction k with
 | zero =>
   intro l i e out seen m h hl;cases l with
   | nil=>rw [fuL,u4e];rfl
   | cons s r =>
     have:=(ZQ h).1;simp at this
 | succ k ih =>
   intro l;induction l with
   | nil=>intro i e out seen m h hl;rw [fuL,u4e];rfl
   | cons s r ihr =>
     intro i e out seen m h hl;obtain ⟨h1,m1,h2,h3⟩:=ZQ h;obtain ⟨_,_,m2,h4,h5⟩:=WU h2;have ed:(13:Int)-((k+1:Nat):Int)+1=13-(k:Int):=by omega
     rw [ed] at h4 h5;rw [cntL,WK] at hl;show flF (k+1) i e r (if out.length<=200 then flF k s.id true s.els (flF k s.id false s.thn (out++[⟨s,13-((k+1:Nat):Int),i,e⟩])) else out)=_;rw [if_pos (by omega),ih s.thn s.id false _ _ _ h4 (by simp;omega),ih s.els s.id true _ _ _ h5 (by simp [UD];omega),ihr i e _ _ _ h3 (by simp [UD];omega),fuL,x5v,ed];simp
def WL (f:Pr):List RI:=flF 12 0 false f.body []
def NW (l:List Pr) (out:List RI):List RI:=l.foldl (fun o f=>if o.length<=200 then o++WL f else o) out
def allR (p:Pg):List RI:=NW p.procs []
def flatU (f:Pr):List RI:=fuL 1 0 false f.body
theorem x2g : ∀ (l:List Pr) {n m:Int},ZY n l=some m -> ∀ f∈l,FX f=true ∧ ∃ a b,WV 1 a f.body=some b
 | [],_,_,_,f,hf=>by cases hf
 | g::r,n,m,h,f,hf=>by
   rw [ZY] at h;cases hm:FX g<;>rw [hm] at h
   ·cases h
   simp only [u4y] at h;split at h
   ·rename_i m1 h1;rcases u3c.1 hf with rfl|hf
    ·exact ⟨hm,_,_,h1⟩
    ·exact x2g r h f hf
   ·cases h
theorem q6m {p:Pg} (h:UB p=true):p.globals.length<=16∧p.procs.length<=16∧namesB p.globals=true ∧ ∀ f∈p.procs,FX f=true ∧ ∃ a b,WV 1 a f.body=some b:=by
 unfold UB at h;simp only [u4u,u4b] at h;obtain ⟨⟨⟨h1,h2⟩,h3⟩,h4⟩:=h;refine ⟨h1,h2,h3,?_⟩;cases hm:ZY 0 p.procs with
 | none=>rw [hm] at h4;cases h4
 | some m=>exact x2g p.procs hm
theorem DC : ∀ (l:List Pr) (f:Pr),f∈l->cntL f.body<=cntP l
 | [],f,h=>by cases h
 | g::r,f,h=>by
   rw [cntP];rcases u3c.1 h with rfl|h
   ·omega
   ·have:=DC r f h;omega
theorem VH {p:Pg} (h:UB p=true) {f:Pr} (hf:f∈p.procs):WL f=flatU f:=by
 obtain ⟨_,_,_,h4⟩:=q6m h;obtain ⟨_,a,b,h5⟩:=h4 f hf;have h6:=(ZM h).2.2;have h7:=DC _ f hf;have:=v6i 12 f.body 0 false [] a b h5 (by simp;omega);simpa [WL,flatU] using this
theorem z7u : ∀ (l:List Pr) (out:List RI),(∀ f∈l,WL f=flatU f)->out.length+cntP l<=200->NW l out=out++l.flatMap flatU
 | [],out,_,_=>by show out=_;simp
 | f::r,out,h,hl=>by
   rw [cntP] at hl;show NW r (if out.length<=200 then out++WL f else out)=_;have e:=UD 1 0 false f.body;rw [if_pos (by omega),h f u3g,z7u r _ (fun g hg=>h g (u3n _ hg)) (by simp only [flatU,u3f,e];omega)];simp
theorem q5e {p:Pg} (h:UB p=true):allR p=p.procs.flatMap flatU:=by
 have:=z7u p.procs [] (fun f hf=>VH h hf) (by have:=(ZM h).2.2;simpa using this);simpa [allR] using this
theorem w3w {p:Pg} (h:UB p=true) : ∀ x∈p.procs.flatMap flatU,x.deep<=12∧oneOk x.s=true:=by
 intro x hx;obtain ⟨f,hf,hx⟩:=u4o.1 hx;obtain ⟨_,_,_,h4⟩:=q6m h;obtain ⟨_,a,b,h5⟩:=h4 f hf;exact z7a 1 0 false f.body h5 x hx
theorem q4z : ∀ (l:List Pr) {n:Nat} {m:Int},ZY n l=some m->(l.flatMap fun f=>flL f.body).map S.id=KT n (cntP l)
 | [],n,m,_=>by rw [cntP];rfl
 | g::r,n,m,h=>by
   rw [ZY] at h;cases hm:FX g<;>rw [hm] at h
   ·cases h
   simp only [u4y] at h;split at h
   ·rename_i m1 h1;have h2:=WG _ _ g.body h1;have h':ZY ((n+cntL g.body:Nat):Int) r=some m:=by rw [<- h,h2];rfl
    have h3:=q4z r h';rw [u5b,u3t,KM 1 g.body h1,h3,cntP,BX]
   ·cases h
theorem v1m (l:List Pr):(l.flatMap flatU).map RI.s=l.flatMap fun f=>flL f.body:=by
 induction l with
 | nil=>rfl
 | cons f r ih =>
   rw [u5b,u5b,u3t,ih];congr 1;exact PH _ _ _ _
theorem q3u (l:List Pr):(l.flatMap flatU).length=cntP l:=by
 induction l with
 | nil=>rfl
 | cons f r ih=>rw [u5b,u3f,ih,cntP];congr 1;exact UD _ _ _ _
theorem w8f {p:Pg} (h:UB p=true) {k:Nat} {x:RI} (hk:(p.procs.flatMap flatU)[k]? = some x):x.s.id=(k:Int)+1:=by
 unfold UB at h;simp only [u4u,u4b] at h;cases hm:ZY 0 p.procs with
 | none=>rw [hm] at h;cases h.2
 | some m =>
   have h1:=q4z p.procs (n:=0) hm;rw [<- v1m] at h1;have h2:(((p.procs.flatMap flatU).map RI.s).map S.id)[k]? = some x.s.id:=by simp [hk]
   rw [h1] at h2;unfold KT at h2;have hlt:k<cntP p.procs:=by rw [<- q3u];exact (u3e.1 hk).1
   rw [u4q,u8j hlt] at h2;simp at h2;omega
def riH (t:Nat) (out:List RI):Heap:=[(2000,.own t 16 (out.map fun i => .agg i.cells))]
theorem v4a {t:Nat} {out:List RI} {x:RI}:riH t (out++[x])=[(2000,.own t 16 ((out.map fun i => .agg i.cells)++[.agg x.cells]))]:=by simp [riH]
theorem WA (l:List RI):(l.map fun i=>AV.agg i.cells).length=l.length:=u3k _
theorem w8c {i:Int} {e:Bool} {l:List S} {j:Nat} {o:List RI} (hj:j<l.length) (h:o.length<=200):flF 0 i e (l.drop j) o=flF 0 i e (l.drop (j+1)) (o++[⟨l[j],13,i,e⟩]):=by
 rw [QF hj];show flF 0 i e (l.drop (j+1)) (if o.length<=200 then _ else _)=_;rw [if_pos h]
theorem v3d {m:Nat} {i:Int} {e:Bool} {l:List S} {j:Nat} {o:List RI} (hj:j<l.length) (h:o.length<=200):flF (m+1) i e (l.drop j) o=flF (m+1) i e (l.drop (j+1)) (flF m l[j].id true l[j].els (flF m l[j].id false l[j].thn (o++[RI.mk l[j] (13-((m+1:Nat):Int)) i e]))):=by
 rw [QF hj];show flF (m+1) i e (l.drop (j+1)) (if o.length<=200 then _ else _)=_;rw [if_pos h]
theorem q9n : ∀ (m:Nat) {i:Int} {e:Bool} {l:List S} {o:List RI},¬o.length<=200->flF m i e l o=o
 | 0,i,e,[],o,_=>rfl
 | m+1,i,e,[],o,_=>rfl
 | 0,i,e,s::r,o,h=>by
   show flF 0 i e r (if o.length<=200 then _ else o)=o;rw [if_neg h];exact q9n 0 h
 | m+1,i,e,s::r,o,h=>by
   show flF (m+1) i e r (if o.length<=200 then _ else o)=o;rw [if_neg h];exact q9n (m+1) h
theorem w4q (m:Nat) {i:Int} {e:Bool} {o:List RI}:flF m i e [] o=o:=by cases m<;>rfl
theorem q7b : ∀ (m:Nat) (_:m<=12) (l:List S) (i:Int) (e:Bool) (out:List RI),
  SpecH prog 108 [.p (eSs l),.p (.int .i64 (13-(m:Int))),.p (.int .i64 i),.p (.bool e),.hd 2000 0 out.length] (riH 42 out)
   (fun r H=>r = .hd 2000 0 (flF m i e l out).length∧H=riH 42 (flF m i e l out)):=by
 intro m;induction m with
 | zero =>
   intro _ l i e out;have hll:=S.avs_len l;refine sH GX func108 rfl call108 ?_;conv=>whnf
   skip
   refine LoopK.inv QX (fun x:Nat×List RI=>⟨[(0,.p (eSs l)),(1,.p (.int .i64 (13-((0:Nat):Int)))),(2,.p (.int .i64 i)),(3,.p (.bool e)),(4,.hd 2000 0 x.2.length),(11,.p (.int .i64 x.1))],riH 42 x.2⟩) (fun x=>x.1<=l.length∧flF 0 i e (l.drop x.1) x.2=flF 0 i e l out) (fun x=>l.length-x.1) (0,out) (Le.of_eq rfl) ⟨u3l _,rfl⟩ ?_;rintro ⟨j,o⟩ ⟨h2,h3⟩;simp only at h2 h3 ⊢;have hol:=WA o;rcases u3r j l.length with hj|hj
   ·conv=>whnf
    repeat' (first|((first|(refine iM fun _=>?_)|refine u3d rfl ?_|refine aD ?_|refine bP ?_|refine GZ (by omega) ?_|refine wI ?_|refine u6q (by simp) rfl (by show (o.length+1)*232<=140737488355328;omega) (by show o.length+1<=9223372036854775807;omega) (fun x hx=>by rcases u3b.1 hx with rfl;exact ⟨rfl,rfl⟩) ?_);conv=>whnf)|(apply bD<;>intro _<;>first|omega|conv=>whnf))
    ·exact ⟨(j+1,o++[⟨l[j],13,i,e⟩]),⟨hj,by rw [<- h3,w8c hj (by omega)]⟩,by simp only;omega,Le.of_eq (by simp only [v4a,u3f,u4l];rfl)⟩
    ·rw [q9n 0 (by omega)] at h3;exact ⟨_,.refl _,by rw [<- h3];exact ⟨rfl,rfl⟩⟩
   ·conv=>whnf
    repeat' (first|(refine iM fun _=>?_;conv=>whnf)|(apply bD<;>intro _<;>first|omega|conv=>whnf))
    rw [u4z hj,w4q] at h3;exact ⟨_,.refl _,by rw [<- h3];exact ⟨rfl,rfl⟩⟩
 | succ m ih =>
   intro hm l i e out;have hll:=S.avs_len l;refine sH GX func108 rfl call108 ?_;conv=>whnf
   skip
   refine LoopK.inv QX (fun x:Nat×List RI=>⟨[(0,.p (eSs l)),(1,.p (.int .i64 (13-((m+1:Nat):Int)))),(2,.p (.int .i64 i)),(3,.p (.bool e)),(4,.hd 2000 0 x.2.length),(11,.p (.int .i64 x.1))],riH 42 x.2⟩) (fun x=>x.1<=l.length∧flF (m+1) i e (l.drop x.1) x.2=flF (m+1) i e l out) (fun x=>l.length-x.1) (0,out) (Le.of_eq rfl) ⟨u3l _,rfl⟩ ?_;rintro ⟨j,o⟩ ⟨h2,h3⟩;simp only at h2 h3 ⊢;have hol:=WA o;rcases u3r j l.length with hj|hj
   ·conv=>whnf
    repeat' (first|((first|(refine iM fun _=>?_)|refine dA ?_|refine u3d rfl ?_|refine aD ?_|refine bP ?_|refine GZ (by omega) ?_|refine wI ?_|refine u6q (by simp) rfl (by show (o.length+1)*232<=140737488355328;omega) (by show o.length+1<=9223372036854775807;omega) (fun x hx=>by rcases u3b.1 hx with rfl;exact ⟨rfl,rfl⟩) ?_);conv=>whnf)|(apply bD<;>intro _<;>first|omega|conv=>whnf))
    ·refine CallK.heap [(2000,2000)] 0 (u4w (u4v _) (u4w (u4p (Sub.int (by omega))) (u4w (u4v _) (u4w (u4p (Sub.ff rfl)) (u4w (u8s (by rw [u3f];rfl)) u4s))))) (by exact u4x (j:=2000) rfl rfl (CSub.of_eq (by rw [u3t];first|done|rfl)) u4c) (ih (by omega) l[j].thn l[j].id false (o++[RI.mk l[j] (13-((m+1:Nat):Int)) i e])) rfl rfl ?_;rintro l' H' ⟨rfl,rfl⟩;conv=>whnf
     repeat' ((first|refine dA ?_|refine GZ (by omega) ?_|refine wI ?_);conv=>whnf)
     refine CallK.heap [(2000,2000)] 0 (u4w (u4v _) (u4w (u4p (Sub.int (by omega))) (u4w (u4v _) (u4w (u4p (Sub.tt rfl)) (u4w (u4v _) u4s))))) (by exact u4x (j:=2000) rfl rfl (CSub.refl _) u4c) (ih (by omega) l[j].els l[j].id true (flF m l[j].id false l[j].thn (o++[RI.mk l[j] (13-((m+1:Nat):Int)) i e]))) rfl rfl ?_;rintro l' H' ⟨rfl,rfl⟩;conv=>whnf
     repeat' (refine wI ?_;conv=>whnf)
     exact ⟨(j+1,flF m l[j].id true l[j].els (flF m l[j].id false l[j].thn (o++[RI.mk l[j] (13-((m+1:Nat):Int)) i e]))),⟨hj,by rw [<- h3,v3d hj (by omega)]⟩,by simp only;omega,Le.of_eq rfl⟩
    ·rw [q9n (m+1) (by omega)] at h3;exact ⟨_,.refl _,by rw [<- h3];exact ⟨rfl,rfl⟩⟩
   ·conv=>whnf
    repeat' (first|(refine iM fun _=>?_;conv=>whnf)|(apply bD<;>intro _<;>first|omega|conv=>whnf))
    rw [u4z hj,w4q] at h3;exact ⟨_,.refl _,by rw [<- h3];exact ⟨rfl,rfl⟩⟩
theorem XU (f:Pr):SpecP prog 58 [.agg f.cells] (fun r=>r=VM (WL f)):=by
 refine sB q0c func58 rfl call58 ?_;conv=>whnf
 skip
 refine CallK.nil 5 42 16 rfl (.cons rfl (.cons rfl (.cons rfl (.cons rfl (.row .nil))))) ?_;refine CallK.heap [(2000,5)] 0 (by repeat' (first|exact u4s|refine u4w ?_ ?_|exact u4v _|exact u4p Sub.nils|exact u4p (Sub.tt rfl)|exact u4p (Sub.ff rfl)|exact u4p (Sub.int (by omega)))) (by refine u4x (j:=5) rfl rfl ?_ ?_;exact CSub.refl _;exact u4c) (q7b 12 (by omega) f.body 0 false []) rfl rfl ?_;rintro l' H' ⟨rfl,rfl⟩;conv=>whnf
 exact ⟨_,.hd rfl (by simp [WL]),rfl⟩
theorem w0b {l:List Pr} {j:Nat} {o:List RI} (hj:j<l.length) (h:o.length<=200):NW (l.drop j) o=NW (l.drop (j+1)) (o++WL l[j]):=by
 rw [QF hj];show NW (l.drop (j+1)) (if o.length<=200 then _ else _)=_;rw [if_pos h]
theorem x4b : ∀ {l:List Pr} {o:List RI},¬o.length<=200->NW l o=o
 | [],o,_=>rfl
 | f::r,o,h=>by
   show NW r (if o.length<=200 then _ else o)=o;rw [if_neg h];exact x4b h
theorem GJ (f:Pr):(WL f).length<=201:=by
 have:=(NK 12 0 false f.body []).2;simpa [WL] using this
theorem KX (p:Pg):SpecP prog 37 [.agg p.cells] (fun r=>r=VM (allR p)):=by
 refine sB q2t func37 rfl call37 ?_;conv=>whnf
 repeat' (refine iM fun _=>?_;conv=>whnf)
 have hl2:(p.procs.map fun f=>AV.agg f.cells).length=p.procs.length:=u3k _;refine LoopK.inv QX (fun x:Nat×List RI=>⟨[(3,.hd 1 0 x.2.length),(7,.p (.sl (p.procs.map fun f => .agg f.cells))),(8,.p (.int .i64 (p.procs.map fun f=>AV.agg f.cells).length)),(9,.p (.int .i64 x.1))],[(1,.own 42 16 (x.2.map fun i => .agg i.cells))]⟩) (fun x=>x.1<=p.procs.length∧x.2.length<=200∧NW (p.procs.drop x.1) x.2=allR p) (fun x=>p.procs.length-x.1) (0,[])
  (Le.mk [(1,.own 42 16 [])] (by simp [Chunk.new0];rfl) (by simp) (by simp) (.cons (.nil u3g) (.cons (.refl _) (.cons (.refl _) (.cons (.refl _) .nil)))) (.new u3g .nil)) ⟨u3l _,u3l _,rfl⟩ ?_
 rintro ⟨j,o⟩ ⟨h2,h4,h3⟩;simp only at h2 h3 h4 ⊢;have hol:=WA o;rcases u3r j p.procs.length with hj|hj
 ·have hfl:=GJ p.procs[j];have hst:=fun (h:o.length<=200)=>w0b hj h;have hF:=XU p.procs[j];generalize hL:WL p.procs[j]=L at hfl hst hF;have hfl2:=WA L;conv=>whnf
  repeat' (first|((first|(refine iM fun _=>?_)|refine u3d rfl ?_|refine aD ?_|(refine iA fun _=>?_)|refine wI ?_|refine cP hF ?_|refine u6q (by simp) rfl (by rw [hfl2];show (o.length+L.length)*232<=140737488355328;omega) (by rw [hfl2];show o.length+L.length<=9223372036854775807;omega) (fun x hx=>by obtain ⟨y,_,rfl⟩:=u3s.1 hx;exact ⟨rfl,rfl⟩) ?_);conv=>whnf)|(apply bD<;>intro _<;>first|omega|conv=>whnf))
  ·refine ⟨_,.hd rfl (by simp),?_⟩;rw [<- h3,hst h4,x4b (by simp;omega),<- u3t];rfl
  ·exact ⟨(j+1,o++L),⟨hj,by simp;omega,by rw [<- h3,hst h4]⟩,by simp only;omega,Le.of_eq (by simp only [u3f,u3t,u3k];rfl)⟩
 ·conv=>whnf
  repeat' (apply bD<;>intro _<;>first|omega|conv=>whnf)
  rw [u4z hj] at h3;refine ⟨_,.hd rfl (by simp),?_⟩;rw [<- h3];simp [VM,NW]
structure MayF (p:Pg):Prop where
 gl:p.globals.length<=16
 pl:p.procs.length<=16
 gn:namesB p.globals=true
 pr : ∀ f∈p.procs,f.params.length<=8∧f.vars.length<=16∧isName f.name=true∧namesB f.vars=true∧namesB f.fin=true∧(f.params.all fun a=>isName a.name)=true
 len:(allR p).length<=200
 its : ∀ (k:Nat) (x:RI),(allR p)[k]? = some x->x.s.id=(k:Int)+1∧x.deep<=12∧oneOk x.s=true
theorem NN {p:Pg} (h:UB p=true):MayF p:=by
 obtain ⟨h1,h2,h3,h4⟩:=q6m h;refine ⟨h1,h2,h3,fun f hf=>FE.1 (h4 f hf).1,?_,fun k x hk => ?_⟩
 ·rw [q5e h,q3u];exact (ZM h).2.2
 ·rw [q5e h] at hk;exact ⟨w8f h hk,w3w h x (u4d hk)⟩
def Pr0:Pr:=⟨[],[],[],[],[]⟩
def YC (p:Pg) (n:Str):Pr×Bool:=match p.procs.find? (fun f=>f.name==n) with
 | some f=>(f,true)
 | none=>(Pr0,false)
theorem z6b:Sub (.agg [.str [],.nils,.nils,.nils,.nils]) (.agg Pr0.cells):=Sub.agg (SubL.cons (Sub.refl _) (SubL.cons Sub.nils (SubL.cons Sub.nils (SubL.cons Sub.nils (SubL.cons Sub.nils SubL.nil)))))
theorem WI (l:List Str) (hl:l.length<=1000000):SpecP prog 89 [eStrs l] (fun r=>r=eStrs l):=by
 refine sB LK func89 rfl call89 ?_;conv=>whnf
 have hlm:(l.map AV.str).length=l.length:=u3k _;repeat' (refine aD ?_;conv=>whnf)
 refine u6q rfl rfl (by rw [hlm];show (0+l.length)*16<=140737488355328;omega) (by rw [hlm];show 0+l.length<=9223372036854775807;omega) (fun x hx=>by obtain ⟨s,_,rfl⟩:=u3s.1 hx;exact ⟨rfl,rfl⟩) ?_;conv=>whnf
 skip
 exact ⟨_,.hd rfl (by simp),rfl⟩
def q0k:List Str->Nat
 | []=>0
 | s::r=>1+s.length+q0k r
mutual
def gX:X->Nat
 | .mk _ _ name kids=>1+name.length+gXs kids
def gXs:List X->Nat
 | []=>0
 | x::r=>gX x+gXs r
end
def x3a:List Arg->Nat
 | []=>0
 | a::r=>gX a.x+(1+a.name.length)+x3a r
mutual
def gS:S->Nat
 | .mk _ _ labels name proc x _ args thn els=>gX x+q0k labels+(1+name.length)+(1+proc.length)+x3a args+gL thn+gL els
def gL:List S->Nat
 | []=>0
 | s::r=>gS s+gL r
end
def w8z:List Param->Nat
 | []=>0
 | a::r=>1+a.name.length+w8z r
def gPr (f:Pr):Nat:=1+f.name.length+q0k f.vars+q0k f.fin+w8z f.params+gL f.body
def z5j:List Pr->Nat
 | []=>0
 | f::r=>gPr f+z5j r
def gPg (p:Pg):Nat:=q0k p.globals+z5j p.procs
theorem v9u (s:S):gS s=gX s.x+q0k s.labels+(1+s.name.length)+(1+s.proc.length)+x3a s.args+gL s.thn+gL s.els:=by
 cases s;rw [gS];rfl
theorem z4w : ∀ l:List Str,w8v l<=q0k l
 | []=>u4j _
 | s::r=>by have:=z4w r;simp only [w8v,q0k];omega
mutual
theorem u1f : ∀ x:X,wX x<=gX x
 | .mk _ _ name kids=>by have:=v8w kids;rw [wX,gX];omega
theorem v8w : ∀ l:List X,wXs l<=gXs l
 | []=>by rw [wXs];omega
 | x::r=>by have:=u1f x;have:=v8w r;rw [wXs,gXs];omega
end
theorem w8x : ∀ l:List Arg,x9l l<=x3a l
 | []=>u4j _
 | a::r=>by have:=w8x r;have:=u1f a.x;simp only [x9l,x3a];omega
mutual
theorem u3j : ∀ s:S,wS s<=gS s
 | .mk _ _ labels name proc x _ args thn els=>by
   have:=u1f x;have:=z4w labels;have:=w8x args;have:=v8s thn;have:=v8s els;rw [wS,gS];omega
theorem v8s : ∀ l:List S,wL l<=gL l
 | []=>by rw [wL];omega
 | s::r=>by have:=u3j s;have:=v8s r;rw [wL,gL];omega
end
theorem v2i : ∀ l:List Param,v5e l<=w8z l
 | []=>u4j _
 | a::r=>by have:=v2i r;simp only [v5e,w8z];omega
theorem v2o : ∀ l:List Pr,v2a l<=z5j l
 | []=>u4j _
 | f::r=>by
   have:=v2o r;have:=z4w f.vars;have:=z4w f.fin;have:=v2i f.params;have:=v8s f.body;simp only [v2a,z5j,wPr,gPr];omega
theorem u1h (p:Pg):wPg p<=gPg p:=by
 have:=z4w p.globals;have:=v2o p.procs;unfold wPg gPg;omega
def XB (x:Int):Int:=if x>20000 then 20001 else x
theorem ZR {a b:Int} (hb:0<=b):XB (XB a+b)=XB (a+b):=by
 unfold XB;split<;>split<;>(try split)<;>omega
theorem ZH {a:Int} (h:0<=a):0<=XB a∧XB a<=20001:=by
 unfold XB;split<;>omega
theorem x9x {a:Int} (h:a<=20001):XB a=a:=by
 unfold XB;split<;>omega
theorem JM {a b:Int} (h:a>20000) (h1:a<=20001) (hb:0<=b):a=XB (a+b):=by
 unfold XB;split<;>omega
theorem QI (s:Str) (n:Int) (hn:0<=n∧n<=20001):SpecP prog 71 [.str s,.int .i64 n] (fun r=>r = .int .i64 (XB (n+(1+s.length:Nat)))):=by
 refine sB FF func71 rfl call71 ?_;conv=>whnf
 repeat' (first|((first|(refine iM fun _=>?_)|refine wI ?_);conv=>whnf)|(apply bD<;>intro _<;>first|omega|conv=>whnf))
 all_goals exact RetK.int (by unfold XB;(repeat' split)<;>omega)
theorem XI (l:List Str) (n:Int) (hn:0<=n∧n<=20001):SpecP prog 70 [eStrs l,.int .i64 n] (fun r=>r = .int .i64 (XB (n+q0k l))):=by
 refine sB HT func70 rfl call70 ?_;conv=>whnf
 skip
 have hl:(l.map AV.str).length=l.length:=u3k _;refine LoopK.inv QX (fun x:Nat×Int=>⟨[(0,.p (eStrs l)),(1,.p (.int .i64 x.2)),(5,.p (.int .i64 x.1))],[]⟩) (fun x=>x.1<=l.length∧(0<=x.2∧x.2<=20001)∧XB (x.2+q0k (l.drop x.1))=XB (n+q0k l)) (fun x=>l.length-x.1) (0,n) (Le.of_eq rfl) ⟨u3l _,hn,rfl⟩ ?_;rintro ⟨j,m⟩ ⟨h2,h3,h4⟩;simp only at h2 h3 h4 ⊢;rcases u3r j l.length with hj|hj
 ·rw [u4n hj,q0k] at h4;conv=>whnf
  repeat' (first|((first|(refine iM fun _=>?_)|refine cP (QI _ _ h3) ?_|(refine iA fun _=>?_)|refine wI ?_);conv=>whnf)|(apply bD<;>intro _<;>first|omega|conv=>whnf))
  ·have h5:XB (XB (m+(1+l[j].length:Nat))+q0k (l.drop (j+1)))=XB (n+q0k l):=by
    rw [ZR (by omega),<- h4];congr 1;omega
   exact ⟨(j+1,XB (m+(1+l[j].length:Nat))),⟨by simp only;omega,ZH (by omega),h5⟩,by simp only;omega,Le.of_eq rfl⟩
  ·exact RetK.int (by rw [<- h4];exact JM (by omega) h3.2 (by omega))
 ·rw [u4z hj,q0k] at h4;conv=>whnf
  repeat' (first|(refine iM fun _=>?_;conv=>whnf)|(apply bD<;>intro _<;>first|omega|conv=>whnf))
  exact RetK.int (by rw [<- h4,x9x (by omega)];simp)
theorem YO : ∀ (k:Nat) (x:X) (_:gX x<k) (n:Int) (_:0<=n∧n<=20001),SpecP prog 123 [.agg x.cells,.int .i64 n] (fun r=>r = .int .i64 (XB (n+gX x))):=by
 intro k;induction k with
 | zero=>intro x h;omega
 | succ k ih =>
   intro x hx n hn;have hxe:gX x=1+x.name.length+gXs x.kids:=by cases x;rw [gX];rfl
   have hkl:=X.avs_len x.kids;refine sB FH func123 rfl call123 ?_;conv=>whnf
   repeat' (refine cP (QI _ _ hn) ?_;conv=>whnf)
   refine LoopK.inv QX (fun y:Nat×Int=>⟨[(1,.p (.int .i64 y.2)),(2,.p (.ip x.cells)),(5,.p (.int .i64 y.1))],[]⟩) (fun y=>y.1<=x.kids.length∧(0<=y.2∧y.2<=20001)∧XB (y.2+gXs (x.kids.drop y.1))=XB (n+gX x)) (fun y=>x.kids.length-y.1) (0,XB (n+(1+x.name.length:Nat))) (Le.of_eq rfl) ⟨u3l _,ZH (by omega),by
    show XB (XB (n+(1+x.name.length:Nat))+gXs x.kids)=_;rw [ZR (by omega),hxe];congr 1;omega⟩ ?_
   rintro ⟨j,m⟩ ⟨h2,h3,h4⟩;simp only at h2 h3 h4 ⊢;rcases u3r j x.kids.length with hj|hj
   ·rw [u4n hj,gXs] at h4;have hkw:gX x.kids[j]<k:=by
     have : ∀ (l:List X) (y:X),y∈l->gX y<=gXs l:=fun l=>by
      induction l with
      | nil=>intro y h;cases h
      | cons a r ih =>
        intro y h;rw [gXs];rcases u3c.1 h with rfl|h
        ·omega
        ·have:=ih y h;omega
     have:=this x.kids _ (u3i hj);omega
    conv=>whnf
    repeat' (first|((first|(refine iM fun _=>?_)|refine IdxK.xs (by omega) ?_|refine wI ?_|refine cP (ih (x.kids[j]'hj) hkw m h3) ?_);conv=>whnf)|(apply bD<;>intro _<;>first|omega|conv=>whnf))
    ·have h5:XB (XB (m+gX x.kids[j])+gXs (x.kids.drop (j+1)))=XB (n+gX x):=by
      rw [ZR (by omega),<- h4];congr 1;omega
     exact ⟨(j+1,XB (m+gX x.kids[j])),⟨by simp only;omega,ZH (by omega),h5⟩,by simp only;omega,Le.of_eq rfl⟩
    ·exact RetK.int (by rw [<- h4];exact JM (by omega) h3.2 (by omega))
   ·rw [u4z hj,gXs] at h4;conv=>whnf
    repeat' (first|(refine iM fun _=>?_;conv=>whnf)|(apply bD<;>intro _<;>first|omega|conv=>whnf))
    exact RetK.int (by rw [<- h4,x9x (by omega)];simp)
theorem v1o : ∀ (l:List S) (y:S),y∈l->gS y<=gL l
 | [],y,h=>by cases h
 | a::r,y,h=>by
   rw [gL];rcases u3c.1 h with rfl|h
   ·omega
   ·have:=v1o r y h;omega
theorem YR : ∀ (k:Nat) (l:List S) (_:gL l<k) (n:Int) (_:0<=n∧n<=20001),SpecP prog 72 [eSs l,.int .i64 n] (fun r=>r = .int .i64 (XB (n+gL l))):=by
 intro k;induction k with
 | zero=>intro l h;omega
 | succ k ih =>
   intro l hl n hn;have hkl:=S.avs_len l;refine sB HR func72 rfl call72 ?_;conv=>whnf
   skip
   refine LoopK.inv QX (fun y:Nat×Int=>⟨[(0,.p (eSs l)),(1,.p (.int .i64 y.2)),(5,.p (.int .i64 y.1))],[]⟩) (fun y=>y.1<=l.length∧(0<=y.2∧y.2<=20001)∧XB (y.2+gL (l.drop y.1))=XB (n+gL l)) (fun y=>l.length-y.1) (0,n) (Le.of_eq rfl) ⟨u3l _,hn,rfl⟩ ?_;rintro ⟨j,m⟩ ⟨h2,h3,h4⟩;simp only at h2 h3 h4 ⊢;rcases u3r j l.length with hj|hj;rotate_left 1
   ·rw [u4z hj,gL] at h4;conv=>whnf
    repeat' (first|(refine iM fun _=>?_;conv=>whnf)|(apply bD<;>intro _<;>first|omega|conv=>whnf))
    exact RetK.int (by rw [<- h4,x9x (by omega)];simp)
   rw [u4n hj,gL] at h4;have hsw:=v1o l _ (u3i hj);have hse:=v9u l[j];have q1:=ZH (a:=m+gX l[j].x) (by omega);have q2:=ZH (a:=XB (m+gX l[j].x)+q0k l[j].labels) (by omega);have q3:=ZH (a:=XB (XB (m+gX l[j].x)+q0k l[j].labels)+(1+l[j].name.length:Nat)) (by omega);conv=>whnf
   repeat' (first|((first|(refine iM fun _=>?_)|refine dA ?_|refine u3d rfl ?_|refine GZ (by omega) ?_|(refine CallK.pure (YO (gX l[j].x+1) l[j].x (by omega) m h3) (.cons (Sub.refl _) (.cons (Sub.refl _) .nil)) ?_;rintro _ rfl)|refine cP (XI l[j].labels _ q1) ?_|refine cP (QI l[j].name _ q2) ?_|refine cP (QI l[j].proc _ q3) ?_);conv=>whnf)|(apply bD<;>intro _<;>first|omega|conv=>whnf))
   rotate_left 1
   ·exact RetK.int (by rw [<- h4];exact JM (by omega) h3.2 (by omega))
   have q4:=ZH (a:=XB (XB (XB (m+gX l[j].x)+q0k l[j].labels)+(1+l[j].name.length:Nat))+(1+l[j].proc.length:Nat)) (by omega);have h5:XB (XB (XB (XB (XB (m+gX l[j].x)+q0k l[j].labels)+(1+l[j].name.length:Nat))+(1+l[j].proc.length:Nat))+(x3a l[j].args+(gL l[j].thn+gL l[j].els+gL (l.drop (j+1))):Nat))=XB (n+gL l):=by
    rw [ZR (by omega),u9w,ZR (by omega),u9w,ZR (by omega),u9w,ZR (by omega),<- h4,hse];congr 1;omega
   generalize XB (XB (XB (XB (m+gX l[j].x)+q0k l[j].labels)+(1+l[j].name.length:Nat))+(1+l[j].proc.length:Nat))=m0 at q4 h5 ⊢;have hal:(l[j].args.map fun a=>AV.agg a.cells).length=l[j].args.length:=u3k _;refine LoopK.inv QX (fun y:Nat×Int=>⟨[(0,.p (eSs l)),(1,.p (.int .i64 y.2)),(5,.p (.int .i64 j)),(6,.p (.ip l[j].cells)),(7,.p (.int .i64 y.1))],[]⟩) (fun y=>y.1<=l[j].args.length∧(0<=y.2∧y.2<=20001)∧XB (y.2+(x3a (l[j].args.drop y.1)+(gL l[j].thn+gL l[j].els+gL (l.drop (j+1))):Nat))=XB (n+gL l)) (fun y=>l[j].args.length-y.1) (0,m0) (Le.of_eq rfl) ⟨u3l _,q4,h5⟩ ?_;rintro ⟨a,m2⟩ ⟨h6,h7,h8⟩;simp only at h6 h7 h8 ⊢;have fin:XB (m2+(gL l[j].thn+gL l[j].els+gL (l.drop (j+1)):Nat))=XB (n+gL l)->(0<=XB (XB (m2+gL l[j].thn)+gL l[j].els)∧XB (XB (m2+gL l[j].thn)+gL l[j].els)<=20001)∧XB (XB (XB (m2+gL l[j].thn)+gL l[j].els)+gL (l.drop (j+1)))=XB (n+gL l):=fun h=>by
    have:=ZH (a:=m2+gL l[j].thn) (by omega);refine ⟨ZH (by omega),?_⟩;rw [ZR (by omega),u9w,ZR (by omega),<- h];congr 1;omega
   have r1:=ZH (a:=m2+gL l[j].thn) (by omega);have full:m2>20000->XB (m2+(gL l[j].thn+gL l[j].els+gL (l.drop (j+1)):Nat))=XB (n+gL l):=fun h=>by
    rw [<- h8,<- JM h h7.2 (by omega),<- JM h h7.2 (by omega)]
   rcases u3r a l[j].args.length with ha|ha;rotate_left 1
   ·have h9:XB (m2+(gL l[j].thn+gL l[j].els+gL (l.drop (j+1)):Nat))=XB (n+gL l):=by
     rw [u4z ha,x3a,u5s] at h8;exact h8
    obtain ⟨f1,f2⟩:=fin h9;conv=>whnf
    repeat' (first|((first|(refine iM fun _=>?_)|refine dA ?_|refine wI ?_|(refine CallK.pure (ih l[j].thn (by omega) m2 h7) (.cons (Sub.refl _) (.cons (Sub.refl _) .nil)) ?_;rintro _ rfl)|(refine CallK.pure (ih l[j].els (by omega) _ r1) (.cons (Sub.refl _) (.cons (Sub.refl _) .nil)) ?_;rintro _ rfl));conv=>whnf)|(apply bD<;>intro _<;>first|omega|conv=>whnf))
    all_goals exact ⟨(j+1,XB (XB (m2+gL l[j].thn)+gL l[j].els)),⟨by simp only;omega,f1,f2⟩,by simp only;omega,Le.of_eq rfl⟩
   rw [u4n ha,x3a] at h8;have q5:=ZH (a:=m2+gX l[j].args[a].x) (by omega);conv=>whnf
   repeat' (first|((first|(refine iM fun _=>?_)|refine dA ?_|(refine iA fun _=>?_)|refine wI ?_|(refine CallK.pure (YO (gX l[j].args[a].x+1) l[j].args[a].x (by omega) m2 h7) (.cons (Sub.refl _) (.cons (Sub.refl _) .nil)) ?_;rintro _ rfl)|refine cP (QI l[j].args[a].name _ q5) ?_|(refine CallK.pure (ih l[j].thn (by omega) m2 h7) (.cons (Sub.refl _) (.cons (Sub.refl _) .nil)) ?_;rintro _ rfl)|(refine CallK.pure (ih l[j].els (by omega) _ r1) (.cons (Sub.refl _) (.cons (Sub.refl _) .nil)) ?_;rintro _ rfl));conv=>whnf)|(apply bD<;>intro _<;>first|omega|conv=>whnf))
   ·have h10:XB (XB (XB (m2+gX l[j].args[a].x)+(1+l[j].args[a].name.length:Nat))+(x3a (l[j].args.drop (a+1))+(gL l[j].thn+gL l[j].els+gL (l.drop (j+1))):Nat))=XB (n+gL l):=by
     rw [ZR (by omega),u9w,ZR (by omega),<- h8];congr 1;omega
    exact ⟨(a+1,XB (XB (m2+gX l[j].args[a].x)+(1+l[j].args[a].name.length:Nat))),⟨by simp only;omega,ZH (by omega),h10⟩,by simp only;omega,Le.of_eq rfl⟩
   ·obtain ⟨f1,f2⟩:=fin (full (by omega));exact ⟨(j+1,XB (XB (m2+gL l[j].thn)+gL l[j].els)),⟨by simp only;omega,f1,f2⟩,by simp only;omega,Le.of_eq rfl⟩
theorem v2e : ∀ {l:List X} {y:X},y∈l->wX y<=wXs l
 | [],_,h=>by cases h
 | a::r,y,h=>by
   rw [wXs];rcases u3c.1 h with rfl|h
   ·omega
   ·have:=v2e h;omega
theorem v8z (x:X):1<=wX x:=by cases x;rw [wX];omega
theorem w7i : ∀ l:List X,l.length<=wXs l
 | []=>by simp
 | a::r=>by
   rw [wXs,u4t];have:=w7i r;have:=v8z a;omega
end Go.Ab
