/- The reference's rows of statements: what they are, as data; for a program that may be. -/
import Derived.Test.YtkgbhpcfnpfpcaaGreatInoS9
set_option linter.unusedSimpArgs false
set_option linter.unusedVariables false
set_option maxRecDepth 100000
set_option maxHeartbeats 16000000
open List (drop_eq_nil_of_le length_map length_take map_cons mem_cons_self)
open Nat (zero_le)
namespace Go.Ab
open Go.Proofs
theorem z1n {nest seen m:Int} {s:S} (h:q6h nest seen s=some m):z1x s=true∧s.id=seen+1 ∧ ∃ m1,YZ (nest+1) (seen+1) s.thn=some m1∧YZ (nest+1) m1 s.els=some m:=by
 rw [z5p] at h;split at h
 ·cases h
 split at h
 ·cases h
 rename_i hid;cases hn:namesB s.labels<;>rw [hn] at h
 ·cases h
 cases hf:ZC s<;>rw [hf] at h
 ·cases h
 simp only [cond_true] at h;split at h
 ·rename_i m1 h1;exact ⟨by unfold z1x;rw [hn,hf];rfl,by omega,m1,h1,h⟩
 ·cases h
theorem z0a {nest seen m:Int} {s:S} {r:List S} (h:YZ nest seen (s::r)=some m):nest<=12 ∧ ∃ m1,q6h nest seen s=some m1∧YZ nest m1 r=some m:=by
 rw [YZ] at h;split at h
 ·cases h
 rename_i h0;split at h
 ·rename_i m1 h1;exact ⟨by omega,m1,h1,h⟩
 ·cases h
theorem x7c : ∀ (l:List Pr) (f:Pr),f∈l->cntL f.body<=cntP l
 | [],f,h=>by cases h
 | g::r,f,h=>by
   rw [cntP];rcases List.mem_cons.1 h with rfl|h
   ·omega
   ·have:=x7c r f h;omega
def Pr0:Pr:=⟨[],[],[],[],[]⟩
def QQ (a b s:Str):Str:=if s==a then b else if s==b then a else s
theorem XF (s a b:Str):SpecP Tryz.prog 92 [.str s,.str a,.str b] (fun r=>r = .str (QQ a b s)):=by
 refine sB DL Tryz.func92 rfl Tryz.call92 ?_;conv=>whnf
 repeat' (apply bB<;>intro _<;>conv=>whnf)
 ·have h1:(s==a)=true:=by assumption
  exact RetK.p (by unfold QQ;rw [if_pos h1])
 ·have h1:(s==a)=false:=by assumption
  have h2:(s==b)=true:=by assumption
  exact RetK.p (by unfold QQ;rw [h1,h2];rfl)
 ·have h1:(s==a)=false:=by assumption
  have h2:(s==b)=false:=by assumption
  exact RetK.p (by unfold QQ;rw [h1,h2];rfl)
theorem ZM (l:List Str) (hl:l.length<=1000000):SpecP Tryz.prog 96 [eStrs l] (fun r=>r=eStrs l):=by
 refine sB DM Tryz.func96 rfl Tryz.call96 ?_;conv=>whnf
 have hlm:(l.map AV.str).length=l.length:=length_map _;repeat' (refine aD ?_;conv=>whnf)
 refine AppK.mk rfl rfl (by rw [hlm];show (0+l.length)*16<=140737488355328;omega) (by rw [hlm];show 0+l.length<=9223372036854775807;omega) (fun x hx=>by obtain ⟨s,_,rfl⟩:=List.mem_map.1 hx;exact ⟨rfl,rfl⟩) ?_;conv=>whnf
 skip
 exact ⟨_,.hd rfl (by simp),rfl⟩
theorem XW (l:List Str) (a b:Str) (hl:l.length<=1000000):SpecP Tryz.prog 91 [eStrs l,.str a,.str b] (fun r=>r=eStrs (l.map (QQ a b))):=by
 refine sB KY Tryz.func91 rfl Tryz.call91 ?_;conv=>whnf
 have hlm:(l.map AV.str).length=l.length:=length_map _;repeat' (refine iM fun _=>?_;conv=>whnf)
 refine LoopK.inv QJ (fun j:Nat=>⟨[(1,.p (.str a)),(2,.p (.str b)),(7,.hd 0 0 ((l.take j).map (QQ a b)).length),(10,.p (eStrs l)),(11,.p (.int .i64 (l.map AV.str).length)),(12,.p (.int .i64 j))],[(0,.own 9 1 (((l.take j).map (QQ a b)).map .str))]⟩) (fun j=>j<=l.length) (fun j=>l.length-j) 0
  (Le.mk [(0,.own 9 1 [])] (by simp [Chunk.new0];rfl) (by simp) (by simp) (.cons (.refl _) (.cons (.refl _) (.cons (.nil mem_cons_self) (.cons (.refl _) (.cons (.refl _) (.cons (.refl _) .nil)))))) (.new mem_cons_self .nil)) (zero_le _) ?_
 intro j h2;rcases Nat.lt_or_ge j l.length with hj|hj
 ·have htk:(l.take (j+1)).map (QQ a b)=(l.take j).map (QQ a b)++[QQ a b l[j]]:=by rw [List.take_succ_eq_append_getElem hj,List.map_append];rfl
  have hal:((l.take j).map (QQ a b)).length<=j:=by rw [length_map,length_take];omega
  generalize (l.take j).map (QQ a b)=acc at htk hal ⊢;conv=>whnf
  repeat' (first|((first|refine cP (XF _ _ _) ?_|refine And.intro rfl ?_|refine aD ?_|refine bP ?_|(refine iA fun _=>?_)|refine wI ?_|refine QE (by simp) (by rw [length_map];omega) ?_);conv=>whnf)|(apply bD<;>intro _<;>first|omega|conv=>whnf))
  exact ⟨j+1,hj,by omega,Le.of_eq (by rw [htk];simp only [List.length_append,List.map_append];rfl)⟩
 ·rw [List.take_of_length_le hj];conv=>whnf
  repeat' (apply bD<;>intro _<;>first|omega|conv=>whnf)
  exact ⟨_,.hd rfl (by simp),rfl⟩
def DS:List Str->Nat
 | []=>0
 | s::r=>1+s.length+DS r
mutual
def gX:X->Nat
 | .mk _ _ name kids=>1+name.length+gXs kids
def gXs:List X->Nat
 | []=>0
 | x::r=>gX x+gXs r
end
def q6j:List Arg->Nat
 | []=>0
 | a::r=>gX a.x+(1+a.name.length)+q6j r
mutual
def gS:S->Nat
 | .mk _ _ labels name proc x _ args thn els=>gX x+DS labels+(1+name.length)+(1+proc.length)+q6j args+gL thn+gL els
def gL:List S->Nat
 | []=>0
 | s::r=>gS s+gL r
end
def z8j:List Param->Nat
 | []=>0
 | a::r=>1+a.name.length+z8j r
def gPr (f:Pr):Nat:=1+f.name.length+DS f.vars+DS f.fin+z8j f.params+gL f.body
def x5u:List Pr->Nat
 | []=>0
 | f::r=>gPr f+x5u r
def gPg (p:Pg):Nat:=DS p.globals+x5u p.procs
theorem v0l (s:S):gS s=gX s.x+DS s.labels+(1+s.name.length)+(1+s.proc.length)+q6j s.args+gL s.thn+gL s.els:=by
 cases s;rw [gS];rfl
theorem x4u : ∀ l:List Str,x8x l<=DS l
 | []=>Nat.le_refl _
 | s::r=>by have:=x4u r;simp only [x8x,DS];omega
mutual
theorem w9m : ∀ x:X,wX x<=gX x
 | .mk _ _ name kids=>by have:=w7o kids;rw [wX,gX];omega
theorem w7o : ∀ l:List X,wXs l<=gXs l
 | []=>by rw [wXs];omega
 | x::r=>by have:=w9m x;have:=w7o r;rw [wXs,gXs];omega
end
theorem z6e : ∀ l:List Arg,GW l<=q6j l
 | []=>Nat.le_refl _
 | a::r=>by have:=z6e r;have:=w9m a.x;simp only [GW,q6j];omega
mutual
theorem v2z : ∀ s:S,wS s<=gS s
 | .mk _ _ labels name proc x _ args thn els=>by
   have:=w9m x;have:=x4u labels;have:=z6e args;have:=w8g thn;have:=w8g els;rw [wS,gS];omega
theorem w8g : ∀ l:List S,wL l<=gL l
 | []=>by rw [wL];omega
 | s::r=>by have:=v2z s;have:=w8g r;rw [wL,gL];omega
end
theorem w1t : ∀ l:List Param,z8h l<=z8j l
 | []=>Nat.le_refl _
 | a::r=>by have:=w1t r;simp only [z8h,z8j];omega
theorem w3z : ∀ l:List Pr,z8g l<=x5u l
 | []=>Nat.le_refl _
 | f::r=>by
   have:=w3z r;have:=x4u f.vars;have:=x4u f.fin;have:=w1t f.params;have:=w8g f.body;simp only [z8g,x5u,wPr,gPr];omega
theorem w8i (p:Pg):wPg p<=gPg p:=by
 have:=x4u p.globals;have:=w3z p.procs;unfold wPg gPg;omega
def XQ (x:Int):Int:=if x>20000 then 20001 else x
theorem ZW {a b:Int} (hb:0<=b):XQ (XQ a+b)=XQ (a+b):=by
 unfold XQ;split<;>split<;>(try split)<;>omega
theorem XS {a:Int} (h:0<=a):0<=XQ a∧XQ a<=20001:=by
 unfold XQ;split<;>omega
theorem q9n {a:Int} (h:a<=20001):XQ a=a:=by
 unfold XQ;split<;>omega
theorem UB {a b:Int} (h:a>20000) (h1:a<=20001) (hb:0<=b):a=XQ (a+b):=by
 unfold XQ;split<;>omega
theorem QL (s:Str) (n:Int) (hn:0<=n∧n<=20001):SpecP Tryz.prog 75 [.str s,.int .i64 n] (fun r=>r = .int .i64 (XQ (n+(1+s.length:Nat)))):=by
 refine sB KX Tryz.func75 rfl Tryz.call75 ?_;conv=>whnf
 repeat' (first|((first|(refine iM fun _=>?_)|refine wI ?_);conv=>whnf)|(apply bD<;>intro _<;>first|omega|conv=>whnf))
 all_goals exact RetK.int (by unfold XQ;(repeat' split)<;>omega)
theorem XP (l:List Str) (n:Int) (hn:0<=n∧n<=20001):SpecP Tryz.prog 74 [eStrs l,.int .i64 n] (fun r=>r = .int .i64 (XQ (n+DS l))):=by
 refine sB JJ Tryz.func74 rfl Tryz.call74 ?_;conv=>whnf
 skip
 have hl:(l.map AV.str).length=l.length:=length_map _;refine LoopK.inv QJ (fun x:Nat×Int=>⟨[(0,.p (eStrs l)),(1,.p (.int .i64 x.2)),(5,.p (.int .i64 x.1))],[]⟩) (fun x=>x.1<=l.length∧(0<=x.2∧x.2<=20001)∧XQ (x.2+DS (l.drop x.1))=XQ (n+DS l)) (fun x=>l.length-x.1) (0,n) (Le.of_eq rfl) ⟨zero_le _,hn,rfl⟩ ?_;rintro ⟨j,m⟩ ⟨h2,h3,h4⟩;simp only at h2 h3 h4 ⊢;rcases Nat.lt_or_ge j l.length with hj|hj
 ·rw [List.drop_eq_getElem_cons hj,DS] at h4;conv=>whnf
  repeat' (first|((first|(refine iM fun _=>?_)|refine cP (QL _ _ h3) ?_|(refine iA fun _=>?_)|refine wI ?_);conv=>whnf)|(apply bD<;>intro _<;>first|omega|conv=>whnf))
  ·have h5:XQ (XQ (m+(1+l[j].length:Nat))+DS (l.drop (j+1)))=XQ (n+DS l):=by
    rw [ZW (by omega),<- h4];congr 1;omega
   exact ⟨(j+1,XQ (m+(1+l[j].length:Nat))),⟨by simp only;omega,XS (by omega),h5⟩,by simp only;omega,Le.of_eq rfl⟩
  ·exact RetK.int (by rw [<- h4];exact UB (by omega) h3.2 (by omega))
 ·rw [drop_eq_nil_of_le hj,DS] at h4;conv=>whnf
  repeat' (first|(refine iM fun _=>?_;conv=>whnf)|(apply bD<;>intro _<;>first|omega|conv=>whnf))
  exact RetK.int (by rw [<- h4,q9n (by omega)];simp)
theorem UV : ∀ (k:Nat) (x:X) (_:gX x<k) (n:Int) (_:0<=n∧n<=20001),SpecP Tryz.prog 128 [.agg x.cells,.int .i64 n] (fun r=>r = .int .i64 (XQ (n+gX x))):=by
 intro k;induction k with
 | zero=>intro x h;omega
 | succ k ih =>
   intro x hx n hn;have hxe:gX x=1+x.name.length+gXs x.kids:=by cases x;rw [gX];rfl
   have hkl:=X.avs_len x.kids;refine sB JM Tryz.func128 rfl Tryz.call128 ?_;conv=>whnf
   repeat' (refine cP (QL _ _ hn) ?_;conv=>whnf)
   refine LoopK.inv QJ (fun y:Nat×Int=>⟨[(1,.p (.int .i64 y.2)),(2,.p (.ip x.cells)),(5,.p (.int .i64 y.1))],[]⟩) (fun y=>y.1<=x.kids.length∧(0<=y.2∧y.2<=20001)∧XQ (y.2+gXs (x.kids.drop y.1))=XQ (n+gX x)) (fun y=>x.kids.length-y.1) (0,XQ (n+(1+x.name.length:Nat))) (Le.of_eq rfl) ⟨zero_le _,XS (by omega),by
    show XQ (XQ (n+(1+x.name.length:Nat))+gXs x.kids)=_;rw [ZW (by omega),hxe];congr 1;omega⟩ ?_
   rintro ⟨j,m⟩ ⟨h2,h3,h4⟩;simp only at h2 h3 h4 ⊢;rcases Nat.lt_or_ge j x.kids.length with hj|hj
   ·rw [List.drop_eq_getElem_cons hj,gXs] at h4;have hkw:gX x.kids[j]<k:=by
     have : ∀ (l:List X) (y:X),y∈l->gX y<=gXs l:=fun l=>by
      induction l with
      | nil=>intro y h;cases h
      | cons a r ih =>
        intro y h;rw [gXs];rcases List.mem_cons.1 h with rfl|h
        ·omega
        ·have:=ih y h;omega
     have:=this x.kids _ (List.getElem_mem hj);omega
    conv=>whnf
    repeat' (first|((first|(refine iM fun _=>?_)|refine IdxK.xs (by omega) ?_|refine wI ?_|refine cP (ih (x.kids[j]'hj) hkw m h3) ?_);conv=>whnf)|(apply bD<;>intro _<;>first|omega|conv=>whnf))
    ·have h5:XQ (XQ (m+gX x.kids[j])+gXs (x.kids.drop (j+1)))=XQ (n+gX x):=by
      rw [ZW (by omega),<- h4];congr 1;omega
     exact ⟨(j+1,XQ (m+gX x.kids[j])),⟨by simp only;omega,XS (by omega),h5⟩,by simp only;omega,Le.of_eq rfl⟩
    ·exact RetK.int (by rw [<- h4];exact UB (by omega) h3.2 (by omega))
   ·rw [drop_eq_nil_of_le hj,gXs] at h4;conv=>whnf
    repeat' (first|(refine iM fun _=>?_;conv=>whnf)|(apply bD<;>intro _<;>first|omega|conv=>whnf))
    exact RetK.int (by rw [<- h4,q9n (by omega)];simp)
theorem w2x : ∀ (l:List S) (y:S),y∈l->gS y<=gL l
 | [],y,h=>by cases h
 | a::r,y,h=>by
   rw [gL];rcases List.mem_cons.1 h with rfl|h
   ·omega
   ·have:=w2x r y h;omega
theorem VE : ∀ (k:Nat) (l:List S) (_:gL l<k) (n:Int) (_:0<=n∧n<=20001),SpecP Tryz.prog 76 [eSs l,.int .i64 n] (fun r=>r = .int .i64 (XQ (n+gL l))):=by
 intro k;induction k with
 | zero=>intro l h;omega
 | succ k ih =>
   intro l hl n hn;have hkl:=S.avs_len l;refine sB JB Tryz.func76 rfl Tryz.call76 ?_;conv=>whnf
   skip
   refine LoopK.inv QJ (fun y:Nat×Int=>⟨[(0,.p (eSs l)),(1,.p (.int .i64 y.2)),(5,.p (.int .i64 y.1))],[]⟩) (fun y=>y.1<=l.length∧(0<=y.2∧y.2<=20001)∧XQ (y.2+gL (l.drop y.1))=XQ (n+gL l)) (fun y=>l.length-y.1) (0,n) (Le.of_eq rfl) ⟨zero_le _,hn,rfl⟩ ?_;rintro ⟨j,m⟩ ⟨h2,h3,h4⟩;simp only at h2 h3 h4 ⊢;rcases Nat.lt_or_ge j l.length with hj|hj;rotate_left 1
   ·rw [drop_eq_nil_of_le hj,gL] at h4;conv=>whnf
    repeat' (first|(refine iM fun _=>?_;conv=>whnf)|(apply bD<;>intro _<;>first|omega|conv=>whnf))
    exact RetK.int (by rw [<- h4,q9n (by omega)];simp)
   rw [List.drop_eq_getElem_cons hj,gL] at h4;have hsw:=w2x l _ (List.getElem_mem hj);have hse:=v0l l[j];have q1:=XS (a:=m+gX l[j].x) (by omega);have q2:=XS (a:=XQ (m+gX l[j].x)+DS l[j].labels) (by omega);have q3:=XS (a:=XQ (XQ (m+gX l[j].x)+DS l[j].labels)+(1+l[j].name.length:Nat)) (by omega);conv=>whnf
   repeat' (first|((first|(refine iM fun _=>?_)|refine dA ?_|refine And.intro rfl ?_|refine QZ (by omega) ?_|(refine CallK.pure (UV (gX l[j].x+1) l[j].x (by omega) m h3) (.cons (Sub.refl _) (.cons (Sub.refl _) .nil)) ?_;rintro _ rfl)|refine cP (XP l[j].labels _ q1) ?_|refine cP (QL l[j].name _ q2) ?_|refine cP (QL l[j].proc _ q3) ?_);conv=>whnf)|(apply bD<;>intro _<;>first|omega|conv=>whnf))
   rotate_left 1
   ·exact RetK.int (by rw [<- h4];exact UB (by omega) h3.2 (by omega))
   have q4:=XS (a:=XQ (XQ (XQ (m+gX l[j].x)+DS l[j].labels)+(1+l[j].name.length:Nat))+(1+l[j].proc.length:Nat)) (by omega);have h5:XQ (XQ (XQ (XQ (XQ (m+gX l[j].x)+DS l[j].labels)+(1+l[j].name.length:Nat))+(1+l[j].proc.length:Nat))+(q6j l[j].args+(gL l[j].thn+gL l[j].els+gL (l.drop (j+1))):Nat))=XQ (n+gL l):=by
    rw [ZW (by omega),Int.add_assoc,ZW (by omega),Int.add_assoc,ZW (by omega),Int.add_assoc,ZW (by omega),<- h4,hse];congr 1;omega
   generalize XQ (XQ (XQ (XQ (m+gX l[j].x)+DS l[j].labels)+(1+l[j].name.length:Nat))+(1+l[j].proc.length:Nat))=m0 at q4 h5 ⊢;have hal:(l[j].args.map fun a=>AV.agg a.cells).length=l[j].args.length:=length_map _;refine LoopK.inv QJ (fun y:Nat×Int=>⟨[(0,.p (eSs l)),(1,.p (.int .i64 y.2)),(5,.p (.int .i64 j)),(6,.p (.ip l[j].cells)),(7,.p (.int .i64 y.1))],[]⟩) (fun y=>y.1<=l[j].args.length∧(0<=y.2∧y.2<=20001)∧XQ (y.2+(q6j (l[j].args.drop y.1)+(gL l[j].thn+gL l[j].els+gL (l.drop (j+1))):Nat))=XQ (n+gL l)) (fun y=>l[j].args.length-y.1) (0,m0) (Le.of_eq rfl) ⟨zero_le _,q4,h5⟩ ?_;rintro ⟨a,m2⟩ ⟨h6,h7,h8⟩;simp only at h6 h7 h8 ⊢;have fin:XQ (m2+(gL l[j].thn+gL l[j].els+gL (l.drop (j+1)):Nat))=XQ (n+gL l)->(0<=XQ (XQ (m2+gL l[j].thn)+gL l[j].els)∧XQ (XQ (m2+gL l[j].thn)+gL l[j].els)<=20001)∧XQ (XQ (XQ (m2+gL l[j].thn)+gL l[j].els)+gL (l.drop (j+1)))=XQ (n+gL l):=fun h=>by
    have:=XS (a:=m2+gL l[j].thn) (by omega);refine ⟨XS (by omega),?_⟩;rw [ZW (by omega),Int.add_assoc,ZW (by omega),<- h];congr 1;omega
   have r1:=XS (a:=m2+gL l[j].thn) (by omega);have full:m2>20000->XQ (m2+(gL l[j].thn+gL l[j].els+gL (l.drop (j+1)):Nat))=XQ (n+gL l):=fun h=>by
    rw [<- h8,<- UB h h7.2 (by omega),<- UB h h7.2 (by omega)]
   rcases Nat.lt_or_ge a l[j].args.length with ha|ha;rotate_left 1
   ·have h9:XQ (m2+(gL l[j].thn+gL l[j].els+gL (l.drop (j+1)):Nat))=XQ (n+gL l):=by
     rw [drop_eq_nil_of_le ha,q6j,Nat.zero_add] at h8;exact h8
    obtain ⟨f1,f2⟩:=fin h9;conv=>whnf
    repeat' (first|((first|(refine iM fun _=>?_)|refine dA ?_|refine wI ?_|(refine CallK.pure (ih l[j].thn (by omega) m2 h7) (.cons (Sub.refl _) (.cons (Sub.refl _) .nil)) ?_;rintro _ rfl)|(refine CallK.pure (ih l[j].els (by omega) _ r1) (.cons (Sub.refl _) (.cons (Sub.refl _) .nil)) ?_;rintro _ rfl));conv=>whnf)|(apply bD<;>intro _<;>first|omega|conv=>whnf))
    all_goals exact ⟨(j+1,XQ (XQ (m2+gL l[j].thn)+gL l[j].els)),⟨by simp only;omega,f1,f2⟩,by simp only;omega,Le.of_eq rfl⟩
   rw [List.drop_eq_getElem_cons ha,q6j] at h8;have q5:=XS (a:=m2+gX l[j].args[a].x) (by omega);conv=>whnf
   repeat' (first|((first|(refine iM fun _=>?_)|refine dA ?_|(refine iA fun _=>?_)|refine wI ?_|(refine CallK.pure (UV (gX l[j].args[a].x+1) l[j].args[a].x (by omega) m2 h7) (.cons (Sub.refl _) (.cons (Sub.refl _) .nil)) ?_;rintro _ rfl)|refine cP (QL l[j].args[a].name _ q5) ?_|(refine CallK.pure (ih l[j].thn (by omega) m2 h7) (.cons (Sub.refl _) (.cons (Sub.refl _) .nil)) ?_;rintro _ rfl)|(refine CallK.pure (ih l[j].els (by omega) _ r1) (.cons (Sub.refl _) (.cons (Sub.refl _) .nil)) ?_;rintro _ rfl));conv=>whnf)|(apply bD<;>intro _<;>first|omega|conv=>whnf))
   ·have h10:XQ (XQ (XQ (m2+gX l[j].args[a].x)+(1+l[j].args[a].name.length:Nat))+(q6j (l[j].args.drop (a+1))+(gL l[j].thn+gL l[j].els+gL (l.drop (j+1))):Nat))=XQ (n+gL l):=by
     rw [ZW (by omega),Int.add_assoc,ZW (by omega),<- h8];congr 1;omega
    exact ⟨(a+1,XQ (XQ (m2+gX l[j].args[a].x)+(1+l[j].args[a].name.length:Nat))),⟨by simp only;omega,XS (by omega),h10⟩,by simp only;omega,Le.of_eq rfl⟩
   ·obtain ⟨f1,f2⟩:=fin (full (by omega));exact ⟨(j+1,XQ (XQ (m2+gL l[j].thn)+gL l[j].els)),⟨by simp only;omega,f1,f2⟩,by simp only;omega,Le.of_eq rfl⟩
mutual
def swX (a b:Str):X->X
 | .mk op n name kids => .mk op n (QQ a b name) (z7c a b kids)
def z7c (a b:Str):List X->List X
 | []=>[]
 | x::r=>swX a b x::z7c a b r
end
theorem x7p (a b:Str) : ∀ l:List X,z7c a b l=l.map (swX a b)
 | []=>by rw [z7c];rfl
 | x::r=>by rw [z7c,x7p a b r];rfl
theorem x1a (a b:Str) (x:X):swX a b x = .mk x.op x.n (QQ a b x.name) (x.kids.map (swX a b)):=by
 cases x;rw [swX,x7p];rfl
theorem z4x : ∀ {l:List X} {y:X},y∈l->wX y<=wXs l
 | [],_,h=>by cases h
 | a::r,y,h=>by
   rw [wXs];rcases List.mem_cons.1 h with rfl|h
   ·omega
   ·have:=z4x h;omega
theorem w6h (x:X):1<=wX x:=by cases x;rw [wX];omega
theorem x6d : ∀ l:List X,l.length<=wXs l
 | []=>by simp
 | a::r=>by
   rw [wXs,List.length_cons];have:=x6d r;have:=w6h a;omega
theorem UH (a b:Str) : ∀ (k:Nat) (x:X) (_:wX x<k) (_:k<=20002),SpecP Tryz.prog 152 [.agg x.cells,.str a,.str b] (fun r=>r = .agg (swX a b x).cells):=by
 intro k;induction k with
 | zero=>intro x h;omega
 | succ k ih =>
   intro x hx hk;have hxe:wX x=1+wXs x.kids:=by cases x;rw [wX];rfl
   have hkl:=X.avs_len x.kids;have hkn:=x6d x.kids;refine sB GG Tryz.func152 rfl Tryz.call152 ?_;conv=>whnf
   repeat' (first|((first|(refine iM fun _=>?_)|refine cP (XF _ _ _) ?_|refine dA ?_|refine And.intro rfl ?_);conv=>whnf)|(refine And.intro ?_ ?_<;>conv=>whnf))
   all_goals
    refine LoopK.inv QJ (fun j:Nat=>⟨[(1,.p (.str a)),(2,.p (.str b)),(3,.p (.ip x.cells)),(6,.ptr 1 0),(7,.ptr 0 0),(21,.p (.int .i64 (X.avs x.kids).length)),(22,.p (.int .i64 j))],[(0,.obj 36 [.p (.int .i64 x.op),.p (.int .i64 x.n),.p (.str (QQ a b x.name)),.hd 2 0 j]),(1,.obj 36 [.p (.int .i64 0),.p (.int .i64 0),.p (.str []),.p .nils]),(2,.own 36 4 (X.avs ((x.kids.take j).map (swX a b))))]⟩) (fun j=>j<=x.kids.length) (fun j=>x.kids.length-j) 0
     (Le.mk [(2,.own 36 4 [])] (by simp [Chunk.new0];rfl) (by simp) (by simp) (.cons (.refl _) (.cons (.refl _) (.cons (.refl _) (.cons (.refl _) (.cons (.refl _) (.cons (.refl _) (.cons (.refl _) .nil))))))) (.cons rfl (.obj (.cons (.refl _) (.cons (.refl _) (.cons (.refl _) (.cons (.nil mem_cons_self) .nil))))) (.cons rfl (.refl _) (.new mem_cons_self .nil)))) (zero_le _) ?_
    intro j h2;rcases Nat.lt_or_ge j x.kids.length with hj|hj
    ·have hkw:=z4x (List.getElem_mem hj);have hih:=ih x.kids[j] (by omega) (by omega);have htk:X.avs ((x.kids.take (j+1)).map (swX a b))=X.avs ((x.kids.take j).map (swX a b))++[.agg (swX a b x.kids[j]).cells]:=by
      rw [X.avs_eq,X.avs_eq,List.take_succ_eq_append_getElem hj,List.map_append,List.map_append];rfl
     have hal:(X.avs ((x.kids.take j).map (swX a b))).length=j:=by rw [X.avs_len,length_map,length_take];omega
     generalize X.avs ((x.kids.take j).map (swX a b))=acc at htk hal ⊢;conv=>whnf
     repeat' (first|((first|refine dA ?_|refine And.intro rfl ?_|refine aD ?_|refine bP ?_|refine IdxK.xs (by omega) ?_|refine wI ?_|refine cP hih ?_|refine AppK.mk hal.symm rfl (by show (j+1)*56<=140737488355328;omega) (by show j+1<=9223372036854775807;omega) (fun x hx=>by rcases List.mem_singleton.1 hx with rfl;exact ⟨rfl,rfl⟩) ?_);conv=>whnf)|(apply bD<;>intro _<;>first|omega|conv=>whnf)|(refine And.intro ?_ ?_<;>conv=>whnf))
     all_goals exact ⟨j+1,hj,by omega,Le.of_eq (by rw [htk];rfl)⟩
    ·have hall:X.avs ((x.kids.take j).map (swX a b))=X.avs (x.kids.map (swX a b)):=by rw [List.take_of_length_le hj]
     have hal:(X.avs ((x.kids.take j).map (swX a b))).length=j:=by rw [X.avs_len,length_map,length_take];omega
     conv=>whnf
     repeat' (first|(refine And.intro rfl ?_;conv=>whnf)|(apply bD<;>intro _<;>first|omega|conv=>whnf))
     refine ⟨_,.agg (cs:=(swX a b x).cells) rfl fun i l c h1 h3 => ?_,rfl⟩;rw [x1a] at h3
     match i,h1,h3 with
     | 0,h1,h3=>cases h1;cases h3;exact .p (Sub.refl _)
     | 1,h1,h3=>cases h1;cases h3;exact .p (Sub.refl _)
     | 2,h1,h3=>cases h1;cases h3;exact .p (Sub.refl _)
     | 3,h1,h3 =>
       cases h1;cases h3;show Frz _ _ (.sl (X.avs (x.kids.map (swX a b))));rw [<- hall];exact .hd rfl hal.symm
     | i+4,h1,h3=>simp at h1
def swA (a b:Str) (x:Arg):Arg:=⟨x.ref,QQ a b x.name,swX a b x.x⟩
mutual
def swS (a b:Str):S->S
 | .mk id kind labels name proc x has args thn els => .mk id kind (labels.map (QQ a b)) (QQ a b name) (QQ a b proc) (swX a b x) has (args.map (swA a b)) (swL a b thn) (swL a b els)
def swL (a b:Str):List S->List S
 | []=>[]
 | t::r=>swS a b t::swL a b r
end
def q5n (a b:Str) (m:Param):Param:=⟨QQ a b m.name,m.ref⟩
def XH (a b:Str) (f:Pr):Pr:=⟨QQ a b f.name,f.params.map (q5n a b),f.vars.map (QQ a b),swL a b f.body,f.fin.map (QQ a b)⟩
def QS (a b:Str) (p:Pg):Pg:=⟨p.globals.map (QQ a b),p.procs.map (XH a b)⟩
theorem x6t (a b:Str) : ∀ l:List S,swL a b l=l.map (swS a b)
 | []=>by rw [swL];rfl
 | t::r=>by rw [swL,x6t a b r];rfl
theorem HU (a b:Str) (s:S):swS a b s = .mk s.id s.kind (s.labels.map (QQ a b)) (QQ a b s.name) (QQ a b s.proc) (swX a b s.x) s.has (s.args.map (swA a b)) (swL a b s.thn) (swL a b s.els):=by
 cases s;rw [swS];rfl
structure Ren (a b:Str):Prop where
 na:isName a=true
 nb:isName b=true
 ma:a≠mainS
 mb:b≠mainS
theorem z7u {s:Str} (h:isName s=true):s≠[]:=fun he=>by
 subst he;unfold isName at h;rw [dif_neg (by simp)] at h;cases h
theorem XK (a b s:Str):QQ a b (QQ a b s)=s:=by
 unfold QQ;simp only [beq_iff_eq];by_cases h1:s=a
 ·subst h1;simp only [if_true];by_cases h2:b=s
  ·simp [h2]
  ·simp [h2]
 ·simp only [if_neg h1];by_cases h2:s=b
  ·subst h2;simp
  ·simp [h1,h2]
theorem x2n {a b x y:Str} (h:QQ a b x=QQ a b y):x=y:=by
 have:=congrArg (QQ a b) h
 rwa [XK,XK] at this
theorem VN (a b x y:Str):(QQ a b x==QQ a b y)=(x==y):=by
 by_cases h:x=y
 ·subst h;simp
 ·have h2:QQ a b x≠QQ a b y:=fun he=>h (x2n he);rw [beq_eq_false_iff_ne.2 h,beq_eq_false_iff_ne.2 h2]
theorem Ren.main {a b:Str} (h:Ren a b):QQ a b mainS=mainS:=by
 unfold QQ;rw [if_neg (by simpa using fun e=>h.ma e.symm),if_neg (by simpa using fun e=>h.mb e.symm)]
theorem Ren.nil {a b:Str} (h:Ren a b):QQ a b []=[]:=by
 unfold QQ;rw [if_neg (by simpa using fun e=>z7u h.na e),if_neg (by simpa using fun e=>z7u h.nb e)]
theorem Ren.isNil {a b:Str} (h:Ren a b) (s:Str):(QQ a b s==[])=(s==[]):=by
 have:=VN a b s []
 rwa [h.nil] at this
theorem Ren.isMain {a b:Str} (h:Ren a b) (s:Str):(QQ a b s==mainS)=(s==mainS):=by
 have:=VN a b s mainS
 rwa [h.main] at this
theorem Ren.mainIs {a b:Str} (h:Ren a b) (s:Str):(mainS==QQ a b s)=(mainS==s):=by
 have:=VN a b mainS s
 rwa [h.main] at this
theorem Ren.name {a b:Str} (h:Ren a b) (s:Str):isName (QQ a b s)=isName s:=by
 unfold QQ;by_cases h1:s=a
 ·subst h1;simp [h.na,h.nb]
 ·rw [if_neg (by simpa using h1)];by_cases h2:s=b
  ·subst h2;simp [h.na,h.nb]
  ·rw [if_neg (by simpa using h2)]
theorem Ren.names {a b:Str} (h:Ren a b) (l:List Str):namesB (l.map (QQ a b))=namesB l:=by
 unfold namesB;rw [List.all_map];congr 1;funext s;exact h.name s
theorem HC (a b x:Str) (l:List Str):(l.map (QQ a b)).any (fun s=>QQ a b x==s)=l.any fun s=>x==s:=by
 rw [List.any_map];congr 1;funext s;exact VN a b x s
theorem Ren.any_main {a b:Str} (h:Ren a b) (l:List Str):(l.map (QQ a b)).any (fun s=>mainS==s)=l.any fun s=>mainS==s:=by
 rw [List.any_map];congr 1;funext s;exact h.mainIs s
theorem w2r (a b:Str) (x:X):(swX a b x).op=x.op:=by rw [x1a];rfl
theorem w7t (a b:Str) (x:X):(swX a b x).n=x.n:=by rw [x1a];rfl
theorem x7f (a b:Str) (x:X):(swX a b x).name=QQ a b x.name:=by rw [x1a];rfl
theorem x7i (a b:Str) (x:X):(swX a b x).kids=x.kids.map (swX a b):=by rw [x1a];rfl
theorem x7a {a b:Str} (h:Ren a b) : ∀ (n:Nat) (x:X),WW n (swX a b x)=WW n x
 | 0,_=>rfl
 | n+1,x=>by
   rw [WW,WW,w2r,w7t,x7f,x7i,length_map,h.isNil,h.name,List.all_map];have:(WW n∘swX a b)=WW n:=by
    funext y;exact x7a h n y
   rw [this]
theorem z4g {a b:Str} (h:Ren a b) (x:X):x6h (swX a b x)=x6h x:=x7a h 20 x
theorem w0f {a b:Str} (h:Ren a b) (x:X):noneB (swX a b x)=noneB x:=by
 unfold noneB;rw [w2r,w7t,x7f,x7i,length_map,h.isNil]
theorem x1j {a b:Str} (h:Ren a b) (x:X) (is:Bool):JE (swX a b x) is=JE x is:=by
 unfold JE;rw [z4g h,w0f h]
theorem x1e {a b:Str} (h:Ren a b) (s:Str) (is:Bool):YT (QQ a b s) is=YT s is:=by
 unfold YT;rw [h.name,h.isNil]
theorem w0l {a b:Str} (h:Ren a b) (x:Arg):handB (swA a b x)=handB x:=by
 unfold handB swA;simp only;rw [x1e h,x1j h]
theorem HA (a b:Str) (s:S):(swS a b s).id=s.id:=by rw [HU];rfl
theorem ZH (a b:Str) (s:S):(swS a b s).kind=s.kind:=by rw [HU];rfl
theorem q6c (a b:Str) (s:S):(swS a b s).labels=s.labels.map (QQ a b):=by rw [HU];rfl
theorem KA (a b:Str) (s:S):(swS a b s).name=QQ a b s.name:=by rw [HU];rfl
theorem KT (a b:Str) (s:S):(swS a b s).proc=QQ a b s.proc:=by rw [HU];rfl
theorem w4v (a b:Str) (s:S):(swS a b s).x=swX a b s.x:=by rw [HU];rfl
theorem w4h (a b:Str) (s:S):(swS a b s).has=s.has:=by rw [HU];rfl
theorem FC (a b:Str) (s:S):(swS a b s).args=s.args.map (swA a b):=by rw [HU];rfl
theorem z6k (a b:Str) (s:S):(swS a b s).thn=swL a b s.thn:=by rw [HU];rfl
theorem z4m (a b:Str) (s:S):(swS a b s).els=swL a b s.els:=by rw [HU];rfl
theorem q5g (a b:Str) (l:List S):(swL a b l).length=l.length:=by rw [x6t,length_map]
theorem z2v {a b:Str} (h:Ren a b) (s:S):ZC (swS a b s)=ZC s:=by
 unfold ZC;have e:((s.args.map (swA a b)).all handB)=s.args.all handB:=by
  rw [List.all_map];congr 1;funext x;exact w0l h x
 rw [ZH,w4h,KA,KT,w4v,FC,z6k,z4m,h.isNil,q5g,q5g,length_map,e];simp only [x1e h,x1j h]
mutual
theorem w5d {a b:Str} (h:Ren a b) : ∀ (s:S) (nest seen:Int),q6h nest seen (swS a b s)=q6h nest seen s
 | .mk id kind labels name proc x has args thn els,nest,seen=>by
   have hf:=z2v h (.mk id kind labels name proc x has args thn els);rw [swS] at hf ⊢;rw [q6h,q6h,hf,h.names,x0r h thn];cases YZ (nest+1) (seen+1) thn with
   | none=>rfl
   | some m=>simp only [x0r h els]
theorem x0r {a b:Str} (h:Ren a b) : ∀ (l:List S) (nest seen:Int),YZ nest seen (swL a b l)=YZ nest seen l
 | [],nest,seen=>by rw [swL]
 | t::r,nest,seen=>by
   rw [swL,YZ,YZ,w5d h t];cases q6h nest seen t with
   | none=>rfl
   | some m=>simp only [x0r h r]
end
theorem w1b {a b:Str} (h:Ren a b) (f:Pr):BE (XH a b f)=BE f:=by
 unfold BE XH;simp only;have e:((f.params.map (q5n a b)).all fun x=>isName x.name)=f.params.all fun x=>isName x.name:=by
  rw [List.all_map];congr 1;funext x;exact h.name x.name
 rw [length_map,length_map,h.name,h.names,h.names,e]
theorem x2s {a b:Str} (h:Ren a b) : ∀ (l:List Pr) (seen:Int),ZG seen (l.map (XH a b))=ZG seen l
 | [],seen=>rfl
 | f::r,seen=>by
   rw [map_cons,ZG,ZG,w1b h,show (XH a b f).body=swL a b f.body from rfl,x0r h];cases YZ 1 seen f.body with
   | none=>rfl
   | some m=>simp only [x2s h r]
theorem z2s {a b:Str} (h:Ren a b) (p:Pg):MY (QS a b p)=MY p:=by
 unfold MY QS;simp only;rw [length_map,length_map,h.names,x2s h]
theorem w4p {a b:Str} (h:Ren a b) (l:List Str) (i:Nat):(l.map (QQ a b))[i]?.getD []=QQ a b (l[i]?.getD []):=by
 rw [List.getElem?_map];cases l[i]? with
 | none=>exact h.nil.symm
 | some s=>rfl
theorem q5w {a b:Str} (h:Ren a b) (l:List Str):ZA (l.map (QQ a b))=ZA l:=by
 unfold ZA;rw [length_map];congr 1;funext i;rw [w4p h,<- List.map_take,HC]
mutual
theorem z2i {a b:Str} : ∀ (x:X) (out:List Str),q6v (swX a b x) (out.map (QQ a b))=(q6v x out).map (QQ a b)
 | .mk op n name kids,out=>by
   rw [swX,q6v,q6v,HC];split
   ·rw [<- q9y kids];simp
   ·exact q9y kids out
theorem q9y {a b:Str} : ∀ (l:List X) (out:List Str),YR (z7c a b l) (out.map (QQ a b))=(YR l out).map (QQ a b)
 | [],out=>by rw [z7c,YR,YR]
 | x::r,out=>by rw [z7c,YR,YR,z2i x,q9y r]
end
theorem NO {a b:Str} (h:Ren a b) (x:X):XD (swX a b x)=(XD x).map (QQ a b):=by
 unfold XD;rw [z4g h];cases x6h x with
 | true=>exact z2i x []
 | false=>rfl
theorem z3k {a b:Str} (h:Ren a b) (x:Arg):YJ (swA a b x)=(YJ x).map (QQ a b):=by
 unfold YJ swA;simp only;rw [NO h,List.map_append];cases x.ref<;>rfl
theorem z7v {a b:Str} (h:Ren a b) (t:S):GE (swS a b t)=(GE t).map (QQ a b):=by
 unfold GE;rw [ZH,KA,w4v,h.isNil,NO h,List.map_append];cases (t.kind≠10 && !(t.name==[]):Bool)<;>rfl
theorem x4g {a b:Str} (h:Ren a b) (t:S):WC (swS a b t)=(WC t).map (QQ a b):=by
 unfold WC;rw [z7v h,FC,List.map_append,List.flatMap_map,List.map_flatMap];congr 2;funext x;exact z3k h x
theorem z8r (a b:Str) (p:Pg) (f:Pr) (n:Str):LM (QS a b p) (XH a b f) (QQ a b n)=LM p f n:=by
 unfold LM;have e:(XH a b f).params.find? (fun x=>x.name==QQ a b n)=(f.params.find? fun x=>x.name==n).map (q5n a b):=by
  show (f.params.map (q5n a b)).find? _=_;rw [List.find?_map];congr 2;funext x;exact VN a b x.name n
 rw [e,show (XH a b f).vars=f.vars.map (QQ a b) from rfl,show (QS a b p).globals=p.globals.map (QQ a b) from rfl,HC,HC];cases f.params.find? fun x=>x.name==n with
 | none=>rfl
 | some x=>rfl
theorem z5f {a b:Str} (h:Ren a b) (p:Pg) (f:Pr) (procs:List Str) (t:S):WR (QS a b p) (XH a b f) (procs.map (QQ a b)) (swS a b t)=WR p f procs t:=by
 unfold WR;rw [x4g h,List.all_map,ZH,KT,h.isMain,HC];congr 2;funext n;show (!(LM (QS a b p) (XH a b f) (QQ a b n)==0))=_;rw [z8r]
mutual
theorem w7r (a b:Str) : ∀ s:S,flS (swS a b s)=(flS s).map (swS a b)
 | .mk id kind labels name proc x has args thn els=>by
   rw [swS,flS,flS,map_cons,List.map_append,q0b a b thn,q0b a b els,swS]
theorem q0b (a b:Str) : ∀ l:List S,flL (swL a b l)=(flL l).map (swS a b)
 | []=>by rw [swL,flL];rfl
 | t::r=>by rw [swL,flL,flL,List.map_append,w7r a b t,q0b a b r]
end
theorem q4n (a b:Str) (p:Pg):QH (QS a b p)=(QH p).map (QQ a b):=by
 unfold QH QS;simp only [List.map_map];rfl
theorem z0g {a b:Str} (h:Ren a b) (p:Pg):WN (QS a b p)=WN p:=by
 unfold WN;have e:(QS a b p).procs.find? (fun f=>mainS==f.name)=(p.procs.find? fun f=>mainS==f.name).map (XH a b):=by
  show (p.procs.map (XH a b)).find? _=_;rw [List.find?_map];congr 2;funext f;exact h.mainIs f.name
 rw [e,q4n,q5w h,h.any_main,show (QS a b p).globals=p.globals.map (QQ a b) from rfl,q5w h];cases p.procs.find? fun f=>mainS==f.name with
 | none=>rfl
 | some f =>
   show (ZA p.globals||(ZA (QH p)||(!(QH p).any (fun s=>mainS==s)||decide (0<(f.params.map (q5n a b)).length))))=_;rw [length_map]
theorem w5q (a b:Str) (f:Pr):x1r (XH a b f)=(x1r f).map (QQ a b):=by
 unfold x1r XH;simp only [List.map_append,List.map_map];rfl
theorem z0y {a b:Str} (h:Ren a b) (p:Pg) (f:Pr):ZD (QS a b p) (XH a b f)=ZD p f:=by
 unfold ZD;have e1:((x1r f).map (QQ a b)).any (fun n=>(p.globals.map (QQ a b)).any fun s=>n==s)=(x1r f).any fun n=>p.globals.any fun s=>n==s:=by
  rw [List.any_map];congr 1;funext n;exact HC a b n p.globals
 have e2:((flL (XH a b f).body).find? fun t => !WR (QS a b p) (XH a b f) (QH (QS a b p)) t).map S.id=((flL f.body).find? fun t => !WR p f (QH p) t).map S.id:=by
  rw [show (XH a b f).body=swL a b f.body from rfl,q0b,List.find?_map,Option.map_map];have e3:((fun t => !WR (QS a b p) (XH a b f) (QH (QS a b p)) t)∘swS a b)=fun t => !WR p f (QH p) t:=by
   funext t;show (!WR (QS a b p) (XH a b f) (QH (QS a b p)) (swS a b t))=_;rw [q4n,z5f h]
  rw [e3];congr 1;funext t;exact HA a b t
 rw [e2,w5q,q5w h,show (QS a b p).globals=p.globals.map (QQ a b) from rfl,e1]
theorem MQ {a b:Str} (h:Ren a b) (p:Pg):QC (QS a b p)=QC p:=by
 unfold QC;rw [z2s h,z0g h,show (QS a b p).procs=p.procs.map (XH a b) from rfl,List.findSome?_map];have e:(ZD (QS a b p)∘XH a b)=ZD p:=by
  funext f;exact z0y h p f
 rw [e]
theorem x9v (a b:Str) (p:Pg):WP (QS a b p)=(WP p).map (swS a b):=by
 unfold WP QS;simp only [List.flatMap_map,List.map_flatMap];congr 1;funext f;exact q0b a b f.body
theorem HO (a b:Str) (p:Pg) (n:Str):(QS a b p).procs.find? (fun f=>f.name==QQ a b n)=(p.procs.find? fun f=>f.name==n).map (XH a b):=by
 show (p.procs.map (XH a b)).find? _=_;rw [List.find?_map];congr 2;funext f;exact VN a b f.name n
theorem w0i (a b:Str) (p:Pg) (s:S):UO (QS a b p) (swS a b s)=UO p s:=by
 unfold UO;rw [ZH,KT,HO];cases p.procs.find? fun f=>f.name==s.proc with
 | none=>rfl
 | some f =>
   show (decide (s.kind=4)&&x1l (f.params.map (q5n a b)) (swS a b s).args)=_;rw [FC];unfold x1l;rw [List.map_map,List.map_map];rfl
theorem x3w {a b:Str} (h:Ren a b) (p:Pg):WS (QS a b p)=WS p:=by
 unfold WS;rw [MQ h,x9v,List.find?_map];have e:((fun t:S=>decide (t.kind=4) && !UO (QS a b p) t)∘swS a b)=fun t=>decide (t.kind=4) && !UO p t:=by
  funext t;show (decide ((swS a b t).kind=4) && !UO (QS a b p) (swS a b t))=_;rw [ZH,w0i]
 rw [e];cases (WP p).find? fun t=>decide (t.kind=4) && !UO p t with
 | none=>rfl
 | some t =>
   show (if (QC p).1≠0 then _ else ((6:Int),(swS a b t).id))=_;rw [HA]
theorem x0x (a b:Str) : ∀ (l seen:List Str),VW (seen.map (QQ a b)) (l.map (QQ a b))=(VW seen l).map fun s=>s.map (QQ a b)
 | [],seen=>rfl
 | n::r,seen=>by
   rw [map_cons,VW,VW,HC];cases seen.any fun s=>n==s with
   | true=>rfl
   | false =>
     have:=x0x a b r (seen++[n]);rw [List.map_append] at this;exact this
theorem w2a (a b:Str) (f:Pr) (label:Str):atB (XH a b f) (QQ a b label)=atB f label:=by
 unfold atB;rw [show (XH a b f).body=swL a b f.body from rfl,q0b,List.find?_map,show (XH a b f).fin=f.fin.map (QQ a b) from rfl,HC];have e:((fun t:S=>t.labels.any fun s=>QQ a b label==s)∘swS a b)=fun t=>t.labels.any fun s=>label==s:=by
  funext t;show ((swS a b t).labels.any fun s=>QQ a b label==s)=_;rw [q6c,HC]
 rw [e];cases (flL f.body).find? fun t=>t.labels.any fun s=>label==s with
 | none=>rfl
 | some t =>
   show ((swS a b t).id,true)=_;rw [HA]
def swI (a b:Str) (it:Item):Item:=⟨swS a b it.s,it.proc,it.up,it.next,it.loop⟩
mutual
theorem z3l (a b:Str) : ∀ s:S,ZS (swS a b s)=ZS s
 | .mk id kind labels name proc x has args thn els=>by rw [swS,ZS,ZS,JD a b thn,JD a b els]
theorem JD (a b:Str) : ∀ l:List S,cntL (swL a b l)=cntL l
 | []=>by rw [swL]
 | t::r=>by rw [swL,cntL,cntL,z3l a b t,JD a b r]
end
mutual
theorem w6w (a b:Str) : ∀ (s:S) (proc up nx loop:Int) (n:Nat),itS proc up nx loop n (swS a b s)=(itS proc up nx loop n s).map (swI a b)
 | .mk id kind labels name pr x has args thn els,proc,up,nx,loop,n=>by
   rw [swS,itS,itS,map_cons,List.map_append,q4h a b thn,q4h a b els,JD];unfold swI;simp only;rw [swS]
theorem q4h (a b:Str) : ∀ (l:List S) (proc up nx loop:Int) (n:Nat),itL proc up nx loop n (swL a b l)=(itL proc up nx loop n l).map (swI a b)
 | [],proc,up,nx,loop,n=>by rw [swL,itL];rfl
 | t::r,proc,up,nx,loop,n=>by
   have e:(swL a b r).isEmpty=r.isEmpty:=by cases r<;>rw [swL]<;>rfl
   rw [swL,itL,itL,List.map_append,w6w a b t,q4h a b r,z3l,e]
end
theorem z6m (a b:Str) (f:Pr) (it:Item):VK (XH a b f) (swI a b it)=VK f it:=by
 unfold VK swI;simp only;rw [ZH,KA,w2a]
theorem x8n (a b:Str) (f:Pr) : ∀ (l:List Item) (seen:List Str),YM (XH a b f) (l.map (swI a b)) (seen.map (QQ a b))=(YM f l seen).map fun s=>s.map (QQ a b)
 | [],seen=>rfl
 | it::r,seen=>by
   rw [map_cons,YM,YM,show (swI a b it).s.labels=it.s.labels.map (QQ a b) from q6c a b it.s,show (swI a b it).s.id=it.s.id from HA a b it.s,x0x,z6m];cases VW seen it.s.labels with
   | none=>rfl
   | some s =>
     show (bif VK f it then YM (XH a b f) (r.map (swI a b)) (s.map (QQ a b)) else .error it.s.id)=Except.map _ (bif VK f it then YM f r s else .error it.s.id);cases VK f it with
     | true=>exact x8n a b f r s
     | false=>rfl
theorem LY (a b:Str) : ∀ (l:List Pr) (i:Nat),QM (l.map (XH a b)) i=QM l i
 | _,0=>by rw [QM,QM]
 | [],i+1=>rfl
 | f::r,i+1=>by rw [map_cons,QM,QM,LY a b r,show (XH a b f).body=swL a b f.body from rfl,JD]
theorem z6q (a b:Str) (p:Pg) (j:Nat):VL (QS a b p) j=VL p j:=by
 unfold VL;rw [show (QS a b p).procs=p.procs.map (XH a b) from rfl,List.getElem?_map];cases p.procs[j]? with
 | none=>rfl
 | some f =>
   simp only [Option.map_some];rw [show (XH a b f).body=swL a b f.body from rfl,q4h,LY];have:=x8n a b f (itL (j:Nat) 0 (-1) 0 (QM p.procs j) f.body) [];rw [show ([]:List Str).map (QQ a b)=[] from rfl] at this;rw [this];cases YM f (itL (j:Nat) 0 (-1) 0 (QM p.procs j) f.body) [] with
   | error id=>rfl
   | ok s =>
     show (match VW (s.map (QQ a b)) (f.fin.map (QQ a b)) with|none=>some (0:Int)|some _=>none)=match VW s f.fin with|none=>some (0:Int)|some _=>none
     rw [x0x];cases VW s f.fin<;>rfl
theorem z9p {a b:Str} (h:Ren a b) (p:Pg):BA (QS a b p)=BA p:=by
 unfold BA;rw [MQ h,show (QS a b p).procs.length=p.procs.length from length_map _,show VL (QS a b p)=VL p from funext fun j=>z6q a b p j]
end Go.Ab
