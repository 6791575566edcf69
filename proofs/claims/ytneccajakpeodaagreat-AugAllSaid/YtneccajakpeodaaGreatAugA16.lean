/- The reference's weighing: how much text a program is. -/
import Derived.Laws.StructEq
import Derived.ChangeKeysEq
import Derived.Test.YtneccajakpeodaaGreatAugA8
import Derived.Test.YtneccajakpeodaaGreatAugA10
import Derived.Test.YtneccajakpeodaaGreatAugA13
import Derived.Test.YtneccajakpeodaaGreatAugA14
import Derived.Test.YtneccajakpeodaaGreatAugA15
set_option linter.unusedSimpArgs false
set_option linter.unusedVariables false
set_option maxRecDepth 100000
set_option maxHeartbeats 16000000
namespace Go.Ab
open Go.Proofs
def BB:List Str→Nat
 | []=>0
 | s::r=>1+s.length+BB r
mutual
def gX:X→Nat
 | .mk _ _ name kids=>1+name.length+gXs kids
def gXs:List X→Nat
 | []=>0
 | x::r=>gX x+gXs r
end
def q7j:List Arg→Nat
 | []=>0
 | a::r=>gX a.x+(1+a.name.length)+q7j r
mutual
def gS:S→Nat
 | .mk _ _ labels name proc x _ args thn els=>gX x+BB labels+(1+name.length)+(1+proc.length)+q7j args+gL thn+gL els
def gL:List S→Nat
 | []=>0
 | s::r=>gS s+gL r
end
def z5o:List Param→Nat
 | []=>0
 | a::r=>1+a.name.length+z5o r
def gPr (f:Pr):Nat:=1+f.name.length+BB f.vars+BB f.fin+z5o f.params+gL f.body
def x5y:List Pr→Nat
 | []=>0
 | f::r=>gPr f+x5y r
def gPg (p:Pg):Nat:=BB p.globals+x5y p.procs
theorem w5q (s:S):gS s=gX s.x+BB s.labels+(1+s.name.length)+(1+s.proc.length)+q7j s.args+gL s.thn+gL s.els:=by
 cases s
 rw [gS]
 rfl
theorem x3d : ∀ l:List Str,z6q l≤BB l
 | []=>Nat.le_refl _
 | s::r=>by have:=x3d r;simp only [z6q,BB];omega
mutual
theorem w4y : ∀ x:X,wX x≤gX x
 | .mk _ _ name kids=>by have:=w2e kids;rw [wX,gX];omega
theorem w2e : ∀ l:List X,wXs l≤gXs l
 | []=>by rw [wXs];omega
 | x::r=>by have:=w4y x;have:=w2e r;rw [wXs,gXs];omega
end
theorem z3o : ∀ l:List Arg,x0v l≤q7j l
 | []=>Nat.le_refl _
 | a::r=>by have:=z3o r;have:=w4y a.x;simp only [x0v,q7j];omega
mutual
theorem w6w : ∀ s:S,wS s≤gS s
 | .mk _ _ labels name proc x _ args thn els=>by
   have:=w4y x;have:=x3d labels;have:=z3o args;have:=w3y thn;have:=w3y els
   rw [wS,gS];omega
theorem w3y : ∀ l:List S,wL l≤gL l
 | []=>by rw [wL];omega
 | s::r=>by have:=w6w s;have:=w3y r;rw [wL,gL];omega
end
theorem z8o : ∀ l:List Param,w1i l≤z5o l
 | []=>Nat.le_refl _
 | a::r=>by have:=z8o r;simp only [w1i,z5o];omega
theorem z8e : ∀ l:List Pr,z9v l≤x5y l
 | []=>Nat.le_refl _
 | f::r=>by
   have:=z8e r;have:=x3d f.vars;have:=x3d f.fin;have:=z8o f.params;have:=w3y f.body
   simp only [z9v,x5y,wPr,gPr];omega
theorem w4z (p:Pg):wPg p≤gPg p:=by
 have:=x3d p.globals;have:=z8e p.procs
 unfold wPg gPg;omega
def XQ (x:Int):Int:=if x>20000 then 20001 else x
theorem XO {a b:Int} (hb:0≤b):XQ (XQ a+b)=XQ (a+b):=by
 unfold XQ
 split<;>split<;>(try split)<;>omega
theorem XR {a:Int} (h:0≤a):0≤XQ a∧XQ a≤20001:=by
 unfold XQ
 split<;>omega
theorem q9c {a:Int} (h:a≤20001):XQ a=a:=by
 unfold XQ
 split<;>omega
theorem UY {a b:Int} (h:a>20000) (h1:a≤20001) (hb:0≤b):a=XQ (a+b):=by
 unfold XQ
 split<;>omega
theorem QB (s:Str) (n:Int) (hn:0≤n∧n≤20001):SpecP Tryz.prog 77 [.str s,.int .i64 n] (fun r=>r = .int .i64 (XQ (n+(1+s.length:Nat)))):=by
 refine SpecP.body KP QQ Tryz.func77 rfl Tryz.call77 (by show 2≤_;decide) ?_
 conv=>whnf
 repeat' (first|((first|intro (_:_≤9223372036854775807)|refine Wr.i64 (by omega) (by omega) ?_);conv=>whnf)|(refine Br.dec (fun _=>?_) (fun _=>?_)<;>first|(exfalso;omega)|conv=>whnf))
 all_goals exact RetK.int (by unfold XQ;(repeat' split)<;>omega)
theorem XF (l:List Str) (n:Int) (hn:0≤n∧n≤20001):SpecP Tryz.prog 76 [QH l,.int .i64 n] (fun r=>r = .int .i64 (XQ (n+BB l))):=by
 refine SpecP.body JI QQ Tryz.func76 rfl Tryz.call76 (by show 2≤_;decide) ?_
 conv=>whnf
 skip
 have hl:(l.map AV.str).length=l.length:=List.length_map _
 refine LoopK.inv QQ (fun x:Nat×Int=>⟨[(0,.p (QH l)),(1,.p (.int .i64 x.2)),(5,.p (.int .i64 x.1))],[]⟩) (fun x=>x.1≤l.length∧(0≤x.2∧x.2≤20001)∧XQ (x.2+BB (l.drop x.1))=XQ (n+BB l)) (fun x=>l.length-x.1) (0,n) (Le.of_eq rfl) ⟨Nat.zero_le _,hn,rfl⟩ ?_
 rintro ⟨j,m⟩ ⟨h2,h3,h4⟩
 simp only at h2 h3 h4 ⊢
 rcases Nat.lt_or_ge j l.length with hj|hj
 ·rw [List.drop_eq_getElem_cons hj,BB] at h4
  conv=>whnf
  repeat' (first|((first|intro (_:_≤9223372036854775807)|(refine CallK.pure (QB _ _ h3) (by repeat' (first|exact ArgP.nil|refine ArgP.cons ?_ ?_|exact Sub.refl _|exact Sub.tt rfl|exact Sub.ff rfl|exact Sub.int (by omega))) ?_;rintro _ rfl)|refine IdxK.map (by omega) (fun _=>rfl) ?_|refine Wr.i64 (by omega) (by omega) ?_);conv=>whnf)|(refine Br.dec (fun _=>?_) (fun _=>?_)<;>first|(exfalso;omega)|conv=>whnf))
  ·have h5:XQ (XQ (m+(1+l[j].length:Nat))+BB (l.drop (j+1)))=XQ (n+BB l):=by
    rw [XO (by omega),← h4]
    congr 1
    omega
   exact ⟨(j+1,XQ (m+(1+l[j].length:Nat))),⟨by simp only;omega,XR (by omega),h5⟩,by simp only;omega,Le.of_eq rfl⟩
  ·exact RetK.int (by rw [← h4];exact UY (by omega) h3.2 (by omega))
 ·rw [List.drop_eq_nil_of_le hj,BB] at h4
  conv=>whnf
  repeat' (first|(intro (_:_≤9223372036854775807);conv=>whnf)|(refine Br.dec (fun _=>?_) (fun _=>?_)<;>first|(exfalso;omega)|conv=>whnf))
  exact RetK.int (by rw [← h4,q9c (by omega)];simp)
theorem VI : ∀ (k:Nat) (x:X) (_:gX x<k) (n:Int) (_:0≤n∧n≤20001),SpecP Tryz.prog 135 [.agg x.cells,.int .i64 n] (fun r=>r = .int .i64 (XQ (n+gX x))):=by
 intro k
 induction k with
 | zero=>intro x h;omega
 | succ k ih =>
   intro x hx n hn
   have hxe:gX x=1+x.name.length+gXs x.kids:=by cases x;rw [gX];rfl
   have hkl:=X.avs_len x.kids
   refine SpecP.body KD QQ Tryz.func135 rfl Tryz.call135 (by show 2≤_;decide) ?_
   conv=>whnf
   repeat' (refine CallK.pure (QB _ _ hn) (by repeat' (first|exact ArgP.nil|refine ArgP.cons ?_ ?_|exact Sub.refl _|exact Sub.tt rfl|exact Sub.ff rfl|exact Sub.int (by omega))) ?_;rintro _ rfl;conv=>whnf)
   refine LoopK.inv QQ (fun y:Nat×Int=>⟨[(1,.p (.int .i64 y.2)),(2,.p (.ip x.cells)),(5,.p (.int .i64 y.1))],[]⟩) (fun y=>y.1≤x.kids.length∧(0≤y.2∧y.2≤20001)∧XQ (y.2+gXs (x.kids.drop y.1))=XQ (n+gX x)) (fun y=>x.kids.length-y.1) (0,XQ (n+(1+x.name.length:Nat))) (Le.of_eq rfl) ⟨Nat.zero_le _,XR (by omega),by
    show XQ (XQ (n+(1+x.name.length:Nat))+gXs x.kids)=_
    rw [XO (by omega),hxe]
    congr 1
    omega⟩ ?_
   rintro ⟨j,m⟩ ⟨h2,h3,h4⟩
   simp only at h2 h3 h4 ⊢
   rcases Nat.lt_or_ge j x.kids.length with hj|hj
   ·rw [List.drop_eq_getElem_cons hj,gXs] at h4
    have hkw:gX x.kids[j]<k:=by
     have : ∀ (l:List X) (y:X),y∈l→gX y≤gXs l:=fun l=>by
      induction l with
      | nil=>intro y h;cases h
      | cons a r ih =>
        intro y h
        rw [gXs]
        rcases List.mem_cons.1 h with rfl|h
        ·omega
        ·have:=ih y h;omega
     have:=this x.kids _ (List.getElem_mem hj)
     omega
    conv=>whnf
    repeat' (first|((first|intro (_:_≤9223372036854775807)|refine IdxK.xs (by omega) ?_|refine Wr.i64 (by omega) (by omega) ?_|(refine CallK.pure (ih (x.kids[j]'hj) hkw m h3) (.cons (Sub.refl _) (.cons (Sub.refl _) .nil)) ?_;rintro _ rfl));conv=>whnf)|(refine Br.dec (fun _=>?_) (fun _=>?_)<;>first|(exfalso;omega)|conv=>whnf))
    ·have h5:XQ (XQ (m+gX x.kids[j])+gXs (x.kids.drop (j+1)))=XQ (n+gX x):=by
      rw [XO (by omega),← h4]
      congr 1
      omega
     exact ⟨(j+1,XQ (m+gX x.kids[j])),⟨by simp only;omega,XR (by omega),h5⟩,by simp only;omega,Le.of_eq rfl⟩
    ·exact RetK.int (by rw [← h4];exact UY (by omega) h3.2 (by omega))
   ·rw [List.drop_eq_nil_of_le hj,gXs] at h4
    conv=>whnf
    repeat' (first|(intro (_:_≤9223372036854775807);conv=>whnf)|(refine Br.dec (fun _=>?_) (fun _=>?_)<;>first|(exfalso;omega)|conv=>whnf))
    exact RetK.int (by rw [← h4,q9c (by omega)];simp)
theorem z9j : ∀ (l:List S) (y:S),y∈l→gS y≤gL l
 | [],y,h=>by cases h
 | a::r,y,h=>by
   rw [gL]
   rcases List.mem_cons.1 h with rfl|h
   ·omega
   ·have:=z9j r y h;omega
theorem VB : ∀ (k:Nat) (l:List S) (_:gL l<k) (n:Int) (_:0≤n∧n≤20001),SpecP Tryz.prog 78 [eSs l,.int .i64 n] (fun r=>r = .int .i64 (XQ (n+gL l))):=by
 intro k
 induction k with
 | zero=>intro l h;omega
 | succ k ih =>
   intro l hl n hn
   have hkl:=S.avs_len l
   refine SpecP.body KU QQ Tryz.func78 rfl Tryz.call78 (by show 2≤_;decide) ?_
   conv=>whnf
   skip
   refine LoopK.inv QQ (fun y:Nat×Int=>⟨[(0,.p (eSs l)),(1,.p (.int .i64 y.2)),(5,.p (.int .i64 y.1))],[]⟩) (fun y=>y.1≤l.length∧(0≤y.2∧y.2≤20001)∧XQ (y.2+gL (l.drop y.1))=XQ (n+gL l)) (fun y=>l.length-y.1) (0,n) (Le.of_eq rfl) ⟨Nat.zero_le _,hn,rfl⟩ ?_
   rintro ⟨j,m⟩ ⟨h2,h3,h4⟩
   simp only at h2 h3 h4 ⊢
   rcases Nat.lt_or_ge j l.length with hj|hj
   rotate_left 1
   ·rw [List.drop_eq_nil_of_le hj,gL] at h4
    conv=>whnf
    repeat' (first|(intro (_:_≤9223372036854775807);conv=>whnf)|(refine Br.dec (fun _=>?_) (fun _=>?_)<;>first|(exfalso;omega)|conv=>whnf))
    exact RetK.int (by rw [← h4,q9c (by omega)];simp)
   rw [List.drop_eq_getElem_cons hj,gL] at h4
   have hsw:=z9j l _ (List.getElem_mem hj)
   have hse:=w5q l[j]
   have q1:=XR (a:=m+gX l[j].x) (by omega)
   have q2:=XR (a:=XQ (m+gX l[j].x)+BB l[j].labels) (by omega)
   have q3:=XR (a:=XQ (XQ (m+gX l[j].x)+BB l[j].labels)+(1+l[j].name.length:Nat)) (by omega)
   conv=>whnf
   repeat' (first|((first|intro (_:_≤9223372036854775807)|refine DrawK.auto QQ mixed (by kernel_rfl) ?_|refine And.intro rfl ?_|refine IdxK.ss (by omega) ?_|(refine CallK.pure (VI (gX l[j].x+1) l[j].x (by omega) m h3) (.cons (Sub.refl _) (.cons (Sub.refl _) .nil)) ?_;rintro _ rfl)|(refine CallK.pure (XF l[j].labels _ q1) (.cons (Sub.refl _) (.cons (Sub.refl _) .nil)) ?_;rintro _ rfl)|(refine CallK.pure (QB l[j].name _ q2) (.cons (Sub.refl _) (.cons (Sub.refl _) .nil)) ?_;rintro _ rfl)|(refine CallK.pure (QB l[j].proc _ q3) (.cons (Sub.refl _) (.cons (Sub.refl _) .nil)) ?_;rintro _ rfl));conv=>whnf)|(refine Br.dec (fun _=>?_) (fun _=>?_)<;>first|(exfalso;omega)|conv=>whnf))
   rotate_left 1
   ·exact RetK.int (by rw [← h4];exact UY (by omega) h3.2 (by omega))
   have q4:=XR (a:=XQ (XQ (XQ (m+gX l[j].x)+BB l[j].labels)+(1+l[j].name.length:Nat))+(1+l[j].proc.length:Nat)) (by omega)
   have h5:XQ (XQ (XQ (XQ (XQ (m+gX l[j].x)+BB l[j].labels)+(1+l[j].name.length:Nat))+(1+l[j].proc.length:Nat))+(q7j l[j].args+(gL l[j].thn+gL l[j].els+gL (l.drop (j+1))):Nat))=XQ (n+gL l):=by
    rw [XO (by omega),Int.add_assoc,XO (by omega),Int.add_assoc,XO (by omega),Int.add_assoc,XO (by omega),← h4,hse]
    congr 1
    omega
   generalize XQ (XQ (XQ (XQ (m+gX l[j].x)+BB l[j].labels)+(1+l[j].name.length:Nat))+(1+l[j].proc.length:Nat))=m0 at q4 h5 ⊢
   have hal:(l[j].args.map fun a=>AV.agg a.cells).length=l[j].args.length:=List.length_map _
   refine LoopK.inv QQ (fun y:Nat×Int=>⟨[(0,.p (eSs l)),(1,.p (.int .i64 y.2)),(5,.p (.int .i64 j)),(6,.p (.ip l[j].cells)),(7,.p (.int .i64 y.1))],[]⟩) (fun y=>y.1≤l[j].args.length∧(0≤y.2∧y.2≤20001)∧XQ (y.2+(q7j (l[j].args.drop y.1)+(gL l[j].thn+gL l[j].els+gL (l.drop (j+1))):Nat))=XQ (n+gL l)) (fun y=>l[j].args.length-y.1) (0,m0) (Le.of_eq rfl) ⟨Nat.zero_le _,q4,h5⟩ ?_
   rintro ⟨a,m2⟩ ⟨h6,h7,h8⟩
   simp only at h6 h7 h8 ⊢
   have fin:XQ (m2+(gL l[j].thn+gL l[j].els+gL (l.drop (j+1)):Nat))=XQ (n+gL l)→(0≤XQ (XQ (m2+gL l[j].thn)+gL l[j].els)∧XQ (XQ (m2+gL l[j].thn)+gL l[j].els)≤20001)∧XQ (XQ (XQ (m2+gL l[j].thn)+gL l[j].els)+gL (l.drop (j+1)))=XQ (n+gL l):=fun h=>by
    have:=XR (a:=m2+gL l[j].thn) (by omega)
    refine ⟨XR (by omega),?_⟩
    rw [XO (by omega),Int.add_assoc,XO (by omega),← h]
    congr 1
    omega
   have r1:=XR (a:=m2+gL l[j].thn) (by omega)
   have full:m2>20000→XQ (m2+(gL l[j].thn+gL l[j].els+gL (l.drop (j+1)):Nat))=XQ (n+gL l):=fun h=>by
    rw [← h8,← UY h h7.2 (by omega),← UY h h7.2 (by omega)]
   rcases Nat.lt_or_ge a l[j].args.length with ha|ha
   rotate_left 1
   ·have h9:XQ (m2+(gL l[j].thn+gL l[j].els+gL (l.drop (j+1)):Nat))=XQ (n+gL l):=by
     rw [List.drop_eq_nil_of_le ha,q7j,Nat.zero_add] at h8
     exact h8
    obtain ⟨f1,f2⟩:=fin h9
    conv=>whnf
    repeat' (first|((first|intro (_:_≤9223372036854775807)|refine DrawK.auto QQ mixed (by kernel_rfl) ?_|refine Wr.i64 (by omega) (by omega) ?_|(refine CallK.pure (ih l[j].thn (by omega) m2 h7) (.cons (Sub.refl _) (.cons (Sub.refl _) .nil)) ?_;rintro _ rfl)|(refine CallK.pure (ih l[j].els (by omega) _ r1) (.cons (Sub.refl _) (.cons (Sub.refl _) .nil)) ?_;rintro _ rfl));conv=>whnf)|(refine Br.dec (fun _=>?_) (fun _=>?_)<;>first|(exfalso;omega)|conv=>whnf))
    all_goals exact ⟨(j+1,XQ (XQ (m2+gL l[j].thn)+gL l[j].els)),⟨by simp only;omega,f1,f2⟩,by simp only;omega,Le.of_eq rfl⟩
   rw [List.drop_eq_getElem_cons ha,q7j] at h8
   have q5:=XR (a:=m2+gX l[j].args[a].x) (by omega)
   conv=>whnf
   repeat' (first|((first|intro (_:_≤9223372036854775807)|refine DrawK.auto QQ mixed (by kernel_rfl) ?_|refine IdxK.map (by omega) (fun _=>rfl) ?_|refine Wr.i64 (by omega) (by omega) ?_|(refine CallK.pure (VI (gX l[j].args[a].x+1) l[j].args[a].x (by omega) m2 h7) (.cons (Sub.refl _) (.cons (Sub.refl _) .nil)) ?_;rintro _ rfl)|(refine CallK.pure (QB l[j].args[a].name _ q5) (.cons (Sub.refl _) (.cons (Sub.refl _) .nil)) ?_;rintro _ rfl)|(refine CallK.pure (ih l[j].thn (by omega) m2 h7) (.cons (Sub.refl _) (.cons (Sub.refl _) .nil)) ?_;rintro _ rfl)|(refine CallK.pure (ih l[j].els (by omega) _ r1) (.cons (Sub.refl _) (.cons (Sub.refl _) .nil)) ?_;rintro _ rfl));conv=>whnf)|(refine Br.dec (fun _=>?_) (fun _=>?_)<;>first|(exfalso;omega)|conv=>whnf))
   ·have h10:XQ (XQ (XQ (m2+gX l[j].args[a].x)+(1+l[j].args[a].name.length:Nat))+(q7j (l[j].args.drop (a+1))+(gL l[j].thn+gL l[j].els+gL (l.drop (j+1))):Nat))=XQ (n+gL l):=by
     rw [XO (by omega),Int.add_assoc,XO (by omega),← h8]
     congr 1
     omega
    exact ⟨(a+1,XQ (XQ (m2+gX l[j].args[a].x)+(1+l[j].args[a].name.length:Nat))),⟨by simp only;omega,XR (by omega),h10⟩,by simp only;omega,Le.of_eq rfl⟩
   ·obtain ⟨f1,f2⟩:=fin (full (by omega))
    exact ⟨(j+1,XQ (XQ (m2+gL l[j].thn)+gL l[j].els)),⟨by simp only;omega,f1,f2⟩,by simp only;omega,Le.of_eq rfl⟩
open Go.Proofs
def z9h (p:Pg):Bool:=decide (gPg p≤20000)
theorem w3x {p:Pg} (h:z9h p=true):Fit p:=by
 have:=w4z p
 have h1:gPg p≤20000:=by simpa [z9h] using h
 unfold Fit
 omega
theorem UW (p:Pg):SpecP Tryz.prog 16 [.agg p.cells] (fun r=>r = .bool (z9h p)):=by
 refine SpecP.body PX QQ Tryz.func16 rfl Tryz.call16 (by show 1≤_;decide) ?_
 conv=>whnf
 have hl:(p.procs.map fun f=>AV.agg f.cells).length=p.procs.length:=List.length_map _
 have q0:=XR (a:=0+BB p.globals) (by omega)
 repeat' (refine CallK.pure (XF p.globals 0 (by omega)) (.cons (Sub.refl _) (.cons (Sub.refl _) .nil)) ?_;rintro _ rfl;conv=>whnf)
 refine LoopK.inv QQ (fun y:Nat×Int=>⟨[(1,.p (.ip p.cells)),(3,.p (.int .i64 y.2)),(4,.p (.int .i64 y.1))],[]⟩) (fun y=>y.1≤p.procs.length∧(0≤y.2∧y.2≤20001)∧XQ (y.2+x5y (p.procs.drop y.1))=XQ (gPg p:Nat)) (fun y=>p.procs.length-y.1) (0,XQ (0+BB p.globals)) (Le.of_eq rfl) ⟨Nat.zero_le _,q0,by
  show XQ (XQ (0+BB p.globals)+x5y p.procs)=_
  rw [XO (by omega)]
  congr 1
  unfold gPg
  omega⟩ ?_
 rintro ⟨j,m⟩ ⟨h2,h3,h4⟩
 simp only at h2 h3 h4 ⊢
 have last : ∀ {x:Int},0≤x∧x≤20001→XQ x=XQ (gPg p:Nat)→(decide (x≤20000))=z9h p:=fun {x} hx h=>by
  unfold z9h
  unfold XQ at h
  by_cases h1:gPg p≤20000
  ·rw [decide_eq_true h1,decide_eq_true_eq]
   split at h<;>split at h<;>omega
  ·rw [decide_eq_false h1,decide_eq_false_iff_not]
   split at h<;>split at h<;>omega
 rcases Nat.lt_or_ge j p.procs.length with hj|hj
 rotate_left 1
 ·rw [List.drop_eq_nil_of_le hj,x5y] at h4
  conv=>whnf
  repeat' (first|(intro (_:_≤9223372036854775807);conv=>whnf)|(refine Br.dec (fun _=>?_) (fun _=>?_)<;>first|(exfalso;omega)|conv=>whnf))
  all_goals exact RetK.bool (last h3 (by rw [← h4];simp))
 rw [List.drop_eq_getElem_cons hj,x5y] at h4
 have hpe:gPr p.procs[j]=1+p.procs[j].name.length+BB p.procs[j].vars+BB p.procs[j].fin+z5o p.procs[j].params+gL p.procs[j].body:=rfl
 have q1:=XR (a:=m+(1+p.procs[j].name.length:Nat)) (by omega)
 have q2:=XR (a:=XQ (m+(1+p.procs[j].name.length:Nat))+BB p.procs[j].vars) (by omega)
 have q3:=XR (a:=XQ (XQ (m+(1+p.procs[j].name.length:Nat))+BB p.procs[j].vars)+BB p.procs[j].fin) (by omega)
 conv=>whnf
 repeat' (first|((first|intro (_:_≤9223372036854775807)|refine DrawK.auto QQ mixed (by kernel_rfl) ?_|refine And.intro rfl ?_|refine IdxK.map (by omega) (fun _=>rfl) ?_|(refine CallK.pure (QB p.procs[j].name _ h3) (.cons (Sub.refl _) (.cons (Sub.refl _) .nil)) ?_;rintro _ rfl)|(refine CallK.pure (XF p.procs[j].vars _ q1) (.cons (Sub.refl _) (.cons (Sub.refl _) .nil)) ?_;rintro _ rfl)|(refine CallK.pure (XF p.procs[j].fin _ q2) (.cons (Sub.refl _) (.cons (Sub.refl _) .nil)) ?_;rintro _ rfl));conv=>whnf)|(refine Br.dec (fun _=>?_) (fun _=>?_)<;>first|(exfalso;omega)|conv=>whnf))
 rotate_left 1
 ·exact RetK.bool (last h3 (by rw [← h4,← UY (by omega) h3.2 (by omega),q9c h3.2]))
 have h5:XQ (XQ (XQ (XQ (m+(1+p.procs[j].name.length:Nat))+BB p.procs[j].vars)+BB p.procs[j].fin)+(z5o p.procs[j].params+(gL p.procs[j].body+x5y (p.procs.drop (j+1))):Nat))=XQ (gPg p:Nat):=by
  rw [XO (by omega),Int.add_assoc,XO (by omega),Int.add_assoc,XO (by omega),← h4,hpe]
  congr 1
  omega
 generalize XQ (XQ (XQ (m+(1+p.procs[j].name.length:Nat))+BB p.procs[j].vars)+BB p.procs[j].fin)=m0 at q3 h5 ⊢
 have hal:(p.procs[j].params.map fun a=>AV.agg a.cells).length=p.procs[j].params.length:=List.length_map _
 refine LoopK.inv QQ (fun y:Nat×Int=>⟨[(1,.p (.ip p.cells)),(3,.p (.int .i64 y.2)),(4,.p (.int .i64 j)),(5,.p (.ip p.procs[j].cells)),(6,.p (.int .i64 y.1))],[]⟩) (fun y=>y.1≤p.procs[j].params.length∧(0≤y.2∧y.2≤20001)∧XQ (y.2+(z5o (p.procs[j].params.drop y.1)+(gL p.procs[j].body+x5y (p.procs.drop (j+1))):Nat))=XQ (gPg p:Nat)) (fun y=>p.procs[j].params.length-y.1) (0,m0) (Le.of_eq rfl) ⟨Nat.zero_le _,q3,h5⟩ ?_
 rintro ⟨a,m2⟩ ⟨h6,h7,h8⟩
 simp only at h6 h7 h8 ⊢
 have fin:XQ (m2+(gL p.procs[j].body+x5y (p.procs.drop (j+1)):Nat))=XQ (gPg p:Nat)→(0≤XQ (m2+gL p.procs[j].body)∧XQ (m2+gL p.procs[j].body)≤20001)∧XQ (XQ (m2+gL p.procs[j].body)+x5y (p.procs.drop (j+1)))=XQ (gPg p:Nat):=fun h=>by
  refine ⟨XR (by omega),?_⟩
  rw [XO (by omega),← h]
  congr 1
  omega
 have full:m2>20000→XQ (m2+(gL p.procs[j].body+x5y (p.procs.drop (j+1)):Nat))=XQ (gPg p:Nat):=fun h=>by
  rw [← h8,← UY h h7.2 (by omega),← UY h h7.2 (by omega)]
 rcases Nat.lt_or_ge a p.procs[j].params.length with ha|ha
 rotate_left 1
 ·have h9:XQ (m2+(gL p.procs[j].body+x5y (p.procs.drop (j+1)):Nat))=XQ (gPg p:Nat):=by
   rw [List.drop_eq_nil_of_le ha,z5o,Nat.zero_add] at h8
   exact h8
  obtain ⟨f1,f2⟩:=fin h9
  conv=>whnf
  repeat' (first|((first|intro (_:_≤9223372036854775807)|refine Wr.i64 (by omega) (by omega) ?_|(refine CallK.pure (VB (gL p.procs[j].body+1) p.procs[j].body (by omega) m2 h7) (.cons (Sub.refl _) (.cons (Sub.refl _) .nil)) ?_;rintro _ rfl));conv=>whnf)|(refine Br.dec (fun _=>?_) (fun _=>?_)<;>first|(exfalso;omega)|conv=>whnf))
  all_goals exact ⟨(j+1,XQ (m2+gL p.procs[j].body)),⟨by simp only;omega,f1,f2⟩,by simp only;omega,Le.of_eq rfl⟩
 rw [List.drop_eq_getElem_cons ha,z5o] at h8
 conv=>whnf
 repeat' (first|((first|intro (_:_≤9223372036854775807)|refine IdxK.map (by omega) (fun _=>rfl) ?_|refine Wr.i64 (by omega) (by omega) ?_|(refine CallK.pure (QB p.procs[j].params[a].name _ h7) (.cons (Sub.refl _) (.cons (Sub.refl _) .nil)) ?_;rintro _ rfl)|(refine CallK.pure (VB (gL p.procs[j].body+1) p.procs[j].body (by omega) m2 h7) (.cons (Sub.refl _) (.cons (Sub.refl _) .nil)) ?_;rintro _ rfl));conv=>whnf)|(refine Br.dec (fun _=>?_) (fun _=>?_)<;>first|(exfalso;omega)|conv=>whnf))
 ·have h10:XQ (XQ (m2+(1+p.procs[j].params[a].name.length:Nat))+(z5o (p.procs[j].params.drop (a+1))+(gL p.procs[j].body+x5y (p.procs.drop (j+1))):Nat))=XQ (gPg p:Nat):=by
   rw [XO (by omega),← h8]
   congr 1
   omega
  exact ⟨(a+1,XQ (m2+(1+p.procs[j].params[a].name.length:Nat))),⟨by simp only;omega,XR (by omega),h10⟩,by simp only;omega,Le.of_eq rfl⟩
 ·obtain ⟨f1,f2⟩:=fin (full (by omega))
  exact ⟨(j+1,XQ (m2+gL p.procs[j].body)),⟨by simp only;omega,f1,f2⟩,by simp only;omega,Le.of_eq rfl⟩
open Go.Proofs
inductive SubE:List AV→List AV→Prop
 | nil:SubE [] []
 | cons {a b:AV} {xs ys:List AV} (h:SubL a.cells b.cells) (hs:SubE xs ys):SubE (a::xs) (b::ys)
theorem SubE.get {xs ys:List AV} (h:SubE xs ys):xs.length=ys.length ∧ ∀ (i:Nat) (b:AV),ys[i]? = some b → ∃ a,xs[i]? = some a∧SubL a.cells b.cells:=by
 induction h with
 | nil=>exact ⟨rfl,by simp⟩
 | cons h hs ih =>
   refine ⟨by simp [ih.1],fun i b hb => ?_⟩
   cases i with
   | zero=>simp at hb;subst hb;exact ⟨_,rfl,h⟩
   | succ i=>exact ih.2 i b (by simpa using hb)
theorem Sub.sl {xs ys:List AV} (h:SubE xs ys):Sub (.sl xs) (.sl ys):=fun σ v hr=>by
 obtain ⟨hl,hg⟩:=h.get
 cases hr with
 | nilsl =>
   obtain rfl:ys=[]:=by simpa using hl.symm
   exact .nilsl
 | slz b =>
   obtain rfl:ys=[]:=by simpa using hl.symm
   exact .slz b
 | sl _ b off cap sz cells u hb hcap hmax hsz hc hrr =>
   rw [hl]
   refine .sl ys b off cap sz cells u hb (by omega) hmax (fun i e hi => ?_) (fun i e j c hi hj => ?_) (fun i e j c hi hj => ?_)
   ·obtain ⟨a,h1,h2⟩:=hg i e hi
    rw [← hsz i a h1,h2.1]
   ·obtain ⟨a,h1,h2⟩:=hg i e hi
    obtain ⟨d,h3,_⟩:=h2.get hj
    exact hc i a j d h1 h3
   ·obtain ⟨a,h1,h2⟩:=hg i e hi
    obtain ⟨d,h3,h4⟩:=h2.get hj
    exact h4 _ _ (hrr i a j d h1 h3)
theorem q2s (n:Int):SpecP Tryz.prog 131 [.int .i64 n] (fun r=>r = .agg (X.mk 1 n [] []).cells):=by
 refine SpecP.body MF QQ Tryz.func131 rfl Tryz.call131 (by show 1≤_;decide) ?_
 conv=>whnf
 repeat' (refine And.intro rfl ?_;conv=>whnf)
 exact ⟨_,.p (Sub.agg (by repeat' (first|exact SubL.nil|refine SubL.cons ?_ ?_|exact Sub.refl _|exact Sub.nils|exact Sub.ff rfl))),rfl⟩
theorem q0g (s:Str):SpecP Tryz.prog 132 [.str s] (fun r=>r = .agg (X.mk 2 0 s []).cells):=by
 refine SpecP.body PB QQ Tryz.func132 rfl Tryz.call132 (by show 1≤_;decide) ?_
 conv=>whnf
 repeat' (refine And.intro rfl ?_;conv=>whnf)
 exact ⟨_,.p (Sub.agg (by repeat' (first|exact SubL.nil|refine SubL.cons ?_ ?_|exact Sub.refl _|exact Sub.nils|exact Sub.ff rfl))),rfl⟩
theorem HU (op:Int) (a b:X):SpecP Tryz.prog 133 [.int .i64 op,.agg a.cells,.agg b.cells] (fun r=>r = .agg (X.mk op 0 [] [a,b]).cells):=by
 refine SpecP.body LX QQ Tryz.func133 rfl Tryz.call133 (by show 3≤_;decide) ?_
 conv=>whnf
 repeat' ((first|refine And.intro rfl ?_|(refine And.intro ⟨by decide,by decide⟩ ?_)|refine BsK.pureL rfl rfl ?_);conv=>whnf)
 have e:X.avs [a,b]=[.agg a.cells,.agg b.cells]:=by simp only [X.avs,X.av_eq]
 exact ⟨_,.p (Sub.agg (SubL.cons (Sub.refl _) (SubL.cons (Sub.refl _) (SubL.cons (Sub.refl _) (SubL.cons (Sub.of_eq (by show _=AV.sl (X.avs [a,b]);rw [e];rfl)) SubL.nil))))),rfl⟩
def bs (l:List Nat):Str:=l.map fun n=>UInt8.ofNat n
def someP:Pg:=⟨[[103]],[
 ⟨[109,97,105,110],[],[[118]],[
   .mk 1 1 [] [118] [] (.mk 1 2 [] []) false [] [] [],
   .mk 2 4 [] [103] [112] (.mk 0 0 [] []) false [⟨false,[],.mk 1 3 [] []⟩,⟨true,[118],.mk 0 0 [] []⟩] [] [],
   .mk 3 3 [] [] [] (.mk 2 0 [118] []) false [] [] [],
   .mk 4 3 [] [] [] (.mk 2 0 [103] []) false [] [] []],[]⟩,
 ⟨[112],[⟨[120],false⟩,⟨[121],true⟩],[],[
   .mk 5 1 [] [121] [] (.mk 8 0 [] [.mk 2 0 [121] [],.mk 2 0 [120] []]) false [] [] [],
   .mk 6 5 [] [] [] (.mk 12 0 [] [.mk 2 0 [121] [],.mk 1 9 [] []]) false [] [.mk 7 10 [] [101] [] (.mk 0 0 [] []) false [] [] []] [],
   .mk 8 9 [] [] [] (.mk 2 0 [121] []) true [] [] []],[[101]]⟩]⟩
theorem q0o:SpecP Tryz.prog 74 [] (fun r=>r = .agg someP.cells):=by
 refine SpecP.body PU QQ Tryz.func74 rfl Tryz.call74 (by show 0≤_;decide) ?_
 conv=>whnf
 repeat' ((first|(refine CallK.pure (q2s _) (by repeat' (first|exact ArgP.nil|refine ArgP.cons ?_ ?_|exact Sub.refl _|exact Sub.tt rfl|exact Sub.ff rfl)) ?_;rintro _ rfl)|(refine CallK.pure (q0g _) (by repeat' (first|exact ArgP.nil|refine ArgP.cons ?_ ?_|exact Sub.refl _|exact Sub.tt rfl|exact Sub.ff rfl)) ?_;rintro _ rfl)|refine And.intro rfl ?_|(refine And.intro ⟨by decide,by decide⟩ ?_)|refine BsK.pure (fun x hx=>by rcases List.mem_singleton.1 hx with rfl;rfl) rfl ?_|refine BsK.pureL rfl rfl ?_|(refine CallK.pure (HU 8 (.mk 2 0 [121] []) (.mk 2 0 [120] [])) (.cons (Sub.refl _) (.cons (Sub.refl _) (.cons (Sub.refl _) .nil))) ?_;rintro _ rfl)|(refine CallK.pure (HU 12 (.mk 2 0 [121] []) (.mk 1 9 [] [])) (.cons (Sub.refl _) (.cons (Sub.refl _) (.cons (Sub.refl _) .nil))) ?_;rintro _ rfl));conv=>whnf)
 exact ⟨_,.p (Sub.agg (by repeat' (first|exact SubL.nil|exact SubE.nil|exact Sub.nils|exact Sub.ff rfl|exact Sub.tt rfl|refine SubL.cons ?_ ?_|refine SubE.cons ?_ ?_|exact Sub.refl _|refine Sub.agg ?_|refine Sub.sl ?_))),rfl⟩
open Go.Proofs
theorem x1g:Fit someP:=by unfold Fit;decide
theorem x8i:ZB someP=true:=by kernel_rfl
def f0:Pr:=someP.procs[0]'(by decide)
def f1:Pr:=someP.procs[1]'(by decide)
theorem w5j:ZY (QK someP 0 f0)=[⟨0,1,1⟩,⟨1,2,1⟩,⟨2,3,1⟩,⟨3,4,1⟩,⟨4,-1,1⟩]:=by
 have h1:QK someP 0 f0=[⟨0,1,1⟩,⟨1,2,1⟩,⟨2,3,1⟩,⟨3,4,1⟩,⟨4,-1,1⟩]:=by kernel_rfl
 unfold ZY UE
 rw [h1,List.mergeSort_of_pairwise (by decide)]
 rfl
theorem w5f:ZY (QK someP 1 f1)=[⟨0,5,1⟩,⟨5,6,1⟩,⟨6,7,1⟩,⟨6,8,1⟩,⟨7,-1,1⟩,⟨8,-1,1⟩]:=by
 have h1:QK someP 1 f1=[⟨0,5,1⟩,⟨5,6,1⟩,⟨6,7,1⟩,⟨6,8,1⟩,⟨7,-1,1⟩,⟨8,-1,1⟩]:=by kernel_rfl
 unfold ZY UE
 rw [h1,List.mergeSort_of_pairwise (by decide)]
 rfl
theorem x9f:DK someP [112]=some (QX someP 1 f1):=by
 unfold DK
 rw [x8i]
 rfl
open Go.Proofs
theorem x9j {σ:Mem} {a:Step} {v:Value} (h:Rep σ (.agg a.cells) v):v = .agg #[.int .i64 a.src,.int .i64 a.dst,.int .i64 a.kind]:=by
 cases h with
 | agg cs vs u hn hc hr =>
   have hs:vs.size=3:=hn
   have g : ∀ (j:Nat) (n:Int),a.cells[j]? = some (.int .i64 n)→vs[j]? = some (.int .i64 n):=fun j n hj=>by
    have h1:=hc j _ hj
    have h2:=hr j _ hj
    cases hu:u j<;>rw [hu] at h2<;>cases h2
    rw [h1,hu]
   congr 1
   apply Array.ext_getElem?
   intro i
   match i with
   | 0=>exact g 0 _ rfl
   | 1=>exact g 1 _ rfl
   | 2=>exact g 2 _ rfl
   | i+3=>rw [Array.getElem?_eq_none (by omega),Array.getElem?_eq_none (by simp)]
open Go.Proofs
theorem z1n {p:Pg} {n:Str} (h:DK p n=none) (hc:ZB p=true):VS p n=(Pr0,false):=by
 unfold DK at h
 rw [hc,cond_true] at h
 unfold VS
 cases hq:p.procs.find? (fun f=>f.name==n) with
 | none=>rfl
 | some f=>rw [hq] at h;cases h
open Go.Proofs
theorem x5m {p:Pg} (h:ZB p=true) {j:Nat} {f:Pr} (hj:p.procs[j]? = some f):(QX p j f).real.length≤100000:=by
 obtain ⟨h1,h2⟩:=FE h hj
 have h3:=VK (z6a h1) fun s hs=>(h2 s).1 hs
 have h4:=FO p j f
 have h5:=GF _ _ (List.mem_of_getElem? hj)
 have:=(HE h).2.2
 omega
open Go.Proofs
theorem x9o : ∀ (k:Nat) (l:List S) (_:QY l<k) (_:QY l≤1000000),SpecP Tryz.prog 80 [eSs l] (fun r=>r = .int .i64 (QY l)):=by
 intro k
 induction k with
 | zero=>intro l h;omega
 | succ k ih =>
   intro l hk hl
   have hll:=S.avs_len l
   have hlc:l.length≤QY l:=by
    clear hk hl hll
    induction l with
    | nil=>simp
    | cons t r ihr=>rw [QY,WZ,List.length_cons];omega
   refine SpecP.body x3r QQ Tryz.func80 rfl Tryz.call80 (by show 1≤_;decide) ?_
   conv=>whnf
   repeat' (intro (_:_≤9223372036854775807);conv=>whnf)
   refine LoopK.inv QQ (fun y:Nat×Nat=>⟨[(0,.p (eSs l)),(3,.p (.int .i64 y.2)),(8,.p (.int .i64 (S.avs l).length)),(9,.p (.int .i64 y.1))],[]⟩) (fun y=>y.1≤l.length∧y.2+QY (l.drop y.1)=QY l+(l.length-y.1)) (fun y=>l.length-y.1) (0,l.length) (Le.of_eq (by simp only [S.avs_len];rfl)) ⟨Nat.zero_le _,by simp;omega⟩ ?_
   rintro ⟨j,n⟩ ⟨h2,h3⟩
   simp only at h2 h3 ⊢
   rcases Nat.lt_or_ge j l.length with hj|hj
   ·have hst:=LD hj
    have hcs:=WZ l[j]
    have h4:QY (l.drop j)≤QY l:=by
     have : ∀ (l:List S) (j:Nat),QY (l.drop j)≤QY l:=fun l=>by
      induction l with
      | nil=>intro j;simp
      | cons t r ihr =>
        intro j
        cases j with
        | zero=>simp
        | succ j=>rw [List.drop_succ_cons,QY];have:=ihr j;omega
     exact this l j
    conv=>whnf
    repeat' (first|((first|refine DrawK.auto QQ mixed (by kernel_rfl) ?_|refine IdxK.ss (by omega) ?_|refine Wr.i64 (by omega) (by omega) ?_|(refine CallK.pure (ih l[j].thn (by omega) (by omega)) (.cons (Sub.refl _) .nil) ?_;rintro _ rfl)|(refine CallK.pure (ih l[j].els (by omega) (by omega)) (.cons (Sub.refl _) .nil) ?_;rintro _ rfl));conv=>whnf)|(refine Br.dec (fun _=>?_) (fun _=>?_)<;>first|(exfalso;omega)|conv=>whnf))
    all_goals exact ⟨(j+1,n+(QY l[j].thn+QY l[j].els)),⟨by simp only;omega,by simp only;omega⟩,by simp only;omega,Le.of_eq rfl⟩
   ·conv=>whnf
    rw [List.drop_eq_nil_of_le hj,QY] at h3
    repeat' (refine Br.dec (fun _=>?_) (fun _=>?_)<;>first|(exfalso;omega)|conv=>whnf)
    exact RetK.int (by omega)
theorem x9l (p:Pg) (hc:cntP p.procs≤1000):SpecP Tryz.prog 18 [.agg p.cells] (fun r=>r = .int .i64 (cntP p.procs)):=by
 refine SpecP.body x3i QQ Tryz.func18 rfl Tryz.call18 (by show 1≤_;decide) ?_
 conv=>whnf
 have hl2:(p.procs.map fun f=>AV.agg f.cells).length=p.procs.length:=List.length_map _
 repeat' (intro (_:_≤9223372036854775807);conv=>whnf)
 refine LoopK.inv QQ (fun y:Nat×Nat=>⟨[(3,.p (.int .i64 y.2)),(7,.p (.sl (p.procs.map fun f => .agg f.cells))),(8,.p (.int .i64 (p.procs.map fun f=>AV.agg f.cells).length)),(9,.p (.int .i64 y.1))],[]⟩) (fun y=>y.1≤p.procs.length∧y.2+cntP (p.procs.drop y.1)=cntP p.procs) (fun y=>p.procs.length-y.1) (0,0) (Le.of_eq rfl) ⟨Nat.zero_le _,by simp⟩ ?_
 rintro ⟨j,n⟩ ⟨h2,h3⟩
 simp only at h2 h3 ⊢
 rcases Nat.lt_or_ge j p.procs.length with hj|hj
 ·have hst:=q5k hj
  have hcm:=GF _ _ (List.getElem_mem hj)
  conv=>whnf
  repeat' (first|((first|refine And.intro rfl ?_|refine IdxK.map (by omega) (fun _=>rfl) ?_|refine Wr.i64 (by omega) (by omega) ?_|(refine CallK.pure (x9o (QY p.procs[j].body+1) p.procs[j].body (by omega) (by omega)) (.cons (Sub.refl _) .nil) ?_;rintro _ rfl));conv=>whnf)|(refine Br.dec (fun _=>?_) (fun _=>?_)<;>first|(exfalso;omega)|conv=>whnf))
  exact ⟨(j+1,n+QY p.procs[j].body),⟨by simp only;omega,by simp only;omega⟩,by simp only;omega,Le.of_eq rfl⟩
 ·conv=>whnf
  rw [List.drop_eq_nil_of_le hj,cntP] at h3
  repeat' (refine Br.dec (fun _=>?_) (fun _=>?_)<;>first|(exfalso;omega)|conv=>whnf)
  exact RetK.int (by omega)
open Go.Proofs
def frR (steps:List Step) (at_:Int) (but:List Int) (a b:Int):Prop:=(a=at_∨q0u but a=false) ∧ ∃ s∈steps,s.src=a∧s.dst=b
structure FrI (steps:List Step) (at_:Int) (but:List Int) (n:Nat) (l:List Int):Prop where
 le:n≤l.length
 hd:l[0]? = some at_
 nd:l.Nodup
 sub : ∀ x∈l,x∈at_::steps.map Step.dst
 snd : ∀ x∈l,Rch (frR steps at_ but) at_ x
 cl : ∀ (m:Nat) (a:Int),m<n→l[m]? = some a → ∀ b,frR steps at_ but a b→b∈l
theorem FrI.len {steps:List Step} {at_:Int} {but:List Int} {n:Nat} {l:List Int} (h:FrI steps at_ but n l):l.length≤steps.length+1:=by
 have:=VK h.nd h.sub
 simpa using this
theorem FrI.start (steps:List Step) (at_:Int) (but:List Int):FrI steps at_ but 0 [at_]:=⟨Nat.zero_le _,rfl,by simp,by simp,fun x hx=>by rw [List.mem_singleton.1 hx];exact .refl,fun m a hm=>by omega⟩
theorem FrI.add {steps:List Step} {at_:Int} {but:List Int} {n:Nat} {l:List Int} (h:FrI steps at_ but n l) {a b:Int} (ha:a∈l) (hb:frR steps at_ but a b) (hn:q0u l b=false):FrI steps at_ but n (l++[b]):=by
 have hnm:b∉l:=fun hm=>by rw [UV.2 hm] at hn;cases hn
 have h0:0<l.length:=(List.getElem?_eq_some_iff.1 h.hd).1
 refine ⟨by rw [List.length_append];have:=h.le;omega,by rw [List.getElem?_append_left h0];exact h.hd,?_,fun x hx => ?_,fun x hx => ?_,fun m c hm hc d hd => ?_⟩
 ·rw [List.nodup_append]
  refine ⟨h.nd,by simp,fun x hx y hy => ?_⟩
  rw [List.mem_singleton.1 hy]
  exact fun e=>hnm (e▸hx)
 ·rcases List.mem_append.1 hx with hx|hx
  ·exact h.sub x hx
  ·rw [List.mem_singleton.1 hx]
   obtain ⟨_,s,hs,_,h2⟩:=hb
   exact List.mem_cons_of_mem _ (List.mem_map.2 ⟨s,hs,h2⟩)
 ·rcases List.mem_append.1 hx with hx|hx
  ·exact h.snd x hx
  ·rw [List.mem_singleton.1 hx]
   exact .tail (h.snd a ha) hb
 ·rcases Nat.lt_or_ge m l.length with hml|hml
  ·rw [List.getElem?_append_left hml] at hc
   exact List.mem_append.2 (.inl (h.cl m c hm hc d hd))
  ·have:=h.le
   omega
theorem FrI.fin {steps:List Step} {at_:Int} {but:List Int} {l:List Int} (h:FrI steps at_ but l.length l) (x:Int):x∈l↔Rch (frR steps at_ but) at_ x:=by
 refine ⟨h.snd x,fun hr=>hr.closed (S:=fun x=>x∈l) (fun a b ha hb => ?_) (List.mem_of_getElem? h.hd)⟩
 obtain ⟨m,hm⟩:=List.mem_iff_getElem?.1 ha
 exact h.cl m a (List.getElem?_eq_some_iff.1 hm).1 hm b hb
theorem FrI.next {steps:List Step} {at_:Int} {but:List Int} {n:Nat} {l:List Int} (h:FrI steps at_ but n l) (hn:n<l.length) (hc : ∀ b,frR steps at_ but l[n] b→b∈l):FrI steps at_ but (n+1) l:=by
 refine ⟨hn,h.hd,h.nd,h.sub,h.snd,fun m a hm ha b hb => ?_⟩
 rcases Nat.lt_or_ge m n with hmn|hmn
 ·exact h.cl m a hmn ha b hb
 ·obtain rfl:m=n:=by omega
  rw [List.getElem?_eq_getElem hn] at ha
  cases ha
  exact hc b hb
def w3a (steps:List Step) (at_:Int) (but:List Int) (r:AV):Prop := ∃ es,r=QS es∧(∀ x,x∈es↔Rch (frR steps at_ but) at_ x)∧es.Nodup
theorem LZ (steps:List Step) (at_:Int) (but:List Int) (hlen:steps.length≤1000000):SpecP Tryz.prog 71 [QL steps,.int .i64 at_,QS but] (fun r=>w3a steps at_ but r):=by
 refine SpecP.body DR QQ Tryz.func71 rfl Tryz.call71 (by show 3≤_;decide) ?_
 conv=>whnf
 have hsl:(steps.map fun s=>AV.agg s.cells).length=steps.length:=List.length_map _
 repeat' ((first|refine And.intro rfl ?_|(refine And.intro ⟨by decide,by decide⟩ ?_)|refine BsK.own (fun x hx=>by rcases List.mem_singleton.1 hx with rfl;rfl) rfl ?_);conv=>whnf)
 refine LoopK.inv QQ (fun x:Nat×List Int=>⟨[(0,.p (QL steps)),(2,.p (QS but)),(7,.hd 0 0 x.2.length),(8,.p (.int .i64 x.1))],[(0,.own 3 1 (x.2.map (.int .i64)))]⟩) (fun x=>x.1≤x.2.length∧FrI steps at_ but x.1 x.2) (fun x=>steps.length+2-x.1) (0,[at_]) (Le.of_eq rfl) ⟨Nat.zero_le _,FrI.start _ _ _⟩ ?_
 rintro ⟨n,l⟩ ⟨h1,h2⟩
 simp only at h1 h2 ⊢
 have hll:=h2.len
 rcases Nat.lt_or_ge n l.length with hn|hn
 rotate_left 1
 ·conv=>whnf
  repeat' (first|(intro (_:_≤9223372036854775807);conv=>whnf)|(refine Br.dec (fun _=>?_) (fun _=>?_)<;>first|(exfalso;omega)|conv=>whnf))
  have hnl:n=l.length:=by have:=h2.le;omega
  subst hnl
  exact ⟨_,.hd rfl (by simp),l,rfl,h2.fin,h2.nd⟩
 conv=>whnf
 repeat' (first|((first|intro (_:_≤9223372036854775807)|refine And.intro rfl ?_|refine Wr.i64 (by omega) (by omega) ?_|refine IdxL.mk n (by omega) (by omega) ?_|refine LdOwn.mk n 0 (.int .i64 l[n]) (by omega) (by simp [hn]) ?_|(refine CallK.pure (QA but l[n]) (.cons (Sub.refl _) (.cons (Sub.refl _) .nil)) ?_;rintro _ rfl));conv=>whnf)|(refine Br.dec (fun _=>?_) (fun _=>?_)<;>first|(exfalso;omega)|conv=>whnf)|(refine Br.b (fun _=>?_) (fun _=>?_)<;>conv=>whnf))
 ·have hb:q0u but l[n]=true:=by assumption
  have hn0:0<n:=by omega
  refine ⟨(n+1,l),⟨hn,h2.next hn fun b ⟨h3,_⟩ => ?_⟩,by simp only;omega,Le.of_eq rfl⟩
  rcases h3 with h3|h3
  ·have h4:l[0]? = l[n]? := by rw [h2.hd,List.getElem?_eq_getElem hn,h3]
   have:=(List.getElem?_inj (by omega) h2.nd).1 h4
   omega
  ·rw [hb] at h3;cases h3
 all_goals
  have hcan:l[n]=at_∨q0u but l[n]=false:=by
   first
    | exact .inr (by assumption)
    | (left
       have h5:n=0:=by omega
       have h6:=h2.hd
       subst h5
       rw [List.getElem?_eq_getElem hn] at h6
       exact Option.some.inj h6)
  refine LoopK.inv QQ (fun x:Nat×List Int=>⟨[(0,.p (QL steps)),(2,.p (QS but)),(7,.hd 0 0 x.2.length),(8,.p (.int .i64 n)),(29,.p (QL steps)),(30,.p (.int .i64 (steps.map fun s=>AV.agg s.cells).length)),(31,.p (.int .i64 x.1))],[(0,.own 3 1 (x.2.map (.int .i64)))]⟩) (fun x=>x.1≤steps.length∧l <+: x.2∧FrI steps at_ but n x.2 ∧ ∀ s∈steps.take x.1,s.src=l[n]→s.dst∈x.2) (fun x=>steps.length-x.1) (0,l) (Le.of_eq rfl) ⟨Nat.zero_le _,List.prefix_refl _,h2,by simp⟩ ?_
  rintro ⟨y,o⟩ ⟨h3,h4,h5,h6⟩
  simp only at h3 h4 h5 h6 ⊢
  have hno:n<o.length:=Nat.lt_of_lt_of_le hn h4.length_le
  have hon:o[n]=l[n]:=by
   have:=q1g h4 (List.getElem?_eq_getElem hn)
   rw [List.getElem?_eq_getElem hno] at this
   exact Option.some.inj this
  have hol:=h5.len
  have hom:(o.map (AV.int .i64)).length=o.length:=List.length_map _
  rcases Nat.lt_or_ge y steps.length with hy|hy
  ·have htk:=List.take_succ_eq_append_getElem hy
   conv=>whnf
   repeat' (first|((first|refine DrawK.auto QQ mixed (by kernel_rfl) ?_|refine And.intro rfl ?_|(refine And.intro ⟨by decide,by decide⟩ ?_)|refine BsK.pure (fun x hx=>by rcases List.mem_singleton.1 hx with rfl;rfl) rfl ?_|refine IdxK.map (by omega) (fun _=>rfl) ?_|refine Wr.i64 (by omega) (by omega) ?_|refine IdxL.mk n (by omega) (by omega) ?_|refine LdOwn.mk n 0 (.int .i64 o[n]) (by omega) (by simp [hno]) ?_|(refine CallK.borrow (QA o steps[y].dst) (.cons (.hd rfl hom.symm) (.cons (.p (Sub.refl _)) .nil)) (by rintro _ rfl;rfl) ?_;rintro _ rfl)|refine AppK.int1 (by simp) (by simp;omega) ?_);conv=>whnf)|(refine Br.dec (fun _=>?_) (fun _=>?_)<;>first|(exfalso;omega)|conv=>whnf)|(refine Br.n (fun _=>?_) (fun _=>?_)<;>conv=>whnf))
   all_goals first
    | exact ⟨(y+1,o++[steps[y].dst]),⟨hy,h4.trans (List.prefix_append _ _),h5.add (List.getElem_mem hno) ⟨by rw [hon];exact hcan,steps[y],List.getElem_mem hy,by assumption,rfl⟩ (by assumption),fun s hs he=>by
       rw [htk] at hs
       rcases List.mem_append.1 hs with hs|hs
       ·exact List.mem_append.2 (.inl (h6 s hs he))
       ·rw [List.mem_singleton.1 hs]
        exact List.mem_append.2 (.inr (List.mem_singleton.2 rfl))⟩,by simp only;omega,Le.of_eq (by simp only [List.length_append,List.map_append];rfl)⟩
    | exact ⟨(y+1,o),⟨hy,h4,h5,fun s hs he=>by
       rw [htk] at hs
       rcases List.mem_append.1 hs with hs|hs
       ·exact h6 s hs he
       ·rw [List.mem_singleton.1 hs] at he ⊢
        first
         | exact UV.1 (by assumption)
         | (exfalso
            have hne : ¬steps[y].src=o[n]:=by assumption
            exact hne (he.trans hon.symm))⟩,by simp only;omega,Le.of_eq rfl⟩
  ·rw [List.take_of_length_le hy] at h6
   conv=>whnf
   repeat' (first|(refine Wr.i64 (by omega) (by omega) ?_;conv=>whnf)|(refine Br.dec (fun _=>?_) (fun _=>?_)<;>first|(exfalso;omega)|conv=>whnf))
   exact ⟨(n+1,o),⟨hno,h5.next hno fun b ⟨_,s,hs,h7,h8⟩=>h8▸h6 s hs (by rw [h7,hon])⟩,by simp only;omega,Le.of_eq rfl⟩
open Go.Proofs
theorem ValO.boolEql {P:Program} {T:Tab} {hr:Bool} {s:St} {o:Oper} {K:LV→Prop} (hT:TabOK P T) {t u:TypeId} {x y:Operand} (hop:o.op = .binOp .eql t x y u) {i:TyI} (ht:T.get t=some i) (hd:i.desc = .bool)
  {a b:Bool} (hx:w1n (QT s.sl x)=some a) (hy:w1n (QT s.sl y)=some b) (hK:K (.p (.bool (a==b)))):ValO P hr s o K:=by
 refine ⟨fun σ β ac w hs _=>⟨_,.bool (a==b),hK,.p (.bool _),fun w' _ _ => ?_⟩⟩
 have h1:=q3n (QU hs x) hx
 have h2:=q3n (QU hs y) hy
 have hu:=hT.of ht
 rw [hd] at hu
 have hg:(eqGuard .eql t x y (.bool a) (.bool b)).run P w' = .ok () w':=by unfold eqGuard;rfl
 have he:(Op.equal t (.bool a) (.bool b)).run P w' = .ok (a==b) w':=by
  have e:Op.equal t (.bool a) (.bool b)=Op.equalIn (9999+1) t (.bool a) (.bool b):=rfl
  rw [e,Op.equalIn,Sem.run_bind,run_underlying hu,Result.andThen_ok]
  rfl
 simp only [execOp,hop,h1,h2,Sem.run_bind,hg,Result.andThen_ok,binOp]
 simp [he]
theorem x5d {l:List Str} {x:Str}:inS l x=true↔x∈l:=by
 unfold inS
 rw [List.any_eq_true]
 constructor
 ·rintro ⟨y,h1,h2⟩
  have:y=x:=by simpa using h2
  rw [← this]
  exact h1
 ·intro h
  exact ⟨x,h,by simp⟩
theorem q9i {p:Pg} (h:ZB p=true) {j:Nat} {f:Pr} (hj:p.procs[j]? = some f) {a:Int} (h1:(QR p.procs j:Int)+1≤a) (h2:a≤(QR p.procs j+QY f.body:Nat)) : ∃ t∈flL f.body,w1e p a=some t∧t.id=a:=by
 obtain ⟨it,h3,h4⟩:=q5t hj (k:=(a-1).toNat) (by omega) (by omega)
 refine ⟨it.s,q7z h4,by unfold w1e;rw [h3];rfl,?_⟩
 obtain ⟨_,_,_,hlen,hsp⟩:=QG p
 obtain ⟨_,_,hle,hd⟩:=hsp j f hj
 have hids:=z5r (QE h).1 hj
 have h5:(itsOf p j f)[(a-1).toNat-QR p.procs j]? = some it:=by
  unfold itsOf
  rw [← hd,List.getElem?_drop,List.getElem?_take,if_pos (by omega),show QR p.procs j+((a-1).toNat-QR p.procs j)=(a-1).toNat by omega]
  exact h3
 have h6:((itsOf p j f).map fun it=>it.s.id)[(a-1).toNat-QR p.procs j]? = some it.s.id:=by rw [List.getElem?_map,h5];rfl
 rw [hids] at h6
 unfold JC at h6
 rw [List.getElem?_map,List.getElem?_range' (by omega)] at h6
 simp at h6
 omega
open Go.Proofs
open Go.Proofs
theorem z6o {p:Pg} (h:ZB p=true) {j:Nat} {f:Pr} (hj:p.procs[j]? = some f) {k:Nat} {it:Item} (h1:QR p.procs j≤k) (h2:k<QR p.procs j+QY f.body) (hk:(sheetOf p).l[k]? = some it):it.s.id=(k:Int)+1:=by
 obtain ⟨t,_,h4,h5⟩:=q9i h hj (a:=(k:Int)+1) (by omega) (by omega)
 unfold w1e at h4
 rw [show ((k:Int)+1-1).toNat=k by omega,hk] at h4
 cases h4
 exact h5
theorem x1o {n:Nat} {part:List Int} (hp : ∀ k,k<n→0≤part.getD k 0∧part.getD k 0<n) {i:Nat} (hi:i<n) : ∀ (l:List (Int×Int)) {o:List Bool},o.length=n→(∀ t∈l,0≤t.1∧t.1<n) →
  ((l.foldl (q1p part) o).getD i false=true↔o.getD i false=true ∨ ∃ t∈l,part.getD t.1.toNat 0≠part.getD t.2.toNat 0∧part.getD t.1.toNat 0=i)
 | [],o,_,_=>by simp
 | t::r,o,ho,hr=>by
   rw [List.foldl_cons,x1o hp hi r (by rw [x3b];exact ho) fun u hu=>hr u (List.mem_cons_of_mem _ hu)]
   have h1:=hr t List.mem_cons_self
   have h2:=hp t.1.toNat (by omega)
   have key:(q1p part o t).getD i false=true↔o.getD i false=true∨(part.getD t.1.toNat 0≠part.getD t.2.toNat 0∧part.getD t.1.toNat 0=i):=by
    unfold q1p
    split
    ·rename_i he
     constructor
     ·exact .inl
     ·rintro (h3|⟨h3,_⟩)
      ·exact h3
      ·exact absurd he h3
    ·rename_i he
     rw [ZR (by omega)]
     split
     ·rename_i h3
      constructor
      ·intro _
       exact .inr ⟨he,by omega⟩
      ·intro _
       rfl
     ·rename_i h3
      constructor
      ·exact .inl
      ·rintro (h4|⟨_,h4⟩)
       ·exact h4
       ·exact absurd (by omega) h3
   rw [key,or_assoc]
   constructor
   ·rintro (h3|⟨h3,h4⟩|⟨u,hu,h3⟩)
    ·exact .inl h3
    ·exact .inr ⟨t,List.mem_cons_self,h3,h4⟩
    ·exact .inr ⟨u,List.mem_cons_of_mem _ hu,h3⟩
   ·rintro (h3|⟨u,hu,h3⟩)
    ·exact .inl h3
    ·rcases List.mem_cons.1 hu with rfl|hu
     ·exact .inr (.inl h3)
     ·exact .inr (.inr ⟨u,hu,h3⟩)
theorem z8b {n:Nat} {part:List Int} (hn:0<n) (hp : ∀ k,k<n→0≤part.getD k 0∧part.getD k 0<n) {i:Nat} (hi:i<n) {l:List (Int×Int)} (hr : ∀ t∈l,0≤t.1∧t.1<n) :
  (q3x n part l).getD i false=true↔part.getD 0 0=i∨part.getD (n-1) 0=i ∨ ∃ t∈l,part.getD t.1.toNat 0≠part.getD t.2.toNat 0∧part.getD t.1.toNat 0=i:=by
 have h0:=hp 0 hn
 have h1:=hp (n-1) (by omega)
 unfold q3x
 rw [x1o hp hi l (by simp [q7y]) hr]
 have key:(q7y n part).getD i false=true↔part.getD 0 0=i∨part.getD (n-1) 0=i:=by
  unfold q7y
  rw [ZR (by rw [List.length_set,List.length_replicate];omega),ZR (by rw [List.length_replicate];omega)]
  split
  ·exact ⟨fun _ => .inr (by omega),fun _=>rfl⟩
  ·split
   ·exact ⟨fun _ => .inl (by omega),fun _=>rfl⟩
   ·have:(List.replicate n false).getD i false=false:=by
     rw [List.getD_eq_getElem?_getD,List.getElem?_replicate];split<;>rfl
    rw [this]
    constructor
    ·intro h;cases h
    ·rintro (h|h)<;>omega
 rw [key,or_assoc]
open Go.Proofs
section
variable {p:Pg} {j:Nat} {f:Pr}
theorem LC {i:Int} (h:0≤i∧i<(QY f.body+2:Nat)):plP p j f (XH p j (QY f.body+2:Nat) i)∧ixI p j f (XH p j (QY f.body+2:Nat) i)=i:=by
 unfold XH ixI HV plP loI hiI
 constructor
 ·(repeat' split)<;>omega
 ·(repeat' split)<;>omega
theorem z6r {x:Int} (h:plP p j f x):XH p j (QY f.body+2:Nat) (ixI p j f x)=x:=by
 have h1:=LC (p:=p) (j:=j) (f:=f) (LA h)
 exact z5z h1.1 h h1.2
theorem x0z:prsW (QX p j f) f=(QX p j f).real.map (ixP p j f (QY f.body+2:Nat)):=rfl
theorem z9u (h:ZB p=true) (hj:p.procs[j]? = some f) : ∀ t∈prsW (QX p j f) f,(0≤t.1∧t.1<(QY f.body+2:Nat))∧0≤t.2∧t.2<(QY f.body+2:Nat):=fun t ht=>by
 rw [x0z] at ht
 obtain ⟨s,hs,rfl⟩:=List.mem_map.1 ht
 obtain ⟨h1,h2⟩:=YO h hj s hs
 exact ⟨LA h1,LA h2⟩
def wE (p:Pg) (j:Nat) (f:Pr):Int→Int→Prop:=rowE (QI (QY f.body+2) (prsW (QX p j f) f)).1
def wR (p:Pg) (j:Nat) (f:Pr):Int→Int→Prop:=stR (QX p j f).real
theorem w2s (h:ZB p=true) (hj:p.procs[j]? = some f) {i k:Int}:wE p j f i k ↔ ∃ a b,wR p j f a b∧ixI p j f a=i∧ixI p j f b=k:=by
 unfold wE wR
 rw [z1v]
 constructor
 ·rintro ⟨h1,_,_⟩
  rw [x0z] at h1
  obtain ⟨s,hs,he⟩:=List.mem_map.1 h1
  exact ⟨s.src,s.dst,⟨s,hs,rfl,rfl⟩,congrArg Prod.fst he,congrArg Prod.snd he⟩
 ·rintro ⟨a,b,⟨s,hs,rfl,rfl⟩,rfl,rfl⟩
  obtain ⟨h1,h2⟩:=YO h hj s hs
  exact ⟨List.mem_map.2 ⟨s,hs,rfl⟩,x1h (LA h1),x1h (LA h2)⟩
theorem w2v (h:ZB p=true) (hj:p.procs[j]? = some f) {a b:Int} (hr:wR p j f a b):plP p j f a∧plP p j f b:=by
 obtain ⟨s,hs,rfl,rfl⟩:=hr
 exact YO h hj s hs
theorem w2p (h:ZB p=true) (hj:p.procs[j]? = some f) {a b:Int} (ha:plP p j f a) (hr:Rch (wR p j f) a b):plP p j f b :=
 hr.closed (S:=plP p j f) (fun _ _ _ h1=>(w2v h hj h1).2) ha
theorem z9m (h:ZB p=true) (hj:p.procs[j]? = some f) {a b:Int} (ha:plP p j f a) (hb:plP p j f b):Rch (wE p j f) (ixI p j f a) (ixI p j f b)↔Rch (wR p j f) a b:=by
 constructor
 ·intro hr
  obtain ⟨c,h1,h2,h3⟩:=hr.closed (S:=fun k => ∃ c,plP p j f c∧ixI p j f c=k∧Rch (wR p j f) a c) (by
   rintro i k ⟨c,h1,h2,h3⟩ h4
   obtain ⟨x,y,h5,h6,h7⟩:=(w2s h hj).1 h4
   have h8:=w2v h hj h5
   have:x=c:=z5z h8.1 h1 (by rw [h6,h2])
   subst this
   exact ⟨y,h8.2,h7,.tail h3 h5⟩) ⟨a,ha,rfl,.refl⟩
  rw [← z5z h1 hb h2]
  exact h3
 ·intro hr
  exact (hr.closed (S:=fun c=>plP p j f c∧Rch (wE p j f) (ixI p j f a) (ixI p j f c)) (fun x y ⟨h1,h2⟩ h3=>⟨(w2v h hj h3).2,.tail h2 ((w2s h hj).2 ⟨x,y,h3,rfl,rfl⟩)⟩) ⟨ha,.refl⟩).2
theorem z8i (h:ZB p=true) (hj:p.procs[j]? = some f) {a b:Int} (ha:plP p j f a) (hb:plP p j f b):sccP (wE p j f) (ixI p j f a) (ixI p j f b)↔sccP (wR p j f) a b:=by
 unfold sccP
 rw [z9m h hj ha hb,z9m h hj hb ha]
def KZ (p:Pg) (j:Nat) (f:Pr) (i:Int):Int:=(ZA (QX p j f) f).getD i.toNat 0
theorem q4r:ZA (QX p j f) f=q1d (QY f.body+2) (QI (QY f.body+2) (prsW (QX p j f) f)).1:=rfl
theorem MH {i:Int} (hi:0≤i∧i<(QY f.body+2:Nat)):MinP (wE p j f) i (KZ p j f i):=by
 unfold KZ
 rw [q4r]
 exact q1l (HP _ _).1 hi
theorem x9q {k:Nat} (hk:k<QY f.body+2):0≤(ZA (QX p j f) f).getD k 0∧(ZA (QX p j f) f).getD k 0<(QY f.body+2:Nat):=by
 rw [q4r]
 exact x8f (HP _ _).1 hk
theorem q3s:(ZA (QX p j f) f).length=QY f.body+2:=by rw [q4r,HC]
theorem MinP.same {E:Int→Int→Prop} {x y v:Int} (h:MinP E x v) (hs:sccP E x y):MinP E y v:=⟨hs.symm.trans h.scc,fun z hz=>h.le z (hs.trans hz)⟩
theorem z8w {i k:Int} (hi:0≤i∧i<(QY f.body+2:Nat)) (hk:0≤k∧k<(QY f.body+2:Nat)):KZ p j f i=KZ p j f k↔sccP (wE p j f) i k:=by
 have h1:=MH (p:=p) (j:=j) hi
 have h2:=MH (p:=p) (j:=j) hk
 constructor
 ·intro he
  rw [← he] at h2
  exact h1.scc.trans h2.scc.symm
 ·intro hs
  exact (h1.same hs).uniq h2
theorem KW (h:ZB p=true) (hj:p.procs[j]? = some f) {a b:Int} (ha:plP p j f a) (hb:plP p j f b):KZ p j f (ixI p j f a)=KZ p j f (ixI p j f b)↔sccP (wR p j f) a b:=by
 rw [z8w (LA ha) (LA hb),z8i h hj ha hb]
structure TrapP (p:Pg) (j:Nat) (f:Pr) (l:List Int) (r:Int):Prop where
 pl:plP p j f r
 mem : ∀ b,b∈l↔plP p j f b∧sccP (wR p j f) r b
 cl : ∀ b c,sccP (wR p j f) r b→wR p j f b c→sccP (wR p j f) r c
 n0 : ¬sccP (wR p j f) r 0
 nx : ¬sccP (wR p j f) r (-1)
theorem q5x {plc:Int→Int} {part:List Int} {i q:Nat} {b:Int}:b∈GW plc part i q ↔ ∃ k:Nat,k<q∧part.getD k 0=i∧plc k=b:=by
 unfold GW
 constructor
 ·intro h
  obtain ⟨k,hk,rfl⟩:=List.mem_map.1 h
  obtain ⟨h1,h2⟩:=List.mem_filter.1 hk
  exact ⟨k,List.mem_range.1 h1,beq_iff_eq.1 h2,rfl⟩
 ·rintro ⟨k,h1,h2,rfl⟩
  exact List.mem_map.2 ⟨k,List.mem_filter.2 ⟨List.mem_range.2 h1,beq_iff_eq.2 h2⟩,rfl⟩
theorem ix0:ixI p j f 0=0:=by unfold ixI HV;rw [if_pos rfl]
theorem ix1:ixI p j f (-1)=((QY f.body+2:Nat):Int)-1:=by unfold ixI HV;rw [if_neg (by omega),if_pos rfl]
theorem pl0:plP p j f 0 := .inl rfl
theorem pl1:plP p j f (-1) := .inr (.inl rfl)
theorem LP (k:Nat):(ZA (QX p j f) f).getD k 0=KZ p j f k:=by
 unfold KZ
 rw [Int.toNat_natCast]
theorem z2v (h:ZB p=true) (hj:p.procs[j]? = some f) {i:Nat} (hi:i<QY f.body+2):(q3x (QY f.body+2) (ZA (QX p j f) f) (prsW (QX p j f) f)).getD i false=true ↔
  KZ p j f (ixI p j f 0)=i∨KZ p j f (ixI p j f (-1))=i ∨ ∃ a b,wR p j f a b ∧ ¬sccP (wR p j f) a b∧KZ p j f (ixI p j f a)=i:=by
 rw [z8b (by omega) (fun k hk=>x9q hk) hi fun t ht=>(z9u h hj t ht).1,ix0,ix1]
 have e1:(ZA (QX p j f) f).getD (QY f.body+2-1) 0=KZ p j f (((QY f.body+2:Nat):Int)-1):=by
  unfold KZ
  congr 1
  omega
 have e0:(ZA (QX p j f) f).getD 0 0=KZ p j f 0:=rfl
 rw [e0,e1]
 refine or_congr Iff.rfl (or_congr Iff.rfl ?_)
 constructor
 ·rintro ⟨t,ht,h1,h2⟩
  rw [x0z] at ht
  obtain ⟨s,hs,rfl⟩:=List.mem_map.1 ht
  obtain ⟨h3,h4⟩:=YO h hj s hs
  exact ⟨s.src,s.dst,⟨s,hs,rfl,rfl⟩,fun hsc=>h1 ((KW h hj h3 h4).2 hsc),h2⟩
 ·rintro ⟨a,b,⟨s,hs,rfl,rfl⟩,h1,h2⟩
  obtain ⟨h3,h4⟩:=YO h hj s hs
  exact ⟨ixP p j f (QY f.body+2:Nat) s,by rw [x0z];exact List.mem_map.2 ⟨s,hs,rfl⟩,fun he=>h1 ((KW h hj h3 h4).1 he),h2⟩
theorem LW {l:List Int}:l∈trapsW (QX p j f) f ↔ ∃ i:Nat,i<QY f.body+2∧KZ p j f i=i∧(q3x (QY f.body+2) (ZA (QX p j f) f) (prsW (QX p j f) f)).getD i false=false∧l=GW (XH p j (QY f.body+2:Nat)) (ZA (QX p j f) f) i (QY f.body+2):=by
 unfold trapsW NX
 rw [q3s]
 constructor
 ·intro hl
  obtain ⟨i,hi,rfl⟩:=List.mem_map.1 hl
  obtain ⟨h1,h2⟩:=List.mem_filter.1 hi
  unfold LQ at h2
  rw [Bool.and_eq_true,beq_iff_eq,Bool.not_eq_true',LP] at h2
  exact ⟨i,List.mem_range.1 h1,h2.1,h2.2,rfl⟩
 ·rintro ⟨i,h1,h2,h3,rfl⟩
  refine List.mem_map.2 ⟨i,List.mem_filter.2 ⟨List.mem_range.2 h1,?_⟩,rfl⟩
  unfold LQ
  rw [Bool.and_eq_true,beq_iff_eq,Bool.not_eq_true',LP]
  exact ⟨h2,h3⟩
theorem x8e (h:ZB p=true) (hj:p.procs[j]? = some f) {i:Nat} (hi:i<QY f.body+2) (hp:KZ p j f i=i) (b:Int) :
  b∈GW (XH p j (QY f.body+2:Nat)) (ZA (QX p j f) f) i (QY f.body+2)↔plP p j f b∧sccP (wR p j f) (XH p j (QY f.body+2:Nat) i) b:=by
 obtain ⟨h1,h2⟩:=LC (p:=p) (j:=j) (f:=f) (i:=i) (by omega)
 rw [q5x]
 constructor
 ·rintro ⟨k,h3,h4,rfl⟩
  obtain ⟨h5,h6⟩:=LC (p:=p) (j:=j) (f:=f) (i:=k) (by omega)
  refine ⟨h5,(KW h hj h1 h5).1 ?_⟩
  rw [h2,h6,hp,← LP,h4]
 ·rintro ⟨h3,h4⟩
  have h5:=LA h3
  refine ⟨(ixI p j f b).toNat,by omega,?_,?_⟩
  ·rw [LP,show (((ixI p j f b).toNat:Nat):Int)=ixI p j f b by omega,← (KW h hj h1 h3).2 h4,h2,hp]
  ·rw [show (((ixI p j f b).toNat:Nat):Int)=ixI p j f b by omega,z6r h3]
theorem x3m (h:ZB p=true) (hj:p.procs[j]? = some f) {l:List Int} (hl:l∈trapsW (QX p j f) f) : ∃ r,TrapP p j f l r:=by
 obtain ⟨i,hi,hp,ho,rfl⟩:=LW.1 hl
 obtain ⟨h1,h2⟩:=LC (p:=p) (j:=j) (f:=f) (i:=i) (by omega)
 have ho2 : ¬_:=fun hx=>by
  have:=(z2v h hj hi).2 hx
  rw [ho] at this
  cases this
 have hpr:KZ p j f (ixI p j f (XH p j (QY f.body+2:Nat) i))=i:=by rw [h2,hp]
 refine ⟨_,h1,x8e h hj hi hp,fun b c hb hbc => ?_,fun hs=>ho2 (.inl ?_),fun hs=>ho2 (.inr (.inl ?_))⟩
 ·have h3:=w2v h hj hbc
  by_cases hsc:sccP (wR p j f) b c
  ·exact hb.trans hsc
  ·refine absurd (.inr (.inr ⟨b,c,hbc,hsc,?_⟩)) ho2
   rw [← (KW h hj h1 h3.1).2 hb,hpr]
 ·rw [← (KW h hj h1 pl0).2 hs,hpr]
 ·rw [← (KW h hj h1 pl1).2 hs,hpr]
theorem w0i (h:ZB p=true) (hj:p.procs[j]? = some f) {r:Int} (hr:plP p j f r) (hcl : ∀ b c,sccP (wR p j f) r b→wR p j f b c→sccP (wR p j f) r c) (h0 : ¬sccP (wR p j f) r 0) (hx : ¬sccP (wR p j f) r (-1)) :
  ∃ l∈trapsW (QX p j f) f,∀ b,b∈l↔plP p j f b∧sccP (wR p j f) r b:=by
 have h1:=LA hr
 have h2:=MH (p:=p) (j:=j) (f:=f) h1
 have h3:=x9q (p:=p) (j:=j) (f:=f) (k:=(ixI p j f r).toNat) (by omega)
 have h4:0≤KZ p j f (ixI p j f r)∧KZ p j f (ixI p j f r)<(QY f.body+2:Nat):=h3
 generalize hi:KZ p j f (ixI p j f r)=v at h2 h4
 obtain ⟨h5,h6⟩:=LC (p:=p) (j:=j) (f:=f) (i:=v) h4
 have hs:sccP (wR p j f) r (XH p j (QY f.body+2:Nat) v):=(z8i h hj hr h5).1 (by rw [h6];exact h2.scc)
 have hpv:KZ p j f v=v:=(MH (p:=p) (j:=j) (f:=f) h4).uniq (h2.same h2.scc)
 have ev:((v.toNat:Nat):Int)=v:=by omega
 refine ⟨_,LW.2 ⟨v.toNat,by omega,by rw [ev];exact hpv,?_,rfl⟩,fun b => ?_⟩
 ·cases ho:(q3x (QY f.body+2) (ZA (QX p j f) f) (prsW (QX p j f) f)).getD v.toNat false with
  | false=>rfl
  | true =>
    have:=(z2v h hj (by omega)).1 ho
    rw [ev,← hi] at this
    rcases this with h7|h7|⟨a,b,h7,h8,h9⟩
    ·exact absurd ((KW h hj hr pl0).1 h7.symm) h0
    ·exact absurd ((KW h hj hr pl1).1 h7.symm) hx
    ·have h10:=w2v h hj h7
     have h11:=(KW h hj hr h10.1).1 h9.symm
     exact absurd (h11.symm.trans (hcl a b h11 h7)) h8
 ·rw [x8e h hj (by omega) (by rw [ev];exact hpv),ev]
  exact and_congr Iff.rfl ⟨fun h7=>hs.trans h7,fun h7=>hs.symm.trans h7⟩
end
open Go.Proofs
theorem z6z {p:Pg} {j:Nat} {f:Pr} (hj:p.procs[j]? = some f) (hcn:cntP p.procs≤200):(QX p j f).real.length≤100000:=by
 obtain ⟨_,_,_,hlen,hsp⟩:=QG p
 obtain ⟨_,_,hle,_⟩:=hsp j f hj
 have h9:=x4w (QK p j f)
 have h10:=FO p j f
 show (ZY (QK p j f)).length≤100000
 omega
theorem z7m {p:Pg} (h:ZB p=true) {j:Nat} {f:Pr} (hj:p.procs[j]? = some f) : ∀ it∈itsOf p j f,∀ s∈fOf it,okSt s:=fun it hi s hs=>by
 obtain ⟨hm,_⟩:=QE h
 obtain ⟨_,_,hcn⟩:=HE h
 obtain ⟨_,_,_,hlen,hsp⟩:=QG p
 obtain ⟨_,_,hle,_⟩:=hsp j f hj
 have h1:=FL hm hj (q7z hi)
 have h2:=(q0p hi).1
 unfold fOf at hs
 split at hs
 ·rw [List.mem_singleton.1 hs]
  unfold okI at h2
  unfold okSt
  constructor
  ·show it.s.id≠_
   omega
  ·show it.next≠_
   omega
 ·cases hs
theorem x8l {p:Pg} (h:ZB p=true) {j:Nat} {f:Pr} (hj:p.procs[j]? = some f) {l:List Int} (hl:l∈trapsW (QX p j f) f):l.length≤QY f.body+2 ∧ ∀ id∈l,(QR p.procs j:Int)+1≤id∧id≤(QR p.procs j+QY f.body:Nat):=by
 constructor
 ·obtain ⟨i,_,_,_,rfl⟩:=LW.1 hl
  exact x3v _ _ _ _
 ·intro id hid
  obtain ⟨r,ht⟩:=x3m h hj hl
  obtain ⟨h1,h2⟩:=(ht.mem id).1 hid
  rcases h1 with rfl|rfl|h1
  ·exact absurd h2 ht.n0
  ·exact absurd h2 ht.nx
  ·exact h1
theorem w3n {p:Pg} (h:ZB p=true) {j:Nat} {f:Pr} (hj:p.procs[j]? = some f):WayT (QX p j f) f (QY f.body+2):=by
 obtain ⟨_,_,hcn⟩:=HE h
 obtain ⟨_,_,_,hlen,hsp⟩:=QG p
 obtain ⟨_,_,hle,_⟩:=hsp j f hj
 refine ⟨rfl,hj,by show cntP p.procs≤1000;omega,by omega,by omega,Nat.le_trans (z6z hj hcn) (by decide),z9u h hj,?_,fun l hl => ?_,fun s hs=>(NQ h hj).2.2 s (((FE h hj).2 s).1 hs),z7m h hj⟩
 ·have:=x2g (XH p j (QY f.body+2:Nat)) (ZA (QX p j f) f) (q3x (QY f.body+2) (ZA (QX p j f) f) (prsW (QX p j f) f)) (QY f.body+2)
  have e:trapsW (QX p j f) f=NX (XH p j (QY f.body+2:Nat)) (ZA (QX p j f) f) (q3x (QY f.body+2) (ZA (QX p j f) f) (prsW (QX p j f) f)) (QY f.body+2):=by
   unfold trapsW
   rw [q3s]
   rfl
  rw [e]
  omega
 ·obtain ⟨h1,h2⟩:=x8l h hj hl
  refine ⟨by omega,fun id hid => ?_⟩
  have:=h2 id hid
  show 1≤id∧id≤(sheetOf p).l.length
  omega
def z8u (p:Pg) (n:Str):List Step:=match DK p n with
 | some w=>(match w.p.procs[w.j]? with
   | some f=>z8v w f
   | none=>[])
 | none=>[]
def x0h (p:Pg) (n:Str):List Step:=match DK p n with
 | some w=>(match w.p.procs[w.j]? with
   | some f=>x1i w f
   | none=>[])
 | none=>[]
def q2m (p:Pg) (n:Str):List (List Int):=match DK p n with
 | some w=>(match w.p.procs[w.j]? with
   | some f=>trapsW w f
   | none=>[])
 | none=>[]
theorem MM {p:Pg} {n:Str} {k:Nat} {f:Pr} (hw:DK p n=some (QX p k f)) (hk:p.procs[k]? = some f):z8u p n=z8v (QX p k f) f:=by
 have h:(QX p k f).p.procs[(QX p k f).j]? = some f:=hk
 unfold z8u
 rw [hw]
 simp only
 rw [h]
theorem x4h {p:Pg} {n:Str} (hw:DK p n=none):z8u p n=[]:=by
 unfold z8u
 rw [hw]
theorem q1h {p:Pg} {n:Str} {k:Nat} {f:Pr} (hw:DK p n=some (QX p k f)) (hk:p.procs[k]? = some f):x0h p n=x1i (QX p k f) f:=by
 have h:(QX p k f).p.procs[(QX p k f).j]? = some f:=hk
 unfold x0h
 rw [hw]
 simp only
 rw [h]
theorem q9z {p:Pg} {n:Str} (hw:DK p n=none):x0h p n=[]:=by
 unfold x0h
 rw [hw]
theorem q6q {p:Pg} {n:Str} {k:Nat} {f:Pr} (hw:DK p n=some (QX p k f)) (hk:p.procs[k]? = some f):q2m p n=trapsW (QX p k f) f:=by
 have h:(QX p k f).p.procs[(QX p k f).j]? = some f:=hk
 unfold q2m
 rw [hw]
 simp only
 rw [h]
theorem q4l {p:Pg} {n:Str} (hw:DK p n=none):q2m p n=[]:=by
 unfold q2m
 rw [hw]
theorem z2d (p:Pg) (hf:Fit p) (n:Str):SpecP Tryz.prog 35 [.agg p.cells,.str n] (fun r=>r=QL (z8u p n)):=by
 refine SpecP.body z7x QQ Tryz.func35 rfl Tryz.call35 (by show 2≤_;decide) ?_
 conv=>whnf
 have hW:=z4o p hf n
 cases hw:DK p n with
 | none =>
   rw [x4h hw]
   rw [hw] at hW
   repeat' (refine CallK.pure hW (.cons (Sub.refl _) (.cons (Sub.refl _) .nil)) ?_;rintro _ rfl;conv=>whnf)
   exact ⟨_,.p Sub.nils,rfl⟩
 | some w =>
   obtain ⟨k,f,hkj,rfl,hc,_⟩:=YI hw
   have hw0:=hw
   rw [hw] at hW
   repeat' ((first|(refine CallK.pure hW (.cons (Sub.refl _) (.cons (Sub.refl _) .nil)) ?_;rintro _ rfl)|(refine CallK.pure (x6s (QX p k f) f (QY f.body+2) (w3n hc hkj)) (.cons (Sub.refl _) .nil) ?_;rintro _ rfl));conv=>whnf)
   exact RetK.p (by rw [MM hw0 hkj])
theorem x7s (p:Pg) (hf:Fit p) (n:Str):SpecP Tryz.prog 37 [.agg p.cells,.str n] (fun r=>r=QL (x0h p n)):=by
 refine SpecP.body z0r QQ Tryz.func37 rfl Tryz.call37 (by show 2≤_;decide) ?_
 conv=>whnf
 have hW:=z4o p hf n
 cases hw:DK p n with
 | none =>
   rw [q9z hw]
   rw [hw] at hW
   repeat' (refine CallK.pure hW (.cons (Sub.refl _) (.cons (Sub.refl _) .nil)) ?_;rintro _ rfl;conv=>whnf)
   exact ⟨_,.p Sub.nils,rfl⟩
 | some w =>
   obtain ⟨k,f,hkj,rfl,hc,_⟩:=YI hw
   have hw0:=hw
   rw [hw] at hW
   repeat' ((first|(refine CallK.pure hW (.cons (Sub.refl _) (.cons (Sub.refl _) .nil)) ?_;rintro _ rfl)|(refine CallK.pure (x2a (QX p k f) f (QY f.body+2) (w3n hc hkj)) (.cons (Sub.refl _) .nil) ?_;rintro _ rfl));conv=>whnf)
   exact RetK.p (by rw [q1h hw0 hkj])
theorem z2m (p:Pg) (hf:Fit p) (n:Str):SpecP Tryz.prog 33 [.agg p.cells,.str n] (fun r=>r=q7e (q2m p n)):=by
 refine SpecP.body x6t QQ Tryz.func33 rfl Tryz.call33 (by show 2≤_;decide) ?_
 conv=>whnf
 have hW:=z4o p hf n
 cases hw:DK p n with
 | none =>
   rw [q4l hw]
   rw [hw] at hW
   repeat' (refine CallK.pure hW (.cons (Sub.refl _) (.cons (Sub.refl _) .nil)) ?_;rintro _ rfl;conv=>whnf)
   exact ⟨_,.p Sub.nils,rfl⟩
 | some w =>
   obtain ⟨k,f,hkj,rfl,hc,_⟩:=YI hw
   have hw0:=hw
   have hT:=w3n hc hkj
   rw [hw] at hW
   repeat' ((first|(refine CallK.pure hW (.cons (Sub.refl _) (.cons (Sub.refl _) .nil)) ?_;rintro _ rfl)|(refine CallK.pure (NB (QX p k f) f (QY f.body+2) hT.hw hT.hj hT.hc hT.hn hT.hn2 hT.hlen hT.hr) (.cons (Sub.refl _) .nil) ?_;rintro _ rfl));conv=>whnf)
   exact RetK.p (by rw [q6q hw0 hkj])
open Go.Proofs
instance (a b:Step):Decidable (NT a b):=inferInstanceAs (Decidable (_∨_))
instance:DecidableEq Step:=fun a b=>decidable_of_iff (a.src=b.src∧a.dst=b.dst∧a.kind=b.kind) ⟨fun h=>Step.eq_of h.1 h.2.1 h.2.2,fun h=>by rw [h];exact ⟨rfl,rfl,rfl⟩⟩
theorem w1q {a b:Step} (ha:okSt a) (hb:okSt b) (h:HX b a=false):(a.src=b.src∧a.dst=b.dst∧a.kind≤b.kind)∨NT a b:=by
 rw [Bool.eq_false_iff,ne_eq,KG] at h
 unfold NT
 by_cases h1:XT a.src=XT b.src
 ·by_cases h2:XT a.dst=XT b.dst
  ·exact .inl ⟨KI ha.1 hb.1 h1,KI ha.2 hb.2 h2,by omega⟩
  ·exact .inr (by omega)
 ·exact .inr (by omega)
theorem q1a : ∀ (l:List Step) (a:Step),okSt a→(∀ s∈l,okSt s)→(a::l).Pairwise (fun a b=>HX b a=false) →
  (∀ s∈QO a l,NT a s)∧(QO a l).Pairwise NT∧(∀ s∈QO a l,s∈l) ∧ ∀ s∈l,(s.src=a.src∧s.dst=a.dst∧a.kind≤s.kind) ∨ ∃ s'∈QO a l,s'.src=s.src∧s'.dst=s.dst∧s'.kind≤s.kind
 | [],a,_,_,_=>by simp [QO]
 | b::r,a,ha,hl,h=>by
   have hb:=hl b List.mem_cons_self
   have hr : ∀ s∈r,okSt s:=fun s hs=>hl s (List.mem_cons_of_mem _ hs)
   rw [List.pairwise_cons] at h
   obtain ⟨h1,h2⟩:=h
   obtain ⟨i1,i2,i3,i4⟩:=q1a r b hb hr h2
   have hab:=w1q ha hb (h1 b List.mem_cons_self)
   rw [QO]
   cases hs:ZQ b a with
   | true =>
     unfold ZQ at hs
     simp only [Bool.and_eq_true,decide_eq_true_eq] at hs
     have hk:a.kind≤b.kind:=by
      rcases hab with h3|h3
      ·exact h3.2.2
      ·unfold NT at h3
       rw [hs.1,hs.2] at h3
       omega
     rw [cond_true]
     refine ⟨fun s hs' => ?_,i2,fun s hs'=>List.mem_cons_of_mem _ (i3 s hs'),fun s hs' => ?_⟩
     ·have:=i1 s hs'
      unfold NT at this ⊢
      rwa [← hs.1,← hs.2]
     ·rcases List.mem_cons.1 hs' with rfl|hs'
      ·exact .inl ⟨hs.1,hs.2,hk⟩
      ·rcases i4 s hs' with ⟨h3,h4,h5⟩|h3
       ·exact .inl ⟨by rw [h3,hs.1],by rw [h4,hs.2],by omega⟩
       ·exact .inr h3
   | false =>
     have hlt:NT a b:=by
      rcases hab with h3|h3
      ·unfold ZQ at hs
       simp [h3.1,h3.2.1] at hs
      ·exact h3
     rw [cond_false]
     refine ⟨fun s hs' => ?_,List.pairwise_cons.2 ⟨i1,i2⟩,fun s hs' => ?_,fun s hs' => ?_⟩
     ·rcases List.mem_cons.1 hs' with rfl|hs'
      ·exact hlt
      ·exact q1m hlt (i1 s hs')
     ·rcases List.mem_cons.1 hs' with rfl|hs'
      ·exact List.mem_cons_self
      ·exact List.mem_cons_of_mem _ (i3 s hs')
     ·rcases List.mem_cons.1 hs' with rfl|hs'
      ·exact .inr ⟨s,List.mem_cons_self,rfl,rfl,Int.le_refl _⟩
      ·rcases i4 s hs' with ⟨h3,h4,h5⟩|⟨s',h3,h4⟩
       ·exact .inr ⟨b,List.mem_cons_self,h3.symm,h4.symm,h5⟩
       ·exact .inr ⟨s',List.mem_cons_of_mem _ h3,h4⟩
theorem x2w {l:List Step} (hok : ∀ s∈l,okSt s):(ZY l).Pairwise NT∧(∀ s∈ZY l,s∈l) ∧ ∀ s∈l,∃ s'∈ZY l,s'.src=s.src∧s'.dst=s.dst∧s'.kind≤s.kind:=by
 have hp : ∀ s,s∈UE l↔s∈l:=fun s=>(q4x l).mem_iff
 have hs:=MK l
 unfold ZY
 cases hq:UE l with
 | nil =>
   rw [hq] at hp
   refine ⟨by simp [NJ],by simp [NJ],fun s hs => ?_⟩
   have:=(hp s).2 hs
   cases this
 | cons a r =>
   rw [hq] at hp hs
   have hok' : ∀ s∈a::r,okSt s:=fun s h=>hok s ((hp s).1 h)
   obtain ⟨h1,h2,h3,h4⟩:=q1a r a (hok' a List.mem_cons_self) (fun s h=>hok' s (List.mem_cons_of_mem _ h)) hs
   rw [NJ]
   refine ⟨List.pairwise_cons.2 ⟨h1,h2⟩,fun s hs' => ?_,fun s hs' => ?_⟩
   ·rcases List.mem_cons.1 hs' with rfl|hs'
    ·exact (hp s).1 List.mem_cons_self
    ·exact (hp s).1 (List.mem_cons_of_mem _ (h3 s hs'))
   ·rcases List.mem_cons.1 ((hp s).2 hs') with rfl|hs'
    ·exact ⟨s,List.mem_cons_self,rfl,rfl,Int.le_refl _⟩
    ·rcases h4 s hs' with ⟨h5,h6,h7⟩|⟨s',h5,h6⟩
     ·exact ⟨a,List.mem_cons_self,h5.symm,h6.symm,h7⟩
     ·exact ⟨s',List.mem_cons_of_mem _ h5,h6⟩
theorem z2w {l:List Step} (h:l.Pairwise NT) {a b:Step} (ha:a∈l) (hb:b∈l) (h1:a.src=b.src) (h2:a.dst=b.dst):a=b:=by
 have hn : ∀ {x y:Step},x.src=y.src→x.dst=y.dst → ¬NT x y:=fun {x y} e1 e2 hlt=>by
  unfold NT at hlt
  rw [e1,e2] at hlt
  omega
 induction h with
 | nil=>cases ha
 | @cons c r hc hr ih =>
   rcases List.mem_cons.1 ha with e1|ha'
   ·rcases List.mem_cons.1 hb with e2|hb'
    ·rw [e1,e2]
    ·exact absurd (hc b hb') (by rw [← e1];exact hn h1 h2)
   ·rcases List.mem_cons.1 hb with e2|hb'
    ·exact absurd (hc a ha') (by rw [← e2];exact hn h1.symm h2.symm)
    ·exact ih ha' hb'
theorem NR {l m:List Step} (hok : ∀ s∈l,okSt s) (h1:m.Pairwise NT) (h2 : ∀ s∈m,s∈l) (h3 : ∀ s∈l,∃ s'∈m,s'.src=s.src∧s'.dst=s.dst∧s'.kind≤s.kind):ZY l=m:=by
 obtain ⟨g1,g2,g3⟩:=x2w hok
 refine q7p g1 h1 fun s=>⟨fun hs => ?_,fun hs => ?_⟩
 ·obtain ⟨a,ha,h4,h5,h6⟩:=h3 s (g2 s hs)
  obtain ⟨b,hb,h7,h8,h9⟩:=g3 a (h2 a ha)
  have:=z2w g1 hb hs (h7.trans h4) (h8.trans h5)
  subst this
  have:a=b:=Step.eq_of h4 h5 (by omega)
  rw [← this]
  exact ha
 ·obtain ⟨a,ha,h4,h5,h6⟩:=g3 s (h2 s hs)
  obtain ⟨b,hb,h7,h8,h9⟩:=h3 a (g2 a ha)
  have:=z2w h1 hb hs (h7.trans h4) (h8.trans h5)
  subst this
  have:a=b:=Step.eq_of h4 h5 (by omega)
  rw [← this]
  exact ha
open Go.Proofs
theorem w1c:(QX someP 1 f1).real=[⟨0,5,1⟩,⟨5,6,1⟩,⟨6,7,1⟩,⟨6,8,1⟩,⟨7,-1,1⟩,⟨8,-1,1⟩]:=w5f
theorem w3q:(QX someP 0 f0).real=[⟨0,1,1⟩,⟨1,2,1⟩,⟨2,3,1⟩,⟨3,4,1⟩,⟨4,-1,1⟩]:=w5j
theorem w5o:prsW (QX someP 1 f1) f1=[(0,1),(1,2),(2,3),(2,4),(3,5),(4,5)]:=by
 unfold prsW
 rw [w1c]
 kernel_rfl
theorem w6q:prsW (QX someP 0 f0) f0=[(0,1),(1,2),(2,3),(3,4),(4,5)]:=by
 unfold prsW
 rw [w3q]
 kernel_rfl
theorem z9y:trapsW (QX someP 1 f1) f1=[]:=by
 unfold trapsW ZA
 rw [w5o]
 kernel_rfl
theorem w2i:trapsW (QX someP 0 f0) f0=[]:=by
 unfold trapsW ZA
 rw [w6q]
 kernel_rfl
theorem w5i:z8v (QX someP 1 f1) f1=[⟨0,5,1⟩,⟨0,-1,2⟩,⟨5,6,1⟩,⟨6,7,1⟩,⟨6,8,1⟩,⟨7,8,2⟩,⟨7,-1,1⟩,⟨8,-1,1⟩]:=by
 have h1:q6n (QX someP 1 f1) f1=[⟨0,5,1⟩,⟨5,6,1⟩,⟨6,7,1⟩,⟨6,8,1⟩,⟨7,-1,1⟩,⟨8,-1,1⟩,⟨0,-1,2⟩,⟨7,8,2⟩,⟨8,-1,2⟩]:=by
  unfold q6n ZN
  rw [z9y,w1c]
  kernel_rfl
 unfold z8v
 rw [h1]
 exact NR (by unfold okSt;decide) (by decide) (by decide) (by decide)
theorem w6x:z8v (QX someP 0 f0) f0=[⟨0,1,1⟩,⟨0,-1,2⟩,⟨1,2,1⟩,⟨2,3,1⟩,⟨3,4,1⟩,⟨4,-1,1⟩]:=by
 have h1:q6n (QX someP 0 f0) f0=[⟨0,1,1⟩,⟨1,2,1⟩,⟨2,3,1⟩,⟨3,4,1⟩,⟨4,-1,1⟩,⟨0,-1,2⟩]:=by
  unfold q6n ZN
  rw [w2i,w3q]
  kernel_rfl
 unfold z8v
 rw [h1]
 exact NR (by unfold okSt;decide) (by decide) (by decide) (by decide)
theorem w5z:x1i (QX someP 1 f1) f1=[⟨0,5,1⟩,⟨5,6,1⟩,⟨6,7,1⟩,⟨6,8,1⟩,⟨7,-1,1⟩,⟨8,-1,1⟩]:=by
 unfold x1i ZN
 rw [z9y,w1c]
 exact NR (by unfold okSt;decide) (by decide) (by decide) (by decide)
theorem z3h:DK someP [109,97,105,110]=some (QX someP 0 f0):=by
 unfold DK
 rw [x8i]
 rfl
theorem VG:SpecP Tryz.prog 31 [] (fun r=>r = .tt):=by
 have hA:=z2d someP x1g [112]
 rw [MM (f:=f1) x9f rfl,w5i] at hA
 have hM:=z2d someP x1g [109,97,105,110]
 rw [MM (f:=f0) z3h rfl,w6x] at hM
 have hD:=x7s someP x1g [112]
 rw [q1h (f:=f1) x9f rfl,w5z] at hD
 refine SpecP.body DS QQ Tryz.func31 rfl Tryz.call31 (by show 0≤_;decide) ?_
 conv=>whnf
 repeat' (first|((first|intro (_:_≤9223372036854775807)|refine And.intro rfl ?_|(refine CallK.pure q0o .nil ?_;rintro _ rfl)|(refine CallK.pure hA (.cons (Sub.refl _) (.cons (Sub.refl _) .nil)) ?_;rintro _ rfl)|(refine CallK.pure hM (.cons (Sub.refl _) (.cons (Sub.refl _) .nil)) ?_;rintro _ rfl)|(refine CallK.pure hD (.cons (Sub.refl _) (.cons (Sub.refl _) .nil)) ?_;rintro _ rfl));conv=>whnf)|(refine Br.dec (fun _=>?_) (fun _=>?_)<;>first|(exfalso;omega)|conv=>whnf))
 ·refine IdxK.at (k:=1) (e := .agg (Step.mk 0 (-1) 2).cells) rfl rfl rfl ?_
  conv=>whnf
  skip
  all_goals first
   | exact RetK.tt rfl
   | exact ⟨_,.p (Sub.tt' rfl),rfl⟩
   | (rename_i h;exact absurd rfl h)
   | trace_state
 all_goals
  rename_i h
  exact absurd rfl h
open Go.Proofs
open Go.Proofs
open Go.Proofs
def RI0:RI:=⟨.mk 0 0 [] [] [] (.mk 0 0 [] []) false [] [] [],0,0,false⟩
theorem w0p:Sub (.agg [.int .i64 0,.int .i64 0,.nils,.str [],.str [],.int .i64 0,.int .i64 0,.str [],.nils,.ff,.nils,.nils,.nils,.int .i64 0,.int .i64 0,.ff]) (.agg RI0.cells) :=
 Sub.agg (by repeat' (first|exact SubL.nil|refine SubL.cons ?_ ?_|exact Sub.nils|exact Sub.ff rfl|exact Sub.refl _))
theorem x3s {l:List RI} {q:RI→Bool} {k:Nat} (hk:k<l.length):(l.drop k).find? q=if q l[k] then some l[k] else (l.drop (k+1)).find? q:=by
 rw [QJ hk,List.find?_cons]
 cases q l[k]<;>rfl
open Go.Proofs
open Go.Proofs
open Go.Proofs
open Go.Proofs
open Go.Proofs
open Go.Proofs
open Go.Proofs
open Go.Proofs
open Go.Proofs
theorem x5a {l:List Str} {s:Str} (h:s∈l):s∈Go.Lib.compact l:=by
 have key : ∀ (j:Nat) (hj:j<l.length),l[j]∈Go.Lib.compact l:=fun j=>by
  induction j with
  | zero =>
    intro hj
    refine List.mem_map.2 ⟨0,List.mem_filter.2 ⟨by simpa using hj,by simp [Go.Lib.keeps]⟩,?_⟩
    simp [hj]
  | succ j ih =>
    intro hj
    cases hk:Go.Lib.keeps l.toArray (j+1) with
    | true =>
      refine List.mem_map.2 ⟨j+1,List.mem_filter.2 ⟨by simpa using hj,hk⟩,?_⟩
      simp [hj]
    | false =>
      have hj':j<l.length:=by omega
      have:l[j+1]=l[j]:=by
       unfold Go.Lib.keeps at hk
       simp [hj,hj'] at hk
       exact hk
      rw [this]
      exact ih hj'
 obtain ⟨j,hj,rfl⟩:=List.mem_iff_getElem.1 h
 exact key j hj
theorem q6v {l:List Str} {s:Str}:s∈Go.Lib.compact l↔s∈l:=⟨PS,x5a⟩
open Go.Proofs
section
variable {p:Pg} {k:Nat} {f:Pr}
end
open Go.Proofs
theorem q8e : ∀ (l:List Pr) {n:Nat} {m:Int},XN n l=some m → ∀ (j:Nat) (f:Pr),l[j]? = some f → ∃ m',ZV 1 ((n+QR l j:Nat):Int) f.body=some m'
 | [],_,_,_,j,f,hj=>by simp at hj
 | g::r,n,m,h,j,f,hj=>by
   rw [XN] at h
   cases hm:JO g<;>rw [hm] at h
   ·cases h
   simp only [cond_true] at h
   split at h
   ·rename_i m1 h1
    cases j with
    | zero =>
      cases hj
      exact ⟨m1,h1⟩
    | succ j =>
      have h2:=ZD _ _ g.body h1
      have h':XN ((n+QY g.body:Nat):Int) r=some m:=by rw [← h,h2];rfl
      obtain ⟨m',h3⟩:=q8e r h' j f (by simpa using hj)
      exact ⟨m',by rw [← h3,QR];congr 1;omega⟩
   ·cases h
theorem PF {p:Pg} (h:VX p=true) {j:Nat} {f:Pr} (hj:p.procs[j]? = some f) : ∃ m,ZV 1 ((QR p.procs j:Nat):Int) f.body=some m:=by
 unfold VX at h
 simp only [Bool.and_eq_true] at h
 obtain ⟨m,hm⟩:=Option.isSome_iff_exists.1 h.2
 obtain ⟨m',h'⟩:=q8e p.procs (n:=0) hm j f hj
 exact ⟨m',by rw [← h'];congr 1;omega⟩
section
variable {p:Pg} {k:Nat} {f:Pr}
end
open Go.Proofs
open Go.Proofs
open Go.Proofs
theorem ValO.stepsNe {hr:Bool} {s:St} {o:Oper} {K:LV→Prop} {x y:Operand} {u:TypeId} (hop:o.op = .binOp .neq 79 x y u) {a b:Step} (hx:QT s.sl x = .p (.agg a.cells)) (hy:QT s.sl y = .p (.agg b.cells))
  (hK:K (.p (.bool (!decide (a=b))))):ValO Tryz.prog hr s o K:=by
 refine ⟨fun σ β ac w hs _=>⟨_,.bool (!decide (a=b)),hK,.p (.bool _),fun w' _ _ => ?_⟩⟩
 have h1:ac.eval x = .agg #[.int .i64 a.src,.int .i64 a.dst,.int .i64 a.kind]:=by
  have:=QU hs x
  rw [hx] at this
  cases this with
  | p h=>exact x9j h
 have h2:ac.eval y = .agg #[.int .i64 b.src,.int .i64 b.dst,.int .i64 b.kind]:=by
  have:=QU hs y
  rw [hy] at this
  cases this with
  | p h=>exact x9j h
 have hu:Tryz.prog.underlying 79=some (.struct (Tryz.prog.fieldsOf 79)):=by kernel_rfl
 have hi:Tryz.prog.underlying 3=some (.int .i64):=by kernel_rfl
 have hf:(Tryz.prog.fieldsOf 79).toList=(match ty79.desc with | .struct fs=>fs.toList|_=>[]):=by kernel_rfl
 have he:(Op.equalIn 10000 79 (.agg #[.int .i64 a.src,.int .i64 a.dst,.int .i64 a.kind]) (.agg #[.int .i64 b.src,.int .i64 b.dst,.int .i64 b.kind])).run Tryz.prog w' = .ok (decide (a=b)) w':=by
  rw [run_equalIn_struct w' 9999 _ _ _ hu (by kernel_rfl),hf]
  simp only [ty79,Op.eqFields]
  have p0 : ∀ x y z:Int,(part 3 #[.int .i64 x,.int .i64 y,.int .i64 z] 0).run Tryz.prog w' = .ok (.int .i64 x) w':=fun x y z=>run_part_plain w' (by kernel_rfl) rfl
  have p1 : ∀ x y z:Int,(part 3 #[.int .i64 x,.int .i64 y,.int .i64 z] 1).run Tryz.prog w' = .ok (.int .i64 y) w':=fun x y z=>run_part_plain w' (by kernel_rfl) rfl
  have p2 : ∀ x y z:Int,(part 3 #[.int .i64 x,.int .i64 y,.int .i64 z] 2).run Tryz.prog w' = .ok (.int .i64 z) w':=fun x y z=>run_part_plain w' (by kernel_rfl) rfl
  have ei : ∀ x y:Int,(Op.equalIn 9999 3 (.int .i64 x) (.int .i64 y)).run Tryz.prog w' = .ok (x==y) w':=fun a b=>run_equalIn_int (P:=Tryz.prog) w' 9998 3 .i64 .i64 a b hi
  have e:decide (a=b)=((a.src==b.src)&&((a.dst==b.dst)&&(a.kind==b.kind))):=by
   cases a;cases b
   simp only [Step.mk.injEq,Bool.decide_and]
   rfl
  simp only [ne_eq,show ¬("From" = "_") by decide,show ¬("To" = "_") by decide,show ¬("Kind" = "_") by decide,not_false_eq_true,if_true,Sem.run_bind,p0,p1,p2,Result.andThen_ok,ei,Sem.run_ite,Sem.run_pure,e]
  cases (a.src==b.src)<;>cases (a.dst==b.dst)<;>cases (a.kind==b.kind)<;>simp
 simp only [execOp,hop,h1,h2,Sem.run_bind,run_eqGuard_agg _ _ _ _ _ _ _ (show Tryz.prog.eqGuardType Tryz.prog.depth 79=false by kernel_rfl),Result.andThen_ok,run_neq_struct,he,Sem.run_pure]
theorem z2r {α:Type} {l m:List α} {j:Nat} (h:l.take j=m.take j) (hl:j<l.length) (hm:j<m.length) (he:l[j]=m[j]):l.take (j+1)=m.take (j+1):=by
 rw [List.take_succ_eq_append_getElem hl,List.take_succ_eq_append_getElem hm,h,he]
theorem z7i {α:Type} {l m:List α} {j:Nat} (h:l.take j=m.take j) (hl:l.length≤j) (hm:m.length≤j):l=m:=by
 rwa [List.take_of_length_le hl,List.take_of_length_le hm] at h
theorem UG (l m:List Step):SpecP Tryz.prog 22 [QL l,QL m] (fun r=>r = .bool (decide (l=m))):=by
 refine SpecP.body GN QQ Tryz.func22 rfl Tryz.call22 (by show 2≤_;decide) ?_
 conv=>whnf
 have h1:(l.map fun s=>AV.agg s.cells).length=l.length:=List.length_map _
 have h2:(m.map fun s=>AV.agg s.cells).length=m.length:=List.length_map _
 repeat' (first|(intro (_:_≤9223372036854775807);conv=>whnf)|(refine Br.dec2 (fun _=>?_) (fun _=>?_)<;>first|(exfalso;omega)|conv=>whnf))
 all_goals first
  | exact RetK.ff (decide_eq_false fun h=>by subst h;omega)
  | skip
 have hlen:l.length=m.length:=by omega
 refine LoopK.inv QQ (fun j:Nat=>⟨[(0,.p (QL l)),(1,.p (QL m)),(12,.p (.int .i64 (l.map fun s=>AV.agg s.cells).length)),(13,.p (.int .i64 j))],[]⟩) (fun j=>j≤l.length∧l.take j=m.take j) (fun j=>l.length-j) 0 (Le.of_eq rfl) ⟨Nat.zero_le _,rfl⟩ ?_
 rintro j ⟨h3,h4⟩
 rcases Nat.lt_or_ge j l.length with hj|hj
 ·conv=>whnf
  repeat' (first|((first|refine DrawK.auto QQ mixed (by kernel_rfl) ?_|refine IdxK.map (by omega) (fun _=>rfl) ?_|refine Wr.i64 (by omega) (by omega) ?_|refine ValO.stepsNe rfl rfl rfl ?_);conv=>whnf)|(refine Br.dec (fun _=>?_) (fun _=>?_)<;>first|(exfalso;omega)|conv=>whnf)|(refine Br.dec2 (fun _=>?_) (fun _=>?_)<;>first|(exfalso;omega)|conv=>whnf))
  all_goals first
   | exact RetK.ff (decide_eq_false fun h=>by subst h;simp_all)
   | exact ⟨j+1,⟨by omega,z2r h4 hj (by omega) (by simp_all)⟩,by omega,Le.of_eq rfl⟩
 ·conv=>whnf
  repeat' (refine Br.dec (fun _=>?_) (fun _=>?_)<;>first|(exfalso;omega)|conv=>whnf)
  exact RetK.tt (decide_eq_true (z7i h4 hj (by omega)))
open Go.Proofs
open Go.Proofs
open Go.Proofs
open Go.Proofs
open Go.Proofs
open Go.Proofs
open Go.Proofs
open Go.Proofs
open Go.Proofs
mutual
theorem z8y : ∀ (t:S) {nest seen m:Int},q3h nest seen t=some m → ∀ u∈flS t,oneOk u=true
 | .mk id kind labels name pr x has args thn els,nest,seen,m,h,u,hu=>by
   obtain ⟨h1,_,m1,h3,h4⟩:=ZW h
   rw [flS] at hu
   rcases List.mem_cons.1 hu with rfl|hu
   ·exact h1
   ·rcases List.mem_append.1 hu with hu|hu
    ·exact q3k thn h3 u hu
    ·exact q3k els h4 u hu
theorem q3k : ∀ (l:List S) {nest seen m:Int},ZV nest seen l=some m → ∀ u∈flL l,oneOk u=true
 | [],_,_,_,_,u,hu=>by rw [flL] at hu;cases hu
 | t::r,nest,seen,m,h,u,hu=>by
   obtain ⟨_,m1,h1,h2⟩:=XD h
   rw [flL] at hu
   rcases List.mem_append.1 hu with hu|hu
   ·exact z8y t h1 u hu
   ·exact q3k r h2 u hu
end
theorem z7q {p:Pg} {j:Nat} {f:Pr} (h:ZB p=true) (hj:p.procs[j]? = some f) {t:S} (ht:t∈flL f.body):OneF t:=by
 obtain ⟨m,hr⟩:=PF (QE h).1 hj
 exact UJ (q3k _ hr t ht)
section
variable {p:Pg} {j:Nat} {f:Pr}
end
open Go.Proofs
open Go.Proofs
namespace Own
end Own
end Go.Ab
