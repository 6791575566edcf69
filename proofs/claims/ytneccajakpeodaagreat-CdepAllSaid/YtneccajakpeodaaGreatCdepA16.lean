/- The reference's weighing: how much text a program is. -/
import Derived.Laws.StructEq
import Derived.ChangeKeysEq
import Derived.Test.YtneccajakpeodaaGreatCdepA8
import Derived.Test.YtneccajakpeodaaGreatCdepA10
import Derived.Test.YtneccajakpeodaaGreatCdepA13
import Derived.Test.YtneccajakpeodaaGreatCdepA14
import Derived.Test.YtneccajakpeodaaGreatCdepA15
set_option linter.unusedSimpArgs false
set_option linter.unusedVariables false
set_option maxRecDepth 100000
set_option maxHeartbeats 16000000
namespace Go.Ab
open Go.Proofs
def NK:List Str→Nat
 | []=>0
 | s::r=>1+s.length+NK r
mutual
def gX:X→Nat
 | .mk _ _ name kids=>1+name.length+gXs kids
def gXs:List X→Nat
 | []=>0
 | x::r=>gX x+gXs r
end
def q8t:List Arg→Nat
 | []=>0
 | a::r=>gX a.x+(1+a.name.length)+q8t r
mutual
def gS:S→Nat
 | .mk _ _ labels name proc x _ args thn els=>gX x+NK labels+(1+name.length)+(1+proc.length)+q8t args+gL thn+gL els
def gL:List S→Nat
 | []=>0
 | s::r=>gS s+gL r
end
def w0g:List Param→Nat
 | []=>0
 | a::r=>1+a.name.length+w0g r
def gPr (f:Pr):Nat:=1+f.name.length+NK f.vars+NK f.fin+w0g f.params+gL f.body
def x8y:List Pr→Nat
 | []=>0
 | f::r=>gPr f+x8y r
def gPg (p:Pg):Nat:=NK p.globals+x8y p.procs
theorem w9m (s:S):gS s=gX s.x+NK s.labels+(1+s.name.length)+(1+s.proc.length)+q8t s.args+gL s.thn+gL s.els:=by
 cases s
 rw [gS]
 rfl
theorem x6x : ∀ l:List Str,w0j l≤NK l
 | []=>Nat.le_refl _
 | s::r=>by have:=x6x r;simp only [w0j,NK];omega
mutual
theorem w9z : ∀ x:X,wX x≤gX x
 | .mk _ _ name kids=>by have:=w8k kids;rw [wX,gX];omega
theorem w8k : ∀ l:List X,wXs l≤gXs l
 | []=>by rw [wXs];omega
 | x::r=>by have:=w9z x;have:=w8k r;rw [wXs,gXs];omega
end
theorem z9j : ∀ l:List Arg,x1l l≤q8t l
 | []=>Nat.le_refl _
 | a::r=>by have:=z9j r;have:=w9z a.x;simp only [x1l,q8t];omega
mutual
theorem v2h : ∀ s:S,wS s≤gS s
 | .mk _ _ labels name proc x _ args thn els=>by
   have:=w9z x;have:=x6x labels;have:=z9j args;have:=w8m thn;have:=w8m els
   rw [wS,gS];omega
theorem w8m : ∀ l:List S,wL l≤gL l
 | []=>by rw [wL];omega
 | s::r=>by have:=v2h s;have:=w8m r;rw [wL,gL];omega
end
theorem w4y : ∀ l:List Param,w6o l≤w0g l
 | []=>Nat.le_refl _
 | a::r=>by have:=w4y r;simp only [w6o,w0g];omega
theorem w3l : ∀ l:List Pr,w4z l≤x8y l
 | []=>Nat.le_refl _
 | f::r=>by
   have:=w3l r;have:=x6x f.vars;have:=x6x f.fin;have:=w4y f.params;have:=w8m f.body
   simp only [w4z,x8y,wPr,gPr];omega
theorem w9s (p:Pg):wPg p≤gPg p:=by
 have:=x6x p.globals;have:=w3l p.procs
 unfold wPg gPg;omega
def XU (x:Int):Int:=if x>20000 then 20001 else x
theorem ZW {a b:Int} (hb:0≤b):XU (XU a+b)=XU (a+b):=by
 unfold XU
 split<;>split<;>(try split)<;>omega
theorem XA {a:Int} (h:0≤a):0≤XU a∧XU a≤20001:=by
 unfold XU
 split<;>omega
theorem x3f {a:Int} (h:a≤20001):XU a=a:=by
 unfold XU
 split<;>omega
theorem UF {a b:Int} (h:a>20000) (h1:a≤20001) (hb:0≤b):a=XU (a+b):=by
 unfold XU
 split<;>omega
theorem QR (s:Str) (n:Int) (hn:0≤n∧n≤20001):SpecP Tryz.prog 77 [.str s,.int .i64 n] (fun r=>r = .int .i64 (XU (n+(1+s.length:Nat)))):=by
 refine SpecP.body GT QQ Tryz.func77 rfl Tryz.call77 (by show 2≤_;decide) ?_
 conv=>whnf
 repeat' (first|((first|intro (_:_≤9223372036854775807)|refine Wr.i64 (by omega) (by omega) ?_);conv=>whnf)|(refine Br.dec (fun _=>?_) (fun _=>?_)<;>first|(exfalso;omega)|conv=>whnf))
 all_goals exact RetK.int (by unfold XU;(repeat' split)<;>omega)
theorem XP (l:List Str) (n:Int) (hn:0≤n∧n≤20001):SpecP Tryz.prog 76 [QD l,.int .i64 n] (fun r=>r = .int .i64 (XU (n+NK l))):=by
 refine SpecP.body KR QQ Tryz.func76 rfl Tryz.call76 (by show 2≤_;decide) ?_
 conv=>whnf
 skip
 have hl:(l.map AV.str).length=l.length:=List.length_map _
 refine LoopK.inv QQ (fun x:Nat×Int=>⟨[(0,.p (QD l)),(1,.p (.int .i64 x.2)),(5,.p (.int .i64 x.1))],[]⟩) (fun x=>x.1≤l.length∧(0≤x.2∧x.2≤20001)∧XU (x.2+NK (l.drop x.1))=XU (n+NK l)) (fun x=>l.length-x.1) (0,n) (Le.of_eq rfl) ⟨Nat.zero_le _,hn,rfl⟩ ?_
 rintro ⟨j,m⟩ ⟨h2,h3,h4⟩
 simp only at h2 h3 h4 ⊢
 rcases Nat.lt_or_ge j l.length with hj|hj
 ·rw [List.drop_eq_getElem_cons hj,NK] at h4
  conv=>whnf
  repeat' (first|((first|intro (_:_≤9223372036854775807)|(refine CallK.pure (QR _ _ h3) (by repeat' (first|exact ArgP.nil|refine ArgP.cons ?_ ?_|exact Sub.refl _|exact Sub.tt rfl|exact Sub.ff rfl|exact Sub.int (by omega))) ?_;rintro _ rfl)|refine IdxK.map (by omega) (fun _=>rfl) ?_|refine Wr.i64 (by omega) (by omega) ?_);conv=>whnf)|(refine Br.dec (fun _=>?_) (fun _=>?_)<;>first|(exfalso;omega)|conv=>whnf))
  ·have h5:XU (XU (m+(1+l[j].length:Nat))+NK (l.drop (j+1)))=XU (n+NK l):=by
    rw [ZW (by omega),← h4]
    congr 1
    omega
   exact ⟨(j+1,XU (m+(1+l[j].length:Nat))),⟨by simp only;omega,XA (by omega),h5⟩,by simp only;omega,Le.of_eq rfl⟩
  ·exact RetK.int (by rw [← h4];exact UF (by omega) h3.2 (by omega))
 ·rw [List.drop_eq_nil_of_le hj,NK] at h4
  conv=>whnf
  repeat' (first|(intro (_:_≤9223372036854775807);conv=>whnf)|(refine Br.dec (fun _=>?_) (fun _=>?_)<;>first|(exfalso;omega)|conv=>whnf))
  exact RetK.int (by rw [← h4,x3f (by omega)];simp)
theorem VO : ∀ (k:Nat) (x:X) (_:gX x<k) (n:Int) (_:0≤n∧n≤20001),SpecP Tryz.prog 135 [.agg x.cells,.int .i64 n] (fun r=>r = .int .i64 (XU (n+gX x))):=by
 intro k
 induction k with
 | zero=>intro x h;omega
 | succ k ih =>
   intro x hx n hn
   have hxe:gX x=1+x.name.length+gXs x.kids:=by cases x;rw [gX];rfl
   have hkl:=X.avs_len x.kids
   refine SpecP.body GQ QQ Tryz.func135 rfl Tryz.call135 (by show 2≤_;decide) ?_
   conv=>whnf
   repeat' (refine CallK.pure (QR _ _ hn) (by repeat' (first|exact ArgP.nil|refine ArgP.cons ?_ ?_|exact Sub.refl _|exact Sub.tt rfl|exact Sub.ff rfl|exact Sub.int (by omega))) ?_;rintro _ rfl;conv=>whnf)
   refine LoopK.inv QQ (fun y:Nat×Int=>⟨[(1,.p (.int .i64 y.2)),(2,.p (.ip x.cells)),(5,.p (.int .i64 y.1))],[]⟩) (fun y=>y.1≤x.kids.length∧(0≤y.2∧y.2≤20001)∧XU (y.2+gXs (x.kids.drop y.1))=XU (n+gX x)) (fun y=>x.kids.length-y.1) (0,XU (n+(1+x.name.length:Nat))) (Le.of_eq rfl) ⟨Nat.zero_le _,XA (by omega),by
    show XU (XU (n+(1+x.name.length:Nat))+gXs x.kids)=_
    rw [ZW (by omega),hxe]
    congr 1
    omega⟩ ?_
   rintro ⟨j,m⟩ ⟨h2,h3,h4⟩
   simp only at h2 h3 h4 ⊢
   rcases Nat.lt_or_ge j x.kids.length with hj|hj
   ·rw [List.drop_eq_getElem_cons hj,gXs] at h4
    have hkw:gX x.kids[j]<k:=by
     have : ∀ (l:List X) (y:X),y∈l→gX y≤gXs l:=fun l=>by
      induction l with
      | nil=>intro y h;cases h
      | cons a r ih =>
        intro y h
        rw [gXs]
        rcases List.mem_cons.1 h with rfl|h
        ·omega
        ·have:=ih y h;omega
     have:=this x.kids _ (List.getElem_mem hj)
     omega
    conv=>whnf
    repeat' (first|((first|intro (_:_≤9223372036854775807)|refine IdxK.xs (by omega) ?_|refine Wr.i64 (by omega) (by omega) ?_|(refine CallK.pure (ih (x.kids[j]'hj) hkw m h3) (.cons (Sub.refl _) (.cons (Sub.refl _) .nil)) ?_;rintro _ rfl));conv=>whnf)|(refine Br.dec (fun _=>?_) (fun _=>?_)<;>first|(exfalso;omega)|conv=>whnf))
    ·have h5:XU (XU (m+gX x.kids[j])+gXs (x.kids.drop (j+1)))=XU (n+gX x):=by
      rw [ZW (by omega),← h4]
      congr 1
      omega
     exact ⟨(j+1,XU (m+gX x.kids[j])),⟨by simp only;omega,XA (by omega),h5⟩,by simp only;omega,Le.of_eq rfl⟩
    ·exact RetK.int (by rw [← h4];exact UF (by omega) h3.2 (by omega))
   ·rw [List.drop_eq_nil_of_le hj,gXs] at h4
    conv=>whnf
    repeat' (first|(intro (_:_≤9223372036854775807);conv=>whnf)|(refine Br.dec (fun _=>?_) (fun _=>?_)<;>first|(exfalso;omega)|conv=>whnf))
    exact RetK.int (by rw [← h4,x3f (by omega)];simp)
theorem w3r : ∀ (l:List S) (y:S),y∈l→gS y≤gL l
 | [],y,h=>by cases h
 | a::r,y,h=>by
   rw [gL]
   rcases List.mem_cons.1 h with rfl|h
   ·omega
   ·have:=w3r r y h;omega
theorem VN : ∀ (k:Nat) (l:List S) (_:gL l<k) (n:Int) (_:0≤n∧n≤20001),SpecP Tryz.prog 78 [eSs l,.int .i64 n] (fun r=>r = .int .i64 (XU (n+gL l))):=by
 intro k
 induction k with
 | zero=>intro l h;omega
 | succ k ih =>
   intro l hl n hn
   have hkl:=S.avs_len l
   refine SpecP.body KJ QQ Tryz.func78 rfl Tryz.call78 (by show 2≤_;decide) ?_
   conv=>whnf
   skip
   refine LoopK.inv QQ (fun y:Nat×Int=>⟨[(0,.p (eSs l)),(1,.p (.int .i64 y.2)),(5,.p (.int .i64 y.1))],[]⟩) (fun y=>y.1≤l.length∧(0≤y.2∧y.2≤20001)∧XU (y.2+gL (l.drop y.1))=XU (n+gL l)) (fun y=>l.length-y.1) (0,n) (Le.of_eq rfl) ⟨Nat.zero_le _,hn,rfl⟩ ?_
   rintro ⟨j,m⟩ ⟨h2,h3,h4⟩
   simp only at h2 h3 h4 ⊢
   rcases Nat.lt_or_ge j l.length with hj|hj
   rotate_left 1
   ·rw [List.drop_eq_nil_of_le hj,gL] at h4
    conv=>whnf
    repeat' (first|(intro (_:_≤9223372036854775807);conv=>whnf)|(refine Br.dec (fun _=>?_) (fun _=>?_)<;>first|(exfalso;omega)|conv=>whnf))
    exact RetK.int (by rw [← h4,x3f (by omega)];simp)
   rw [List.drop_eq_getElem_cons hj,gL] at h4
   have hsw:=w3r l _ (List.getElem_mem hj)
   have hse:=w9m l[j]
   have q1:=XA (a:=m+gX l[j].x) (by omega)
   have q2:=XA (a:=XU (m+gX l[j].x)+NK l[j].labels) (by omega)
   have q3:=XA (a:=XU (XU (m+gX l[j].x)+NK l[j].labels)+(1+l[j].name.length:Nat)) (by omega)
   conv=>whnf
   repeat' (first|((first|intro (_:_≤9223372036854775807)|refine DrawK.auto QQ mixed (by kernel_rfl) ?_|refine And.intro rfl ?_|refine IdxK.ss (by omega) ?_|(refine CallK.pure (VO (gX l[j].x+1) l[j].x (by omega) m h3) (.cons (Sub.refl _) (.cons (Sub.refl _) .nil)) ?_;rintro _ rfl)|(refine CallK.pure (XP l[j].labels _ q1) (.cons (Sub.refl _) (.cons (Sub.refl _) .nil)) ?_;rintro _ rfl)|(refine CallK.pure (QR l[j].name _ q2) (.cons (Sub.refl _) (.cons (Sub.refl _) .nil)) ?_;rintro _ rfl)|(refine CallK.pure (QR l[j].proc _ q3) (.cons (Sub.refl _) (.cons (Sub.refl _) .nil)) ?_;rintro _ rfl));conv=>whnf)|(refine Br.dec (fun _=>?_) (fun _=>?_)<;>first|(exfalso;omega)|conv=>whnf))
   rotate_left 1
   ·exact RetK.int (by rw [← h4];exact UF (by omega) h3.2 (by omega))
   have q4:=XA (a:=XU (XU (XU (m+gX l[j].x)+NK l[j].labels)+(1+l[j].name.length:Nat))+(1+l[j].proc.length:Nat)) (by omega)
   have h5:XU (XU (XU (XU (XU (m+gX l[j].x)+NK l[j].labels)+(1+l[j].name.length:Nat))+(1+l[j].proc.length:Nat))+(q8t l[j].args+(gL l[j].thn+gL l[j].els+gL (l.drop (j+1))):Nat))=XU (n+gL l):=by
    rw [ZW (by omega),Int.add_assoc,ZW (by omega),Int.add_assoc,ZW (by omega),Int.add_assoc,ZW (by omega),← h4,hse]
    congr 1
    omega
   generalize XU (XU (XU (XU (m+gX l[j].x)+NK l[j].labels)+(1+l[j].name.length:Nat))+(1+l[j].proc.length:Nat))=m0 at q4 h5 ⊢
   have hal:(l[j].args.map fun a=>AV.agg a.cells).length=l[j].args.length:=List.length_map _
   refine LoopK.inv QQ (fun y:Nat×Int=>⟨[(0,.p (eSs l)),(1,.p (.int .i64 y.2)),(5,.p (.int .i64 j)),(6,.p (.ip l[j].cells)),(7,.p (.int .i64 y.1))],[]⟩) (fun y=>y.1≤l[j].args.length∧(0≤y.2∧y.2≤20001)∧XU (y.2+(q8t (l[j].args.drop y.1)+(gL l[j].thn+gL l[j].els+gL (l.drop (j+1))):Nat))=XU (n+gL l)) (fun y=>l[j].args.length-y.1) (0,m0) (Le.of_eq rfl) ⟨Nat.zero_le _,q4,h5⟩ ?_
   rintro ⟨a,m2⟩ ⟨h6,h7,h8⟩
   simp only at h6 h7 h8 ⊢
   have fin:XU (m2+(gL l[j].thn+gL l[j].els+gL (l.drop (j+1)):Nat))=XU (n+gL l)→(0≤XU (XU (m2+gL l[j].thn)+gL l[j].els)∧XU (XU (m2+gL l[j].thn)+gL l[j].els)≤20001)∧XU (XU (XU (m2+gL l[j].thn)+gL l[j].els)+gL (l.drop (j+1)))=XU (n+gL l):=fun h=>by
    have:=XA (a:=m2+gL l[j].thn) (by omega)
    refine ⟨XA (by omega),?_⟩
    rw [ZW (by omega),Int.add_assoc,ZW (by omega),← h]
    congr 1
    omega
   have r1:=XA (a:=m2+gL l[j].thn) (by omega)
   have full:m2>20000→XU (m2+(gL l[j].thn+gL l[j].els+gL (l.drop (j+1)):Nat))=XU (n+gL l):=fun h=>by
    rw [← h8,← UF h h7.2 (by omega),← UF h h7.2 (by omega)]
   rcases Nat.lt_or_ge a l[j].args.length with ha|ha
   rotate_left 1
   ·have h9:XU (m2+(gL l[j].thn+gL l[j].els+gL (l.drop (j+1)):Nat))=XU (n+gL l):=by
     rw [List.drop_eq_nil_of_le ha,q8t,Nat.zero_add] at h8
     exact h8
    obtain ⟨f1,f2⟩:=fin h9
    conv=>whnf
    repeat' (first|((first|intro (_:_≤9223372036854775807)|refine DrawK.auto QQ mixed (by kernel_rfl) ?_|refine Wr.i64 (by omega) (by omega) ?_|(refine CallK.pure (ih l[j].thn (by omega) m2 h7) (.cons (Sub.refl _) (.cons (Sub.refl _) .nil)) ?_;rintro _ rfl)|(refine CallK.pure (ih l[j].els (by omega) _ r1) (.cons (Sub.refl _) (.cons (Sub.refl _) .nil)) ?_;rintro _ rfl));conv=>whnf)|(refine Br.dec (fun _=>?_) (fun _=>?_)<;>first|(exfalso;omega)|conv=>whnf))
    all_goals exact ⟨(j+1,XU (XU (m2+gL l[j].thn)+gL l[j].els)),⟨by simp only;omega,f1,f2⟩,by simp only;omega,Le.of_eq rfl⟩
   rw [List.drop_eq_getElem_cons ha,q8t] at h8
   have q5:=XA (a:=m2+gX l[j].args[a].x) (by omega)
   conv=>whnf
   repeat' (first|((first|intro (_:_≤9223372036854775807)|refine DrawK.auto QQ mixed (by kernel_rfl) ?_|refine IdxK.map (by omega) (fun _=>rfl) ?_|refine Wr.i64 (by omega) (by omega) ?_|(refine CallK.pure (VO (gX l[j].args[a].x+1) l[j].args[a].x (by omega) m2 h7) (.cons (Sub.refl _) (.cons (Sub.refl _) .nil)) ?_;rintro _ rfl)|(refine CallK.pure (QR l[j].args[a].name _ q5) (.cons (Sub.refl _) (.cons (Sub.refl _) .nil)) ?_;rintro _ rfl)|(refine CallK.pure (ih l[j].thn (by omega) m2 h7) (.cons (Sub.refl _) (.cons (Sub.refl _) .nil)) ?_;rintro _ rfl)|(refine CallK.pure (ih l[j].els (by omega) _ r1) (.cons (Sub.refl _) (.cons (Sub.refl _) .nil)) ?_;rintro _ rfl));conv=>whnf)|(refine Br.dec (fun _=>?_) (fun _=>?_)<;>first|(exfalso;omega)|conv=>whnf))
   ·have h10:XU (XU (XU (m2+gX l[j].args[a].x)+(1+l[j].args[a].name.length:Nat))+(q8t (l[j].args.drop (a+1))+(gL l[j].thn+gL l[j].els+gL (l.drop (j+1))):Nat))=XU (n+gL l):=by
     rw [ZW (by omega),Int.add_assoc,ZW (by omega),← h8]
     congr 1
     omega
    exact ⟨(a+1,XU (XU (m2+gX l[j].args[a].x)+(1+l[j].args[a].name.length:Nat))),⟨by simp only;omega,XA (by omega),h10⟩,by simp only;omega,Le.of_eq rfl⟩
   ·obtain ⟨f1,f2⟩:=fin (full (by omega))
    exact ⟨(j+1,XU (XU (m2+gL l[j].thn)+gL l[j].els)),⟨by simp only;omega,f1,f2⟩,by simp only;omega,Le.of_eq rfl⟩
open Go.Proofs
def w3b (p:Pg):Bool:=decide (gPg p≤20000)
theorem w7p {p:Pg} (h:w3b p=true):Fit p:=by
 have:=w9s p
 have h1:gPg p≤20000:=by simpa [w3b] using h
 unfold Fit
 omega
theorem GI (p:Pg):SpecP Tryz.prog 16 [.agg p.cells] (fun r=>r = .bool (w3b p)):=by
 refine SpecP.body MV QQ Tryz.func16 rfl Tryz.call16 (by show 1≤_;decide) ?_
 conv=>whnf
 have hl:(p.procs.map fun f=>AV.agg f.cells).length=p.procs.length:=List.length_map _
 have q0:=XA (a:=0+NK p.globals) (by omega)
 repeat' (refine CallK.pure (XP p.globals 0 (by omega)) (.cons (Sub.refl _) (.cons (Sub.refl _) .nil)) ?_;rintro _ rfl;conv=>whnf)
 refine LoopK.inv QQ (fun y:Nat×Int=>⟨[(1,.p (.ip p.cells)),(3,.p (.int .i64 y.2)),(4,.p (.int .i64 y.1))],[]⟩) (fun y=>y.1≤p.procs.length∧(0≤y.2∧y.2≤20001)∧XU (y.2+x8y (p.procs.drop y.1))=XU (gPg p:Nat)) (fun y=>p.procs.length-y.1) (0,XU (0+NK p.globals)) (Le.of_eq rfl) ⟨Nat.zero_le _,q0,by
  show XU (XU (0+NK p.globals)+x8y p.procs)=_
  rw [ZW (by omega)]
  congr 1
  unfold gPg
  omega⟩ ?_
 rintro ⟨j,m⟩ ⟨h2,h3,h4⟩
 simp only at h2 h3 h4 ⊢
 have last : ∀ {x:Int},0≤x∧x≤20001→XU x=XU (gPg p:Nat)→(decide (x≤20000))=w3b p:=fun {x} hx h=>by
  unfold w3b
  unfold XU at h
  by_cases h1:gPg p≤20000
  ·rw [decide_eq_true h1,decide_eq_true_eq]
   split at h<;>split at h<;>omega
  ·rw [decide_eq_false h1,decide_eq_false_iff_not]
   split at h<;>split at h<;>omega
 rcases Nat.lt_or_ge j p.procs.length with hj|hj
 rotate_left 1
 ·rw [List.drop_eq_nil_of_le hj,x8y] at h4
  conv=>whnf
  repeat' (first|(intro (_:_≤9223372036854775807);conv=>whnf)|(refine Br.dec (fun _=>?_) (fun _=>?_)<;>first|(exfalso;omega)|conv=>whnf))
  all_goals exact RetK.bool (last h3 (by rw [← h4];simp))
 rw [List.drop_eq_getElem_cons hj,x8y] at h4
 have hpe:gPr p.procs[j]=1+p.procs[j].name.length+NK p.procs[j].vars+NK p.procs[j].fin+w0g p.procs[j].params+gL p.procs[j].body:=rfl
 have q1:=XA (a:=m+(1+p.procs[j].name.length:Nat)) (by omega)
 have q2:=XA (a:=XU (m+(1+p.procs[j].name.length:Nat))+NK p.procs[j].vars) (by omega)
 have q3:=XA (a:=XU (XU (m+(1+p.procs[j].name.length:Nat))+NK p.procs[j].vars)+NK p.procs[j].fin) (by omega)
 conv=>whnf
 repeat' (first|((first|intro (_:_≤9223372036854775807)|refine DrawK.auto QQ mixed (by kernel_rfl) ?_|refine And.intro rfl ?_|refine IdxK.map (by omega) (fun _=>rfl) ?_|(refine CallK.pure (QR p.procs[j].name _ h3) (.cons (Sub.refl _) (.cons (Sub.refl _) .nil)) ?_;rintro _ rfl)|(refine CallK.pure (XP p.procs[j].vars _ q1) (.cons (Sub.refl _) (.cons (Sub.refl _) .nil)) ?_;rintro _ rfl)|(refine CallK.pure (XP p.procs[j].fin _ q2) (.cons (Sub.refl _) (.cons (Sub.refl _) .nil)) ?_;rintro _ rfl));conv=>whnf)|(refine Br.dec (fun _=>?_) (fun _=>?_)<;>first|(exfalso;omega)|conv=>whnf))
 rotate_left 1
 ·exact RetK.bool (last h3 (by rw [← h4,← UF (by omega) h3.2 (by omega),x3f h3.2]))
 have h5:XU (XU (XU (XU (m+(1+p.procs[j].name.length:Nat))+NK p.procs[j].vars)+NK p.procs[j].fin)+(w0g p.procs[j].params+(gL p.procs[j].body+x8y (p.procs.drop (j+1))):Nat))=XU (gPg p:Nat):=by
  rw [ZW (by omega),Int.add_assoc,ZW (by omega),Int.add_assoc,ZW (by omega),← h4,hpe]
  congr 1
  omega
 generalize XU (XU (XU (m+(1+p.procs[j].name.length:Nat))+NK p.procs[j].vars)+NK p.procs[j].fin)=m0 at q3 h5 ⊢
 have hal:(p.procs[j].params.map fun a=>AV.agg a.cells).length=p.procs[j].params.length:=List.length_map _
 refine LoopK.inv QQ (fun y:Nat×Int=>⟨[(1,.p (.ip p.cells)),(3,.p (.int .i64 y.2)),(4,.p (.int .i64 j)),(5,.p (.ip p.procs[j].cells)),(6,.p (.int .i64 y.1))],[]⟩) (fun y=>y.1≤p.procs[j].params.length∧(0≤y.2∧y.2≤20001)∧XU (y.2+(w0g (p.procs[j].params.drop y.1)+(gL p.procs[j].body+x8y (p.procs.drop (j+1))):Nat))=XU (gPg p:Nat)) (fun y=>p.procs[j].params.length-y.1) (0,m0) (Le.of_eq rfl) ⟨Nat.zero_le _,q3,h5⟩ ?_
 rintro ⟨a,m2⟩ ⟨h6,h7,h8⟩
 simp only at h6 h7 h8 ⊢
 have fin:XU (m2+(gL p.procs[j].body+x8y (p.procs.drop (j+1)):Nat))=XU (gPg p:Nat)→(0≤XU (m2+gL p.procs[j].body)∧XU (m2+gL p.procs[j].body)≤20001)∧XU (XU (m2+gL p.procs[j].body)+x8y (p.procs.drop (j+1)))=XU (gPg p:Nat):=fun h=>by
  refine ⟨XA (by omega),?_⟩
  rw [ZW (by omega),← h]
  congr 1
  omega
 have full:m2>20000→XU (m2+(gL p.procs[j].body+x8y (p.procs.drop (j+1)):Nat))=XU (gPg p:Nat):=fun h=>by
  rw [← h8,← UF h h7.2 (by omega),← UF h h7.2 (by omega)]
 rcases Nat.lt_or_ge a p.procs[j].params.length with ha|ha
 rotate_left 1
 ·have h9:XU (m2+(gL p.procs[j].body+x8y (p.procs.drop (j+1)):Nat))=XU (gPg p:Nat):=by
   rw [List.drop_eq_nil_of_le ha,w0g,Nat.zero_add] at h8
   exact h8
  obtain ⟨f1,f2⟩:=fin h9
  conv=>whnf
  repeat' (first|((first|intro (_:_≤9223372036854775807)|refine Wr.i64 (by omega) (by omega) ?_|(refine CallK.pure (VN (gL p.procs[j].body+1) p.procs[j].body (by omega) m2 h7) (.cons (Sub.refl _) (.cons (Sub.refl _) .nil)) ?_;rintro _ rfl));conv=>whnf)|(refine Br.dec (fun _=>?_) (fun _=>?_)<;>first|(exfalso;omega)|conv=>whnf))
  all_goals exact ⟨(j+1,XU (m2+gL p.procs[j].body)),⟨by simp only;omega,f1,f2⟩,by simp only;omega,Le.of_eq rfl⟩
 rw [List.drop_eq_getElem_cons ha,w0g] at h8
 conv=>whnf
 repeat' (first|((first|intro (_:_≤9223372036854775807)|refine IdxK.map (by omega) (fun _=>rfl) ?_|refine Wr.i64 (by omega) (by omega) ?_|(refine CallK.pure (QR p.procs[j].params[a].name _ h7) (.cons (Sub.refl _) (.cons (Sub.refl _) .nil)) ?_;rintro _ rfl)|(refine CallK.pure (VN (gL p.procs[j].body+1) p.procs[j].body (by omega) m2 h7) (.cons (Sub.refl _) (.cons (Sub.refl _) .nil)) ?_;rintro _ rfl));conv=>whnf)|(refine Br.dec (fun _=>?_) (fun _=>?_)<;>first|(exfalso;omega)|conv=>whnf))
 ·have h10:XU (XU (m2+(1+p.procs[j].params[a].name.length:Nat))+(w0g (p.procs[j].params.drop (a+1))+(gL p.procs[j].body+x8y (p.procs.drop (j+1))):Nat))=XU (gPg p:Nat):=by
   rw [ZW (by omega),← h8]
   congr 1
   omega
  exact ⟨(a+1,XU (m2+(1+p.procs[j].params[a].name.length:Nat))),⟨by simp only;omega,XA (by omega),h10⟩,by simp only;omega,Le.of_eq rfl⟩
 ·obtain ⟨f1,f2⟩:=fin (full (by omega))
  exact ⟨(j+1,XU (m2+gL p.procs[j].body)),⟨by simp only;omega,f1,f2⟩,by simp only;omega,Le.of_eq rfl⟩
open Go.Proofs
inductive SubE:List AV→List AV→Prop
 | nil:SubE [] []
 | cons {a b:AV} {xs ys:List AV} (h:SubL a.cells b.cells) (hs:SubE xs ys):SubE (a::xs) (b::ys)
theorem SubE.get {xs ys:List AV} (h:SubE xs ys):xs.length=ys.length ∧ ∀ (i:Nat) (b:AV),ys[i]? = some b → ∃ a,xs[i]? = some a∧SubL a.cells b.cells:=by
 induction h with
 | nil=>exact ⟨rfl,by simp⟩
 | cons h hs ih =>
   refine ⟨by simp [ih.1],fun i b hb => ?_⟩
   cases i with
   | zero=>simp at hb;subst hb;exact ⟨_,rfl,h⟩
   | succ i=>exact ih.2 i b (by simpa using hb)
theorem Sub.sl {xs ys:List AV} (h:SubE xs ys):Sub (.sl xs) (.sl ys):=fun σ v hr=>by
 obtain ⟨hl,hg⟩:=h.get
 cases hr with
 | nilsl =>
   obtain rfl:ys=[]:=by simpa using hl.symm
   exact .nilsl
 | slz b =>
   obtain rfl:ys=[]:=by simpa using hl.symm
   exact .slz b
 | sl _ b off cap sz cells u hb hcap hmax hsz hc hrr =>
   rw [hl]
   refine .sl ys b off cap sz cells u hb (by omega) hmax (fun i e hi => ?_) (fun i e j c hi hj => ?_) (fun i e j c hi hj => ?_)
   ·obtain ⟨a,h1,h2⟩:=hg i e hi
    rw [← hsz i a h1,h2.1]
   ·obtain ⟨a,h1,h2⟩:=hg i e hi
    obtain ⟨d,h3,_⟩:=h2.get hj
    exact hc i a j d h1 h3
   ·obtain ⟨a,h1,h2⟩:=hg i e hi
    obtain ⟨d,h3,h4⟩:=h2.get hj
    exact h4 _ _ (hrr i a j d h1 h3)
theorem q4a (n:Int):SpecP Tryz.prog 131 [.int .i64 n] (fun r=>r = .agg (X.mk 1 n [] []).cells):=by
 refine SpecP.body q1u QQ Tryz.func131 rfl Tryz.call131 (by show 1≤_;decide) ?_
 conv=>whnf
 repeat' (refine And.intro rfl ?_;conv=>whnf)
 exact ⟨_,.p (Sub.agg (by repeat' (first|exact SubL.nil|refine SubL.cons ?_ ?_|exact Sub.refl _|exact Sub.nils|exact Sub.ff rfl))),rfl⟩
theorem q3q (s:Str):SpecP Tryz.prog 132 [.str s] (fun r=>r = .agg (X.mk 2 0 s []).cells):=by
 refine SpecP.body NF QQ Tryz.func132 rfl Tryz.call132 (by show 1≤_;decide) ?_
 conv=>whnf
 repeat' (refine And.intro rfl ?_;conv=>whnf)
 exact ⟨_,.p (Sub.agg (by repeat' (first|exact SubL.nil|refine SubL.cons ?_ ?_|exact Sub.refl _|exact Sub.nils|exact Sub.ff rfl))),rfl⟩
theorem FD (op:Int) (a b:X):SpecP Tryz.prog 133 [.int .i64 op,.agg a.cells,.agg b.cells] (fun r=>r = .agg (X.mk op 0 [] [a,b]).cells):=by
 refine SpecP.body LS QQ Tryz.func133 rfl Tryz.call133 (by show 3≤_;decide) ?_
 conv=>whnf
 repeat' ((first|refine And.intro rfl ?_|(refine And.intro ⟨by decide,by decide⟩ ?_)|refine BsK.pureL rfl rfl ?_);conv=>whnf)
 have e:X.avs [a,b]=[.agg a.cells,.agg b.cells]:=by simp only [X.avs,X.av_eq]
 exact ⟨_,.p (Sub.agg (SubL.cons (Sub.refl _) (SubL.cons (Sub.refl _) (SubL.cons (Sub.refl _) (SubL.cons (Sub.of_eq (by show _=AV.sl (X.avs [a,b]);rw [e];rfl)) SubL.nil))))),rfl⟩
def bs (l:List Nat):Str:=l.map fun n=>UInt8.ofNat n
def someP:Pg:=⟨[[103]],[
 ⟨[109,97,105,110],[],[[118]],[
   .mk 1 1 [] [118] [] (.mk 1 2 [] []) false [] [] [],
   .mk 2 4 [] [103] [112] (.mk 0 0 [] []) false [⟨false,[],.mk 1 3 [] []⟩,⟨true,[118],.mk 0 0 [] []⟩] [] [],
   .mk 3 3 [] [] [] (.mk 2 0 [118] []) false [] [] [],
   .mk 4 3 [] [] [] (.mk 2 0 [103] []) false [] [] []],[]⟩,
 ⟨[112],[⟨[120],false⟩,⟨[121],true⟩],[],[
   .mk 5 1 [] [121] [] (.mk 8 0 [] [.mk 2 0 [121] [],.mk 2 0 [120] []]) false [] [] [],
   .mk 6 5 [] [] [] (.mk 12 0 [] [.mk 2 0 [121] [],.mk 1 9 [] []]) false [] [.mk 7 10 [] [101] [] (.mk 0 0 [] []) false [] [] []] [],
   .mk 8 9 [] [] [] (.mk 2 0 [121] []) true [] [] []],[[101]]⟩]⟩
theorem q2x:SpecP Tryz.prog 74 [] (fun r=>r = .agg someP.cells):=by
 refine SpecP.body NP QQ Tryz.func74 rfl Tryz.call74 (by show 0≤_;decide) ?_
 conv=>whnf
 repeat' ((first|(refine CallK.pure (q4a _) (by repeat' (first|exact ArgP.nil|refine ArgP.cons ?_ ?_|exact Sub.refl _|exact Sub.tt rfl|exact Sub.ff rfl)) ?_;rintro _ rfl)|(refine CallK.pure (q3q _) (by repeat' (first|exact ArgP.nil|refine ArgP.cons ?_ ?_|exact Sub.refl _|exact Sub.tt rfl|exact Sub.ff rfl)) ?_;rintro _ rfl)|refine And.intro rfl ?_|(refine And.intro ⟨by decide,by decide⟩ ?_)|refine BsK.pure (fun x hx=>by rcases List.mem_singleton.1 hx with rfl;rfl) rfl ?_|refine BsK.pureL rfl rfl ?_|(refine CallK.pure (FD 8 (.mk 2 0 [121] []) (.mk 2 0 [120] [])) (.cons (Sub.refl _) (.cons (Sub.refl _) (.cons (Sub.refl _) .nil))) ?_;rintro _ rfl)|(refine CallK.pure (FD 12 (.mk 2 0 [121] []) (.mk 1 9 [] [])) (.cons (Sub.refl _) (.cons (Sub.refl _) (.cons (Sub.refl _) .nil))) ?_;rintro _ rfl));conv=>whnf)
 exact ⟨_,.p (Sub.agg (by repeat' (first|exact SubL.nil|exact SubE.nil|exact Sub.nils|exact Sub.ff rfl|exact Sub.tt rfl|refine SubL.cons ?_ ?_|refine SubE.cons ?_ ?_|exact Sub.refl _|refine Sub.agg ?_|refine Sub.sl ?_))),rfl⟩
open Go.Proofs
theorem x3r:Fit someP:=by unfold Fit;decide
theorem x2e:XK someP=true:=by kernel_rfl
def f0:Pr:=someP.procs[0]'(by decide)
def f1:Pr:=someP.procs[1]'(by decide)
theorem v0t:ZM (QH someP 0 f0)=[⟨0,1,1⟩,⟨1,2,1⟩,⟨2,3,1⟩,⟨3,4,1⟩,⟨4,-1,1⟩]:=by
 have h1:QH someP 0 f0=[⟨0,1,1⟩,⟨1,2,1⟩,⟨2,3,1⟩,⟨3,4,1⟩,⟨4,-1,1⟩]:=by kernel_rfl
 unfold ZM YQ
 rw [h1,List.mergeSort_of_pairwise (by decide)]
 rfl
theorem v0m:ZM (QH someP 1 f1)=[⟨0,5,1⟩,⟨5,6,1⟩,⟨6,7,1⟩,⟨6,8,1⟩,⟨7,-1,1⟩,⟨8,-1,1⟩]:=by
 have h1:QH someP 1 f1=[⟨0,5,1⟩,⟨5,6,1⟩,⟨6,7,1⟩,⟨6,8,1⟩,⟨7,-1,1⟩,⟨8,-1,1⟩]:=by kernel_rfl
 unfold ZM YQ
 rw [h1,List.mergeSort_of_pairwise (by decide)]
 rfl
theorem w1a:HP someP [112]=some (QX someP 1 f1):=by
 unfold HP
 rw [x2e]
 rfl
open Go.Proofs
open Go.Proofs
theorem z4j {p:Pg} {n:Str} (h:HP p n=none) (hc:XK p=true):VE p n=(Pr0,false):=by
 unfold HP at h
 rw [hc,cond_true] at h
 unfold VE
 cases hq:p.procs.find? (fun f=>f.name==n) with
 | none=>rfl
 | some f=>rw [hq] at h;cases h
open Go.Proofs
theorem z7r {p:Pg} (h:XK p=true) {j:Nat} {f:Pr} (hj:p.procs[j]? = some f):(QX p j f).real.length≤100000:=by
 obtain ⟨h1,h2⟩:=JY h hj
 have h3:=WS (z0o h1) fun s hs=>(h2 s).1 hs
 have h4:=DP p j f
 have h5:=HM _ _ (List.mem_of_getElem? hj)
 have:=(UY h).2.2
 omega
open Go.Proofs
theorem z3u : ∀ (k:Nat) (l:List S) (_:QY l<k) (_:QY l≤1000000),SpecP Tryz.prog 80 [eSs l] (fun r=>r = .int .i64 (QY l)):=by
 intro k
 induction k with
 | zero=>intro l h;omega
 | succ k ih =>
   intro l hk hl
   have hll:=S.avs_len l
   have hlc:l.length≤QY l:=by
    clear hk hl hll
    induction l with
    | nil=>simp
    | cons t r ihr=>rw [QY,ZO,List.length_cons];omega
   refine SpecP.body x5q QQ Tryz.func80 rfl Tryz.call80 (by show 1≤_;decide) ?_
   conv=>whnf
   repeat' (intro (_:_≤9223372036854775807);conv=>whnf)
   refine LoopK.inv QQ (fun y:Nat×Nat=>⟨[(0,.p (eSs l)),(3,.p (.int .i64 y.2)),(8,.p (.int .i64 (S.avs l).length)),(9,.p (.int .i64 y.1))],[]⟩) (fun y=>y.1≤l.length∧y.2+QY (l.drop y.1)=QY l+(l.length-y.1)) (fun y=>l.length-y.1) (0,l.length) (Le.of_eq (by simp only [S.avs_len];rfl)) ⟨Nat.zero_le _,by simp;omega⟩ ?_
   rintro ⟨j,n⟩ ⟨h2,h3⟩
   simp only at h2 h3 ⊢
   rcases Nat.lt_or_ge j l.length with hj|hj
   ·have hst:=q1g hj
    have hcs:=ZO l[j]
    have h4:QY (l.drop j)≤QY l:=by
     have : ∀ (l:List S) (j:Nat),QY (l.drop j)≤QY l:=fun l=>by
      induction l with
      | nil=>intro j;simp
      | cons t r ihr =>
        intro j
        cases j with
        | zero=>simp
        | succ j=>rw [List.drop_succ_cons,QY];have:=ihr j;omega
     exact this l j
    conv=>whnf
    repeat' (first|((first|refine DrawK.auto QQ mixed (by kernel_rfl) ?_|refine IdxK.ss (by omega) ?_|refine Wr.i64 (by omega) (by omega) ?_|(refine CallK.pure (ih l[j].thn (by omega) (by omega)) (.cons (Sub.refl _) .nil) ?_;rintro _ rfl)|(refine CallK.pure (ih l[j].els (by omega) (by omega)) (.cons (Sub.refl _) .nil) ?_;rintro _ rfl));conv=>whnf)|(refine Br.dec (fun _=>?_) (fun _=>?_)<;>first|(exfalso;omega)|conv=>whnf))
    all_goals exact ⟨(j+1,n+(QY l[j].thn+QY l[j].els)),⟨by simp only;omega,by simp only;omega⟩,by simp only;omega,Le.of_eq rfl⟩
   ·conv=>whnf
    rw [List.drop_eq_nil_of_le hj,QY] at h3
    repeat' (refine Br.dec (fun _=>?_) (fun _=>?_)<;>first|(exfalso;omega)|conv=>whnf)
    exact RetK.int (by omega)
theorem z4b (p:Pg) (hc:cntP p.procs≤1000):SpecP Tryz.prog 18 [.agg p.cells] (fun r=>r = .int .i64 (cntP p.procs)):=by
 refine SpecP.body x7n QQ Tryz.func18 rfl Tryz.call18 (by show 1≤_;decide) ?_
 conv=>whnf
 have hl2:(p.procs.map fun f=>AV.agg f.cells).length=p.procs.length:=List.length_map _
 repeat' (intro (_:_≤9223372036854775807);conv=>whnf)
 refine LoopK.inv QQ (fun y:Nat×Nat=>⟨[(3,.p (.int .i64 y.2)),(7,.p (.sl (p.procs.map fun f => .agg f.cells))),(8,.p (.int .i64 (p.procs.map fun f=>AV.agg f.cells).length)),(9,.p (.int .i64 y.1))],[]⟩) (fun y=>y.1≤p.procs.length∧y.2+cntP (p.procs.drop y.1)=cntP p.procs) (fun y=>p.procs.length-y.1) (0,0) (Le.of_eq rfl) ⟨Nat.zero_le _,by simp⟩ ?_
 rintro ⟨j,n⟩ ⟨h2,h3⟩
 simp only at h2 h3 ⊢
 rcases Nat.lt_or_ge j p.procs.length with hj|hj
 ·have hst:=q7l hj
  have hcm:=HM _ _ (List.getElem_mem hj)
  conv=>whnf
  repeat' (first|((first|refine And.intro rfl ?_|refine IdxK.map (by omega) (fun _=>rfl) ?_|refine Wr.i64 (by omega) (by omega) ?_|(refine CallK.pure (z3u (QY p.procs[j].body+1) p.procs[j].body (by omega) (by omega)) (.cons (Sub.refl _) .nil) ?_;rintro _ rfl));conv=>whnf)|(refine Br.dec (fun _=>?_) (fun _=>?_)<;>first|(exfalso;omega)|conv=>whnf))
  exact ⟨(j+1,n+QY p.procs[j].body),⟨by simp only;omega,by simp only;omega⟩,by simp only;omega,Le.of_eq rfl⟩
 ·conv=>whnf
  rw [List.drop_eq_nil_of_le hj,cntP] at h3
  repeat' (refine Br.dec (fun _=>?_) (fun _=>?_)<;>first|(exfalso;omega)|conv=>whnf)
  exact RetK.int (by omega)
open Go.Proofs
def frR (steps:List Step) (at_:Int) (but:List Int) (a b:Int):Prop:=(a=at_∨FC but a=false) ∧ ∃ s∈steps,s.src=a∧s.dst=b
structure FrI (steps:List Step) (at_:Int) (but:List Int) (n:Nat) (l:List Int):Prop where
 le:n≤l.length
 hd:l[0]? = some at_
 nd:l.Nodup
 sub : ∀ x∈l,x∈at_::steps.map Step.dst
 snd : ∀ x∈l,Rch (frR steps at_ but) at_ x
 cl : ∀ (m:Nat) (a:Int),m<n→l[m]? = some a → ∀ b,frR steps at_ but a b→b∈l
theorem FrI.len {steps:List Step} {at_:Int} {but:List Int} {n:Nat} {l:List Int} (h:FrI steps at_ but n l):l.length≤steps.length+1:=by
 have:=WS h.nd h.sub
 simpa using this
theorem FrI.start (steps:List Step) (at_:Int) (but:List Int):FrI steps at_ but 0 [at_]:=⟨Nat.zero_le _,rfl,by simp,by simp,fun x hx=>by rw [List.mem_singleton.1 hx];exact .refl,fun m a hm=>by omega⟩
theorem FrI.add {steps:List Step} {at_:Int} {but:List Int} {n:Nat} {l:List Int} (h:FrI steps at_ but n l) {a b:Int} (ha:a∈l) (hb:frR steps at_ but a b) (hn:FC l b=false):FrI steps at_ but n (l++[b]):=by
 have hnm:b∉l:=fun hm=>by rw [WO.2 hm] at hn;cases hn
 have h0:0<l.length:=(List.getElem?_eq_some_iff.1 h.hd).1
 refine ⟨by rw [List.length_append];have:=h.le;omega,by rw [List.getElem?_append_left h0];exact h.hd,?_,fun x hx => ?_,fun x hx => ?_,fun m c hm hc d hd => ?_⟩
 ·rw [List.nodup_append]
  refine ⟨h.nd,by simp,fun x hx y hy => ?_⟩
  rw [List.mem_singleton.1 hy]
  exact fun e=>hnm (e▸hx)
 ·rcases List.mem_append.1 hx with hx|hx
  ·exact h.sub x hx
  ·rw [List.mem_singleton.1 hx]
   obtain ⟨_,s,hs,_,h2⟩:=hb
   exact List.mem_cons_of_mem _ (List.mem_map.2 ⟨s,hs,h2⟩)
 ·rcases List.mem_append.1 hx with hx|hx
  ·exact h.snd x hx
  ·rw [List.mem_singleton.1 hx]
   exact .tail (h.snd a ha) hb
 ·rcases Nat.lt_or_ge m l.length with hml|hml
  ·rw [List.getElem?_append_left hml] at hc
   exact List.mem_append.2 (.inl (h.cl m c hm hc d hd))
  ·have:=h.le
   omega
theorem FrI.fin {steps:List Step} {at_:Int} {but:List Int} {l:List Int} (h:FrI steps at_ but l.length l) (x:Int):x∈l↔Rch (frR steps at_ but) at_ x:=by
 refine ⟨h.snd x,fun hr=>hr.closed (S:=fun x=>x∈l) (fun a b ha hb => ?_) (List.mem_of_getElem? h.hd)⟩
 obtain ⟨m,hm⟩:=List.mem_iff_getElem?.1 ha
 exact h.cl m a (List.getElem?_eq_some_iff.1 hm).1 hm b hb
theorem FrI.next {steps:List Step} {at_:Int} {but:List Int} {n:Nat} {l:List Int} (h:FrI steps at_ but n l) (hn:n<l.length) (hc : ∀ b,frR steps at_ but l[n] b→b∈l):FrI steps at_ but (n+1) l:=by
 refine ⟨hn,h.hd,h.nd,h.sub,h.snd,fun m a hm ha b hb => ?_⟩
 rcases Nat.lt_or_ge m n with hmn|hmn
 ·exact h.cl m a hmn ha b hb
 ·obtain rfl:m=n:=by omega
  rw [List.getElem?_eq_getElem hn] at ha
  cases ha
  exact hc b hb
def w9a (steps:List Step) (at_:Int) (but:List Int) (r:AV):Prop := ∃ es,r=QF es∧(∀ x,x∈es↔Rch (frR steps at_ but) at_ x)∧es.Nodup
theorem JC (steps:List Step) (at_:Int) (but:List Int) (hlen:steps.length≤1000000):SpecP Tryz.prog 71 [QL steps,.int .i64 at_,QF but] (fun r=>w9a steps at_ but r):=by
 refine SpecP.body PE QQ Tryz.func71 rfl Tryz.call71 (by show 3≤_;decide) ?_
 conv=>whnf
 have hsl:(steps.map fun s=>AV.agg s.cells).length=steps.length:=List.length_map _
 repeat' ((first|refine And.intro rfl ?_|(refine And.intro ⟨by decide,by decide⟩ ?_)|refine BsK.own (fun x hx=>by rcases List.mem_singleton.1 hx with rfl;rfl) rfl ?_);conv=>whnf)
 refine LoopK.inv QQ (fun x:Nat×List Int=>⟨[(0,.p (QL steps)),(2,.p (QF but)),(7,.hd 0 0 x.2.length),(8,.p (.int .i64 x.1))],[(0,.own 3 1 (x.2.map (.int .i64)))]⟩) (fun x=>x.1≤x.2.length∧FrI steps at_ but x.1 x.2) (fun x=>steps.length+2-x.1) (0,[at_]) (Le.of_eq rfl) ⟨Nat.zero_le _,FrI.start _ _ _⟩ ?_
 rintro ⟨n,l⟩ ⟨h1,h2⟩
 simp only at h1 h2 ⊢
 have hll:=h2.len
 rcases Nat.lt_or_ge n l.length with hn|hn
 rotate_left 1
 ·conv=>whnf
  repeat' (first|(intro (_:_≤9223372036854775807);conv=>whnf)|(refine Br.dec (fun _=>?_) (fun _=>?_)<;>first|(exfalso;omega)|conv=>whnf))
  have hnl:n=l.length:=by have:=h2.le;omega
  subst hnl
  exact ⟨_,.hd rfl (by simp),l,rfl,h2.fin,h2.nd⟩
 conv=>whnf
 repeat' (first|((first|intro (_:_≤9223372036854775807)|refine And.intro rfl ?_|refine Wr.i64 (by omega) (by omega) ?_|refine IdxL.mk n (by omega) (by omega) ?_|refine LdOwn.mk n 0 (.int .i64 l[n]) (by omega) (by simp [hn]) ?_|(refine CallK.pure (QO but l[n]) (.cons (Sub.refl _) (.cons (Sub.refl _) .nil)) ?_;rintro _ rfl));conv=>whnf)|(refine Br.dec (fun _=>?_) (fun _=>?_)<;>first|(exfalso;omega)|conv=>whnf)|(refine Br.b (fun _=>?_) (fun _=>?_)<;>conv=>whnf))
 ·have hb:FC but l[n]=true:=by assumption
  have hn0:0<n:=by omega
  refine ⟨(n+1,l),⟨hn,h2.next hn fun b ⟨h3,_⟩ => ?_⟩,by simp only;omega,Le.of_eq rfl⟩
  rcases h3 with h3|h3
  ·have h4:l[0]? = l[n]? := by rw [h2.hd,List.getElem?_eq_getElem hn,h3]
   have:=(List.getElem?_inj (by omega) h2.nd).1 h4
   omega
  ·rw [hb] at h3;cases h3
 all_goals
  have hcan:l[n]=at_∨FC but l[n]=false:=by
   first
    | exact .inr (by assumption)
    | (left
       have h5:n=0:=by omega
       have h6:=h2.hd
       subst h5
       rw [List.getElem?_eq_getElem hn] at h6
       exact Option.some.inj h6)
  refine LoopK.inv QQ (fun x:Nat×List Int=>⟨[(0,.p (QL steps)),(2,.p (QF but)),(7,.hd 0 0 x.2.length),(8,.p (.int .i64 n)),(29,.p (QL steps)),(30,.p (.int .i64 (steps.map fun s=>AV.agg s.cells).length)),(31,.p (.int .i64 x.1))],[(0,.own 3 1 (x.2.map (.int .i64)))]⟩) (fun x=>x.1≤steps.length∧l <+: x.2∧FrI steps at_ but n x.2 ∧ ∀ s∈steps.take x.1,s.src=l[n]→s.dst∈x.2) (fun x=>steps.length-x.1) (0,l) (Le.of_eq rfl) ⟨Nat.zero_le _,List.prefix_refl _,h2,by simp⟩ ?_
  rintro ⟨y,o⟩ ⟨h3,h4,h5,h6⟩
  simp only at h3 h4 h5 h6 ⊢
  have hno:n<o.length:=Nat.lt_of_lt_of_le hn h4.length_le
  have hon:o[n]=l[n]:=by
   have:=q1c h4 (List.getElem?_eq_getElem hn)
   rw [List.getElem?_eq_getElem hno] at this
   exact Option.some.inj this
  have hol:=h5.len
  have hom:(o.map (AV.int .i64)).length=o.length:=List.length_map _
  rcases Nat.lt_or_ge y steps.length with hy|hy
  ·have htk:=List.take_succ_eq_append_getElem hy
   conv=>whnf
   repeat' (first|((first|refine DrawK.auto QQ mixed (by kernel_rfl) ?_|refine And.intro rfl ?_|(refine And.intro ⟨by decide,by decide⟩ ?_)|refine BsK.pure (fun x hx=>by rcases List.mem_singleton.1 hx with rfl;rfl) rfl ?_|refine IdxK.map (by omega) (fun _=>rfl) ?_|refine Wr.i64 (by omega) (by omega) ?_|refine IdxL.mk n (by omega) (by omega) ?_|refine LdOwn.mk n 0 (.int .i64 o[n]) (by omega) (by simp [hno]) ?_|(refine CallK.borrow (QO o steps[y].dst) (.cons (.hd rfl hom.symm) (.cons (.p (Sub.refl _)) .nil)) (by rintro _ rfl;rfl) ?_;rintro _ rfl)|refine AppK.int1 (by simp) (by simp;omega) ?_);conv=>whnf)|(refine Br.dec (fun _=>?_) (fun _=>?_)<;>first|(exfalso;omega)|conv=>whnf)|(refine Br.n (fun _=>?_) (fun _=>?_)<;>conv=>whnf))
   all_goals first
    | exact ⟨(y+1,o++[steps[y].dst]),⟨hy,h4.trans (List.prefix_append _ _),h5.add (List.getElem_mem hno) ⟨by rw [hon];exact hcan,steps[y],List.getElem_mem hy,by assumption,rfl⟩ (by assumption),fun s hs he=>by
       rw [htk] at hs
       rcases List.mem_append.1 hs with hs|hs
       ·exact List.mem_append.2 (.inl (h6 s hs he))
       ·rw [List.mem_singleton.1 hs]
        exact List.mem_append.2 (.inr (List.mem_singleton.2 rfl))⟩,by simp only;omega,Le.of_eq (by simp only [List.length_append,List.map_append];rfl)⟩
    | exact ⟨(y+1,o),⟨hy,h4,h5,fun s hs he=>by
       rw [htk] at hs
       rcases List.mem_append.1 hs with hs|hs
       ·exact h6 s hs he
       ·rw [List.mem_singleton.1 hs] at he ⊢
        first
         | exact WO.1 (by assumption)
         | (exfalso
            have hne : ¬steps[y].src=o[n]:=by assumption
            exact hne (he.trans hon.symm))⟩,by simp only;omega,Le.of_eq rfl⟩
  ·rw [List.take_of_length_le hy] at h6
   conv=>whnf
   repeat' (first|(refine Wr.i64 (by omega) (by omega) ?_;conv=>whnf)|(refine Br.dec (fun _=>?_) (fun _=>?_)<;>first|(exfalso;omega)|conv=>whnf))
   exact ⟨(n+1,o),⟨hno,h5.next hno fun b ⟨_,s,hs,h7,h8⟩=>h8▸h6 s hs (by rw [h7,hon])⟩,by simp only;omega,Le.of_eq rfl⟩
open Go.Proofs
theorem ValO.boolEql {P:Program} {T:Tab} {hr:Bool} {s:St} {o:Oper} {K:LV→Prop} (hT:TabOK P T) {t u:TypeId} {x y:Operand} (hop:o.op = .binOp .eql t x y u) {i:TyI} (ht:T.get t=some i) (hd:i.desc = .bool)
  {a b:Bool} (hx:w5n (QI s.sl x)=some a) (hy:w5n (QI s.sl y)=some b) (hK:K (.p (.bool (a==b)))):ValO P hr s o K:=by
 refine ⟨fun σ β ac w hs _=>⟨_,.bool (a==b),hK,.p (.bool _),fun w' _ _ => ?_⟩⟩
 have h1:=q5k (QU hs x) hx
 have h2:=q5k (QU hs y) hy
 have hu:=hT.of ht
 rw [hd] at hu
 have hg:(eqGuard .eql t x y (.bool a) (.bool b)).run P w' = .ok () w':=by unfold eqGuard;rfl
 have he:(Op.equal t (.bool a) (.bool b)).run P w' = .ok (a==b) w':=by
  have e:Op.equal t (.bool a) (.bool b)=Op.equalIn (9999+1) t (.bool a) (.bool b):=rfl
  rw [e,Op.equalIn,Sem.run_bind,run_underlying hu,Result.andThen_ok]
  rfl
 simp only [execOp,hop,h1,h2,Sem.run_bind,hg,Result.andThen_ok,binOp]
 simp [he]
theorem x8d {l:List Str} {x:Str}:inS l x=true↔x∈l:=by
 unfold inS
 rw [List.any_eq_true]
 constructor
 ·rintro ⟨y,h1,h2⟩
  have:y=x:=by simpa using h2
  rw [← this]
  exact h1
 ·intro h
  exact ⟨x,h,by simp⟩
theorem q0w {p:Pg} (h:XK p=true) {j:Nat} {f:Pr} (hj:p.procs[j]? = some f) {a:Int} (h1:(QN p.procs j:Int)+1≤a) (h2:a≤(QN p.procs j+QY f.body:Nat)) : ∃ t∈flL f.body,w6r p a=some t∧t.id=a:=by
 obtain ⟨it,h3,h4⟩:=GN hj (k:=(a-1).toNat) (by omega) (by omega)
 refine ⟨it.s,PK h4,by unfold w6r;rw [h3];rfl,?_⟩
 obtain ⟨_,_,_,hlen,hsp⟩:=QJ p
 obtain ⟨_,_,hle,hd⟩:=hsp j f hj
 have hids:=z5t (QK h).1 hj
 have h5:(itsOf p j f)[(a-1).toNat-QN p.procs j]? = some it:=by
  unfold itsOf
  rw [← hd,List.getElem?_drop,List.getElem?_take,if_pos (by omega),show QN p.procs j+((a-1).toNat-QN p.procs j)=(a-1).toNat by omega]
  exact h3
 have h6:((itsOf p j f).map fun it=>it.s.id)[(a-1).toNat-QN p.procs j]? = some it.s.id:=by rw [List.getElem?_map,h5];rfl
 rw [hids] at h6
 unfold YF at h6
 rw [List.getElem?_map,List.getElem?_range' (by omega)] at h6
 simp at h6
 omega
open Go.Proofs
open Go.Proofs
theorem x1f {p:Pg} (h:XK p=true) {j:Nat} {f:Pr} (hj:p.procs[j]? = some f) {k:Nat} {it:Item} (h1:QN p.procs j≤k) (h2:k<QN p.procs j+QY f.body) (hk:(sheetOf p).l[k]? = some it):it.s.id=(k:Int)+1:=by
 obtain ⟨t,_,h4,h5⟩:=q0w h hj (a:=(k:Int)+1) (by omega) (by omega)
 unfold w6r at h4
 rw [show ((k:Int)+1-1).toNat=k by omega,hk] at h4
 cases h4
 exact h5
theorem x7f {n:Nat} {part:List Int} (hp : ∀ k,k<n→0≤part.getD k 0∧part.getD k 0<n) {i:Nat} (hi:i<n) : ∀ (l:List (Int×Int)) {o:List Bool},o.length=n→(∀ t∈l,0≤t.1∧t.1<n) →
  ((l.foldl (q2s part) o).getD i false=true↔o.getD i false=true ∨ ∃ t∈l,part.getD t.1.toNat 0≠part.getD t.2.toNat 0∧part.getD t.1.toNat 0=i)
 | [],o,_,_=>by simp
 | t::r,o,ho,hr=>by
   rw [List.foldl_cons,x7f hp hi r (by rw [x6i];exact ho) fun u hu=>hr u (List.mem_cons_of_mem _ hu)]
   have h1:=hr t List.mem_cons_self
   have h2:=hp t.1.toNat (by omega)
   have key:(q2s part o t).getD i false=true↔o.getD i false=true∨(part.getD t.1.toNat 0≠part.getD t.2.toNat 0∧part.getD t.1.toNat 0=i):=by
    unfold q2s
    split
    ·rename_i he
     constructor
     ·exact .inl
     ·rintro (h3|⟨h3,_⟩)
      ·exact h3
      ·exact absurd he h3
    ·rename_i he
     rw [ZC (by omega)]
     split
     ·rename_i h3
      constructor
      ·intro _
       exact .inr ⟨he,by omega⟩
      ·intro _
       rfl
     ·rename_i h3
      constructor
      ·exact .inl
      ·rintro (h4|⟨_,h4⟩)
       ·exact h4
       ·exact absurd (by omega) h3
   rw [key,or_assoc]
   constructor
   ·rintro (h3|⟨h3,h4⟩|⟨u,hu,h3⟩)
    ·exact .inl h3
    ·exact .inr ⟨t,List.mem_cons_self,h3,h4⟩
    ·exact .inr ⟨u,List.mem_cons_of_mem _ hu,h3⟩
   ·rintro (h3|⟨u,hu,h3⟩)
    ·exact .inl h3
    ·rcases List.mem_cons.1 hu with rfl|hu
     ·exact .inr (.inl h3)
     ·exact .inr (.inr ⟨u,hu,h3⟩)
theorem w0s {n:Nat} {part:List Int} (hn:0<n) (hp : ∀ k,k<n→0≤part.getD k 0∧part.getD k 0<n) {i:Nat} (hi:i<n) {l:List (Int×Int)} (hr : ∀ t∈l,0≤t.1∧t.1<n) :
  (q4m n part l).getD i false=true↔part.getD 0 0=i∨part.getD (n-1) 0=i ∨ ∃ t∈l,part.getD t.1.toNat 0≠part.getD t.2.toNat 0∧part.getD t.1.toNat 0=i:=by
 have h0:=hp 0 hn
 have h1:=hp (n-1) (by omega)
 unfold q4m
 rw [x7f hp hi l (by simp [q8l]) hr]
 have key:(q8l n part).getD i false=true↔part.getD 0 0=i∨part.getD (n-1) 0=i:=by
  unfold q8l
  rw [ZC (by rw [List.length_set,List.length_replicate];omega),ZC (by rw [List.length_replicate];omega)]
  split
  ·exact ⟨fun _ => .inr (by omega),fun _=>rfl⟩
  ·split
   ·exact ⟨fun _ => .inl (by omega),fun _=>rfl⟩
   ·have:(List.replicate n false).getD i false=false:=by
     rw [List.getD_eq_getElem?_getD,List.getElem?_replicate];split<;>rfl
    rw [this]
    constructor
    ·intro h;cases h
    ·rintro (h|h)<;>omega
 rw [key,or_assoc]
open Go.Proofs
section
variable {p:Pg} {j:Nat} {f:Pr}
theorem HO {i:Int} (h:0≤i∧i<(QY f.body+2:Nat)):plP p j f (QM p j (QY f.body+2:Nat) i)∧ixI p j f (QM p j (QY f.body+2:Nat) i)=i:=by
 unfold QM ixI KX plP loI hiI
 constructor
 ·(repeat' split)<;>omega
 ·(repeat' split)<;>omega
theorem x1u {x:Int} (h:plP p j f x):QM p j (QY f.body+2:Nat) (ixI p j f x)=x:=by
 have h1:=HO (p:=p) (j:=j) (f:=f) (WH h)
 exact BJ h1.1 h h1.2
theorem x1g:prsW (QX p j f) f=(QX p j f).real.map (ixP p j f (QY f.body+2:Nat)):=rfl
theorem w3e (h:XK p=true) (hj:p.procs[j]? = some f) : ∀ t∈prsW (QX p j f) f,(0≤t.1∧t.1<(QY f.body+2:Nat))∧0≤t.2∧t.2<(QY f.body+2:Nat):=fun t ht=>by
 rw [x1g] at ht
 obtain ⟨s,hs,rfl⟩:=List.mem_map.1 ht
 obtain ⟨h1,h2⟩:=JZ h hj s hs
 exact ⟨WH h1,WH h2⟩
def wE (p:Pg) (j:Nat) (f:Pr):Int→Int→Prop:=rowE (XX (QY f.body+2) (prsW (QX p j f) f)).1
def wR (p:Pg) (j:Nat) (f:Pr):Int→Int→Prop:=stR (QX p j f).real
theorem w7h (h:XK p=true) (hj:p.procs[j]? = some f) {i k:Int}:wE p j f i k ↔ ∃ a b,wR p j f a b∧ixI p j f a=i∧ixI p j f b=k:=by
 unfold wE wR
 rw [z4q]
 constructor
 ·rintro ⟨h1,_,_⟩
  rw [x1g] at h1
  obtain ⟨s,hs,he⟩:=List.mem_map.1 h1
  exact ⟨s.src,s.dst,⟨s,hs,rfl,rfl⟩,congrArg Prod.fst he,congrArg Prod.snd he⟩
 ·rintro ⟨a,b,⟨s,hs,rfl,rfl⟩,rfl,rfl⟩
  obtain ⟨h1,h2⟩:=JZ h hj s hs
  exact ⟨List.mem_map.2 ⟨s,hs,rfl⟩,x1p (WH h1),x1p (WH h2)⟩
theorem w7w (h:XK p=true) (hj:p.procs[j]? = some f) {a b:Int} (hr:wR p j f a b):plP p j f a∧plP p j f b:=by
 obtain ⟨s,hs,rfl,rfl⟩:=hr
 exact JZ h hj s hs
theorem w7k (h:XK p=true) (hj:p.procs[j]? = some f) {a b:Int} (ha:plP p j f a) (hr:Rch (wR p j f) a b):plP p j f b :=
 hr.closed (S:=plP p j f) (fun _ _ _ h1=>(w7w h hj h1).2) ha
theorem w4x (h:XK p=true) (hj:p.procs[j]? = some f) {a b:Int} (ha:plP p j f a) (hb:plP p j f b):Rch (wE p j f) (ixI p j f a) (ixI p j f b)↔Rch (wR p j f) a b:=by
 constructor
 ·intro hr
  obtain ⟨c,h1,h2,h3⟩:=hr.closed (S:=fun k => ∃ c,plP p j f c∧ixI p j f c=k∧Rch (wR p j f) a c) (by
   rintro i k ⟨c,h1,h2,h3⟩ h4
   obtain ⟨x,y,h5,h6,h7⟩:=(w7h h hj).1 h4
   have h8:=w7w h hj h5
   have:x=c:=BJ h8.1 h1 (by rw [h6,h2])
   subst this
   exact ⟨y,h8.2,h7,.tail h3 h5⟩) ⟨a,ha,rfl,.refl⟩
  rw [← BJ h1 hb h2]
  exact h3
 ·intro hr
  exact (hr.closed (S:=fun c=>plP p j f c∧Rch (wE p j f) (ixI p j f a) (ixI p j f c)) (fun x y ⟨h1,h2⟩ h3=>⟨(w7w h hj h3).2,.tail h2 ((w7h h hj).2 ⟨x,y,h3,rfl,rfl⟩)⟩) ⟨ha,.refl⟩).2
theorem w4w (h:XK p=true) (hj:p.procs[j]? = some f) {a b:Int} (ha:plP p j f a) (hb:plP p j f b):sccP (wE p j f) (ixI p j f a) (ixI p j f b)↔sccP (wR p j f) a b:=by
 unfold sccP
 rw [w4x h hj ha hb,w4x h hj hb ha]
def KE (p:Pg) (j:Nat) (f:Pr) (i:Int):Int:=(ZE (QX p j f) f).getD i.toNat 0
theorem q6s:ZE (QX p j f) f=q3h (QY f.body+2) (XX (QY f.body+2) (prsW (QX p j f) f)).1:=rfl
theorem q1v {i:Int} (hi:0≤i∧i<(QY f.body+2:Nat)):MinP (wE p j f) i (KE p j f i):=by
 unfold KE
 rw [q6s]
 exact q2j (DY _ _).1 hi
theorem z0t {k:Nat} (hk:k<QY f.body+2):0≤(ZE (QX p j f) f).getD k 0∧(ZE (QX p j f) f).getD k 0<(QY f.body+2:Nat):=by
 rw [q6s]
 exact z0g (DY _ _).1 hk
theorem q5w:(ZE (QX p j f) f).length=QY f.body+2:=by rw [q6s,BU]
theorem MinP.same {E:Int→Int→Prop} {x y v:Int} (h:MinP E x v) (hs:sccP E x y):MinP E y v:=⟨hs.symm.trans h.scc,fun z hz=>h.le z (hs.trans hz)⟩
theorem w1t {i k:Int} (hi:0≤i∧i<(QY f.body+2:Nat)) (hk:0≤k∧k<(QY f.body+2:Nat)):KE p j f i=KE p j f k↔sccP (wE p j f) i k:=by
 have h1:=q1v (p:=p) (j:=j) hi
 have h2:=q1v (p:=p) (j:=j) hk
 constructor
 ·intro he
  rw [← he] at h2
  exact h1.scc.trans h2.scc.symm
 ·intro hs
  exact (h1.same hs).uniq h2
theorem KY (h:XK p=true) (hj:p.procs[j]? = some f) {a b:Int} (ha:plP p j f a) (hb:plP p j f b):KE p j f (ixI p j f a)=KE p j f (ixI p j f b)↔sccP (wR p j f) a b:=by
 rw [w1t (WH ha) (WH hb),w4w h hj ha hb]
structure TrapP (p:Pg) (j:Nat) (f:Pr) (l:List Int) (r:Int):Prop where
 pl:plP p j f r
 mem : ∀ b,b∈l↔plP p j f b∧sccP (wR p j f) r b
 cl : ∀ b c,sccP (wR p j f) r b→wR p j f b c→sccP (wR p j f) r c
 n0 : ¬sccP (wR p j f) r 0
 nx : ¬sccP (wR p j f) r (-1)
theorem q7q {plc:Int→Int} {part:List Int} {i q:Nat} {b:Int}:b∈GK plc part i q ↔ ∃ k:Nat,k<q∧part.getD k 0=i∧plc k=b:=by
 unfold GK
 constructor
 ·intro h
  obtain ⟨k,hk,rfl⟩:=List.mem_map.1 h
  obtain ⟨h1,h2⟩:=List.mem_filter.1 hk
  exact ⟨k,List.mem_range.1 h1,beq_iff_eq.1 h2,rfl⟩
 ·rintro ⟨k,h1,h2,rfl⟩
  exact List.mem_map.2 ⟨k,List.mem_filter.2 ⟨List.mem_range.2 h1,beq_iff_eq.2 h2⟩,rfl⟩
theorem ix0:ixI p j f 0=0:=by unfold ixI KX;rw [if_pos rfl]
theorem ix1:ixI p j f (-1)=((QY f.body+2:Nat):Int)-1:=by unfold ixI KX;rw [if_neg (by omega),if_pos rfl]
theorem pl0:plP p j f 0 := .inl rfl
theorem pl1:plP p j f (-1) := .inr (.inl rfl)
theorem q1z (k:Nat):(ZE (QX p j f) f).getD k 0=KE p j f k:=by
 unfold KE
 rw [Int.toNat_natCast]
theorem z7n (h:XK p=true) (hj:p.procs[j]? = some f) {i:Nat} (hi:i<QY f.body+2):(q4m (QY f.body+2) (ZE (QX p j f) f) (prsW (QX p j f) f)).getD i false=true ↔
  KE p j f (ixI p j f 0)=i∨KE p j f (ixI p j f (-1))=i ∨ ∃ a b,wR p j f a b ∧ ¬sccP (wR p j f) a b∧KE p j f (ixI p j f a)=i:=by
 rw [w0s (by omega) (fun k hk=>z0t hk) hi fun t ht=>(w3e h hj t ht).1,ix0,ix1]
 have e1:(ZE (QX p j f) f).getD (QY f.body+2-1) 0=KE p j f (((QY f.body+2:Nat):Int)-1):=by
  unfold KE
  congr 1
  omega
 have e0:(ZE (QX p j f) f).getD 0 0=KE p j f 0:=rfl
 rw [e0,e1]
 refine or_congr Iff.rfl (or_congr Iff.rfl ?_)
 constructor
 ·rintro ⟨t,ht,h1,h2⟩
  rw [x1g] at ht
  obtain ⟨s,hs,rfl⟩:=List.mem_map.1 ht
  obtain ⟨h3,h4⟩:=JZ h hj s hs
  exact ⟨s.src,s.dst,⟨s,hs,rfl,rfl⟩,fun hsc=>h1 ((KY h hj h3 h4).2 hsc),h2⟩
 ·rintro ⟨a,b,⟨s,hs,rfl,rfl⟩,h1,h2⟩
  obtain ⟨h3,h4⟩:=JZ h hj s hs
  exact ⟨ixP p j f (QY f.body+2:Nat) s,by rw [x1g];exact List.mem_map.2 ⟨s,hs,rfl⟩,fun he=>h1 ((KY h hj h3 h4).1 he),h2⟩
theorem q1h {l:List Int}:l∈trapsW (QX p j f) f ↔ ∃ i:Nat,i<QY f.body+2∧KE p j f i=i∧(q4m (QY f.body+2) (ZE (QX p j f) f) (prsW (QX p j f) f)).getD i false=false∧l=GK (QM p j (QY f.body+2:Nat)) (ZE (QX p j f) f) i (QY f.body+2):=by
 unfold trapsW ME
 rw [q5w]
 constructor
 ·intro hl
  obtain ⟨i,hi,rfl⟩:=List.mem_map.1 hl
  obtain ⟨h1,h2⟩:=List.mem_filter.1 hi
  unfold q0l at h2
  rw [Bool.and_eq_true,beq_iff_eq,Bool.not_eq_true',q1z] at h2
  exact ⟨i,List.mem_range.1 h1,h2.1,h2.2,rfl⟩
 ·rintro ⟨i,h1,h2,h3,rfl⟩
  refine List.mem_map.2 ⟨i,List.mem_filter.2 ⟨List.mem_range.2 h1,?_⟩,rfl⟩
  unfold q0l
  rw [Bool.and_eq_true,beq_iff_eq,Bool.not_eq_true',q1z]
  exact ⟨h2,h3⟩
theorem z1t (h:XK p=true) (hj:p.procs[j]? = some f) {i:Nat} (hi:i<QY f.body+2) (hp:KE p j f i=i) (b:Int) :
  b∈GK (QM p j (QY f.body+2:Nat)) (ZE (QX p j f) f) i (QY f.body+2)↔plP p j f b∧sccP (wR p j f) (QM p j (QY f.body+2:Nat) i) b:=by
 obtain ⟨h1,h2⟩:=HO (p:=p) (j:=j) (f:=f) (i:=i) (by omega)
 rw [q7q]
 constructor
 ·rintro ⟨k,h3,h4,rfl⟩
  obtain ⟨h5,h6⟩:=HO (p:=p) (j:=j) (f:=f) (i:=k) (by omega)
  refine ⟨h5,(KY h hj h1 h5).1 ?_⟩
  rw [h2,h6,hp,← q1z,h4]
 ·rintro ⟨h3,h4⟩
  have h5:=WH h3
  refine ⟨(ixI p j f b).toNat,by omega,?_,?_⟩
  ·rw [q1z,show (((ixI p j f b).toNat:Nat):Int)=ixI p j f b by omega,← (KY h hj h1 h3).2 h4,h2,hp]
  ·rw [show (((ixI p j f b).toNat:Nat):Int)=ixI p j f b by omega,x1u h3]
theorem x5u (h:XK p=true) (hj:p.procs[j]? = some f) {l:List Int} (hl:l∈trapsW (QX p j f) f) : ∃ r,TrapP p j f l r:=by
 obtain ⟨i,hi,hp,ho,rfl⟩:=q1h.1 hl
 obtain ⟨h1,h2⟩:=HO (p:=p) (j:=j) (f:=f) (i:=i) (by omega)
 have ho2 : ¬_:=fun hx=>by
  have:=(z7n h hj hi).2 hx
  rw [ho] at this
  cases this
 have hpr:KE p j f (ixI p j f (QM p j (QY f.body+2:Nat) i))=i:=by rw [h2,hp]
 refine ⟨_,h1,z1t h hj hi hp,fun b c hb hbc => ?_,fun hs=>ho2 (.inl ?_),fun hs=>ho2 (.inr (.inl ?_))⟩
 ·have h3:=w7w h hj hbc
  by_cases hsc:sccP (wR p j f) b c
  ·exact hb.trans hsc
  ·refine absurd (.inr (.inr ⟨b,c,hbc,hsc,?_⟩)) ho2
   rw [← (KY h hj h1 h3.1).2 hb,hpr]
 ·rw [← (KY h hj h1 pl0).2 hs,hpr]
 ·rw [← (KY h hj h1 pl1).2 hs,hpr]
theorem w6w (h:XK p=true) (hj:p.procs[j]? = some f) {r:Int} (hr:plP p j f r) (hcl : ∀ b c,sccP (wR p j f) r b→wR p j f b c→sccP (wR p j f) r c) (h0 : ¬sccP (wR p j f) r 0) (hx : ¬sccP (wR p j f) r (-1)) :
  ∃ l∈trapsW (QX p j f) f,∀ b,b∈l↔plP p j f b∧sccP (wR p j f) r b:=by
 have h1:=WH hr
 have h2:=q1v (p:=p) (j:=j) (f:=f) h1
 have h3:=z0t (p:=p) (j:=j) (f:=f) (k:=(ixI p j f r).toNat) (by omega)
 have h4:0≤KE p j f (ixI p j f r)∧KE p j f (ixI p j f r)<(QY f.body+2:Nat):=h3
 generalize hi:KE p j f (ixI p j f r)=v at h2 h4
 obtain ⟨h5,h6⟩:=HO (p:=p) (j:=j) (f:=f) (i:=v) h4
 have hs:sccP (wR p j f) r (QM p j (QY f.body+2:Nat) v):=(w4w h hj hr h5).1 (by rw [h6];exact h2.scc)
 have hpv:KE p j f v=v:=(q1v (p:=p) (j:=j) (f:=f) h4).uniq (h2.same h2.scc)
 have ev:((v.toNat:Nat):Int)=v:=by omega
 refine ⟨_,q1h.2 ⟨v.toNat,by omega,by rw [ev];exact hpv,?_,rfl⟩,fun b => ?_⟩
 ·cases ho:(q4m (QY f.body+2) (ZE (QX p j f) f) (prsW (QX p j f) f)).getD v.toNat false with
  | false=>rfl
  | true =>
    have:=(z7n h hj (by omega)).1 ho
    rw [ev,← hi] at this
    rcases this with h7|h7|⟨a,b,h7,h8,h9⟩
    ·exact absurd ((KY h hj hr pl0).1 h7.symm) h0
    ·exact absurd ((KY h hj hr pl1).1 h7.symm) hx
    ·have h10:=w7w h hj h7
     have h11:=(KY h hj hr h10.1).1 h9.symm
     exact absurd (h11.symm.trans (hcl a b h11 h7)) h8
 ·rw [z1t h hj (by omega) (by rw [ev];exact hpv),ev]
  exact and_congr Iff.rfl ⟨fun h7=>hs.trans h7,fun h7=>hs.symm.trans h7⟩
end
open Go.Proofs
theorem z1l {p:Pg} {j:Nat} {f:Pr} (hj:p.procs[j]? = some f) (hcn:cntP p.procs≤200):(QX p j f).real.length≤100000:=by
 obtain ⟨_,_,_,hlen,hsp⟩:=QJ p
 obtain ⟨_,_,hle,_⟩:=hsp j f hj
 have h9:=x7t (QH p j f)
 have h10:=DP p j f
 show (ZM (QH p j f)).length≤100000
 omega
theorem z1e {p:Pg} (h:XK p=true) {j:Nat} {f:Pr} (hj:p.procs[j]? = some f) : ∀ it∈itsOf p j f,∀ s∈fOf it,okSt s:=fun it hi s hs=>by
 obtain ⟨hm,_⟩:=QK h
 obtain ⟨_,_,hcn⟩:=UY h
 obtain ⟨_,_,_,hlen,hsp⟩:=QJ p
 obtain ⟨_,_,hle,_⟩:=hsp j f hj
 have h1:=VX hm hj (PK hi)
 have h2:=(MO hi).1
 unfold fOf at hs
 split at hs
 ·rw [List.mem_singleton.1 hs]
  unfold okI at h2
  unfold okSt
  constructor
  ·show it.s.id≠_
   omega
  ·show it.next≠_
   omega
 ·cases hs
theorem x3o {p:Pg} (h:XK p=true) {j:Nat} {f:Pr} (hj:p.procs[j]? = some f) {l:List Int} (hl:l∈trapsW (QX p j f) f):l.length≤QY f.body+2 ∧ ∀ id∈l,(QN p.procs j:Int)+1≤id∧id≤(QN p.procs j+QY f.body:Nat):=by
 constructor
 ·obtain ⟨i,_,_,_,rfl⟩:=q1h.1 hl
  exact x5e _ _ _ _
 ·intro id hid
  obtain ⟨r,ht⟩:=x5u h hj hl
  obtain ⟨h1,h2⟩:=(ht.mem id).1 hid
  rcases h1 with rfl|rfl|h1
  ·exact absurd h2 ht.n0
  ·exact absurd h2 ht.nx
  ·exact h1
theorem w9v {p:Pg} (h:XK p=true) {j:Nat} {f:Pr} (hj:p.procs[j]? = some f):WayT (QX p j f) f (QY f.body+2):=by
 obtain ⟨_,_,hcn⟩:=UY h
 obtain ⟨_,_,_,hlen,hsp⟩:=QJ p
 obtain ⟨_,_,hle,_⟩:=hsp j f hj
 refine ⟨rfl,hj,by show cntP p.procs≤1000;omega,by omega,by omega,Nat.le_trans (z1l hj hcn) (by decide),w3e h hj,?_,fun l hl => ?_,fun s hs=>(BG h hj).2.2 s (((JY h hj).2 s).1 hs),z1e h hj⟩
 ·have:=x4k (QM p j (QY f.body+2:Nat)) (ZE (QX p j f) f) (q4m (QY f.body+2) (ZE (QX p j f) f) (prsW (QX p j f) f)) (QY f.body+2)
  have e:trapsW (QX p j f) f=ME (QM p j (QY f.body+2:Nat)) (ZE (QX p j f) f) (q4m (QY f.body+2) (ZE (QX p j f) f) (prsW (QX p j f) f)) (QY f.body+2):=by
   unfold trapsW
   rw [q5w]
   rfl
  rw [e]
  omega
 ·obtain ⟨h1,h2⟩:=x3o h hj hl
  refine ⟨by omega,fun id hid => ?_⟩
  have:=h2 id hid
  show 1≤id∧id≤(sheetOf p).l.length
  omega
def w7l (p:Pg) (n:Str):List Step:=match HP p n with
 | some w=>(match w.p.procs[w.j]? with
   | some f=>PH w f
   | none=>[])
 | none=>[]
theorem x7q {p:Pg} {n:Str} {k:Nat} {f:Pr} (hw:HP p n=some (QX p k f)) (hk:p.procs[k]? = some f):w7l p n=PH (QX p k f) f:=by
 have h:(QX p k f).p.procs[(QX p k f).j]? = some f:=hk
 unfold w7l
 rw [hw]
 simp only
 rw [h]
theorem x4t {p:Pg} {n:Str} (hw:HP p n=none):w7l p n=[]:=by
 unfold w7l
 rw [hw]
open Go.Proofs
instance (a b:Step):Decidable (q0g a b):=inferInstanceAs (Decidable (_∨_))
instance:DecidableEq Step:=fun a b=>decidable_of_iff (a.src=b.src∧a.dst=b.dst∧a.kind=b.kind) ⟨fun h=>Step.eq_of h.1 h.2.1 h.2.2,fun h=>by rw [h];exact ⟨rfl,rfl,rfl⟩⟩
theorem w5k {a b:Step} (ha:okSt a) (hb:okSt b) (h:FG b a=false):(a.src=b.src∧a.dst=b.dst∧a.kind≤b.kind)∨q0g a b:=by
 rw [Bool.eq_false_iff,ne_eq,GL] at h
 unfold q0g
 by_cases h1:XE a.src=XE b.src
 ·by_cases h2:XE a.dst=XE b.dst
  ·exact .inl ⟨HX ha.1 hb.1 h1,HX ha.2 hb.2 h2,by omega⟩
  ·exact .inr (by omega)
 ·exact .inr (by omega)
theorem q3e : ∀ (l:List Step) (a:Step),okSt a→(∀ s∈l,okSt s)→(a::l).Pairwise (fun a b=>FG b a=false) →
  (∀ s∈XZ a l,q0g a s)∧(XZ a l).Pairwise q0g∧(∀ s∈XZ a l,s∈l) ∧ ∀ s∈l,(s.src=a.src∧s.dst=a.dst∧a.kind≤s.kind) ∨ ∃ s'∈XZ a l,s'.src=s.src∧s'.dst=s.dst∧s'.kind≤s.kind
 | [],a,_,_,_=>by simp [XZ]
 | b::r,a,ha,hl,h=>by
   have hb:=hl b List.mem_cons_self
   have hr : ∀ s∈r,okSt s:=fun s hs=>hl s (List.mem_cons_of_mem _ hs)
   rw [List.pairwise_cons] at h
   obtain ⟨h1,h2⟩:=h
   obtain ⟨i1,i2,i3,i4⟩:=q3e r b hb hr h2
   have hab:=w5k ha hb (h1 b List.mem_cons_self)
   rw [XZ]
   cases hs:ZU b a with
   | true =>
     unfold ZU at hs
     simp only [Bool.and_eq_true,decide_eq_true_eq] at hs
     have hk:a.kind≤b.kind:=by
      rcases hab with h3|h3
      ·exact h3.2.2
      ·unfold q0g at h3
       rw [hs.1,hs.2] at h3
       omega
     rw [cond_true]
     refine ⟨fun s hs' => ?_,i2,fun s hs'=>List.mem_cons_of_mem _ (i3 s hs'),fun s hs' => ?_⟩
     ·have:=i1 s hs'
      unfold q0g at this ⊢
      rwa [← hs.1,← hs.2]
     ·rcases List.mem_cons.1 hs' with rfl|hs'
      ·exact .inl ⟨hs.1,hs.2,hk⟩
      ·rcases i4 s hs' with ⟨h3,h4,h5⟩|h3
       ·exact .inl ⟨by rw [h3,hs.1],by rw [h4,hs.2],by omega⟩
       ·exact .inr h3
   | false =>
     have hlt:q0g a b:=by
      rcases hab with h3|h3
      ·unfold ZU at hs
       simp [h3.1,h3.2.1] at hs
      ·exact h3
     rw [cond_false]
     refine ⟨fun s hs' => ?_,List.pairwise_cons.2 ⟨i1,i2⟩,fun s hs' => ?_,fun s hs' => ?_⟩
     ·rcases List.mem_cons.1 hs' with rfl|hs'
      ·exact hlt
      ·exact q2f hlt (i1 s hs')
     ·rcases List.mem_cons.1 hs' with rfl|hs'
      ·exact List.mem_cons_self
      ·exact List.mem_cons_of_mem _ (i3 s hs')
     ·rcases List.mem_cons.1 hs' with rfl|hs'
      ·exact .inr ⟨s,List.mem_cons_self,rfl,rfl,Int.le_refl _⟩
      ·rcases i4 s hs' with ⟨h3,h4,h5⟩|⟨s',h3,h4⟩
       ·exact .inr ⟨b,List.mem_cons_self,h3.symm,h4.symm,h5⟩
       ·exact .inr ⟨s',List.mem_cons_of_mem _ h3,h4⟩
theorem LK {l:List Step} (hok : ∀ s∈l,okSt s):(ZM l).Pairwise q0g∧(∀ s∈ZM l,s∈l) ∧ ∀ s∈l,∃ s'∈ZM l,s'.src=s.src∧s'.dst=s.dst∧s'.kind≤s.kind:=by
 have hp : ∀ s,s∈YQ l↔s∈l:=fun s=>(q5r l).mem_iff
 have hs:=q0v l
 unfold ZM
 cases hq:YQ l with
 | nil =>
   rw [hq] at hp
   refine ⟨by simp [NE],by simp [NE],fun s hs => ?_⟩
   have:=(hp s).2 hs
   cases this
 | cons a r =>
   rw [hq] at hp hs
   have hok' : ∀ s∈a::r,okSt s:=fun s h=>hok s ((hp s).1 h)
   obtain ⟨h1,h2,h3,h4⟩:=q3e r a (hok' a List.mem_cons_self) (fun s h=>hok' s (List.mem_cons_of_mem _ h)) hs
   rw [NE]
   refine ⟨List.pairwise_cons.2 ⟨h1,h2⟩,fun s hs' => ?_,fun s hs' => ?_⟩
   ·rcases List.mem_cons.1 hs' with rfl|hs'
    ·exact (hp s).1 List.mem_cons_self
    ·exact (hp s).1 (List.mem_cons_of_mem _ (h3 s hs'))
   ·rcases List.mem_cons.1 ((hp s).2 hs') with rfl|hs'
    ·exact ⟨s,List.mem_cons_self,rfl,rfl,Int.le_refl _⟩
    ·rcases h4 s hs' with ⟨h5,h6,h7⟩|⟨s',h5,h6⟩
     ·exact ⟨a,List.mem_cons_self,h5.symm,h6.symm,h7⟩
     ·exact ⟨s',List.mem_cons_of_mem _ h5,h6⟩
theorem z8b {l:List Step} (h:l.Pairwise q0g) {a b:Step} (ha:a∈l) (hb:b∈l) (h1:a.src=b.src) (h2:a.dst=b.dst):a=b:=by
 have hn : ∀ {x y:Step},x.src=y.src→x.dst=y.dst → ¬q0g x y:=fun {x y} e1 e2 hlt=>by
  unfold q0g at hlt
  rw [e1,e2] at hlt
  omega
 induction h with
 | nil=>cases ha
 | @cons c r hc hr ih =>
   rcases List.mem_cons.1 ha with e1|ha'
   ·rcases List.mem_cons.1 hb with e2|hb'
    ·rw [e1,e2]
    ·exact absurd (hc b hb') (by rw [← e1];exact hn h1 h2)
   ·rcases List.mem_cons.1 hb with e2|hb'
    ·exact absurd (hc a ha') (by rw [← e2];exact hn h1.symm h2.symm)
    ·exact ih ha' hb'
theorem q5b {l m:List Step} (hok : ∀ s∈l,okSt s) (h1:m.Pairwise q0g) (h2 : ∀ s∈m,s∈l) (h3 : ∀ s∈l,∃ s'∈m,s'.src=s.src∧s'.dst=s.dst∧s'.kind≤s.kind):ZM l=m:=by
 obtain ⟨g1,g2,g3⟩:=LK hok
 refine x0w g1 h1 fun s=>⟨fun hs => ?_,fun hs => ?_⟩
 ·obtain ⟨a,ha,h4,h5,h6⟩:=h3 s (g2 s hs)
  obtain ⟨b,hb,h7,h8,h9⟩:=g3 a (h2 a ha)
  have:=z8b g1 hb hs (h7.trans h4) (h8.trans h5)
  subst this
  have:a=b:=Step.eq_of h4 h5 (by omega)
  rw [← this]
  exact ha
 ·obtain ⟨a,ha,h4,h5,h6⟩:=g3 s (h2 s hs)
  obtain ⟨b,hb,h7,h8,h9⟩:=h3 a (g2 a ha)
  have:=z8b h1 hb hs (h7.trans h4) (h8.trans h5)
  subst this
  have:a=b:=Step.eq_of h4 h5 (by omega)
  rw [← this]
  exact ha
open Go.Proofs
theorem w8j:(QX someP 1 f1).real=[⟨0,5,1⟩,⟨5,6,1⟩,⟨6,7,1⟩,⟨6,8,1⟩,⟨7,-1,1⟩,⟨8,-1,1⟩]:=v0m
theorem w7v:(QX someP 0 f0).real=[⟨0,1,1⟩,⟨1,2,1⟩,⟨2,3,1⟩,⟨3,4,1⟩,⟨4,-1,1⟩]:=v0t
theorem v2z:prsW (QX someP 1 f1) f1=[(0,1),(1,2),(2,3),(2,4),(3,5),(4,5)]:=by
 unfold prsW
 rw [w8j]
 kernel_rfl
theorem v2q:prsW (QX someP 0 f0) f0=[(0,1),(1,2),(2,3),(3,4),(4,5)]:=by
 unfold prsW
 rw [w7v]
 kernel_rfl
theorem w7f:trapsW (QX someP 1 f1) f1=[]:=by
 unfold trapsW ZE
 rw [v2z]
 kernel_rfl
theorem w8z:trapsW (QX someP 0 f0) f0=[]:=by
 unfold trapsW ZE
 rw [v2q]
 kernel_rfl
theorem v1s:PH (QX someP 1 f1) f1=[⟨0,5,1⟩,⟨0,-1,2⟩,⟨5,6,1⟩,⟨6,7,1⟩,⟨6,8,1⟩,⟨7,8,2⟩,⟨7,-1,1⟩,⟨8,-1,1⟩]:=by
 have h1:FH (QX someP 1 f1) f1=[⟨0,5,1⟩,⟨5,6,1⟩,⟨6,7,1⟩,⟨6,8,1⟩,⟨7,-1,1⟩,⟨8,-1,1⟩,⟨0,-1,2⟩,⟨7,8,2⟩,⟨8,-1,2⟩]:=by
  unfold FH VW
  rw [w7f,w8j]
  kernel_rfl
 unfold PH
 rw [h1]
 exact q5b (by unfold okSt;decide) (by decide) (by decide) (by decide)
theorem v2v:PH (QX someP 0 f0) f0=[⟨0,1,1⟩,⟨0,-1,2⟩,⟨1,2,1⟩,⟨2,3,1⟩,⟨3,4,1⟩,⟨4,-1,1⟩]:=by
 have h1:FH (QX someP 0 f0) f0=[⟨0,1,1⟩,⟨1,2,1⟩,⟨2,3,1⟩,⟨3,4,1⟩,⟨4,-1,1⟩,⟨0,-1,2⟩]:=by
  unfold FH VW
  rw [w8z,w7v]
  kernel_rfl
 unfold PH
 rw [h1]
 exact q5b (by unfold okSt;decide) (by decide) (by decide) (by decide)
theorem z6t:HP someP [109,97,105,110]=some (QX someP 0 f0):=by
 unfold HP
 rw [x2e]
 rfl
open Go.Proofs
theorem w3u {p:Pg} (h:XK p=true) {j:Nat} {f:Pr} (hj:p.procs[j]? = some f) {a:Int} : ¬wR p j f a 0:=fun ⟨s,hs,_,hd⟩=>by
 have h1:=((BG h hj).2.1 s (((JY h hj).2 s).1 hs)).2
 unfold okI at h1
 omega
theorem w6u {p:Pg} (h:XK p=true) {j:Nat} {f:Pr} (hj:p.procs[j]? = some f) {t:S} (ht:t∈flL f.body):w6r p t.id=some t:=by
 have hb:=VX (QK h).1 hj ht
 obtain ⟨u,hu,h1,h2⟩:=q0w h hj hb.1 hb.2
 obtain ⟨it,hi,rfl⟩:=w4s (p:=p) (j:=j) ht
 obtain ⟨iu,hiu,rfl⟩:=w4s (p:=p) (j:=j) hu
 rw [z8g (QK h).1 hj hiu hi h2] at h1
 exact h1
theorem x2p {p:Pg} (h:XK p=true) {j:Nat} {f:Pr} (hj:p.procs[j]? = some f) {s:Step}:s∈VW (QX p j f) f ↔ ∃ l∈trapsW (QX p j f) f,∃ t∈flL f.body,t.id∈l∧t.kind=10∧s=⟨t.id,-1,3⟩:=by
 unfold VW
 constructor
 ·intro hs
  obtain ⟨l,hl,hs⟩:=List.mem_flatMap.1 hs
  obtain ⟨id,hid,hs⟩:=List.mem_flatMap.1 hs
  have hb:=(x3o h hj hl).2 id hid
  obtain ⟨t,ht,h1,h2⟩:=q0w h hj hb.1 hb.2
  have e:(QX p j f).p=p:=rfl
  unfold vOf at hs
  rw [e,h1] at hs
  simp only at hs
  split at hs
  ·rename_i hk
   exact ⟨l,hl,t,ht,by rw [h2];exact hid,hk,by rw [h2];simpa using hs⟩
  ·cases hs
 ·rintro ⟨l,hl,t,ht,hid,hk,rfl⟩
  refine List.mem_flatMap.2 ⟨l,hl,List.mem_flatMap.2 ⟨t.id,hid,?_⟩⟩
  have e:(QX p j f).p=p:=rfl
  unfold vOf
  rw [e,w6u h hj ht]
  simp [hk]
theorem w5t {p:Pg} (h:XK p=true) {j:Nat} {f:Pr} (hj:p.procs[j]? = some f) : ∀ s∈VW (QX p j f) f++(QX p j f).real,okSt s:=fun s hs =>
 (List.mem_append.1 hs).elim ((w9v h hj).virt_ok s) ((w9v h hj).hok s)
open Go.Proofs
theorem w0y {p:Pg} (h:XK p=true) {j:Nat} {f:Pr} (hj:p.procs[j]? = some f) {x:RI} (hx:x∈ZR f):x.s∈flL f.body:=by
 rw [WK (QK h).1 (List.mem_of_getElem? hj)] at hx
 rw [← show (flatU f).map RI.s=flL f.body from DW 1 0 false f.body]
 exact List.mem_map.2 ⟨x,hx,rfl⟩
open Go.Proofs
def RI0:RI:=⟨.mk 0 0 [] [] [] (.mk 0 0 [] []) false [] [] [],0,0,false⟩
def x4e (id:Int) (f:Pr):Option (RI×Str):=((ZR f).find? fun x=>decide (x.s.id=id)).map fun x=>(x,f.name)
def q6u (p:Pg) (id:Int):Option (RI×Str):=p.procs.findSome? (x4e id)
def YU (p:Pg) (id:Int):RI×Str×Bool:=match q6u p id with
 | some (x,n)=>(x,n,true)
 | none=>(RI0,[],false)
theorem z9v:Sub (.agg [.int .i64 0,.int .i64 0,.nils,.str [],.str [],.int .i64 0,.int .i64 0,.str [],.nils,.ff,.nils,.nils,.nils,.int .i64 0,.int .i64 0,.ff]) (.agg RI0.cells) :=
 Sub.agg (by repeat' (first|exact SubL.nil|refine SubL.cons ?_ ?_|exact Sub.nils|exact Sub.ff rfl|exact Sub.refl _))
theorem q8z {l:List RI} {q:RI→Bool} {k:Nat} (hk:k<l.length):(l.drop k).find? q=if q l[k] then some l[k] else (l.drop (k+1)).find? q:=by
 rw [QG hk,List.find?_cons]
 cases q l[k]<;>rfl
theorem GP (p:Pg) (id:Int):SpecP Tryz.prog 84 [.agg p.cells,.int .i64 id] (fun r=>r = .tup [.agg (YU p id).1.cells,.str (YU p id).2.1,.bool (YU p id).2.2]):=by
 refine SpecP.body NR QQ Tryz.func84 rfl Tryz.call84 (by show 2≤_;decide) ?_
 conv=>whnf
 have hpl:(p.procs.map fun f=>AV.agg f.cells).length=p.procs.length:=List.length_map _
 repeat' (intro (_:_≤9223372036854775807);conv=>whnf)
 refine LoopK.inv QQ (fun j:Nat=>⟨[(1,.p (.int .i64 id)),(4,.ptr 1 0),(12,.p (.sl (p.procs.map fun f => .agg f.cells))),(13,.p (.int .i64 (p.procs.map fun f=>AV.agg f.cells).length)),(14,.p (.int .i64 j))],[(1,.obj 103 [.p (.int .i64 0),.p (.int .i64 0),.p .nils,.p (.str []),.p (.str []),.p (.int .i64 0),.p (.int .i64 0),.p (.str []),.p .nils,.p .ff,.p .nils,.p .nils,.p .nils,.p (.int .i64 0),.p (.int .i64 0),.p .ff])]⟩) (fun j=>j≤p.procs.length∧(p.procs.drop j).findSome? (x4e id)=q6u p id) (fun j=>p.procs.length-j) 0 (Le.of_eq rfl) ⟨Nat.zero_le _,rfl⟩ ?_
 rintro j ⟨h2,h3⟩
 rcases Nat.lt_or_ge j p.procs.length with hj|hj
 rotate_left 1
 ·rw [List.drop_eq_nil_of_le hj,List.findSome?_nil] at h3
  have hO:YU p id=(RI0,[],false):=by unfold YU;rw [← h3]
  rw [hO]
  conv=>whnf
  repeat' (first|(refine And.intro rfl ?_;conv=>whnf)|(refine Br.dec (fun _=>?_) (fun _=>?_)<;>first|(exfalso;omega)|conv=>whnf))
  exact ⟨_,.p (Sub.tup (SubL.cons z9v (SubL.cons (Sub.refl _) (SubL.cons (Sub.ff rfl) SubL.nil)))),rfl⟩
 rw [QG hj,List.findSome?_cons] at h3
 conv=>whnf
 repeat' (first|((first|intro (_:_≤9223372036854775807)|refine And.intro rfl ?_|refine IdxK.map (by omega) (fun _=>rfl) ?_|(refine CallK.pure (QE _) (.cons (Sub.refl _) .nil) ?_;rintro _ rfl));conv=>whnf)|(refine Br.dec (fun _=>?_) (fun _=>?_)<;>first|(exfalso;omega)|conv=>whnf))
 have hrl:((ZR p.procs[j]).map fun i=>AV.agg i.cells).length=(ZR p.procs[j]).length:=List.length_map _
 have hff:x4e id p.procs[j]=((ZR p.procs[j]).find? fun x=>decide (x.s.id=id)).map fun x=>(x,p.procs[j].name):=rfl
 rw [hff] at h3
 have hfl:=JH p.procs[j]
 generalize ZR p.procs[j]=F at hrl hfl h3 ⊢
 refine LoopK.inv QQ (fun k:Nat=>⟨[(1,.p (.int .i64 id)),(4,.ptr 1 0),(8,.p (.ip p.procs[j].cells)),(12,.p (.sl (p.procs.map fun f => .agg f.cells))),(13,.p (.int .i64 (p.procs.map fun f=>AV.agg f.cells).length)),(14,.p (.int .i64 j)),(19,.p (YN F)),(20,.p (.int .i64 (F.map fun i=>AV.agg i.cells).length)),(21,.p (.int .i64 k))],[(1,.obj 103 [.p (.int .i64 0),.p (.int .i64 0),.p .nils,.p (.str []),.p (.str []),.p (.int .i64 0),.p (.int .i64 0),.p (.str []),.p .nils,.p .ff,.p .nils,.p .nils,.p .nils,.p (.int .i64 0),.p (.int .i64 0),.p .ff])]⟩) (fun k=>k≤F.length∧(F.drop k).find? (fun x=>decide (x.s.id=id))=F.find? fun x=>decide (x.s.id=id)) (fun k=>F.length-k) 0 (Le.of_eq rfl) ⟨Nat.zero_le _,rfl⟩ ?_
 rintro k ⟨h4,h5⟩
 rcases Nat.lt_or_ge k F.length with hk|hk
 rotate_left 1
 ·rw [List.drop_eq_nil_of_le hk,List.find?_nil] at h5
  rw [← h5] at h3
  conv=>whnf
  repeat' (first|(refine Wr.i64 (by omega) (by omega) ?_;conv=>whnf)|(refine Br.dec (fun _=>?_) (fun _=>?_)<;>first|(exfalso;omega)|conv=>whnf))
  exact ⟨j+1,⟨hj,h3⟩,by omega,Le.of_eq rfl⟩
 rw [q8z hk] at h5
 conv=>whnf
 repeat' (first|((first|refine DrawK.auto QQ mixed (by kernel_rfl) ?_|refine And.intro rfl ?_|refine IdxK.map (by omega) (fun _=>rfl) ?_|refine Wr.i64 (by omega) (by omega) ?_);conv=>whnf)|(refine Br.dec (fun _=>?_) (fun _=>?_)<;>first|(exfalso;omega)|conv=>whnf))
 ·have hid:F[k].s.id=id:=by assumption
  rw [if_pos (decide_eq_true hid)] at h5
  rw [← h5] at h3
  have hO:YU p id=(F[k],p.procs[j].name,true):=by unfold YU;rw [← h3];rfl
  rw [hO]
  exact ⟨_,.p (Sub.tup (SubL.cons (Sub.refl _) (SubL.cons (Sub.refl _) (SubL.cons (Sub.tt rfl) SubL.nil)))),rfl⟩
 ·have hid : ¬F[k].s.id=id:=by assumption
  rw [if_neg (by simpa using hid)] at h5
  exact ⟨k+1,⟨hk,h5⟩,by omega,Le.of_eq rfl⟩
open Go.Proofs
open Go.Proofs
open Go.Proofs
open Go.Proofs
open Go.Proofs
open Go.Proofs
def ElS (es es':List AV):Prop:=es'.length=es.length ∧ ∀ (m:Nat) (x':AV),es'[m]? = some x' → ∃ x,es[m]? = some x∧x'.cells.length=x.cells.length ∧ ∀ (j:Nat) (c':AV),x'.cells[j]? = some c' → ∃ c,x.cells[j]? = some c∧Sub c c'
theorem ElS.refl (es:List AV):ElS es es:=⟨rfl,fun _ x' h=>⟨x',h,rfl,fun _ c' hc=>⟨c',hc,Sub.refl _⟩⟩⟩
open Go.Proofs
open Go.Proofs
open Go.Proofs
theorem x8v {l:List Str} {s:Str} (h:s∈l):s∈Go.Lib.compact l:=by
 have key : ∀ (j:Nat) (hj:j<l.length),l[j]∈Go.Lib.compact l:=fun j=>by
  induction j with
  | zero =>
    intro hj
    refine List.mem_map.2 ⟨0,List.mem_filter.2 ⟨by simpa using hj,by simp [Go.Lib.keeps]⟩,?_⟩
    simp [hj]
  | succ j ih =>
    intro hj
    cases hk:Go.Lib.keeps l.toArray (j+1) with
    | true =>
      refine List.mem_map.2 ⟨j+1,List.mem_filter.2 ⟨by simpa using hj,hk⟩,?_⟩
      simp [hj]
    | false =>
      have hj':j<l.length:=by omega
      have:l[j+1]=l[j]:=by
       unfold Go.Lib.keeps at hk
       simp [hj,hj'] at hk
       exact hk
      rw [this]
      exact ih hj'
 obtain ⟨j,hj,rfl⟩:=List.mem_iff_getElem.1 h
 exact key j hj
theorem q5i {l:List Str} {s:Str}:s∈Go.Lib.compact l↔s∈l:=⟨MU,x8v⟩
open Go.Proofs
section
variable {p:Pg} {k:Nat} {f:Pr}
end
open Go.Proofs
theorem q9c : ∀ (l:List Pr) {n:Nat} {m:Int},XL n l=some m → ∀ (j:Nat) (f:Pr),l[j]? = some f → ∃ m',ZG 1 ((n+QN l j:Nat):Int) f.body=some m'
 | [],_,_,_,j,f,hj=>by simp at hj
 | g::r,n,m,h,j,f,hj=>by
   rw [XL] at h
   cases hm:KL g<;>rw [hm] at h
   ·cases h
   simp only [cond_true] at h
   split at h
   ·rename_i m1 h1
    cases j with
    | zero =>
      cases hj
      exact ⟨m1,h1⟩
    | succ j =>
      have h2:=ZP _ _ g.body h1
      have h':XL ((n+QY g.body:Nat):Int) r=some m:=by rw [← h,h2];rfl
      obtain ⟨m',h3⟩:=q9c r h' j f (by simpa using hj)
      exact ⟨m',by rw [← h3,QN];congr 1;omega⟩
   ·cases h
theorem DX {p:Pg} (h:WI p=true) {j:Nat} {f:Pr} (hj:p.procs[j]? = some f) : ∃ m,ZG 1 ((QN p.procs j:Nat):Int) f.body=some m:=by
 unfold WI at h
 simp only [Bool.and_eq_true] at h
 obtain ⟨m,hm⟩:=Option.isSome_iff_exists.1 h.2
 obtain ⟨m',h'⟩:=q9c p.procs (n:=0) hm j f hj
 exact ⟨m',by rw [← h'];congr 1;omega⟩
section
variable {p:Pg} {k:Nat} {f:Pr}
end
open Go.Proofs
end Go.Ab
