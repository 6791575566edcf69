/- The reference's weighing: how much text a program is. -/
import Derived.Laws.StructEq
import Derived.ChangeKeysEq
import Derived.Test.YtneccajakpeodaaGreatDomW8
import Derived.Test.YtneccajakpeodaaGreatDomW10
import Derived.Test.YtneccajakpeodaaGreatDomW13
import Derived.Test.YtneccajakpeodaaGreatDomW14
import Derived.Test.YtneccajakpeodaaGreatDomW15
set_option linter.unusedSimpArgs false
set_option linter.unusedVariables false
set_option maxRecDepth 100000
set_option maxHeartbeats 16000000
namespace Go.Ab
open Go.Proofs
def BP:List Str→Nat
 | []=>0
 | s::r=>1+s.length+BP r
mutual
def gX:X→Nat
 | .mk _ _ name kids=>1+name.length+gXs kids
def gXs:List X→Nat
 | []=>0
 | x::r=>gX x+gXs r
end
def q6o:List Arg→Nat
 | []=>0
 | a::r=>gX a.x+(1+a.name.length)+q6o r
mutual
def gS:S→Nat
 | .mk _ _ labels name proc x _ args thn els=>gX x+BP labels+(1+name.length)+(1+proc.length)+q6o args+gL thn+gL els
def gL:List S→Nat
 | []=>0
 | s::r=>gS s+gL r
end
def z7j:List Param→Nat
 | []=>0
 | a::r=>1+a.name.length+z7j r
def gPr (f:Pr):Nat:=1+f.name.length+BP f.vars+BP f.fin+z7j f.params+gL f.body
def x6g:List Pr→Nat
 | []=>0
 | f::r=>gPr f+x6g r
def gPg (p:Pg):Nat:=BP p.globals+x6g p.procs
theorem w8q (s:S):gS s=gX s.x+BP s.labels+(1+s.name.length)+(1+s.proc.length)+q6o s.args+gL s.thn+gL s.els:=by
 cases s
 rw [gS]
 rfl
theorem x4z : ∀ l:List Str,z7k l≤BP l
 | []=>Nat.le_refl _
 | s::r=>by have:=x4z r;simp only [z7k,BP];omega
mutual
theorem w6y : ∀ x:X,wX x≤gX x
 | .mk _ _ name kids=>by have:=w4n kids;rw [wX,gX];omega
theorem w4n : ∀ l:List X,wXs l≤gXs l
 | []=>by rw [wXs];omega
 | x::r=>by have:=w6y x;have:=w4n r;rw [wXs,gXs];omega
end
theorem z6a : ∀ l:List Arg,q9z l≤q6o l
 | []=>Nat.le_refl _
 | a::r=>by have:=z6a r;have:=w6y a.x;simp only [q9z,q6o];omega
mutual
theorem w8d : ∀ s:S,wS s≤gS s
 | .mk _ _ labels name proc x _ args thn els=>by
   have:=w6y x;have:=x4z labels;have:=z6a args;have:=w5r thn;have:=w5r els
   rw [wS,gS];omega
theorem w5r : ∀ l:List S,wL l≤gL l
 | []=>by rw [wL];omega
 | s::r=>by have:=w8d s;have:=w5r r;rw [wL,gL];omega
end
theorem w1l : ∀ l:List Param,w3a l≤z7j l
 | []=>Nat.le_refl _
 | a::r=>by have:=w1l r;simp only [w3a,z7j];omega
theorem w1n : ∀ l:List Pr,w4q l≤x6g l
 | []=>Nat.le_refl _
 | f::r=>by
   have:=w1n r;have:=x4z f.vars;have:=x4z f.fin;have:=w1l f.params;have:=w5r f.body
   simp only [w4q,x6g,wPr,gPr];omega
theorem w7t (p:Pg):wPg p≤gPg p:=by
 have:=x4z p.globals;have:=w1n p.procs
 unfold wPg gPg;omega
def QO (x:Int):Int:=if x>20000 then 20001 else x
theorem XL {a b:Int} (hb:0≤b):QO (QO a+b)=QO (a+b):=by
 unfold QO
 split<;>split<;>(try split)<;>omega
theorem XN {a:Int} (h:0≤a):0≤QO a∧QO a≤20001:=by
 unfold QO
 split<;>omega
theorem x1j {a:Int} (h:a≤20001):QO a=a:=by
 unfold QO
 split<;>omega
theorem UX {a b:Int} (h:a>20000) (h1:a≤20001) (hb:0≤b):a=QO (a+b):=by
 unfold QO
 split<;>omega
theorem QP (s:Str) (n:Int) (hn:0≤n∧n≤20001):SpecP Tryz.prog 77 [.str s,.int .i64 n] (fun r=>r = .int .i64 (QO (n+(1+s.length:Nat)))):=by
 refine SpecP.body KE QQ Tryz.func77 rfl Tryz.call77 (by show 2≤_;decide) ?_
 conv=>whnf
 repeat' (first|((first|(intro (_:_≤9223372036854775807))|(refine Wr.i64 (by omega) (by omega) ?_));conv=>whnf)|(refine Br.dec (fun _ => ?_) (fun _ => ?_)<;>first|(exfalso;omega)|conv=>whnf))
 all_goals exact RetK.int (by unfold QO;(repeat' split)<;>omega)
theorem XH (l:List Str) (n:Int) (hn:0≤n∧n≤20001):SpecP Tryz.prog 76 [QD l,.int .i64 n] (fun r=>r = .int .i64 (QO (n+BP l))):=by
 refine SpecP.body JA QQ Tryz.func76 rfl Tryz.call76 (by show 2≤_;decide) ?_
 conv=>whnf
 skip
 have hl:(l.map AV.str).length=l.length:=List.length_map _
 refine LoopK.inv QQ (fun x:Nat×Int=>⟨[(0,.p (QD l)),(1,.p (.int .i64 x.2)),(5,.p (.int .i64 x.1))],[]⟩) (fun x=>x.1≤l.length∧(0≤x.2∧x.2≤20001)∧QO (x.2+BP (l.drop x.1))=QO (n+BP l)) (fun x=>l.length-x.1) (0,n) (Le.of_eq rfl) ⟨Nat.zero_le _,hn,rfl⟩ ?_
 rintro ⟨j,m⟩ ⟨h2,h3,h4⟩
 simp only at h2 h3 h4 ⊢
 rcases Nat.lt_or_ge j l.length with hj|hj
 ·rw [List.drop_eq_getElem_cons hj,BP] at h4
  conv=>whnf
  repeat' (first|((first|(intro (_:_≤9223372036854775807))|(refine CallK.pure (QP _ _ h3) (by repeat' (first|exact ArgP.nil|refine ArgP.cons ?_ ?_|exact Sub.refl _|exact Sub.tt rfl|exact Sub.ff rfl|exact Sub.int (by omega))) ?_;rintro _ rfl)|(refine IdxK.map (by omega) (fun _=>rfl) ?_)|(refine Wr.i64 (by omega) (by omega) ?_));conv=>whnf)|(refine Br.dec (fun _ => ?_) (fun _ => ?_)<;>first|(exfalso;omega)|conv=>whnf))
  ·have h5:QO (QO (m+(1+l[j].length:Nat))+BP (l.drop (j+1)))=QO (n+BP l):=by
    rw [XL (by omega),← h4]
    congr 1
    omega
   exact ⟨(j+1,QO (m+(1+l[j].length:Nat))),⟨by simp only;omega,XN (by omega),h5⟩,by simp only;omega,Le.of_eq rfl⟩
  ·exact RetK.int (by rw [← h4];exact UX (by omega) h3.2 (by omega))
 ·rw [List.drop_eq_nil_of_le hj,BP] at h4
  conv=>whnf
  repeat' (first|(intro (_:_≤9223372036854775807);conv=>whnf)|(refine Br.dec (fun _ => ?_) (fun _ => ?_)<;>first|(exfalso;omega)|conv=>whnf))
  exact RetK.int (by rw [← h4,x1j (by omega)];simp)
theorem VF : ∀ (k:Nat) (x:X) (_:gX x<k) (n:Int) (_:0≤n∧n≤20001),SpecP Tryz.prog 135 [.agg x.cells,.int .i64 n] (fun r=>r = .int .i64 (QO (n+gX x))):=by
 intro k
 induction k with
 | zero=>intro x h;omega
 | succ k ih =>
   intro x hx n hn
   have hxe:gX x=1+x.name.length+gXs x.kids:=by cases x;rw [gX];rfl
   have hkl:=X.avs_len x.kids
   refine SpecP.body KR QQ Tryz.func135 rfl Tryz.call135 (by show 2≤_;decide) ?_
   conv=>whnf
   repeat' (refine CallK.pure (QP _ _ hn) (by repeat' (first|exact ArgP.nil|refine ArgP.cons ?_ ?_|exact Sub.refl _|exact Sub.tt rfl|exact Sub.ff rfl|exact Sub.int (by omega))) ?_;rintro _ rfl;conv=>whnf)
   refine LoopK.inv QQ (fun y:Nat×Int=>⟨[(1,.p (.int .i64 y.2)),(2,.p (.ip x.cells)),(5,.p (.int .i64 y.1))],[]⟩) (fun y=>y.1≤x.kids.length∧(0≤y.2∧y.2≤20001)∧QO (y.2+gXs (x.kids.drop y.1))=QO (n+gX x)) (fun y=>x.kids.length-y.1) (0,QO (n+(1+x.name.length:Nat))) (Le.of_eq rfl) ⟨Nat.zero_le _,XN (by omega),by
    show QO (QO (n+(1+x.name.length:Nat))+gXs x.kids)=_
    rw [XL (by omega),hxe]
    congr 1
    omega⟩ ?_
   rintro ⟨j,m⟩ ⟨h2,h3,h4⟩
   simp only at h2 h3 h4 ⊢
   rcases Nat.lt_or_ge j x.kids.length with hj|hj
   ·rw [List.drop_eq_getElem_cons hj,gXs] at h4
    have hkw:gX x.kids[j]<k:=by
     have : ∀ (l:List X) (y:X),y∈l→gX y≤gXs l:=fun l=>by
      induction l with
      | nil=>intro y h;cases h
      | cons a r ih =>
        intro y h
        rw [gXs]
        rcases List.mem_cons.1 h with rfl|h
        ·omega
        ·have:=ih y h;omega
     have:=this x.kids _ (List.getElem_mem hj)
     omega
    conv=>whnf
    repeat' (first|((first|(intro (_:_≤9223372036854775807))|(refine IdxK.xs (by omega) ?_)|(refine Wr.i64 (by omega) (by omega) ?_)|(refine CallK.pure (ih (x.kids[j]'hj) hkw m h3) (.cons (Sub.refl _) (.cons (Sub.refl _) .nil)) ?_;rintro _ rfl));conv=>whnf)|(refine Br.dec (fun _ => ?_) (fun _ => ?_)<;>first|(exfalso;omega)|conv=>whnf))
    ·have h5:QO (QO (m+gX x.kids[j])+gXs (x.kids.drop (j+1)))=QO (n+gX x):=by
      rw [XL (by omega),← h4]
      congr 1
      omega
     exact ⟨(j+1,QO (m+gX x.kids[j])),⟨by simp only;omega,XN (by omega),h5⟩,by simp only;omega,Le.of_eq rfl⟩
    ·exact RetK.int (by rw [← h4];exact UX (by omega) h3.2 (by omega))
   ·rw [List.drop_eq_nil_of_le hj,gXs] at h4
    conv=>whnf
    repeat' (first|(intro (_:_≤9223372036854775807);conv=>whnf)|(refine Br.dec (fun _ => ?_) (fun _ => ?_)<;>first|(exfalso;omega)|conv=>whnf))
    exact RetK.int (by rw [← h4,x1j (by omega)];simp)
theorem w1p : ∀ (l:List S) (y:S),y∈l→gS y≤gL l
 | [],y,h=>by cases h
 | a::r,y,h=>by
   rw [gL]
   rcases List.mem_cons.1 h with rfl|h
   ·omega
   ·have:=w1p r y h;omega
theorem WC : ∀ (k:Nat) (l:List S) (_:gL l<k) (n:Int) (_:0≤n∧n≤20001),SpecP Tryz.prog 78 [eSs l,.int .i64 n] (fun r=>r = .int .i64 (QO (n+gL l))):=by
 intro k
 induction k with
 | zero=>intro l h;omega
 | succ k ih =>
   intro l hl n hn
   have hkl:=S.avs_len l
   refine SpecP.body JF QQ Tryz.func78 rfl Tryz.call78 (by show 2≤_;decide) ?_
   conv=>whnf
   skip
   refine LoopK.inv QQ (fun y:Nat×Int=>⟨[(0,.p (eSs l)),(1,.p (.int .i64 y.2)),(5,.p (.int .i64 y.1))],[]⟩) (fun y=>y.1≤l.length∧(0≤y.2∧y.2≤20001)∧QO (y.2+gL (l.drop y.1))=QO (n+gL l)) (fun y=>l.length-y.1) (0,n) (Le.of_eq rfl) ⟨Nat.zero_le _,hn,rfl⟩ ?_
   rintro ⟨j,m⟩ ⟨h2,h3,h4⟩
   simp only at h2 h3 h4 ⊢
   rcases Nat.lt_or_ge j l.length with hj|hj
   rotate_left 1
   ·rw [List.drop_eq_nil_of_le hj,gL] at h4
    conv=>whnf
    repeat' (first|(intro (_:_≤9223372036854775807);conv=>whnf)|(refine Br.dec (fun _ => ?_) (fun _ => ?_)<;>first|(exfalso;omega)|conv=>whnf))
    exact RetK.int (by rw [← h4,x1j (by omega)];simp)
   rw [List.drop_eq_getElem_cons hj,gL] at h4
   have hsw:=w1p l _ (List.getElem_mem hj)
   have hse:=w8q l[j]
   have q1:=XN (a:=m+gX l[j].x) (by omega)
   have q2:=XN (a:=QO (m+gX l[j].x)+BP l[j].labels) (by omega)
   have q3:=XN (a:=QO (QO (m+gX l[j].x)+BP l[j].labels)+(1+l[j].name.length:Nat)) (by omega)
   conv=>whnf
   repeat' (first|((first|(intro (_:_≤9223372036854775807))|(refine DrawK.auto QQ mixed (by kernel_rfl) ?_)|(refine And.intro rfl ?_)|(refine IdxK.ss (by omega) ?_)|(refine CallK.pure (VF (gX l[j].x+1) l[j].x (by omega) m h3) (.cons (Sub.refl _) (.cons (Sub.refl _) .nil)) ?_;rintro _ rfl)|(refine CallK.pure (XH l[j].labels _ q1) (.cons (Sub.refl _) (.cons (Sub.refl _) .nil)) ?_;rintro _ rfl)|(refine CallK.pure (QP l[j].name _ q2) (.cons (Sub.refl _) (.cons (Sub.refl _) .nil)) ?_;rintro _ rfl)|(refine CallK.pure (QP l[j].proc _ q3) (.cons (Sub.refl _) (.cons (Sub.refl _) .nil)) ?_;rintro _ rfl));conv=>whnf)|(refine Br.dec (fun _ => ?_) (fun _ => ?_)<;>first|(exfalso;omega)|conv=>whnf))
   rotate_left 1
   ·exact RetK.int (by rw [← h4];exact UX (by omega) h3.2 (by omega))
   have q4:=XN (a:=QO (QO (QO (m+gX l[j].x)+BP l[j].labels)+(1+l[j].name.length:Nat))+(1+l[j].proc.length:Nat)) (by omega)
   have h5:QO (QO (QO (QO (QO (m+gX l[j].x)+BP l[j].labels)+(1+l[j].name.length:Nat))+(1+l[j].proc.length:Nat))+(q6o l[j].args+(gL l[j].thn+gL l[j].els+gL (l.drop (j+1))):Nat))=QO (n+gL l):=by
    rw [XL (by omega),Int.add_assoc,XL (by omega),Int.add_assoc,XL (by omega),Int.add_assoc,XL (by omega),← h4,hse]
    congr 1
    omega
   generalize QO (QO (QO (QO (m+gX l[j].x)+BP l[j].labels)+(1+l[j].name.length:Nat))+(1+l[j].proc.length:Nat))=m0 at q4 h5 ⊢
   have hal:(l[j].args.map fun a=>AV.agg a.cells).length=l[j].args.length:=List.length_map _
   refine LoopK.inv QQ (fun y:Nat×Int=>⟨[(0,.p (eSs l)),(1,.p (.int .i64 y.2)),(5,.p (.int .i64 j)),(6,.p (.ip l[j].cells)),(7,.p (.int .i64 y.1))],[]⟩) (fun y=>y.1≤l[j].args.length∧(0≤y.2∧y.2≤20001)∧QO (y.2+(q6o (l[j].args.drop y.1)+(gL l[j].thn+gL l[j].els+gL (l.drop (j+1))):Nat))=QO (n+gL l)) (fun y=>l[j].args.length-y.1) (0,m0) (Le.of_eq rfl) ⟨Nat.zero_le _,q4,h5⟩ ?_
   rintro ⟨a,m2⟩ ⟨h6,h7,h8⟩
   simp only at h6 h7 h8 ⊢
   have fin:QO (m2+(gL l[j].thn+gL l[j].els+gL (l.drop (j+1)):Nat))=QO (n+gL l)→(0≤QO (QO (m2+gL l[j].thn)+gL l[j].els)∧QO (QO (m2+gL l[j].thn)+gL l[j].els)≤20001)∧QO (QO (QO (m2+gL l[j].thn)+gL l[j].els)+gL (l.drop (j+1)))=QO (n+gL l):=fun h=>by
    have:=XN (a:=m2+gL l[j].thn) (by omega)
    refine ⟨XN (by omega),?_⟩
    rw [XL (by omega),Int.add_assoc,XL (by omega),← h]
    congr 1
    omega
   have r1:=XN (a:=m2+gL l[j].thn) (by omega)
   have full:m2>20000→QO (m2+(gL l[j].thn+gL l[j].els+gL (l.drop (j+1)):Nat))=QO (n+gL l):=fun h=>by
    rw [← h8,← UX h h7.2 (by omega),← UX h h7.2 (by omega)]
   rcases Nat.lt_or_ge a l[j].args.length with ha|ha
   rotate_left 1
   ·have h9:QO (m2+(gL l[j].thn+gL l[j].els+gL (l.drop (j+1)):Nat))=QO (n+gL l):=by
     rw [List.drop_eq_nil_of_le ha,q6o,Nat.zero_add] at h8
     exact h8
    obtain ⟨f1,f2⟩:=fin h9
    conv=>whnf
    repeat' (first|((first|(intro (_:_≤9223372036854775807))|(refine DrawK.auto QQ mixed (by kernel_rfl) ?_)|(refine Wr.i64 (by omega) (by omega) ?_)|(refine CallK.pure (ih l[j].thn (by omega) m2 h7) (.cons (Sub.refl _) (.cons (Sub.refl _) .nil)) ?_;rintro _ rfl)|(refine CallK.pure (ih l[j].els (by omega) _ r1) (.cons (Sub.refl _) (.cons (Sub.refl _) .nil)) ?_;rintro _ rfl));conv=>whnf)|(refine Br.dec (fun _ => ?_) (fun _ => ?_)<;>first|(exfalso;omega)|conv=>whnf))
    all_goals exact ⟨(j+1,QO (QO (m2+gL l[j].thn)+gL l[j].els)),⟨by simp only;omega,f1,f2⟩,by simp only;omega,Le.of_eq rfl⟩
   rw [List.drop_eq_getElem_cons ha,q6o] at h8
   have q5:=XN (a:=m2+gX l[j].args[a].x) (by omega)
   conv=>whnf
   repeat' (first|((first|(intro (_:_≤9223372036854775807))|(refine DrawK.auto QQ mixed (by kernel_rfl) ?_)|(refine IdxK.map (by omega) (fun _=>rfl) ?_)|(refine Wr.i64 (by omega) (by omega) ?_)|(refine CallK.pure (VF (gX l[j].args[a].x+1) l[j].args[a].x (by omega) m2 h7) (.cons (Sub.refl _) (.cons (Sub.refl _) .nil)) ?_;rintro _ rfl)|(refine CallK.pure (QP l[j].args[a].name _ q5) (.cons (Sub.refl _) (.cons (Sub.refl _) .nil)) ?_;rintro _ rfl)|(refine CallK.pure (ih l[j].thn (by omega) m2 h7) (.cons (Sub.refl _) (.cons (Sub.refl _) .nil)) ?_;rintro _ rfl)|(refine CallK.pure (ih l[j].els (by omega) _ r1) (.cons (Sub.refl _) (.cons (Sub.refl _) .nil)) ?_;rintro _ rfl));conv=>whnf)|(refine Br.dec (fun _ => ?_) (fun _ => ?_)<;>first|(exfalso;omega)|conv=>whnf))
   ·have h10:QO (QO (QO (m2+gX l[j].args[a].x)+(1+l[j].args[a].name.length:Nat))+(q6o (l[j].args.drop (a+1))+(gL l[j].thn+gL l[j].els+gL (l.drop (j+1))):Nat))=QO (n+gL l):=by
     rw [XL (by omega),Int.add_assoc,XL (by omega),← h8]
     congr 1
     omega
    exact ⟨(a+1,QO (QO (m2+gX l[j].args[a].x)+(1+l[j].args[a].name.length:Nat))),⟨by simp only;omega,XN (by omega),h10⟩,by simp only;omega,Le.of_eq rfl⟩
   ·obtain ⟨f1,f2⟩:=fin (full (by omega))
    exact ⟨(j+1,QO (QO (m2+gL l[j].thn)+gL l[j].els)),⟨by simp only;omega,f1,f2⟩,by simp only;omega,Le.of_eq rfl⟩
open Go.Proofs
def w1r (p:Pg):Bool:=decide (gPg p≤20000)
theorem w4z {p:Pg} (h:w1r p=true):Fit p:=by
 have:=w7t p
 have h1:gPg p≤20000:=by simpa [w1r] using h
 unfold Fit
 omega
theorem ZN (p:Pg):SpecP Tryz.prog 16 [.agg p.cells] (fun r=>r = .bool (w1r p)):=by
 refine SpecP.body NG QQ Tryz.func16 rfl Tryz.call16 (by show 1≤_;decide) ?_
 conv=>whnf
 have hl:(p.procs.map fun f=>AV.agg f.cells).length=p.procs.length:=List.length_map _
 have q0:=XN (a:=0+BP p.globals) (by omega)
 repeat' (refine CallK.pure (XH p.globals 0 (by omega)) (.cons (Sub.refl _) (.cons (Sub.refl _) .nil)) ?_;rintro _ rfl;conv=>whnf)
 refine LoopK.inv QQ (fun y:Nat×Int=>⟨[(1,.p (.ip p.cells)),(3,.p (.int .i64 y.2)),(4,.p (.int .i64 y.1))],[]⟩) (fun y=>y.1≤p.procs.length∧(0≤y.2∧y.2≤20001)∧QO (y.2+x6g (p.procs.drop y.1))=QO (gPg p:Nat)) (fun y=>p.procs.length-y.1) (0,QO (0+BP p.globals)) (Le.of_eq rfl) ⟨Nat.zero_le _,q0,by
  show QO (QO (0+BP p.globals)+x6g p.procs)=_
  rw [XL (by omega)]
  congr 1
  unfold gPg
  omega⟩ ?_
 rintro ⟨j,m⟩ ⟨h2,h3,h4⟩
 simp only at h2 h3 h4 ⊢
 have last : ∀ {x:Int},0≤x∧x≤20001→QO x=QO (gPg p:Nat)→(decide (x≤20000))=w1r p:=fun {x} hx h=>by
  unfold w1r
  unfold QO at h
  by_cases h1:gPg p≤20000
  ·rw [decide_eq_true h1,decide_eq_true_eq]
   split at h<;>split at h<;>omega
  ·rw [decide_eq_false h1,decide_eq_false_iff_not]
   split at h<;>split at h<;>omega
 rcases Nat.lt_or_ge j p.procs.length with hj|hj
 rotate_left 1
 ·rw [List.drop_eq_nil_of_le hj,x6g] at h4
  conv=>whnf
  repeat' (first|(intro (_:_≤9223372036854775807);conv=>whnf)|(refine Br.dec (fun _ => ?_) (fun _ => ?_)<;>first|(exfalso;omega)|conv=>whnf))
  all_goals exact RetK.bool (last h3 (by rw [← h4];simp))
 rw [List.drop_eq_getElem_cons hj,x6g] at h4
 have hpe:gPr p.procs[j]=1+p.procs[j].name.length+BP p.procs[j].vars+BP p.procs[j].fin+z7j p.procs[j].params+gL p.procs[j].body:=rfl
 have q1:=XN (a:=m+(1+p.procs[j].name.length:Nat)) (by omega)
 have q2:=XN (a:=QO (m+(1+p.procs[j].name.length:Nat))+BP p.procs[j].vars) (by omega)
 have q3:=XN (a:=QO (QO (m+(1+p.procs[j].name.length:Nat))+BP p.procs[j].vars)+BP p.procs[j].fin) (by omega)
 conv=>whnf
 repeat' (first|((first|(intro (_:_≤9223372036854775807))|(refine DrawK.auto QQ mixed (by kernel_rfl) ?_)|(refine And.intro rfl ?_)|(refine IdxK.map (by omega) (fun _=>rfl) ?_)|(refine CallK.pure (QP p.procs[j].name _ h3) (.cons (Sub.refl _) (.cons (Sub.refl _) .nil)) ?_;rintro _ rfl)|(refine CallK.pure (XH p.procs[j].vars _ q1) (.cons (Sub.refl _) (.cons (Sub.refl _) .nil)) ?_;rintro _ rfl)|(refine CallK.pure (XH p.procs[j].fin _ q2) (.cons (Sub.refl _) (.cons (Sub.refl _) .nil)) ?_;rintro _ rfl));conv=>whnf)|(refine Br.dec (fun _ => ?_) (fun _ => ?_)<;>first|(exfalso;omega)|conv=>whnf))
 rotate_left 1
 ·exact RetK.bool (last h3 (by rw [← h4,← UX (by omega) h3.2 (by omega),x1j h3.2]))
 have h5:QO (QO (QO (QO (m+(1+p.procs[j].name.length:Nat))+BP p.procs[j].vars)+BP p.procs[j].fin)+(z7j p.procs[j].params+(gL p.procs[j].body+x6g (p.procs.drop (j+1))):Nat))=QO (gPg p:Nat):=by
  rw [XL (by omega),Int.add_assoc,XL (by omega),Int.add_assoc,XL (by omega),← h4,hpe]
  congr 1
  omega
 generalize QO (QO (QO (m+(1+p.procs[j].name.length:Nat))+BP p.procs[j].vars)+BP p.procs[j].fin)=m0 at q3 h5 ⊢
 have hal:(p.procs[j].params.map fun a=>AV.agg a.cells).length=p.procs[j].params.length:=List.length_map _
 refine LoopK.inv QQ (fun y:Nat×Int=>⟨[(1,.p (.ip p.cells)),(3,.p (.int .i64 y.2)),(4,.p (.int .i64 j)),(5,.p (.ip p.procs[j].cells)),(6,.p (.int .i64 y.1))],[]⟩) (fun y=>y.1≤p.procs[j].params.length∧(0≤y.2∧y.2≤20001)∧QO (y.2+(z7j (p.procs[j].params.drop y.1)+(gL p.procs[j].body+x6g (p.procs.drop (j+1))):Nat))=QO (gPg p:Nat)) (fun y=>p.procs[j].params.length-y.1) (0,m0) (Le.of_eq rfl) ⟨Nat.zero_le _,q3,h5⟩ ?_
 rintro ⟨a,m2⟩ ⟨h6,h7,h8⟩
 simp only at h6 h7 h8 ⊢
 have fin:QO (m2+(gL p.procs[j].body+x6g (p.procs.drop (j+1)):Nat))=QO (gPg p:Nat)→(0≤QO (m2+gL p.procs[j].body)∧QO (m2+gL p.procs[j].body)≤20001)∧QO (QO (m2+gL p.procs[j].body)+x6g (p.procs.drop (j+1)))=QO (gPg p:Nat):=fun h=>by
  refine ⟨XN (by omega),?_⟩
  rw [XL (by omega),← h]
  congr 1
  omega
 have full:m2>20000→QO (m2+(gL p.procs[j].body+x6g (p.procs.drop (j+1)):Nat))=QO (gPg p:Nat):=fun h=>by
  rw [← h8,← UX h h7.2 (by omega),← UX h h7.2 (by omega)]
 rcases Nat.lt_or_ge a p.procs[j].params.length with ha|ha
 rotate_left 1
 ·have h9:QO (m2+(gL p.procs[j].body+x6g (p.procs.drop (j+1)):Nat))=QO (gPg p:Nat):=by
   rw [List.drop_eq_nil_of_le ha,z7j,Nat.zero_add] at h8
   exact h8
  obtain ⟨f1,f2⟩:=fin h9
  conv=>whnf
  repeat' (first|((first|(intro (_:_≤9223372036854775807))|(refine Wr.i64 (by omega) (by omega) ?_)|(refine CallK.pure (WC (gL p.procs[j].body+1) p.procs[j].body (by omega) m2 h7) (.cons (Sub.refl _) (.cons (Sub.refl _) .nil)) ?_;rintro _ rfl));conv=>whnf)|(refine Br.dec (fun _ => ?_) (fun _ => ?_)<;>first|(exfalso;omega)|conv=>whnf))
  all_goals exact ⟨(j+1,QO (m2+gL p.procs[j].body)),⟨by simp only;omega,f1,f2⟩,by simp only;omega,Le.of_eq rfl⟩
 rw [List.drop_eq_getElem_cons ha,z7j] at h8
 conv=>whnf
 repeat' (first|((first|(intro (_:_≤9223372036854775807))|(refine IdxK.map (by omega) (fun _=>rfl) ?_)|(refine Wr.i64 (by omega) (by omega) ?_)|(refine CallK.pure (QP p.procs[j].params[a].name _ h7) (.cons (Sub.refl _) (.cons (Sub.refl _) .nil)) ?_;rintro _ rfl)|(refine CallK.pure (WC (gL p.procs[j].body+1) p.procs[j].body (by omega) m2 h7) (.cons (Sub.refl _) (.cons (Sub.refl _) .nil)) ?_;rintro _ rfl));conv=>whnf)|(refine Br.dec (fun _ => ?_) (fun _ => ?_)<;>first|(exfalso;omega)|conv=>whnf))
 ·have h10:QO (QO (m2+(1+p.procs[j].params[a].name.length:Nat))+(z7j (p.procs[j].params.drop (a+1))+(gL p.procs[j].body+x6g (p.procs.drop (j+1))):Nat))=QO (gPg p:Nat):=by
   rw [XL (by omega),← h8]
   congr 1
   omega
  exact ⟨(a+1,QO (m2+(1+p.procs[j].params[a].name.length:Nat))),⟨by simp only;omega,XN (by omega),h10⟩,by simp only;omega,Le.of_eq rfl⟩
 ·obtain ⟨f1,f2⟩:=fin (full (by omega))
  exact ⟨(j+1,QO (m2+gL p.procs[j].body)),⟨by simp only;omega,f1,f2⟩,by simp only;omega,Le.of_eq rfl⟩
open Go.Proofs
inductive SubE:List AV→List AV→Prop
 | nil:SubE [] []
 | cons {a b:AV} {xs ys:List AV} (h:SubL a.cells b.cells) (hs:SubE xs ys):SubE (a::xs) (b::ys)
theorem SubE.get {xs ys:List AV} (h:SubE xs ys):xs.length=ys.length ∧ ∀ (i:Nat) (b:AV),ys[i]? = some b → ∃ a,xs[i]? = some a∧SubL a.cells b.cells:=by
 induction h with
 | nil=>exact ⟨rfl,by simp⟩
 | cons h hs ih =>
   refine ⟨by simp [ih.1],fun i b hb => ?_⟩
   cases i with
   | zero=>simp at hb;subst hb;exact ⟨_,rfl,h⟩
   | succ i=>exact ih.2 i b (by simpa using hb)
theorem Sub.sl {xs ys:List AV} (h:SubE xs ys):Sub (.sl xs) (.sl ys):=fun σ v hr=>by
 obtain ⟨hl,hg⟩:=h.get
 cases hr with
 | nilsl =>
   obtain rfl:ys=[]:=by simpa using hl.symm
   exact .nilsl
 | slz b =>
   obtain rfl:ys=[]:=by simpa using hl.symm
   exact .slz b
 | sl _ b off cap sz cells u hb hcap hmax hsz hc hrr =>
   rw [hl]
   refine .sl ys b off cap sz cells u hb (by omega) hmax (fun i e hi => ?_) (fun i e j c hi hj => ?_) (fun i e j c hi hj => ?_)
   ·obtain ⟨a,h1,h2⟩:=hg i e hi
    rw [← hsz i a h1,h2.1]
   ·obtain ⟨a,h1,h2⟩:=hg i e hi
    obtain ⟨d,h3,_⟩:=h2.get hj
    exact hc i a j d h1 h3
   ·obtain ⟨a,h1,h2⟩:=hg i e hi
    obtain ⟨d,h3,h4⟩:=h2.get hj
    exact h4 _ _ (hrr i a j d h1 h3)
theorem q2r (n:Int):SpecP Tryz.prog 131 [.int .i64 n] (fun r=>r = .agg (X.mk 1 n [] []).cells):=by
 refine SpecP.body MC QQ Tryz.func131 rfl Tryz.call131 (by show 1≤_;decide) ?_
 conv=>whnf
 repeat' (refine And.intro rfl ?_;conv=>whnf)
 exact ⟨_,.p (Sub.agg (by repeat' (first|exact SubL.nil|refine SubL.cons ?_ ?_|exact Sub.refl _|exact Sub.nils|exact Sub.ff rfl))),rfl⟩
theorem q0g (s:Str):SpecP Tryz.prog 132 [.str s] (fun r=>r = .agg (X.mk 2 0 s []).cells):=by
 refine SpecP.body PT QQ Tryz.func132 rfl Tryz.call132 (by show 1≤_;decide) ?_
 conv=>whnf
 repeat' (refine And.intro rfl ?_;conv=>whnf)
 exact ⟨_,.p (Sub.agg (by repeat' (first|exact SubL.nil|refine SubL.cons ?_ ?_|exact Sub.refl _|exact Sub.nils|exact Sub.ff rfl))),rfl⟩
theorem HW (op:Int) (a b:X):SpecP Tryz.prog 133 [.int .i64 op,.agg a.cells,.agg b.cells] (fun r=>r = .agg (X.mk op 0 [] [a,b]).cells):=by
 refine SpecP.body LW QQ Tryz.func133 rfl Tryz.call133 (by show 3≤_;decide) ?_
 conv=>whnf
 repeat' ((first|(refine And.intro rfl ?_)|(refine And.intro ⟨by decide,by decide⟩ ?_)|(refine BsK.pureL rfl rfl ?_));conv=>whnf)
 have e:X.avs [a,b]=[.agg a.cells,.agg b.cells]:=by simp only [X.avs,X.av_eq]
 exact ⟨_,.p (Sub.agg (SubL.cons (Sub.refl _) (SubL.cons (Sub.refl _) (SubL.cons (Sub.refl _) (SubL.cons (Sub.of_eq (by show _=AV.sl (X.avs [a,b]);rw [e];rfl)) SubL.nil))))),rfl⟩
def bs (l:List Nat):Str:=l.map fun n=>UInt8.ofNat n
def someP:Pg:=⟨[[103]],[
 ⟨[109,97,105,110],[],[[118]],[
   .mk 1 1 [] [118] [] (.mk 1 2 [] []) false [] [] [],
   .mk 2 4 [] [103] [112] (.mk 0 0 [] []) false [⟨false,[],.mk 1 3 [] []⟩,⟨true,[118],.mk 0 0 [] []⟩] [] [],
   .mk 3 3 [] [] [] (.mk 2 0 [118] []) false [] [] [],
   .mk 4 3 [] [] [] (.mk 2 0 [103] []) false [] [] []],[]⟩,
 ⟨[112],[⟨[120],false⟩,⟨[121],true⟩],[],[
   .mk 5 1 [] [121] [] (.mk 8 0 [] [.mk 2 0 [121] [],.mk 2 0 [120] []]) false [] [] [],
   .mk 6 5 [] [] [] (.mk 12 0 [] [.mk 2 0 [121] [],.mk 1 9 [] []]) false [] [.mk 7 10 [] [101] [] (.mk 0 0 [] []) false [] [] []] [],
   .mk 8 9 [] [] [] (.mk 2 0 [121] []) true [] [] []],[[101]]⟩]⟩
theorem q0k:SpecP Tryz.prog 74 [] (fun r=>r = .agg someP.cells):=by
 refine SpecP.body BS QQ Tryz.func74 rfl Tryz.call74 (by show 0≤_;decide) ?_
 conv=>whnf
 repeat' ((first|(refine CallK.pure (q2r _) (by repeat' (first|exact ArgP.nil|refine ArgP.cons ?_ ?_|exact Sub.refl _|exact Sub.tt rfl|exact Sub.ff rfl)) ?_;rintro _ rfl)|(refine CallK.pure (q0g _) (by repeat' (first|exact ArgP.nil|refine ArgP.cons ?_ ?_|exact Sub.refl _|exact Sub.tt rfl|exact Sub.ff rfl)) ?_;rintro _ rfl)|(refine And.intro rfl ?_)|(refine And.intro ⟨by decide,by decide⟩ ?_)|(refine BsK.pure (fun x hx=>by rcases List.mem_singleton.1 hx with rfl;rfl) rfl ?_)|(refine BsK.pureL rfl rfl ?_)|(refine CallK.pure (HW 8 (.mk 2 0 [121] []) (.mk 2 0 [120] [])) (.cons (Sub.refl _) (.cons (Sub.refl _) (.cons (Sub.refl _) .nil))) ?_;rintro _ rfl)|(refine CallK.pure (HW 12 (.mk 2 0 [121] []) (.mk 1 9 [] [])) (.cons (Sub.refl _) (.cons (Sub.refl _) (.cons (Sub.refl _) .nil))) ?_;rintro _ rfl));conv=>whnf)
 exact ⟨_,.p (Sub.agg (by repeat' (first|exact SubL.nil|exact SubE.nil|exact Sub.nils|exact Sub.ff rfl|exact Sub.tt rfl|refine SubL.cons ?_ ?_|refine SubE.cons ?_ ?_|exact Sub.refl _|refine Sub.agg ?_|refine Sub.sl ?_))),rfl⟩
open Go.Proofs
theorem q9o:Fit someP:=by unfold Fit;decide
theorem q3h:ZV someP=true:=by kernel_rfl
def f0:Pr:=someP.procs[0]'(by decide)
def f1:Pr:=someP.procs[1]'(by decide)
theorem w7x:WZ (QK someP 0 f0)=[⟨0,1,1⟩,⟨1,2,1⟩,⟨2,3,1⟩,⟨3,4,1⟩,⟨4,-1,1⟩]:=by
 have h1:QK someP 0 f0=[⟨0,1,1⟩,⟨1,2,1⟩,⟨2,3,1⟩,⟨3,4,1⟩,⟨4,-1,1⟩]:=by kernel_rfl
 unfold WZ UD
 rw [h1,List.mergeSort_of_pairwise (by decide)]
 rfl
theorem w7n:WZ (QK someP 1 f1)=[⟨0,5,1⟩,⟨5,6,1⟩,⟨6,7,1⟩,⟨6,8,1⟩,⟨7,-1,1⟩,⟨8,-1,1⟩]:=by
 have h1:QK someP 1 f1=[⟨0,5,1⟩,⟨5,6,1⟩,⟨6,7,1⟩,⟨6,8,1⟩,⟨7,-1,1⟩,⟨8,-1,1⟩]:=by kernel_rfl
 unfold WZ UD
 rw [h1,List.mergeSort_of_pairwise (by decide)]
 rfl
theorem x7i:BB someP [112]=some (QX someP 1 f1):=by
 unfold BB
 rw [q3h]
 rfl
open Go.Proofs
open Go.Proofs
open Go.Proofs
theorem z3l {p:Pg} (h:ZV p=true):p.procs.length≤20000:=by have:=(FH h).2.1;omega
open Go.Proofs
theorem z1b : ∀ (k:Nat) (l:List S) (_:QY l<k) (_:QY l≤1000000),SpecP Tryz.prog 80 [eSs l] (fun r=>r = .int .i64 (QY l)):=by
 intro k
 induction k with
 | zero=>intro l h;omega
 | succ k ih =>
   intro l hk hl
   have hll:=S.avs_len l
   have hlc:l.length≤QY l:=by
    clear hk hl hll
    induction l with
    | nil=>simp
    | cons t r ihr=>rw [QY,WH,List.length_cons];omega
   refine SpecP.body x2e QQ Tryz.func80 rfl Tryz.call80 (by show 1≤_;decide) ?_
   conv=>whnf
   repeat' (intro (_:_≤9223372036854775807);conv=>whnf)
   refine LoopK.inv QQ (fun y:Nat×Nat=>⟨[(0,.p (eSs l)),(3,.p (.int .i64 y.2)),(8,.p (.int .i64 (S.avs l).length)),(9,.p (.int .i64 y.1))],[]⟩) (fun y=>y.1≤l.length∧y.2+QY (l.drop y.1)=QY l+(l.length-y.1)) (fun y=>l.length-y.1) (0,l.length) (Le.of_eq (by simp only [S.avs_len];rfl)) ⟨Nat.zero_le _,by simp;omega⟩ ?_
   rintro ⟨j,n⟩ ⟨h2,h3⟩
   simp only at h2 h3 ⊢
   rcases Nat.lt_or_ge j l.length with hj|hj
   ·have hst:=MB hj
    have hcs:=WH l[j]
    have h4:QY (l.drop j)≤QY l:=by
     have : ∀ (l:List S) (j:Nat),QY (l.drop j)≤QY l:=fun l=>by
      induction l with
      | nil=>intro j;simp
      | cons t r ihr =>
        intro j
        cases j with
        | zero=>simp
        | succ j=>rw [List.drop_succ_cons,QY];have:=ihr j;omega
     exact this l j
    conv=>whnf
    repeat' (first|((first|(refine DrawK.auto QQ mixed (by kernel_rfl) ?_)|(refine IdxK.ss (by omega) ?_)|(refine Wr.i64 (by omega) (by omega) ?_)|(refine CallK.pure (ih l[j].thn (by omega) (by omega)) (.cons (Sub.refl _) .nil) ?_;rintro _ rfl)|(refine CallK.pure (ih l[j].els (by omega) (by omega)) (.cons (Sub.refl _) .nil) ?_;rintro _ rfl));conv=>whnf)|(refine Br.dec (fun _ => ?_) (fun _ => ?_)<;>first|(exfalso;omega)|conv=>whnf))
    all_goals exact ⟨(j+1,n+(QY l[j].thn+QY l[j].els)),⟨by simp only;omega,by simp only;omega⟩,by simp only;omega,Le.of_eq rfl⟩
   ·conv=>whnf
    rw [List.drop_eq_nil_of_le hj,QY] at h3
    repeat' (refine Br.dec (fun _ => ?_) (fun _ => ?_)<;>first|(exfalso;omega)|conv=>whnf)
    exact RetK.int (by omega)
theorem z0b (p:Pg) (hc:cntP p.procs≤1000):SpecP Tryz.prog 18 [.agg p.cells] (fun r=>r = .int .i64 (cntP p.procs)):=by
 refine SpecP.body x3k QQ Tryz.func18 rfl Tryz.call18 (by show 1≤_;decide) ?_
 conv=>whnf
 have hl2:(p.procs.map fun f=>AV.agg f.cells).length=p.procs.length:=List.length_map _
 repeat' (intro (_:_≤9223372036854775807);conv=>whnf)
 refine LoopK.inv QQ (fun y:Nat×Nat=>⟨[(3,.p (.int .i64 y.2)),(7,.p (.sl (p.procs.map fun f => .agg f.cells))),(8,.p (.int .i64 (p.procs.map fun f=>AV.agg f.cells).length)),(9,.p (.int .i64 y.1))],[]⟩) (fun y=>y.1≤p.procs.length∧y.2+cntP (p.procs.drop y.1)=cntP p.procs) (fun y=>p.procs.length-y.1) (0,0) (Le.of_eq rfl) ⟨Nat.zero_le _,by simp⟩ ?_
 rintro ⟨j,n⟩ ⟨h2,h3⟩
 simp only at h2 h3 ⊢
 rcases Nat.lt_or_ge j p.procs.length with hj|hj
 ·have hst:=q5f hj
  have hcm:=DG _ _ (List.getElem_mem hj)
  conv=>whnf
  repeat' (first|((first|(refine And.intro rfl ?_)|(refine IdxK.map (by omega) (fun _=>rfl) ?_)|(refine Wr.i64 (by omega) (by omega) ?_)|(refine CallK.pure (z1b (QY p.procs[j].body+1) p.procs[j].body (by omega) (by omega)) (.cons (Sub.refl _) .nil) ?_;rintro _ rfl));conv=>whnf)|(refine Br.dec (fun _ => ?_) (fun _ => ?_)<;>first|(exfalso;omega)|conv=>whnf))
  exact ⟨(j+1,n+QY p.procs[j].body),⟨by simp only;omega,by simp only;omega⟩,by simp only;omega,Le.of_eq rfl⟩
 ·conv=>whnf
  rw [List.drop_eq_nil_of_le hj,cntP] at h3
  repeat' (refine Br.dec (fun _ => ?_) (fun _ => ?_)<;>first|(exfalso;omega)|conv=>whnf)
  exact RetK.int (by omega)
def x2w (p:Pg) (most:Int):Bool:=ZV p&&decide ((cntP p.procs:Int)≤most)
open Go.Proofs
def frR (steps:List Step) (at_:Int) (but:List Int) (a b:Int):Prop:=(a=at_∨x2d but a=false) ∧ ∃ s∈steps,s.src=a∧s.dst=b
structure FrI (steps:List Step) (at_:Int) (but:List Int) (n:Nat) (l:List Int):Prop where
 le:n≤l.length
 hd:l[0]? = some at_
 nd:l.Nodup
 sub : ∀ x∈l,x∈at_::steps.map Step.dst
 snd : ∀ x∈l,Rch (frR steps at_ but) at_ x
 cl : ∀ (m:Nat) (a:Int),m<n→l[m]? = some a → ∀ b,frR steps at_ but a b→b∈l
theorem FrI.len {steps:List Step} {at_:Int} {but:List Int} {n:Nat} {l:List Int} (h:FrI steps at_ but n l):l.length≤steps.length+1:=by
 have:=YX h.nd h.sub
 simpa using this
theorem FrI.start (steps:List Step) (at_:Int) (but:List Int):FrI steps at_ but 0 [at_]:=⟨Nat.zero_le _,rfl,by simp,by simp,fun x hx=>by rw [List.mem_singleton.1 hx];exact .refl,fun m a hm=>by omega⟩
theorem FrI.add {steps:List Step} {at_:Int} {but:List Int} {n:Nat} {l:List Int} (h:FrI steps at_ but n l) {a b:Int} (ha:a∈l) (hb:frR steps at_ but a b) (hn:x2d l b=false):FrI steps at_ but n (l++[b]):=by
 have hnm:b∉l:=fun hm=>by rw [q2i.2 hm] at hn;cases hn
 have h0:0<l.length:=(List.getElem?_eq_some_iff.1 h.hd).1
 refine ⟨by rw [List.length_append];have:=h.le;omega,by rw [List.getElem?_append_left h0];exact h.hd,?_,fun x hx => ?_,fun x hx => ?_,fun m c hm hc d hd => ?_⟩
 ·rw [List.nodup_append]
  refine ⟨h.nd,by simp,fun x hx y hy => ?_⟩
  rw [List.mem_singleton.1 hy]
  exact fun e=>hnm (e▸hx)
 ·rcases List.mem_append.1 hx with hx|hx
  ·exact h.sub x hx
  ·rw [List.mem_singleton.1 hx]
   obtain ⟨_,s,hs,_,h2⟩:=hb
   exact List.mem_cons_of_mem _ (List.mem_map.2 ⟨s,hs,h2⟩)
 ·rcases List.mem_append.1 hx with hx|hx
  ·exact h.snd x hx
  ·rw [List.mem_singleton.1 hx]
   exact .tail (h.snd a ha) hb
 ·rcases Nat.lt_or_ge m l.length with hml|hml
  ·rw [List.getElem?_append_left hml] at hc
   exact List.mem_append.2 (.inl (h.cl m c hm hc d hd))
  ·have:=h.le
   omega
theorem FrI.fin {steps:List Step} {at_:Int} {but:List Int} {l:List Int} (h:FrI steps at_ but l.length l) (x:Int):x∈l↔Rch (frR steps at_ but) at_ x:=by
 refine ⟨h.snd x,fun hr=>hr.closed (S:=fun x=>x∈l) (fun a b ha hb => ?_) (List.mem_of_getElem? h.hd)⟩
 obtain ⟨m,hm⟩:=List.mem_iff_getElem?.1 ha
 exact h.cl m a (List.getElem?_eq_some_iff.1 hm).1 hm b hb
theorem FrI.next {steps:List Step} {at_:Int} {but:List Int} {n:Nat} {l:List Int} (h:FrI steps at_ but n l) (hn:n<l.length) (hc : ∀ b,frR steps at_ but l[n] b→b∈l):FrI steps at_ but (n+1) l:=by
 refine ⟨hn,h.hd,h.nd,h.sub,h.snd,fun m a hm ha b hb => ?_⟩
 rcases Nat.lt_or_ge m n with hmn|hmn
 ·exact h.cl m a hmn ha b hb
 ·obtain rfl:m=n:=by omega
  rw [List.getElem?_eq_getElem hn] at ha
  cases ha
  exact hc b hb
def w6j (steps:List Step) (at_:Int) (but:List Int) (r:AV):Prop := ∃ es,r=XG es∧(∀ x,x∈es↔Rch (frR steps at_ but) at_ x)∧es.Nodup
theorem NM (steps:List Step) (at_:Int) (but:List Int) (hlen:steps.length≤1000000):SpecP Tryz.prog 71 [VC steps,.int .i64 at_,XG but] (fun r=>w6j steps at_ but r):=by
 refine SpecP.body BY QQ Tryz.func71 rfl Tryz.call71 (by show 3≤_;decide) ?_
 conv=>whnf
 have hsl:(steps.map fun s=>AV.agg s.cells).length=steps.length:=List.length_map _
 repeat' ((first|(refine And.intro rfl ?_)|(refine And.intro ⟨by decide,by decide⟩ ?_)|(refine BsK.own (fun x hx=>by rcases List.mem_singleton.1 hx with rfl;rfl) rfl ?_));conv=>whnf)
 refine LoopK.inv QQ (fun x:Nat×List Int=>⟨[(0,.p (VC steps)),(2,.p (XG but)),(7,.hd 0 0 x.2.length),(8,.p (.int .i64 x.1))],[(0,.own 3 1 (x.2.map (.int .i64)))]⟩) (fun x=>x.1≤x.2.length∧FrI steps at_ but x.1 x.2) (fun x=>steps.length+2-x.1) (0,[at_]) (Le.of_eq rfl) ⟨Nat.zero_le _,FrI.start _ _ _⟩ ?_
 rintro ⟨n,l⟩ ⟨h1,h2⟩
 simp only at h1 h2 ⊢
 have hll:=h2.len
 rcases Nat.lt_or_ge n l.length with hn|hn
 rotate_left 1
 ·conv=>whnf
  repeat' (first|(intro (_:_≤9223372036854775807);conv=>whnf)|(refine Br.dec (fun _ => ?_) (fun _ => ?_)<;>first|(exfalso;omega)|conv=>whnf))
  have hnl:n=l.length:=by have:=h2.le;omega
  subst hnl
  exact ⟨_,.hd rfl (by simp),l,rfl,h2.fin,h2.nd⟩
 conv=>whnf
 repeat' (first|((first|(intro (_:_≤9223372036854775807))|(refine And.intro rfl ?_)|(refine Wr.i64 (by omega) (by omega) ?_)|(refine IdxL.mk n (by omega) (by omega) ?_)|(refine LdOwn.mk n 0 (.int .i64 l[n]) (by omega) (by simp [hn]) ?_)|(refine CallK.pure (VP but l[n]) (.cons (Sub.refl _) (.cons (Sub.refl _) .nil)) ?_;rintro _ rfl));conv=>whnf)|(refine Br.dec (fun _ => ?_) (fun _ => ?_)<;>first|(exfalso;omega)|conv=>whnf)|(refine Br.b (fun _ => ?_) (fun _ => ?_)<;>conv=>whnf))
 ·have hb:x2d but l[n]=true:=by assumption
  have hn0:0<n:=by omega
  refine ⟨(n+1,l),⟨hn,h2.next hn fun b ⟨h3,_⟩ => ?_⟩,by simp only;omega,Le.of_eq rfl⟩
  rcases h3 with h3|h3
  ·have h4:l[0]? = l[n]? := by rw [h2.hd,List.getElem?_eq_getElem hn,h3]
   have:=(List.getElem?_inj (by omega) h2.nd).1 h4
   omega
  ·rw [hb] at h3;cases h3
 all_goals
  have hcan:l[n]=at_∨x2d but l[n]=false:=by
   first
    | exact .inr (by assumption)
    | (left
       have h5:n=0:=by omega
       have h6:=h2.hd
       subst h5
       rw [List.getElem?_eq_getElem hn] at h6
       exact Option.some.inj h6)
  refine LoopK.inv QQ (fun x:Nat×List Int=>⟨[(0,.p (VC steps)),(2,.p (XG but)),(7,.hd 0 0 x.2.length),(8,.p (.int .i64 n)),(29,.p (VC steps)),(30,.p (.int .i64 (steps.map fun s=>AV.agg s.cells).length)),(31,.p (.int .i64 x.1))],[(0,.own 3 1 (x.2.map (.int .i64)))]⟩) (fun x=>x.1≤steps.length∧l <+: x.2∧FrI steps at_ but n x.2 ∧ ∀ s∈steps.take x.1,s.src=l[n]→s.dst∈x.2) (fun x=>steps.length-x.1) (0,l) (Le.of_eq rfl) ⟨Nat.zero_le _,List.prefix_refl _,h2,by simp⟩ ?_
  rintro ⟨y,o⟩ ⟨h3,h4,h5,h6⟩
  simp only at h3 h4 h5 h6 ⊢
  have hno:n<o.length:=Nat.lt_of_lt_of_le hn h4.length_le
  have hon:o[n]=l[n]:=by
   have:=q1v h4 (List.getElem?_eq_getElem hn)
   rw [List.getElem?_eq_getElem hno] at this
   exact Option.some.inj this
  have hol:=h5.len
  have hom:(o.map (AV.int .i64)).length=o.length:=List.length_map _
  rcases Nat.lt_or_ge y steps.length with hy|hy
  ·have htk:=List.take_succ_eq_append_getElem hy
   conv=>whnf
   repeat' (first|((first|(refine DrawK.auto QQ mixed (by kernel_rfl) ?_)|(refine And.intro rfl ?_)|(refine And.intro ⟨by decide,by decide⟩ ?_)|(refine BsK.pure (fun x hx=>by rcases List.mem_singleton.1 hx with rfl;rfl) rfl ?_)|(refine IdxK.map (by omega) (fun _=>rfl) ?_)|(refine Wr.i64 (by omega) (by omega) ?_)|(refine IdxL.mk n (by omega) (by omega) ?_)|(refine LdOwn.mk n 0 (.int .i64 o[n]) (by omega) (by simp [hno]) ?_)|(refine CallK.borrow (VP o steps[y].dst) (.cons (.hd rfl hom.symm) (.cons (.p (Sub.refl _)) .nil)) (by rintro _ rfl;rfl) ?_;rintro _ rfl)|(refine AppK.int1 (by simp) (by simp;omega) ?_));conv=>whnf)|(refine Br.dec (fun _ => ?_) (fun _ => ?_)<;>first|(exfalso;omega)|conv=>whnf)|(refine Br.n (fun _ => ?_) (fun _ => ?_)<;>conv=>whnf))
   all_goals first
    | exact ⟨(y+1,o++[steps[y].dst]),⟨hy,h4.trans (List.prefix_append _ _),h5.add (List.getElem_mem hno) ⟨by rw [hon];exact hcan,steps[y],List.getElem_mem hy,by assumption,rfl⟩ (by assumption),fun s hs he=>by
       rw [htk] at hs
       rcases List.mem_append.1 hs with hs|hs
       ·exact List.mem_append.2 (.inl (h6 s hs he))
       ·rw [List.mem_singleton.1 hs]
        exact List.mem_append.2 (.inr (List.mem_singleton.2 rfl))⟩,by simp only;omega,Le.of_eq (by simp only [List.length_append,List.map_append];rfl)⟩
    | exact ⟨(y+1,o),⟨hy,h4,h5,fun s hs he=>by
       rw [htk] at hs
       rcases List.mem_append.1 hs with hs|hs
       ·exact h6 s hs he
       ·rw [List.mem_singleton.1 hs] at he ⊢
        first
         | exact q2i.1 (by assumption)
         | (exfalso
            have hne : ¬steps[y].src=o[n]:=by assumption
            exact hne (he.trans hon.symm))⟩,by simp only;omega,Le.of_eq rfl⟩
  ·rw [List.take_of_length_le hy] at h6
   conv=>whnf
   repeat' (first|(refine Wr.i64 (by omega) (by omega) ?_;conv=>whnf)|(refine Br.dec (fun _ => ?_) (fun _ => ?_)<;>first|(exfalso;omega)|conv=>whnf))
   exact ⟨(n+1,o),⟨hno,h5.next hno fun b ⟨_,s,hs,h7,h8⟩=>h8▸h6 s hs (by rw [h7,hon])⟩,by simp only;omega,Le.of_eq rfl⟩
open Go.Proofs
theorem x5t {l:List Str} {x:Str}:inS l x=true↔x∈l:=by
 unfold inS
 rw [List.any_eq_true]
 constructor
 ·rintro ⟨y,h1,h2⟩
  have:y=x:=by simpa using h2
  rw [← this]
  exact h1
 ·intro h
  exact ⟨x,h,by simp⟩
theorem q3w {p:Pg} (h:ZV p=true) {j:Nat} {f:Pr} (hj:p.procs[j]? = some f) {a:Int} (h1:(QL p.procs j:Int)+1≤a) (h2:a≤(QL p.procs j+QY f.body:Nat)) : ∃ t∈flL f.body,w3k p a=some t∧t.id=a:=by
 obtain ⟨it,h3,h4⟩:=q5b hj (k:=(a-1).toNat) (by omega) (by omega)
 refine ⟨it.s,q3c h4,by unfold w3k;rw [h3];rfl,?_⟩
 obtain ⟨_,_,_,hlen,hsp⟩:=QG p
 obtain ⟨_,_,hle,hd⟩:=hsp j f hj
 have hids:=z2o (XZ h).1 hj
 have h5:(itsOf p j f)[(a-1).toNat-QL p.procs j]? = some it:=by
  unfold itsOf
  rw [← hd,List.getElem?_drop,List.getElem?_take,if_pos (by omega),show QL p.procs j+((a-1).toNat-QL p.procs j)=(a-1).toNat by omega]
  exact h3
 have h6:((itsOf p j f).map fun it=>it.s.id)[(a-1).toNat-QL p.procs j]? = some it.s.id:=by rw [List.getElem?_map,h5];rfl
 rw [hids] at h6
 unfold YC at h6
 rw [List.getElem?_map,List.getElem?_range' (by omega)] at h6
 simp at h6
 omega
open Go.Proofs
structure NoGo (sh:Sheet) (f:Pr) (lo hi:Nat) (T:Int→Prop):Prop where
 cl : ∀ (k:Nat) (it:Item),lo≤k→k<hi→sh.l[k]? = some it→T it.s.id→it.s.kind≠10 ∧ ∀ y∈goesI sh f it,T y
 id : ∀ (k:Nat) (it:Item),lo≤k→k<hi→sh.l[k]? = some it→it.s.id=(k:Int)+1
 ld : ∀ (k:Nat) (it:Item),lo≤k→k<hi→sh.l[k]? = some it→it.s.kind=7∨it.s.kind=8→it.loop≠0
 lp : ∀ (k:Nat) (it:Item),lo≤k→k<hi→sh.l[k]? = some it→it.loop=0 ∨ ∃ u,sh.l[(it.loop-1).toNat]? = some u
def w3e (sh:Sheet) (T:Int→Prop) (nx lp:Int):Prop:=T nx∨T (-1)∨(lp≠0∧(T lp ∨ ∃ u,sh.l[(lp-1).toNat]? = some u∧T u.next))
def atP (sh:Sheet) (n:Nat) (l:List Item):Prop := ∀ (i:Nat) (it:Item),l[i]? = some it→sh.l[n+i]? = some it
theorem atP.left {sh:Sheet} {n:Nat} {a b:List Item} (h:atP sh n (a++b)):atP sh n a:=fun i it hi=>h i it (by
 rw [List.getElem?_append_left (List.getElem?_eq_some_iff.1 hi).1]
 exact hi)
theorem atP.right {sh:Sheet} {n:Nat} {a b:List Item} (h:atP sh n (a++b)):atP sh (n+a.length) b:=fun i it hi=>by
 rw [Nat.add_assoc]
 exact h (a.length+i) it (by rw [List.getElem?_append_right (by omega),Nat.add_sub_cancel_left];exact hi)
theorem w4y (proc up nx lp:Int) (n:Nat) (v:S) (r:List S) : ∃ it∈itL proc up nx lp n (v::r),it.s=v:=by
 rw [itL,w1u]
 exact ⟨_,List.mem_append.2 (.inl List.mem_cons_self),rfl⟩
mutual
theorem w9q {sh:Sheet} {f:Pr} {lo hi:Nat} {T:Int→Prop} (hT:NoGo sh f lo hi T) (proc:Int) : ∀ (t:S) (up nx lp:Int) (n:Nat),atP sh n (itS proc up nx lp n t)→lo≤n→n+XO t≤hi→(∃ it∈itS proc up nx lp n t,T it.s.id)→w3e sh T nx lp
 | .mk id kind labels name pr x has args thn els,up,nx,lp,n,hp,h1,h2,h3=>by
   rw [itS] at hp h3
   rw [XO] at h2
   have hself:sh.l[n]? = some ⟨.mk id kind labels name pr x has args thn els,proc,up,nx,lp⟩:=hp 0 _ rfl
   have hcl:=hT.cl n _ h1 (by omega) hself
   have hid:=hT.id n _ h1 (by omega) hself
   have hld:=hT.ld n _ h1 (by omega) hself
   have hlp:=hT.lp n _ h1 (by omega) hself
   have hp1:atP sh (n+1) (itL proc (n+1) (if kind=6 then n+1 else nx) (if kind=6 then n+1 else lp) (n+1) thn++itL proc (n+1) (if kind=6 then n+1 else nx) (if kind=6 then n+1 else lp) (n+1+QY thn) els):=fun i it hi=>by
    have:=hp (i+1) it (by simpa using hi)
    rwa [show n+(i+1)=n+1+i by omega] at this
   have hw:kind=6→T ((n:Int)+1)→T nx:=fun hk h=>by
    have h5:T (S.mk id kind labels name pr x has args thn els).id:=by
     rw [show (S.mk id kind labels name pr x has args thn els).id=(n:Int)+1 from hid]
     exact h
    refine (hcl h5).2 nx ?_
    unfold goesI
    rw [if_neg (by show ¬kind=5;omega),if_pos (by exact hk)]
    simp
   have hin:w3e sh T (if kind=6 then ((n:Int)+1) else nx) (if kind=6 then ((n:Int)+1) else lp)→w3e sh T nx lp:=fun h=>by
    by_cases hk:kind=6
    ·rw [if_pos hk,if_pos hk] at h
     rcases h with h|h|⟨_,h|⟨u,hu,h⟩⟩
     ·exact .inl (hw hk h)
     ·exact .inr (.inl h)
     ·exact .inl (hw hk h)
     ·rw [show ((n:Int)+1-1).toNat=n by omega,hself] at hu
      cases hu
      exact .inl h
    ·rw [if_neg hk,if_neg hk] at h
     exact h
   have hthn:(∃ it∈itL proc (n+1) (if kind=6 then n+1 else nx) (if kind=6 then n+1 else lp) (n+1) thn,T it.s.id)→w3e sh T nx lp:=fun h =>
    hin (w5n hT proc thn _ _ _ (n+1) hp1.left (by omega) (by omega) h)
   obtain ⟨it,hit,hti⟩:=h3
   rcases List.mem_cons.1 hit with rfl|hit
   ·obtain ⟨hk10,hgo⟩:=hcl hti
    have hk10:kind≠10:=hk10
    by_cases hk5:kind=5
    ·cases thn with
     | nil =>
       refine .inl (hgo nx ?_)
       unfold goesI
       rw [if_pos (by exact hk5)]
       simp [x4f,S.thn]
     | cons v r =>
       have:T v.id:=by
        refine hgo v.id ?_
        unfold goesI
        rw [if_pos (by exact hk5)]
        simp [x4f,S.thn]
       obtain ⟨iv,h5,h6⟩:=w4y proc (n+1) (if kind=6 then n+1 else nx) (if kind=6 then n+1 else lp) (n+1) v r
       exact hthn ⟨iv,h5,by rw [h6];exact this⟩
    by_cases hk6:kind=6
    ·refine .inl (hw hk6 ?_)
     rw [← show (S.mk id kind labels name pr x has args thn els).id=(n:Int)+1 from hid]
     exact hti
    by_cases hk7:kind=7
    ·have hl0:=hld (.inl hk7)
     rcases hlp with h5|⟨u,hu⟩
     ·exact absurd h5 hl0
     ·refine .inr (.inr ⟨hl0,.inr ⟨u,hu,hgo _ ?_⟩⟩)
      unfold goesI
      rw [if_neg (by exact hk5),if_neg (by exact hk6),if_pos (by exact hk7)]
      simp only at hu
      rw [hu]
      simp
    by_cases hk8:kind=8
    ·refine .inr (.inr ⟨hld (.inr hk8),.inl (hgo _ ?_)⟩)
     unfold goesI
     rw [if_neg (by exact hk5),if_neg (by exact hk6),if_neg (by exact hk7),if_pos (by exact hk8)]
     simp
    by_cases hk9:kind=9
    ·refine .inr (.inl (hgo _ ?_))
     unfold goesI
     rw [if_neg (by exact hk5),if_neg (by exact hk6),if_neg (by exact hk7),if_neg (by exact hk8),if_pos (by exact hk9)]
     simp
    ·refine .inl (hgo _ ?_)
     unfold goesI
     rw [if_neg (by exact hk5),if_neg (by exact hk6),if_neg (by exact hk7),if_neg (by exact hk8),if_neg (by exact hk9),if_neg (by exact hk10)]
     simp
   ·rcases List.mem_append.1 hit with hit|hit
    ·exact hthn ⟨it,hit,hti⟩
    ·have hp2:=hp1.right
     rw [XA] at hp2
     exact hin (w5n hT proc els _ _ _ (n+1+QY thn) hp2 (by omega) (by omega) ⟨it,hit,hti⟩)
theorem w5n {sh:Sheet} {f:Pr} {lo hi:Nat} {T:Int→Prop} (hT:NoGo sh f lo hi T) (proc:Int) : ∀ (l:List S) (up nx lp:Int) (n:Nat),atP sh n (itL proc up nx lp n l)→lo≤n→n+QY l≤hi→(∃ it∈itL proc up nx lp n l,T it.s.id)→w3e sh T nx lp
 | [],up,nx,lp,n,hp,h1,h2,h3=>by
   rw [itL] at h3
   obtain ⟨it,hit,_⟩:=h3
   cases hit
 | t::r,up,nx,lp,n,hp,h1,h2,h3=>by
   rw [itL] at hp h3
   rw [QY] at h2
   have hp2:=hp.right
   rw [x7h] at hp2
   have hr:(∃ it∈itL proc up nx lp (n+XO t) r,T it.s.id)→w3e sh T nx lp:=fun h=>w5n hT proc r up nx lp (n+XO t) hp2 (by omega) (by omega) h
   obtain ⟨it,hit,hti⟩:=h3
   rcases List.mem_append.1 hit with hit|hit
   ·have h5:=w9q hT proc t up _ lp n hp.left h1 (by omega) ⟨it,hit,hti⟩
    cases r with
    | nil=>exact h5
    | cons v r =>
      rcases h5 with h5|h5
      ·refine hr ?_
       obtain ⟨iv,h6,h7⟩ : ∃ iv,(itL proc up nx lp (n+XO t) (v::r))[0]? = some iv∧iv.s=v:=by
        rw [itL,w1u]
        exact ⟨_,rfl,rfl⟩
       have h8:=hp2 0 iv h6
       have h9:=hT.id (n+XO t) iv (by omega) (by
        rw [QY] at h2
        have:1≤XO v:=by cases v;rw [XO];omega
        omega) h8
       refine ⟨iv,List.mem_of_getElem? h6,?_⟩
       rw [h9]
       simp only [List.isEmpty_cons] at h5
       have e:((n+XO t:Nat):Int)+1=(n:Int)+1+XO t:=by omega
       rw [e]
       exact h5
      ·exact .inr h5
   ·exact hr ⟨it,hit,hti⟩
end
open Go.Proofs
theorem z9d {p:Pg} (h:ZV p=true) {j:Nat} {f:Pr} (hj:p.procs[j]? = some f) {k:Nat} {it:Item} (h1:QL p.procs j≤k) (h2:k<QL p.procs j+QY f.body) (hk:(sheetOf p).l[k]? = some it):it.s.id=(k:Int)+1:=by
 obtain ⟨t,_,h4,h5⟩:=q3w h hj (a:=(k:Int)+1) (by omega) (by omega)
 unfold w3k at h4
 rw [show ((k:Int)+1-1).toNat=k by omega,hk] at h4
 cases h4
 exact h5
theorem w4f {p:Pg} {j:Nat} {f:Pr} {it:Item} (hi:it∈itsOf p j f) {y:Int} (hy:y∈goesI (sheetOf p) f it):(⟨it.s.id,y,1⟩:Step)∈QK p j f:=by
 unfold QK
 exact List.mem_cons_of_mem _ (List.mem_flatMap.2 ⟨it,hi,List.mem_map.2 ⟨y,hy,rfl⟩⟩)
theorem z5y {p:Pg} (h:ZV p=true) {j:Nat} {f:Pr} (hj:p.procs[j]? = some f) {T:Int→Prop} (hcl : ∀ a b,T a→stR (QX p j f).real a b→T b) (hgo : ∀ t∈flL f.body,T t.id→t.kind≠10) {t:S} (ht:t∈flL f.body) (hT:T t.id):T (-1):=by
 obtain ⟨hm,hs,_,hjm,_⟩:=XZ h
 have hld:=BH hs hjm hj
 obtain ⟨_,_,_,hlen,hsp⟩:=QG p
 obtain ⟨_,_,hle,hd⟩:=hsp j f hj
 have hits : ∀ (k:Nat) (it:Item),QL p.procs j≤k→k<QL p.procs j+QY f.body→(sheetOf p).l[k]? = some it→it∈itsOf p j f:=fun k it h1 h2 hk=>by
  obtain ⟨it',h3,h4⟩:=q5b hj h1 h2
  rw [hk] at h3
  cases h3
  exact h4
 have hn:NoGo (sheetOf p) f (QL p.procs j) (QL p.procs j+QY f.body) T:=by
  refine ⟨fun k it h1 h2 hk hT => ?_,fun k it h1 h2 hk=>z9d h hj h1 h2 hk,fun k it h1 h2 hk hkd => ?_,fun k it h1 h2 hk => ?_⟩
  ·have hi:=hits k it h1 h2 hk
   exact ⟨hgo _ (q3c hi) hT,fun y hy=>hcl _ _ hT ⟨⟨it.s.id,y,1⟩,((KZ h hj).2 _).2 (w4f hi hy),rfl,rfl⟩⟩
  ·have hl:=hld it (hits k it h1 h2 hk)
   unfold WV at hl
   rw [if_pos hkd] at hl
   intro h0
   rw [h0] at hl
   cases hl
  ·rcases (q1y (hits k it h1 h2 hk)).2 with h0|⟨h3,h4⟩
   ·exact .inl h0
   ·have:(it.loop-1).toNat<(sheetOf p).l.length:=by omega
    exact .inr ⟨_,List.getElem?_eq_getElem this⟩
 obtain ⟨it,hit,hits2⟩:=z7t (p:=p) (j:=j) ht
 have hat:atP (sheetOf p) (QL p.procs j) (itL j 0 (-1) 0 (QL p.procs j) f.body):=fun i it hi=>by
  rw [← hd,List.getElem?_drop,List.getElem?_take] at hi
  split at hi
  ·exact hi
  ·cases hi
 have:=w5n hn j f.body 0 (-1) 0 (QL p.procs j) hat (Nat.le_refl _) (Nat.le_refl _) ⟨it,hit,by rw [hits2];exact hT⟩
 rcases this with h1|h1|⟨h1,_⟩
 ·exact h1
 ·exact h1
 ·exact absurd rfl h1
theorem x3q {n:Nat} {part:List Int} (hp : ∀ k,k<n→0≤part.getD k 0∧part.getD k 0<n) {i:Nat} (hi:i<n) : ∀ (l:List (Int×Int)) {o:List Bool},o.length=n→(∀ t∈l,0≤t.1∧t.1<n) →
  ((l.foldl (q0y part) o).getD i false=true↔o.getD i false=true ∨ ∃ t∈l,part.getD t.1.toNat 0≠part.getD t.2.toNat 0∧part.getD t.1.toNat 0=i)
 | [],o,_,_=>by simp
 | t::r,o,ho,hr=>by
   rw [List.foldl_cons,x3q hp hi r (by rw [x3m];exact ho) fun u hu=>hr u (List.mem_cons_of_mem _ hu)]
   have h1:=hr t List.mem_cons_self
   have h2:=hp t.1.toNat (by omega)
   have key:(q0y part o t).getD i false=true↔o.getD i false=true∨(part.getD t.1.toNat 0≠part.getD t.2.toNat 0∧part.getD t.1.toNat 0=i):=by
    unfold q0y
    split
    ·rename_i he
     constructor
     ·exact .inl
     ·rintro (h3|⟨h3,_⟩)
      ·exact h3
      ·exact absurd he h3
    ·rename_i he
     rw [ZK (by omega)]
     split
     ·rename_i h3
      constructor
      ·intro _
       exact .inr ⟨he,by omega⟩
      ·intro _
       rfl
     ·rename_i h3
      constructor
      ·exact .inl
      ·rintro (h4|⟨_,h4⟩)
       ·exact h4
       ·exact absurd (by omega) h3
   rw [key,or_assoc]
   constructor
   ·rintro (h3|⟨h3,h4⟩|⟨u,hu,h3⟩)
    ·exact .inl h3
    ·exact .inr ⟨t,List.mem_cons_self,h3,h4⟩
    ·exact .inr ⟨u,List.mem_cons_of_mem _ hu,h3⟩
   ·rintro (h3|⟨u,hu,h3⟩)
    ·exact .inl h3
    ·rcases List.mem_cons.1 hu with rfl|hu
     ·exact .inr (.inl h3)
     ·exact .inr (.inr ⟨u,hu,h3⟩)
theorem z7c {n:Nat} {part:List Int} (hn:0<n) (hp : ∀ k,k<n→0≤part.getD k 0∧part.getD k 0<n) {i:Nat} (hi:i<n) {l:List (Int×Int)} (hr : ∀ t∈l,0≤t.1∧t.1<n) :
  (q6s n part l).getD i false=true↔part.getD 0 0=i∨part.getD (n-1) 0=i ∨ ∃ t∈l,part.getD t.1.toNat 0≠part.getD t.2.toNat 0∧part.getD t.1.toNat 0=i:=by
 have h0:=hp 0 hn
 have h1:=hp (n-1) (by omega)
 unfold q6s
 rw [x3q hp hi l (by simp [q6c]) hr]
 have key:(q6c n part).getD i false=true↔part.getD 0 0=i∨part.getD (n-1) 0=i:=by
  unfold q6c
  rw [ZK (by rw [List.length_set,List.length_replicate];omega),ZK (by rw [List.length_replicate];omega)]
  split
  ·exact ⟨fun _ => .inr (by omega),fun _=>rfl⟩
  ·split
   ·exact ⟨fun _ => .inl (by omega),fun _=>rfl⟩
   ·have:(List.replicate n false).getD i false=false:=by
     rw [List.getD_eq_getElem?_getD,List.getElem?_replicate];split<;>rfl
    rw [this]
    constructor
    ·intro h;cases h
    ·rintro (h|h)<;>omega
 rw [key,or_assoc]
open Go.Proofs
section
variable {p:Pg} {j:Nat} {f:Pr}
theorem JX {i:Int} (h:0≤i∧i<(QY f.body+2:Nat)):plP p j f (QB p j (QY f.body+2:Nat) i)∧ixI p j f (QB p j (QY f.body+2:Nat) i)=i:=by
 unfold QB ixI YG plP loI hiI
 constructor
 ·(repeat' split)<;>omega
 ·(repeat' split)<;>omega
theorem x9z {x:Int} (h:plP p j f x):QB p j (QY f.body+2:Nat) (ixI p j f x)=x:=by
 have h1:=JX (p:=p) (j:=j) (f:=f) (ZY h)
 exact LQ h1.1 h h1.2
theorem x0e:prsW (QX p j f) f=(QX p j f).real.map (ixP p j f (QY f.body+2:Nat)):=rfl
theorem w1w (h:ZV p=true) (hj:p.procs[j]? = some f) : ∀ t∈prsW (QX p j f) f,(0≤t.1∧t.1<(QY f.body+2:Nat))∧0≤t.2∧t.2<(QY f.body+2:Nat):=fun t ht=>by
 rw [x0e] at ht
 obtain ⟨s,hs,rfl⟩:=List.mem_map.1 ht
 obtain ⟨h1,h2⟩:=YD h hj s hs
 exact ⟨ZY h1,ZY h2⟩
def wE (p:Pg) (j:Nat) (f:Pr):Int→Int→Prop:=rowE (QA (QY f.body+2) (prsW (QX p j f) f)).1
def wR (p:Pg) (j:Nat) (f:Pr):Int→Int→Prop:=stR (QX p j f).real
theorem w4j (h:ZV p=true) (hj:p.procs[j]? = some f) {i k:Int}:wE p j f i k ↔ ∃ a b,wR p j f a b∧ixI p j f a=i∧ixI p j f b=k:=by
 unfold wE wR
 rw [z1u]
 constructor
 ·rintro ⟨h1,_,_⟩
  rw [x0e] at h1
  obtain ⟨s,hs,he⟩:=List.mem_map.1 h1
  exact ⟨s.src,s.dst,⟨s,hs,rfl,rfl⟩,congrArg Prod.fst he,congrArg Prod.snd he⟩
 ·rintro ⟨a,b,⟨s,hs,rfl,rfl⟩,rfl,rfl⟩
  obtain ⟨h1,h2⟩:=YD h hj s hs
  exact ⟨List.mem_map.2 ⟨s,hs,rfl⟩,x0c (ZY h1),x0c (ZY h2)⟩
theorem w3n (h:ZV p=true) (hj:p.procs[j]? = some f) {a b:Int} (hr:wR p j f a b):plP p j f a∧plP p j f b:=by
 obtain ⟨s,hs,rfl,rfl⟩:=hr
 exact YD h hj s hs
theorem w0o (h:ZV p=true) (hj:p.procs[j]? = some f) {a b:Int} (ha:plP p j f a) (hr:Rch (wR p j f) a b):plP p j f b :=
 hr.closed (S:=plP p j f) (fun _ _ _ h1=>(w3n h hj h1).2) ha
theorem w1m (h:ZV p=true) (hj:p.procs[j]? = some f) {a b:Int} (ha:plP p j f a) (hb:plP p j f b):Rch (wE p j f) (ixI p j f a) (ixI p j f b)↔Rch (wR p j f) a b:=by
 constructor
 ·intro hr
  obtain ⟨c,h1,h2,h3⟩:=hr.closed (S:=fun k => ∃ c,plP p j f c∧ixI p j f c=k∧Rch (wR p j f) a c) (by
   rintro i k ⟨c,h1,h2,h3⟩ h4
   obtain ⟨x,y,h5,h6,h7⟩:=(w4j h hj).1 h4
   have h8:=w3n h hj h5
   have:x=c:=LQ h8.1 h1 (by rw [h6,h2])
   subst this
   exact ⟨y,h8.2,h7,.tail h3 h5⟩) ⟨a,ha,rfl,.refl⟩
  rw [← LQ h1 hb h2]
  exact h3
 ·intro hr
  exact (hr.closed (S:=fun c=>plP p j f c∧Rch (wE p j f) (ixI p j f a) (ixI p j f c)) (fun x y ⟨h1,h2⟩ h3=>⟨(w3n h hj h3).2,.tail h2 ((w4j h hj).2 ⟨x,y,h3,rfl,rfl⟩)⟩) ⟨ha,.refl⟩).2
theorem w1v (h:ZV p=true) (hj:p.procs[j]? = some f) {a b:Int} (ha:plP p j f a) (hb:plP p j f b):sccP (wE p j f) (ixI p j f a) (ixI p j f b)↔sccP (wR p j f) a b:=by
 unfold sccP
 rw [w1m h hj ha hb,w1m h hj hb ha]
def JR (p:Pg) (j:Nat) (f:Pr) (i:Int):Int:=(WS (QX p j f) f).getD i.toNat 0
theorem q4m:WS (QX p j f) f=q0s (QY f.body+2) (QA (QY f.body+2) (prsW (QX p j f) f)).1:=rfl
theorem q3q {i:Int} (hi:0≤i∧i<(QY f.body+2:Nat)):MinP (wE p j f) i (JR p j f i):=by
 unfold JR
 rw [q4m]
 exact q0u (FV _ _).1 hi
theorem x8c {k:Nat} (hk:k<QY f.body+2):0≤(WS (QX p j f) f).getD k 0∧(WS (QX p j f) f).getD k 0<(QY f.body+2:Nat):=by
 rw [q4m]
 exact x8d (FV _ _).1 hk
theorem x8f:(WS (QX p j f) f).length=QY f.body+2:=by rw [q4m,HC]
theorem MinP.same {E:Int→Int→Prop} {x y v:Int} (h:MinP E x v) (hs:sccP E x y):MinP E y v:=⟨hs.symm.trans h.scc,fun z hz=>h.le z (hs.trans hz)⟩
theorem z7n {i k:Int} (hi:0≤i∧i<(QY f.body+2:Nat)) (hk:0≤k∧k<(QY f.body+2:Nat)):JR p j f i=JR p j f k↔sccP (wE p j f) i k:=by
 have h1:=q3q (p:=p) (j:=j) hi
 have h2:=q3q (p:=p) (j:=j) hk
 constructor
 ·intro he
  rw [← he] at h2
  exact h1.scc.trans h2.scc.symm
 ·intro hs
  exact (h1.same hs).uniq h2
theorem JC (h:ZV p=true) (hj:p.procs[j]? = some f) {a b:Int} (ha:plP p j f a) (hb:plP p j f b):JR p j f (ixI p j f a)=JR p j f (ixI p j f b)↔sccP (wR p j f) a b:=by
 rw [z7n (ZY ha) (ZY hb),w1v h hj ha hb]
structure TrapP (p:Pg) (j:Nat) (f:Pr) (l:List Int) (r:Int):Prop where
 pl:plP p j f r
 mem : ∀ b,b∈l↔plP p j f b∧sccP (wR p j f) r b
 cl : ∀ b c,sccP (wR p j f) r b→wR p j f b c→sccP (wR p j f) r c
 n0 : ¬sccP (wR p j f) r 0
 nx : ¬sccP (wR p j f) r (-1)
theorem z5m {plc:Int→Int} {part:List Int} {i q:Nat} {b:Int}:b∈HO plc part i q ↔ ∃ k:Nat,k<q∧part.getD k 0=i∧plc k=b:=by
 unfold HO
 constructor
 ·intro h
  obtain ⟨k,hk,rfl⟩:=List.mem_map.1 h
  obtain ⟨h1,h2⟩:=List.mem_filter.1 hk
  exact ⟨k,List.mem_range.1 h1,beq_iff_eq.1 h2,rfl⟩
 ·rintro ⟨k,h1,h2,rfl⟩
  exact List.mem_map.2 ⟨k,List.mem_filter.2 ⟨List.mem_range.2 h1,beq_iff_eq.2 h2⟩,rfl⟩
theorem ix0:ixI p j f 0=0:=by unfold ixI YG;rw [if_pos rfl]
theorem ix1:ixI p j f (-1)=((QY f.body+2:Nat):Int)-1:=by unfold ixI YG;rw [if_neg (by omega),if_pos rfl]
theorem pl0:plP p j f 0 := .inl rfl
theorem pl1:plP p j f (-1) := .inr (.inl rfl)
theorem q2e (k:Nat):(WS (QX p j f) f).getD k 0=JR p j f k:=by
 unfold JR
 rw [Int.toNat_natCast]
theorem z6d (h:ZV p=true) (hj:p.procs[j]? = some f) {i:Nat} (hi:i<QY f.body+2):(q6s (QY f.body+2) (WS (QX p j f) f) (prsW (QX p j f) f)).getD i false=true ↔
  JR p j f (ixI p j f 0)=i∨JR p j f (ixI p j f (-1))=i ∨ ∃ a b,wR p j f a b ∧ ¬sccP (wR p j f) a b∧JR p j f (ixI p j f a)=i:=by
 rw [z7c (by omega) (fun k hk=>x8c hk) hi fun t ht=>(w1w h hj t ht).1,ix0,ix1]
 have e1:(WS (QX p j f) f).getD (QY f.body+2-1) 0=JR p j f (((QY f.body+2:Nat):Int)-1):=by
  unfold JR
  congr 1
  omega
 have e0:(WS (QX p j f) f).getD 0 0=JR p j f 0:=rfl
 rw [e0,e1]
 refine or_congr Iff.rfl (or_congr Iff.rfl ?_)
 constructor
 ·rintro ⟨t,ht,h1,h2⟩
  rw [x0e] at ht
  obtain ⟨s,hs,rfl⟩:=List.mem_map.1 ht
  obtain ⟨h3,h4⟩:=YD h hj s hs
  exact ⟨s.src,s.dst,⟨s,hs,rfl,rfl⟩,fun hsc=>h1 ((JC h hj h3 h4).2 hsc),h2⟩
 ·rintro ⟨a,b,⟨s,hs,rfl,rfl⟩,h1,h2⟩
  obtain ⟨h3,h4⟩:=YD h hj s hs
  exact ⟨ixP p j f (QY f.body+2:Nat) s,by rw [x0e];exact List.mem_map.2 ⟨s,hs,rfl⟩,fun he=>h1 ((JC h hj h3 h4).1 he),h2⟩
theorem q4t {l:List Int}:l∈trapsW (QX p j f) f ↔ ∃ i:Nat,i<QY f.body+2∧JR p j f i=i∧(q6s (QY f.body+2) (WS (QX p j f) f) (prsW (QX p j f) f)).getD i false=false∧l=HO (QB p j (QY f.body+2:Nat)) (WS (QX p j f) f) i (QY f.body+2):=by
 unfold trapsW q0d
 rw [x8f]
 constructor
 ·intro hl
  obtain ⟨i,hi,rfl⟩:=List.mem_map.1 hl
  obtain ⟨h1,h2⟩:=List.mem_filter.1 hi
  unfold q4w at h2
  rw [Bool.and_eq_true,beq_iff_eq,Bool.not_eq_true',q2e] at h2
  exact ⟨i,List.mem_range.1 h1,h2.1,h2.2,rfl⟩
 ·rintro ⟨i,h1,h2,h3,rfl⟩
  refine List.mem_map.2 ⟨i,List.mem_filter.2 ⟨List.mem_range.2 h1,?_⟩,rfl⟩
  unfold q4w
  rw [Bool.and_eq_true,beq_iff_eq,Bool.not_eq_true',q2e]
  exact ⟨h2,h3⟩
theorem x8t (h:ZV p=true) (hj:p.procs[j]? = some f) {i:Nat} (hi:i<QY f.body+2) (hp:JR p j f i=i) (b:Int) :
  b∈HO (QB p j (QY f.body+2:Nat)) (WS (QX p j f) f) i (QY f.body+2)↔plP p j f b∧sccP (wR p j f) (QB p j (QY f.body+2:Nat) i) b:=by
 obtain ⟨h1,h2⟩:=JX (p:=p) (j:=j) (f:=f) (i:=i) (by omega)
 rw [z5m]
 constructor
 ·rintro ⟨k,h3,h4,rfl⟩
  obtain ⟨h5,h6⟩:=JX (p:=p) (j:=j) (f:=f) (i:=k) (by omega)
  refine ⟨h5,(JC h hj h1 h5).1 ?_⟩
  rw [h2,h6,hp,← q2e,h4]
 ·rintro ⟨h3,h4⟩
  have h5:=ZY h3
  refine ⟨(ixI p j f b).toNat,by omega,?_,?_⟩
  ·rw [q2e,show (((ixI p j f b).toNat:Nat):Int)=ixI p j f b by omega,← (JC h hj h1 h3).2 h4,h2,hp]
  ·rw [show (((ixI p j f b).toNat:Nat):Int)=ixI p j f b by omega,x9z h3]
theorem z6t (h:ZV p=true) (hj:p.procs[j]? = some f) {l:List Int} (hl:l∈trapsW (QX p j f) f) : ∃ r,TrapP p j f l r:=by
 obtain ⟨i,hi,hp,ho,rfl⟩:=q4t.1 hl
 obtain ⟨h1,h2⟩:=JX (p:=p) (j:=j) (f:=f) (i:=i) (by omega)
 have ho2 : ¬_:=fun hx=>by
  have:=(z6d h hj hi).2 hx
  rw [ho] at this
  cases this
 have hpr:JR p j f (ixI p j f (QB p j (QY f.body+2:Nat) i))=i:=by rw [h2,hp]
 refine ⟨_,h1,x8t h hj hi hp,fun b c hb hbc => ?_,fun hs=>ho2 (.inl ?_),fun hs=>ho2 (.inr (.inl ?_))⟩
 ·have h3:=w3n h hj hbc
  by_cases hsc:sccP (wR p j f) b c
  ·exact hb.trans hsc
  ·refine absurd (.inr (.inr ⟨b,c,hbc,hsc,?_⟩)) ho2
   rw [← (JC h hj h1 h3.1).2 hb,hpr]
 ·rw [← (JC h hj h1 pl0).2 hs,hpr]
 ·rw [← (JC h hj h1 pl1).2 hs,hpr]
theorem w2n (h:ZV p=true) (hj:p.procs[j]? = some f) {r:Int} (hr:plP p j f r) (hcl : ∀ b c,sccP (wR p j f) r b→wR p j f b c→sccP (wR p j f) r c) (h0 : ¬sccP (wR p j f) r 0) (hx : ¬sccP (wR p j f) r (-1)) :
  ∃ l∈trapsW (QX p j f) f,∀ b,b∈l↔plP p j f b∧sccP (wR p j f) r b:=by
 have h1:=ZY hr
 have h2:=q3q (p:=p) (j:=j) (f:=f) h1
 have h3:=x8c (p:=p) (j:=j) (f:=f) (k:=(ixI p j f r).toNat) (by omega)
 have h4:0≤JR p j f (ixI p j f r)∧JR p j f (ixI p j f r)<(QY f.body+2:Nat):=h3
 generalize hi:JR p j f (ixI p j f r)=v at h2 h4
 obtain ⟨h5,h6⟩:=JX (p:=p) (j:=j) (f:=f) (i:=v) h4
 have hs:sccP (wR p j f) r (QB p j (QY f.body+2:Nat) v):=(w1v h hj hr h5).1 (by rw [h6];exact h2.scc)
 have hpv:JR p j f v=v:=(q3q (p:=p) (j:=j) (f:=f) h4).uniq (h2.same h2.scc)
 have ev:((v.toNat:Nat):Int)=v:=by omega
 refine ⟨_,q4t.2 ⟨v.toNat,by omega,by rw [ev];exact hpv,?_,rfl⟩,fun b => ?_⟩
 ·cases ho:(q6s (QY f.body+2) (WS (QX p j f) f) (prsW (QX p j f) f)).getD v.toNat false with
  | false=>rfl
  | true =>
    have:=(z6d h hj (by omega)).1 ho
    rw [ev,← hi] at this
    rcases this with h7|h7|⟨a,b,h7,h8,h9⟩
    ·exact absurd ((JC h hj hr pl0).1 h7.symm) h0
    ·exact absurd ((JC h hj hr pl1).1 h7.symm) hx
    ·have h10:=w3n h hj h7
     have h11:=(JC h hj hr h10.1).1 h9.symm
     exact absurd (h11.symm.trans (hcl a b h11 h7)) h8
 ·rw [x8t h hj (by omega) (by rw [ev];exact hpv),ev]
  exact and_congr Iff.rfl ⟨fun h7=>hs.trans h7,fun h7=>hs.symm.trans h7⟩
end
open Go.Proofs
theorem x7s {p:Pg} {j:Nat} {f:Pr} (hj:p.procs[j]? = some f) (hcn:cntP p.procs≤200):(QX p j f).real.length≤100000:=by
 obtain ⟨_,_,_,hlen,hsp⟩:=QG p
 obtain ⟨_,_,hle,_⟩:=hsp j f hj
 have h9:=x4e (QK p j f)
 have h10:=q1e p j f
 show (WZ (QK p j f)).length≤100000
 omega
theorem z0y {p:Pg} (h:ZV p=true) {j:Nat} {f:Pr} (hj:p.procs[j]? = some f) : ∀ it∈itsOf p j f,∀ s∈fOf it,okSt s:=fun it hi s hs=>by
 obtain ⟨hm,_⟩:=XZ h
 obtain ⟨_,_,hcn⟩:=FH h
 obtain ⟨_,_,_,hlen,hsp⟩:=QG p
 obtain ⟨_,_,hle,_⟩:=hsp j f hj
 have h1:=JE hm hj (q3c hi)
 have h2:=(q1y hi).1
 unfold fOf at hs
 split at hs
 ·rw [List.mem_singleton.1 hs]
  unfold okI at h2
  unfold okSt
  constructor
  ·show it.s.id≠_
   omega
  ·show it.next≠_
   omega
 ·cases hs
theorem x9d {p:Pg} (h:ZV p=true) {j:Nat} {f:Pr} (hj:p.procs[j]? = some f) {l:List Int} (hl:l∈trapsW (QX p j f) f):l.length≤QY f.body+2 ∧ ∀ id∈l,(QL p.procs j:Int)+1≤id∧id≤(QL p.procs j+QY f.body:Nat):=by
 constructor
 ·obtain ⟨i,_,_,_,rfl⟩:=q4t.1 hl
  exact x4p _ _ _ _
 ·intro id hid
  obtain ⟨r,ht⟩:=z6t h hj hl
  obtain ⟨h1,h2⟩:=(ht.mem id).1 hid
  rcases h1 with rfl|rfl|h1
  ·exact absurd h2 ht.n0
  ·exact absurd h2 ht.nx
  ·exact h1
theorem w3o {p:Pg} (h:ZV p=true) {j:Nat} {f:Pr} (hj:p.procs[j]? = some f):WayT (QX p j f) f (QY f.body+2):=by
 obtain ⟨_,_,hcn⟩:=FH h
 obtain ⟨_,_,_,hlen,hsp⟩:=QG p
 obtain ⟨_,_,hle,_⟩:=hsp j f hj
 refine ⟨rfl,hj,by show cntP p.procs≤1000;omega,by omega,by omega,Nat.le_trans (x7s hj hcn) (by decide),w1w h hj,?_,fun l hl => ?_,fun s hs=>(q4y h hj).2.2 s (((KZ h hj).2 s).1 hs),z0y h hj⟩
 ·have:=x3b (QB p j (QY f.body+2:Nat)) (WS (QX p j f) f) (q6s (QY f.body+2) (WS (QX p j f) f) (prsW (QX p j f) f)) (QY f.body+2)
  have e:trapsW (QX p j f) f=q0d (QB p j (QY f.body+2:Nat)) (WS (QX p j f) f) (q6s (QY f.body+2) (WS (QX p j f) f) (prsW (QX p j f) f)) (QY f.body+2):=by
   unfold trapsW
   rw [x8f]
   rfl
  rw [e]
  omega
 ·obtain ⟨h1,h2⟩:=x9d h hj hl
  refine ⟨by omega,fun id hid => ?_⟩
  have:=h2 id hid
  show 1≤id∧id≤(sheetOf p).l.length
  omega
def w4t (p:Pg) (n:Str):List Step:=match BB p n with
 | some w=>(match w.p.procs[w.j]? with
   | some f=>q6f w f
   | none=>[])
 | none=>[]
theorem x4x {p:Pg} {n:Str} {k:Nat} {f:Pr} (hw:BB p n=some (QX p k f)) (hk:p.procs[k]? = some f):w4t p n=q6f (QX p k f) f:=by
 have h:(QX p k f).p.procs[(QX p k f).j]? = some f:=hk
 unfold w4t
 rw [hw]
 simp only
 rw [h]
theorem z4b {p:Pg} {n:Str} (hw:BB p n=none):w4t p n=[]:=by
 unfold w4t
 rw [hw]
theorem w4h (p:Pg) (hf:Fit p) (n:Str):SpecP Tryz.prog 35 [.agg p.cells,.str n] (fun r=>r=VC (w4t p n)):=by
 refine SpecP.body w0g QQ Tryz.func35 rfl Tryz.call35 (by show 2≤_;decide) ?_
 conv=>whnf
 have hW:=z5h p hf n
 cases hw:BB p n with
 | none =>
   rw [z4b hw]
   rw [hw] at hW
   repeat' (refine CallK.pure hW (.cons (Sub.refl _) (.cons (Sub.refl _) .nil)) ?_;rintro _ rfl;conv=>whnf)
   exact ⟨_,.p Sub.nils,rfl⟩
 | some w =>
   obtain ⟨k,f,hkj,rfl,hc,_⟩:=HL hw
   have hw0:=hw
   rw [hw] at hW
   repeat' ((first|(refine CallK.pure hW (.cons (Sub.refl _) (.cons (Sub.refl _) .nil)) ?_;rintro _ rfl)|(refine CallK.pure (q5n (QX p k f) f (QY f.body+2) (w3o hc hkj)) (.cons (Sub.refl _) .nil) ?_;rintro _ rfl));conv=>whnf)
   exact RetK.p (by rw [x4x hw0 hkj])
open Go.Proofs
instance (a b:Step):Decidable (LE a b):=inferInstanceAs (Decidable (_∨_))
instance:DecidableEq Step:=fun a b=>decidable_of_iff (a.src=b.src∧a.dst=b.dst∧a.kind=b.kind) ⟨fun h=>Step.eq_of h.1 h.2.1 h.2.2,fun h=>by rw [h];exact ⟨rfl,rfl,rfl⟩⟩
theorem w2p {a b:Step} (ha:okSt a) (hb:okSt b) (h:HV b a=false):(a.src=b.src∧a.dst=b.dst∧a.kind≤b.kind)∨LE a b:=by
 rw [Bool.eq_false_iff,ne_eq,KU] at h
 unfold LE
 by_cases h1:XE a.src=XE b.src
 ·by_cases h2:XE a.dst=XE b.dst
  ·exact .inl ⟨KN ha.1 hb.1 h1,KN ha.2 hb.2 h2,by omega⟩
  ·exact .inr (by omega)
 ·exact .inr (by omega)
theorem q2z : ∀ (l:List Step) (a:Step),okSt a→(∀ s∈l,okSt s)→(a::l).Pairwise (fun a b=>HV b a=false) →
  (∀ s∈QE a l,LE a s)∧(QE a l).Pairwise LE∧(∀ s∈QE a l,s∈l) ∧ ∀ s∈l,(s.src=a.src∧s.dst=a.dst∧a.kind≤s.kind) ∨ ∃ s'∈QE a l,s'.src=s.src∧s'.dst=s.dst∧s'.kind≤s.kind
 | [],a,_,_,_=>by simp [QE]
 | b::r,a,ha,hl,h=>by
   have hb:=hl b List.mem_cons_self
   have hr : ∀ s∈r,okSt s:=fun s hs=>hl s (List.mem_cons_of_mem _ hs)
   rw [List.pairwise_cons] at h
   obtain ⟨h1,h2⟩:=h
   obtain ⟨i1,i2,i3,i4⟩:=q2z r b hb hr h2
   have hab:=w2p ha hb (h1 b List.mem_cons_self)
   rw [QE]
   cases hs:XI b a with
   | true =>
     unfold XI at hs
     simp only [Bool.and_eq_true,decide_eq_true_eq] at hs
     have hk:a.kind≤b.kind:=by
      rcases hab with h3|h3
      ·exact h3.2.2
      ·unfold LE at h3
       rw [hs.1,hs.2] at h3
       omega
     rw [cond_true]
     refine ⟨fun s hs' => ?_,i2,fun s hs'=>List.mem_cons_of_mem _ (i3 s hs'),fun s hs' => ?_⟩
     ·have:=i1 s hs'
      unfold LE at this ⊢
      rwa [← hs.1,← hs.2]
     ·rcases List.mem_cons.1 hs' with rfl|hs'
      ·exact .inl ⟨hs.1,hs.2,hk⟩
      ·rcases i4 s hs' with ⟨h3,h4,h5⟩|h3
       ·exact .inl ⟨by rw [h3,hs.1],by rw [h4,hs.2],by omega⟩
       ·exact .inr h3
   | false =>
     have hlt:LE a b:=by
      rcases hab with h3|h3
      ·unfold XI at hs
       simp [h3.1,h3.2.1] at hs
      ·exact h3
     rw [cond_false]
     refine ⟨fun s hs' => ?_,List.pairwise_cons.2 ⟨i1,i2⟩,fun s hs' => ?_,fun s hs' => ?_⟩
     ·rcases List.mem_cons.1 hs' with rfl|hs'
      ·exact hlt
      ·exact q0f hlt (i1 s hs')
     ·rcases List.mem_cons.1 hs' with rfl|hs'
      ·exact List.mem_cons_self
      ·exact List.mem_cons_of_mem _ (i3 s hs')
     ·rcases List.mem_cons.1 hs' with rfl|hs'
      ·exact .inr ⟨s,List.mem_cons_self,rfl,rfl,Int.le_refl _⟩
      ·rcases i4 s hs' with ⟨h3,h4,h5⟩|⟨s',h3,h4⟩
       ·exact .inr ⟨b,List.mem_cons_self,h3.symm,h4.symm,h5⟩
       ·exact .inr ⟨s',List.mem_cons_of_mem _ h3,h4⟩
theorem DX {l:List Step} (hok : ∀ s∈l,okSt s):(WZ l).Pairwise LE∧(∀ s∈WZ l,s∈l) ∧ ∀ s∈l,∃ s'∈WZ l,s'.src=s.src∧s'.dst=s.dst∧s'.kind≤s.kind:=by
 have hp : ∀ s,s∈UD l↔s∈l:=fun s=>(q5j l).mem_iff
 have hs:=NP l
 unfold WZ
 cases hq:UD l with
 | nil =>
   rw [hq] at hp
   refine ⟨by simp [PH],by simp [PH],fun s hs => ?_⟩
   have:=(hp s).2 hs
   cases this
 | cons a r =>
   rw [hq] at hp hs
   have hok' : ∀ s∈a::r,okSt s:=fun s h=>hok s ((hp s).1 h)
   obtain ⟨h1,h2,h3,h4⟩:=q2z r a (hok' a List.mem_cons_self) (fun s h=>hok' s (List.mem_cons_of_mem _ h)) hs
   rw [PH]
   refine ⟨List.pairwise_cons.2 ⟨h1,h2⟩,fun s hs' => ?_,fun s hs' => ?_⟩
   ·rcases List.mem_cons.1 hs' with rfl|hs'
    ·exact (hp s).1 List.mem_cons_self
    ·exact (hp s).1 (List.mem_cons_of_mem _ (h3 s hs'))
   ·rcases List.mem_cons.1 ((hp s).2 hs') with rfl|hs'
    ·exact ⟨s,List.mem_cons_self,rfl,rfl,Int.le_refl _⟩
    ·rcases h4 s hs' with ⟨h5,h6,h7⟩|⟨s',h5,h6⟩
     ·exact ⟨a,List.mem_cons_self,h5.symm,h6.symm,h7⟩
     ·exact ⟨s',List.mem_cons_of_mem _ h5,h6⟩
theorem z5f {l:List Step} (h:l.Pairwise LE) {a b:Step} (ha:a∈l) (hb:b∈l) (h1:a.src=b.src) (h2:a.dst=b.dst):a=b:=by
 have hn : ∀ {x y:Step},x.src=y.src→x.dst=y.dst → ¬LE x y:=fun {x y} e1 e2 hlt=>by
  unfold LE at hlt
  rw [e1,e2] at hlt
  omega
 induction h with
 | nil=>cases ha
 | @cons c r hc hr ih =>
   rcases List.mem_cons.1 ha with e1|ha'
   ·rcases List.mem_cons.1 hb with e2|hb'
    ·rw [e1,e2]
    ·exact absurd (hc b hb') (by rw [← e1];exact hn h1 h2)
   ·rcases List.mem_cons.1 hb with e2|hb'
    ·exact absurd (hc a ha') (by rw [← e2];exact hn h1.symm h2.symm)
    ·exact ih ha' hb'
theorem x9k {l m:List Step} (hok : ∀ s∈l,okSt s) (h1:m.Pairwise LE) (h2 : ∀ s∈m,s∈l) (h3 : ∀ s∈l,∃ s'∈m,s'.src=s.src∧s'.dst=s.dst∧s'.kind≤s.kind):WZ l=m:=by
 obtain ⟨g1,g2,g3⟩:=DX hok
 refine q7a g1 h1 fun s=>⟨fun hs => ?_,fun hs => ?_⟩
 ·obtain ⟨a,ha,h4,h5,h6⟩:=h3 s (g2 s hs)
  obtain ⟨b,hb,h7,h8,h9⟩:=g3 a (h2 a ha)
  have:=z5f g1 hb hs (h7.trans h4) (h8.trans h5)
  subst this
  have:a=b:=Step.eq_of h4 h5 (by omega)
  rw [← this]
  exact ha
 ·obtain ⟨a,ha,h4,h5,h6⟩:=g3 s (h2 s hs)
  obtain ⟨b,hb,h7,h8,h9⟩:=h3 a (g2 a ha)
  have:=z5f h1 hb hs (h7.trans h4) (h8.trans h5)
  subst this
  have:a=b:=Step.eq_of h4 h5 (by omega)
  rw [← this]
  exact ha
open Go.Proofs
theorem w4b:(QX someP 1 f1).real=[⟨0,5,1⟩,⟨5,6,1⟩,⟨6,7,1⟩,⟨6,8,1⟩,⟨7,-1,1⟩,⟨8,-1,1⟩]:=w7n
theorem w5d:(QX someP 0 f0).real=[⟨0,1,1⟩,⟨1,2,1⟩,⟨2,3,1⟩,⟨3,4,1⟩,⟨4,-1,1⟩]:=w7x
theorem w8i:prsW (QX someP 1 f1) f1=[(0,1),(1,2),(2,3),(2,4),(3,5),(4,5)]:=by
 unfold prsW
 rw [w4b]
 kernel_rfl
theorem w9k:prsW (QX someP 0 f0) f0=[(0,1),(1,2),(2,3),(3,4),(4,5)]:=by
 unfold prsW
 rw [w5d]
 kernel_rfl
theorem w4g:trapsW (QX someP 1 f1) f1=[]:=by
 unfold trapsW WS
 rw [w8i]
 kernel_rfl
theorem w5q:trapsW (QX someP 0 f0) f0=[]:=by
 unfold trapsW WS
 rw [w9k]
 kernel_rfl
theorem w8f:q6f (QX someP 1 f1) f1=[⟨0,5,1⟩,⟨0,-1,2⟩,⟨5,6,1⟩,⟨6,7,1⟩,⟨6,8,1⟩,⟨7,8,2⟩,⟨7,-1,1⟩,⟨8,-1,1⟩]:=by
 have h1:HB (QX someP 1 f1) f1=[⟨0,5,1⟩,⟨5,6,1⟩,⟨6,7,1⟩,⟨6,8,1⟩,⟨7,-1,1⟩,⟨8,-1,1⟩,⟨0,-1,2⟩,⟨7,8,2⟩,⟨8,-1,2⟩]:=by
  unfold HB WT
  rw [w4g,w4b]
  kernel_rfl
 unfold q6f
 rw [h1]
 exact x9k (by unfold okSt;decide) (by decide) (by decide) (by decide)
theorem w8n:q6f (QX someP 0 f0) f0=[⟨0,1,1⟩,⟨0,-1,2⟩,⟨1,2,1⟩,⟨2,3,1⟩,⟨3,4,1⟩,⟨4,-1,1⟩]:=by
 have h1:HB (QX someP 0 f0) f0=[⟨0,1,1⟩,⟨1,2,1⟩,⟨2,3,1⟩,⟨3,4,1⟩,⟨4,-1,1⟩,⟨0,-1,2⟩]:=by
  unfold HB WT
  rw [w5q,w5d]
  kernel_rfl
 unfold q6f
 rw [h1]
 exact x9k (by unfold okSt;decide) (by decide) (by decide) (by decide)
theorem z5x:BB someP [109,97,105,110]=some (QX someP 0 f0):=by
 unfold BB
 rw [q3h]
 rfl
open Go.Proofs
theorem w8y {R:Int→Int→Prop} {PL:List Int} (hPL : ∀ x y,x∈PL→R x y→y∈PL) : ∀ (k:Nat) {x:Int},x∈PL→(∀ c:Int→Nat,(∀ y,c y=0∨c y=1)→(∀ y,c y=1→Rch R x y)→(PL.map c).sum<k) → ∃ y,Rch R x y ∧ ∀ z,Rch R y z→Rch R z y
 | 0,x,_,hk=>absurd (hk (fun _=>0) (fun _ => .inl rfl) (fun _ h=>by cases h)) (Nat.not_lt_zero _)
 | k+1,x,hx,hk=>by
   by_cases h : ∀ z,Rch R x z→Rch R z x
   ·exact ⟨x,.refl,h⟩
   ·obtain ⟨z,hz⟩:=Classical.not_forall.1 h
    obtain ⟨h1,h2⟩:=Classical.not_imp.1 hz
    have hzp:z∈PL:=h1.closed (S:=fun y=>y∈PL) hPL hx
    obtain ⟨y,h3,h4⟩:=w8y hPL k hzp fun c hc hr=>by
     have hcx:c x=0:=by
      rcases hc x with h5|h5
      ·exact h5
      ·exact absurd (hr x h5) h2
     have h6:(PL.map c).sum<(PL.map fun y=>if y=x then 1 else c y).sum:=z7v (fun y _=>by
      split
      ·rename_i e
       rw [e,hcx]
       exact Nat.zero_le _
      ·exact Nat.le_refl _) ⟨x,hx,by simp [hcx]⟩
     have h7:=hk (fun y=>if y=x then 1 else c y) (fun y=>by
      split
      ·exact .inr rfl
      ·exact hc y) (fun y hy=>by
      split at hy
      ·rename_i e
       rw [e]
       exact .refl
      ·exact h1.trans (hr y hy))
     omega
    exact ⟨y,h1.trans h3,h4⟩
theorem z4f {c:Int→Nat} (h : ∀ y,c y=0∨c y=1) : ∀ l:List Int,(l.map c).sum≤l.length
 | []=>by simp
 | a::r=>by
   have h1:=z4f h r
   have h2:=h a
   simp only [List.map_cons,List.sum_cons,List.length_cons]
   omega
def plL (p:Pg) (j:Nat) (f:Pr):List Int:=0::(-1)::YC (QL p.procs j) (QY f.body)
theorem YJ {p:Pg} {j:Nat} {f:Pr} {x:Int}:x∈plL p j f↔plP p j f x:=by
 unfold plL plP
 simp only [List.mem_cons]
 refine or_congr Iff.rfl (or_congr Iff.rfl ⟨fun h => ?_,fun h=>x0l h.1 h.2⟩)
 have:=JZ h
 omega
theorem w2a {p:Pg} (h:ZV p=true) {j:Nat} {f:Pr} (hj:p.procs[j]? = some f) {x:Int} (hx:plP p j f x) : ∃ y,Rch (wR p j f) x y ∧ ∀ z,Rch (wR p j f) y z→Rch (wR p j f) z y :=
 w8y (PL:=plL p j f) (fun a b _ hab=>YJ.2 (w3n h hj hab).2) ((plL p j f).length+1) (YJ.2 hx) fun _ hc _=>Nat.lt_succ_of_le (z4f hc _)
theorem q9r {p:Pg} (h:ZV p=true) {j:Nat} {f:Pr} (hj:p.procs[j]? = some f) {a:Int} : ¬wR p j f a 0:=fun ⟨s,hs,_,hd⟩=>by
 have h1:=((q4y h hj).2.1 s (((KZ h hj).2 s).1 hs)).2
 unfold okI at h1
 omega
theorem x3w {p:Pg} (h:ZV p=true) {j:Nat} {f:Pr} (hj:p.procs[j]? = some f) {a:Int} (hr:Rch (wR p j f) a 0):a=0:=by
 cases hr with
 | refl=>rfl
 | tail _ h2=>exact absurd h2 (q9r h hj)
theorem x8n {p:Pg} (h:ZV p=true) {j:Nat} {f:Pr} (hj:p.procs[j]? = some f):wR p j f 0 (w5t p j f):=⟨⟨0,w5t p j f,1⟩,((KZ h hj).2 _).2 (by unfold QK w5t;exact List.mem_cons_self),rfl,rfl⟩
theorem z3s {p:Pg} (h:ZV p=true) {j:Nat} {f:Pr} (hj:p.procs[j]? = some f) {r:Int} (hr:plP p j f r) (hcl : ∀ b c,sccP (wR p j f) r b→wR p j f b c→sccP (wR p j f) r c) (h0 : ¬sccP (wR p j f) r 0) (hx : ¬sccP (wR p j f) r (-1)) : ∃ t∈flL f.body,sccP (wR p j f) r t.id∧t.kind=10:=by
 refine Classical.byContradiction fun hno=>hx ?_
 have hrr:(QL p.procs j:Int)+1≤r∧r≤(QL p.procs j+QY f.body:Nat):=by
  rcases hr with rfl|rfl|h1
  ·exact absurd (sccP.refl 0) h0
  ·exact absurd (sccP.refl (-1)) hx
  ·exact h1
 obtain ⟨t,ht,_,hti⟩:=q3w h hj hrr.1 hrr.2
 exact z5y h hj (T:=fun y=>sccP (wR p j f) r y) (fun a b ha hab=>hcl a b ha hab) (fun u hu hs hk=>hno ⟨u,hu,hs,hk⟩) ht (by rw [hti];exact sccP.refl r)
theorem w2g {p:Pg} (h:ZV p=true) {j:Nat} {f:Pr} (hj:p.procs[j]? = some f) {t:S} (ht:t∈flL f.body):w3k p t.id=some t:=by
 have hb:=JE (XZ h).1 hj ht
 obtain ⟨u,hu,h1,h2⟩:=q3w h hj hb.1 hb.2
 obtain ⟨it,hi,rfl⟩:=z7t (p:=p) (j:=j) ht
 obtain ⟨iu,hiu,rfl⟩:=z7t (p:=p) (j:=j) hu
 rw [w1q (XZ h).1 hj hiu hi h2] at h1
 exact h1
theorem MA {p:Pg} (h:ZV p=true) {j:Nat} {f:Pr} (hj:p.procs[j]? = some f) {s:Step}:s∈WT (QX p j f) f ↔ ∃ l∈trapsW (QX p j f) f,∃ t∈flL f.body,t.id∈l∧t.kind=10∧s=⟨t.id,-1,3⟩:=by
 unfold WT
 constructor
 ·intro hs
  obtain ⟨l,hl,hs⟩:=List.mem_flatMap.1 hs
  obtain ⟨id,hid,hs⟩:=List.mem_flatMap.1 hs
  have hb:=(x9d h hj hl).2 id hid
  obtain ⟨t,ht,h1,h2⟩:=q3w h hj hb.1 hb.2
  have e:(QX p j f).p=p:=rfl
  unfold vOf at hs
  rw [e,h1] at hs
  simp only at hs
  split at hs
  ·rename_i hk
   exact ⟨l,hl,t,ht,by rw [h2];exact hid,hk,by rw [h2];simpa using hs⟩
  ·cases hs
 ·rintro ⟨l,hl,t,ht,hid,hk,rfl⟩
  refine List.mem_flatMap.2 ⟨l,hl,List.mem_flatMap.2 ⟨t.id,hid,?_⟩⟩
  have e:(QX p j f).p=p:=rfl
  unfold vOf
  rw [e,w2g h hj ht]
  simp [hk]
theorem x5u {p:Pg} (h:ZV p=true) {j:Nat} {f:Pr} (hj:p.procs[j]? = some f) : ∀ s∈WT (QX p j f) f++(QX p j f).real,okSt s:=fun s hs =>
 (List.mem_append.1 hs).elim ((w3o h hj).virt_ok s) ((w3o h hj).hok s)
theorem z2e {p:Pg} (h:ZV p=true) {j:Nat} {f:Pr} (hj:p.procs[j]? = some f) {s:Step} (hs:s∈WT (QX p j f) f++(QX p j f).real):stR (w1i (QX p j f) f) s.src s.dst:=by
 obtain ⟨s',h1,h2,h3,_⟩:=(DX (x5u h hj)).2.2 s hs
 exact ⟨s',h1,h2,h3⟩
theorem z4v {p:Pg} (h:ZV p=true) {j:Nat} {f:Pr} (hj:p.procs[j]? = some f) {x:Int} (hx:plP p j f x):Rch (stR (w1i (QX p j f) f)) x (-1):=by
 have hm : ∀ a b,wR p j f a b→stR (w1i (QX p j f) f) a b:=fun a b ⟨s,hs,h1,h2⟩=>by
  rw [← h1,← h2]
  exact z2e h hj (List.mem_append.2 (.inr hs))
 obtain ⟨y,h1,h2⟩:=w2a h hj hx
 have hy:=w0o h hj hx h1
 have hcl : ∀ b c,sccP (wR p j f) y b→wR p j f b c→sccP (wR p j f) y c:=fun b c hb hbc=>by
  have h3:Rch (wR p j f) y c := .tail hb.1 hbc
  exact ⟨h3,h2 c h3⟩
 by_cases hxe:sccP (wR p j f) y (-1)
 ·exact (h1.trans hxe.1).mono hm
 have h0 : ¬sccP (wR p j f) y 0:=fun hs=>by
  have hy0:=x3w h hj hs.1
  subst hy0
  have h3:=h2 _ (.tail .refl (x8n h hj))
  have h4:=x3w h hj h3
  have h5:=x8n h hj
  rw [h4] at h5
  exact q9r h hj h5
 obtain ⟨l,hl,hlm⟩:=w2n h hj hy hcl h0 hxe
 obtain ⟨t,ht,h3,h4⟩:=z3s h hj hy hcl h0 hxe
 have hv:(⟨t.id,-1,3⟩:Step)∈WT (QX p j f) f:=(MA h hj).2 ⟨l,hl,t,ht,(hlm _).2 ⟨w0o h hj hy h3.1,h3⟩,h4,rfl⟩
 exact .tail ((h1.trans h3.1).mono hm) (z2e h hj (List.mem_append.2 (.inl hv)))
open Go.Proofs
theorem z1d {p:Pg} (h:ZV p=true) (n:Int) : ∃ (k:Nat) (f:Pr),p.procs[k]? = some f∧BB p (WK p n)=some (QX p k f)∧VJ p (WK p n)=(f,true):=by
 have hne:0<p.procs.length:=by
  obtain ⟨_,hb,_⟩:=ZR (XZ h).2.1
  cases hp:p.procs with
  | nil =>
    unfold ZZ procsN at hb
    rw [hp] at hb
    simp at hb
  | cons a r=>simp
 have hr:=MG (n:=n) (k:=p.procs.length) (by omega)
 have hlt:(x1m n p.procs.length).toNat<p.procs.length:=by omega
 have e:WK p n=(p.procs[(x1m n p.procs.length).toNat]).name:=by unfold WK;rw [List.getElem?_eq_getElem hlt]
 cases hw:BB p (WK p n) with
 | none =>
   exfalso
   unfold BB at hw
   rw [h,cond_true] at hw
   cases hf:p.procs.find? (fun f=>f.name==WK p n) with
   | none =>
     have:=List.find?_eq_none.1 hf _ (List.getElem_mem hlt)
     simp [e] at this
   | some g=>rw [hf] at hw;cases hw
 | some w =>
   obtain ⟨k,f,hkj,rfl,_,hfn,hfind⟩:=HL hw
   exact ⟨k,f,hkj,rfl,by unfold VJ;rw [hfind]⟩
open Go.Proofs
open Go.Proofs
open Go.Proofs
open Go.Proofs
open Go.Proofs
end Go.Ab
