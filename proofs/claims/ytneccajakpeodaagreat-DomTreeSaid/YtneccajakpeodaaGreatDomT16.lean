/- The reference's weighing: how much text a program is. -/
import Derived.Laws.StructEq
import Derived.ChangeKeysEq
import Derived.Test.YtneccajakpeodaaGreatDomT8
import Derived.Test.YtneccajakpeodaaGreatDomT10
import Derived.Test.YtneccajakpeodaaGreatDomT13
import Derived.Test.YtneccajakpeodaaGreatDomT14
import Derived.Test.YtneccajakpeodaaGreatDomT15
set_option linter.unusedSimpArgs false
set_option linter.unusedVariables false
set_option maxRecDepth 100000
set_option maxHeartbeats 16000000
namespace Go.Ab
open Go.Proofs
def BZ:List Str→Nat
 | []=>0
 | s::r=>1+s.length+BZ r
mutual
def gX:X→Nat
 | .mk _ _ name kids=>1+name.length+gXs kids
def gXs:List X→Nat
 | []=>0
 | x::r=>gX x+gXs r
end
def q6l:List Arg→Nat
 | []=>0
 | a::r=>gX a.x+(1+a.name.length)+q6l r
mutual
def gS:S→Nat
 | .mk _ _ labels name proc x _ args thn els=>gX x+BZ labels+(1+name.length)+(1+proc.length)+q6l args+gL thn+gL els
def gL:List S→Nat
 | []=>0
 | s::r=>gS s+gL r
end
def z7q:List Param→Nat
 | []=>0
 | a::r=>1+a.name.length+z7q r
def gPr (f:Pr):Nat:=1+f.name.length+BZ f.vars+BZ f.fin+z7q f.params+gL f.body
def x6r:List Pr→Nat
 | []=>0
 | f::r=>gPr f+x6r r
def gPg (p:Pg):Nat:=BZ p.globals+x6r p.procs
theorem w6r (s:S):gS s=gX s.x+BZ s.labels+(1+s.name.length)+(1+s.proc.length)+q6l s.args+gL s.thn+gL s.els:=by
 cases s
 rw [gS]
 rfl
theorem x1d : ∀ l:List Str,z6i l≤BZ l
 | []=>Nat.le_refl _
 | s::r=>by have:=x1d r;simp only [z6i,BZ];omega
mutual
theorem w7j : ∀ x:X,wX x≤gX x
 | .mk _ _ name kids=>by have:=w4g kids;rw [wX,gX];omega
theorem w4g : ∀ l:List X,wXs l≤gXs l
 | []=>by rw [wXs];omega
 | x::r=>by have:=w7j x;have:=w4g r;rw [wXs,gXs];omega
end
theorem z4i : ∀ l:List Arg,x0a l≤q6l l
 | []=>Nat.le_refl _
 | a::r=>by have:=z4i r;have:=w7j a.x;simp only [x0a,q6l];omega
mutual
theorem w8o : ∀ s:S,wS s≤gS s
 | .mk _ _ labels name proc x _ args thn els=>by
   have:=w7j x;have:=x1d labels;have:=z4i args;have:=w5v thn;have:=w5v els
   rw [wS,gS];omega
theorem w5v : ∀ l:List S,wL l≤gL l
 | []=>by rw [wL];omega
 | s::r=>by have:=w8o s;have:=w5v r;rw [wL,gL];omega
end
theorem w0r : ∀ l:List Param,w3b l≤z7q l
 | []=>Nat.le_refl _
 | a::r=>by have:=w0r r;simp only [w3b,z7q];omega
theorem w0h : ∀ l:List Pr,w3n l≤x6r l
 | []=>Nat.le_refl _
 | f::r=>by
   have:=w0h r;have:=x1d f.vars;have:=x1d f.fin;have:=w0r f.params;have:=w5v f.body
   simp only [w3n,x6r,wPr,gPr];omega
theorem w7z (p:Pg):wPg p≤gPg p:=by
 have:=x1d p.globals;have:=w0h p.procs
 unfold wPg gPg;omega
def QI (x:Int):Int:=if x>20000 then 20001 else x
theorem XM {a b:Int} (hb:0≤b):QI (QI a+b)=QI (a+b):=by
 unfold QI
 split<;>split<;>(try split)<;>omega
theorem XB {a:Int} (h:0≤a):0≤QI a∧QI a≤20001:=by
 unfold QI
 split<;>omega
theorem q8s {a:Int} (h:a≤20001):QI a=a:=by
 unfold QI
 split<;>omega
theorem VI {a b:Int} (h:a>20000) (h1:a≤20001) (hb:0≤b):a=QI (a+b):=by
 unfold QI
 split<;>omega
theorem QP (s:Str) (n:Int) (hn:0≤n∧n≤20001):SpecP Tryz.prog 77 [.str s,.int .i64 n] (fun r=>r = .int .i64 (QI (n+(1+s.length:Nat)))):=by
 refine SpecP.body KK QQ Tryz.func77 rfl Tryz.call77 (by show 2≤_;decide) ?_
 conv=>whnf
 repeat' (first|((first|(intro (_:_≤9223372036854775807))|(refine Wr.i64 (by omega) (by omega) ?_));conv=>whnf)|(refine Br.dec (fun _ => ?_) (fun _ => ?_)<;>first|(exfalso;omega)|conv=>whnf))
 all_goals exact RetK.int (by unfold QI;(repeat' split)<;>omega)
theorem XG (l:List Str) (n:Int) (hn:0≤n∧n≤20001):SpecP Tryz.prog 76 [QD l,.int .i64 n] (fun r=>r = .int .i64 (QI (n+BZ l))):=by
 refine SpecP.body JY QQ Tryz.func76 rfl Tryz.call76 (by show 2≤_;decide) ?_
 conv=>whnf
 skip
 have hl:(l.map AV.str).length=l.length:=List.length_map _
 refine LoopK.inv QQ (fun x:Nat×Int=>⟨[(0,.p (QD l)),(1,.p (.int .i64 x.2)),(5,.p (.int .i64 x.1))],[]⟩) (fun x=>x.1≤l.length∧(0≤x.2∧x.2≤20001)∧QI (x.2+BZ (l.drop x.1))=QI (n+BZ l)) (fun x=>l.length-x.1) (0,n) (Le.of_eq rfl) ⟨Nat.zero_le _,hn,rfl⟩ ?_
 rintro ⟨j,m⟩ ⟨h2,h3,h4⟩
 simp only at h2 h3 h4 ⊢
 rcases Nat.lt_or_ge j l.length with hj|hj
 ·rw [List.drop_eq_getElem_cons hj,BZ] at h4
  conv=>whnf
  repeat' (first|((first|(intro (_:_≤9223372036854775807))|(refine CallK.pure (QP _ _ h3) (by repeat' (first|exact ArgP.nil|refine ArgP.cons ?_ ?_|exact Sub.refl _|exact Sub.tt rfl|exact Sub.ff rfl|exact Sub.int (by omega))) ?_;rintro _ rfl)|(refine IdxK.map (by omega) (fun _=>rfl) ?_)|(refine Wr.i64 (by omega) (by omega) ?_));conv=>whnf)|(refine Br.dec (fun _ => ?_) (fun _ => ?_)<;>first|(exfalso;omega)|conv=>whnf))
  ·have h5:QI (QI (m+(1+l[j].length:Nat))+BZ (l.drop (j+1)))=QI (n+BZ l):=by
    rw [XM (by omega),← h4]
    congr 1
    omega
   exact ⟨(j+1,QI (m+(1+l[j].length:Nat))),⟨by simp only;omega,XB (by omega),h5⟩,by simp only;omega,Le.of_eq rfl⟩
  ·exact RetK.int (by rw [← h4];exact VI (by omega) h3.2 (by omega))
 ·rw [List.drop_eq_nil_of_le hj,BZ] at h4
  conv=>whnf
  repeat' (first|(intro (_:_≤9223372036854775807);conv=>whnf)|(refine Br.dec (fun _ => ?_) (fun _ => ?_)<;>first|(exfalso;omega)|conv=>whnf))
  exact RetK.int (by rw [← h4,q8s (by omega)];simp)
theorem VG : ∀ (k:Nat) (x:X) (_:gX x<k) (n:Int) (_:0≤n∧n≤20001),SpecP Tryz.prog 135 [.agg x.cells,.int .i64 n] (fun r=>r = .int .i64 (QI (n+gX x))):=by
 intro k
 induction k with
 | zero=>intro x h;omega
 | succ k ih =>
   intro x hx n hn
   have hxe:gX x=1+x.name.length+gXs x.kids:=by cases x;rw [gX];rfl
   have hkl:=X.avs_len x.kids
   refine SpecP.body KH QQ Tryz.func135 rfl Tryz.call135 (by show 2≤_;decide) ?_
   conv=>whnf
   repeat' (refine CallK.pure (QP _ _ hn) (by repeat' (first|exact ArgP.nil|refine ArgP.cons ?_ ?_|exact Sub.refl _|exact Sub.tt rfl|exact Sub.ff rfl|exact Sub.int (by omega))) ?_;rintro _ rfl;conv=>whnf)
   refine LoopK.inv QQ (fun y:Nat×Int=>⟨[(1,.p (.int .i64 y.2)),(2,.p (.ip x.cells)),(5,.p (.int .i64 y.1))],[]⟩) (fun y=>y.1≤x.kids.length∧(0≤y.2∧y.2≤20001)∧QI (y.2+gXs (x.kids.drop y.1))=QI (n+gX x)) (fun y=>x.kids.length-y.1) (0,QI (n+(1+x.name.length:Nat))) (Le.of_eq rfl) ⟨Nat.zero_le _,XB (by omega),by
    show QI (QI (n+(1+x.name.length:Nat))+gXs x.kids)=_
    rw [XM (by omega),hxe]
    congr 1
    omega⟩ ?_
   rintro ⟨j,m⟩ ⟨h2,h3,h4⟩
   simp only at h2 h3 h4 ⊢
   rcases Nat.lt_or_ge j x.kids.length with hj|hj
   ·rw [List.drop_eq_getElem_cons hj,gXs] at h4
    have hkw:gX x.kids[j]<k:=by
     have : ∀ (l:List X) (y:X),y∈l→gX y≤gXs l:=fun l=>by
      induction l with
      | nil=>intro y h;cases h
      | cons a r ih =>
        intro y h
        rw [gXs]
        rcases List.mem_cons.1 h with rfl|h
        ·omega
        ·have:=ih y h;omega
     have:=this x.kids _ (List.getElem_mem hj)
     omega
    conv=>whnf
    repeat' (first|((first|(intro (_:_≤9223372036854775807))|(refine IdxK.xs (by omega) ?_)|(refine Wr.i64 (by omega) (by omega) ?_)|(refine CallK.pure (ih (x.kids[j]'hj) hkw m h3) (.cons (Sub.refl _) (.cons (Sub.refl _) .nil)) ?_;rintro _ rfl));conv=>whnf)|(refine Br.dec (fun _ => ?_) (fun _ => ?_)<;>first|(exfalso;omega)|conv=>whnf))
    ·have h5:QI (QI (m+gX x.kids[j])+gXs (x.kids.drop (j+1)))=QI (n+gX x):=by
      rw [XM (by omega),← h4]
      congr 1
      omega
     exact ⟨(j+1,QI (m+gX x.kids[j])),⟨by simp only;omega,XB (by omega),h5⟩,by simp only;omega,Le.of_eq rfl⟩
    ·exact RetK.int (by rw [← h4];exact VI (by omega) h3.2 (by omega))
   ·rw [List.drop_eq_nil_of_le hj,gXs] at h4
    conv=>whnf
    repeat' (first|(intro (_:_≤9223372036854775807);conv=>whnf)|(refine Br.dec (fun _ => ?_) (fun _ => ?_)<;>first|(exfalso;omega)|conv=>whnf))
    exact RetK.int (by rw [← h4,q8s (by omega)];simp)
theorem w1u : ∀ (l:List S) (y:S),y∈l→gS y≤gL l
 | [],y,h=>by cases h
 | a::r,y,h=>by
   rw [gL]
   rcases List.mem_cons.1 h with rfl|h
   ·omega
   ·have:=w1u r y h;omega
theorem WS : ∀ (k:Nat) (l:List S) (_:gL l<k) (n:Int) (_:0≤n∧n≤20001),SpecP Tryz.prog 78 [eSs l,.int .i64 n] (fun r=>r = .int .i64 (QI (n+gL l))):=by
 intro k
 induction k with
 | zero=>intro l h;omega
 | succ k ih =>
   intro l hl n hn
   have hkl:=S.avs_len l
   refine SpecP.body JR QQ Tryz.func78 rfl Tryz.call78 (by show 2≤_;decide) ?_
   conv=>whnf
   skip
   refine LoopK.inv QQ (fun y:Nat×Int=>⟨[(0,.p (eSs l)),(1,.p (.int .i64 y.2)),(5,.p (.int .i64 y.1))],[]⟩) (fun y=>y.1≤l.length∧(0≤y.2∧y.2≤20001)∧QI (y.2+gL (l.drop y.1))=QI (n+gL l)) (fun y=>l.length-y.1) (0,n) (Le.of_eq rfl) ⟨Nat.zero_le _,hn,rfl⟩ ?_
   rintro ⟨j,m⟩ ⟨h2,h3,h4⟩
   simp only at h2 h3 h4 ⊢
   rcases Nat.lt_or_ge j l.length with hj|hj
   rotate_left 1
   ·rw [List.drop_eq_nil_of_le hj,gL] at h4
    conv=>whnf
    repeat' (first|(intro (_:_≤9223372036854775807);conv=>whnf)|(refine Br.dec (fun _ => ?_) (fun _ => ?_)<;>first|(exfalso;omega)|conv=>whnf))
    exact RetK.int (by rw [← h4,q8s (by omega)];simp)
   rw [List.drop_eq_getElem_cons hj,gL] at h4
   have hsw:=w1u l _ (List.getElem_mem hj)
   have hse:=w6r l[j]
   have q1:=XB (a:=m+gX l[j].x) (by omega)
   have q2:=XB (a:=QI (m+gX l[j].x)+BZ l[j].labels) (by omega)
   have q3:=XB (a:=QI (QI (m+gX l[j].x)+BZ l[j].labels)+(1+l[j].name.length:Nat)) (by omega)
   conv=>whnf
   repeat' (first|((first|(intro (_:_≤9223372036854775807))|(refine DrawK.auto QQ mixed (by kernel_rfl) ?_)|(refine And.intro rfl ?_)|(refine IdxK.ss (by omega) ?_)|(refine CallK.pure (VG (gX l[j].x+1) l[j].x (by omega) m h3) (.cons (Sub.refl _) (.cons (Sub.refl _) .nil)) ?_;rintro _ rfl)|(refine CallK.pure (XG l[j].labels _ q1) (.cons (Sub.refl _) (.cons (Sub.refl _) .nil)) ?_;rintro _ rfl)|(refine CallK.pure (QP l[j].name _ q2) (.cons (Sub.refl _) (.cons (Sub.refl _) .nil)) ?_;rintro _ rfl)|(refine CallK.pure (QP l[j].proc _ q3) (.cons (Sub.refl _) (.cons (Sub.refl _) .nil)) ?_;rintro _ rfl));conv=>whnf)|(refine Br.dec (fun _ => ?_) (fun _ => ?_)<;>first|(exfalso;omega)|conv=>whnf))
   rotate_left 1
   ·exact RetK.int (by rw [← h4];exact VI (by omega) h3.2 (by omega))
   have q4:=XB (a:=QI (QI (QI (m+gX l[j].x)+BZ l[j].labels)+(1+l[j].name.length:Nat))+(1+l[j].proc.length:Nat)) (by omega)
   have h5:QI (QI (QI (QI (QI (m+gX l[j].x)+BZ l[j].labels)+(1+l[j].name.length:Nat))+(1+l[j].proc.length:Nat))+(q6l l[j].args+(gL l[j].thn+gL l[j].els+gL (l.drop (j+1))):Nat))=QI (n+gL l):=by
    rw [XM (by omega),Int.add_assoc,XM (by omega),Int.add_assoc,XM (by omega),Int.add_assoc,XM (by omega),← h4,hse]
    congr 1
    omega
   generalize QI (QI (QI (QI (m+gX l[j].x)+BZ l[j].labels)+(1+l[j].name.length:Nat))+(1+l[j].proc.length:Nat))=m0 at q4 h5 ⊢
   have hal:(l[j].args.map fun a=>AV.agg a.cells).length=l[j].args.length:=List.length_map _
   refine LoopK.inv QQ (fun y:Nat×Int=>⟨[(0,.p (eSs l)),(1,.p (.int .i64 y.2)),(5,.p (.int .i64 j)),(6,.p (.ip l[j].cells)),(7,.p (.int .i64 y.1))],[]⟩) (fun y=>y.1≤l[j].args.length∧(0≤y.2∧y.2≤20001)∧QI (y.2+(q6l (l[j].args.drop y.1)+(gL l[j].thn+gL l[j].els+gL (l.drop (j+1))):Nat))=QI (n+gL l)) (fun y=>l[j].args.length-y.1) (0,m0) (Le.of_eq rfl) ⟨Nat.zero_le _,q4,h5⟩ ?_
   rintro ⟨a,m2⟩ ⟨h6,h7,h8⟩
   simp only at h6 h7 h8 ⊢
   have fin:QI (m2+(gL l[j].thn+gL l[j].els+gL (l.drop (j+1)):Nat))=QI (n+gL l)→(0≤QI (QI (m2+gL l[j].thn)+gL l[j].els)∧QI (QI (m2+gL l[j].thn)+gL l[j].els)≤20001)∧QI (QI (QI (m2+gL l[j].thn)+gL l[j].els)+gL (l.drop (j+1)))=QI (n+gL l):=fun h=>by
    have:=XB (a:=m2+gL l[j].thn) (by omega)
    refine ⟨XB (by omega),?_⟩
    rw [XM (by omega),Int.add_assoc,XM (by omega),← h]
    congr 1
    omega
   have r1:=XB (a:=m2+gL l[j].thn) (by omega)
   have full:m2>20000→QI (m2+(gL l[j].thn+gL l[j].els+gL (l.drop (j+1)):Nat))=QI (n+gL l):=fun h=>by
    rw [← h8,← VI h h7.2 (by omega),← VI h h7.2 (by omega)]
   rcases Nat.lt_or_ge a l[j].args.length with ha|ha
   rotate_left 1
   ·have h9:QI (m2+(gL l[j].thn+gL l[j].els+gL (l.drop (j+1)):Nat))=QI (n+gL l):=by
     rw [List.drop_eq_nil_of_le ha,q6l,Nat.zero_add] at h8
     exact h8
    obtain ⟨f1,f2⟩:=fin h9
    conv=>whnf
    repeat' (first|((first|(intro (_:_≤9223372036854775807))|(refine DrawK.auto QQ mixed (by kernel_rfl) ?_)|(refine Wr.i64 (by omega) (by omega) ?_)|(refine CallK.pure (ih l[j].thn (by omega) m2 h7) (.cons (Sub.refl _) (.cons (Sub.refl _) .nil)) ?_;rintro _ rfl)|(refine CallK.pure (ih l[j].els (by omega) _ r1) (.cons (Sub.refl _) (.cons (Sub.refl _) .nil)) ?_;rintro _ rfl));conv=>whnf)|(refine Br.dec (fun _ => ?_) (fun _ => ?_)<;>first|(exfalso;omega)|conv=>whnf))
    all_goals exact ⟨(j+1,QI (QI (m2+gL l[j].thn)+gL l[j].els)),⟨by simp only;omega,f1,f2⟩,by simp only;omega,Le.of_eq rfl⟩
   rw [List.drop_eq_getElem_cons ha,q6l] at h8
   have q5:=XB (a:=m2+gX l[j].args[a].x) (by omega)
   conv=>whnf
   repeat' (first|((first|(intro (_:_≤9223372036854775807))|(refine DrawK.auto QQ mixed (by kernel_rfl) ?_)|(refine IdxK.map (by omega) (fun _=>rfl) ?_)|(refine Wr.i64 (by omega) (by omega) ?_)|(refine CallK.pure (VG (gX l[j].args[a].x+1) l[j].args[a].x (by omega) m2 h7) (.cons (Sub.refl _) (.cons (Sub.refl _) .nil)) ?_;rintro _ rfl)|(refine CallK.pure (QP l[j].args[a].name _ q5) (.cons (Sub.refl _) (.cons (Sub.refl _) .nil)) ?_;rintro _ rfl)|(refine CallK.pure (ih l[j].thn (by omega) m2 h7) (.cons (Sub.refl _) (.cons (Sub.refl _) .nil)) ?_;rintro _ rfl)|(refine CallK.pure (ih l[j].els (by omega) _ r1) (.cons (Sub.refl _) (.cons (Sub.refl _) .nil)) ?_;rintro _ rfl));conv=>whnf)|(refine Br.dec (fun _ => ?_) (fun _ => ?_)<;>first|(exfalso;omega)|conv=>whnf))
   ·have h10:QI (QI (QI (m2+gX l[j].args[a].x)+(1+l[j].args[a].name.length:Nat))+(q6l (l[j].args.drop (a+1))+(gL l[j].thn+gL l[j].els+gL (l.drop (j+1))):Nat))=QI (n+gL l):=by
     rw [XM (by omega),Int.add_assoc,XM (by omega),← h8]
     congr 1
     omega
    exact ⟨(a+1,QI (QI (m2+gX l[j].args[a].x)+(1+l[j].args[a].name.length:Nat))),⟨by simp only;omega,XB (by omega),h10⟩,by simp only;omega,Le.of_eq rfl⟩
   ·obtain ⟨f1,f2⟩:=fin (full (by omega))
    exact ⟨(j+1,QI (QI (m2+gL l[j].thn)+gL l[j].els)),⟨by simp only;omega,f1,f2⟩,by simp only;omega,Le.of_eq rfl⟩
open Go.Proofs
def w0g (p:Pg):Bool:=decide (gPg p≤20000)
theorem w4j {p:Pg} (h:w0g p=true):Fit p:=by
 have:=w7z p
 have h1:gPg p≤20000:=by simpa [w0g] using h
 unfold Fit
 omega
theorem VP (p:Pg):SpecP Tryz.prog 16 [.agg p.cells] (fun r=>r = .bool (w0g p)):=by
 refine SpecP.body PF QQ Tryz.func16 rfl Tryz.call16 (by show 1≤_;decide) ?_
 conv=>whnf
 have hl:(p.procs.map fun f=>AV.agg f.cells).length=p.procs.length:=List.length_map _
 have q0:=XB (a:=0+BZ p.globals) (by omega)
 repeat' (refine CallK.pure (XG p.globals 0 (by omega)) (.cons (Sub.refl _) (.cons (Sub.refl _) .nil)) ?_;rintro _ rfl;conv=>whnf)
 refine LoopK.inv QQ (fun y:Nat×Int=>⟨[(1,.p (.ip p.cells)),(3,.p (.int .i64 y.2)),(4,.p (.int .i64 y.1))],[]⟩) (fun y=>y.1≤p.procs.length∧(0≤y.2∧y.2≤20001)∧QI (y.2+x6r (p.procs.drop y.1))=QI (gPg p:Nat)) (fun y=>p.procs.length-y.1) (0,QI (0+BZ p.globals)) (Le.of_eq rfl) ⟨Nat.zero_le _,q0,by
  show QI (QI (0+BZ p.globals)+x6r p.procs)=_
  rw [XM (by omega)]
  congr 1
  unfold gPg
  omega⟩ ?_
 rintro ⟨j,m⟩ ⟨h2,h3,h4⟩
 simp only at h2 h3 h4 ⊢
 have last : ∀ {x:Int},0≤x∧x≤20001→QI x=QI (gPg p:Nat)→(decide (x≤20000))=w0g p:=fun {x} hx h=>by
  unfold w0g
  unfold QI at h
  by_cases h1:gPg p≤20000
  ·rw [decide_eq_true h1,decide_eq_true_eq]
   split at h<;>split at h<;>omega
  ·rw [decide_eq_false h1,decide_eq_false_iff_not]
   split at h<;>split at h<;>omega
 rcases Nat.lt_or_ge j p.procs.length with hj|hj
 rotate_left 1
 ·rw [List.drop_eq_nil_of_le hj,x6r] at h4
  conv=>whnf
  repeat' (first|(intro (_:_≤9223372036854775807);conv=>whnf)|(refine Br.dec (fun _ => ?_) (fun _ => ?_)<;>first|(exfalso;omega)|conv=>whnf))
  all_goals exact RetK.bool (last h3 (by rw [← h4];simp))
 rw [List.drop_eq_getElem_cons hj,x6r] at h4
 have hpe:gPr p.procs[j]=1+p.procs[j].name.length+BZ p.procs[j].vars+BZ p.procs[j].fin+z7q p.procs[j].params+gL p.procs[j].body:=rfl
 have q1:=XB (a:=m+(1+p.procs[j].name.length:Nat)) (by omega)
 have q2:=XB (a:=QI (m+(1+p.procs[j].name.length:Nat))+BZ p.procs[j].vars) (by omega)
 have q3:=XB (a:=QI (QI (m+(1+p.procs[j].name.length:Nat))+BZ p.procs[j].vars)+BZ p.procs[j].fin) (by omega)
 conv=>whnf
 repeat' (first|((first|(intro (_:_≤9223372036854775807))|(refine DrawK.auto QQ mixed (by kernel_rfl) ?_)|(refine And.intro rfl ?_)|(refine IdxK.map (by omega) (fun _=>rfl) ?_)|(refine CallK.pure (QP p.procs[j].name _ h3) (.cons (Sub.refl _) (.cons (Sub.refl _) .nil)) ?_;rintro _ rfl)|(refine CallK.pure (XG p.procs[j].vars _ q1) (.cons (Sub.refl _) (.cons (Sub.refl _) .nil)) ?_;rintro _ rfl)|(refine CallK.pure (XG p.procs[j].fin _ q2) (.cons (Sub.refl _) (.cons (Sub.refl _) .nil)) ?_;rintro _ rfl));conv=>whnf)|(refine Br.dec (fun _ => ?_) (fun _ => ?_)<;>first|(exfalso;omega)|conv=>whnf))
 rotate_left 1
 ·exact RetK.bool (last h3 (by rw [← h4,← VI (by omega) h3.2 (by omega),q8s h3.2]))
 have h5:QI (QI (QI (QI (m+(1+p.procs[j].name.length:Nat))+BZ p.procs[j].vars)+BZ p.procs[j].fin)+(z7q p.procs[j].params+(gL p.procs[j].body+x6r (p.procs.drop (j+1))):Nat))=QI (gPg p:Nat):=by
  rw [XM (by omega),Int.add_assoc,XM (by omega),Int.add_assoc,XM (by omega),← h4,hpe]
  congr 1
  omega
 generalize QI (QI (QI (m+(1+p.procs[j].name.length:Nat))+BZ p.procs[j].vars)+BZ p.procs[j].fin)=m0 at q3 h5 ⊢
 have hal:(p.procs[j].params.map fun a=>AV.agg a.cells).length=p.procs[j].params.length:=List.length_map _
 refine LoopK.inv QQ (fun y:Nat×Int=>⟨[(1,.p (.ip p.cells)),(3,.p (.int .i64 y.2)),(4,.p (.int .i64 j)),(5,.p (.ip p.procs[j].cells)),(6,.p (.int .i64 y.1))],[]⟩) (fun y=>y.1≤p.procs[j].params.length∧(0≤y.2∧y.2≤20001)∧QI (y.2+(z7q (p.procs[j].params.drop y.1)+(gL p.procs[j].body+x6r (p.procs.drop (j+1))):Nat))=QI (gPg p:Nat)) (fun y=>p.procs[j].params.length-y.1) (0,m0) (Le.of_eq rfl) ⟨Nat.zero_le _,q3,h5⟩ ?_
 rintro ⟨a,m2⟩ ⟨h6,h7,h8⟩
 simp only at h6 h7 h8 ⊢
 have fin:QI (m2+(gL p.procs[j].body+x6r (p.procs.drop (j+1)):Nat))=QI (gPg p:Nat)→(0≤QI (m2+gL p.procs[j].body)∧QI (m2+gL p.procs[j].body)≤20001)∧QI (QI (m2+gL p.procs[j].body)+x6r (p.procs.drop (j+1)))=QI (gPg p:Nat):=fun h=>by
  refine ⟨XB (by omega),?_⟩
  rw [XM (by omega),← h]
  congr 1
  omega
 have full:m2>20000→QI (m2+(gL p.procs[j].body+x6r (p.procs.drop (j+1)):Nat))=QI (gPg p:Nat):=fun h=>by
  rw [← h8,← VI h h7.2 (by omega),← VI h h7.2 (by omega)]
 rcases Nat.lt_or_ge a p.procs[j].params.length with ha|ha
 rotate_left 1
 ·have h9:QI (m2+(gL p.procs[j].body+x6r (p.procs.drop (j+1)):Nat))=QI (gPg p:Nat):=by
   rw [List.drop_eq_nil_of_le ha,z7q,Nat.zero_add] at h8
   exact h8
  obtain ⟨f1,f2⟩:=fin h9
  conv=>whnf
  repeat' (first|((first|(intro (_:_≤9223372036854775807))|(refine Wr.i64 (by omega) (by omega) ?_)|(refine CallK.pure (WS (gL p.procs[j].body+1) p.procs[j].body (by omega) m2 h7) (.cons (Sub.refl _) (.cons (Sub.refl _) .nil)) ?_;rintro _ rfl));conv=>whnf)|(refine Br.dec (fun _ => ?_) (fun _ => ?_)<;>first|(exfalso;omega)|conv=>whnf))
  all_goals exact ⟨(j+1,QI (m2+gL p.procs[j].body)),⟨by simp only;omega,f1,f2⟩,by simp only;omega,Le.of_eq rfl⟩
 rw [List.drop_eq_getElem_cons ha,z7q] at h8
 conv=>whnf
 repeat' (first|((first|(intro (_:_≤9223372036854775807))|(refine IdxK.map (by omega) (fun _=>rfl) ?_)|(refine Wr.i64 (by omega) (by omega) ?_)|(refine CallK.pure (QP p.procs[j].params[a].name _ h7) (.cons (Sub.refl _) (.cons (Sub.refl _) .nil)) ?_;rintro _ rfl)|(refine CallK.pure (WS (gL p.procs[j].body+1) p.procs[j].body (by omega) m2 h7) (.cons (Sub.refl _) (.cons (Sub.refl _) .nil)) ?_;rintro _ rfl));conv=>whnf)|(refine Br.dec (fun _ => ?_) (fun _ => ?_)<;>first|(exfalso;omega)|conv=>whnf))
 ·have h10:QI (QI (m2+(1+p.procs[j].params[a].name.length:Nat))+(z7q (p.procs[j].params.drop (a+1))+(gL p.procs[j].body+x6r (p.procs.drop (j+1))):Nat))=QI (gPg p:Nat):=by
   rw [XM (by omega),← h8]
   congr 1
   omega
  exact ⟨(a+1,QI (m2+(1+p.procs[j].params[a].name.length:Nat))),⟨by simp only;omega,XB (by omega),h10⟩,by simp only;omega,Le.of_eq rfl⟩
 ·obtain ⟨f1,f2⟩:=fin (full (by omega))
  exact ⟨(j+1,QI (m2+gL p.procs[j].body)),⟨by simp only;omega,f1,f2⟩,by simp only;omega,Le.of_eq rfl⟩
open Go.Proofs
inductive SubE:List AV→List AV→Prop
 | nil:SubE [] []
 | cons {a b:AV} {xs ys:List AV} (h:SubL a.cells b.cells) (hs:SubE xs ys):SubE (a::xs) (b::ys)
theorem SubE.get {xs ys:List AV} (h:SubE xs ys):xs.length=ys.length ∧ ∀ (i:Nat) (b:AV),ys[i]? = some b → ∃ a,xs[i]? = some a∧SubL a.cells b.cells:=by
 induction h with
 | nil=>exact ⟨rfl,by simp⟩
 | cons h hs ih =>
   refine ⟨by simp [ih.1],fun i b hb => ?_⟩
   cases i with
   | zero=>simp at hb;subst hb;exact ⟨_,rfl,h⟩
   | succ i=>exact ih.2 i b (by simpa using hb)
theorem Sub.sl {xs ys:List AV} (h:SubE xs ys):Sub (.sl xs) (.sl ys):=fun σ v hr=>by
 obtain ⟨hl,hg⟩:=h.get
 cases hr with
 | nilsl =>
   obtain rfl:ys=[]:=by simpa using hl.symm
   exact .nilsl
 | slz b =>
   obtain rfl:ys=[]:=by simpa using hl.symm
   exact .slz b
 | sl _ b off cap sz cells u hb hcap hmax hsz hc hrr =>
   rw [hl]
   refine .sl ys b off cap sz cells u hb (by omega) hmax (fun i e hi => ?_) (fun i e j c hi hj => ?_) (fun i e j c hi hj => ?_)
   ·obtain ⟨a,h1,h2⟩:=hg i e hi
    rw [← hsz i a h1,h2.1]
   ·obtain ⟨a,h1,h2⟩:=hg i e hi
    obtain ⟨d,h3,_⟩:=h2.get hj
    exact hc i a j d h1 h3
   ·obtain ⟨a,h1,h2⟩:=hg i e hi
    obtain ⟨d,h3,h4⟩:=h2.get hj
    exact h4 _ _ (hrr i a j d h1 h3)
theorem q2g (n:Int):SpecP Tryz.prog 131 [.int .i64 n] (fun r=>r = .agg (X.mk 1 n [] []).cells):=by
 refine SpecP.body MC QQ Tryz.func131 rfl Tryz.call131 (by show 1≤_;decide) ?_
 conv=>whnf
 repeat' (refine And.intro rfl ?_;conv=>whnf)
 exact ⟨_,.p (Sub.agg (by repeat' (first|exact SubL.nil|refine SubL.cons ?_ ?_|exact Sub.refl _|exact Sub.nils|exact Sub.ff rfl))),rfl⟩
theorem LS (s:Str):SpecP Tryz.prog 132 [.str s] (fun r=>r = .agg (X.mk 2 0 s []).cells):=by
 refine SpecP.body BM QQ Tryz.func132 rfl Tryz.call132 (by show 1≤_;decide) ?_
 conv=>whnf
 repeat' (refine And.intro rfl ?_;conv=>whnf)
 exact ⟨_,.p (Sub.agg (by repeat' (first|exact SubL.nil|refine SubL.cons ?_ ?_|exact Sub.refl _|exact Sub.nils|exact Sub.ff rfl))),rfl⟩
theorem HW (op:Int) (a b:X):SpecP Tryz.prog 133 [.int .i64 op,.agg a.cells,.agg b.cells] (fun r=>r = .agg (X.mk op 0 [] [a,b]).cells):=by
 refine SpecP.body LJ QQ Tryz.func133 rfl Tryz.call133 (by show 3≤_;decide) ?_
 conv=>whnf
 repeat' ((first|(refine And.intro rfl ?_)|(refine And.intro ⟨by decide,by decide⟩ ?_)|(refine BsK.pureL rfl rfl ?_));conv=>whnf)
 have e:X.avs [a,b]=[.agg a.cells,.agg b.cells]:=by simp only [X.avs,X.av_eq]
 exact ⟨_,.p (Sub.agg (SubL.cons (Sub.refl _) (SubL.cons (Sub.refl _) (SubL.cons (Sub.refl _) (SubL.cons (Sub.of_eq (by show _=AV.sl (X.avs [a,b]);rw [e];rfl)) SubL.nil))))),rfl⟩
def bs (l:List Nat):Str:=l.map fun n=>UInt8.ofNat n
def someP:Pg:=⟨[[103]],[
 ⟨[109,97,105,110],[],[[118]],[
   .mk 1 1 [] [118] [] (.mk 1 2 [] []) false [] [] [],
   .mk 2 4 [] [103] [112] (.mk 0 0 [] []) false [⟨false,[],.mk 1 3 [] []⟩,⟨true,[118],.mk 0 0 [] []⟩] [] [],
   .mk 3 3 [] [] [] (.mk 2 0 [118] []) false [] [] [],
   .mk 4 3 [] [] [] (.mk 2 0 [103] []) false [] [] []],[]⟩,
 ⟨[112],[⟨[120],false⟩,⟨[121],true⟩],[],[
   .mk 5 1 [] [121] [] (.mk 8 0 [] [.mk 2 0 [121] [],.mk 2 0 [120] []]) false [] [] [],
   .mk 6 5 [] [] [] (.mk 12 0 [] [.mk 2 0 [121] [],.mk 1 9 [] []]) false [] [.mk 7 10 [] [101] [] (.mk 0 0 [] []) false [] [] []] [],
   .mk 8 9 [] [] [] (.mk 2 0 [121] []) true [] [] []],[[101]]⟩]⟩
theorem LN:SpecP Tryz.prog 74 [] (fun r=>r = .agg someP.cells):=by
 refine SpecP.body PJ QQ Tryz.func74 rfl Tryz.call74 (by show 0≤_;decide) ?_
 conv=>whnf
 repeat' ((first|(refine CallK.pure (q2g _) (by repeat' (first|exact ArgP.nil|refine ArgP.cons ?_ ?_|exact Sub.refl _|exact Sub.tt rfl|exact Sub.ff rfl)) ?_;rintro _ rfl)|(refine CallK.pure (LS _) (by repeat' (first|exact ArgP.nil|refine ArgP.cons ?_ ?_|exact Sub.refl _|exact Sub.tt rfl|exact Sub.ff rfl)) ?_;rintro _ rfl)|(refine And.intro rfl ?_)|(refine And.intro ⟨by decide,by decide⟩ ?_)|(refine BsK.pure (fun x hx=>by rcases List.mem_singleton.1 hx with rfl;rfl) rfl ?_)|(refine BsK.pureL rfl rfl ?_)|(refine CallK.pure (HW 8 (.mk 2 0 [121] []) (.mk 2 0 [120] [])) (.cons (Sub.refl _) (.cons (Sub.refl _) (.cons (Sub.refl _) .nil))) ?_;rintro _ rfl)|(refine CallK.pure (HW 12 (.mk 2 0 [121] []) (.mk 1 9 [] [])) (.cons (Sub.refl _) (.cons (Sub.refl _) (.cons (Sub.refl _) .nil))) ?_;rintro _ rfl));conv=>whnf)
 exact ⟨_,.p (Sub.agg (by repeat' (first|exact SubL.nil|exact SubE.nil|exact Sub.nils|exact Sub.ff rfl|exact Sub.tt rfl|refine SubL.cons ?_ ?_|refine SubE.cons ?_ ?_|exact Sub.refl _|refine Sub.agg ?_|refine Sub.sl ?_))),rfl⟩
open Go.Proofs
theorem x0x:Fit someP:=by unfold Fit;decide
theorem q2d:ZQ someP=true:=by kernel_rfl
def f0:Pr:=someP.procs[0]'(by decide)
def f1:Pr:=someP.procs[1]'(by decide)
theorem w7y:WQ (QK someP 0 f0)=[⟨0,1,1⟩,⟨1,2,1⟩,⟨2,3,1⟩,⟨3,4,1⟩,⟨4,-1,1⟩]:=by
 have h1:QK someP 0 f0=[⟨0,1,1⟩,⟨1,2,1⟩,⟨2,3,1⟩,⟨3,4,1⟩,⟨4,-1,1⟩]:=by kernel_rfl
 unfold WQ UJ
 rw [h1,List.mergeSort_of_pairwise (by decide)]
 rfl
theorem w7x:WQ (QK someP 1 f1)=[⟨0,5,1⟩,⟨5,6,1⟩,⟨6,7,1⟩,⟨6,8,1⟩,⟨7,-1,1⟩,⟨8,-1,1⟩]:=by
 have h1:QK someP 1 f1=[⟨0,5,1⟩,⟨5,6,1⟩,⟨6,7,1⟩,⟨6,8,1⟩,⟨7,-1,1⟩,⟨8,-1,1⟩]:=by kernel_rfl
 unfold WQ UJ
 rw [h1,List.mergeSort_of_pairwise (by decide)]
 rfl
theorem x7c:LE someP [112]=some (QX someP 1 f1):=by
 unfold LE
 rw [q2d]
 rfl
open Go.Proofs
open Go.Proofs
open Go.Proofs
theorem z5r {p:Pg} (h:ZQ p=true):p.procs.length≤20000:=by have:=(FE h).2.1;omega
open Go.Proofs
theorem z0x : ∀ (k:Nat) (l:List S) (_:QV l<k) (_:QV l≤1000000),SpecP Tryz.prog 80 [eSs l] (fun r=>r = .int .i64 (QV l)):=by
 intro k
 induction k with
 | zero=>intro l h;omega
 | succ k ih =>
   intro l hk hl
   have hll:=S.avs_len l
   have hlc:l.length≤QV l:=by
    clear hk hl hll
    induction l with
    | nil=>simp
    | cons t r ihr=>rw [QV,WK,List.length_cons];omega
   refine SpecP.body x2d QQ Tryz.func80 rfl Tryz.call80 (by show 1≤_;decide) ?_
   conv=>whnf
   repeat' (intro (_:_≤9223372036854775807);conv=>whnf)
   refine LoopK.inv QQ (fun y:Nat×Nat=>⟨[(0,.p (eSs l)),(3,.p (.int .i64 y.2)),(8,.p (.int .i64 (S.avs l).length)),(9,.p (.int .i64 y.1))],[]⟩) (fun y=>y.1≤l.length∧y.2+QV (l.drop y.1)=QV l+(l.length-y.1)) (fun y=>l.length-y.1) (0,l.length) (Le.of_eq (by simp only [S.avs_len];rfl)) ⟨Nat.zero_le _,by simp;omega⟩ ?_
   rintro ⟨j,n⟩ ⟨h2,h3⟩
   simp only at h2 h3 ⊢
   rcases Nat.lt_or_ge j l.length with hj|hj
   ·have hst:=LW hj
    have hcs:=WK l[j]
    have h4:QV (l.drop j)≤QV l:=by
     have : ∀ (l:List S) (j:Nat),QV (l.drop j)≤QV l:=fun l=>by
      induction l with
      | nil=>intro j;simp
      | cons t r ihr =>
        intro j
        cases j with
        | zero=>simp
        | succ j=>rw [List.drop_succ_cons,QV];have:=ihr j;omega
     exact this l j
    conv=>whnf
    repeat' (first|((first|(refine DrawK.auto QQ mixed (by kernel_rfl) ?_)|(refine IdxK.ss (by omega) ?_)|(refine Wr.i64 (by omega) (by omega) ?_)|(refine CallK.pure (ih l[j].thn (by omega) (by omega)) (.cons (Sub.refl _) .nil) ?_;rintro _ rfl)|(refine CallK.pure (ih l[j].els (by omega) (by omega)) (.cons (Sub.refl _) .nil) ?_;rintro _ rfl));conv=>whnf)|(refine Br.dec (fun _ => ?_) (fun _ => ?_)<;>first|(exfalso;omega)|conv=>whnf))
    all_goals exact ⟨(j+1,n+(QV l[j].thn+QV l[j].els)),⟨by simp only;omega,by simp only;omega⟩,by simp only;omega,Le.of_eq rfl⟩
   ·conv=>whnf
    rw [List.drop_eq_nil_of_le hj,QV] at h3
    repeat' (refine Br.dec (fun _ => ?_) (fun _ => ?_)<;>first|(exfalso;omega)|conv=>whnf)
    exact RetK.int (by omega)
theorem z2v (p:Pg) (hc:cntP p.procs≤1000):SpecP Tryz.prog 18 [.agg p.cells] (fun r=>r = .int .i64 (cntP p.procs)):=by
 refine SpecP.body x2o QQ Tryz.func18 rfl Tryz.call18 (by show 1≤_;decide) ?_
 conv=>whnf
 have hl2:(p.procs.map fun f=>AV.agg f.cells).length=p.procs.length:=List.length_map _
 repeat' (intro (_:_≤9223372036854775807);conv=>whnf)
 refine LoopK.inv QQ (fun y:Nat×Nat=>⟨[(3,.p (.int .i64 y.2)),(7,.p (.sl (p.procs.map fun f => .agg f.cells))),(8,.p (.int .i64 (p.procs.map fun f=>AV.agg f.cells).length)),(9,.p (.int .i64 y.1))],[]⟩) (fun y=>y.1≤p.procs.length∧y.2+cntP (p.procs.drop y.1)=cntP p.procs) (fun y=>p.procs.length-y.1) (0,0) (Le.of_eq rfl) ⟨Nat.zero_le _,by simp⟩ ?_
 rintro ⟨j,n⟩ ⟨h2,h3⟩
 simp only at h2 h3 ⊢
 rcases Nat.lt_or_ge j p.procs.length with hj|hj
 ·have hst:=q4g hj
  have hcm:=DY _ _ (List.getElem_mem hj)
  conv=>whnf
  repeat' (first|((first|(refine And.intro rfl ?_)|(refine IdxK.map (by omega) (fun _=>rfl) ?_)|(refine Wr.i64 (by omega) (by omega) ?_)|(refine CallK.pure (z0x (QV p.procs[j].body+1) p.procs[j].body (by omega) (by omega)) (.cons (Sub.refl _) .nil) ?_;rintro _ rfl));conv=>whnf)|(refine Br.dec (fun _ => ?_) (fun _ => ?_)<;>first|(exfalso;omega)|conv=>whnf))
  exact ⟨(j+1,n+QV p.procs[j].body),⟨by simp only;omega,by simp only;omega⟩,by simp only;omega,Le.of_eq rfl⟩
 ·conv=>whnf
  rw [List.drop_eq_nil_of_le hj,cntP] at h3
  repeat' (refine Br.dec (fun _ => ?_) (fun _ => ?_)<;>first|(exfalso;omega)|conv=>whnf)
  exact RetK.int (by omega)
def x3q (p:Pg) (most:Int):Bool:=ZQ p&&decide ((cntP p.procs:Int)≤most)
open Go.Proofs
open Go.Proofs
theorem x6a {l:List Str} {x:Str}:inS l x=true↔x∈l:=by
 unfold inS
 rw [List.any_eq_true]
 constructor
 ·rintro ⟨y,h1,h2⟩
  have:y=x:=by simpa using h2
  rw [← this]
  exact h1
 ·intro h
  exact ⟨x,h,by simp⟩
theorem q2m {p:Pg} (h:ZQ p=true) {j:Nat} {f:Pr} (hj:p.procs[j]? = some f) {a:Int} (h1:(QL p.procs j:Int)+1≤a) (h2:a≤(QL p.procs j+QV f.body:Nat)) : ∃ t∈flL f.body,w2e p a=some t∧t.id=a:=by
 obtain ⟨it,h3,h4⟩:=q4o hj (k:=(a-1).toNat) (by omega) (by omega)
 refine ⟨it.s,q3w h4,by unfold w2e;rw [h3];rfl,?_⟩
 obtain ⟨_,_,_,hlen,hsp⟩:=QG p
 obtain ⟨_,_,hle,hd⟩:=hsp j f hj
 have hids:=z3f (XZ h).1 hj
 have h5:(itsOf p j f)[(a-1).toNat-QL p.procs j]? = some it:=by
  unfold itsOf
  rw [← hd,List.getElem?_drop,List.getElem?_take,if_pos (by omega),show QL p.procs j+((a-1).toNat-QL p.procs j)=(a-1).toNat by omega]
  exact h3
 have h6:((itsOf p j f).map fun it=>it.s.id)[(a-1).toNat-QL p.procs j]? = some it.s.id:=by rw [List.getElem?_map,h5];rfl
 rw [hids] at h6
 unfold YR at h6
 rw [List.getElem?_map,List.getElem?_range' (by omega)] at h6
 simp at h6
 omega
open Go.Proofs
structure NoGo (sh:Sheet) (f:Pr) (lo hi:Nat) (T:Int→Prop):Prop where
 cl : ∀ (k:Nat) (it:Item),lo≤k→k<hi→sh.l[k]? = some it→T it.s.id→it.s.kind≠10 ∧ ∀ y∈goesI sh f it,T y
 id : ∀ (k:Nat) (it:Item),lo≤k→k<hi→sh.l[k]? = some it→it.s.id=(k:Int)+1
 ld : ∀ (k:Nat) (it:Item),lo≤k→k<hi→sh.l[k]? = some it→it.s.kind=7∨it.s.kind=8→it.loop≠0
 lp : ∀ (k:Nat) (it:Item),lo≤k→k<hi→sh.l[k]? = some it→it.loop=0 ∨ ∃ u,sh.l[(it.loop-1).toNat]? = some u
def w3p (sh:Sheet) (T:Int→Prop) (nx lp:Int):Prop:=T nx∨T (-1)∨(lp≠0∧(T lp ∨ ∃ u,sh.l[(lp-1).toNat]? = some u∧T u.next))
def atP (sh:Sheet) (n:Nat) (l:List Item):Prop := ∀ (i:Nat) (it:Item),l[i]? = some it→sh.l[n+i]? = some it
theorem atP.left {sh:Sheet} {n:Nat} {a b:List Item} (h:atP sh n (a++b)):atP sh n a:=fun i it hi=>h i it (by
 rw [List.getElem?_append_left (List.getElem?_eq_some_iff.1 hi).1]
 exact hi)
theorem atP.right {sh:Sheet} {n:Nat} {a b:List Item} (h:atP sh n (a++b)):atP sh (n+a.length) b:=fun i it hi=>by
 rw [Nat.add_assoc]
 exact h (a.length+i) it (by rw [List.getElem?_append_right (by omega),Nat.add_sub_cancel_left];exact hi)
theorem w3e (proc up nx lp:Int) (n:Nat) (v:S) (r:List S) : ∃ it∈itL proc up nx lp n (v::r),it.s=v:=by
 rw [itL,w0c]
 exact ⟨_,List.mem_append.2 (.inl List.mem_cons_self),rfl⟩
mutual
theorem w8l {sh:Sheet} {f:Pr} {lo hi:Nat} {T:Int→Prop} (hT:NoGo sh f lo hi T) (proc:Int) : ∀ (t:S) (up nx lp:Int) (n:Nat),atP sh n (itS proc up nx lp n t)→lo≤n→n+XI t≤hi→(∃ it∈itS proc up nx lp n t,T it.s.id)→w3p sh T nx lp
 | .mk id kind labels name pr x has args thn els,up,nx,lp,n,hp,h1,h2,h3=>by
   rw [itS] at hp h3
   rw [XI] at h2
   have hself:sh.l[n]? = some ⟨.mk id kind labels name pr x has args thn els,proc,up,nx,lp⟩:=hp 0 _ rfl
   have hcl:=hT.cl n _ h1 (by omega) hself
   have hid:=hT.id n _ h1 (by omega) hself
   have hld:=hT.ld n _ h1 (by omega) hself
   have hlp:=hT.lp n _ h1 (by omega) hself
   have hp1:atP sh (n+1) (itL proc (n+1) (if kind=6 then n+1 else nx) (if kind=6 then n+1 else lp) (n+1) thn++itL proc (n+1) (if kind=6 then n+1 else nx) (if kind=6 then n+1 else lp) (n+1+QV thn) els):=fun i it hi=>by
    have:=hp (i+1) it (by simpa using hi)
    rwa [show n+(i+1)=n+1+i by omega] at this
   have hw:kind=6→T ((n:Int)+1)→T nx:=fun hk h=>by
    have h5:T (S.mk id kind labels name pr x has args thn els).id:=by
     rw [show (S.mk id kind labels name pr x has args thn els).id=(n:Int)+1 from hid]
     exact h
    refine (hcl h5).2 nx ?_
    unfold goesI
    rw [if_neg (by show ¬kind=5;omega),if_pos (by exact hk)]
    simp
   have hin:w3p sh T (if kind=6 then ((n:Int)+1) else nx) (if kind=6 then ((n:Int)+1) else lp)→w3p sh T nx lp:=fun h=>by
    by_cases hk:kind=6
    ·rw [if_pos hk,if_pos hk] at h
     rcases h with h|h|⟨_,h|⟨u,hu,h⟩⟩
     ·exact .inl (hw hk h)
     ·exact .inr (.inl h)
     ·exact .inl (hw hk h)
     ·rw [show ((n:Int)+1-1).toNat=n by omega,hself] at hu
      cases hu
      exact .inl h
    ·rw [if_neg hk,if_neg hk] at h
     exact h
   have hthn:(∃ it∈itL proc (n+1) (if kind=6 then n+1 else nx) (if kind=6 then n+1 else lp) (n+1) thn,T it.s.id)→w3p sh T nx lp:=fun h =>
    hin (w5u hT proc thn _ _ _ (n+1) hp1.left (by omega) (by omega) h)
   obtain ⟨it,hit,hti⟩:=h3
   rcases List.mem_cons.1 hit with rfl|hit
   ·obtain ⟨hk10,hgo⟩:=hcl hti
    have hk10:kind≠10:=hk10
    by_cases hk5:kind=5
    ·cases thn with
     | nil =>
       refine .inl (hgo nx ?_)
       unfold goesI
       rw [if_pos (by exact hk5)]
       simp [x4v,S.thn]
     | cons v r =>
       have:T v.id:=by
        refine hgo v.id ?_
        unfold goesI
        rw [if_pos (by exact hk5)]
        simp [x4v,S.thn]
       obtain ⟨iv,h5,h6⟩:=w3e proc (n+1) (if kind=6 then n+1 else nx) (if kind=6 then n+1 else lp) (n+1) v r
       exact hthn ⟨iv,h5,by rw [h6];exact this⟩
    by_cases hk6:kind=6
    ·refine .inl (hw hk6 ?_)
     rw [← show (S.mk id kind labels name pr x has args thn els).id=(n:Int)+1 from hid]
     exact hti
    by_cases hk7:kind=7
    ·have hl0:=hld (.inl hk7)
     rcases hlp with h5|⟨u,hu⟩
     ·exact absurd h5 hl0
     ·refine .inr (.inr ⟨hl0,.inr ⟨u,hu,hgo _ ?_⟩⟩)
      unfold goesI
      rw [if_neg (by exact hk5),if_neg (by exact hk6),if_pos (by exact hk7)]
      simp only at hu
      rw [hu]
      simp
    by_cases hk8:kind=8
    ·refine .inr (.inr ⟨hld (.inr hk8),.inl (hgo _ ?_)⟩)
     unfold goesI
     rw [if_neg (by exact hk5),if_neg (by exact hk6),if_neg (by exact hk7),if_pos (by exact hk8)]
     simp
    by_cases hk9:kind=9
    ·refine .inr (.inl (hgo _ ?_))
     unfold goesI
     rw [if_neg (by exact hk5),if_neg (by exact hk6),if_neg (by exact hk7),if_neg (by exact hk8),if_pos (by exact hk9)]
     simp
    ·refine .inl (hgo _ ?_)
     unfold goesI
     rw [if_neg (by exact hk5),if_neg (by exact hk6),if_neg (by exact hk7),if_neg (by exact hk8),if_neg (by exact hk9),if_neg (by exact hk10)]
     simp
   ·rcases List.mem_append.1 hit with hit|hit
    ·exact hthn ⟨it,hit,hti⟩
    ·have hp2:=hp1.right
     rw [XT] at hp2
     exact hin (w5u hT proc els _ _ _ (n+1+QV thn) hp2 (by omega) (by omega) ⟨it,hit,hti⟩)
theorem w5u {sh:Sheet} {f:Pr} {lo hi:Nat} {T:Int→Prop} (hT:NoGo sh f lo hi T) (proc:Int) : ∀ (l:List S) (up nx lp:Int) (n:Nat),atP sh n (itL proc up nx lp n l)→lo≤n→n+QV l≤hi→(∃ it∈itL proc up nx lp n l,T it.s.id)→w3p sh T nx lp
 | [],up,nx,lp,n,hp,h1,h2,h3=>by
   rw [itL] at h3
   obtain ⟨it,hit,_⟩:=h3
   cases hit
 | t::r,up,nx,lp,n,hp,h1,h2,h3=>by
   rw [itL] at hp h3
   rw [QV] at h2
   have hp2:=hp.right
   rw [x7w] at hp2
   have hr:(∃ it∈itL proc up nx lp (n+XI t) r,T it.s.id)→w3p sh T nx lp:=fun h=>w5u hT proc r up nx lp (n+XI t) hp2 (by omega) (by omega) h
   obtain ⟨it,hit,hti⟩:=h3
   rcases List.mem_append.1 hit with hit|hit
   ·have h5:=w8l hT proc t up _ lp n hp.left h1 (by omega) ⟨it,hit,hti⟩
    cases r with
    | nil=>exact h5
    | cons v r =>
      rcases h5 with h5|h5
      ·refine hr ?_
       obtain ⟨iv,h6,h7⟩ : ∃ iv,(itL proc up nx lp (n+XI t) (v::r))[0]? = some iv∧iv.s=v:=by
        rw [itL,w0c]
        exact ⟨_,rfl,rfl⟩
       have h8:=hp2 0 iv h6
       have h9:=hT.id (n+XI t) iv (by omega) (by
        rw [QV] at h2
        have:1≤XI v:=by cases v;rw [XI];omega
        omega) h8
       refine ⟨iv,List.mem_of_getElem? h6,?_⟩
       rw [h9]
       simp only [List.isEmpty_cons] at h5
       have e:((n+XI t:Nat):Int)+1=(n:Int)+1+XI t:=by omega
       rw [e]
       exact h5
      ·exact .inr h5
   ·exact hr ⟨it,hit,hti⟩
end
open Go.Proofs
theorem z8h {p:Pg} (h:ZQ p=true) {j:Nat} {f:Pr} (hj:p.procs[j]? = some f) {k:Nat} {it:Item} (h1:QL p.procs j≤k) (h2:k<QL p.procs j+QV f.body) (hk:(sheetOf p).l[k]? = some it):it.s.id=(k:Int)+1:=by
 obtain ⟨t,_,h4,h5⟩:=q2m h hj (a:=(k:Int)+1) (by omega) (by omega)
 unfold w2e at h4
 rw [show ((k:Int)+1-1).toNat=k by omega,hk] at h4
 cases h4
 exact h5
theorem w5z {p:Pg} {j:Nat} {f:Pr} {it:Item} (hi:it∈itsOf p j f) {y:Int} (hy:y∈goesI (sheetOf p) f it):(⟨it.s.id,y,1⟩:Step)∈QK p j f:=by
 unfold QK
 exact List.mem_cons_of_mem _ (List.mem_flatMap.2 ⟨it,hi,List.mem_map.2 ⟨y,hy,rfl⟩⟩)
theorem z6g {p:Pg} (h:ZQ p=true) {j:Nat} {f:Pr} (hj:p.procs[j]? = some f) {T:Int→Prop} (hcl : ∀ a b,T a→stR (QX p j f).real a b→T b) (hgo : ∀ t∈flL f.body,T t.id→t.kind≠10) {t:S} (ht:t∈flL f.body) (hT:T t.id):T (-1):=by
 obtain ⟨hm,hs,_,hjm,_⟩:=XZ h
 have hld:=BJ hs hjm hj
 obtain ⟨_,_,_,hlen,hsp⟩:=QG p
 obtain ⟨_,_,hle,hd⟩:=hsp j f hj
 have hits : ∀ (k:Nat) (it:Item),QL p.procs j≤k→k<QL p.procs j+QV f.body→(sheetOf p).l[k]? = some it→it∈itsOf p j f:=fun k it h1 h2 hk=>by
  obtain ⟨it',h3,h4⟩:=q4o hj h1 h2
  rw [hk] at h3
  cases h3
  exact h4
 have hn:NoGo (sheetOf p) f (QL p.procs j) (QL p.procs j+QV f.body) T:=by
  refine ⟨fun k it h1 h2 hk hT => ?_,fun k it h1 h2 hk=>z8h h hj h1 h2 hk,fun k it h1 h2 hk hkd => ?_,fun k it h1 h2 hk => ?_⟩
  ·have hi:=hits k it h1 h2 hk
   exact ⟨hgo _ (q3w hi) hT,fun y hy=>hcl _ _ hT ⟨⟨it.s.id,y,1⟩,((KD h hj).2 _).2 (w5z hi hy),rfl,rfl⟩⟩
  ·have hl:=hld it (hits k it h1 h2 hk)
   unfold ZO at hl
   rw [if_pos hkd] at hl
   intro h0
   rw [h0] at hl
   cases hl
  ·rcases (LL (hits k it h1 h2 hk)).2 with h0|⟨h3,h4⟩
   ·exact .inl h0
   ·have:(it.loop-1).toNat<(sheetOf p).l.length:=by omega
    exact .inr ⟨_,List.getElem?_eq_getElem this⟩
 obtain ⟨it,hit,hits2⟩:=z8u (p:=p) (j:=j) ht
 have hat:atP (sheetOf p) (QL p.procs j) (itL j 0 (-1) 0 (QL p.procs j) f.body):=fun i it hi=>by
  rw [← hd,List.getElem?_drop,List.getElem?_take] at hi
  split at hi
  ·exact hi
  ·cases hi
 have:=w5u hn j f.body 0 (-1) 0 (QL p.procs j) hat (Nat.le_refl _) (Nat.le_refl _) ⟨it,hit,by rw [hits2];exact hT⟩
 rcases this with h1|h1|⟨h1,_⟩
 ·exact h1
 ·exact h1
 ·exact absurd rfl h1
theorem x2f {n:Nat} {part:List Int} (hp : ∀ k,k<n→0≤part.getD k 0∧part.getD k 0<n) {i:Nat} (hi:i<n) : ∀ (l:List (Int×Int)) {o:List Bool},o.length=n→(∀ t∈l,0≤t.1∧t.1<n) →
  ((l.foldl (q0i part) o).getD i false=true↔o.getD i false=true ∨ ∃ t∈l,part.getD t.1.toNat 0≠part.getD t.2.toNat 0∧part.getD t.1.toNat 0=i)
 | [],o,_,_=>by simp
 | t::r,o,ho,hr=>by
   rw [List.foldl_cons,x2f hp hi r (by rw [x3k];exact ho) fun u hu=>hr u (List.mem_cons_of_mem _ hu)]
   have h1:=hr t List.mem_cons_self
   have h2:=hp t.1.toNat (by omega)
   have key:(q0i part o t).getD i false=true↔o.getD i false=true∨(part.getD t.1.toNat 0≠part.getD t.2.toNat 0∧part.getD t.1.toNat 0=i):=by
    unfold q0i
    split
    ·rename_i he
     constructor
     ·exact .inl
     ·rintro (h3|⟨h3,_⟩)
      ·exact h3
      ·exact absurd he h3
    ·rename_i he
     rw [ZJ (by omega)]
     split
     ·rename_i h3
      constructor
      ·intro _
       exact .inr ⟨he,by omega⟩
      ·intro _
       rfl
     ·rename_i h3
      constructor
      ·exact .inl
      ·rintro (h4|⟨_,h4⟩)
       ·exact h4
       ·exact absurd (by omega) h3
   rw [key,or_assoc]
   constructor
   ·rintro (h3|⟨h3,h4⟩|⟨u,hu,h3⟩)
    ·exact .inl h3
    ·exact .inr ⟨t,List.mem_cons_self,h3,h4⟩
    ·exact .inr ⟨u,List.mem_cons_of_mem _ hu,h3⟩
   ·rintro (h3|⟨u,hu,h3⟩)
    ·exact .inl h3
    ·rcases List.mem_cons.1 hu with rfl|hu
     ·exact .inr (.inl h3)
     ·exact .inr (.inr ⟨u,hu,h3⟩)
theorem z8p {n:Nat} {part:List Int} (hn:0<n) (hp : ∀ k,k<n→0≤part.getD k 0∧part.getD k 0<n) {i:Nat} (hi:i<n) {l:List (Int×Int)} (hr : ∀ t∈l,0≤t.1∧t.1<n) :
  (q6b n part l).getD i false=true↔part.getD 0 0=i∨part.getD (n-1) 0=i ∨ ∃ t∈l,part.getD t.1.toNat 0≠part.getD t.2.toNat 0∧part.getD t.1.toNat 0=i:=by
 have h0:=hp 0 hn
 have h1:=hp (n-1) (by omega)
 unfold q6b
 rw [x2f hp hi l (by simp [q6r]) hr]
 have key:(q6r n part).getD i false=true↔part.getD 0 0=i∨part.getD (n-1) 0=i:=by
  unfold q6r
  rw [ZJ (by rw [List.length_set,List.length_replicate];omega),ZJ (by rw [List.length_replicate];omega)]
  split
  ·exact ⟨fun _ => .inr (by omega),fun _=>rfl⟩
  ·split
   ·exact ⟨fun _ => .inl (by omega),fun _=>rfl⟩
   ·have:(List.replicate n false).getD i false=false:=by
     rw [List.getD_eq_getElem?_getD,List.getElem?_replicate];split<;>rfl
    rw [this]
    constructor
    ·intro h;cases h
    ·rintro (h|h)<;>omega
 rw [key,or_assoc]
open Go.Proofs
section
variable {p:Pg} {j:Nat} {f:Pr}
theorem UM {i:Int} (h:0≤i∧i<(QV f.body+2:Nat)):plP p j f (QH p j (QV f.body+2:Nat) i)∧ixI p j f (QH p j (QV f.body+2:Nat) i)=i:=by
 unfold QH ixI YB plP loI hiI
 constructor
 ·(repeat' split)<;>omega
 ·(repeat' split)<;>omega
theorem q8c {x:Int} (h:plP p j f x):QH p j (QV f.body+2:Nat) (ixI p j f x)=x:=by
 have h1:=UM (p:=p) (j:=j) (f:=f) (ZY h)
 exact BV h1.1 h h1.2
theorem x0l:prsW (QX p j f) f=(QX p j f).real.map (ixP p j f (QV f.body+2:Nat)):=rfl
theorem w1v (h:ZQ p=true) (hj:p.procs[j]? = some f) : ∀ t∈prsW (QX p j f) f,(0≤t.1∧t.1<(QV f.body+2:Nat))∧0≤t.2∧t.2<(QV f.body+2:Nat):=fun t ht=>by
 rw [x0l] at ht
 obtain ⟨s,hs,rfl⟩:=List.mem_map.1 ht
 obtain ⟨h1,h2⟩:=YQ h hj s hs
 exact ⟨ZY h1,ZY h2⟩
def wE (p:Pg) (j:Nat) (f:Pr):Int→Int→Prop:=rowE (QA (QV f.body+2) (prsW (QX p j f) f)).1
def wR (p:Pg) (j:Nat) (f:Pr):Int→Int→Prop:=stR (QX p j f).real
theorem w3s (h:ZQ p=true) (hj:p.procs[j]? = some f) {i k:Int}:wE p j f i k ↔ ∃ a b,wR p j f a b∧ixI p j f a=i∧ixI p j f b=k:=by
 unfold wE wR
 rw [z0s]
 constructor
 ·rintro ⟨h1,_,_⟩
  rw [x0l] at h1
  obtain ⟨s,hs,he⟩:=List.mem_map.1 h1
  exact ⟨s.src,s.dst,⟨s,hs,rfl,rfl⟩,congrArg Prod.fst he,congrArg Prod.snd he⟩
 ·rintro ⟨a,b,⟨s,hs,rfl,rfl⟩,rfl,rfl⟩
  obtain ⟨h1,h2⟩:=YQ h hj s hs
  exact ⟨List.mem_map.2 ⟨s,hs,rfl⟩,q9l (ZY h1),q9l (ZY h2)⟩
theorem w2m (h:ZQ p=true) (hj:p.procs[j]? = some f) {a b:Int} (hr:wR p j f a b):plP p j f a∧plP p j f b:=by
 obtain ⟨s,hs,rfl,rfl⟩:=hr
 exact YQ h hj s hs
theorem w1z (h:ZQ p=true) (hj:p.procs[j]? = some f) {a b:Int} (ha:plP p j f a) (hr:Rch (wR p j f) a b):plP p j f b :=
 hr.closed (S:=plP p j f) (fun _ _ _ h1=>(w2m h hj h1).2) ha
theorem w0i (h:ZQ p=true) (hj:p.procs[j]? = some f) {a b:Int} (ha:plP p j f a) (hb:plP p j f b):Rch (wE p j f) (ixI p j f a) (ixI p j f b)↔Rch (wR p j f) a b:=by
 constructor
 ·intro hr
  obtain ⟨c,h1,h2,h3⟩:=hr.closed (S:=fun k => ∃ c,plP p j f c∧ixI p j f c=k∧Rch (wR p j f) a c) (by
   rintro i k ⟨c,h1,h2,h3⟩ h4
   obtain ⟨x,y,h5,h6,h7⟩:=(w3s h hj).1 h4
   have h8:=w2m h hj h5
   have:x=c:=BV h8.1 h1 (by rw [h6,h2])
   subst this
   exact ⟨y,h8.2,h7,.tail h3 h5⟩) ⟨a,ha,rfl,.refl⟩
  rw [← BV h1 hb h2]
  exact h3
 ·intro hr
  exact (hr.closed (S:=fun c=>plP p j f c∧Rch (wE p j f) (ixI p j f a) (ixI p j f c)) (fun x y ⟨h1,h2⟩ h3=>⟨(w2m h hj h3).2,.tail h2 ((w3s h hj).2 ⟨x,y,h3,rfl,rfl⟩)⟩) ⟨ha,.refl⟩).2
theorem w1y (h:ZQ p=true) (hj:p.procs[j]? = some f) {a b:Int} (ha:plP p j f a) (hb:plP p j f b):sccP (wE p j f) (ixI p j f a) (ixI p j f b)↔sccP (wR p j f) a b:=by
 unfold sccP
 rw [w0i h hj ha hb,w0i h hj hb ha]
def JP (p:Pg) (j:Nat) (f:Pr) (i:Int):Int:=(WM (QX p j f) f).getD i.toNat 0
theorem q5b:WM (QX p j f) f=q0v (QV f.body+2) (QA (QV f.body+2) (prsW (QX p j f) f)).1:=rfl
theorem q2b {i:Int} (hi:0≤i∧i<(QV f.body+2:Nat)):MinP (wE p j f) i (JP p j f i):=by
 unfold JP
 rw [q5b]
 exact q0o (FJ _ _).1 hi
theorem x9l {k:Nat} (hk:k<QV f.body+2):0≤(WM (QX p j f) f).getD k 0∧(WM (QX p j f) f).getD k 0<(QV f.body+2:Nat):=by
 rw [q5b]
 exact x7t (FJ _ _).1 hk
theorem x8b:(WM (QX p j f) f).length=QV f.body+2:=by rw [q5b,FC]
theorem MinP.same {E:Int→Int→Prop} {x y v:Int} (h:MinP E x v) (hs:sccP E x y):MinP E y v:=⟨hs.symm.trans h.scc,fun z hz=>h.le z (hs.trans hz)⟩
theorem z8e {i k:Int} (hi:0≤i∧i<(QV f.body+2:Nat)) (hk:0≤k∧k<(QV f.body+2:Nat)):JP p j f i=JP p j f k↔sccP (wE p j f) i k:=by
 have h1:=q2b (p:=p) (j:=j) hi
 have h2:=q2b (p:=p) (j:=j) hk
 constructor
 ·intro he
  rw [← he] at h2
  exact h1.scc.trans h2.scc.symm
 ·intro hs
  exact (h1.same hs).uniq h2
theorem JF (h:ZQ p=true) (hj:p.procs[j]? = some f) {a b:Int} (ha:plP p j f a) (hb:plP p j f b):JP p j f (ixI p j f a)=JP p j f (ixI p j f b)↔sccP (wR p j f) a b:=by
 rw [z8e (ZY ha) (ZY hb),w1y h hj ha hb]
structure TrapP (p:Pg) (j:Nat) (f:Pr) (l:List Int) (r:Int):Prop where
 pl:plP p j f r
 mem : ∀ b,b∈l↔plP p j f b∧sccP (wR p j f) r b
 cl : ∀ b c,sccP (wR p j f) r b→wR p j f b c→sccP (wR p j f) r c
 n0 : ¬sccP (wR p j f) r 0
 nx : ¬sccP (wR p j f) r (-1)
theorem z6u {plc:Int→Int} {part:List Int} {i q:Nat} {b:Int}:b∈HM plc part i q ↔ ∃ k:Nat,k<q∧part.getD k 0=i∧plc k=b:=by
 unfold HM
 constructor
 ·intro h
  obtain ⟨k,hk,rfl⟩:=List.mem_map.1 h
  obtain ⟨h1,h2⟩:=List.mem_filter.1 hk
  exact ⟨k,List.mem_range.1 h1,beq_iff_eq.1 h2,rfl⟩
 ·rintro ⟨k,h1,h2,rfl⟩
  exact List.mem_map.2 ⟨k,List.mem_filter.2 ⟨List.mem_range.2 h1,beq_iff_eq.2 h2⟩,rfl⟩
theorem ix0:ixI p j f 0=0:=by unfold ixI YB;rw [if_pos rfl]
theorem ix1:ixI p j f (-1)=((QV f.body+2:Nat):Int)-1:=by unfold ixI YB;rw [if_neg (by omega),if_pos rfl]
theorem pl0:plP p j f 0 := .inl rfl
theorem pl1:plP p j f (-1) := .inr (.inl rfl)
theorem q2c (k:Nat):(WM (QX p j f) f).getD k 0=JP p j f k:=by
 unfold JP
 rw [Int.toNat_natCast]
theorem z5l (h:ZQ p=true) (hj:p.procs[j]? = some f) {i:Nat} (hi:i<QV f.body+2):(q6b (QV f.body+2) (WM (QX p j f) f) (prsW (QX p j f) f)).getD i false=true ↔
  JP p j f (ixI p j f 0)=i∨JP p j f (ixI p j f (-1))=i ∨ ∃ a b,wR p j f a b ∧ ¬sccP (wR p j f) a b∧JP p j f (ixI p j f a)=i:=by
 rw [z8p (by omega) (fun k hk=>x9l hk) hi fun t ht=>(w1v h hj t ht).1,ix0,ix1]
 have e1:(WM (QX p j f) f).getD (QV f.body+2-1) 0=JP p j f (((QV f.body+2:Nat):Int)-1):=by
  unfold JP
  congr 1
  omega
 have e0:(WM (QX p j f) f).getD 0 0=JP p j f 0:=rfl
 rw [e0,e1]
 refine or_congr Iff.rfl (or_congr Iff.rfl ?_)
 constructor
 ·rintro ⟨t,ht,h1,h2⟩
  rw [x0l] at ht
  obtain ⟨s,hs,rfl⟩:=List.mem_map.1 ht
  obtain ⟨h3,h4⟩:=YQ h hj s hs
  exact ⟨s.src,s.dst,⟨s,hs,rfl,rfl⟩,fun hsc=>h1 ((JF h hj h3 h4).2 hsc),h2⟩
 ·rintro ⟨a,b,⟨s,hs,rfl,rfl⟩,h1,h2⟩
  obtain ⟨h3,h4⟩:=YQ h hj s hs
  exact ⟨ixP p j f (QV f.body+2:Nat) s,by rw [x0l];exact List.mem_map.2 ⟨s,hs,rfl⟩,fun he=>h1 ((JF h hj h3 h4).1 he),h2⟩
theorem q5e {l:List Int}:l∈trapsW (QX p j f) f ↔ ∃ i:Nat,i<QV f.body+2∧JP p j f i=i∧(q6b (QV f.body+2) (WM (QX p j f) f) (prsW (QX p j f) f)).getD i false=false∧l=HM (QH p j (QV f.body+2:Nat)) (WM (QX p j f) f) i (QV f.body+2):=by
 unfold trapsW q0u
 rw [x8b]
 constructor
 ·intro hl
  obtain ⟨i,hi,rfl⟩:=List.mem_map.1 hl
  obtain ⟨h1,h2⟩:=List.mem_filter.1 hi
  unfold q4r at h2
  rw [Bool.and_eq_true,beq_iff_eq,Bool.not_eq_true',q2c] at h2
  exact ⟨i,List.mem_range.1 h1,h2.1,h2.2,rfl⟩
 ·rintro ⟨i,h1,h2,h3,rfl⟩
  refine List.mem_map.2 ⟨i,List.mem_filter.2 ⟨List.mem_range.2 h1,?_⟩,rfl⟩
  unfold q4r
  rw [Bool.and_eq_true,beq_iff_eq,Bool.not_eq_true',q2c]
  exact ⟨h2,h3⟩
theorem x7o (h:ZQ p=true) (hj:p.procs[j]? = some f) {i:Nat} (hi:i<QV f.body+2) (hp:JP p j f i=i) (b:Int) :
  b∈HM (QH p j (QV f.body+2:Nat)) (WM (QX p j f) f) i (QV f.body+2)↔plP p j f b∧sccP (wR p j f) (QH p j (QV f.body+2:Nat) i) b:=by
 obtain ⟨h1,h2⟩:=UM (p:=p) (j:=j) (f:=f) (i:=i) (by omega)
 rw [z6u]
 constructor
 ·rintro ⟨k,h3,h4,rfl⟩
  obtain ⟨h5,h6⟩:=UM (p:=p) (j:=j) (f:=f) (i:=k) (by omega)
  refine ⟨h5,(JF h hj h1 h5).1 ?_⟩
  rw [h2,h6,hp,← q2c,h4]
 ·rintro ⟨h3,h4⟩
  have h5:=ZY h3
  refine ⟨(ixI p j f b).toNat,by omega,?_,?_⟩
  ·rw [q2c,show (((ixI p j f b).toNat:Nat):Int)=ixI p j f b by omega,← (JF h hj h1 h3).2 h4,h2,hp]
  ·rw [show (((ixI p j f b).toNat:Nat):Int)=ixI p j f b by omega,q8c h3]
theorem z4n (h:ZQ p=true) (hj:p.procs[j]? = some f) {l:List Int} (hl:l∈trapsW (QX p j f) f) : ∃ r,TrapP p j f l r:=by
 obtain ⟨i,hi,hp,ho,rfl⟩:=q5e.1 hl
 obtain ⟨h1,h2⟩:=UM (p:=p) (j:=j) (f:=f) (i:=i) (by omega)
 have ho2 : ¬_:=fun hx=>by
  have:=(z5l h hj hi).2 hx
  rw [ho] at this
  cases this
 have hpr:JP p j f (ixI p j f (QH p j (QV f.body+2:Nat) i))=i:=by rw [h2,hp]
 refine ⟨_,h1,x7o h hj hi hp,fun b c hb hbc => ?_,fun hs=>ho2 (.inl ?_),fun hs=>ho2 (.inr (.inl ?_))⟩
 ·have h3:=w2m h hj hbc
  by_cases hsc:sccP (wR p j f) b c
  ·exact hb.trans hsc
  ·refine absurd (.inr (.inr ⟨b,c,hbc,hsc,?_⟩)) ho2
   rw [← (JF h hj h1 h3.1).2 hb,hpr]
 ·rw [← (JF h hj h1 pl0).2 hs,hpr]
 ·rw [← (JF h hj h1 pl1).2 hs,hpr]
theorem w3z (h:ZQ p=true) (hj:p.procs[j]? = some f) {r:Int} (hr:plP p j f r) (hcl : ∀ b c,sccP (wR p j f) r b→wR p j f b c→sccP (wR p j f) r c) (h0 : ¬sccP (wR p j f) r 0) (hx : ¬sccP (wR p j f) r (-1)) :
  ∃ l∈trapsW (QX p j f) f,∀ b,b∈l↔plP p j f b∧sccP (wR p j f) r b:=by
 have h1:=ZY hr
 have h2:=q2b (p:=p) (j:=j) (f:=f) h1
 have h3:=x9l (p:=p) (j:=j) (f:=f) (k:=(ixI p j f r).toNat) (by omega)
 have h4:0≤JP p j f (ixI p j f r)∧JP p j f (ixI p j f r)<(QV f.body+2:Nat):=h3
 generalize hi:JP p j f (ixI p j f r)=v at h2 h4
 obtain ⟨h5,h6⟩:=UM (p:=p) (j:=j) (f:=f) (i:=v) h4
 have hs:sccP (wR p j f) r (QH p j (QV f.body+2:Nat) v):=(w1y h hj hr h5).1 (by rw [h6];exact h2.scc)
 have hpv:JP p j f v=v:=(q2b (p:=p) (j:=j) (f:=f) h4).uniq (h2.same h2.scc)
 have ev:((v.toNat:Nat):Int)=v:=by omega
 refine ⟨_,q5e.2 ⟨v.toNat,by omega,by rw [ev];exact hpv,?_,rfl⟩,fun b => ?_⟩
 ·cases ho:(q6b (QV f.body+2) (WM (QX p j f) f) (prsW (QX p j f) f)).getD v.toNat false with
  | false=>rfl
  | true =>
    have:=(z5l h hj (by omega)).1 ho
    rw [ev,← hi] at this
    rcases this with h7|h7|⟨a,b,h7,h8,h9⟩
    ·exact absurd ((JF h hj hr pl0).1 h7.symm) h0
    ·exact absurd ((JF h hj hr pl1).1 h7.symm) hx
    ·have h10:=w2m h hj h7
     have h11:=(JF h hj hr h10.1).1 h9.symm
     exact absurd (h11.symm.trans (hcl a b h11 h7)) h8
 ·rw [x7o h hj (by omega) (by rw [ev];exact hpv),ev]
  exact and_congr Iff.rfl ⟨fun h7=>hs.trans h7,fun h7=>hs.symm.trans h7⟩
end
open Go.Proofs
theorem x8a {p:Pg} {j:Nat} {f:Pr} (hj:p.procs[j]? = some f) (hcn:cntP p.procs≤200):(QX p j f).real.length≤100000:=by
 obtain ⟨_,_,_,hlen,hsp⟩:=QG p
 obtain ⟨_,_,hle,_⟩:=hsp j f hj
 have h9:=x4b (QK p j f)
 have h10:=q1t p j f
 show (WQ (QK p j f)).length≤100000
 omega
theorem x9m {p:Pg} (h:ZQ p=true) {j:Nat} {f:Pr} (hj:p.procs[j]? = some f) : ∀ it∈itsOf p j f,∀ s∈fOf it,okSt s:=fun it hi s hs=>by
 obtain ⟨hm,_⟩:=XZ h
 obtain ⟨_,_,hcn⟩:=FE h
 obtain ⟨_,_,_,hlen,hsp⟩:=QG p
 obtain ⟨_,_,hle,_⟩:=hsp j f hj
 have h1:=JC hm hj (q3w hi)
 have h2:=(LL hi).1
 unfold fOf at hs
 split at hs
 ·rw [List.mem_singleton.1 hs]
  unfold okI at h2
  unfold okSt
  constructor
  ·show it.s.id≠_
   omega
  ·show it.next≠_
   omega
 ·cases hs
theorem x9i {p:Pg} (h:ZQ p=true) {j:Nat} {f:Pr} (hj:p.procs[j]? = some f) {l:List Int} (hl:l∈trapsW (QX p j f) f):l.length≤QV f.body+2 ∧ ∀ id∈l,(QL p.procs j:Int)+1≤id∧id≤(QL p.procs j+QV f.body:Nat):=by
 constructor
 ·obtain ⟨i,_,_,_,rfl⟩:=q5e.1 hl
  exact x3t _ _ _ _
 ·intro id hid
  obtain ⟨r,ht⟩:=z4n h hj hl
  obtain ⟨h1,h2⟩:=(ht.mem id).1 hid
  rcases h1 with rfl|rfl|h1
  ·exact absurd h2 ht.n0
  ·exact absurd h2 ht.nx
  ·exact h1
theorem w3i {p:Pg} (h:ZQ p=true) {j:Nat} {f:Pr} (hj:p.procs[j]? = some f):WayT (QX p j f) f (QV f.body+2):=by
 obtain ⟨_,_,hcn⟩:=FE h
 obtain ⟨_,_,_,hlen,hsp⟩:=QG p
 obtain ⟨_,_,hle,_⟩:=hsp j f hj
 refine ⟨rfl,hj,by show cntP p.procs≤1000;omega,by omega,by omega,Nat.le_trans (x8a hj hcn) (by decide),w1v h hj,?_,fun l hl => ?_,fun s hs=>(q4z h hj).2.2 s (((KD h hj).2 s).1 hs),x9m h hj⟩
 ·have:=x2c (QH p j (QV f.body+2:Nat)) (WM (QX p j f) f) (q6b (QV f.body+2) (WM (QX p j f) f) (prsW (QX p j f) f)) (QV f.body+2)
  have e:trapsW (QX p j f) f=q0u (QH p j (QV f.body+2:Nat)) (WM (QX p j f) f) (q6b (QV f.body+2) (WM (QX p j f) f) (prsW (QX p j f) f)) (QV f.body+2):=by
   unfold trapsW
   rw [x8b]
   rfl
  rw [e]
  omega
 ·obtain ⟨h1,h2⟩:=x9i h hj hl
  refine ⟨by omega,fun id hid => ?_⟩
  have:=h2 id hid
  show 1≤id∧id≤(sheetOf p).l.length
  omega
open Go.Proofs
instance (a b:Step):Decidable (q0t a b):=inferInstanceAs (Decidable (_∨_))
instance:DecidableEq Step:=fun a b=>decidable_of_iff (a.src=b.src∧a.dst=b.dst∧a.kind=b.kind) ⟨fun h=>Step.eq_of h.1 h.2.1 h.2.2,fun h=>by rw [h];exact ⟨rfl,rfl,rfl⟩⟩
theorem w2n {a b:Step} (ha:okSt a) (hb:okSt b) (h:GO b a=false):(a.src=b.src∧a.dst=b.dst∧a.kind≤b.kind)∨q0t a b:=by
 rw [Bool.eq_false_iff,ne_eq,JE] at h
 unfold q0t
 by_cases h1:XA a.src=XA b.src
 ·by_cases h2:XA a.dst=XA b.dst
  ·exact .inl ⟨JO ha.1 hb.1 h1,JO ha.2 hb.2 h2,by omega⟩
  ·exact .inr (by omega)
 ·exact .inr (by omega)
theorem q1b : ∀ (l:List Step) (a:Step),okSt a→(∀ s∈l,okSt s)→(a::l).Pairwise (fun a b=>GO b a=false) →
  (∀ s∈QE a l,q0t a s)∧(QE a l).Pairwise q0t∧(∀ s∈QE a l,s∈l) ∧ ∀ s∈l,(s.src=a.src∧s.dst=a.dst∧a.kind≤s.kind) ∨ ∃ s'∈QE a l,s'.src=s.src∧s'.dst=s.dst∧s'.kind≤s.kind
 | [],a,_,_,_=>by simp [QE]
 | b::r,a,ha,hl,h=>by
   have hb:=hl b List.mem_cons_self
   have hr : ∀ s∈r,okSt s:=fun s hs=>hl s (List.mem_cons_of_mem _ hs)
   rw [List.pairwise_cons] at h
   obtain ⟨h1,h2⟩:=h
   obtain ⟨i1,i2,i3,i4⟩:=q1b r b hb hr h2
   have hab:=w2n ha hb (h1 b List.mem_cons_self)
   rw [QE]
   cases hs:XE b a with
   | true =>
     unfold XE at hs
     simp only [Bool.and_eq_true,decide_eq_true_eq] at hs
     have hk:a.kind≤b.kind:=by
      rcases hab with h3|h3
      ·exact h3.2.2
      ·unfold q0t at h3
       rw [hs.1,hs.2] at h3
       omega
     rw [cond_true]
     refine ⟨fun s hs' => ?_,i2,fun s hs'=>List.mem_cons_of_mem _ (i3 s hs'),fun s hs' => ?_⟩
     ·have:=i1 s hs'
      unfold q0t at this ⊢
      rwa [← hs.1,← hs.2]
     ·rcases List.mem_cons.1 hs' with rfl|hs'
      ·exact .inl ⟨hs.1,hs.2,hk⟩
      ·rcases i4 s hs' with ⟨h3,h4,h5⟩|h3
       ·exact .inl ⟨by rw [h3,hs.1],by rw [h4,hs.2],by omega⟩
       ·exact .inr h3
   | false =>
     have hlt:q0t a b:=by
      rcases hab with h3|h3
      ·unfold XE at hs
       simp [h3.1,h3.2.1] at hs
      ·exact h3
     rw [cond_false]
     refine ⟨fun s hs' => ?_,List.pairwise_cons.2 ⟨i1,i2⟩,fun s hs' => ?_,fun s hs' => ?_⟩
     ·rcases List.mem_cons.1 hs' with rfl|hs'
      ·exact hlt
      ·exact LC hlt (i1 s hs')
     ·rcases List.mem_cons.1 hs' with rfl|hs'
      ·exact List.mem_cons_self
      ·exact List.mem_cons_of_mem _ (i3 s hs')
     ·rcases List.mem_cons.1 hs' with rfl|hs'
      ·exact .inr ⟨s,List.mem_cons_self,rfl,rfl,Int.le_refl _⟩
      ·rcases i4 s hs' with ⟨h3,h4,h5⟩|⟨s',h3,h4⟩
       ·exact .inr ⟨b,List.mem_cons_self,h3.symm,h4.symm,h5⟩
       ·exact .inr ⟨s',List.mem_cons_of_mem _ h3,h4⟩
theorem FW {l:List Step} (hok : ∀ s∈l,okSt s):(WQ l).Pairwise q0t∧(∀ s∈WQ l,s∈l) ∧ ∀ s∈l,∃ s'∈WQ l,s'.src=s.src∧s'.dst=s.dst∧s'.kind≤s.kind:=by
 have hp : ∀ s,s∈UJ l↔s∈l:=fun s=>(q3y l).mem_iff
 have hs:=MN l
 unfold WQ
 cases hq:UJ l with
 | nil =>
   rw [hq] at hp
   refine ⟨by simp [PK],by simp [PK],fun s hs => ?_⟩
   have:=(hp s).2 hs
   cases this
 | cons a r =>
   rw [hq] at hp hs
   have hok' : ∀ s∈a::r,okSt s:=fun s h=>hok s ((hp s).1 h)
   obtain ⟨h1,h2,h3,h4⟩:=q1b r a (hok' a List.mem_cons_self) (fun s h=>hok' s (List.mem_cons_of_mem _ h)) hs
   rw [PK]
   refine ⟨List.pairwise_cons.2 ⟨h1,h2⟩,fun s hs' => ?_,fun s hs' => ?_⟩
   ·rcases List.mem_cons.1 hs' with rfl|hs'
    ·exact (hp s).1 List.mem_cons_self
    ·exact (hp s).1 (List.mem_cons_of_mem _ (h3 s hs'))
   ·rcases List.mem_cons.1 ((hp s).2 hs') with rfl|hs'
    ·exact ⟨s,List.mem_cons_self,rfl,rfl,Int.le_refl _⟩
    ·rcases h4 s hs' with ⟨h5,h6,h7⟩|⟨s',h5,h6⟩
     ·exact ⟨a,List.mem_cons_self,h5.symm,h6.symm,h7⟩
     ·exact ⟨s',List.mem_cons_of_mem _ h5,h6⟩
theorem z6r {l:List Step} (h:l.Pairwise q0t) {a b:Step} (ha:a∈l) (hb:b∈l) (h1:a.src=b.src) (h2:a.dst=b.dst):a=b:=by
 have hn : ∀ {x y:Step},x.src=y.src→x.dst=y.dst → ¬q0t x y:=fun {x y} e1 e2 hlt=>by
  unfold q0t at hlt
  rw [e1,e2] at hlt
  omega
 induction h with
 | nil=>cases ha
 | @cons c r hc hr ih =>
   rcases List.mem_cons.1 ha with e1|ha'
   ·rcases List.mem_cons.1 hb with e2|hb'
    ·rw [e1,e2]
    ·exact absurd (hc b hb') (by rw [← e1];exact hn h1 h2)
   ·rcases List.mem_cons.1 hb with e2|hb'
    ·exact absurd (hc a ha') (by rw [← e2];exact hn h1.symm h2.symm)
    ·exact ih ha' hb'
theorem x9c {l m:List Step} (hok : ∀ s∈l,okSt s) (h1:m.Pairwise q0t) (h2 : ∀ s∈m,s∈l) (h3 : ∀ s∈l,∃ s'∈m,s'.src=s.src∧s'.dst=s.dst∧s'.kind≤s.kind):WQ l=m:=by
 obtain ⟨g1,g2,g3⟩:=FW hok
 refine q7o g1 h1 fun s=>⟨fun hs => ?_,fun hs => ?_⟩
 ·obtain ⟨a,ha,h4,h5,h6⟩:=h3 s (g2 s hs)
  obtain ⟨b,hb,h7,h8,h9⟩:=g3 a (h2 a ha)
  have:=z6r g1 hb hs (h7.trans h4) (h8.trans h5)
  subst this
  have:a=b:=Step.eq_of h4 h5 (by omega)
  rw [← this]
  exact ha
 ·obtain ⟨a,ha,h4,h5,h6⟩:=g3 s (h2 s hs)
  obtain ⟨b,hb,h7,h8,h9⟩:=h3 a (g2 a ha)
  have:=z6r h1 hb hs (h7.trans h4) (h8.trans h5)
  subst this
  have:a=b:=Step.eq_of h4 h5 (by omega)
  rw [← this]
  exact ha
open Go.Proofs
theorem w4b:(QX someP 1 f1).real=[⟨0,5,1⟩,⟨5,6,1⟩,⟨6,7,1⟩,⟨6,8,1⟩,⟨7,-1,1⟩,⟨8,-1,1⟩]:=w7x
theorem w3o:(QX someP 0 f0).real=[⟨0,1,1⟩,⟨1,2,1⟩,⟨2,3,1⟩,⟨3,4,1⟩,⟨4,-1,1⟩]:=w7y
theorem w8r:prsW (QX someP 1 f1) f1=[(0,1),(1,2),(2,3),(2,4),(3,5),(4,5)]:=by
 unfold prsW
 rw [w4b]
 kernel_rfl
theorem w9x:prsW (QX someP 0 f0) f0=[(0,1),(1,2),(2,3),(3,4),(4,5)]:=by
 unfold prsW
 rw [w3o]
 kernel_rfl
theorem w4f:trapsW (QX someP 1 f1) f1=[]:=by
 unfold trapsW WM
 rw [w8r]
 kernel_rfl
theorem w4z:trapsW (QX someP 0 f0) f0=[]:=by
 unfold trapsW WM
 rw [w9x]
 kernel_rfl
theorem w8d:x8r (QX someP 1 f1) f1=[⟨0,5,1⟩,⟨0,-1,2⟩,⟨5,6,1⟩,⟨6,7,1⟩,⟨6,8,1⟩,⟨7,8,2⟩,⟨7,-1,1⟩,⟨8,-1,1⟩]:=by
 have h1:HE (QX someP 1 f1) f1=[⟨0,5,1⟩,⟨5,6,1⟩,⟨6,7,1⟩,⟨6,8,1⟩,⟨7,-1,1⟩,⟨8,-1,1⟩,⟨0,-1,2⟩,⟨7,8,2⟩,⟨8,-1,2⟩]:=by
  unfold HE WL
  rw [w4f,w4b]
  kernel_rfl
 unfold x8r
 rw [h1]
 exact x9c (by unfold okSt;decide) (by decide) (by decide) (by decide)
theorem w8q:x8r (QX someP 0 f0) f0=[⟨0,1,1⟩,⟨0,-1,2⟩,⟨1,2,1⟩,⟨2,3,1⟩,⟨3,4,1⟩,⟨4,-1,1⟩]:=by
 have h1:HE (QX someP 0 f0) f0=[⟨0,1,1⟩,⟨1,2,1⟩,⟨2,3,1⟩,⟨3,4,1⟩,⟨4,-1,1⟩,⟨0,-1,2⟩]:=by
  unfold HE WL
  rw [w4z,w3o]
  kernel_rfl
 unfold x8r
 rw [h1]
 exact x9c (by unfold okSt;decide) (by decide) (by decide) (by decide)
theorem z3v:LE someP [109,97,105,110]=some (QX someP 0 f0):=by
 unfold LE
 rw [q2d]
 rfl
open Go.Proofs
theorem w7m {R:Int→Int→Prop} {PL:List Int} (hPL : ∀ x y,x∈PL→R x y→y∈PL) : ∀ (k:Nat) {x:Int},x∈PL→(∀ c:Int→Nat,(∀ y,c y=0∨c y=1)→(∀ y,c y=1→Rch R x y)→(PL.map c).sum<k) → ∃ y,Rch R x y ∧ ∀ z,Rch R y z→Rch R z y
 | 0,x,_,hk=>absurd (hk (fun _=>0) (fun _ => .inl rfl) (fun _ h=>by cases h)) (Nat.not_lt_zero _)
 | k+1,x,hx,hk=>by
   by_cases h : ∀ z,Rch R x z→Rch R z x
   ·exact ⟨x,.refl,h⟩
   ·obtain ⟨z,hz⟩:=Classical.not_forall.1 h
    obtain ⟨h1,h2⟩:=Classical.not_imp.1 hz
    have hzp:z∈PL:=h1.closed (S:=fun y=>y∈PL) hPL hx
    obtain ⟨y,h3,h4⟩:=w7m hPL k hzp fun c hc hr=>by
     have hcx:c x=0:=by
      rcases hc x with h5|h5
      ·exact h5
      ·exact absurd (hr x h5) h2
     have h6:(PL.map c).sum<(PL.map fun y=>if y=x then 1 else c y).sum:=z5m (fun y _=>by
      split
      ·rename_i e
       rw [e,hcx]
       exact Nat.zero_le _
      ·exact Nat.le_refl _) ⟨x,hx,by simp [hcx]⟩
     have h7:=hk (fun y=>if y=x then 1 else c y) (fun y=>by
      split
      ·exact .inr rfl
      ·exact hc y) (fun y hy=>by
      split at hy
      ·rename_i e
       rw [e]
       exact .refl
      ·exact h1.trans (hr y hy))
     omega
    exact ⟨y,h1.trans h3,h4⟩
theorem z5y {c:Int→Nat} (h : ∀ y,c y=0∨c y=1) : ∀ l:List Int,(l.map c).sum≤l.length
 | []=>by simp
 | a::r=>by
   have h1:=z5y h r
   have h2:=h a
   simp only [List.map_cons,List.sum_cons,List.length_cons]
   omega
def plL (p:Pg) (j:Nat) (f:Pr):List Int:=0::(-1)::YR (QL p.procs j) (QV f.body)
theorem UE {p:Pg} {j:Nat} {f:Pr} {x:Int}:x∈plL p j f↔plP p j f x:=by
 unfold plL plP
 simp only [List.mem_cons]
 refine or_congr Iff.rfl (or_congr Iff.rfl ⟨fun h => ?_,fun h=>q8a h.1 h.2⟩)
 have:=JQ h
 omega
theorem w3w {p:Pg} (h:ZQ p=true) {j:Nat} {f:Pr} (hj:p.procs[j]? = some f) {x:Int} (hx:plP p j f x) : ∃ y,Rch (wR p j f) x y ∧ ∀ z,Rch (wR p j f) y z→Rch (wR p j f) z y :=
 w7m (PL:=plL p j f) (fun a b _ hab=>UE.2 (w2m h hj hab).2) ((plL p j f).length+1) (UE.2 hx) fun _ hc _=>Nat.lt_succ_of_le (z5y hc _)
theorem x1u {p:Pg} (h:ZQ p=true) {j:Nat} {f:Pr} (hj:p.procs[j]? = some f) {a:Int} : ¬wR p j f a 0:=fun ⟨s,hs,_,hd⟩=>by
 have h1:=((q4z h hj).2.1 s (((KD h hj).2 s).1 hs)).2
 unfold okI at h1
 omega
theorem x2u {p:Pg} (h:ZQ p=true) {j:Nat} {f:Pr} (hj:p.procs[j]? = some f) {a:Int} (hr:Rch (wR p j f) a 0):a=0:=by
 cases hr with
 | refl=>rfl
 | tail _ h2=>exact absurd h2 (x1u h hj)
theorem x9e {p:Pg} (h:ZQ p=true) {j:Nat} {f:Pr} (hj:p.procs[j]? = some f):wR p j f 0 (w5h p j f):=⟨⟨0,w5h p j f,1⟩,((KD h hj).2 _).2 (by unfold QK w5h;exact List.mem_cons_self),rfl,rfl⟩
theorem z5j {p:Pg} (h:ZQ p=true) {j:Nat} {f:Pr} (hj:p.procs[j]? = some f) {r:Int} (hr:plP p j f r) (hcl : ∀ b c,sccP (wR p j f) r b→wR p j f b c→sccP (wR p j f) r c) (h0 : ¬sccP (wR p j f) r 0) (hx : ¬sccP (wR p j f) r (-1)) : ∃ t∈flL f.body,sccP (wR p j f) r t.id∧t.kind=10:=by
 refine Classical.byContradiction fun hno=>hx ?_
 have hrr:(QL p.procs j:Int)+1≤r∧r≤(QL p.procs j+QV f.body:Nat):=by
  rcases hr with rfl|rfl|h1
  ·exact absurd (sccP.refl 0) h0
  ·exact absurd (sccP.refl (-1)) hx
  ·exact h1
 obtain ⟨t,ht,_,hti⟩:=q2m h hj hrr.1 hrr.2
 exact z6g h hj (T:=fun y=>sccP (wR p j f) r y) (fun a b ha hab=>hcl a b ha hab) (fun u hu hs hk=>hno ⟨u,hu,hs,hk⟩) ht (by rw [hti];exact sccP.refl r)
theorem w1p {p:Pg} (h:ZQ p=true) {j:Nat} {f:Pr} (hj:p.procs[j]? = some f) {t:S} (ht:t∈flL f.body):w2e p t.id=some t:=by
 have hb:=JC (XZ h).1 hj ht
 obtain ⟨u,hu,h1,h2⟩:=q2m h hj hb.1 hb.2
 obtain ⟨it,hi,rfl⟩:=z8u (p:=p) (j:=j) ht
 obtain ⟨iu,hiu,rfl⟩:=z8u (p:=p) (j:=j) hu
 rw [w1j (XZ h).1 hj hiu hi h2] at h1
 exact h1
theorem MH {p:Pg} (h:ZQ p=true) {j:Nat} {f:Pr} (hj:p.procs[j]? = some f) {s:Step}:s∈WL (QX p j f) f ↔ ∃ l∈trapsW (QX p j f) f,∃ t∈flL f.body,t.id∈l∧t.kind=10∧s=⟨t.id,-1,3⟩:=by
 unfold WL
 constructor
 ·intro hs
  obtain ⟨l,hl,hs⟩:=List.mem_flatMap.1 hs
  obtain ⟨id,hid,hs⟩:=List.mem_flatMap.1 hs
  have hb:=(x9i h hj hl).2 id hid
  obtain ⟨t,ht,h1,h2⟩:=q2m h hj hb.1 hb.2
  have e:(QX p j f).p=p:=rfl
  unfold vOf at hs
  rw [e,h1] at hs
  simp only at hs
  split at hs
  ·rename_i hk
   exact ⟨l,hl,t,ht,by rw [h2];exact hid,hk,by rw [h2];simpa using hs⟩
  ·cases hs
 ·rintro ⟨l,hl,t,ht,hid,hk,rfl⟩
  refine List.mem_flatMap.2 ⟨l,hl,List.mem_flatMap.2 ⟨t.id,hid,?_⟩⟩
  have e:(QX p j f).p=p:=rfl
  unfold vOf
  rw [e,w1p h hj ht]
  simp [hk]
theorem x5m {p:Pg} (h:ZQ p=true) {j:Nat} {f:Pr} (hj:p.procs[j]? = some f) : ∀ s∈WL (QX p j f) f++(QX p j f).real,okSt s:=fun s hs =>
 (List.mem_append.1 hs).elim ((w3i h hj).virt_ok s) ((w3i h hj).hok s)
theorem z3o {p:Pg} (h:ZQ p=true) {j:Nat} {f:Pr} (hj:p.procs[j]? = some f) {s:Step} (hs:s∈WL (QX p j f) f++(QX p j f).real):stR (w2f (QX p j f) f) s.src s.dst:=by
 obtain ⟨s',h1,h2,h3,_⟩:=(FW (x5m h hj)).2.2 s hs
 exact ⟨s',h1,h2,h3⟩
theorem z3h {p:Pg} (h:ZQ p=true) {j:Nat} {f:Pr} (hj:p.procs[j]? = some f) {x:Int} (hx:plP p j f x):Rch (stR (w2f (QX p j f) f)) x (-1):=by
 have hm : ∀ a b,wR p j f a b→stR (w2f (QX p j f) f) a b:=fun a b ⟨s,hs,h1,h2⟩=>by
  rw [← h1,← h2]
  exact z3o h hj (List.mem_append.2 (.inr hs))
 obtain ⟨y,h1,h2⟩:=w3w h hj hx
 have hy:=w1z h hj hx h1
 have hcl : ∀ b c,sccP (wR p j f) y b→wR p j f b c→sccP (wR p j f) y c:=fun b c hb hbc=>by
  have h3:Rch (wR p j f) y c := .tail hb.1 hbc
  exact ⟨h3,h2 c h3⟩
 by_cases hxe:sccP (wR p j f) y (-1)
 ·exact (h1.trans hxe.1).mono hm
 have h0 : ¬sccP (wR p j f) y 0:=fun hs=>by
  have hy0:=x2u h hj hs.1
  subst hy0
  have h3:=h2 _ (.tail .refl (x9e h hj))
  have h4:=x2u h hj h3
  have h5:=x9e h hj
  rw [h4] at h5
  exact x1u h hj h5
 obtain ⟨l,hl,hlm⟩:=w3z h hj hy hcl h0 hxe
 obtain ⟨t,ht,h3,h4⟩:=z5j h hj hy hcl h0 hxe
 have hv:(⟨t.id,-1,3⟩:Step)∈WL (QX p j f) f:=(MH h hj).2 ⟨l,hl,t,ht,(hlm _).2 ⟨w1z h hj hy h3.1,h3⟩,h4,rfl⟩
 exact .tail ((h1.trans h3.1).mono hm) (z3o h hj (List.mem_append.2 (.inl hv)))
open Go.Proofs
theorem z2z {p:Pg} (h:ZQ p=true) (n:Int) : ∃ (k:Nat) (f:Pr),p.procs[k]? = some f∧LE p (UW p n)=some (QX p k f)∧VY p (UW p n)=(f,true):=by
 have hne:0<p.procs.length:=by
  obtain ⟨_,hb,_⟩:=ZN (XZ h).2.1
  cases hp:p.procs with
  | nil =>
    unfold XO procsN at hb
    rw [hp] at hb
    simp at hb
  | cons a r=>simp
 have hr:=LG (n:=n) (k:=p.procs.length) (by omega)
 have hlt:(x1g n p.procs.length).toNat<p.procs.length:=by omega
 have e:UW p n=(p.procs[(x1g n p.procs.length).toNat]).name:=by unfold UW;rw [List.getElem?_eq_getElem hlt]
 cases hw:LE p (UW p n) with
 | none =>
   exfalso
   unfold LE at hw
   rw [h,cond_true] at hw
   cases hf:p.procs.find? (fun f=>f.name==UW p n) with
   | none =>
     have:=List.find?_eq_none.1 hf _ (List.getElem_mem hlt)
     simp [e] at this
   | some g=>rw [hf] at hw;cases hw
 | some w =>
   obtain ⟨k,f,hkj,rfl,_,hfn,hfind⟩:=NP hw
   exact ⟨k,f,hkj,rfl,by unfold VY;rw [hfind]⟩
open Go.Proofs
open Go.Proofs
open Go.Proofs
open Go.Proofs
open Go.Proofs
open Go.Proofs
open Go.Proofs
def ElS (es es':List AV):Prop:=es'.length=es.length ∧ ∀ (m:Nat) (x':AV),es'[m]? = some x' → ∃ x,es[m]? = some x∧x'.cells.length=x.cells.length ∧ ∀ (j:Nat) (c':AV),x'.cells[j]? = some c' → ∃ c,x.cells[j]? = some c∧Sub c c'
theorem ElS.refl (es:List AV):ElS es es:=⟨rfl,fun _ x' h=>⟨x',h,rfl,fun _ c' hc=>⟨c',hc,Sub.refl _⟩⟩⟩
open Go.Proofs
open Go.Proofs
open Go.Proofs
theorem x4e {l:List Str} {s:Str} (h:s∈l):s∈Go.Lib.compact l:=by
 have key : ∀ (j:Nat) (hj:j<l.length),l[j]∈Go.Lib.compact l:=fun j=>by
  induction j with
  | zero =>
    intro hj
    refine List.mem_map.2 ⟨0,List.mem_filter.2 ⟨by simpa using hj,by simp [Go.Lib.keeps]⟩,?_⟩
    simp [hj]
  | succ j ih =>
    intro hj
    cases hk:Go.Lib.keeps l.toArray (j+1) with
    | true =>
      refine List.mem_map.2 ⟨j+1,List.mem_filter.2 ⟨by simpa using hj,hk⟩,?_⟩
      simp [hj]
    | false =>
      have hj':j<l.length:=by omega
      have:l[j+1]=l[j]:=by
       unfold Go.Lib.keeps at hk
       simp [hj,hj'] at hk
       exact hk
      rw [this]
      exact ih hj'
 obtain ⟨j,hj,rfl⟩:=List.mem_iff_getElem.1 h
 exact key j hj
theorem q3j {l:List Str} {s:Str}:s∈Go.Lib.compact l↔s∈l:=⟨NZ,x4e⟩
open Go.Proofs
section
variable {p:Pg} {k:Nat} {f:Pr}
end
open Go.Proofs
theorem q7f : ∀ (l:List Pr) {n:Nat} {m:Int},XF n l=some m → ∀ (j:Nat) (f:Pr),l[j]? = some f → ∃ m',VV 1 ((n+QL l j:Nat):Int) f.body=some m'
 | [],_,_,_,j,f,hj=>by simp at hj
 | g::r,n,m,h,j,f,hj=>by
   rw [XF] at h
   cases hm:JT g<;>rw [hm] at h
   ·cases h
   simp only [cond_true] at h
   split at h
   ·rename_i m1 h1
    cases j with
    | zero =>
      cases hj
      exact ⟨m1,h1⟩
    | succ j =>
      have h2:=VL _ _ g.body h1
      have h':XF ((n+QV g.body:Nat):Int) r=some m:=by rw [← h,h2];rfl
      obtain ⟨m',h3⟩:=q7f r h' j f (by simpa using hj)
      exact ⟨m',by rw [← h3,QL];congr 1;omega⟩
   ·cases h
theorem x5y {p:Pg} (h:VJ p=true) {j:Nat} {f:Pr} (hj:p.procs[j]? = some f) : ∃ m,VV 1 ((QL p.procs j:Nat):Int) f.body=some m:=by
 unfold VJ at h
 simp only [Bool.and_eq_true] at h
 obtain ⟨m,hm⟩:=Option.isSome_iff_exists.1 h.2
 obtain ⟨m',h'⟩:=q7f p.procs (n:=0) hm j f hj
 exact ⟨m',by rw [← h'];congr 1;omega⟩
section
variable {p:Pg} {k:Nat} {f:Pr}
end
open Go.Proofs
end Go.Ab
