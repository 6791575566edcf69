/- flat: rows laid flat. -/
import Derived.Test.YtneccajakpeodaaGreatAugA6
import Derived.Test.YtneccajakpeodaaGreatAugA8
set_option linter.unusedSimpArgs false
set_option linter.unusedVariables false
set_option maxRecDepth 100000
set_option maxHeartbeats 16000000
namespace Go.Ab
open Go.Proofs
structure Item where
 s:S
 proc:Int
 up:Int
 next:Int
 loop:Int
def Item.cells (i:Item):List AV:=i.s.cells++[.int .i64 i.proc,.int .i64 i.up,.int .i64 i.next,.int .i64 i.loop]
mutual
def q3b (proc up nx loop:Int) (acc:List Item):S→List Item
 | .mk id kind labels name pr x has args thn els =>
   XK proc (acc.length+1) (if kind=6 then acc.length+1 else nx) (if kind=6 then acc.length+1 else loop)
    (XK proc (acc.length+1) (if kind=6 then acc.length+1 else nx) (if kind=6 then acc.length+1 else loop) (acc++[⟨.mk id kind labels name pr x has args thn els,proc,up,nx,loop⟩]) thn) els
def XK (proc up nx loop:Int) (acc:List Item):List S→List Item
 | []=>acc
 | t::r=>XK proc up nx loop (q3b proc up (if r.isEmpty then nx else acc.length+1+ZU t) loop acc t) r
end
theorem HB (proc up nx loop:Int) (acc:List Item) (t:S):q3b proc up nx loop acc t=XK proc (acc.length+1) (if t.kind=6 then acc.length+1 else nx) (if t.kind=6 then acc.length+1 else loop)
   (XK proc (acc.length+1) (if t.kind=6 then acc.length+1 else nx) (if t.kind=6 then acc.length+1 else loop) (acc++[⟨t,proc,up,nx,loop⟩]) t.thn) t.els:=by
 cases t
 rw [q3b]
 rfl
mutual
theorem XI (proc up nx loop:Int) (acc:List Item) : ∀ t:S,(q3b proc up nx loop acc t).length=acc.length+ZU t
 | .mk id kind labels name pr x has args thn els=>by
   rw [q3b,ZU,XX _ _ _ _ _ els,XX _ _ _ _ _ thn]
   simp
   omega
theorem XX (proc up nx loop:Int) (acc:List Item) : ∀ l:List S,(XK proc up nx loop acc l).length=acc.length+QY l
 | []=>by rw [XK,QY];rfl
 | t::r=>by
   rw [XK,QY,XX _ _ _ _ _ r,XI _ _ _ _ _ t]
   omega
end
theorem WO {proc up nx loop:Int} {acc:List Item} {l:List S} {j:Nat} (hj:j<l.length) :
  XK proc up nx loop acc (l.drop j)=XK proc up nx loop (q3b proc up (if j+1<l.length then acc.length+1+ZU l[j] else nx) loop acc l[j]) (l.drop (j+1)):=by
 rw [QJ hj,XK]
 congr 2
 by_cases h:j+1<l.length
 ·rw [if_pos h,if_neg]
  simp only [List.isEmpty_iff]
  intro he
  have:=congrArg List.length he
  simp at this
  omega
 ·rw [if_neg h,if_pos]
  rw [List.drop_eq_nil_of_le (by omega)]
  rfl
def z2l (tS tI tN:Nat) (gl pr:AV) (L:List Item) (lo hi:List Int):Heap :=
 [(1000,.obj tS [.p gl,.p pr,.hd 2000 0 L.length,.hd 2001 0 lo.length,.hd 2002 0 hi.length]),(2000,.own tI 17 (L.map fun i => .agg i.cells)),(2001,.own tN 1 (lo.map (.int .i64))),(2002,.own tN 1 (hi.map (.int .i64)))]
def X0:X := .mk 0 0 [] []
def S0:S := .mk 0 0 [] [] [] X0 false [] [] []
theorem LSub.agg {cs ds:List AV} (h:SubL cs ds):LSub (.p (.agg cs)) (.p (.agg ds)) := .p (Sub.agg h)
theorem x9x : ∀ (n:Nat) (_:n≤1000) (l:List S) (_:QY l<n) (acc:List Item) (_:acc.length+QY l≤1000) (a:Item) (gl pr:AV) (lo hi:List Int),
  SpecH Tryz.prog 141 [.ptr 1000 0,.p (eSs l),.p (.agg a.cells)] (z2l 101 98 3 gl pr acc lo hi)
   (fun r H=>r = .p (.tup [])∧H=z2l 101 98 3 gl pr (XK a.proc a.up a.next a.loop acc l) lo hi):=by
 intro n
 induction n with
 | zero=>intro _ l h;omega
 | succ n ih =>
   intro hn l hl acc hacc a gl pr lo hi
   have hl1:=S.avs_len l
   refine SpecH.body q2c QQ Tryz.func141 rfl Tryz.call141 (by show 3≤_;decide) ?_
   conv=>whnf
   repeat' (intro (_:_≤9223372036854775807);conv=>whnf)
   refine LoopK.inv QQ (fun i:Nat×List Item=>⟨[(0,.ptr 1000 0),(1,.p (eSs l)),(5,.p (.ip a.cells)),(11,.p (eSs l)),(12,.p (.int .i64 (S.avs l).length)),(13,.p (.int .i64 i.1))],z2l 101 98 3 gl pr i.2 lo hi⟩) (fun i=>i.1≤l.length∧acc.length≤i.2.length∧i.2.length+QY (l.drop i.1)=acc.length+QY l∧XK a.proc a.up a.next a.loop i.2 (l.drop i.1)=XK a.proc a.up a.next a.loop acc l) (fun i=>l.length-i.1) (0,acc) (Le.of_eq rfl) ⟨Nat.zero_le _,Nat.le_refl _,rfl,rfl⟩ ?_
   rintro ⟨j,b⟩ ⟨h2,h5,h3,h4⟩
   simp only at h2 h3 h4 h5 ⊢
   have hst : ∀ hj:j<l.length,QY (l.drop j)=ZU l[j]+QY (l.drop (j+1)):=fun hj=>LD hj
   conv=>whnf
   repeat' (first|((first|intro (_:_≤9223372036854775807)|refine DrawK.auto QQ mixed (by kernel_rfl) ?_|refine And.intro rfl ?_|(refine And.intro ⟨by decide,by decide⟩ ?_)|refine BsK.pure (fun x hx=>by rcases List.mem_singleton.1 hx with rfl;rfl) rfl ?_|refine IdxK.ss (by omega) ?_|refine Wr.i64 (by omega) (by omega) ?_|(refine CallK.pure (z2c 1000 (by omega) (l[j]'(by omega)) (by have:=hst (by omega);omega)) (.cons (Sub.refl _) .nil) ?_;rintro _ rfl)|refine Wr.i64 (by have:=hst (by omega);omega) (by have:=hst (by omega);omega) ?_|refine AppK.mk (by simp) rfl (by show (b.length+1)*240≤140737488355328;have:=hst (by omega);omega) (by show b.length+1≤9223372036854775807;have:=hst (by omega);omega) (fun x hx=>by rcases List.mem_singleton.1 hx with rfl;exact ⟨rfl,rfl⟩) ?_);conv=>whnf)|(refine Br.dec (fun _=>?_) (fun _=>?_)<;>first|(exfalso;omega)|conv=>whnf)|(refine And.intro ?_ ?_<;>conv=>whnf))
   ·have hj:j<l.length:=by omega
    have hst:=hst hj
    have hcs:=WZ l[j]
    refine CallK.heap [(1000,1000),(2000,2000),(2001,2001),(2002,2002)] 0 (by refine ArgsH.cons (LSub.refl _) (ArgsH.cons (LSub.refl _) (ArgsH.cons (LSub.agg ?_) ArgsH.nil));repeat' (first|exact SubL.nil|refine SubL.cons ?_ ?_|exact Sub.refl _|exact Sub.nils|exact Sub.ff rfl)) (by exact BlksH.cons (j:=1000) rfl rfl (CSub.of_eq (by rw [List.length_append];first|done|rfl)) (BlksH.cons (j:=2000) rfl rfl (CSub.of_eq (by rw [List.map_append];first|done|rfl)) (BlksH.cons (j:=2001) rfl rfl (CSub.refl _) (BlksH.cons (j:=2002) rfl rfl (CSub.refl _) BlksH.nil)))) (ih (by omega) l[j].thn (by omega) (b++[⟨l[j]'hj,a.proc,a.up,(b.length+1+ZU (l[j]'hj):Int),a.loop⟩]) (by rw [List.length_append];simp only [List.length_singleton];omega) ⟨S0,a.proc,b.length+1,(b.length+1:Int),(b.length+1:Int)⟩ gl pr lo hi) rfl rfl ?_
    rintro l' H' ⟨rfl,rfl⟩
    conv=>whnf
    refine CallK.heap [(1000,1000),(2000,2000),(2001,2001),(2002,2002)] 0 (by refine ArgsH.cons (LSub.refl _) (ArgsH.cons (LSub.refl _) (ArgsH.cons (LSub.agg ?_) ArgsH.nil));repeat' (first|exact SubL.nil|refine SubL.cons ?_ ?_|exact Sub.refl _|exact Sub.nils|exact Sub.ff rfl)) (by exact BlksH.cons (j:=1000) rfl rfl (CSub.refl _) (BlksH.cons (j:=2000) rfl rfl (CSub.refl _) (BlksH.cons (j:=2001) rfl rfl (CSub.refl _) (BlksH.cons (j:=2002) rfl rfl (CSub.refl _) BlksH.nil)))) (ih (by omega) l[j].els (by omega) (XK a.proc (b.length+1) (b.length+1:Int) (b.length+1:Int) (b++[⟨l[j]'hj,a.proc,a.up,(b.length+1+ZU (l[j]'hj):Int),a.loop⟩]) (l[j]'hj).thn) (by rw [XX,List.length_append];simp only [List.length_singleton];omega) ⟨S0,a.proc,b.length+1,(b.length+1:Int),(b.length+1:Int)⟩ gl pr lo hi) rfl rfl ?_
    rintro l' H' ⟨rfl,rfl⟩
    conv=>whnf
    refine Wr.i64 (by omega) (by omega) ?_
    conv=>whnf
    have hrow:q3b a.proc a.up (b.length+1+ZU (l[j]'hj):Int) a.loop b l[j]=XK a.proc (b.length+1) (b.length+1:Int) (b.length+1:Int) (XK a.proc (b.length+1) (b.length+1:Int) (b.length+1:Int) (b++[⟨l[j]'hj,a.proc,a.up,(b.length+1+ZU (l[j]'hj):Int),a.loop⟩]) (l[j]'hj).thn) l[j].els:=by
     rw [HB,if_pos (by assumption),if_pos (by assumption)]
    exact ⟨(j+1,q3b a.proc a.up (b.length+1+ZU (l[j]'hj):Int) a.loop b l[j]),⟨by simp only;omega,by simp only;rw [XI];omega,by simp only;rw [XI];omega,by simp only;rw [← h4,WO hj,if_pos (by omega)]⟩,by simp only;omega,Le.of_eq (by simp only;rw [hrow];rfl)⟩
   ·have hj:j<l.length:=by omega
    have hst:=hst hj
    have hcs:=WZ l[j]
    refine CallK.heap [(1000,1000),(2000,2000),(2001,2001),(2002,2002)] 0 (by refine ArgsH.cons (LSub.refl _) (ArgsH.cons (LSub.refl _) (ArgsH.cons (LSub.agg ?_) ArgsH.nil));repeat' (first|exact SubL.nil|refine SubL.cons ?_ ?_|exact Sub.refl _|exact Sub.nils|exact Sub.ff rfl)) (by exact BlksH.cons (j:=1000) rfl rfl (CSub.of_eq (by rw [List.length_append];first|done|rfl)) (BlksH.cons (j:=2000) rfl rfl (CSub.of_eq (by rw [List.map_append];first|done|rfl)) (BlksH.cons (j:=2001) rfl rfl (CSub.refl _) (BlksH.cons (j:=2002) rfl rfl (CSub.refl _) BlksH.nil)))) (ih (by omega) l[j].thn (by omega) (b++[⟨l[j]'hj,a.proc,a.up,(b.length+1+ZU (l[j]'hj):Int),a.loop⟩]) (by rw [List.length_append];simp only [List.length_singleton];omega) ⟨S0,a.proc,b.length+1,(b.length+1+ZU (l[j]'hj):Int),a.loop⟩ gl pr lo hi) rfl rfl ?_
    rintro l' H' ⟨rfl,rfl⟩
    conv=>whnf
    refine CallK.heap [(1000,1000),(2000,2000),(2001,2001),(2002,2002)] 0 (by refine ArgsH.cons (LSub.refl _) (ArgsH.cons (LSub.refl _) (ArgsH.cons (LSub.agg ?_) ArgsH.nil));repeat' (first|exact SubL.nil|refine SubL.cons ?_ ?_|exact Sub.refl _|exact Sub.nils|exact Sub.ff rfl)) (by exact BlksH.cons (j:=1000) rfl rfl (CSub.refl _) (BlksH.cons (j:=2000) rfl rfl (CSub.refl _) (BlksH.cons (j:=2001) rfl rfl (CSub.refl _) (BlksH.cons (j:=2002) rfl rfl (CSub.refl _) BlksH.nil)))) (ih (by omega) l[j].els (by omega) (XK a.proc (b.length+1) (b.length+1+ZU (l[j]'hj):Int) a.loop (b++[⟨l[j]'hj,a.proc,a.up,(b.length+1+ZU (l[j]'hj):Int),a.loop⟩]) (l[j]'hj).thn) (by rw [XX,List.length_append];simp only [List.length_singleton];omega) ⟨S0,a.proc,b.length+1,(b.length+1+ZU (l[j]'hj):Int),a.loop⟩ gl pr lo hi) rfl rfl ?_
    rintro l' H' ⟨rfl,rfl⟩
    conv=>whnf
    refine Wr.i64 (by omega) (by omega) ?_
    conv=>whnf
    have hrow:q3b a.proc a.up (b.length+1+ZU (l[j]'hj):Int) a.loop b l[j]=XK a.proc (b.length+1) (b.length+1+ZU (l[j]'hj):Int) a.loop (XK a.proc (b.length+1) (b.length+1+ZU (l[j]'hj):Int) a.loop (b++[⟨l[j]'hj,a.proc,a.up,(b.length+1+ZU (l[j]'hj):Int),a.loop⟩]) (l[j]'hj).thn) l[j].els:=by
     rw [HB,if_neg (by assumption),if_neg (by assumption)]
    exact ⟨(j+1,q3b a.proc a.up (b.length+1+ZU (l[j]'hj):Int) a.loop b l[j]),⟨by simp only;omega,by simp only;rw [XI];omega,by simp only;rw [XI];omega,by simp only;rw [← h4,WO hj,if_pos (by omega)]⟩,by simp only;omega,Le.of_eq (by simp only;rw [hrow];rfl)⟩
   ·have hj:j<l.length:=by omega
    have hst:=hst hj
    have hcs:=WZ l[j]
    refine CallK.heap [(1000,1000),(2000,2000),(2001,2001),(2002,2002)] 0 (by refine ArgsH.cons (LSub.refl _) (ArgsH.cons (LSub.refl _) (ArgsH.cons (LSub.agg ?_) ArgsH.nil));repeat' (first|exact SubL.nil|refine SubL.cons ?_ ?_|exact Sub.refl _|exact Sub.nils|exact Sub.ff rfl)) (by exact BlksH.cons (j:=1000) rfl rfl (CSub.of_eq (by rw [List.length_append];first|done|rfl)) (BlksH.cons (j:=2000) rfl rfl (CSub.of_eq (by rw [List.map_append];first|done|rfl)) (BlksH.cons (j:=2001) rfl rfl (CSub.refl _) (BlksH.cons (j:=2002) rfl rfl (CSub.refl _) BlksH.nil)))) (ih (by omega) l[j].thn (by omega) (b++[⟨l[j]'hj,a.proc,a.up,(b.length+1+ZU (l[j]'hj):Int),a.loop⟩]) (by rw [List.length_append];simp only [List.length_singleton];omega) ⟨S0,a.proc,b.length+1,(b.length+1:Int),(b.length+1:Int)⟩ gl pr lo hi) rfl rfl ?_
    rintro l' H' ⟨rfl,rfl⟩
    conv=>whnf
    refine CallK.heap [(1000,1000),(2000,2000),(2001,2001),(2002,2002)] 0 (by refine ArgsH.cons (LSub.refl _) (ArgsH.cons (LSub.refl _) (ArgsH.cons (LSub.agg ?_) ArgsH.nil));repeat' (first|exact SubL.nil|refine SubL.cons ?_ ?_|exact Sub.refl _|exact Sub.nils|exact Sub.ff rfl)) (by exact BlksH.cons (j:=1000) rfl rfl (CSub.refl _) (BlksH.cons (j:=2000) rfl rfl (CSub.refl _) (BlksH.cons (j:=2001) rfl rfl (CSub.refl _) (BlksH.cons (j:=2002) rfl rfl (CSub.refl _) BlksH.nil)))) (ih (by omega) l[j].els (by omega) (XK a.proc (b.length+1) (b.length+1:Int) (b.length+1:Int) (b++[⟨l[j]'hj,a.proc,a.up,(b.length+1+ZU (l[j]'hj):Int),a.loop⟩]) (l[j]'hj).thn) (by rw [XX,List.length_append];simp only [List.length_singleton];omega) ⟨S0,a.proc,b.length+1,(b.length+1:Int),(b.length+1:Int)⟩ gl pr lo hi) rfl rfl ?_
    rintro l' H' ⟨rfl,rfl⟩
    conv=>whnf
    refine Wr.i64 (by omega) (by omega) ?_
    conv=>whnf
    have hrow:q3b a.proc a.up (b.length+1+ZU (l[j]'hj):Int) a.loop b l[j]=XK a.proc (b.length+1) (b.length+1:Int) (b.length+1:Int) (XK a.proc (b.length+1) (b.length+1:Int) (b.length+1:Int) (b++[⟨l[j]'hj,a.proc,a.up,(b.length+1+ZU (l[j]'hj):Int),a.loop⟩]) (l[j]'hj).thn) l[j].els:=by
     rw [HB,if_pos (by assumption),if_pos (by assumption)]
    exact ⟨(j+1,q3b a.proc a.up (b.length+1+ZU (l[j]'hj):Int) a.loop b l[j]),⟨by simp only;omega,by simp only;rw [XI];omega,by simp only;rw [XI];omega,by simp only;rw [← h4,WO hj,if_pos (by omega)]⟩,by simp only;omega,Le.of_eq (by simp only;rw [hrow];rfl)⟩
   ·have hj:j<l.length:=by omega
    have hst:=hst hj
    have hcs:=WZ l[j]
    refine CallK.heap [(1000,1000),(2000,2000),(2001,2001),(2002,2002)] 0 (by refine ArgsH.cons (LSub.refl _) (ArgsH.cons (LSub.refl _) (ArgsH.cons (LSub.agg ?_) ArgsH.nil));repeat' (first|exact SubL.nil|refine SubL.cons ?_ ?_|exact Sub.refl _|exact Sub.nils|exact Sub.ff rfl)) (by exact BlksH.cons (j:=1000) rfl rfl (CSub.of_eq (by rw [List.length_append];first|done|rfl)) (BlksH.cons (j:=2000) rfl rfl (CSub.of_eq (by rw [List.map_append];first|done|rfl)) (BlksH.cons (j:=2001) rfl rfl (CSub.refl _) (BlksH.cons (j:=2002) rfl rfl (CSub.refl _) BlksH.nil)))) (ih (by omega) l[j].thn (by omega) (b++[⟨l[j]'hj,a.proc,a.up,(b.length+1+ZU (l[j]'hj):Int),a.loop⟩]) (by rw [List.length_append];simp only [List.length_singleton];omega) ⟨S0,a.proc,b.length+1,(b.length+1+ZU (l[j]'hj):Int),a.loop⟩ gl pr lo hi) rfl rfl ?_
    rintro l' H' ⟨rfl,rfl⟩
    conv=>whnf
    refine CallK.heap [(1000,1000),(2000,2000),(2001,2001),(2002,2002)] 0 (by refine ArgsH.cons (LSub.refl _) (ArgsH.cons (LSub.refl _) (ArgsH.cons (LSub.agg ?_) ArgsH.nil));repeat' (first|exact SubL.nil|refine SubL.cons ?_ ?_|exact Sub.refl _|exact Sub.nils|exact Sub.ff rfl)) (by exact BlksH.cons (j:=1000) rfl rfl (CSub.refl _) (BlksH.cons (j:=2000) rfl rfl (CSub.refl _) (BlksH.cons (j:=2001) rfl rfl (CSub.refl _) (BlksH.cons (j:=2002) rfl rfl (CSub.refl _) BlksH.nil)))) (ih (by omega) l[j].els (by omega) (XK a.proc (b.length+1) (b.length+1+ZU (l[j]'hj):Int) a.loop (b++[⟨l[j]'hj,a.proc,a.up,(b.length+1+ZU (l[j]'hj):Int),a.loop⟩]) (l[j]'hj).thn) (by rw [XX,List.length_append];simp only [List.length_singleton];omega) ⟨S0,a.proc,b.length+1,(b.length+1+ZU (l[j]'hj):Int),a.loop⟩ gl pr lo hi) rfl rfl ?_
    rintro l' H' ⟨rfl,rfl⟩
    conv=>whnf
    refine Wr.i64 (by omega) (by omega) ?_
    conv=>whnf
    have hrow:q3b a.proc a.up (b.length+1+ZU (l[j]'hj):Int) a.loop b l[j]=XK a.proc (b.length+1) (b.length+1+ZU (l[j]'hj):Int) a.loop (XK a.proc (b.length+1) (b.length+1+ZU (l[j]'hj):Int) a.loop (b++[⟨l[j]'hj,a.proc,a.up,(b.length+1+ZU (l[j]'hj):Int),a.loop⟩]) (l[j]'hj).thn) l[j].els:=by
     rw [HB,if_neg (by assumption),if_neg (by assumption)]
    exact ⟨(j+1,q3b a.proc a.up (b.length+1+ZU (l[j]'hj):Int) a.loop b l[j]),⟨by simp only;omega,by simp only;rw [XI];omega,by simp only;rw [XI];omega,by simp only;rw [← h4,WO hj,if_pos (by omega)]⟩,by simp only;omega,Le.of_eq (by simp only;rw [hrow];rfl)⟩
   ·have hj:j<l.length:=by omega
    have hst:=hst hj
    have hcs:=WZ l[j]
    refine CallK.heap [(1000,1000),(2000,2000),(2001,2001),(2002,2002)] 0 (by refine ArgsH.cons (LSub.refl _) (ArgsH.cons (LSub.refl _) (ArgsH.cons (LSub.agg ?_) ArgsH.nil));repeat' (first|exact SubL.nil|refine SubL.cons ?_ ?_|exact Sub.refl _|exact Sub.nils|exact Sub.ff rfl)) (by exact BlksH.cons (j:=1000) rfl rfl (CSub.of_eq (by rw [List.length_append];first|done|rfl)) (BlksH.cons (j:=2000) rfl rfl (CSub.of_eq (by rw [List.map_append];first|done|rfl)) (BlksH.cons (j:=2001) rfl rfl (CSub.refl _) (BlksH.cons (j:=2002) rfl rfl (CSub.refl _) BlksH.nil)))) (ih (by omega) l[j].thn (by omega) (b++[⟨l[j]'hj,a.proc,a.up,a.next,a.loop⟩]) (by rw [List.length_append];simp only [List.length_singleton];omega) ⟨S0,a.proc,b.length+1,(b.length+1:Int),(b.length+1:Int)⟩ gl pr lo hi) rfl rfl ?_
    rintro l' H' ⟨rfl,rfl⟩
    conv=>whnf
    refine CallK.heap [(1000,1000),(2000,2000),(2001,2001),(2002,2002)] 0 (by refine ArgsH.cons (LSub.refl _) (ArgsH.cons (LSub.refl _) (ArgsH.cons (LSub.agg ?_) ArgsH.nil));repeat' (first|exact SubL.nil|refine SubL.cons ?_ ?_|exact Sub.refl _|exact Sub.nils|exact Sub.ff rfl)) (by exact BlksH.cons (j:=1000) rfl rfl (CSub.refl _) (BlksH.cons (j:=2000) rfl rfl (CSub.refl _) (BlksH.cons (j:=2001) rfl rfl (CSub.refl _) (BlksH.cons (j:=2002) rfl rfl (CSub.refl _) BlksH.nil)))) (ih (by omega) l[j].els (by omega) (XK a.proc (b.length+1) (b.length+1:Int) (b.length+1:Int) (b++[⟨l[j]'hj,a.proc,a.up,a.next,a.loop⟩]) (l[j]'hj).thn) (by rw [XX,List.length_append];simp only [List.length_singleton];omega) ⟨S0,a.proc,b.length+1,(b.length+1:Int),(b.length+1:Int)⟩ gl pr lo hi) rfl rfl ?_
    rintro l' H' ⟨rfl,rfl⟩
    conv=>whnf
    refine Wr.i64 (by omega) (by omega) ?_
    conv=>whnf
    have hrow:q3b a.proc a.up a.next a.loop b l[j]=XK a.proc (b.length+1) (b.length+1:Int) (b.length+1:Int) (XK a.proc (b.length+1) (b.length+1:Int) (b.length+1:Int) (b++[⟨l[j]'hj,a.proc,a.up,a.next,a.loop⟩]) (l[j]'hj).thn) l[j].els:=by
     rw [HB,if_pos (by assumption),if_pos (by assumption)]
    exact ⟨(j+1,q3b a.proc a.up a.next a.loop b l[j]),⟨by simp only;omega,by simp only;rw [XI];omega,by simp only;rw [XI];omega,by simp only;rw [← h4,WO hj,if_neg (by omega)]⟩,by simp only;omega,Le.of_eq (by simp only;rw [hrow];rfl)⟩
   ·have hj:j<l.length:=by omega
    have hst:=hst hj
    have hcs:=WZ l[j]
    refine CallK.heap [(1000,1000),(2000,2000),(2001,2001),(2002,2002)] 0 (by refine ArgsH.cons (LSub.refl _) (ArgsH.cons (LSub.refl _) (ArgsH.cons (LSub.agg ?_) ArgsH.nil));repeat' (first|exact SubL.nil|refine SubL.cons ?_ ?_|exact Sub.refl _|exact Sub.nils|exact Sub.ff rfl)) (by exact BlksH.cons (j:=1000) rfl rfl (CSub.of_eq (by rw [List.length_append];first|done|rfl)) (BlksH.cons (j:=2000) rfl rfl (CSub.of_eq (by rw [List.map_append];first|done|rfl)) (BlksH.cons (j:=2001) rfl rfl (CSub.refl _) (BlksH.cons (j:=2002) rfl rfl (CSub.refl _) BlksH.nil)))) (ih (by omega) l[j].thn (by omega) (b++[⟨l[j]'hj,a.proc,a.up,a.next,a.loop⟩]) (by rw [List.length_append];simp only [List.length_singleton];omega) ⟨S0,a.proc,b.length+1,a.next,a.loop⟩ gl pr lo hi) rfl rfl ?_
    rintro l' H' ⟨rfl,rfl⟩
    conv=>whnf
    refine CallK.heap [(1000,1000),(2000,2000),(2001,2001),(2002,2002)] 0 (by refine ArgsH.cons (LSub.refl _) (ArgsH.cons (LSub.refl _) (ArgsH.cons (LSub.agg ?_) ArgsH.nil));repeat' (first|exact SubL.nil|refine SubL.cons ?_ ?_|exact Sub.refl _|exact Sub.nils|exact Sub.ff rfl)) (by exact BlksH.cons (j:=1000) rfl rfl (CSub.refl _) (BlksH.cons (j:=2000) rfl rfl (CSub.refl _) (BlksH.cons (j:=2001) rfl rfl (CSub.refl _) (BlksH.cons (j:=2002) rfl rfl (CSub.refl _) BlksH.nil)))) (ih (by omega) l[j].els (by omega) (XK a.proc (b.length+1) a.next a.loop (b++[⟨l[j]'hj,a.proc,a.up,a.next,a.loop⟩]) (l[j]'hj).thn) (by rw [XX,List.length_append];simp only [List.length_singleton];omega) ⟨S0,a.proc,b.length+1,a.next,a.loop⟩ gl pr lo hi) rfl rfl ?_
    rintro l' H' ⟨rfl,rfl⟩
    conv=>whnf
    refine Wr.i64 (by omega) (by omega) ?_
    conv=>whnf
    have hrow:q3b a.proc a.up a.next a.loop b l[j]=XK a.proc (b.length+1) a.next a.loop (XK a.proc (b.length+1) a.next a.loop (b++[⟨l[j]'hj,a.proc,a.up,a.next,a.loop⟩]) (l[j]'hj).thn) l[j].els:=by
     rw [HB,if_neg (by assumption),if_neg (by assumption)]
    exact ⟨(j+1,q3b a.proc a.up a.next a.loop b l[j]),⟨by simp only;omega,by simp only;rw [XI];omega,by simp only;rw [XI];omega,by simp only;rw [← h4,WO hj,if_neg (by omega)]⟩,by simp only;omega,Le.of_eq (by simp only;rw [hrow];rfl)⟩
   ·have hj:j<l.length:=by omega
    have hst:=hst hj
    have hcs:=WZ l[j]
    refine CallK.heap [(1000,1000),(2000,2000),(2001,2001),(2002,2002)] 0 (by refine ArgsH.cons (LSub.refl _) (ArgsH.cons (LSub.refl _) (ArgsH.cons (LSub.agg ?_) ArgsH.nil));repeat' (first|exact SubL.nil|refine SubL.cons ?_ ?_|exact Sub.refl _|exact Sub.nils|exact Sub.ff rfl)) (by exact BlksH.cons (j:=1000) rfl rfl (CSub.of_eq (by rw [List.length_append];first|done|rfl)) (BlksH.cons (j:=2000) rfl rfl (CSub.of_eq (by rw [List.map_append];first|done|rfl)) (BlksH.cons (j:=2001) rfl rfl (CSub.refl _) (BlksH.cons (j:=2002) rfl rfl (CSub.refl _) BlksH.nil)))) (ih (by omega) l[j].thn (by omega) (b++[⟨l[j]'hj,a.proc,a.up,a.next,a.loop⟩]) (by rw [List.length_append];simp only [List.length_singleton];omega) ⟨S0,a.proc,b.length+1,(b.length+1:Int),(b.length+1:Int)⟩ gl pr lo hi) rfl rfl ?_
    rintro l' H' ⟨rfl,rfl⟩
    conv=>whnf
    refine CallK.heap [(1000,1000),(2000,2000),(2001,2001),(2002,2002)] 0 (by refine ArgsH.cons (LSub.refl _) (ArgsH.cons (LSub.refl _) (ArgsH.cons (LSub.agg ?_) ArgsH.nil));repeat' (first|exact SubL.nil|refine SubL.cons ?_ ?_|exact Sub.refl _|exact Sub.nils|exact Sub.ff rfl)) (by exact BlksH.cons (j:=1000) rfl rfl (CSub.refl _) (BlksH.cons (j:=2000) rfl rfl (CSub.refl _) (BlksH.cons (j:=2001) rfl rfl (CSub.refl _) (BlksH.cons (j:=2002) rfl rfl (CSub.refl _) BlksH.nil)))) (ih (by omega) l[j].els (by omega) (XK a.proc (b.length+1) (b.length+1:Int) (b.length+1:Int) (b++[⟨l[j]'hj,a.proc,a.up,a.next,a.loop⟩]) (l[j]'hj).thn) (by rw [XX,List.length_append];simp only [List.length_singleton];omega) ⟨S0,a.proc,b.length+1,(b.length+1:Int),(b.length+1:Int)⟩ gl pr lo hi) rfl rfl ?_
    rintro l' H' ⟨rfl,rfl⟩
    conv=>whnf
    refine Wr.i64 (by omega) (by omega) ?_
    conv=>whnf
    have hrow:q3b a.proc a.up a.next a.loop b l[j]=XK a.proc (b.length+1) (b.length+1:Int) (b.length+1:Int) (XK a.proc (b.length+1) (b.length+1:Int) (b.length+1:Int) (b++[⟨l[j]'hj,a.proc,a.up,a.next,a.loop⟩]) (l[j]'hj).thn) l[j].els:=by
     rw [HB,if_pos (by assumption),if_pos (by assumption)]
    exact ⟨(j+1,q3b a.proc a.up a.next a.loop b l[j]),⟨by simp only;omega,by simp only;rw [XI];omega,by simp only;rw [XI];omega,by simp only;rw [← h4,WO hj,if_neg (by omega)]⟩,by simp only;omega,Le.of_eq (by simp only;rw [hrow];rfl)⟩
   ·have hj:j<l.length:=by omega
    have hst:=hst hj
    have hcs:=WZ l[j]
    refine CallK.heap [(1000,1000),(2000,2000),(2001,2001),(2002,2002)] 0 (by refine ArgsH.cons (LSub.refl _) (ArgsH.cons (LSub.refl _) (ArgsH.cons (LSub.agg ?_) ArgsH.nil));repeat' (first|exact SubL.nil|refine SubL.cons ?_ ?_|exact Sub.refl _|exact Sub.nils|exact Sub.ff rfl)) (by exact BlksH.cons (j:=1000) rfl rfl (CSub.of_eq (by rw [List.length_append];first|done|rfl)) (BlksH.cons (j:=2000) rfl rfl (CSub.of_eq (by rw [List.map_append];first|done|rfl)) (BlksH.cons (j:=2001) rfl rfl (CSub.refl _) (BlksH.cons (j:=2002) rfl rfl (CSub.refl _) BlksH.nil)))) (ih (by omega) l[j].thn (by omega) (b++[⟨l[j]'hj,a.proc,a.up,a.next,a.loop⟩]) (by rw [List.length_append];simp only [List.length_singleton];omega) ⟨S0,a.proc,b.length+1,a.next,a.loop⟩ gl pr lo hi) rfl rfl ?_
    rintro l' H' ⟨rfl,rfl⟩
    conv=>whnf
    refine CallK.heap [(1000,1000),(2000,2000),(2001,2001),(2002,2002)] 0 (by refine ArgsH.cons (LSub.refl _) (ArgsH.cons (LSub.refl _) (ArgsH.cons (LSub.agg ?_) ArgsH.nil));repeat' (first|exact SubL.nil|refine SubL.cons ?_ ?_|exact Sub.refl _|exact Sub.nils|exact Sub.ff rfl)) (by exact BlksH.cons (j:=1000) rfl rfl (CSub.refl _) (BlksH.cons (j:=2000) rfl rfl (CSub.refl _) (BlksH.cons (j:=2001) rfl rfl (CSub.refl _) (BlksH.cons (j:=2002) rfl rfl (CSub.refl _) BlksH.nil)))) (ih (by omega) l[j].els (by omega) (XK a.proc (b.length+1) a.next a.loop (b++[⟨l[j]'hj,a.proc,a.up,a.next,a.loop⟩]) (l[j]'hj).thn) (by rw [XX,List.length_append];simp only [List.length_singleton];omega) ⟨S0,a.proc,b.length+1,a.next,a.loop⟩ gl pr lo hi) rfl rfl ?_
    rintro l' H' ⟨rfl,rfl⟩
    conv=>whnf
    refine Wr.i64 (by omega) (by omega) ?_
    conv=>whnf
    have hrow:q3b a.proc a.up a.next a.loop b l[j]=XK a.proc (b.length+1) a.next a.loop (XK a.proc (b.length+1) a.next a.loop (b++[⟨l[j]'hj,a.proc,a.up,a.next,a.loop⟩]) (l[j]'hj).thn) l[j].els:=by
     rw [HB,if_neg (by assumption),if_neg (by assumption)]
    exact ⟨(j+1,q3b a.proc a.up a.next a.loop b l[j]),⟨by simp only;omega,by simp only;rw [XI];omega,by simp only;rw [XI];omega,by simp only;rw [← h4,WO hj,if_neg (by omega)]⟩,by simp only;omega,Le.of_eq (by simp only;rw [hrow];rfl)⟩
   ·refine ⟨_,.refl _,rfl,?_⟩
    rw [List.drop_eq_nil_of_le (by omega),XK] at h4
    rw [← h4]
    rfl
open Go.Proofs
structure Sheet where
 p:Pg
 l:List Item
 lo:List Int
 hi:List Int
def Sheet.cells (s:Sheet):List AV:=s.p.cells++[.sl (s.l.map fun i => .agg i.cells),QS s.lo,QS s.hi]
def cntP:List Pr→Nat
 | []=>0
 | f::r=>QY f.body+cntP r
theorem q5k {l:List Pr} {j:Nat} (hj:j<l.length):cntP (l.drop j)=QY l[j].body+cntP (l.drop (j+1)):=by
 rw [QJ hj,cntP]
def q6s (i:Nat) (acc:List Item) (lo hi:List Int):List Pr→List Item×List Int×List Int
 | []=>(acc,lo,hi)
 | f::r=>q6s (i+1) (XK i 0 (-1) 0 acc f.body) (lo++[(acc.length:Int)+1]) (hi++[((XK i 0 (-1) 0 acc f.body).length:Int)+1]) r
def sheetOf (p:Pg):Sheet:=⟨p,(q6s 0 [] [] [] p.procs).1,(q6s 0 [] [] [] p.procs).2.1,(q6s 0 [] [] [] p.procs).2.2⟩
theorem x4c {i:Nat} {acc:List Item} {lo hi:List Int} {l:List Pr} {j:Nat} (hj:j<l.length) :
  q6s i acc lo hi (l.drop j)=q6s (i+1) (XK i 0 (-1) 0 acc l[j].body) (lo++[(acc.length:Int)+1]) (hi++[((XK i 0 (-1) 0 acc l[j].body).length:Int)+1]) (l.drop (j+1)):=by
 rw [QJ hj,q6s]
def w2d (tS tI tN:Nat) (p:Pg) (L:List Item) (lo hi:List Int):Heap :=
 [(0,.obj tS [.p (QH p.globals),.p (.sl (p.procs.map fun f => .agg f.cells)),.hd 1 0 L.length,.hd 2 0 lo.length,.hd 3 0 hi.length]),(1,.own tI 17 (L.map fun i => .agg i.cells)),(2,.own tN 1 (lo.map (.int .i64))),(3,.own tN 1 (hi.map (.int .i64)))]
theorem GE (p:Pg) (h1:p.procs.length≤1000) (hc:cntP p.procs≤999):SpecP Tryz.prog 82 [.agg p.cells] (fun r=>r = .ip (sheetOf p).cells):=by
 refine SpecP.body x9i QQ Tryz.func82 rfl Tryz.call82 (by show 1≤_;decide) ?_
 conv=>whnf
 repeat' ((first|intro (_:_≤9223372036854775807)|refine And.intro rfl ?_);conv=>whnf)
 have hl2:(p.procs.map fun f=>AV.agg f.cells).length=p.procs.length:=List.length_map _
 refine LoopK.inv QQ (fun i:Nat×List Item×List Int×List Int=>⟨[(3,.ptr 0 0),(10,.p (.sl (p.procs.map fun f=>AV.agg f.cells))),(11,.p (.int .i64 (p.procs.map fun f=>AV.agg f.cells).length)),(12,.p (.int .i64 i.1))],w2d 101 98 3 p i.2.1 i.2.2.1 i.2.2.2⟩)
  (fun i=>i.1≤p.procs.length∧i.2.1.length+cntP (p.procs.drop i.1)=cntP p.procs∧i.2.2.1.length=i.1∧i.2.2.2.length=i.1∧q6s i.1 i.2.1 i.2.2.1 i.2.2.2 (p.procs.drop i.1)=q6s 0 [] [] [] p.procs) (fun i=>p.procs.length-i.1) (0,[],[],[])
  (Le.mk [(1,.own 98 17 []),(2,.own 3 1 []),(3,.own 3 1 [])] (by simp [Chunk.new0];exact ⟨rfl,rfl,rfl⟩) (by simp) (by simp [w2d]) (.cons (.refl _) (.cons (.refl _) (.cons (.refl _) (.cons (.refl _) .nil))))
    (.cons rfl (.obj (.cons (.refl _) (.cons (.refl _) (.cons (.nil List.mem_cons_self) (.cons (.nil (List.mem_cons_of_mem _ List.mem_cons_self)) (.cons (.nil (List.mem_cons_of_mem _ (List.mem_cons_of_mem _ List.mem_cons_self))) .nil)))))) (.new List.mem_cons_self (.new (List.mem_cons_of_mem _ List.mem_cons_self) (.new (List.mem_cons_of_mem _ (List.mem_cons_of_mem _ List.mem_cons_self)) .nil)))))
  ⟨Nat.zero_le _,by simp,rfl,rfl,rfl⟩ ?_
 rintro ⟨j,b,lo,hi⟩ ⟨h2,h3,h4,h5,h6⟩
 simp only at h2 h3 h4 h5 h6 ⊢
 conv=>whnf
 repeat' (first|((first|intro (_:_≤9223372036854775807)|refine DrawK.auto QQ mixed (by kernel_rfl) ?_|refine And.intro rfl ?_|(refine And.intro ⟨by decide,by decide⟩ ?_)|refine BsK.pure (fun x hx=>by rcases List.mem_singleton.1 hx with rfl;rfl) rfl ?_|refine IdxK.map (by omega) (fun _=>rfl) ?_|refine Wr.i64 (by omega) (by omega) ?_|refine AppK.mk (by simp) rfl (by show (lo.length+1)*8≤140737488355328;omega) (by show lo.length+1≤9223372036854775807;omega) (fun x hx=>by rcases List.mem_singleton.1 hx with rfl;exact ⟨rfl,rfl⟩) ?_);conv=>whnf)|(refine Br.dec (fun _=>?_) (fun _=>?_)<;>first|(exfalso;omega)|conv=>whnf)|(refine And.intro ?_ ?_<;>conv=>whnf))
 ·have hj:j<p.procs.length:=by omega
  have hst:=q5k hj
  refine CallK.heap [(1000,0),(2000,1),(2001,2),(2002,3)] 0 (by refine ArgsH.cons (LSub.refl _) (ArgsH.cons (LSub.refl _) (ArgsH.cons (LSub.agg ?_) ArgsH.nil));repeat' (first|exact SubL.nil|refine SubL.cons ?_ ?_|exact Sub.refl _|exact Sub.nils|exact Sub.ff rfl)) (by exact BlksH.cons (j:=0) rfl rfl (CSub.of_eq (by rw [List.length_append];first|done|rfl)) (BlksH.cons (j:=1) rfl rfl (CSub.refl _) (BlksH.cons (j:=2) rfl rfl (CSub.of_eq (by rw [List.map_append];first|done|rfl)) (BlksH.cons (j:=3) rfl rfl (CSub.refl _) BlksH.nil)))) (x9x 1000 (by omega) p.procs[j].body (by omega) b (by omega) ⟨S0,j,0,-1,0⟩ _ _ (lo++[(b.length:Int)+1]) hi) rfl rfl ?_
  rintro l' H' ⟨rfl,rfl⟩
  conv=>whnf
  have hlen:=XX j 0 (-1) 0 b p.procs[j].body
  repeat' (first|((first|intro (_:_≤9223372036854775807)|refine DrawK.auto QQ mixed (by kernel_rfl) ?_|refine And.intro rfl ?_|(refine And.intro ⟨by decide,by decide⟩ ?_)|refine BsK.pure (fun x hx=>by rcases List.mem_singleton.1 hx with rfl;rfl) rfl ?_|refine Wr.i64 (by omega) (by omega) ?_|refine AppK.mk (by simp) rfl (by show (hi.length+1)*8≤140737488355328;omega) (by show hi.length+1≤9223372036854775807;omega) (fun x hx=>by rcases List.mem_singleton.1 hx with rfl;exact ⟨rfl,rfl⟩) ?_|refine Wr.i64 (by rw [XX];omega) (by rw [XX];omega) ?_);conv=>whnf)|(refine And.intro ?_ ?_<;>conv=>whnf))
  all_goals exact ⟨(j+1,XK j 0 (-1) 0 b p.procs[j].body,lo++[(b.length:Int)+1],hi++[((XK j 0 (-1) 0 b p.procs[j].body).length:Int)+1]),⟨by simp only;omega,by simp only;omega,by simp [h4],by simp [h5],by simp only;rw [← h6,x4c hj]⟩,by simp only;omega,Le.of_eq (by simp only [w2d,List.length_append,List.map_append];rfl)⟩
 ·have hj:j<p.procs.length:=by omega
  have hst:=q5k hj
  refine CallK.heap [(1000,0),(2000,1),(2001,2),(2002,3)] 0 (by refine ArgsH.cons (LSub.refl _) (ArgsH.cons (LSub.refl _) (ArgsH.cons (LSub.agg ?_) ArgsH.nil));repeat' (first|exact SubL.nil|refine SubL.cons ?_ ?_|exact Sub.refl _|exact Sub.nils|exact Sub.ff rfl)) (by exact BlksH.cons (j:=0) rfl rfl (CSub.of_eq (by rw [List.length_append];first|done|rfl)) (BlksH.cons (j:=1) rfl rfl (CSub.refl _) (BlksH.cons (j:=2) rfl rfl (CSub.of_eq (by rw [List.map_append];first|done|rfl)) (BlksH.cons (j:=3) rfl rfl (CSub.refl _) BlksH.nil)))) (x9x 1000 (by omega) p.procs[j].body (by omega) b (by omega) ⟨S0,j,0,-1,0⟩ _ _ (lo++[(b.length:Int)+1]) hi) rfl rfl ?_
  rintro l' H' ⟨rfl,rfl⟩
  conv=>whnf
  have hlen:=XX j 0 (-1) 0 b p.procs[j].body
  repeat' (first|((first|intro (_:_≤9223372036854775807)|refine DrawK.auto QQ mixed (by kernel_rfl) ?_|refine And.intro rfl ?_|(refine And.intro ⟨by decide,by decide⟩ ?_)|refine BsK.pure (fun x hx=>by rcases List.mem_singleton.1 hx with rfl;rfl) rfl ?_|refine Wr.i64 (by omega) (by omega) ?_|refine AppK.mk (by simp) rfl (by show (hi.length+1)*8≤140737488355328;omega) (by show hi.length+1≤9223372036854775807;omega) (fun x hx=>by rcases List.mem_singleton.1 hx with rfl;exact ⟨rfl,rfl⟩) ?_|refine Wr.i64 (by rw [XX];omega) (by rw [XX];omega) ?_);conv=>whnf)|(refine And.intro ?_ ?_<;>conv=>whnf))
  all_goals exact ⟨(j+1,XK j 0 (-1) 0 b p.procs[j].body,lo++[(b.length:Int)+1],hi++[((XK j 0 (-1) 0 b p.procs[j].body).length:Int)+1]),⟨by simp only;omega,by simp only;omega,by simp [h4],by simp [h5],by simp only;rw [← h6,x4c hj]⟩,by simp only;omega,Le.of_eq (by simp only [w2d,List.length_append,List.map_append];rfl)⟩
 ·have hd:p.procs.drop j=[]:=List.drop_eq_nil_of_le (by omega)
  rw [hd,q6s] at h6
  refine ⟨.ip (sheetOf p).cells,?_,rfl⟩
  have e:(sheetOf p).cells=[QH p.globals,.sl (p.procs.map fun f => .agg f.cells),.sl (b.map fun i => .agg i.cells),QS lo,QS hi]:=by
   unfold sheetOf
   rw [← h6]
   rfl
  rw [e]
  have hF : ∀ H:Heap,getH H 1=some (.own 98 17 (b.map fun i => .agg i.cells))→getH H 2=some (.own 3 1 (lo.map (.int .i64)))→getH H 3=some (.own 3 1 (hi.map (.int .i64))) →
    FrzL H [.p (QH p.globals),.p (.sl (p.procs.map fun f => .agg f.cells)),.hd 1 0 b.length,.hd 2 0 lo.length,.hd 3 0 hi.length] [QH p.globals,.sl (p.procs.map fun f => .agg f.cells),.sl (b.map fun i => .agg i.cells),QS lo,QS hi]:=fun H g1 g2 g3 =>
   .cons (.p (Sub.refl _)) (.cons (.p (Sub.refl _)) (.cons (.hd g1 (by simp)) (.cons (.hd g2 (by simp)) (.cons (.hd g3 (by simp)) .nil))))
  refine Frz.ptr (off:=0) rfl rfl fun m l c hl hc => ?_
  obtain ⟨l',h7,h8⟩:=(hF (w2d 101 98 3 p b lo hi) rfl rfl rfl).get.2 m c hc
  have h9:=h7.symm.trans hl
  cases h9
  exact h8
open Go.Proofs
theorem IdxK.at {es:List AV} {sz k:Nat} {e:AV} {n:Int} {K:List AV→Prop} (hn:n=k) (he:es[k]? = some e) (hs:e.cells.length=sz) (h:K e.cells):IdxK es sz n K:=⟨k,e,hn,he,hs,h⟩
theorem VF {l:List Int} {k:Nat} {n:Int} (h:l[k]? = some n):(l.map (AV.int .i64))[k]? = some (.int .i64 n):=by simp [h]
def JK (l:List Item):AV := .sl (l.map fun i => .agg i.cells)
theorem x0m (s:Sheet) (i lo hi:Nat) (h1:s.lo[i]? = some ((lo:Int)+1)) (h2:s.hi[i]? = some ((hi:Int)+1)) (h3:lo≤hi) (h4:hi≤s.l.length) (h5:s.l.length≤1000):SpecP Tryz.prog 159 [.ip s.cells,.int .i64 i] (fun r=>r=JK ((s.l.take hi).drop lo)):=by
 refine SpecP.body q6b QQ Tryz.func159 rfl Tryz.call159 (by show 2≤_;decide) ?_
 conv=>whnf
 repeat' ((first|refine DrawK.auto QQ mixed (by kernel_rfl) ?_|refine Wr.i64 (by omega) (by omega) ?_|(refine IdxK.at rfl (VF h1) rfl ?_)|(refine IdxK.at rfl (VF h2) rfl ?_)|refine And.intro (fun e he=>by obtain ⟨x,_,rfl⟩:=List.mem_map.1 he;rfl) (SlK.mk lo hi (by simp) (by simp) h3 (by simpa using h4) ?_));conv=>whnf)
 exact RetK.p (by simp [JK,List.map_take,List.map_drop])
theorem q2e (s:Sheet) (i lo hi:Nat) (h1:s.lo[i]? = some ((lo:Int)+1)) (h2:s.hi[i]? = some ((hi:Int)+1)):SpecP Tryz.prog 134 [.ip s.cells,.int .i64 i] (fun r=>r = .int .i64 (if lo<hi then (lo:Int)+1 else -1)):=by
 refine SpecP.body MD QQ Tryz.func134 rfl Tryz.call134 (by show 2≤_;decide) ?_
 conv=>whnf
 repeat' (first|((first|refine DrawK.auto QQ mixed (by kernel_rfl) ?_|(refine IdxK.at rfl (VF h1) rfl ?_)|(refine IdxK.at rfl (VF h2) rfl ?_));conv=>whnf)|(refine Br.dec (fun _=>?_) (fun _=>?_)<;>first|(exfalso;omega)|conv=>whnf))
 ·exact RetK.int (by rw [if_pos (by omega)])
 ·exact RetK.int (by rw [if_neg (by omega)])
theorem VO (l:List Str) (g:Nat) (c:AV) (p:Str→Bool) (hp : ∀ s,SpecP Tryz.prog g [.str s,c] (fun r=>r = .bool (p s))):SpecP Tryz.prog 259 [QH l,.fn g [c]] (fun r=>r = .int .i64 (q7a p l)):=by
 refine SpecP.body VL QQ Tryz.func259 rfl Tryz.call259 (by show 2≤_;decide) ?_
 conv=>whnf
 intro (_:_≤9223372036854775807)
 have hl:(l.map AV.str).length=l.length:=List.length_map _
 conv=>whnf
 refine LoopK.inv QQ (fun j:Nat=>⟨[(0,.p (QH l)),(1,.p (.fn g [c])),(7,.p (.int .i64 (l.map AV.str).length)),(8,.p (.int .i64 j))],[]⟩) (fun j=>j≤l.length∧(l.drop j).any p=l.any p∧l.findIdx p=j+(l.drop j).findIdx p) (fun j=>l.length-j) 0 (Le.of_eq rfl) ⟨Nat.zero_le _,rfl,by simp⟩ ?_
 rintro j ⟨h2,h3,h4⟩
 conv=>whnf
 repeat' (first|((first|refine IdxK.map (by omega) (fun _=>rfl) ?_|refine Wr.i64 (by omega) (by omega) ?_|(refine CallK.pure (hp _) (.cons (Sub.refl _) (.cons (Sub.refl _) .nil)) ?_;rintro _ rfl));conv=>whnf)|(refine Br.dec (fun _=>?_) (fun _=>?_)<;>first|(exfalso;omega)|conv=>whnf)|(refine Br.b (fun _=>?_) (fun _=>?_)<;>conv=>whnf))
 ·exact RetK.int (x1d (p:=p) (by omega) (by assumption) h3 h4).symm
 ·exact ⟨j+1,⟨by omega,by rw [← h3,q2y (p:=p) (by omega) (by assumption)],by rw [h4,z9i (p:=p) (by omega) (by assumption)];omega⟩,by omega,Le.of_eq rfl⟩
 ·exact RetK.int (by rw [x5f];rw [← h3,FB (by omega)])
theorem VY (l:List Str) (g:Nat) (c:AV) (p:Str→Bool) (hp : ∀ s,SpecP Tryz.prog g [.str s,c] (fun r=>r = .bool (p s))):SpecP Tryz.prog 192 [QH l,.fn g [c]] (fun r=>r = .bool (l.any p)):=by
 refine SpecP.body WR QQ Tryz.func192 rfl Tryz.call192 (by show 2≤_;decide) ?_
 conv=>whnf
 repeat' (refine CallK.pure (VO _ _ _ p hp) (by repeat' (first|exact ArgP.nil|refine ArgP.cons ?_ ?_|exact Sub.refl _|exact Sub.tt rfl|exact Sub.ff rfl|exact Sub.int (by omega))) ?_;rintro _ rfl;conv=>whnf)
 exact RetK.bool q5e
theorem XM (l:List Pr) (g:Nat) (c:AV) (p:Pr→Bool) (hp : ∀ s:Pr,SpecP Tryz.prog g [.agg s.cells,c] (fun r=>r = .bool (p s))):SpecP Tryz.prog 173 [.sl (l.map fun f => .agg f.cells),.fn g [c]] (fun r=>r = .int .i64 (q7a p l)):=by
 refine SpecP.body WD QQ Tryz.func173 rfl Tryz.call173 (by show 2≤_;decide) ?_
 conv=>whnf
 intro (_:_≤9223372036854775807)
 have hl:(l.map fun f=>AV.agg f.cells).length=l.length:=List.length_map _
 conv=>whnf
 refine LoopK.inv QQ (fun j:Nat=>⟨[(0,.p (.sl (l.map fun f => .agg f.cells))),(1,.p (.fn g [c])),(7,.p (.int .i64 (l.map fun f=>AV.agg f.cells).length)),(8,.p (.int .i64 j))],[]⟩) (fun j=>j≤l.length∧(l.drop j).any p=l.any p∧l.findIdx p=j+(l.drop j).findIdx p) (fun j=>l.length-j) 0 (Le.of_eq rfl) ⟨Nat.zero_le _,rfl,by simp⟩ ?_
 rintro j ⟨h2,h3,h4⟩
 conv=>whnf
 repeat' (first|((first|refine IdxK.map (by omega) (fun _=>rfl) ?_|refine Wr.i64 (by omega) (by omega) ?_|(refine CallK.pure (hp _) (.cons (Sub.refl _) (.cons (Sub.refl _) .nil)) ?_;rintro _ rfl));conv=>whnf)|(refine Br.dec (fun _=>?_) (fun _=>?_)<;>first|(exfalso;omega)|conv=>whnf)|(refine Br.b (fun _=>?_) (fun _=>?_)<;>conv=>whnf))
 ·exact RetK.int (x1d (p:=p) (by omega) (by assumption) h3 h4).symm
 ·exact ⟨j+1,⟨by omega,by rw [← h3,q2y (p:=p) (by omega) (by assumption)],by rw [h4,z9i (p:=p) (by omega) (by assumption)];omega⟩,by omega,Le.of_eq rfl⟩
 ·exact RetK.int (by rw [x5f];rw [← h3,FB (by omega)])
theorem WV (l:List Pr) (g:Nat) (c:AV) (p:Pr→Bool) (hp : ∀ s:Pr,SpecP Tryz.prog g [.agg s.cells,c] (fun r=>r = .bool (p s))):SpecP Tryz.prog 295 [.sl (l.map fun f => .agg f.cells),.fn g [c]] (fun r=>r = .bool (l.any p)):=by
 refine SpecP.body ZC QQ Tryz.func295 rfl Tryz.call295 (by show 2≤_;decide) ?_
 conv=>whnf
 repeat' (refine CallK.pure (XM _ _ _ p hp) (by repeat' (first|exact ArgP.nil|refine ArgP.cons ?_ ?_|exact Sub.refl _|exact Sub.tt rfl|exact Sub.ff rfl|exact Sub.int (by omega))) ?_;rintro _ rfl;conv=>whnf)
 exact RetK.bool q5e
theorem x0f (p:Pg) (n:Str):SpecP Tryz.prog 193 [.str n,.ip p.cells] (fun r=>r = .bool (p.globals.any fun s=>n==s)):=by
 refine SpecP.body q4y QQ Tryz.func193 rfl Tryz.call193 (by show 2≤_;decide) ?_
 conv=>whnf
 repeat' (refine CallK.pure (QZ _ _) (by repeat' (first|exact ArgP.nil|refine ArgP.cons ?_ ?_|exact Sub.refl _|exact Sub.tt rfl|exact Sub.ff rfl)) ?_;rintro _ rfl;conv=>whnf)
 exact RetK.p rfl
theorem q0y (n:Str) (f:Pr):SpecP Tryz.prog 174 [.agg f.cells,.ip [.str n]] (fun r=>r = .bool (f.name==n)):=by
 refine SpecP.body PM QQ Tryz.func174 rfl Tryz.call174 (by show 2≤_;decide) ?_
 conv=>whnf
 skip
 exact RetK.p rfl
theorem q9l (n:Str) (f:Pr):SpecP Tryz.prog 296 [.agg f.cells,.ip [.str n]] (fun r=>r = .bool (f.name==n)):=by
 refine SpecP.body q6m QQ Tryz.func296 rfl Tryz.call296 (by show 2≤_;decide) ?_
 conv=>whnf
 skip
 exact RetK.p rfl
theorem VP (s:Sheet) (n:Str):SpecP Tryz.prog 119 [.ip s.cells,.str n] (fun r=>r = .int .i64 (q7a (fun f=>f.name==n) s.p.procs)):=by
 refine SpecP.body q1x QQ Tryz.func119 rfl Tryz.call119 (by show 2≤_;decide) ?_
 conv=>whnf
 repeat' (refine CallK.pure (XM _ _ _ (fun f=>f.name==n) (fun f=>q0y n f)) (by repeat' (first|exact ArgP.nil|refine ArgP.cons ?_ ?_|exact Sub.refl _|exact Sub.tt rfl|exact Sub.ff rfl|exact Sub.int (by omega))) ?_;rintro _ rfl;conv=>whnf)
 exact RetK.p rfl
open Go.Proofs
theorem AppK.strs {es:List AV} {n:Nat} {K:Prop} (xs:List Str) (hn:n=es.length) (hb:es.length+xs.length≤8796093022208) (hK:K):AppK es (xs.map .str) n (xs.map AV.str).length 1 16 K :=
 .mk hn rfl (by rw [hn];simp;omega) (by rw [hn];simp [maxLen];omega) (fun x hx=>by obtain ⟨y,_,rfl⟩:=List.mem_map.1 hx;exact ⟨rfl,rfl⟩) hK
theorem AppK.str1 {es:List AV} {n:Nat} {K:Prop} {s:Str} (hn:n=es.length) (hb:es.length≤8796093022000) (hK:K):AppK es [.str s] n 1 1 16 K :=
 .mk hn rfl (by omega) (by simp only [maxLen];omega) (fun x hx=>by rcases List.mem_singleton.1 hx with rfl;exact ⟨rfl,rfl⟩) hK
theorem AppK.int1 {es:List AV} {n:Nat} {K:Prop} {s:Int} (hn:n=es.length) (hb:es.length≤8796093022000) (hK:K):AppK es [.int .i64 s] n 1 1 8 K :=
 .mk hn rfl (by omega) (by simp only [maxLen];omega) (fun x hx=>by rcases List.mem_singleton.1 hx with rfl;exact ⟨rfl,rfl⟩) hK
mutual
def q8g:X→List Str→List Str
 | .mk op _ name kids,out=>GU kids (if op=2∧(out.any fun s=>name==s)=false then out++[name] else out)
def GU:List X→List Str→List Str
 | [],out=>out
 | x::r,out=>GU r (q8g x out)
end
theorem x1x (x:X) (out:List Str):q8g x out=GU x.kids (if x.op=2∧(out.any fun s=>x.name==s)=false then out++[x.name] else out):=by
 cases x
 rw [q8g]
 rfl
theorem q8x {l:List X} {j:Nat} {out:List Str} (hj:j<l.length):GU (l.drop j) out=GU (l.drop (j+1)) (q8g l[j] out):=by
 rw [QJ hj,GU]
theorem x4i {l:List X} {j:Nat} {out:List Str} (hj:l.length≤j):GU (l.drop j) out=out:=by
 rw [List.drop_eq_nil_of_le hj,GU]
theorem q1j {n:Nat} {x:X} (h:WP (n+1) x=true):x.kids.length≤2∧(x.op=2→x.kids.length=0) ∧ ∀ k∈x.kids,WP n k=true:=by
 rw [WP] at h
 simp only [Bool.and_eq_true,decide_eq_true_eq] at h
 obtain ⟨h1,h2⟩:=h
 refine ⟨?_,fun he => ?_,?_⟩
 ·unfold q3w at h1;(repeat' split at h1)<;>omega
 ·unfold q3w at h1;rw [if_pos (by omega)] at h1;omega
 ·by_cases h3:x.op=1
  ·have:x.kids.length=0:=by unfold q3w at h1;rw [if_pos (by omega)] at h1;omega
   rw [List.eq_nil_of_length_eq_zero this]
   simp
  ·by_cases h4:x.op=2
   ·have:x.kids.length=0:=by unfold q3w at h1;rw [if_pos (by omega)] at h1;omega
    rw [List.eq_nil_of_length_eq_zero this]
    simp
   ·rw [if_neg h3,if_neg h4] at h2
    simp only [Bool.and_eq_true] at h2
    exact List.all_eq_true.1 h2.2
theorem x5k : ∀ (n:Nat) (x:X) (out:List Str),WP n x=true→out.length≤(q8g x out).length∧(q8g x out).length≤out.length+2 ^ n:=by
 intro n
 induction n with
 | zero=>intro x out h;rw [WP] at h;cases h
 | succ n ih =>
   intro x out h
   obtain ⟨h1,h2,h3⟩:=q1j h
   have key : ∀ (l:List X) (o:List Str),(∀ k∈l,WP n k=true)→o.length≤(GU l o).length∧(GU l o).length≤o.length+l.length*2 ^ n:=by
    intro l
    induction l with
    | nil=>intro o _;simp [GU]
    | cons k r ihl =>
      intro o hk
      rw [GU]
      have h5:=ih k o (hk k (by simp))
      have h6:=ihl (q8g k o) fun k hk'=>hk k (by simp [hk'])
      simp only [List.length_cons,Nat.add_mul,Nat.one_mul]
      omega
   rw [x1x]
   have hp:2 ^ (n+1)=2*2 ^ n:=by rw [Nat.pow_succ];omega
   have hpos:0<2 ^ n:=Nat.pow_pos (by decide)
   have h4:=key x.kids (if x.op=2∧(out.any fun s=>x.name==s)=false then out++[x.name] else out) h3
   have h5:x.kids.length*2 ^ n≤2*2 ^ n:=Nat.mul_le_mul_right _ h1
   split at h4
   ·rename_i hc
    have:=h2 hc.1
    rw [this] at h4
    rw [if_pos hc]
    simp only [List.length_append,List.length_singleton] at h4
    omega
   ·rename_i hc
    rw [if_neg hc]
    omega
def x1b (t:Nat) (out:List Str):Heap:=[(2000,.own t 1 (out.map .str))]
theorem x6b : ∀ (n:Nat) (_:n≤20) (x:X) (_:WP n x=true) (out:List Str) (_:out.length+2 ^ n≤1073741824),
  SpecH Tryz.prog 286 [.p (.agg x.cells),.hd 2000 0 out.length] (x1b 9 out) (fun r H=>r = .hd 2000 0 (q8g x out).length∧H=x1b 9 (q8g x out)):=by
 intro n
 induction n with
 | zero=>intro _ x h;rw [WP] at h;cases h
 | succ n ih =>
   intro hn x hx out ho
   have hp:2 ^ (n+1)=2*2 ^ n:=by rw [Nat.pow_succ];omega
   have hpos:0<2 ^ n:=Nat.pow_pos (by decide)
   obtain ⟨hk1,hk2,hk3⟩:=q1j hx
   have hxl:=X.avs_len x.kids
   refine SpecH.body x0d QQ Tryz.func286 rfl Tryz.call286 (by show 2≤_;decide) ?_
   conv=>whnf
   repeat' (first|((first|intro (_:_≤9223372036854775807)|refine And.intro rfl ?_|(refine And.intro ⟨by decide,by decide⟩ ?_)|refine BsK.pure (fun x hx=>by rcases List.mem_singleton.1 hx with rfl;rfl) rfl ?_|(refine CallK.borrow (QZ out x.name) (.cons (.hd rfl (by simp)) (.cons (.p (Sub.refl _)) .nil)) (by rintro _ rfl;rfl) ?_;rintro _ rfl)|refine AppK.mk (by simp) rfl (by show (out.length+1)*16≤140737488355328;omega) (by show out.length+1≤9223372036854775807;omega) (fun x hx=>by rcases List.mem_singleton.1 hx with rfl;exact ⟨rfl,rfl⟩) ?_);conv=>whnf)|(refine Br.dec (fun _=>?_) (fun _=>?_)<;>first|(exfalso;omega)|conv=>whnf)|(refine Br.n (fun _=>?_) (fun _=>?_)<;>conv=>whnf))
   all_goals
    have hmul : ∀ j,j<x.kids.length→(x.kids.length-j)*2 ^ n=(x.kids.length-(j+1))*2 ^ n+2 ^ n:=fun j hj=>by
     rw [show x.kids.length-j=(x.kids.length-(j+1))+1 by omega,Nat.add_mul,Nat.one_mul]
    have hmul0:x.kids.length*2 ^ n≤2*2 ^ n:=Nat.mul_le_mul_right _ hk1
    first
    | refine LoopK.inv QQ (fun i:Nat×List Str=>⟨[(1,.hd 2000 0 i.2.length),(23,.p (.sl (X.avs x.kids))),(24,.p (.int .i64 (X.avs x.kids).length)),(25,.p (.int .i64 i.1))],x1b 9 i.2⟩) (fun i=>i.1≤x.kids.length∧GU (x.kids.drop i.1) i.2=q8g x out∧i.2.length+(x.kids.length-i.1)*2 ^ n≤1073741824) (fun i=>x.kids.length-i.1) (0,out++[x.name]) (Le.of_eq (by simp [x1b];exact ⟨rfl,rfl⟩)) ⟨Nat.zero_le _,by simp only [List.drop_zero];rw [x1x,if_pos ⟨by assumption,by assumption⟩],by have:=hk2 (by assumption);simp [this];omega⟩ ?_
    | refine LoopK.inv QQ (fun i:Nat×List Str=>⟨[(1,.hd 2000 0 i.2.length),(23,.p (.sl (X.avs x.kids))),(24,.p (.int .i64 (X.avs x.kids).length)),(25,.p (.int .i64 i.1))],x1b 9 i.2⟩) (fun i=>i.1≤x.kids.length∧GU (x.kids.drop i.1) i.2=q8g x out∧i.2.length+(x.kids.length-i.1)*2 ^ n≤1073741824) (fun i=>x.kids.length-i.1) (0,out) (Le.of_eq rfl) ⟨Nat.zero_le _,by simp only [List.drop_zero];rw [x1x,if_neg (by simp [*])],by simp only [Nat.sub_zero];omega⟩ ?_
    rintro ⟨j,acc⟩ ⟨h2,h3,h4⟩
    simp only at h2 h3 h4 ⊢
    conv=>whnf
    repeat' (first|((first|refine And.intro rfl ?_|refine IdxK.xs (by omega) ?_);conv=>whnf)|(refine Br.dec (fun _=>?_) (fun _=>?_)<;>first|(exfalso;omega)|conv=>whnf))
    all_goals first
     | (rw [x4i (by omega)] at h3
        exact ⟨_,.refl _,by rw [h3];exact ⟨rfl,rfl⟩⟩)
     | (have hj:j<x.kids.length:=by omega
        have hm:=hmul j hj
        have hg:=x5k n x.kids[j] acc (hk3 _ (List.getElem_mem hj))
        refine CallK.heap [(2000,2000)] 0 (by repeat' (first|exact ArgsH.nil|refine ArgsH.cons ?_ ?_|exact LSub.refl _|exact LSub.p Sub.nils|exact LSub.p (Sub.tt rfl)|exact LSub.p (Sub.ff rfl)|exact LSub.p (Sub.int (by omega)))) (by refine BlksH.cons (j:=2000) rfl rfl ?_ ?_;exact CSub.refl _;exact BlksH.nil) (ih (by omega) x.kids[j] (hk3 _ (List.getElem_mem hj)) acc (by omega)) rfl rfl ?_
        rintro l' H' ⟨rfl,rfl⟩
        conv=>whnf
        refine Wr.i64 (by omega) (by omega) ?_
        conv=>whnf
        exact ⟨(j+1,q8g x.kids[j] acc),⟨by simp only;omega,by simp only;rw [← h3,q8x hj],by simp only;omega⟩,by simp only;omega,Le.of_eq rfl⟩)
def WX (x:X):List Str:=bif z4b x then q8g x [] else []
theorem YV (x:X):(WX x).length≤1048576:=by
 unfold WX
 cases h:z4b x with
 | false=>simp
 | true =>
   have:=(x5k 20 x [] h).2
   simpa using this
theorem q8t (x:X):SpecP Tryz.prog 241 [.agg x.cells] (fun r=>r=QH (WX x)):=by
 refine SpecP.body x3o QQ Tryz.func241 rfl Tryz.call241 (by show 1≤_;decide) ?_
 conv=>whnf
 repeat' (first|(refine CallK.pure (q2x _) (by repeat' (first|exact ArgP.nil|refine ArgP.cons ?_ ?_|exact Sub.refl _|exact Sub.tt rfl|exact Sub.ff rfl)) ?_;rintro _ rfl;conv=>whnf)|(refine Br.n (fun _=>?_) (fun _=>?_)<;>conv=>whnf))
 ·refine CallK.nil 5 9 1 rfl (.cons rfl (.row .nil)) ?_
  refine CallK.heap [(2000,5)] 0 (by repeat' (first|exact ArgsH.nil|refine ArgsH.cons ?_ ?_|exact LSub.refl _|exact LSub.p Sub.nils|exact LSub.p (Sub.tt rfl)|exact LSub.p (Sub.ff rfl)|exact LSub.p (Sub.int (by omega)))) (by refine BlksH.cons (j:=5) rfl rfl ?_ ?_;exact CSub.refl _;exact BlksH.nil) (x6b 20 (by omega) x (by assumption) [] (by simp)) rfl rfl ?_
  rintro l' H' ⟨rfl,rfl⟩
  conv=>whnf
  refine ⟨_,.hd rfl (by simp),?_⟩
  unfold WX
  rw [show z4b x=true by assumption]
  rfl
 ·refine ⟨_,.p Sub.nils,?_⟩
  unfold WX
  rw [show z4b x=false by assumption]
  rfl
def UA (a:Arg):List Str:=(bif a.ref then [a.name] else [])++WX a.x
def HJ (t:S):List Str:=(bif t.kind≠10 && !(t.name==[]) then [t.name] else [])++WX t.x
def ZT (t:S):List Str:=HJ t++t.args.flatMap UA
theorem z1l (a:Arg):(UA a).length≤1048577:=by
 have:=YV a.x
 unfold UA
 cases a.ref<;>simp<;>omega
theorem z0n (t:S):(HJ t).length≤1048577:=by
 have:=YV t.x
 unfold HJ
 cases (t.kind≠10 && !(t.name==[]):Bool)<;>simp<;>omega
theorem q6u {α β:Type} {f:α→List β} {c:Nat} (h : ∀ a,(f a).length≤c) : ∀ l:List α,(l.flatMap f).length≤l.length*c
 | []=>by simp
 | x::r=>by
   have:=q6u h r
   have:=h x
   simp only [List.flatMap_cons,List.length_append,List.length_cons,Nat.add_mul,Nat.one_mul]
   omega
def x0k (t:S) (j:Nat):List Str:=HJ t++(t.args.take j).flatMap UA
theorem x8v (t:S) {j:Nat} (h:j≤t.args.length) (ha:t.args.length≤20000):(x0k t j).length≤21000000000:=by
 have h1:=z0n t
 have h2:=q6u z1l (t.args.take j)
 have h3:(t.args.take j).length*1048577≤20000*1048577:=Nat.mul_le_mul_right _ (by simp;omega)
 unfold x0k
 simp only [List.length_append]
 omega
theorem x4n {t:S} {j:Nat} (hj:j<t.args.length):x0k t (j+1)=x0k t j++UA t.args[j]:=by
 unfold x0k
 rw [List.take_succ_eq_append_getElem hj,List.flatMap_append,List.append_assoc]
 simp
def HK (t:S) (tS:Nat) (j:Nat):St:=⟨[(3,.hd 0 0 (x0k t j).length),(25,.p (.sl (t.args.map fun a => .agg a.cells))),(26,.p (.int .i64 (t.args.map fun a=>AV.agg a.cells).length)),(27,.p (.int .i64 j))],[(0,.own tS 1 ((x0k t j).map .str))]⟩
theorem q8i (t:S) (ha:t.args.length≤20000):SpecP Tryz.prog 260 [.agg t.cells] (fun r=>r=QH (ZT t)):=by
 refine SpecP.body x2n QQ Tryz.func260 rfl Tryz.call260 (by show 1≤_;decide) ?_
 conv=>whnf
 repeat' (first|((first|intro (_:_≤9223372036854775807)|(refine CallK.pure (q8t _) (by repeat' (first|exact ArgP.nil|refine ArgP.cons ?_ ?_|exact Sub.refl _|exact Sub.tt rfl|exact Sub.ff rfl)) ?_;rintro _ rfl)|refine And.intro rfl ?_|(refine And.intro ⟨by decide,by decide⟩ ?_)|refine BsK.pure (fun x hx=>by rcases List.mem_singleton.1 hx with rfl;rfl) rfl ?_|refine AppK.strs _ (by simp) (by have:=YV t.x;simp;omega) ?_|refine AppK.str1 (by simp) (by simp) ?_);conv=>whnf)|(refine Br.dec2 (fun _=>?_) (fun _=>?_)<;>first|(exfalso;omega)|conv=>whnf)|(refine Br.n (fun _=>?_) (fun _=>?_)<;>conv=>whnf))
 all_goals
  have hl:(t.args.map fun a=>AV.agg a.cells).length=t.args.length:=List.length_map _
  refine LoopK.inv QQ (HK t 9) (fun j=>j≤t.args.length) (fun j=>t.args.length-j) 0 (Le.of_eq ?_) (Nat.zero_le _) ?_
  ·first
    | (have e:x0k t 0=WX t.x:=by simp [x0k,HJ,show t.kind=10 by assumption]
       rw [HK,e];simp only [Nat.zero_add,List.length_map,List.length_append,List.map_append,List.nil_append];rfl)
    | (have e:x0k t 0=WX t.x:=by simp [x0k,HJ,show t.name=[] by simpa using (show (t.name==[])=true by assumption)]
       rw [HK,e];simp only [Nat.zero_add,List.length_map,List.length_append,List.map_append,List.nil_append];rfl)
    | (have e:x0k t 0=[t.name]++WX t.x:=by
        have:(t.name==[])=false:=by assumption
        simp [x0k,HJ,show ¬t.kind=10 by assumption,this]
       rw [HK,e];simp only [Nat.zero_add,List.length_map,List.length_append,List.map_append,List.nil_append];rfl)
  intro j h2
  have hacc:=x8v t h2 ha
  conv=>whnf
  repeat' (first|((first|(refine CallK.pure (q8t _) (by repeat' (first|exact ArgP.nil|refine ArgP.cons ?_ ?_|exact Sub.refl _|exact Sub.tt rfl|exact Sub.ff rfl)) ?_;rintro _ rfl)|refine And.intro rfl ?_|(refine And.intro ⟨by decide,by decide⟩ ?_)|refine BsK.pure (fun x hx=>by rcases List.mem_singleton.1 hx with rfl;rfl) rfl ?_|refine IdxK.map (by omega) (fun _=>rfl) ?_|refine Wr.i64 (by omega) (by omega) ?_|refine AppK.strs _ (by simp) (by have:=YV (t.args[j]'(by omega)).x;simp;omega) ?_|refine AppK.str1 (by simp) (by simp;omega) ?_);conv=>whnf)|(refine Br.dec (fun _=>?_) (fun _=>?_)<;>first|(exfalso;omega)|conv=>whnf)|(refine Br.b (fun _=>?_) (fun _=>?_)<;>conv=>whnf))
  all_goals first
   | exact ⟨_,.hd rfl (by simp),by
      have:t.args.take j=t.args:=List.take_of_length_le (by omega)
      rw [ZT,← this];rfl⟩
   | (have hj:j<t.args.length:=by omega
      have hst:=x4n hj
      refine ⟨j+1,by show j+1≤_;omega,by show t.args.length-(j+1)<t.args.length-j;omega,Le.of_eq ?_⟩
      first
       | (have hn:UA t.args[j]=[t.args[j].name]++WX t.args[j].x:=by rw [UA,show t.args[j].ref=true by assumption];rfl
          rw [HK,hst,hn]
          simp only [List.length_append,List.map_append,List.length_map,← List.append_assoc,← Nat.add_assoc]
          rfl)
       | (have hn:UA t.args[j]=WX t.args[j].x:=by rw [UA,show t.args[j].ref=false by assumption];rfl
          rw [HK,hst,hn]
          simp only [List.length_append,List.map_append,List.length_map]
          rfl))
open Go.Proofs
def z6q:List Str→Nat
 | []=>0
 | s::r=>1+z6q r
mutual
def wX:X→Nat
 | .mk _ _ name kids=>1+wXs kids
def wXs:List X→Nat
 | []=>0
 | x::r=>wX x+wXs r
end
def x0v:List Arg→Nat
 | []=>0
 | a::r=>wX a.x+1+x0v r
mutual
def wS:S→Nat
 | .mk _ _ labels name proc x _ args thn els=>wX x+z6q labels+1+1+x0v args+wL thn+wL els
def wL:List S→Nat
 | []=>0
 | s::r=>wS s+wL r
end
def w1i:List Param→Nat
 | []=>0
 | a::r=>1+w1i r
def wPr (f:Pr):Nat:=1+z6q f.vars+z6q f.fin+w1i f.params+wL f.body
def z9v:List Pr→Nat
 | []=>0
 | f::r=>wPr f+z9v r
def wPg (p:Pg):Nat:=z6q p.globals+z9v p.procs
def Fit (p:Pg):Prop:=wPg p≤20000
theorem GY : ∀ l:List Str,l.length≤z6q l
 | []=>Nat.zero_le _
 | s::r=>by have:=GY r;simp only [List.length_cons,z6q];omega
theorem YN : ∀ l:List Arg,l.length≤x0v l
 | []=>Nat.zero_le _
 | s::r=>by have:=YN r;simp only [List.length_cons,x0v];omega
theorem x0a (s:S):wS s=wX s.x+z6q s.labels+1+1+x0v s.args+wL s.thn+wL s.els:=by
 cases s
 rw [wS]
 rfl
mutual
theorem w2x : ∀ s:S,ZU s≤wS s
 | .mk id kind labels name proc x has args thn els=>by
   have:=x8a thn
   have:=x8a els
   rw [ZU,wS]
   omega
theorem x8a : ∀ l:List S,QY l≤wL l
 | []=>by rw [QY,wL];exact Nat.le_refl _
 | s::r=>by
   have:=w2x s
   have:=x8a r
   rw [QY,wL]
   omega
end
theorem z3v : ∀ {l:List Pr} {f:Pr},f∈l→wPr f≤z9v l
 | g::r,f,h=>by
   simp only [z9v]
   rcases List.mem_cons.1 h with rfl|h
   ·omega
   ·have:=z3v h;omega
theorem Fit.pr {p:Pg} (h:Fit p) {f:Pr} (hf:f∈p.procs):wPr f≤20000:=by
 have:=z3v hf
 unfold Fit wPg at h
 omega
mutual
def flS:S→List S
 | .mk id kind labels name proc x has args thn els => .mk id kind labels name proc x has args thn els::(flL thn++flL els)
def flL:List S→List S
 | []=>[]
 | s::r=>flS s++flL r
end
theorem z8a (s:S):flS s=s::(flL s.thn++flL s.els):=by
 cases s
 rw [flS]
 rfl
mutual
theorem w1d : ∀ s:S,(flS s).length=ZU s
 | .mk id kind labels name proc x has args thn els=>by
   rw [flS,ZU,List.length_cons,List.length_append,q6x thn,q6x els]
   omega
theorem q6x : ∀ l:List S,(flL l).length=QY l
 | []=>by rw [flL,QY];rfl
 | s::r=>by rw [flL,QY,List.length_append,w1d s,q6x r]
end
mutual
theorem w4t : ∀ (s t:S),t∈flS s→wS t≤wS s
 | .mk id kind labels name proc x has args thn els,t,h=>by
   rw [flS] at h
   rcases List.mem_cons.1 h with rfl|h
   ·exact Nat.le_refl _
   ·rw [wS]
    rcases List.mem_append.1 h with h|h
    ·have:=q4k thn t h;omega
    ·have:=q4k els t h;omega
theorem q4k : ∀ (l:List S) (t:S),t∈flL l→wS t≤wL l
 | [],t,h=>by rw [flL] at h;cases h
 | s::r,t,h=>by
   rw [flL] at h
   rw [wL]
   rcases List.mem_append.1 h with h|h
   ·have:=w4t s t h;omega
   ·have:=q4k r t h;omega
end

mutual
def itS (proc up nx loop:Int) (n:Nat):S→List Item
 | .mk id kind labels name pr x has args thn els =>
   ⟨.mk id kind labels name pr x has args thn els,proc,up,nx,loop⟩::(itL proc (n+1) (if kind=6 then n+1 else nx) (if kind=6 then n+1 else loop) (n+1) thn ++
     itL proc (n+1) (if kind=6 then n+1 else nx) (if kind=6 then n+1 else loop) (n+1+QY thn) els)
def itL (proc up nx loop:Int) (n:Nat):List S→List Item
 | []=>[]
 | t::r=>itS proc up (if r.isEmpty then nx else n+1+ZU t) loop n t++itL proc up nx loop (n+ZU t) r
end
mutual
theorem z9a (proc up nx loop:Int) : ∀ (t:S) (acc:List Item),q3b proc up nx loop acc t=acc++itS proc up nx loop acc.length t
 | .mk id kind labels name pr x has args thn els,acc=>by
   rw [q3b,itS,LN _ _ _ _ thn,LN _ _ _ _ els]
   simp only [List.length_append,List.length_cons,List.length_nil,List.append_assoc,List.cons_append,List.nil_append,ZG proc _ _ _ _ thn,Nat.zero_add,Nat.add_assoc,Nat.add_comm (QY thn) 1]
theorem LN (proc up nx loop:Int) : ∀ (l:List S) (acc:List Item),XK proc up nx loop acc l=acc++itL proc up nx loop acc.length l
 | [],acc=>by rw [XK,itL,List.append_nil]
 | t::r,acc=>by
   rw [XK,itL,z9a _ _ _ _ t,LN _ _ _ _ r]
   simp only [List.length_append,List.append_assoc,z4t proc _ _ _ _ t]
theorem z4t (proc up nx loop:Int) (n:Nat) : ∀ t:S,(itS proc up nx loop n t).length=ZU t
 | .mk id kind labels name pr x has args thn els=>by
   rw [itS,ZU,List.length_cons,List.length_append,ZG _ _ _ _ _ thn,ZG _ _ _ _ _ els]
   omega
theorem ZG (proc up nx loop:Int) (n:Nat) : ∀ l:List S,(itL proc up nx loop n l).length=QY l
 | []=>by rw [itL,QY];rfl
 | t::r=>by rw [itL,QY,List.length_append,z4t _ _ _ _ _ t,ZG _ _ _ _ _ r]
end
mutual
theorem w4v (proc up nx loop:Int) (n:Nat) : ∀ t:S,(itS proc up nx loop n t).map Item.s=flS t
 | .mk id kind labels name pr x has args thn els=>by
   rw [itS,flS,List.map_cons,List.map_append,NF _ _ _ _ _ thn,NF _ _ _ _ _ els]
theorem NF (proc up nx loop:Int) (n:Nat) : ∀ l:List S,(itL proc up nx loop n l).map Item.s=flL l
 | []=>by rw [itL,flL];rfl
 | t::r=>by rw [itL,flL,List.map_append,w4v _ _ _ _ _ t,NF _ _ _ _ _ r]
end
def QR:List Pr→Nat→Nat
 | _,0=>0
 | [],_+1=>0
 | f::r,i+1=>QY f.body+QR r i
theorem x2j : ∀ (l:List Pr) (i:Nat) (acc:List Item) (lo hi:List Int),lo.length=i→hi.length=i →
  (q6s i acc lo hi l).2.1.length=i+l.length∧(q6s i acc lo hi l).2.2.length=i+l.length ∧
  (∀ k,k<i→(q6s i acc lo hi l).2.1[k]? = lo[k]? ∧ (q6s i acc lo hi l).2.2[k]? = hi[k]?) ∧ ∃ L,(q6s i acc lo hi l).1=acc++L∧L.length=cntP l ∧
  ∀ (k:Nat) (f:Pr),l[k]? = some f→(q6s i acc lo hi l).2.1[i+k]? = some ((acc.length+QR l k:Nat)+1:Int)∧(q6s i acc lo hi l).2.2[i+k]? = some ((acc.length+QR l k+QY f.body:Nat)+1:Int) ∧
   QR l k+QY f.body≤cntP l∧(L.take (QR l k+QY f.body)).drop (QR l k)=itL (i+k:Nat) 0 (-1) 0 (acc.length+QR l k) f.body
 | [],i,acc,lo,hi,h1,h2=>by
   rw [q6s]
   exact ⟨by simpa using h1,by simpa using h2,fun _ _=>⟨rfl,rfl⟩,[],by simp,rfl,fun k f h=>by simp at h⟩
 | f::r,i,acc,lo,hi,h1,h2=>by
   rw [q6s]
   have hrow:=LN i 0 (-1) 0 f.body acc
   have hlen:=XX i 0 (-1) 0 acc f.body
   obtain ⟨h3,h4,h5,L,h6,h7,h8⟩:=x2j r (i+1) (XK i 0 (-1) 0 acc f.body) (lo++[(acc.length:Int)+1]) (hi++[((XK i 0 (-1) 0 acc f.body).length:Int)+1]) (by simp [h1]) (by simp [h2])
   refine ⟨by rw [h3,List.length_cons];omega,by rw [h4,List.length_cons];omega,fun k hk => ?_,itL i 0 (-1) 0 acc.length f.body++L,?_,?_,fun k g hg => ?_⟩
   ·obtain ⟨h9,h10⟩:=h5 k (by omega)
    rw [h9,h10,List.getElem?_append_left (by omega),List.getElem?_append_left (by omega)]
    exact ⟨rfl,rfl⟩
   ·rw [h6,hrow,List.append_assoc]
   ·rw [List.length_append,h7,ZG,cntP]
   ·cases k with
    | zero =>
      simp only [List.getElem?_cons_zero,Option.some.injEq] at hg
      subst hg
      obtain ⟨h9,h10⟩:=h5 i (by omega)
      simp only [Nat.add_zero,QR,Nat.zero_add,List.drop_zero]
      refine ⟨?_,?_,?_,?_⟩
      ·rw [h9,List.getElem?_append_right (by omega),h1];simp
      ·rw [h10,List.getElem?_append_right (by omega),h2,hlen];simp
      ·rw [cntP];omega
      ·rw [List.take_append_of_le_length (by rw [ZG];omega),List.take_of_length_le (by rw [ZG];omega)]
    | succ k =>
      simp only [List.getElem?_cons_succ] at hg
      obtain ⟨h9,h10,h11,h12⟩:=h8 k g hg
      rw [hlen] at h12
      simp only [QR]
      refine ⟨?_,?_,?_,?_⟩
      ·rw [show i+(k+1)=i+1+k by omega,h9,hlen];congr 2;omega
      ·rw [show i+(k+1)=i+1+k by omega,h10,hlen];congr 2;omega
      ·rw [cntP];omega
      ·rw [List.take_append,List.drop_append,ZG,List.take_of_length_le (by rw [ZG];omega),List.drop_eq_nil_of_le (by rw [ZG];omega),List.nil_append]
       simp only [ZG]
       rw [show QY f.body+QR r k+QY g.body-QY f.body=QR r k+QY g.body by omega,show QY f.body+QR r k-QY f.body=QR r k by omega,h12]
       rw [show i+(k+1)=i+1+k by omega,show acc.length+(QY f.body+QR r k)=acc.length+QY f.body+QR r k by omega]
theorem QG (p:Pg):(sheetOf p).p=p∧(sheetOf p).lo.length=p.procs.length∧(sheetOf p).hi.length=p.procs.length∧(sheetOf p).l.length=cntP p.procs ∧
  ∀ (k:Nat) (f:Pr),p.procs[k]? = some f→(sheetOf p).lo[k]? = some ((QR p.procs k:Nat)+1:Int)∧(sheetOf p).hi[k]? = some ((QR p.procs k+QY f.body:Nat)+1:Int) ∧
   QR p.procs k+QY f.body≤cntP p.procs∧((sheetOf p).l.take (QR p.procs k+QY f.body)).drop (QR p.procs k)=itL k 0 (-1) 0 (QR p.procs k) f.body:=by
 obtain ⟨h3,h4,_,L,h6,h7,h8⟩:=x2j p.procs 0 [] [] [] rfl rfl
 refine ⟨rfl,by unfold sheetOf;simpa using h3,by unfold sheetOf;simpa using h4,by unfold sheetOf;simp [h6,h7],fun k f hk => ?_⟩
 have:=h8 k f hk
 unfold sheetOf
 simp only [h6,List.nil_append,List.length_nil,Nat.zero_add] at this ⊢
 exact this
mutual
theorem YX (nest seen:Int) : ∀ (s:S) {m:Int},q3h nest seen s=some m→m=seen+ZU s
 | .mk id kind labels name proc x has args thn els,m,h=>by
   simp only [q3h] at h
   split at h
   ·cases h
   split at h
   ·cases h
   cases hn:namesB labels<;>rw [hn] at h
   ·cases h
   cases hf:WF (.mk id kind labels name proc x has args thn els)<;>rw [hf] at h
   ·cases h
   simp only [cond_true] at h
   split at h
   ·rename_i m1 h1
    have h2:=ZD (nest+1) (seen+1) thn h1
    have h3:=ZD (nest+1) m1 els h
    rw [ZU]
    omega
   ·cases h
theorem ZD (nest seen:Int) : ∀ (l:List S) {m:Int},ZV nest seen l=some m→m=seen+QY l
 | [],m,h=>by
   simp only [ZV] at h
   cases h
   rw [QY]
   simp
 | s::r,m,h=>by
   simp only [ZV] at h
   split at h
   ·cases h
   split at h
   ·rename_i m1 h1
    have h2:=YX nest seen s h1
    have h3:=ZD nest m1 r h
    rw [QY]
    omega
   ·cases h
end
theorem q8a : ∀ (l:List Pr) {seen m:Int},seen≤200→XN seen l=some m→m=seen+cntP l∧m≤200
 | [],seen,m,h0,h=>by rw [XN] at h;cases h;simp [cntP];exact h0
 | f::r,seen,m,h0,h=>by
   rw [XN] at h
   cases hm:JO f<;>rw [hm] at h
   ·cases h
   simp only [cond_true] at h
   split at h
   ·rename_i m1 h1
    have h2:=ZD 1 seen f.body h1
    have h3:=q6f 1 seen f.body h0 h1
    have h4:=q8a r (by omega) h
    rw [cntP]
    omega
   ·cases h
theorem XS {p:Pg} (h:VX p=true):p.globals.length≤16∧p.procs.length≤16∧cntP p.procs≤200:=by
 unfold VX at h
 simp only [Bool.and_eq_true,decide_eq_true_eq] at h
 obtain ⟨⟨⟨h1,h2⟩,_⟩,h3⟩:=h
 cases hm:XN 0 p.procs with
 | none=>rw [hm] at h3;cases h3
 | some m =>
   have:=q8a p.procs (by decide) hm
   omega
theorem w1v {p:Pg} (h:VX p=true) {f:Pr} (hf:f∈p.procs):JO f=true:=by
 unfold VX at h
 simp only [Bool.and_eq_true] at h
 have h3:=h.2
 have key : ∀ (l:List Pr) (seen:Int),(XN seen l).isSome=true → ∀ f∈l,JO f=true:=fun l=>by
  induction l with
  | nil=>intro _ _ f hf;cases hf
  | cons g r ih =>
    intro seen h f hf
    rw [XN] at h
    cases hm:JO g<;>rw [hm] at h
    ·cases h
    simp only [cond_true] at h
    split at h
    ·rename_i m1 h1
     rcases List.mem_cons.1 hf with rfl|hf
     ·exact hm
     ·exact ih _ h f hf
    ·cases h
 exact key _ _ h3 f hf
def GL (p:Pg) (f:Pr) (name:Str):Int :=
 match f.params.find? (fun a=>a.name==name) with
 | some a=>bif a.ref then 3 else 2
 | none=>bif f.vars.any (fun s=>name==s) then 4 else bif p.globals.any (fun s=>name==s) then 1 else 0
theorem HM {α:Type} {l:List α} {p:α→Bool} {j:Nat} (hj:j<l.length) (h:p l[j]=false):(l.drop (j+1)).find? p=(l.drop j).find? p:=by
 rw [QJ hj,List.find?_cons,h]
theorem JG {α:Type} {l:List α} {p:α→Bool} {j:Nat} (hj:j<l.length) (h:p l[j]=true):(l.drop j).find? p=some l[j]:=by
 rw [QJ hj,List.find?_cons,h]
theorem JD {α:Type} {l:List α} {p:α→Bool} {j:Nat} (hj:l.length≤j):(l.drop j).find? p=none:=by
 rw [List.drop_eq_nil_of_le hj];rfl
theorem x9c (p:Pg) (f:Pr) (name:Str):SpecP Tryz.prog 261 [.agg p.cells,.agg f.cells,.str name] (fun r=>r = .int .i64 (GL p f name)):=by
 refine SpecP.body x3c QQ Tryz.func261 rfl Tryz.call261 (by show 3≤_;decide) ?_
 conv=>whnf
 repeat' (intro (_:_≤9223372036854775807);conv=>whnf)
 have hl:(f.params.map fun a=>AV.agg a.cells).length=f.params.length:=List.length_map _
 refine LoopK.inv QQ (fun j:Nat=>⟨[(2,.p (.str name)),(3,.p (.ip p.cells)),(4,.p (.ip f.cells)),(10,.p (.sl (f.params.map fun a => .agg a.cells))),(11,.p (.int .i64 (f.params.map fun a=>AV.agg a.cells).length)),(12,.p (.int .i64 j))],[]⟩) (fun j=>j≤f.params.length∧(f.params.drop j).find? (fun a=>a.name==name)=f.params.find? (fun a=>a.name==name)) (fun j=>f.params.length-j) 0 (Le.of_eq rfl) ⟨Nat.zero_le _,rfl⟩ ?_
 rintro j ⟨h2,h3⟩
 conv=>whnf
 repeat' (first|((first|(refine CallK.pure (QZ _ _) (by repeat' (first|exact ArgP.nil|refine ArgP.cons ?_ ?_|exact Sub.refl _|exact Sub.tt rfl|exact Sub.ff rfl)) ?_;rintro _ rfl)|refine And.intro rfl ?_|refine IdxK.map (by omega) (fun _=>rfl) ?_|refine Wr.i64 (by omega) (by omega) ?_);conv=>whnf)|(refine Br.dec (fun _=>?_) (fun _=>?_)<;>first|(exfalso;omega)|conv=>whnf)|(refine Br.b (fun _=>?_) (fun _=>?_)<;>conv=>whnf))
 all_goals try have hj:j<f.params.length:=by omega
 all_goals first
  | (exfalso
     have h8:((f.params[j]'(by omega)).name==name)=true:=by assumption
     have h9:((f.params[j]'(by omega)).name==name)=false:=by assumption
     rw [h8] at h9
     cases h9)
  | (have e:=JG (p:=fun a:Param=>a.name==name) (by omega) (by assumption)
     rw [h3] at e
     exact RetK.int (by unfold GL;rw [e];simp [*]))
  | (refine ⟨j+1,⟨by omega,by rw [← h3,HM (p:=fun a:Param=>a.name==name) (by omega) (by assumption)]⟩,by omega,Le.of_eq rfl⟩)
  | (have e:f.params.find? (fun a=>a.name==name)=none:=by rw [← h3,JD (by omega)]
     exact RetK.int (by unfold GL;rw [e];simp [*]))
def mainS:Str:=[109,97,105,110]
def knownB (p:Pg) (f:Pr) (procs:List Str) (t:S):Bool:=(ZT t).all (fun n => !(GL p f n==0))&&(decide (t.kind≠4)||(!(t.proc==mainS)&&procs.any fun s=>t.proc==s))
theorem x6g (p:Pg) (f:Pr) (procs:List Str) (t:S) (ha:t.args.length≤20000):SpecP Tryz.prog 194 [.agg p.cells,.agg f.cells,QH procs,.agg t.cells] (fun r=>r = .bool (knownB p f procs t)):=by
 refine SpecP.body x1p QQ Tryz.func194 rfl Tryz.call194 (by show 4≤_;decide) ?_
 conv=>whnf
 repeat' ((first|intro (_:_≤9223372036854775807)|(refine CallK.pure (q8i _ ha) (by repeat' (first|exact ArgP.nil|refine ArgP.cons ?_ ?_|exact Sub.refl _|exact Sub.tt rfl|exact Sub.ff rfl|exact Sub.int (by omega))) ?_;rintro _ rfl));conv=>whnf)
 have hl:((ZT t).map AV.str).length=(ZT t).length:=List.length_map _
 refine LoopK.inv QQ (fun j:Nat=>⟨[(2,.p (QH procs)),(4,.p (.ip p.cells)),(5,.p (.ip f.cells)),(7,.p (.ip t.cells)),(12,.p (QH (ZT t))),(13,.p (.int .i64 ((ZT t).map AV.str).length)),(14,.p (.int .i64 j))],[]⟩) (fun j=>j≤(ZT t).length∧((ZT t).drop j).all (fun n => !(GL p f n==0))=(ZT t).all (fun n => !(GL p f n==0))) (fun j=>(ZT t).length-j) 0 (Le.of_eq rfl) ⟨Nat.zero_le _,rfl⟩ ?_
 rintro j ⟨h2,h3⟩
 conv=>whnf
 repeat' (first|((first|(refine CallK.pure (x9c _ _ _) (by repeat' (first|exact ArgP.nil|refine ArgP.cons ?_ ?_|exact Sub.refl _|exact Sub.tt rfl|exact Sub.ff rfl)) ?_;rintro _ rfl)|(refine CallK.pure (QZ _ _) (by repeat' (first|exact ArgP.nil|refine ArgP.cons ?_ ?_|exact Sub.refl _|exact Sub.tt rfl|exact Sub.ff rfl)) ?_;rintro _ rfl)|refine IdxK.map (by omega) (fun _=>rfl) ?_|refine Wr.i64 (by omega) (by omega) ?_);conv=>whnf)|(refine Br.dec (fun _=>?_) (fun _=>?_)<;>first|(exfalso;omega)|conv=>whnf)|(refine Br.dec2 (fun _=>?_) (fun _=>?_)<;>first|(exfalso;omega)|conv=>whnf)|(refine Br.n (fun _=>?_) (fun _=>?_)<;>conv=>whnf))
 ·exact RetK.ff (by
   have e:=MT (p:=fun n => !(GL p f n==0)) (l:=ZT t) (j:=j) (by omega) (by simp;assumption)
   rw [knownB,← h3,e,Bool.false_and])
 ·exact ⟨j+1,⟨by omega,by rw [← h3,JA (p:=fun n => !(GL p f n==0)) (by omega) (by simp;assumption)]⟩,by omega,Le.of_eq rfl⟩
 all_goals
  have e:(ZT t).all (fun n => !(GL p f n==0))=true:=by rw [← h3,JE (by omega)]
 ·exact RetK.ff (by
   have h8:(t.proc==mainS)=true:=by assumption
   rw [knownB,e,h8]
   simp [*])
 ·exact RetK.bool (by
   have h8:(t.proc==mainS)=false:=by assumption
   rw [knownB,e,h8]
   simp [*])
 ·exact RetK.tt (by rw [knownB,e];simp [*])
end Go.Ab
