/- flat: rows laid flat. -/
import Derived.Test.YtneccajakpeodaaGreatCdepA6
import Derived.Test.YtneccajakpeodaaGreatCdepA8
set_option linter.unusedSimpArgs false
set_option linter.unusedVariables false
set_option maxRecDepth 100000
set_option maxHeartbeats 16000000
namespace Go.Ab
open Go.Proofs
structure Item where
 s:S
 proc:Int
 up:Int
 next:Int
 loop:Int
def Item.cells (i:Item):List AV:=i.s.cells++[.int .i64 i.proc,.int .i64 i.up,.int .i64 i.next,.int .i64 i.loop]
mutual
def q4o (proc up nx loop:Int) (acc:List Item):S→List Item
 | .mk id kind labels name pr x has args thn els =>
   XF proc (acc.length+1) (if kind=6 then acc.length+1 else nx) (if kind=6 then acc.length+1 else loop)
    (XF proc (acc.length+1) (if kind=6 then acc.length+1 else nx) (if kind=6 then acc.length+1 else loop) (acc++[⟨.mk id kind labels name pr x has args thn els,proc,up,nx,loop⟩]) thn) els
def XF (proc up nx loop:Int) (acc:List Item):List S→List Item
 | []=>acc
 | t::r=>XF proc up nx loop (q4o proc up (if r.isEmpty then nx else acc.length+1+ZJ t) loop acc t) r
end
theorem BV (proc up nx loop:Int) (acc:List Item) (t:S):q4o proc up nx loop acc t=XF proc (acc.length+1) (if t.kind=6 then acc.length+1 else nx) (if t.kind=6 then acc.length+1 else loop)
   (XF proc (acc.length+1) (if t.kind=6 then acc.length+1 else nx) (if t.kind=6 then acc.length+1 else loop) (acc++[⟨t,proc,up,nx,loop⟩]) t.thn) t.els:=by
 cases t
 rw [q4o]
 rfl
mutual
theorem ZQ (proc up nx loop:Int) (acc:List Item) : ∀ t:S,(q4o proc up nx loop acc t).length=acc.length+ZJ t
 | .mk id kind labels name pr x has args thn els=>by
   rw [q4o,ZJ,XW _ _ _ _ _ els,XW _ _ _ _ _ thn]
   simp
   omega
theorem XW (proc up nx loop:Int) (acc:List Item) : ∀ l:List S,(XF proc up nx loop acc l).length=acc.length+QY l
 | []=>by rw [XF,QY];rfl
 | t::r=>by
   rw [XF,QY,XW _ _ _ _ _ r,ZQ _ _ _ _ _ t]
   omega
end
theorem VJ {proc up nx loop:Int} {acc:List Item} {l:List S} {j:Nat} (hj:j<l.length) :
  XF proc up nx loop acc (l.drop j)=XF proc up nx loop (q4o proc up (if j+1<l.length then acc.length+1+ZJ l[j] else nx) loop acc l[j]) (l.drop (j+1)):=by
 rw [QG hj,XF]
 congr 2
 by_cases h:j+1<l.length
 ·rw [if_pos h,if_neg]
  simp only [List.isEmpty_iff]
  intro he
  have:=congrArg List.length he
  simp at this
  omega
 ·rw [if_neg h,if_pos]
  rw [List.drop_eq_nil_of_le (by omega)]
  rfl
def z9f (tS tI tN:Nat) (gl pr:AV) (L:List Item) (lo hi:List Int):Heap :=
 [(1000,.obj tS [.p gl,.p pr,.hd 2000 0 L.length,.hd 2001 0 lo.length,.hd 2002 0 hi.length]),(2000,.own tI 17 (L.map fun i => .agg i.cells)),(2001,.own tN 1 (lo.map (.int .i64))),(2002,.own tN 1 (hi.map (.int .i64)))]
def X0:X := .mk 0 0 [] []
def S0:S := .mk 0 0 [] [] [] X0 false [] [] []
theorem LSub.agg {cs ds:List AV} (h:SubL cs ds):LSub (.p (.agg cs)) (.p (.agg ds)) := .p (Sub.agg h)
theorem z1n : ∀ (n:Nat) (_:n≤1000) (l:List S) (_:QY l<n) (acc:List Item) (_:acc.length+QY l≤1000) (a:Item) (gl pr:AV) (lo hi:List Int),
  SpecH Tryz.prog 141 [.ptr 1000 0,.p (eSs l),.p (.agg a.cells)] (z9f 101 98 3 gl pr acc lo hi)
   (fun r H=>r = .p (.tup [])∧H=z9f 101 98 3 gl pr (XF a.proc a.up a.next a.loop acc l) lo hi):=by
 intro n
 induction n with
 | zero=>intro _ l h;omega
 | succ n ih =>
   intro hn l hl acc hacc a gl pr lo hi
   have hl1:=S.avs_len l
   refine SpecH.body q4p QQ Tryz.func141 rfl Tryz.call141 (by show 3≤_;decide) ?_
   conv=>whnf
   repeat' (intro (_:_≤9223372036854775807);conv=>whnf)
   refine LoopK.inv QQ (fun i:Nat×List Item=>⟨[(0,.ptr 1000 0),(1,.p (eSs l)),(5,.p (.ip a.cells)),(11,.p (eSs l)),(12,.p (.int .i64 (S.avs l).length)),(13,.p (.int .i64 i.1))],z9f 101 98 3 gl pr i.2 lo hi⟩) (fun i=>i.1≤l.length∧acc.length≤i.2.length∧i.2.length+QY (l.drop i.1)=acc.length+QY l∧XF a.proc a.up a.next a.loop i.2 (l.drop i.1)=XF a.proc a.up a.next a.loop acc l) (fun i=>l.length-i.1) (0,acc) (Le.of_eq rfl) ⟨Nat.zero_le _,Nat.le_refl _,rfl,rfl⟩ ?_
   rintro ⟨j,b⟩ ⟨h2,h5,h3,h4⟩
   simp only at h2 h3 h4 h5 ⊢
   have hst : ∀ hj:j<l.length,QY (l.drop j)=ZJ l[j]+QY (l.drop (j+1)):=fun hj=>q1g hj
   conv=>whnf
   repeat' (first|((first|intro (_:_≤9223372036854775807)|refine DrawK.auto QQ mixed (by kernel_rfl) ?_|refine And.intro rfl ?_|(refine And.intro ⟨by decide,by decide⟩ ?_)|refine BsK.pure (fun x hx=>by rcases List.mem_singleton.1 hx with rfl;rfl) rfl ?_|refine IdxK.ss (by omega) ?_|refine Wr.i64 (by omega) (by omega) ?_|(refine CallK.pure (z8d 1000 (by omega) (l[j]'(by omega)) (by have:=hst (by omega);omega)) (.cons (Sub.refl _) .nil) ?_;rintro _ rfl)|refine Wr.i64 (by have:=hst (by omega);omega) (by have:=hst (by omega);omega) ?_|refine AppK.mk (by simp) rfl (by show (b.length+1)*240≤140737488355328;have:=hst (by omega);omega) (by show b.length+1≤9223372036854775807;have:=hst (by omega);omega) (fun x hx=>by rcases List.mem_singleton.1 hx with rfl;exact ⟨rfl,rfl⟩) ?_);conv=>whnf)|(refine Br.dec (fun _=>?_) (fun _=>?_)<;>first|(exfalso;omega)|conv=>whnf)|(refine And.intro ?_ ?_<;>conv=>whnf))
   ·have hj:j<l.length:=by omega
    have hst:=hst hj
    have hcs:=ZO l[j]
    refine CallK.heap [(1000,1000),(2000,2000),(2001,2001),(2002,2002)] 0 (by refine ArgsH.cons (LSub.refl _) (ArgsH.cons (LSub.refl _) (ArgsH.cons (LSub.agg ?_) ArgsH.nil));repeat' (first|exact SubL.nil|refine SubL.cons ?_ ?_|exact Sub.refl _|exact Sub.nils|exact Sub.ff rfl)) (by exact BlksH.cons (j:=1000) rfl rfl (CSub.of_eq (by rw [List.length_append];first|done|rfl)) (BlksH.cons (j:=2000) rfl rfl (CSub.of_eq (by rw [List.map_append];first|done|rfl)) (BlksH.cons (j:=2001) rfl rfl (CSub.refl _) (BlksH.cons (j:=2002) rfl rfl (CSub.refl _) BlksH.nil)))) (ih (by omega) l[j].thn (by omega) (b++[⟨l[j]'hj,a.proc,a.up,(b.length+1+ZJ (l[j]'hj):Int),a.loop⟩]) (by rw [List.length_append];simp only [List.length_singleton];omega) ⟨S0,a.proc,b.length+1,(b.length+1:Int),(b.length+1:Int)⟩ gl pr lo hi) rfl rfl ?_
    rintro l' H' ⟨rfl,rfl⟩
    conv=>whnf
    refine CallK.heap [(1000,1000),(2000,2000),(2001,2001),(2002,2002)] 0 (by refine ArgsH.cons (LSub.refl _) (ArgsH.cons (LSub.refl _) (ArgsH.cons (LSub.agg ?_) ArgsH.nil));repeat' (first|exact SubL.nil|refine SubL.cons ?_ ?_|exact Sub.refl _|exact Sub.nils|exact Sub.ff rfl)) (by exact BlksH.cons (j:=1000) rfl rfl (CSub.refl _) (BlksH.cons (j:=2000) rfl rfl (CSub.refl _) (BlksH.cons (j:=2001) rfl rfl (CSub.refl _) (BlksH.cons (j:=2002) rfl rfl (CSub.refl _) BlksH.nil)))) (ih (by omega) l[j].els (by omega) (XF a.proc (b.length+1) (b.length+1:Int) (b.length+1:Int) (b++[⟨l[j]'hj,a.proc,a.up,(b.length+1+ZJ (l[j]'hj):Int),a.loop⟩]) (l[j]'hj).thn) (by rw [XW,List.length_append];simp only [List.length_singleton];omega) ⟨S0,a.proc,b.length+1,(b.length+1:Int),(b.length+1:Int)⟩ gl pr lo hi) rfl rfl ?_
    rintro l' H' ⟨rfl,rfl⟩
    conv=>whnf
    refine Wr.i64 (by omega) (by omega) ?_
    conv=>whnf
    have hrow:q4o a.proc a.up (b.length+1+ZJ (l[j]'hj):Int) a.loop b l[j]=XF a.proc (b.length+1) (b.length+1:Int) (b.length+1:Int) (XF a.proc (b.length+1) (b.length+1:Int) (b.length+1:Int) (b++[⟨l[j]'hj,a.proc,a.up,(b.length+1+ZJ (l[j]'hj):Int),a.loop⟩]) (l[j]'hj).thn) l[j].els:=by
     rw [BV,if_pos (by assumption),if_pos (by assumption)]
    exact ⟨(j+1,q4o a.proc a.up (b.length+1+ZJ (l[j]'hj):Int) a.loop b l[j]),⟨by simp only;omega,by simp only;rw [ZQ];omega,by simp only;rw [ZQ];omega,by simp only;rw [← h4,VJ hj,if_pos (by omega)]⟩,by simp only;omega,Le.of_eq (by simp only;rw [hrow];rfl)⟩
   ·have hj:j<l.length:=by omega
    have hst:=hst hj
    have hcs:=ZO l[j]
    refine CallK.heap [(1000,1000),(2000,2000),(2001,2001),(2002,2002)] 0 (by refine ArgsH.cons (LSub.refl _) (ArgsH.cons (LSub.refl _) (ArgsH.cons (LSub.agg ?_) ArgsH.nil));repeat' (first|exact SubL.nil|refine SubL.cons ?_ ?_|exact Sub.refl _|exact Sub.nils|exact Sub.ff rfl)) (by exact BlksH.cons (j:=1000) rfl rfl (CSub.of_eq (by rw [List.length_append];first|done|rfl)) (BlksH.cons (j:=2000) rfl rfl (CSub.of_eq (by rw [List.map_append];first|done|rfl)) (BlksH.cons (j:=2001) rfl rfl (CSub.refl _) (BlksH.cons (j:=2002) rfl rfl (CSub.refl _) BlksH.nil)))) (ih (by omega) l[j].thn (by omega) (b++[⟨l[j]'hj,a.proc,a.up,(b.length+1+ZJ (l[j]'hj):Int),a.loop⟩]) (by rw [List.length_append];simp only [List.length_singleton];omega) ⟨S0,a.proc,b.length+1,(b.length+1+ZJ (l[j]'hj):Int),a.loop⟩ gl pr lo hi) rfl rfl ?_
    rintro l' H' ⟨rfl,rfl⟩
    conv=>whnf
    refine CallK.heap [(1000,1000),(2000,2000),(2001,2001),(2002,2002)] 0 (by refine ArgsH.cons (LSub.refl _) (ArgsH.cons (LSub.refl _) (ArgsH.cons (LSub.agg ?_) ArgsH.nil));repeat' (first|exact SubL.nil|refine SubL.cons ?_ ?_|exact Sub.refl _|exact Sub.nils|exact Sub.ff rfl)) (by exact BlksH.cons (j:=1000) rfl rfl (CSub.refl _) (BlksH.cons (j:=2000) rfl rfl (CSub.refl _) (BlksH.cons (j:=2001) rfl rfl (CSub.refl _) (BlksH.cons (j:=2002) rfl rfl (CSub.refl _) BlksH.nil)))) (ih (by omega) l[j].els (by omega) (XF a.proc (b.length+1) (b.length+1+ZJ (l[j]'hj):Int) a.loop (b++[⟨l[j]'hj,a.proc,a.up,(b.length+1+ZJ (l[j]'hj):Int),a.loop⟩]) (l[j]'hj).thn) (by rw [XW,List.length_append];simp only [List.length_singleton];omega) ⟨S0,a.proc,b.length+1,(b.length+1+ZJ (l[j]'hj):Int),a.loop⟩ gl pr lo hi) rfl rfl ?_
    rintro l' H' ⟨rfl,rfl⟩
    conv=>whnf
    refine Wr.i64 (by omega) (by omega) ?_
    conv=>whnf
    have hrow:q4o a.proc a.up (b.length+1+ZJ (l[j]'hj):Int) a.loop b l[j]=XF a.proc (b.length+1) (b.length+1+ZJ (l[j]'hj):Int) a.loop (XF a.proc (b.length+1) (b.length+1+ZJ (l[j]'hj):Int) a.loop (b++[⟨l[j]'hj,a.proc,a.up,(b.length+1+ZJ (l[j]'hj):Int),a.loop⟩]) (l[j]'hj).thn) l[j].els:=by
     rw [BV,if_neg (by assumption),if_neg (by assumption)]
    exact ⟨(j+1,q4o a.proc a.up (b.length+1+ZJ (l[j]'hj):Int) a.loop b l[j]),⟨by simp only;omega,by simp only;rw [ZQ];omega,by simp only;rw [ZQ];omega,by simp only;rw [← h4,VJ hj,if_pos (by omega)]⟩,by simp only;omega,Le.of_eq (by simp only;rw [hrow];rfl)⟩
   ·have hj:j<l.length:=by omega
    have hst:=hst hj
    have hcs:=ZO l[j]
    refine CallK.heap [(1000,1000),(2000,2000),(2001,2001),(2002,2002)] 0 (by refine ArgsH.cons (LSub.refl _) (ArgsH.cons (LSub.refl _) (ArgsH.cons (LSub.agg ?_) ArgsH.nil));repeat' (first|exact SubL.nil|refine SubL.cons ?_ ?_|exact Sub.refl _|exact Sub.nils|exact Sub.ff rfl)) (by exact BlksH.cons (j:=1000) rfl rfl (CSub.of_eq (by rw [List.length_append];first|done|rfl)) (BlksH.cons (j:=2000) rfl rfl (CSub.of_eq (by rw [List.map_append];first|done|rfl)) (BlksH.cons (j:=2001) rfl rfl (CSub.refl _) (BlksH.cons (j:=2002) rfl rfl (CSub.refl _) BlksH.nil)))) (ih (by omega) l[j].thn (by omega) (b++[⟨l[j]'hj,a.proc,a.up,(b.length+1+ZJ (l[j]'hj):Int),a.loop⟩]) (by rw [List.length_append];simp only [List.length_singleton];omega) ⟨S0,a.proc,b.length+1,(b.length+1:Int),(b.length+1:Int)⟩ gl pr lo hi) rfl rfl ?_
    rintro l' H' ⟨rfl,rfl⟩
    conv=>whnf
    refine CallK.heap [(1000,1000),(2000,2000),(2001,2001),(2002,2002)] 0 (by refine ArgsH.cons (LSub.refl _) (ArgsH.cons (LSub.refl _) (ArgsH.cons (LSub.agg ?_) ArgsH.nil));repeat' (first|exact SubL.nil|refine SubL.cons ?_ ?_|exact Sub.refl _|exact Sub.nils|exact Sub.ff rfl)) (by exact BlksH.cons (j:=1000) rfl rfl (CSub.refl _) (BlksH.cons (j:=2000) rfl rfl (CSub.refl _) (BlksH.cons (j:=2001) rfl rfl (CSub.refl _) (BlksH.cons (j:=2002) rfl rfl (CSub.refl _) BlksH.nil)))) (ih (by omega) l[j].els (by omega) (XF a.proc (b.length+1) (b.length+1:Int) (b.length+1:Int) (b++[⟨l[j]'hj,a.proc,a.up,(b.length+1+ZJ (l[j]'hj):Int),a.loop⟩]) (l[j]'hj).thn) (by rw [XW,List.length_append];simp only [List.length_singleton];omega) ⟨S0,a.proc,b.length+1,(b.length+1:Int),(b.length+1:Int)⟩ gl pr lo hi) rfl rfl ?_
    rintro l' H' ⟨rfl,rfl⟩
    conv=>whnf
    refine Wr.i64 (by omega) (by omega) ?_
    conv=>whnf
    have hrow:q4o a.proc a.up (b.length+1+ZJ (l[j]'hj):Int) a.loop b l[j]=XF a.proc (b.length+1) (b.length+1:Int) (b.length+1:Int) (XF a.proc (b.length+1) (b.length+1:Int) (b.length+1:Int) (b++[⟨l[j]'hj,a.proc,a.up,(b.length+1+ZJ (l[j]'hj):Int),a.loop⟩]) (l[j]'hj).thn) l[j].els:=by
     rw [BV,if_pos (by assumption),if_pos (by assumption)]
    exact ⟨(j+1,q4o a.proc a.up (b.length+1+ZJ (l[j]'hj):Int) a.loop b l[j]),⟨by simp only;omega,by simp only;rw [ZQ];omega,by simp only;rw [ZQ];omega,by simp only;rw [← h4,VJ hj,if_pos (by omega)]⟩,by simp only;omega,Le.of_eq (by simp only;rw [hrow];rfl)⟩
   ·have hj:j<l.length:=by omega
    have hst:=hst hj
    have hcs:=ZO l[j]
    refine CallK.heap [(1000,1000),(2000,2000),(2001,2001),(2002,2002)] 0 (by refine ArgsH.cons (LSub.refl _) (ArgsH.cons (LSub.refl _) (ArgsH.cons (LSub.agg ?_) ArgsH.nil));repeat' (first|exact SubL.nil|refine SubL.cons ?_ ?_|exact Sub.refl _|exact Sub.nils|exact Sub.ff rfl)) (by exact BlksH.cons (j:=1000) rfl rfl (CSub.of_eq (by rw [List.length_append];first|done|rfl)) (BlksH.cons (j:=2000) rfl rfl (CSub.of_eq (by rw [List.map_append];first|done|rfl)) (BlksH.cons (j:=2001) rfl rfl (CSub.refl _) (BlksH.cons (j:=2002) rfl rfl (CSub.refl _) BlksH.nil)))) (ih (by omega) l[j].thn (by omega) (b++[⟨l[j]'hj,a.proc,a.up,(b.length+1+ZJ (l[j]'hj):Int),a.loop⟩]) (by rw [List.length_append];simp only [List.length_singleton];omega) ⟨S0,a.proc,b.length+1,(b.length+1+ZJ (l[j]'hj):Int),a.loop⟩ gl pr lo hi) rfl rfl ?_
    rintro l' H' ⟨rfl,rfl⟩
    conv=>whnf
    refine CallK.heap [(1000,1000),(2000,2000),(2001,2001),(2002,2002)] 0 (by refine ArgsH.cons (LSub.refl _) (ArgsH.cons (LSub.refl _) (ArgsH.cons (LSub.agg ?_) ArgsH.nil));repeat' (first|exact SubL.nil|refine SubL.cons ?_ ?_|exact Sub.refl _|exact Sub.nils|exact Sub.ff rfl)) (by exact BlksH.cons (j:=1000) rfl rfl (CSub.refl _) (BlksH.cons (j:=2000) rfl rfl (CSub.refl _) (BlksH.cons (j:=2001) rfl rfl (CSub.refl _) (BlksH.cons (j:=2002) rfl rfl (CSub.refl _) BlksH.nil)))) (ih (by omega) l[j].els (by omega) (XF a.proc (b.length+1) (b.length+1+ZJ (l[j]'hj):Int) a.loop (b++[⟨l[j]'hj,a.proc,a.up,(b.length+1+ZJ (l[j]'hj):Int),a.loop⟩]) (l[j]'hj).thn) (by rw [XW,List.length_append];simp only [List.length_singleton];omega) ⟨S0,a.proc,b.length+1,(b.length+1+ZJ (l[j]'hj):Int),a.loop⟩ gl pr lo hi) rfl rfl ?_
    rintro l' H' ⟨rfl,rfl⟩
    conv=>whnf
    refine Wr.i64 (by omega) (by omega) ?_
    conv=>whnf
    have hrow:q4o a.proc a.up (b.length+1+ZJ (l[j]'hj):Int) a.loop b l[j]=XF a.proc (b.length+1) (b.length+1+ZJ (l[j]'hj):Int) a.loop (XF a.proc (b.length+1) (b.length+1+ZJ (l[j]'hj):Int) a.loop (b++[⟨l[j]'hj,a.proc,a.up,(b.length+1+ZJ (l[j]'hj):Int),a.loop⟩]) (l[j]'hj).thn) l[j].els:=by
     rw [BV,if_neg (by assumption),if_neg (by assumption)]
    exact ⟨(j+1,q4o a.proc a.up (b.length+1+ZJ (l[j]'hj):Int) a.loop b l[j]),⟨by simp only;omega,by simp only;rw [ZQ];omega,by simp only;rw [ZQ];omega,by simp only;rw [← h4,VJ hj,if_pos (by omega)]⟩,by simp only;omega,Le.of_eq (by simp only;rw [hrow];rfl)⟩
   ·have hj:j<l.length:=by omega
    have hst:=hst hj
    have hcs:=ZO l[j]
    refine CallK.heap [(1000,1000),(2000,2000),(2001,2001),(2002,2002)] 0 (by refine ArgsH.cons (LSub.refl _) (ArgsH.cons (LSub.refl _) (ArgsH.cons (LSub.agg ?_) ArgsH.nil));repeat' (first|exact SubL.nil|refine SubL.cons ?_ ?_|exact Sub.refl _|exact Sub.nils|exact Sub.ff rfl)) (by exact BlksH.cons (j:=1000) rfl rfl (CSub.of_eq (by rw [List.length_append];first|done|rfl)) (BlksH.cons (j:=2000) rfl rfl (CSub.of_eq (by rw [List.map_append];first|done|rfl)) (BlksH.cons (j:=2001) rfl rfl (CSub.refl _) (BlksH.cons (j:=2002) rfl rfl (CSub.refl _) BlksH.nil)))) (ih (by omega) l[j].thn (by omega) (b++[⟨l[j]'hj,a.proc,a.up,a.next,a.loop⟩]) (by rw [List.length_append];simp only [List.length_singleton];omega) ⟨S0,a.proc,b.length+1,(b.length+1:Int),(b.length+1:Int)⟩ gl pr lo hi) rfl rfl ?_
    rintro l' H' ⟨rfl,rfl⟩
    conv=>whnf
    refine CallK.heap [(1000,1000),(2000,2000),(2001,2001),(2002,2002)] 0 (by refine ArgsH.cons (LSub.refl _) (ArgsH.cons (LSub.refl _) (ArgsH.cons (LSub.agg ?_) ArgsH.nil));repeat' (first|exact SubL.nil|refine SubL.cons ?_ ?_|exact Sub.refl _|exact Sub.nils|exact Sub.ff rfl)) (by exact BlksH.cons (j:=1000) rfl rfl (CSub.refl _) (BlksH.cons (j:=2000) rfl rfl (CSub.refl _) (BlksH.cons (j:=2001) rfl rfl (CSub.refl _) (BlksH.cons (j:=2002) rfl rfl (CSub.refl _) BlksH.nil)))) (ih (by omega) l[j].els (by omega) (XF a.proc (b.length+1) (b.length+1:Int) (b.length+1:Int) (b++[⟨l[j]'hj,a.proc,a.up,a.next,a.loop⟩]) (l[j]'hj).thn) (by rw [XW,List.length_append];simp only [List.length_singleton];omega) ⟨S0,a.proc,b.length+1,(b.length+1:Int),(b.length+1:Int)⟩ gl pr lo hi) rfl rfl ?_
    rintro l' H' ⟨rfl,rfl⟩
    conv=>whnf
    refine Wr.i64 (by omega) (by omega) ?_
    conv=>whnf
    have hrow:q4o a.proc a.up a.next a.loop b l[j]=XF a.proc (b.length+1) (b.length+1:Int) (b.length+1:Int) (XF a.proc (b.length+1) (b.length+1:Int) (b.length+1:Int) (b++[⟨l[j]'hj,a.proc,a.up,a.next,a.loop⟩]) (l[j]'hj).thn) l[j].els:=by
     rw [BV,if_pos (by assumption),if_pos (by assumption)]
    exact ⟨(j+1,q4o a.proc a.up a.next a.loop b l[j]),⟨by simp only;omega,by simp only;rw [ZQ];omega,by simp only;rw [ZQ];omega,by simp only;rw [← h4,VJ hj,if_neg (by omega)]⟩,by simp only;omega,Le.of_eq (by simp only;rw [hrow];rfl)⟩
   ·have hj:j<l.length:=by omega
    have hst:=hst hj
    have hcs:=ZO l[j]
    refine CallK.heap [(1000,1000),(2000,2000),(2001,2001),(2002,2002)] 0 (by refine ArgsH.cons (LSub.refl _) (ArgsH.cons (LSub.refl _) (ArgsH.cons (LSub.agg ?_) ArgsH.nil));repeat' (first|exact SubL.nil|refine SubL.cons ?_ ?_|exact Sub.refl _|exact Sub.nils|exact Sub.ff rfl)) (by exact BlksH.cons (j:=1000) rfl rfl (CSub.of_eq (by rw [List.length_append];first|done|rfl)) (BlksH.cons (j:=2000) rfl rfl (CSub.of_eq (by rw [List.map_append];first|done|rfl)) (BlksH.cons (j:=2001) rfl rfl (CSub.refl _) (BlksH.cons (j:=2002) rfl rfl (CSub.refl _) BlksH.nil)))) (ih (by omega) l[j].thn (by omega) (b++[⟨l[j]'hj,a.proc,a.up,a.next,a.loop⟩]) (by rw [List.length_append];simp only [List.length_singleton];omega) ⟨S0,a.proc,b.length+1,a.next,a.loop⟩ gl pr lo hi) rfl rfl ?_
    rintro l' H' ⟨rfl,rfl⟩
    conv=>whnf
    refine CallK.heap [(1000,1000),(2000,2000),(2001,2001),(2002,2002)] 0 (by refine ArgsH.cons (LSub.refl _) (ArgsH.cons (LSub.refl _) (ArgsH.cons (LSub.agg ?_) ArgsH.nil));repeat' (first|exact SubL.nil|refine SubL.cons ?_ ?_|exact Sub.refl _|exact Sub.nils|exact Sub.ff rfl)) (by exact BlksH.cons (j:=1000) rfl rfl (CSub.refl _) (BlksH.cons (j:=2000) rfl rfl (CSub.refl _) (BlksH.cons (j:=2001) rfl rfl (CSub.refl _) (BlksH.cons (j:=2002) rfl rfl (CSub.refl _) BlksH.nil)))) (ih (by omega) l[j].els (by omega) (XF a.proc (b.length+1) a.next a.loop (b++[⟨l[j]'hj,a.proc,a.up,a.next,a.loop⟩]) (l[j]'hj).thn) (by rw [XW,List.length_append];simp only [List.length_singleton];omega) ⟨S0,a.proc,b.length+1,a.next,a.loop⟩ gl pr lo hi) rfl rfl ?_
    rintro l' H' ⟨rfl,rfl⟩
    conv=>whnf
    refine Wr.i64 (by omega) (by omega) ?_
    conv=>whnf
    have hrow:q4o a.proc a.up a.next a.loop b l[j]=XF a.proc (b.length+1) a.next a.loop (XF a.proc (b.length+1) a.next a.loop (b++[⟨l[j]'hj,a.proc,a.up,a.next,a.loop⟩]) (l[j]'hj).thn) l[j].els:=by
     rw [BV,if_neg (by assumption),if_neg (by assumption)]
    exact ⟨(j+1,q4o a.proc a.up a.next a.loop b l[j]),⟨by simp only;omega,by simp only;rw [ZQ];omega,by simp only;rw [ZQ];omega,by simp only;rw [← h4,VJ hj,if_neg (by omega)]⟩,by simp only;omega,Le.of_eq (by simp only;rw [hrow];rfl)⟩
   ·have hj:j<l.length:=by omega
    have hst:=hst hj
    have hcs:=ZO l[j]
    refine CallK.heap [(1000,1000),(2000,2000),(2001,2001),(2002,2002)] 0 (by refine ArgsH.cons (LSub.refl _) (ArgsH.cons (LSub.refl _) (ArgsH.cons (LSub.agg ?_) ArgsH.nil));repeat' (first|exact SubL.nil|refine SubL.cons ?_ ?_|exact Sub.refl _|exact Sub.nils|exact Sub.ff rfl)) (by exact BlksH.cons (j:=1000) rfl rfl (CSub.of_eq (by rw [List.length_append];first|done|rfl)) (BlksH.cons (j:=2000) rfl rfl (CSub.of_eq (by rw [List.map_append];first|done|rfl)) (BlksH.cons (j:=2001) rfl rfl (CSub.refl _) (BlksH.cons (j:=2002) rfl rfl (CSub.refl _) BlksH.nil)))) (ih (by omega) l[j].thn (by omega) (b++[⟨l[j]'hj,a.proc,a.up,a.next,a.loop⟩]) (by rw [List.length_append];simp only [List.length_singleton];omega) ⟨S0,a.proc,b.length+1,(b.length+1:Int),(b.length+1:Int)⟩ gl pr lo hi) rfl rfl ?_
    rintro l' H' ⟨rfl,rfl⟩
    conv=>whnf
    refine CallK.heap [(1000,1000),(2000,2000),(2001,2001),(2002,2002)] 0 (by refine ArgsH.cons (LSub.refl _) (ArgsH.cons (LSub.refl _) (ArgsH.cons (LSub.agg ?_) ArgsH.nil));repeat' (first|exact SubL.nil|refine SubL.cons ?_ ?_|exact Sub.refl _|exact Sub.nils|exact Sub.ff rfl)) (by exact BlksH.cons (j:=1000) rfl rfl (CSub.refl _) (BlksH.cons (j:=2000) rfl rfl (CSub.refl _) (BlksH.cons (j:=2001) rfl rfl (CSub.refl _) (BlksH.cons (j:=2002) rfl rfl (CSub.refl _) BlksH.nil)))) (ih (by omega) l[j].els (by omega) (XF a.proc (b.length+1) (b.length+1:Int) (b.length+1:Int) (b++[⟨l[j]'hj,a.proc,a.up,a.next,a.loop⟩]) (l[j]'hj).thn) (by rw [XW,List.length_append];simp only [List.length_singleton];omega) ⟨S0,a.proc,b.length+1,(b.length+1:Int),(b.length+1:Int)⟩ gl pr lo hi) rfl rfl ?_
    rintro l' H' ⟨rfl,rfl⟩
    conv=>whnf
    refine Wr.i64 (by omega) (by omega) ?_
    conv=>whnf
    have hrow:q4o a.proc a.up a.next a.loop b l[j]=XF a.proc (b.length+1) (b.length+1:Int) (b.length+1:Int) (XF a.proc (b.length+1) (b.length+1:Int) (b.length+1:Int) (b++[⟨l[j]'hj,a.proc,a.up,a.next,a.loop⟩]) (l[j]'hj).thn) l[j].els:=by
     rw [BV,if_pos (by assumption),if_pos (by assumption)]
    exact ⟨(j+1,q4o a.proc a.up a.next a.loop b l[j]),⟨by simp only;omega,by simp only;rw [ZQ];omega,by simp only;rw [ZQ];omega,by simp only;rw [← h4,VJ hj,if_neg (by omega)]⟩,by simp only;omega,Le.of_eq (by simp only;rw [hrow];rfl)⟩
   ·have hj:j<l.length:=by omega
    have hst:=hst hj
    have hcs:=ZO l[j]
    refine CallK.heap [(1000,1000),(2000,2000),(2001,2001),(2002,2002)] 0 (by refine ArgsH.cons (LSub.refl _) (ArgsH.cons (LSub.refl _) (ArgsH.cons (LSub.agg ?_) ArgsH.nil));repeat' (first|exact SubL.nil|refine SubL.cons ?_ ?_|exact Sub.refl _|exact Sub.nils|exact Sub.ff rfl)) (by exact BlksH.cons (j:=1000) rfl rfl (CSub.of_eq (by rw [List.length_append];first|done|rfl)) (BlksH.cons (j:=2000) rfl rfl (CSub.of_eq (by rw [List.map_append];first|done|rfl)) (BlksH.cons (j:=2001) rfl rfl (CSub.refl _) (BlksH.cons (j:=2002) rfl rfl (CSub.refl _) BlksH.nil)))) (ih (by omega) l[j].thn (by omega) (b++[⟨l[j]'hj,a.proc,a.up,a.next,a.loop⟩]) (by rw [List.length_append];simp only [List.length_singleton];omega) ⟨S0,a.proc,b.length+1,a.next,a.loop⟩ gl pr lo hi) rfl rfl ?_
    rintro l' H' ⟨rfl,rfl⟩
    conv=>whnf
    refine CallK.heap [(1000,1000),(2000,2000),(2001,2001),(2002,2002)] 0 (by refine ArgsH.cons (LSub.refl _) (ArgsH.cons (LSub.refl _) (ArgsH.cons (LSub.agg ?_) ArgsH.nil));repeat' (first|exact SubL.nil|refine SubL.cons ?_ ?_|exact Sub.refl _|exact Sub.nils|exact Sub.ff rfl)) (by exact BlksH.cons (j:=1000) rfl rfl (CSub.refl _) (BlksH.cons (j:=2000) rfl rfl (CSub.refl _) (BlksH.cons (j:=2001) rfl rfl (CSub.refl _) (BlksH.cons (j:=2002) rfl rfl (CSub.refl _) BlksH.nil)))) (ih (by omega) l[j].els (by omega) (XF a.proc (b.length+1) a.next a.loop (b++[⟨l[j]'hj,a.proc,a.up,a.next,a.loop⟩]) (l[j]'hj).thn) (by rw [XW,List.length_append];simp only [List.length_singleton];omega) ⟨S0,a.proc,b.length+1,a.next,a.loop⟩ gl pr lo hi) rfl rfl ?_
    rintro l' H' ⟨rfl,rfl⟩
    conv=>whnf
    refine Wr.i64 (by omega) (by omega) ?_
    conv=>whnf
    have hrow:q4o a.proc a.up a.next a.loop b l[j]=XF a.proc (b.length+1) a.next a.loop (XF a.proc (b.length+1) a.next a.loop (b++[⟨l[j]'hj,a.proc,a.up,a.next,a.loop⟩]) (l[j]'hj).thn) l[j].els:=by
     rw [BV,if_neg (by assumption),if_neg (by assumption)]
    exact ⟨(j+1,q4o a.proc a.up a.next a.loop b l[j]),⟨by simp only;omega,by simp only;rw [ZQ];omega,by simp only;rw [ZQ];omega,by simp only;rw [← h4,VJ hj,if_neg (by omega)]⟩,by simp only;omega,Le.of_eq (by simp only;rw [hrow];rfl)⟩
   ·refine ⟨_,.refl _,rfl,?_⟩
    rw [List.drop_eq_nil_of_le (by omega),XF] at h4
    rw [← h4]
    rfl
open Go.Proofs
structure Sheet where
 p:Pg
 l:List Item
 lo:List Int
 hi:List Int
def Sheet.cells (s:Sheet):List AV:=s.p.cells++[.sl (s.l.map fun i => .agg i.cells),QF s.lo,QF s.hi]
def cntP:List Pr→Nat
 | []=>0
 | f::r=>QY f.body+cntP r
theorem q7l {l:List Pr} {j:Nat} (hj:j<l.length):cntP (l.drop j)=QY l[j].body+cntP (l.drop (j+1)):=by
 rw [QG hj,cntP]
def q8n (i:Nat) (acc:List Item) (lo hi:List Int):List Pr→List Item×List Int×List Int
 | []=>(acc,lo,hi)
 | f::r=>q8n (i+1) (XF i 0 (-1) 0 acc f.body) (lo++[(acc.length:Int)+1]) (hi++[((XF i 0 (-1) 0 acc f.body).length:Int)+1]) r
def sheetOf (p:Pg):Sheet:=⟨p,(q8n 0 [] [] [] p.procs).1,(q8n 0 [] [] [] p.procs).2.1,(q8n 0 [] [] [] p.procs).2.2⟩
theorem x4h {i:Nat} {acc:List Item} {lo hi:List Int} {l:List Pr} {j:Nat} (hj:j<l.length) :
  q8n i acc lo hi (l.drop j)=q8n (i+1) (XF i 0 (-1) 0 acc l[j].body) (lo++[(acc.length:Int)+1]) (hi++[((XF i 0 (-1) 0 acc l[j].body).length:Int)+1]) (l.drop (j+1)):=by
 rw [QG hj,q8n]
def w7e (tS tI tN:Nat) (p:Pg) (L:List Item) (lo hi:List Int):Heap :=
 [(0,.obj tS [.p (QD p.globals),.p (.sl (p.procs.map fun f => .agg f.cells)),.hd 1 0 L.length,.hd 2 0 lo.length,.hd 3 0 hi.length]),(1,.own tI 17 (L.map fun i => .agg i.cells)),(2,.own tN 1 (lo.map (.int .i64))),(3,.own tN 1 (hi.map (.int .i64)))]
theorem YK (p:Pg) (h1:p.procs.length≤1000) (hc:cntP p.procs≤999):SpecP Tryz.prog 82 [.agg p.cells] (fun r=>r = .ip (sheetOf p).cells):=by
 refine SpecP.body z3q QQ Tryz.func82 rfl Tryz.call82 (by show 1≤_;decide) ?_
 conv=>whnf
 repeat' ((first|intro (_:_≤9223372036854775807)|refine And.intro rfl ?_);conv=>whnf)
 have hl2:(p.procs.map fun f=>AV.agg f.cells).length=p.procs.length:=List.length_map _
 refine LoopK.inv QQ (fun i:Nat×List Item×List Int×List Int=>⟨[(3,.ptr 0 0),(10,.p (.sl (p.procs.map fun f=>AV.agg f.cells))),(11,.p (.int .i64 (p.procs.map fun f=>AV.agg f.cells).length)),(12,.p (.int .i64 i.1))],w7e 101 98 3 p i.2.1 i.2.2.1 i.2.2.2⟩)
  (fun i=>i.1≤p.procs.length∧i.2.1.length+cntP (p.procs.drop i.1)=cntP p.procs∧i.2.2.1.length=i.1∧i.2.2.2.length=i.1∧q8n i.1 i.2.1 i.2.2.1 i.2.2.2 (p.procs.drop i.1)=q8n 0 [] [] [] p.procs) (fun i=>p.procs.length-i.1) (0,[],[],[])
  (Le.mk [(1,.own 98 17 []),(2,.own 3 1 []),(3,.own 3 1 [])] (by simp [Chunk.new0];exact ⟨rfl,rfl,rfl⟩) (by simp) (by simp [w7e]) (.cons (.refl _) (.cons (.refl _) (.cons (.refl _) (.cons (.refl _) .nil))))
    (.cons rfl (.obj (.cons (.refl _) (.cons (.refl _) (.cons (.nil List.mem_cons_self) (.cons (.nil (List.mem_cons_of_mem _ List.mem_cons_self)) (.cons (.nil (List.mem_cons_of_mem _ (List.mem_cons_of_mem _ List.mem_cons_self))) .nil)))))) (.new List.mem_cons_self (.new (List.mem_cons_of_mem _ List.mem_cons_self) (.new (List.mem_cons_of_mem _ (List.mem_cons_of_mem _ List.mem_cons_self)) .nil)))))
  ⟨Nat.zero_le _,by simp,rfl,rfl,rfl⟩ ?_
 rintro ⟨j,b,lo,hi⟩ ⟨h2,h3,h4,h5,h6⟩
 simp only at h2 h3 h4 h5 h6 ⊢
 conv=>whnf
 repeat' (first|((first|intro (_:_≤9223372036854775807)|refine DrawK.auto QQ mixed (by kernel_rfl) ?_|refine And.intro rfl ?_|(refine And.intro ⟨by decide,by decide⟩ ?_)|refine BsK.pure (fun x hx=>by rcases List.mem_singleton.1 hx with rfl;rfl) rfl ?_|refine IdxK.map (by omega) (fun _=>rfl) ?_|refine Wr.i64 (by omega) (by omega) ?_|refine AppK.mk (by simp) rfl (by show (lo.length+1)*8≤140737488355328;omega) (by show lo.length+1≤9223372036854775807;omega) (fun x hx=>by rcases List.mem_singleton.1 hx with rfl;exact ⟨rfl,rfl⟩) ?_);conv=>whnf)|(refine Br.dec (fun _=>?_) (fun _=>?_)<;>first|(exfalso;omega)|conv=>whnf)|(refine And.intro ?_ ?_<;>conv=>whnf))
 ·have hj:j<p.procs.length:=by omega
  have hst:=q7l hj
  refine CallK.heap [(1000,0),(2000,1),(2001,2),(2002,3)] 0 (by refine ArgsH.cons (LSub.refl _) (ArgsH.cons (LSub.refl _) (ArgsH.cons (LSub.agg ?_) ArgsH.nil));repeat' (first|exact SubL.nil|refine SubL.cons ?_ ?_|exact Sub.refl _|exact Sub.nils|exact Sub.ff rfl)) (by exact BlksH.cons (j:=0) rfl rfl (CSub.of_eq (by rw [List.length_append];first|done|rfl)) (BlksH.cons (j:=1) rfl rfl (CSub.refl _) (BlksH.cons (j:=2) rfl rfl (CSub.of_eq (by rw [List.map_append];first|done|rfl)) (BlksH.cons (j:=3) rfl rfl (CSub.refl _) BlksH.nil)))) (z1n 1000 (by omega) p.procs[j].body (by omega) b (by omega) ⟨S0,j,0,-1,0⟩ _ _ (lo++[(b.length:Int)+1]) hi) rfl rfl ?_
  rintro l' H' ⟨rfl,rfl⟩
  conv=>whnf
  have hlen:=XW j 0 (-1) 0 b p.procs[j].body
  repeat' (first|((first|intro (_:_≤9223372036854775807)|refine DrawK.auto QQ mixed (by kernel_rfl) ?_|refine And.intro rfl ?_|(refine And.intro ⟨by decide,by decide⟩ ?_)|refine BsK.pure (fun x hx=>by rcases List.mem_singleton.1 hx with rfl;rfl) rfl ?_|refine Wr.i64 (by omega) (by omega) ?_|refine AppK.mk (by simp) rfl (by show (hi.length+1)*8≤140737488355328;omega) (by show hi.length+1≤9223372036854775807;omega) (fun x hx=>by rcases List.mem_singleton.1 hx with rfl;exact ⟨rfl,rfl⟩) ?_|refine Wr.i64 (by rw [XW];omega) (by rw [XW];omega) ?_);conv=>whnf)|(refine And.intro ?_ ?_<;>conv=>whnf))
  all_goals exact ⟨(j+1,XF j 0 (-1) 0 b p.procs[j].body,lo++[(b.length:Int)+1],hi++[((XF j 0 (-1) 0 b p.procs[j].body).length:Int)+1]),⟨by simp only;omega,by simp only;omega,by simp [h4],by simp [h5],by simp only;rw [← h6,x4h hj]⟩,by simp only;omega,Le.of_eq (by simp only [w7e,List.length_append,List.map_append];rfl)⟩
 ·have hj:j<p.procs.length:=by omega
  have hst:=q7l hj
  refine CallK.heap [(1000,0),(2000,1),(2001,2),(2002,3)] 0 (by refine ArgsH.cons (LSub.refl _) (ArgsH.cons (LSub.refl _) (ArgsH.cons (LSub.agg ?_) ArgsH.nil));repeat' (first|exact SubL.nil|refine SubL.cons ?_ ?_|exact Sub.refl _|exact Sub.nils|exact Sub.ff rfl)) (by exact BlksH.cons (j:=0) rfl rfl (CSub.of_eq (by rw [List.length_append];first|done|rfl)) (BlksH.cons (j:=1) rfl rfl (CSub.refl _) (BlksH.cons (j:=2) rfl rfl (CSub.of_eq (by rw [List.map_append];first|done|rfl)) (BlksH.cons (j:=3) rfl rfl (CSub.refl _) BlksH.nil)))) (z1n 1000 (by omega) p.procs[j].body (by omega) b (by omega) ⟨S0,j,0,-1,0⟩ _ _ (lo++[(b.length:Int)+1]) hi) rfl rfl ?_
  rintro l' H' ⟨rfl,rfl⟩
  conv=>whnf
  have hlen:=XW j 0 (-1) 0 b p.procs[j].body
  repeat' (first|((first|intro (_:_≤9223372036854775807)|refine DrawK.auto QQ mixed (by kernel_rfl) ?_|refine And.intro rfl ?_|(refine And.intro ⟨by decide,by decide⟩ ?_)|refine BsK.pure (fun x hx=>by rcases List.mem_singleton.1 hx with rfl;rfl) rfl ?_|refine Wr.i64 (by omega) (by omega) ?_|refine AppK.mk (by simp) rfl (by show (hi.length+1)*8≤140737488355328;omega) (by show hi.length+1≤9223372036854775807;omega) (fun x hx=>by rcases List.mem_singleton.1 hx with rfl;exact ⟨rfl,rfl⟩) ?_|refine Wr.i64 (by rw [XW];omega) (by rw [XW];omega) ?_);conv=>whnf)|(refine And.intro ?_ ?_<;>conv=>whnf))
  all_goals exact ⟨(j+1,XF j 0 (-1) 0 b p.procs[j].body,lo++[(b.length:Int)+1],hi++[((XF j 0 (-1) 0 b p.procs[j].body).length:Int)+1]),⟨by simp only;omega,by simp only;omega,by simp [h4],by simp [h5],by simp only;rw [← h6,x4h hj]⟩,by simp only;omega,Le.of_eq (by simp only [w7e,List.length_append,List.map_append];rfl)⟩
 ·have hd:p.procs.drop j=[]:=List.drop_eq_nil_of_le (by omega)
  rw [hd,q8n] at h6
  refine ⟨.ip (sheetOf p).cells,?_,rfl⟩
  have e:(sheetOf p).cells=[QD p.globals,.sl (p.procs.map fun f => .agg f.cells),.sl (b.map fun i => .agg i.cells),QF lo,QF hi]:=by
   unfold sheetOf
   rw [← h6]
   rfl
  rw [e]
  have hF : ∀ H:Heap,getH H 1=some (.own 98 17 (b.map fun i => .agg i.cells))→getH H 2=some (.own 3 1 (lo.map (.int .i64)))→getH H 3=some (.own 3 1 (hi.map (.int .i64))) →
    FrzL H [.p (QD p.globals),.p (.sl (p.procs.map fun f => .agg f.cells)),.hd 1 0 b.length,.hd 2 0 lo.length,.hd 3 0 hi.length] [QD p.globals,.sl (p.procs.map fun f => .agg f.cells),.sl (b.map fun i => .agg i.cells),QF lo,QF hi]:=fun H g1 g2 g3 =>
   .cons (.p (Sub.refl _)) (.cons (.p (Sub.refl _)) (.cons (.hd g1 (by simp)) (.cons (.hd g2 (by simp)) (.cons (.hd g3 (by simp)) .nil))))
  refine Frz.ptr (off:=0) rfl rfl fun m l c hl hc => ?_
  obtain ⟨l',h7,h8⟩:=(hF (w7e 101 98 3 p b lo hi) rfl rfl rfl).get.2 m c hc
  have h9:=h7.symm.trans hl
  cases h9
  exact h8
open Go.Proofs
theorem IdxK.at {es:List AV} {sz k:Nat} {e:AV} {n:Int} {K:List AV→Prop} (hn:n=k) (he:es[k]? = some e) (hs:e.cells.length=sz) (h:K e.cells):IdxK es sz n K:=⟨k,e,hn,he,hs,h⟩
theorem VL {l:List Int} {k:Nat} {n:Int} (h:l[k]? = some n):(l.map (AV.int .i64))[k]? = some (.int .i64 n):=by simp [h]
def JI (l:List Item):AV := .sl (l.map fun i => .agg i.cells)
theorem x2i (s:Sheet) (i lo hi:Nat) (h1:s.lo[i]? = some ((lo:Int)+1)) (h2:s.hi[i]? = some ((hi:Int)+1)) (h3:lo≤hi) (h4:hi≤s.l.length) (h5:s.l.length≤1000):SpecP Tryz.prog 159 [.ip s.cells,.int .i64 i] (fun r=>r=JI ((s.l.take hi).drop lo)):=by
 refine SpecP.body q6n QQ Tryz.func159 rfl Tryz.call159 (by show 2≤_;decide) ?_
 conv=>whnf
 repeat' ((first|refine DrawK.auto QQ mixed (by kernel_rfl) ?_|refine Wr.i64 (by omega) (by omega) ?_|(refine IdxK.at rfl (VL h1) rfl ?_)|(refine IdxK.at rfl (VL h2) rfl ?_)|refine And.intro (fun e he=>by obtain ⟨x,_,rfl⟩:=List.mem_map.1 he;rfl) (SlK.mk lo hi (by simp) (by simp) h3 (by simpa using h4) ?_));conv=>whnf)
 exact RetK.p (by simp [JI,List.map_take,List.map_drop])
theorem NG (s:Sheet) (id:Int):SpecP Tryz.prog 83 [.ip s.cells,.int .i64 id] (fun r=>r = .bool (decide (1≤id)&&decide (id≤s.l.length))):=by
 refine SpecP.body q4h QQ Tryz.func83 rfl Tryz.call83 (by show 2≤_;decide) ?_
 conv=>whnf
 repeat' (first|(intro (_:_≤9223372036854775807);conv=>whnf)|(refine Br.dec (fun _=>?_) (fun _=>?_)<;>first|(exfalso;omega)|conv=>whnf))
 all_goals have hl:(s.l.map fun i=>AV.agg i.cells).length=s.l.length:=List.length_map _
 ·exact RetK.bool (by simp_all)
 ·exact RetK.ff (by simp;omega)
theorem q4d (s:Sheet) (i lo hi:Nat) (h1:s.lo[i]? = some ((lo:Int)+1)) (h2:s.hi[i]? = some ((hi:Int)+1)):SpecP Tryz.prog 134 [.ip s.cells,.int .i64 i] (fun r=>r = .int .i64 (if lo<hi then (lo:Int)+1 else -1)):=by
 refine SpecP.body LM QQ Tryz.func134 rfl Tryz.call134 (by show 2≤_;decide) ?_
 conv=>whnf
 repeat' (first|((first|refine DrawK.auto QQ mixed (by kernel_rfl) ?_|(refine IdxK.at rfl (VL h1) rfl ?_)|(refine IdxK.at rfl (VL h2) rfl ?_));conv=>whnf)|(refine Br.dec (fun _=>?_) (fun _=>?_)<;>first|(exfalso;omega)|conv=>whnf))
 ·exact RetK.int (by rw [if_pos (by omega)])
 ·exact RetK.int (by rw [if_neg (by omega)])
theorem UJ (l:List Str) (g:Nat) (c:AV) (p:Str→Bool) (hp : ∀ s,SpecP Tryz.prog g [.str s,c] (fun r=>r = .bool (p s))):SpecP Tryz.prog 259 [QD l,.fn g [c]] (fun r=>r = .int .i64 (q9a p l)):=by
 refine SpecP.body VS QQ Tryz.func259 rfl Tryz.call259 (by show 2≤_;decide) ?_
 conv=>whnf
 intro (_:_≤9223372036854775807)
 have hl:(l.map AV.str).length=l.length:=List.length_map _
 conv=>whnf
 refine LoopK.inv QQ (fun j:Nat=>⟨[(0,.p (QD l)),(1,.p (.fn g [c])),(7,.p (.int .i64 (l.map AV.str).length)),(8,.p (.int .i64 j))],[]⟩) (fun j=>j≤l.length∧(l.drop j).any p=l.any p∧l.findIdx p=j+(l.drop j).findIdx p) (fun j=>l.length-j) 0 (Le.of_eq rfl) ⟨Nat.zero_le _,rfl,by simp⟩ ?_
 rintro j ⟨h2,h3,h4⟩
 conv=>whnf
 repeat' (first|((first|refine IdxK.map (by omega) (fun _=>rfl) ?_|refine Wr.i64 (by omega) (by omega) ?_|(refine CallK.pure (hp _) (.cons (Sub.refl _) (.cons (Sub.refl _) .nil)) ?_;rintro _ rfl));conv=>whnf)|(refine Br.dec (fun _=>?_) (fun _=>?_)<;>first|(exfalso;omega)|conv=>whnf)|(refine Br.b (fun _=>?_) (fun _=>?_)<;>conv=>whnf))
 ·exact RetK.int (x2a (p:=p) (by omega) (by assumption) h3 h4).symm
 ·exact ⟨j+1,⟨by omega,by rw [← h3,q3s (p:=p) (by omega) (by assumption)],by rw [h4,w6p (p:=p) (by omega) (by assumption)];omega⟩,by omega,Le.of_eq rfl⟩
 ·exact RetK.int (by rw [x9s];rw [← h3,BP (by omega)])
theorem VH (l:List Str) (g:Nat) (c:AV) (p:Str→Bool) (hp : ∀ s,SpecP Tryz.prog g [.str s,c] (fun r=>r = .bool (p s))):SpecP Tryz.prog 192 [QD l,.fn g [c]] (fun r=>r = .bool (l.any p)):=by
 refine SpecP.body WL QQ Tryz.func192 rfl Tryz.call192 (by show 2≤_;decide) ?_
 conv=>whnf
 repeat' (refine CallK.pure (UJ _ _ _ p hp) (by repeat' (first|exact ArgP.nil|refine ArgP.cons ?_ ?_|exact Sub.refl _|exact Sub.tt rfl|exact Sub.ff rfl|exact Sub.int (by omega))) ?_;rintro _ rfl;conv=>whnf)
 exact RetK.bool q5c
theorem XT (l:List Pr) (g:Nat) (c:AV) (p:Pr→Bool) (hp : ∀ s:Pr,SpecP Tryz.prog g [.agg s.cells,c] (fun r=>r = .bool (p s))):SpecP Tryz.prog 173 [.sl (l.map fun f => .agg f.cells),.fn g [c]] (fun r=>r = .int .i64 (q9a p l)):=by
 refine SpecP.body WN QQ Tryz.func173 rfl Tryz.call173 (by show 2≤_;decide) ?_
 conv=>whnf
 intro (_:_≤9223372036854775807)
 have hl:(l.map fun f=>AV.agg f.cells).length=l.length:=List.length_map _
 conv=>whnf
 refine LoopK.inv QQ (fun j:Nat=>⟨[(0,.p (.sl (l.map fun f => .agg f.cells))),(1,.p (.fn g [c])),(7,.p (.int .i64 (l.map fun f=>AV.agg f.cells).length)),(8,.p (.int .i64 j))],[]⟩) (fun j=>j≤l.length∧(l.drop j).any p=l.any p∧l.findIdx p=j+(l.drop j).findIdx p) (fun j=>l.length-j) 0 (Le.of_eq rfl) ⟨Nat.zero_le _,rfl,by simp⟩ ?_
 rintro j ⟨h2,h3,h4⟩
 conv=>whnf
 repeat' (first|((first|refine IdxK.map (by omega) (fun _=>rfl) ?_|refine Wr.i64 (by omega) (by omega) ?_|(refine CallK.pure (hp _) (.cons (Sub.refl _) (.cons (Sub.refl _) .nil)) ?_;rintro _ rfl));conv=>whnf)|(refine Br.dec (fun _=>?_) (fun _=>?_)<;>first|(exfalso;omega)|conv=>whnf)|(refine Br.b (fun _=>?_) (fun _=>?_)<;>conv=>whnf))
 ·exact RetK.int (x2a (p:=p) (by omega) (by assumption) h3 h4).symm
 ·exact ⟨j+1,⟨by omega,by rw [← h3,q3s (p:=p) (by omega) (by assumption)],by rw [h4,w6p (p:=p) (by omega) (by assumption)];omega⟩,by omega,Le.of_eq rfl⟩
 ·exact RetK.int (by rw [x9s];rw [← h3,BP (by omega)])
theorem WG (l:List Pr) (g:Nat) (c:AV) (p:Pr→Bool) (hp : ∀ s:Pr,SpecP Tryz.prog g [.agg s.cells,c] (fun r=>r = .bool (p s))):SpecP Tryz.prog 295 [.sl (l.map fun f => .agg f.cells),.fn g [c]] (fun r=>r = .bool (l.any p)):=by
 refine SpecP.body ZA QQ Tryz.func295 rfl Tryz.call295 (by show 2≤_;decide) ?_
 conv=>whnf
 repeat' (refine CallK.pure (XT _ _ _ p hp) (by repeat' (first|exact ArgP.nil|refine ArgP.cons ?_ ?_|exact Sub.refl _|exact Sub.tt rfl|exact Sub.ff rfl|exact Sub.int (by omega))) ?_;rintro _ rfl;conv=>whnf)
 exact RetK.bool q5c
theorem x3z (p:Pg) (n:Str):SpecP Tryz.prog 193 [.str n,.ip p.cells] (fun r=>r = .bool (p.globals.any fun s=>n==s)):=by
 refine SpecP.body q8j QQ Tryz.func193 rfl Tryz.call193 (by show 2≤_;decide) ?_
 conv=>whnf
 repeat' (refine CallK.pure (QV _ _) (by repeat' (first|exact ArgP.nil|refine ArgP.cons ?_ ?_|exact Sub.refl _|exact Sub.tt rfl|exact Sub.ff rfl)) ?_;rintro _ rfl;conv=>whnf)
 exact RetK.p rfl
theorem q2g (n:Str) (f:Pr):SpecP Tryz.prog 174 [.agg f.cells,.ip [.str n]] (fun r=>r = .bool (f.name==n)):=by
 refine SpecP.body MI QQ Tryz.func174 rfl Tryz.call174 (by show 2≤_;decide) ?_
 conv=>whnf
 skip
 exact RetK.p rfl
theorem x2o (n:Str) (f:Pr):SpecP Tryz.prog 296 [.agg f.cells,.ip [.str n]] (fun r=>r = .bool (f.name==n)):=by
 refine SpecP.body q6m QQ Tryz.func296 rfl Tryz.call296 (by show 2≤_;decide) ?_
 conv=>whnf
 skip
 exact RetK.p rfl
theorem VP (s:Sheet) (n:Str):SpecP Tryz.prog 119 [.ip s.cells,.str n] (fun r=>r = .int .i64 (q9a (fun f=>f.name==n) s.p.procs)):=by
 refine SpecP.body q2r QQ Tryz.func119 rfl Tryz.call119 (by show 2≤_;decide) ?_
 conv=>whnf
 repeat' (refine CallK.pure (XT _ _ _ (fun f=>f.name==n) (fun f=>q2g n f)) (by repeat' (first|exact ArgP.nil|refine ArgP.cons ?_ ?_|exact Sub.refl _|exact Sub.tt rfl|exact Sub.ff rfl|exact Sub.int (by omega))) ?_;rintro _ rfl;conv=>whnf)
 exact RetK.p rfl
open Go.Proofs
theorem AppK.strs {es:List AV} {n:Nat} {K:Prop} (xs:List Str) (hn:n=es.length) (hb:es.length+xs.length≤8796093022208) (hK:K):AppK es (xs.map .str) n (xs.map AV.str).length 1 16 K :=
 .mk hn rfl (by rw [hn];simp;omega) (by rw [hn];simp [maxLen];omega) (fun x hx=>by obtain ⟨y,_,rfl⟩:=List.mem_map.1 hx;exact ⟨rfl,rfl⟩) hK
theorem AppK.str1 {es:List AV} {n:Nat} {K:Prop} {s:Str} (hn:n=es.length) (hb:es.length≤8796093022000) (hK:K):AppK es [.str s] n 1 1 16 K :=
 .mk hn rfl (by omega) (by simp only [maxLen];omega) (fun x hx=>by rcases List.mem_singleton.1 hx with rfl;exact ⟨rfl,rfl⟩) hK
theorem AppK.int1 {es:List AV} {n:Nat} {K:Prop} {s:Int} (hn:n=es.length) (hb:es.length≤8796093022000) (hK:K):AppK es [.int .i64 s] n 1 1 8 K :=
 .mk hn rfl (by omega) (by simp only [maxLen];omega) (fun x hx=>by rcases List.mem_singleton.1 hx with rfl;exact ⟨rfl,rfl⟩) hK
mutual
def q9l:X→List Str→List Str
 | .mk op _ name kids,out=>GY kids (if op=2∧(out.any fun s=>name==s)=false then out++[name] else out)
def GY:List X→List Str→List Str
 | [],out=>out
 | x::r,out=>GY r (q9l x out)
end
theorem x2t (x:X) (out:List Str):q9l x out=GY x.kids (if x.op=2∧(out.any fun s=>x.name==s)=false then out++[x.name] else out):=by
 cases x
 rw [q9l]
 rfl
theorem q9t {l:List X} {j:Nat} {out:List Str} (hj:j<l.length):GY (l.drop j) out=GY (l.drop (j+1)) (q9l l[j] out):=by
 rw [QG hj,GY]
theorem x5x {l:List X} {j:Nat} {out:List Str} (hj:l.length≤j):GY (l.drop j) out=out:=by
 rw [List.drop_eq_nil_of_le hj,GY]
theorem q1r {n:Nat} {x:X} (h:WT (n+1) x=true):x.kids.length≤2∧(x.op=2→x.kids.length=0) ∧ ∀ k∈x.kids,WT n k=true:=by
 rw [WT] at h
 simp only [Bool.and_eq_true,decide_eq_true_eq] at h
 obtain ⟨h1,h2⟩:=h
 refine ⟨?_,fun he => ?_,?_⟩
 ·unfold q4t at h1;(repeat' split at h1)<;>omega
 ·unfold q4t at h1;rw [if_pos (by omega)] at h1;omega
 ·by_cases h3:x.op=1
  ·have:x.kids.length=0:=by unfold q4t at h1;rw [if_pos (by omega)] at h1;omega
   rw [List.eq_nil_of_length_eq_zero this]
   simp
  ·by_cases h4:x.op=2
   ·have:x.kids.length=0:=by unfold q4t at h1;rw [if_pos (by omega)] at h1;omega
    rw [List.eq_nil_of_length_eq_zero this]
    simp
   ·rw [if_neg h3,if_neg h4] at h2
    simp only [Bool.and_eq_true] at h2
    exact List.all_eq_true.1 h2.2
theorem x8m : ∀ (n:Nat) (x:X) (out:List Str),WT n x=true→out.length≤(q9l x out).length∧(q9l x out).length≤out.length+2 ^ n:=by
 intro n
 induction n with
 | zero=>intro x out h;rw [WT] at h;cases h
 | succ n ih =>
   intro x out h
   obtain ⟨h1,h2,h3⟩:=q1r h
   have key : ∀ (l:List X) (o:List Str),(∀ k∈l,WT n k=true)→o.length≤(GY l o).length∧(GY l o).length≤o.length+l.length*2 ^ n:=by
    intro l
    induction l with
    | nil=>intro o _;simp [GY]
    | cons k r ihl =>
      intro o hk
      rw [GY]
      have h5:=ih k o (hk k (by simp))
      have h6:=ihl (q9l k o) fun k hk'=>hk k (by simp [hk'])
      simp only [List.length_cons,Nat.add_mul,Nat.one_mul]
      omega
   rw [x2t]
   have hp:2 ^ (n+1)=2*2 ^ n:=by rw [Nat.pow_succ];omega
   have hpos:0<2 ^ n:=Nat.pow_pos (by decide)
   have h4:=key x.kids (if x.op=2∧(out.any fun s=>x.name==s)=false then out++[x.name] else out) h3
   have h5:x.kids.length*2 ^ n≤2*2 ^ n:=Nat.mul_le_mul_right _ h1
   split at h4
   ·rename_i hc
    have:=h2 hc.1
    rw [this] at h4
    rw [if_pos hc]
    simp only [List.length_append,List.length_singleton] at h4
    omega
   ·rename_i hc
    rw [if_neg hc]
    omega
def x3w (t:Nat) (out:List Str):Heap:=[(2000,.own t 1 (out.map .str))]
theorem x9k : ∀ (n:Nat) (_:n≤20) (x:X) (_:WT n x=true) (out:List Str) (_:out.length+2 ^ n≤1073741824),
  SpecH Tryz.prog 286 [.p (.agg x.cells),.hd 2000 0 out.length] (x3w 9 out) (fun r H=>r = .hd 2000 0 (q9l x out).length∧H=x3w 9 (q9l x out)):=by
 intro n
 induction n with
 | zero=>intro _ x h;rw [WT] at h;cases h
 | succ n ih =>
   intro hn x hx out ho
   have hp:2 ^ (n+1)=2*2 ^ n:=by rw [Nat.pow_succ];omega
   have hpos:0<2 ^ n:=Nat.pow_pos (by decide)
   obtain ⟨hk1,hk2,hk3⟩:=q1r hx
   have hxl:=X.avs_len x.kids
   refine SpecH.body x2h QQ Tryz.func286 rfl Tryz.call286 (by show 2≤_;decide) ?_
   conv=>whnf
   repeat' (first|((first|intro (_:_≤9223372036854775807)|refine And.intro rfl ?_|(refine And.intro ⟨by decide,by decide⟩ ?_)|refine BsK.pure (fun x hx=>by rcases List.mem_singleton.1 hx with rfl;rfl) rfl ?_|(refine CallK.borrow (QV out x.name) (.cons (.hd rfl (by simp)) (.cons (.p (Sub.refl _)) .nil)) (by rintro _ rfl;rfl) ?_;rintro _ rfl)|refine AppK.mk (by simp) rfl (by show (out.length+1)*16≤140737488355328;omega) (by show out.length+1≤9223372036854775807;omega) (fun x hx=>by rcases List.mem_singleton.1 hx with rfl;exact ⟨rfl,rfl⟩) ?_);conv=>whnf)|(refine Br.dec (fun _=>?_) (fun _=>?_)<;>first|(exfalso;omega)|conv=>whnf)|(refine Br.n (fun _=>?_) (fun _=>?_)<;>conv=>whnf))
   all_goals
    have hmul : ∀ j,j<x.kids.length→(x.kids.length-j)*2 ^ n=(x.kids.length-(j+1))*2 ^ n+2 ^ n:=fun j hj=>by
     rw [show x.kids.length-j=(x.kids.length-(j+1))+1 by omega,Nat.add_mul,Nat.one_mul]
    have hmul0:x.kids.length*2 ^ n≤2*2 ^ n:=Nat.mul_le_mul_right _ hk1
    first
    | refine LoopK.inv QQ (fun i:Nat×List Str=>⟨[(1,.hd 2000 0 i.2.length),(23,.p (.sl (X.avs x.kids))),(24,.p (.int .i64 (X.avs x.kids).length)),(25,.p (.int .i64 i.1))],x3w 9 i.2⟩) (fun i=>i.1≤x.kids.length∧GY (x.kids.drop i.1) i.2=q9l x out∧i.2.length+(x.kids.length-i.1)*2 ^ n≤1073741824) (fun i=>x.kids.length-i.1) (0,out++[x.name]) (Le.of_eq (by simp [x3w];exact ⟨rfl,rfl⟩)) ⟨Nat.zero_le _,by simp only [List.drop_zero];rw [x2t,if_pos ⟨by assumption,by assumption⟩],by have:=hk2 (by assumption);simp [this];omega⟩ ?_
    | refine LoopK.inv QQ (fun i:Nat×List Str=>⟨[(1,.hd 2000 0 i.2.length),(23,.p (.sl (X.avs x.kids))),(24,.p (.int .i64 (X.avs x.kids).length)),(25,.p (.int .i64 i.1))],x3w 9 i.2⟩) (fun i=>i.1≤x.kids.length∧GY (x.kids.drop i.1) i.2=q9l x out∧i.2.length+(x.kids.length-i.1)*2 ^ n≤1073741824) (fun i=>x.kids.length-i.1) (0,out) (Le.of_eq rfl) ⟨Nat.zero_le _,by simp only [List.drop_zero];rw [x2t,if_neg (by simp [*])],by simp only [Nat.sub_zero];omega⟩ ?_
    rintro ⟨j,acc⟩ ⟨h2,h3,h4⟩
    simp only at h2 h3 h4 ⊢
    conv=>whnf
    repeat' (first|((first|refine And.intro rfl ?_|refine IdxK.xs (by omega) ?_);conv=>whnf)|(refine Br.dec (fun _=>?_) (fun _=>?_)<;>first|(exfalso;omega)|conv=>whnf))
    all_goals first
     | (rw [x5x (by omega)] at h3
        exact ⟨_,.refl _,by rw [h3];exact ⟨rfl,rfl⟩⟩)
     | (have hj:j<x.kids.length:=by omega
        have hm:=hmul j hj
        have hg:=x8m n x.kids[j] acc (hk3 _ (List.getElem_mem hj))
        refine CallK.heap [(2000,2000)] 0 (by repeat' (first|exact ArgsH.nil|refine ArgsH.cons ?_ ?_|exact LSub.refl _|exact LSub.p Sub.nils|exact LSub.p (Sub.tt rfl)|exact LSub.p (Sub.ff rfl)|exact LSub.p (Sub.int (by omega)))) (by refine BlksH.cons (j:=2000) rfl rfl ?_ ?_;exact CSub.refl _;exact BlksH.nil) (ih (by omega) x.kids[j] (hk3 _ (List.getElem_mem hj)) acc (by omega)) rfl rfl ?_
        rintro l' H' ⟨rfl,rfl⟩
        conv=>whnf
        refine Wr.i64 (by omega) (by omega) ?_
        conv=>whnf
        exact ⟨(j+1,q9l x.kids[j] acc),⟨by simp only;omega,by simp only;rw [← h3,q9t hj],by simp only;omega⟩,by simp only;omega,Le.of_eq rfl⟩)
def WV (x:X):List Str:=bif z7k x then q9l x [] else []
theorem YL (x:X):(WV x).length≤1048576:=by
 unfold WV
 cases h:z7k x with
 | false=>simp
 | true =>
   have:=(x8m 20 x [] h).2
   simpa using this
theorem x0d (x:X):SpecP Tryz.prog 241 [.agg x.cells] (fun r=>r=QD (WV x)):=by
 refine SpecP.body x5a QQ Tryz.func241 rfl Tryz.call241 (by show 1≤_;decide) ?_
 conv=>whnf
 repeat' (first|(refine CallK.pure (q3n _) (by repeat' (first|exact ArgP.nil|refine ArgP.cons ?_ ?_|exact Sub.refl _|exact Sub.tt rfl|exact Sub.ff rfl)) ?_;rintro _ rfl;conv=>whnf)|(refine Br.n (fun _=>?_) (fun _=>?_)<;>conv=>whnf))
 ·refine CallK.nil 5 9 1 rfl (.cons rfl (.row .nil)) ?_
  refine CallK.heap [(2000,5)] 0 (by repeat' (first|exact ArgsH.nil|refine ArgsH.cons ?_ ?_|exact LSub.refl _|exact LSub.p Sub.nils|exact LSub.p (Sub.tt rfl)|exact LSub.p (Sub.ff rfl)|exact LSub.p (Sub.int (by omega)))) (by refine BlksH.cons (j:=5) rfl rfl ?_ ?_;exact CSub.refl _;exact BlksH.nil) (x9k 20 (by omega) x (by assumption) [] (by simp)) rfl rfl ?_
  rintro l' H' ⟨rfl,rfl⟩
  conv=>whnf
  refine ⟨_,.hd rfl (by simp),?_⟩
  unfold WV
  rw [show z7k x=true by assumption]
  rfl
 ·refine ⟨_,.p Sub.nils,?_⟩
  unfold WV
  rw [show z7k x=false by assumption]
  rfl
def UO (a:Arg):List Str:=(bif a.ref then [a.name] else [])++WV a.x
def FK (t:S):List Str:=(bif t.kind≠10 && !(t.name==[]) then [t.name] else [])++WV t.x
def ZT (t:S):List Str:=FK t++t.args.flatMap UO
theorem z4s (a:Arg):(UO a).length≤1048577:=by
 have:=YL a.x
 unfold UO
 cases a.ref<;>simp<;>omega
theorem z5v (t:S):(FK t).length≤1048577:=by
 have:=YL t.x
 unfold FK
 cases (t.kind≠10 && !(t.name==[]):Bool)<;>simp<;>omega
theorem q5e {α β:Type} {f:α→List β} {c:Nat} (h : ∀ a,(f a).length≤c) : ∀ l:List α,(l.flatMap f).length≤l.length*c
 | []=>by simp
 | x::r=>by
   have:=q5e h r
   have:=h x
   simp only [List.flatMap_cons,List.length_append,List.length_cons,Nat.add_mul,Nat.one_mul]
   omega
def x3u (t:S) (j:Nat):List Str:=FK t++(t.args.take j).flatMap UO
theorem z2k (t:S) {j:Nat} (h:j≤t.args.length) (ha:t.args.length≤20000):(x3u t j).length≤21000000000:=by
 have h1:=z5v t
 have h2:=q5e z4s (t.args.take j)
 have h3:(t.args.take j).length*1048577≤20000*1048577:=Nat.mul_le_mul_right _ (by simp;omega)
 unfold x3u
 simp only [List.length_append]
 omega
theorem x6l {t:S} {j:Nat} (hj:j<t.args.length):x3u t (j+1)=x3u t j++UO t.args[j]:=by
 unfold x3u
 rw [List.take_succ_eq_append_getElem hj,List.flatMap_append,List.append_assoc]
 simp
def FP (t:S) (tS:Nat) (j:Nat):St:=⟨[(3,.hd 0 0 (x3u t j).length),(25,.p (.sl (t.args.map fun a => .agg a.cells))),(26,.p (.int .i64 (t.args.map fun a=>AV.agg a.cells).length)),(27,.p (.int .i64 j))],[(0,.own tS 1 ((x3u t j).map .str))]⟩
theorem q9k (t:S) (ha:t.args.length≤20000):SpecP Tryz.prog 260 [.agg t.cells] (fun r=>r=QD (ZT t)):=by
 refine SpecP.body x4d QQ Tryz.func260 rfl Tryz.call260 (by show 1≤_;decide) ?_
 conv=>whnf
 repeat' (first|((first|intro (_:_≤9223372036854775807)|(refine CallK.pure (x0d _) (by repeat' (first|exact ArgP.nil|refine ArgP.cons ?_ ?_|exact Sub.refl _|exact Sub.tt rfl|exact Sub.ff rfl)) ?_;rintro _ rfl)|refine And.intro rfl ?_|(refine And.intro ⟨by decide,by decide⟩ ?_)|refine BsK.pure (fun x hx=>by rcases List.mem_singleton.1 hx with rfl;rfl) rfl ?_|refine AppK.strs _ (by simp) (by have:=YL t.x;simp;omega) ?_|refine AppK.str1 (by simp) (by simp) ?_);conv=>whnf)|(refine Br.dec2 (fun _=>?_) (fun _=>?_)<;>first|(exfalso;omega)|conv=>whnf)|(refine Br.n (fun _=>?_) (fun _=>?_)<;>conv=>whnf))
 all_goals
  have hl:(t.args.map fun a=>AV.agg a.cells).length=t.args.length:=List.length_map _
  refine LoopK.inv QQ (FP t 9) (fun j=>j≤t.args.length) (fun j=>t.args.length-j) 0 (Le.of_eq ?_) (Nat.zero_le _) ?_
  ·first
    | (have e:x3u t 0=WV t.x:=by simp [x3u,FK,show t.kind=10 by assumption]
       rw [FP,e];simp only [Nat.zero_add,List.length_map,List.length_append,List.map_append,List.nil_append];rfl)
    | (have e:x3u t 0=WV t.x:=by simp [x3u,FK,show t.name=[] by simpa using (show (t.name==[])=true by assumption)]
       rw [FP,e];simp only [Nat.zero_add,List.length_map,List.length_append,List.map_append,List.nil_append];rfl)
    | (have e:x3u t 0=[t.name]++WV t.x:=by
        have:(t.name==[])=false:=by assumption
        simp [x3u,FK,show ¬t.kind=10 by assumption,this]
       rw [FP,e];simp only [Nat.zero_add,List.length_map,List.length_append,List.map_append,List.nil_append];rfl)
  intro j h2
  have hacc:=z2k t h2 ha
  conv=>whnf
  repeat' (first|((first|(refine CallK.pure (x0d _) (by repeat' (first|exact ArgP.nil|refine ArgP.cons ?_ ?_|exact Sub.refl _|exact Sub.tt rfl|exact Sub.ff rfl)) ?_;rintro _ rfl)|refine And.intro rfl ?_|(refine And.intro ⟨by decide,by decide⟩ ?_)|refine BsK.pure (fun x hx=>by rcases List.mem_singleton.1 hx with rfl;rfl) rfl ?_|refine IdxK.map (by omega) (fun _=>rfl) ?_|refine Wr.i64 (by omega) (by omega) ?_|refine AppK.strs _ (by simp) (by have:=YL (t.args[j]'(by omega)).x;simp;omega) ?_|refine AppK.str1 (by simp) (by simp;omega) ?_);conv=>whnf)|(refine Br.dec (fun _=>?_) (fun _=>?_)<;>first|(exfalso;omega)|conv=>whnf)|(refine Br.b (fun _=>?_) (fun _=>?_)<;>conv=>whnf))
  all_goals first
   | exact ⟨_,.hd rfl (by simp),by
      have:t.args.take j=t.args:=List.take_of_length_le (by omega)
      rw [ZT,← this];rfl⟩
   | (have hj:j<t.args.length:=by omega
      have hst:=x6l hj
      refine ⟨j+1,by show j+1≤_;omega,by show t.args.length-(j+1)<t.args.length-j;omega,Le.of_eq ?_⟩
      first
       | (have hn:UO t.args[j]=[t.args[j].name]++WV t.args[j].x:=by rw [UO,show t.args[j].ref=true by assumption];rfl
          rw [FP,hst,hn]
          simp only [List.length_append,List.map_append,List.length_map,← List.append_assoc,← Nat.add_assoc]
          rfl)
       | (have hn:UO t.args[j]=WV t.args[j].x:=by rw [UO,show t.args[j].ref=false by assumption];rfl
          rw [FP,hst,hn]
          simp only [List.length_append,List.map_append,List.length_map]
          rfl))
open Go.Proofs
def w0j:List Str→Nat
 | []=>0
 | s::r=>1+w0j r
mutual
def wX:X→Nat
 | .mk _ _ name kids=>1+wXs kids
def wXs:List X→Nat
 | []=>0
 | x::r=>wX x+wXs r
end
def x1l:List Arg→Nat
 | []=>0
 | a::r=>wX a.x+1+x1l r
mutual
def wS:S→Nat
 | .mk _ _ labels name proc x _ args thn els=>wX x+w0j labels+1+1+x1l args+wL thn+wL els
def wL:List S→Nat
 | []=>0
 | s::r=>wS s+wL r
end
def w6o:List Param→Nat
 | []=>0
 | a::r=>1+w6o r
def wPr (f:Pr):Nat:=1+w0j f.vars+w0j f.fin+w6o f.params+wL f.body
def w4z:List Pr→Nat
 | []=>0
 | f::r=>wPr f+w4z r
def wPg (p:Pg):Nat:=w0j p.globals+w4z p.procs
def Fit (p:Pg):Prop:=wPg p≤20000
theorem HY : ∀ l:List Str,l.length≤w0j l
 | []=>Nat.zero_le _
 | s::r=>by have:=HY r;simp only [List.length_cons,w0j];omega
theorem JV : ∀ l:List Arg,l.length≤x1l l
 | []=>Nat.zero_le _
 | s::r=>by have:=JV r;simp only [List.length_cons,x1l];omega
theorem x2l (s:S):wS s=wX s.x+w0j s.labels+1+1+x1l s.args+wL s.thn+wL s.els:=by
 cases s
 rw [wS]
 rfl
mutual
theorem w7n : ∀ s:S,ZJ s≤wS s
 | .mk id kind labels name proc x has args thn els=>by
   have:=z1i thn
   have:=z1i els
   rw [ZJ,wS]
   omega
theorem z1i : ∀ l:List S,QY l≤wL l
 | []=>by rw [QY,wL];exact Nat.le_refl _
 | s::r=>by
   have:=w7n s
   have:=z1i r
   rw [QY,wL]
   omega
end
theorem w0v : ∀ {l:List Pr} {f:Pr},f∈l→wPr f≤w4z l
 | g::r,f,h=>by
   simp only [w4z]
   rcases List.mem_cons.1 h with rfl|h
   ·omega
   ·have:=w0v h;omega
theorem Fit.pr {p:Pg} (h:Fit p) {f:Pr} (hf:f∈p.procs):wPr f≤20000:=by
 have:=w0v hf
 unfold Fit wPg at h
 omega
mutual
def flS:S→List S
 | .mk id kind labels name proc x has args thn els => .mk id kind labels name proc x has args thn els::(flL thn++flL els)
def flL:List S→List S
 | []=>[]
 | s::r=>flS s++flL r
end
theorem w3a (s:S):flS s=s::(flL s.thn++flL s.els):=by
 cases s
 rw [flS]
 rfl
mutual
theorem w6z : ∀ s:S,(flS s).length=ZJ s
 | .mk id kind labels name proc x has args thn els=>by
   rw [flS,ZJ,List.length_cons,List.length_append,q6z thn,q6z els]
   omega
theorem q6z : ∀ l:List S,(flL l).length=QY l
 | []=>by rw [flL,QY];rfl
 | s::r=>by rw [flL,QY,List.length_append,w6z s,q6z r]
end
mutual
theorem w9b : ∀ (s t:S),t∈flS s→wS t≤wS s
 | .mk id kind labels name proc x has args thn els,t,h=>by
   rw [flS] at h
   rcases List.mem_cons.1 h with rfl|h
   ·exact Nat.le_refl _
   ·rw [wS]
    rcases List.mem_append.1 h with h|h
    ·have:=q6p thn t h;omega
    ·have:=q6p els t h;omega
theorem q6p : ∀ (l:List S) (t:S),t∈flL l→wS t≤wL l
 | [],t,h=>by rw [flL] at h;cases h
 | s::r,t,h=>by
   rw [flL] at h
   rw [wL]
   rcases List.mem_append.1 h with h|h
   ·have:=w9b s t h;omega
   ·have:=q6p r t h;omega
end

mutual
def itS (proc up nx loop:Int) (n:Nat):S→List Item
 | .mk id kind labels name pr x has args thn els =>
   ⟨.mk id kind labels name pr x has args thn els,proc,up,nx,loop⟩::(itL proc (n+1) (if kind=6 then n+1 else nx) (if kind=6 then n+1 else loop) (n+1) thn ++
     itL proc (n+1) (if kind=6 then n+1 else nx) (if kind=6 then n+1 else loop) (n+1+QY thn) els)
def itL (proc up nx loop:Int) (n:Nat):List S→List Item
 | []=>[]
 | t::r=>itS proc up (if r.isEmpty then nx else n+1+ZJ t) loop n t++itL proc up nx loop (n+ZJ t) r
end
mutual
theorem w5y (proc up nx loop:Int) : ∀ (t:S) (acc:List Item),q4o proc up nx loop acc t=acc++itS proc up nx loop acc.length t
 | .mk id kind labels name pr x has args thn els,acc=>by
   rw [q4o,itS,q0b _ _ _ _ thn,q0b _ _ _ _ els]
   simp only [List.length_append,List.length_cons,List.length_nil,List.append_assoc,List.cons_append,List.nil_append,XR proc _ _ _ _ thn,Nat.zero_add,Nat.add_assoc,Nat.add_comm (QY thn) 1]
theorem q0b (proc up nx loop:Int) : ∀ (l:List S) (acc:List Item),XF proc up nx loop acc l=acc++itL proc up nx loop acc.length l
 | [],acc=>by rw [XF,itL,List.append_nil]
 | t::r,acc=>by
   rw [XF,itL,w5y _ _ _ _ t,q0b _ _ _ _ r]
   simp only [List.length_append,List.append_assoc,q8u proc _ _ _ _ t]
theorem q8u (proc up nx loop:Int) (n:Nat) : ∀ t:S,(itS proc up nx loop n t).length=ZJ t
 | .mk id kind labels name pr x has args thn els=>by
   rw [itS,ZJ,List.length_cons,List.length_append,XR _ _ _ _ _ thn,XR _ _ _ _ _ els]
   omega
theorem XR (proc up nx loop:Int) (n:Nat) : ∀ l:List S,(itL proc up nx loop n l).length=QY l
 | []=>by rw [itL,QY];rfl
 | t::r=>by rw [itL,QY,List.length_append,q8u _ _ _ _ _ t,XR _ _ _ _ _ r]
end
mutual
theorem w9c (proc up nx loop:Int) (n:Nat) : ∀ t:S,(itS proc up nx loop n t).map Item.s=flS t
 | .mk id kind labels name pr x has args thn els=>by
   rw [itS,flS,List.map_cons,List.map_append,MK _ _ _ _ _ thn,MK _ _ _ _ _ els]
theorem MK (proc up nx loop:Int) (n:Nat) : ∀ l:List S,(itL proc up nx loop n l).map Item.s=flL l
 | []=>by rw [itL,flL];rfl
 | t::r=>by rw [itL,flL,List.map_append,w9c _ _ _ _ _ t,MK _ _ _ _ _ r]
end
def QN:List Pr→Nat→Nat
 | _,0=>0
 | [],_+1=>0
 | f::r,i+1=>QY f.body+QN r i
theorem x7h : ∀ (l:List Pr) (i:Nat) (acc:List Item) (lo hi:List Int),lo.length=i→hi.length=i →
  (q8n i acc lo hi l).2.1.length=i+l.length∧(q8n i acc lo hi l).2.2.length=i+l.length ∧
  (∀ k,k<i→(q8n i acc lo hi l).2.1[k]? = lo[k]? ∧ (q8n i acc lo hi l).2.2[k]? = hi[k]?) ∧ ∃ L,(q8n i acc lo hi l).1=acc++L∧L.length=cntP l ∧
  ∀ (k:Nat) (f:Pr),l[k]? = some f→(q8n i acc lo hi l).2.1[i+k]? = some ((acc.length+QN l k:Nat)+1:Int)∧(q8n i acc lo hi l).2.2[i+k]? = some ((acc.length+QN l k+QY f.body:Nat)+1:Int) ∧
   QN l k+QY f.body≤cntP l∧(L.take (QN l k+QY f.body)).drop (QN l k)=itL (i+k:Nat) 0 (-1) 0 (acc.length+QN l k) f.body
 | [],i,acc,lo,hi,h1,h2=>by
   rw [q8n]
   exact ⟨by simpa using h1,by simpa using h2,fun _ _=>⟨rfl,rfl⟩,[],by simp,rfl,fun k f h=>by simp at h⟩
 | f::r,i,acc,lo,hi,h1,h2=>by
   rw [q8n]
   have hrow:=q0b i 0 (-1) 0 f.body acc
   have hlen:=XW i 0 (-1) 0 acc f.body
   obtain ⟨h3,h4,h5,L,h6,h7,h8⟩:=x7h r (i+1) (XF i 0 (-1) 0 acc f.body) (lo++[(acc.length:Int)+1]) (hi++[((XF i 0 (-1) 0 acc f.body).length:Int)+1]) (by simp [h1]) (by simp [h2])
   refine ⟨by rw [h3,List.length_cons];omega,by rw [h4,List.length_cons];omega,fun k hk => ?_,itL i 0 (-1) 0 acc.length f.body++L,?_,?_,fun k g hg => ?_⟩
   ·obtain ⟨h9,h10⟩:=h5 k (by omega)
    rw [h9,h10,List.getElem?_append_left (by omega),List.getElem?_append_left (by omega)]
    exact ⟨rfl,rfl⟩
   ·rw [h6,hrow,List.append_assoc]
   ·rw [List.length_append,h7,XR,cntP]
   ·cases k with
    | zero =>
      simp only [List.getElem?_cons_zero,Option.some.injEq] at hg
      subst hg
      obtain ⟨h9,h10⟩:=h5 i (by omega)
      simp only [Nat.add_zero,QN,Nat.zero_add,List.drop_zero]
      refine ⟨?_,?_,?_,?_⟩
      ·rw [h9,List.getElem?_append_right (by omega),h1];simp
      ·rw [h10,List.getElem?_append_right (by omega),h2,hlen];simp
      ·rw [cntP];omega
      ·rw [List.take_append_of_le_length (by rw [XR];omega),List.take_of_length_le (by rw [XR];omega)]
    | succ k =>
      simp only [List.getElem?_cons_succ] at hg
      obtain ⟨h9,h10,h11,h12⟩:=h8 k g hg
      rw [hlen] at h12
      simp only [QN]
      refine ⟨?_,?_,?_,?_⟩
      ·rw [show i+(k+1)=i+1+k by omega,h9,hlen];congr 2;omega
      ·rw [show i+(k+1)=i+1+k by omega,h10,hlen];congr 2;omega
      ·rw [cntP];omega
      ·rw [List.take_append,List.drop_append,XR,List.take_of_length_le (by rw [XR];omega),List.drop_eq_nil_of_le (by rw [XR];omega),List.nil_append]
       simp only [XR]
       rw [show QY f.body+QN r k+QY g.body-QY f.body=QN r k+QY g.body by omega,show QY f.body+QN r k-QY f.body=QN r k by omega,h12]
       rw [show i+(k+1)=i+1+k by omega,show acc.length+(QY f.body+QN r k)=acc.length+QY f.body+QN r k by omega]
theorem QJ (p:Pg):(sheetOf p).p=p∧(sheetOf p).lo.length=p.procs.length∧(sheetOf p).hi.length=p.procs.length∧(sheetOf p).l.length=cntP p.procs ∧
  ∀ (k:Nat) (f:Pr),p.procs[k]? = some f→(sheetOf p).lo[k]? = some ((QN p.procs k:Nat)+1:Int)∧(sheetOf p).hi[k]? = some ((QN p.procs k+QY f.body:Nat)+1:Int) ∧
   QN p.procs k+QY f.body≤cntP p.procs∧((sheetOf p).l.take (QN p.procs k+QY f.body)).drop (QN p.procs k)=itL k 0 (-1) 0 (QN p.procs k) f.body:=by
 obtain ⟨h3,h4,_,L,h6,h7,h8⟩:=x7h p.procs 0 [] [] [] rfl rfl
 refine ⟨rfl,by unfold sheetOf;simpa using h3,by unfold sheetOf;simpa using h4,by unfold sheetOf;simp [h6,h7],fun k f hk => ?_⟩
 have:=h8 k f hk
 unfold sheetOf
 simp only [h6,List.nil_append,List.length_nil,Nat.zero_add] at this ⊢
 exact this
mutual
theorem YJ (nest seen:Int) : ∀ (s:S) {m:Int},q4i nest seen s=some m→m=seen+ZJ s
 | .mk id kind labels name proc x has args thn els,m,h=>by
   simp only [q4i] at h
   split at h
   ·cases h
   split at h
   ·cases h
   cases hn:namesB labels<;>rw [hn] at h
   ·cases h
   cases hf:WP (.mk id kind labels name proc x has args thn els)<;>rw [hf] at h
   ·cases h
   simp only [cond_true] at h
   split at h
   ·rename_i m1 h1
    have h2:=ZP (nest+1) (seen+1) thn h1
    have h3:=ZP (nest+1) m1 els h
    rw [ZJ]
    omega
   ·cases h
theorem ZP (nest seen:Int) : ∀ (l:List S) {m:Int},ZG nest seen l=some m→m=seen+QY l
 | [],m,h=>by
   simp only [ZG] at h
   cases h
   rw [QY]
   simp
 | s::r,m,h=>by
   simp only [ZG] at h
   split at h
   ·cases h
   split at h
   ·rename_i m1 h1
    have h2:=YJ nest seen s h1
    have h3:=ZP nest m1 r h
    rw [QY]
    omega
   ·cases h
end
theorem q9j : ∀ (l:List Pr) {seen m:Int},seen≤200→XL seen l=some m→m=seen+cntP l∧m≤200
 | [],seen,m,h0,h=>by rw [XL] at h;cases h;simp [cntP];exact h0
 | f::r,seen,m,h0,h=>by
   rw [XL] at h
   cases hm:KL f<;>rw [hm] at h
   ·cases h
   simp only [cond_true] at h
   split at h
   ·rename_i m1 h1
    have h2:=ZP 1 seen f.body h1
    have h3:=q8y 1 seen f.body h0 h1
    have h4:=q9j r (by omega) h
    rw [cntP]
    omega
   ·cases h
theorem ZX {p:Pg} (h:WI p=true):p.globals.length≤16∧p.procs.length≤16∧cntP p.procs≤200:=by
 unfold WI at h
 simp only [Bool.and_eq_true,decide_eq_true_eq] at h
 obtain ⟨⟨⟨h1,h2⟩,_⟩,h3⟩:=h
 cases hm:XL 0 p.procs with
 | none=>rw [hm] at h3;cases h3
 | some m =>
   have:=q9j p.procs (by decide) hm
   omega
theorem w6j {p:Pg} (h:WI p=true) {f:Pr} (hf:f∈p.procs):KL f=true:=by
 unfold WI at h
 simp only [Bool.and_eq_true] at h
 have h3:=h.2
 have key : ∀ (l:List Pr) (seen:Int),(XL seen l).isSome=true → ∀ f∈l,KL f=true:=fun l=>by
  induction l with
  | nil=>intro _ _ f hf;cases hf
  | cons g r ih =>
    intro seen h f hf
    rw [XL] at h
    cases hm:KL g<;>rw [hm] at h
    ·cases h
    simp only [cond_true] at h
    split at h
    ·rename_i m1 h1
     rcases List.mem_cons.1 hf with rfl|hf
     ·exact hm
     ·exact ih _ h f hf
    ·cases h
 exact key _ _ h3 f hf
def HI (p:Pg) (f:Pr) (name:Str):Int :=
 match f.params.find? (fun a=>a.name==name) with
 | some a=>bif a.ref then 3 else 2
 | none=>bif f.vars.any (fun s=>name==s) then 4 else bif p.globals.any (fun s=>name==s) then 1 else 0
theorem DT {α:Type} {l:List α} {p:α→Bool} {j:Nat} (hj:j<l.length) (h:p l[j]=false):(l.drop (j+1)).find? p=(l.drop j).find? p:=by
 rw [QG hj,List.find?_cons,h]
theorem JO {α:Type} {l:List α} {p:α→Bool} {j:Nat} (hj:j<l.length) (h:p l[j]=true):(l.drop j).find? p=some l[j]:=by
 rw [QG hj,List.find?_cons,h]
theorem KW {α:Type} {l:List α} {p:α→Bool} {j:Nat} (hj:l.length≤j):(l.drop j).find? p=none:=by
 rw [List.drop_eq_nil_of_le hj];rfl
theorem z3b (p:Pg) (f:Pr) (name:Str):SpecP Tryz.prog 261 [.agg p.cells,.agg f.cells,.str name] (fun r=>r = .int .i64 (HI p f name)):=by
 refine SpecP.body x6h QQ Tryz.func261 rfl Tryz.call261 (by show 3≤_;decide) ?_
 conv=>whnf
 repeat' (intro (_:_≤9223372036854775807);conv=>whnf)
 have hl:(f.params.map fun a=>AV.agg a.cells).length=f.params.length:=List.length_map _
 refine LoopK.inv QQ (fun j:Nat=>⟨[(2,.p (.str name)),(3,.p (.ip p.cells)),(4,.p (.ip f.cells)),(10,.p (.sl (f.params.map fun a => .agg a.cells))),(11,.p (.int .i64 (f.params.map fun a=>AV.agg a.cells).length)),(12,.p (.int .i64 j))],[]⟩) (fun j=>j≤f.params.length∧(f.params.drop j).find? (fun a=>a.name==name)=f.params.find? (fun a=>a.name==name)) (fun j=>f.params.length-j) 0 (Le.of_eq rfl) ⟨Nat.zero_le _,rfl⟩ ?_
 rintro j ⟨h2,h3⟩
 conv=>whnf
 repeat' (first|((first|(refine CallK.pure (QV _ _) (by repeat' (first|exact ArgP.nil|refine ArgP.cons ?_ ?_|exact Sub.refl _|exact Sub.tt rfl|exact Sub.ff rfl)) ?_;rintro _ rfl)|refine And.intro rfl ?_|refine IdxK.map (by omega) (fun _=>rfl) ?_|refine Wr.i64 (by omega) (by omega) ?_);conv=>whnf)|(refine Br.dec (fun _=>?_) (fun _=>?_)<;>first|(exfalso;omega)|conv=>whnf)|(refine Br.b (fun _=>?_) (fun _=>?_)<;>conv=>whnf))
 all_goals try have hj:j<f.params.length:=by omega
 all_goals first
  | (exfalso
     have h8:((f.params[j]'(by omega)).name==name)=true:=by assumption
     have h9:((f.params[j]'(by omega)).name==name)=false:=by assumption
     rw [h8] at h9
     cases h9)
  | (have e:=JO (p:=fun a:Param=>a.name==name) (by omega) (by assumption)
     rw [h3] at e
     exact RetK.int (by unfold HI;rw [e];simp [*]))
  | (refine ⟨j+1,⟨by omega,by rw [← h3,DT (p:=fun a:Param=>a.name==name) (by omega) (by assumption)]⟩,by omega,Le.of_eq rfl⟩)
  | (have e:f.params.find? (fun a=>a.name==name)=none:=by rw [← h3,KW (by omega)]
     exact RetK.int (by unfold HI;rw [e];simp [*]))
def mainS:Str:=[109,97,105,110]
def knownB (p:Pg) (f:Pr) (procs:List Str) (t:S):Bool:=(ZT t).all (fun n => !(HI p f n==0))&&(decide (t.kind≠4)||(!(t.proc==mainS)&&procs.any fun s=>t.proc==s))
theorem x8j (p:Pg) (f:Pr) (procs:List Str) (t:S) (ha:t.args.length≤20000):SpecP Tryz.prog 194 [.agg p.cells,.agg f.cells,QD procs,.agg t.cells] (fun r=>r = .bool (knownB p f procs t)):=by
 refine SpecP.body x1s QQ Tryz.func194 rfl Tryz.call194 (by show 4≤_;decide) ?_
 conv=>whnf
 repeat' ((first|intro (_:_≤9223372036854775807)|(refine CallK.pure (q9k _ ha) (by repeat' (first|exact ArgP.nil|refine ArgP.cons ?_ ?_|exact Sub.refl _|exact Sub.tt rfl|exact Sub.ff rfl|exact Sub.int (by omega))) ?_;rintro _ rfl));conv=>whnf)
 have hl:((ZT t).map AV.str).length=(ZT t).length:=List.length_map _
 refine LoopK.inv QQ (fun j:Nat=>⟨[(2,.p (QD procs)),(4,.p (.ip p.cells)),(5,.p (.ip f.cells)),(7,.p (.ip t.cells)),(12,.p (QD (ZT t))),(13,.p (.int .i64 ((ZT t).map AV.str).length)),(14,.p (.int .i64 j))],[]⟩) (fun j=>j≤(ZT t).length∧((ZT t).drop j).all (fun n => !(HI p f n==0))=(ZT t).all (fun n => !(HI p f n==0))) (fun j=>(ZT t).length-j) 0 (Le.of_eq rfl) ⟨Nat.zero_le _,rfl⟩ ?_
 rintro j ⟨h2,h3⟩
 conv=>whnf
 repeat' (first|((first|(refine CallK.pure (z3b _ _ _) (by repeat' (first|exact ArgP.nil|refine ArgP.cons ?_ ?_|exact Sub.refl _|exact Sub.tt rfl|exact Sub.ff rfl)) ?_;rintro _ rfl)|(refine CallK.pure (QV _ _) (by repeat' (first|exact ArgP.nil|refine ArgP.cons ?_ ?_|exact Sub.refl _|exact Sub.tt rfl|exact Sub.ff rfl)) ?_;rintro _ rfl)|refine IdxK.map (by omega) (fun _=>rfl) ?_|refine Wr.i64 (by omega) (by omega) ?_);conv=>whnf)|(refine Br.dec (fun _=>?_) (fun _=>?_)<;>first|(exfalso;omega)|conv=>whnf)|(refine Br.dec2 (fun _=>?_) (fun _=>?_)<;>first|(exfalso;omega)|conv=>whnf)|(refine Br.n (fun _=>?_) (fun _=>?_)<;>conv=>whnf))
 ·exact RetK.ff (by
   have e:=q0s (p:=fun n => !(HI p f n==0)) (l:=ZT t) (j:=j) (by omega) (by simp;assumption)
   rw [knownB,← h3,e,Bool.false_and])
 ·exact ⟨j+1,⟨by omega,by rw [← h3,KC (p:=fun n => !(HI p f n==0)) (by omega) (by simp;assumption)]⟩,by omega,Le.of_eq rfl⟩
 all_goals
  have e:(ZT t).all (fun n => !(HI p f n==0))=true:=by rw [← h3,KH (by omega)]
 ·exact RetK.ff (by
   have h8:(t.proc==mainS)=true:=by assumption
   rw [knownB,e,h8]
   simp [*])
 ·exact RetK.bool (by
   have h8:(t.proc==mainS)=false:=by assumption
   rw [knownB,e,h8]
   simp [*])
 ·exact RetK.tt (by rw [knownB,e];simp [*])
end Go.Ab
