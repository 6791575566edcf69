/- way: places by numbers, steps by numbers; graph: made of edges. -/
import Derived.Test.YtneccajakpeodaaGreatCdepA10
import Derived.Test.YtneccajakpeodaaGreatCdepA12
set_option linter.unusedSimpArgs false
set_option linter.unusedVariables false
set_option maxRecDepth 100000
set_option maxHeartbeats 16000000
namespace Go.Ab
open Go.Proofs
def bv:Bool→AV
 | true => .tt
 | false => .ff
structure Way where
 p:Pg
 j:Nat
 n:Int
 real:List Step
 live:List Bool
def Way.cells (w:Way):List AV:=[.ip (sheetOf w.p).cells,.int .i64 w.j,.int .i64 w.n,QL w.real,.sl (w.live.map bv)]
def w2f (p:Pg) (j:Nat) (n:Int) (real:AV) (lv:List AV):Heap:=[(1000,.obj 114 [.p (.ip (sheetOf p).cells),.p (.int .i64 j),.p (.int .i64 n),.p real,.hd 2000 0 lv.length]),(2000,.own 4 1 lv)]
def KX (lo hi n x:Int):Int:=if x=0 then 0 else if x = -1 then n-1 else if lo≤x∧x<hi then x-lo+1 else -1
def loI (p:Pg) (j:Nat):Int:=(QN p.procs j:Nat)+1
def hiI (p:Pg) (j:Nat) (f:Pr):Int:=(QN p.procs j+QY f.body:Nat)+1
theorem x3s (w:Way) (f:Pr) (hj:w.p.procs[w.j]? = some f) (hc:cntP w.p.procs≤1000) (hn:0≤w.n∧w.n≤5000) (x:Int):SpecP Tryz.prog 124 [.ip w.cells,.int .i64 x] (fun r=>r = .int .i64 (KX (loI w.p w.j) (hiI w.p w.j f) w.n x)):=by
 refine SpecP.body DF QQ Tryz.func124 rfl Tryz.call124 (by show 2≤_;decide) ?_
 conv=>whnf
 obtain ⟨_,_,_,hlen,hsp⟩:=QJ w.p
 obtain ⟨hlo,hhi,hle,_⟩:=hsp w.j f hj
 repeat' (first|((first|refine DrawK.auto QQ mixed (by kernel_rfl) ?_|refine Wr.i64 (by omega) (by omega) ?_|(refine IdxK.at rfl (VL hlo) rfl ?_)|(refine IdxK.at rfl (VL hhi) rfl ?_));conv=>whnf)|(refine Br.dec (fun _=>?_) (fun _=>?_)<;>first|(exfalso;omega)|conv=>whnf))
 all_goals exact RetK.int (by unfold KX loI hiI;(repeat' split)<;>omega)
theorem x2v (p:Pg) (j:Nat) (f:Pr) (n:Int) (real:AV) (lv:List AV) (hj:p.procs[j]? = some f) (hc:cntP p.procs≤1000) (hn:0≤n∧n≤5000) (x:Int) :
  SpecH Tryz.prog 124 [.ptr 1000 0,.p (.int .i64 x)] (w2f p j n real lv) (fun r H=>r = .p (.int .i64 (KX (loI p j) (hiI p j f) n x))∧H=w2f p j n real lv):=by
 obtain ⟨_,_,_,hlen,hsp⟩:=QJ p
 obtain ⟨hlo,hhi,hle,_⟩:=hsp j f hj
 refine SpecH.body DF QQ Tryz.func124 rfl Tryz.call124 (by show 2≤_;decide) ?_
 conv=>whnf
 repeat' (first|((first|refine DrawK.auto QQ mixed (by kernel_rfl) ?_|refine Wr.i64 (by omega) (by omega) ?_|(refine IdxK.at rfl (VL hlo) rfl ?_)|(refine IdxK.at rfl (VL hhi) rfl ?_));conv=>whnf)|(refine Br.dec (fun _=>?_) (fun _=>?_)<;>first|(exfalso;omega)|conv=>whnf))
 all_goals exact ⟨_,LSub.p (Sub.int (by unfold KX loI hiI;(repeat' split)<;>omega)),rfl,rfl⟩
def avP (l:List (Int×Int)):List AV:=l.map fun x => .agg [.int .i64 x.1,.int .i64 x.2]
def ixP (p:Pg) (j:Nat) (f:Pr) (n:Int) (s:Step):Int×Int:=(KX (loI p j) (hiI p j f) n s.src,KX (loI p j) (hiI p j f) n s.dst)
theorem YH (w:Way) (f:Pr) (hj:w.p.procs[w.j]? = some f) (hc:cntP w.p.procs≤1000) (hn:0≤w.n∧w.n≤5000) (l:List Step) (hlen:l.length≤1000000):SpecP Tryz.prog 157 [.ip w.cells,QL l] (fun r=>r = .sl (avP (l.map (ixP w.p w.j f w.n)))):=by
 refine SpecP.body DM QQ Tryz.func157 rfl Tryz.call157 (by show 2≤_;decide) ?_
 conv=>whnf
 repeat' (intro (_:_≤9223372036854775807);conv=>whnf)
 have hl:(l.map fun s=>AV.agg s.cells).length=l.length:=List.length_map _
 refine LoopK.inv QQ (fun i:Nat×List (Int×Int)=>⟨[(0,.p (.ip w.cells)),(5,.hd 0 0 i.2.length),(8,.p (QL l)),(9,.p (.int .i64 (l.map fun s=>AV.agg s.cells).length)),(10,.p (.int .i64 i.1))],[(0,.own 47 2 (avP i.2))]⟩)
  (fun i=>i.1≤l.length∧i.2=(l.take i.1).map (ixP w.p w.j f w.n)) (fun i=>l.length-i.1) (0,[])
  (Le.mk [(0,.own 47 2 [])] (by simp [Chunk.new0];rfl) (by simp) (by simp) (.cons (.refl _) (.cons (.nil List.mem_cons_self) (.cons (.refl _) (.cons (.refl _) (.cons (.refl _) .nil))))) (.new List.mem_cons_self .nil))
  ⟨Nat.zero_le _,rfl⟩ ?_
 rintro ⟨m,acc⟩ ⟨h2,h3⟩
 simp only at h2 h3 ⊢
 rcases Nat.lt_or_ge m l.length with hm|hm
 rotate_left 1
 ·rw [List.take_of_length_le hm] at h3
  subst h3
  conv=>whnf
  repeat' (refine Br.dec (fun _=>?_) (fun _=>?_)<;>first|(exfalso;omega)|conv=>whnf)
  exact ⟨_,.hd rfl (by simp [avP]),rfl⟩
 have hacl:acc.length=m:=by rw [h3];simp;omega
 conv=>whnf
 repeat' (first|((first|refine DrawK.auto QQ mixed (by kernel_rfl) ?_|refine And.intro rfl ?_|(refine And.intro ⟨by decide,by decide⟩ ?_)|refine BsK.pure (fun x hx=>by rcases List.mem_singleton.1 hx with rfl;rfl) rfl ?_|refine IdxK.map (by omega) (fun _=>rfl) ?_|refine Wr.i64 (by omega) (by omega) ?_|(refine CallK.pure (x3s w f hj hc hn _) (.cons (Sub.refl _) (.cons (Sub.refl _) .nil)) ?_;rintro _ rfl)|refine AppK.mk (by simp [avP]) rfl (by show (acc.length+1)*16≤140737488355328;omega) (by show acc.length+1≤9223372036854775807;omega) (fun x hx=>by rcases List.mem_singleton.1 hx with rfl;exact ⟨rfl,rfl⟩) ?_);conv=>whnf)|(refine Br.dec (fun _=>?_) (fun _=>?_)<;>first|(exfalso;omega)|conv=>whnf))
 exact ⟨(m+1,acc++[ixP w.p w.j f w.n l[m]]),⟨by simp only;omega,by simp only;rw [h3,List.take_succ_eq_append_getElem hm,List.map_append];rfl⟩,by simp only;omega,Le.of_eq (by simp only [avP,List.length_append,List.map_append];rfl)⟩
theorem SpecH.frzret {P:Program} {f:FuncId} {args:List LV} {H H0:Heap} {e:TypeId} {sz:Nat} {Q:List AV→Prop} (hrow:q0y 0 H0 fun H=>H=H0)
  (h:SpecH P f args H (fun r H' => ∃ es,r = .hd 0 0 es.length∧H'=(0,.own e sz es)::H0∧Q es)):SpecH P f args H (fun r H' => ∃ es,r = .p (.sl es)∧H'=H0∧Q es):=by
 refine ⟨h.go,fun σ β w vals h1 h2 h3=>(h.ok σ β w vals h1 h2 h3).mono fun ex w' hx => ?_⟩
 obtain ⟨l,u,σ',β',H',he,⟨es,rfl,rfl,hQ⟩,hrep,hrel,hlat⟩:=hx
 obtain ⟨s',rfl,hle⟩:=Le.row (N:=1) (s:=⟨[(0,.hd 0 0 es.length)],(0,.own e sz es)::H0⟩) (k:=0) (e:=e) (sz:=sz) (es:=es) (set:=[0]) rfl (K:=fun s=>s=⟨[(0,.p (.sl es))],H0⟩) (by
  show LenK es.length es _
  refine ⟨rfl,?_⟩
  show q0y 0 H0 fun H=>(⟨[(0,.p (.sl es))],H⟩:St)=⟨[(0,.p (.sl es))],H0⟩
  have key : ∀ {H1:Heap} {K K':Heap→Prop},(∀ H,K H→K' H)→q0y 0 H1 K→q0y 0 H1 K':=fun {H1}=>by
   induction H1 with
   | nil=>intro K K' hK h;exact hK _ h
   | cons x r ih =>
     intro K K' hK h
     obtain ⟨j,c⟩:=x
     simp only [q0y] at h ⊢
     cases hb:j==0 with
     | true =>
       simp only [hb,cond_true] at h ⊢
       exact ih hK h
     | false =>
       simp only [hb,cond_false] at h ⊢
       cases c with
       | obj e ls=>simp only [WE] at h ⊢;exact ih (fun H hH=>hK _ hH) h
       | own e sz es=>exact ih (fun H hH=>hK _ hH) h
       | ext x=>exact ih (fun H hH=>hK _ hH) h
  exact key (fun H hH=>by rw [hH]) hrow)
 obtain ⟨σ2,β2,hr2,hl2⟩:=hle σ' β' { tmps := #[u],defers:=[] } w' ⟨rfl,rfl,fun i=>by
  match i with
  | 0=>simpa [getS] using hrep
  | i+1=>exact .p (by simpa [getS] using Rep.any _),hrel⟩
 exact ⟨.p (.sl es),u,σ2,β2,H0,he,⟨es,rfl,rfl,hQ⟩,by simpa [getS] using hr2.slots 0,hr2.heap,hlat.trans hl2⟩
theorem x2z (p:Pg) (j:Nat) (f:Pr) (n:Int) (real:AV) (lv:List AV) (hj:p.procs[j]? = some f) (hc:cntP p.procs≤1000) (hn:0≤n∧n≤5000) (l:List Step) (hlen:l.length≤1000000) :
  SpecH Tryz.prog 157 [.ptr 1000 0,.p (QL l)] (w2f p j n real lv) (fun r H => ∃ es,r = .p (.sl es)∧H=w2f p j n real lv∧es=avP (l.map (ixP p j f n))):=by
 refine SpecH.frzret (e:=47) (sz:=2) rfl ?_
 refine SpecH.body DM QQ Tryz.func157 rfl Tryz.call157 (by show 2≤_;decide) ?_
 conv=>whnf
 repeat' (intro (_:_≤9223372036854775807);conv=>whnf)
 have hl:(l.map fun s=>AV.agg s.cells).length=l.length:=List.length_map _
 refine LoopK.inv QQ (fun i:Nat×List (Int×Int)=>⟨[(0,.ptr 1000 0),(5,.hd 0 0 i.2.length),(8,.p (QL l)),(9,.p (.int .i64 (l.map fun s=>AV.agg s.cells).length)),(10,.p (.int .i64 i.1))],(0,.own 47 2 (avP i.2))::w2f p j n real lv⟩)
  (fun i=>i.1≤l.length∧i.2=(l.take i.1).map (ixP p j f n)) (fun i=>l.length-i.1) (0,[])
  (Le.mk [(0,.own 47 2 [])] (by simp [Chunk.new0];rfl) (by simp) (by simp [w2f]) (.cons (.refl _) (.cons (.nil List.mem_cons_self) (.cons (.refl _) (.cons (.refl _) (.cons (.refl _) .nil))))) (.new List.mem_cons_self (.cons rfl (.refl _) (.cons rfl (.refl _) .nil))))
  ⟨Nat.zero_le _,rfl⟩ ?_
 rintro ⟨m,acc⟩ ⟨h2,h3⟩
 simp only at h2 h3 ⊢
 rcases Nat.lt_or_ge m l.length with hm|hm
 rotate_left 1
 ·rw [List.take_of_length_le hm] at h3
  subst h3
  conv=>whnf
  repeat' (refine Br.dec (fun _=>?_) (fun _=>?_)<;>first|(exfalso;omega)|conv=>whnf)
  exact ⟨_,LSub.refl _,avP (l.map (ixP p j f n)),by simp [avP],rfl,rfl⟩
 have hacl:acc.length=m:=by rw [h3];simp;omega
 conv=>whnf
 repeat' (first|((first|refine DrawK.auto QQ mixed (by kernel_rfl) ?_|refine And.intro rfl ?_|(refine And.intro ⟨by decide,by decide⟩ ?_)|refine BsK.pure (fun x hx=>by rcases List.mem_singleton.1 hx with rfl;rfl) rfl ?_|refine IdxK.map (by omega) (fun _=>rfl) ?_|refine Wr.i64 (by omega) (by omega) ?_|refine AppK.mk (by simp [avP]) rfl (by show (acc.length+1)*16≤140737488355328;omega) (by show acc.length+1≤9223372036854775807;omega) (fun x hx=>by rcases List.mem_singleton.1 hx with rfl;exact ⟨rfl,rfl⟩) ?_);conv=>whnf)|(refine Br.dec (fun _=>?_) (fun _=>?_)<;>first|(exfalso;omega)|conv=>whnf)|(refine CallK.heap [(1000,1000),(2000,2000)] 0 (by repeat' (first|exact ArgsH.nil|refine ArgsH.cons ?_ ?_|exact LSub.refl _|exact LSub.p Sub.nils|exact LSub.p (Sub.tt rfl)|exact LSub.p (Sub.ff rfl)|exact LSub.p (Sub.int (by omega)))) (by refine BlksH.cons (j:=1000) rfl rfl ?_ ?_;exact CSub.refl _;refine BlksH.cons (j:=2000) rfl rfl ?_ ?_;exact CSub.refl _;exact BlksH.nil) (x2v p j f n real lv hj hc hn _) rfl rfl ?_;rintro l' H' ⟨rfl,rfl⟩;conv=>whnf))
 exact ⟨(m+1,acc++[ixP p j f n l[m]]),⟨by simp only;omega,by simp only;rw [h3,List.take_succ_eq_append_getElem hm,List.map_append];rfl⟩,by simp only;omega,Le.mk [] (by simp) (by simp) (by simp [w2f]) (.cons (.refl _) (.cons (.of_eq (by simp only [List.length_append];rfl)) (.cons (.refl _) (.cons (.refl _) (.cons (.of_eq rfl) .nil))))) (.cons rfl (.of_eq (by simp only [avP,List.map_append];rfl)) (.cons rfl (.refl _) (.cons rfl (.refl _) .nil)))⟩
theorem x8r {l:List Int} {x:Int} (h:l.Pairwise (· ≤ ·)):(q4q l (l.countP (· < x)) x).Pairwise (· ≤ ·):=by
 induction l with
 | nil=>simp [q4q]
 | cons a r ih =>
   obtain ⟨h1,h2⟩:=List.pairwise_cons.1 h
   by_cases ha:a<x
   ·have e:q4q (a::r) ((a::r).countP (· < x)) x=a::q4q r (r.countP (· < x)) x:=by
     unfold q4q
     rw [List.countP_cons_of_pos (by simpa using ha)]
     rfl
    rw [e,List.pairwise_cons]
    refine ⟨fun b hb => ?_,ih h2⟩
    unfold q4q at hb
    rcases List.mem_append.1 hb with hb|hb
    ·exact h1 b (List.mem_of_mem_take hb)
    ·rcases List.mem_cons.1 hb with rfl|hb
     ·omega
     ·exact h1 b (List.mem_of_mem_drop hb)
   ·have e0:(a::r).countP (· < x)=0:=by
     rw [List.countP_eq_zero]
     intro b hb
     rcases List.mem_cons.1 hb with rfl|hb
     ·simpa using ha
     ·have:=h1 b hb
      simp;omega
    rw [e0]
    show (x::a::r).Pairwise (· ≤ ·)
    refine List.pairwise_cons.2 ⟨fun b hb => ?_,h⟩
    rcases List.mem_cons.1 hb with rfl|hb
    ·omega
    ·have:=h1 b hb
     omega
def q5n (n m:Nat) (N:List (List Int)):Prop:=N.length=n ∧ ∀ r∈N,r.Pairwise (· ≤ ·)∧r.length≤m
theorem x6a {n m:Nat} {N:List (List Int)} (h:q5n n m N) (a:Nat) (b:Int):q5n n (m+1) (x0g N a b):=by
 unfold x0g
 refine ⟨by rw [List.length_set];exact h.1,fun r hr => ?_⟩
 rcases List.mem_or_eq_of_mem_set hr with hr|rfl
 ·obtain ⟨h1,h2⟩:=h.2 r hr
  exact ⟨h1,by omega⟩
 ·rcases Nat.lt_or_ge a N.length with ha|ha
  ·have hm:N.getD a []∈N:=by
    rw [List.getD_eq_getElem?_getD,List.getElem?_eq_getElem ha]
    exact List.getElem_mem ha
   obtain ⟨h1,h2⟩:=h.2 _ hm
   exact ⟨x8r h1,by rw [q5x List.countP_le_length];omega⟩
  ·have:N.getD a []=[]:=by simp [List.getElem?_eq_none ha]
   rw [this]
   exact ⟨by simp [q4q],by simp [q4q]⟩
theorem q9h {n m m':Nat} {N:List (List Int)} (h:q5n n m N) (hm:m≤m'):q5n n m' N:=⟨h.1,fun r hr=>⟨(h.2 r hr).1,Nat.le_trans (h.2 r hr).2 hm⟩⟩
def x4y (n:Nat) (g:List (List Int)×List (List Int)) (e:Int×Int):List (List Int)×List (List Int) :=
 bif WD n e.1&&WD n e.2 && !(g.1.getD e.1.toNat []).contains e.2 then (x0g g.1 e.1.toNat e.2,x0g g.2 e.2.toNat e.1) else g
def XX (n:Nat) (l:List (Int×Int)):List (List Int)×List (List Int):=l.foldl (x4y n) (List.replicate n [],List.replicate n [])
def q8i (m:List (List Int)):AV := .sl ((avI m).map .sl)
def HZ (g:List (List Int)×List (List Int)):AV := .ip [q8i g.1,q8i g.2]
theorem q7s (n:Nat) (g:List (List Int)×List (List Int)) (e:Int×Int):(x4y n g e).1=bif WD n e.1&&WD n e.2 && !(g.1.getD e.1.toNat []).contains e.2 then x0g g.1 e.1.toNat e.2 else g.1:=by
 unfold x4y
 cases WD n e.1&&WD n e.2 && !(g.1.getD e.1.toNat []).contains e.2<;>rfl
theorem x1x (n:Nat) (g:List (List Int)×List (List Int)) (e:Int×Int):(x4y n g e).2=bif WD n e.1&&WD n e.2 && !(g.1.getD e.1.toNat []).contains e.2 then x0g g.2 e.2.toNat e.1 else g.2:=by
 unfold x4y
 cases WD n e.1&&WD n e.2 && !(g.1.getD e.1.toNat []).contains e.2<;>rfl
theorem w1r {n m:Nat} {g:List (List Int)×List (List Int)} (h:q5n n m g.1∧q5n n m g.2) (e:Int×Int):q5n n (m+1) (x4y n g e).1∧q5n n (m+1) (x4y n g e).2:=by
 rw [q7s,x1x]
 cases WD n e.1&&WD n e.2 && !(g.1.getD e.1.toNat []).contains e.2
 ·exact ⟨q9h h.1 (by omega),q9h h.2 (by omega)⟩
 ·exact ⟨x6a h.1 _ _,x6a h.2 _ _⟩
theorem NA {n m:Nat} {l:List (Int×Int)} (hm:m<l.length):XX n (l.take (m+1))=x4y n (XX n (l.take m)) l[m]:=by
 unfold XX
 rw [List.take_succ_eq_append_getElem hm,List.foldl_append]
 rfl
theorem q2y {n:Nat} {l:List (Int×Int)} : ∀ {m:Nat},m≤l.length→q5n n m (XX n (l.take m)).1∧q5n n m (XX n (l.take m)).2
 | 0,_=>by
   have:q5n n 0 (List.replicate n []):=⟨by simp,fun r hr=>by rw [List.eq_of_mem_replicate hr];simp⟩
   exact ⟨this,this⟩
 | m+1,h=>by
   rw [NA h]
   exact w1r (q2y (by omega)) _
theorem x0z {N':Nat} {sl:List (Nat×LV)} (n a b:Nat) (h0:(sl.all fun x=>x.2.xfree 0)=true) (h1:(sl.all fun x=>x.2.xfree 1)=true) :
  Le N' ⟨sl,[(2,.obj 213 [.hd a 0 n,.hd b 0 n]),(1,.own 36 1 (List.replicate n .nils)),(0,.own 36 1 (List.replicate n .nils))]⟩
   ⟨sl,[(2,.obj 213 [.hd a 0 n,.hd b 0 n]),(1,.ext (.mat 36 3 1 (List.replicate n []) [])),(0,.ext (.mat 36 3 1 (List.replicate n []) []))]⟩:=by
 have hm:=Le.toMat (N:=N') (sl:=sl) (H:=[(2,.obj 213 [.hd a 0 n,.hd b 0 n]),(1,.own 36 1 (List.replicate n .nils)),(0,.own 36 1 (List.replicate n .nils))])
  (H':=[(2,.obj 213 [.hd a 0 n,.hd b 0 n]),(1,.own 36 1 (List.replicate n .nils)),(0,.ext (.mat 36 3 1 (List.replicate (List.replicate n AV.nils).length []) []))])
  0 3 1 (e:=36) (es:=List.replicate n .nils) rfl (fun x hx=>List.eq_of_mem_replicate hx) rfl h0 rfl rfl (by simp [GC])
 have hm2:=Le.toMat (N:=N') (sl:=sl) (H:=[(2,.obj 213 [.hd a 0 n,.hd b 0 n]),(1,.own 36 1 (List.replicate n .nils)),(0,.ext (.mat 36 3 1 (List.replicate (List.replicate n AV.nils).length []) []))])
  (H':=[(2,.obj 213 [.hd a 0 n,.hd b 0 n]),(1,.ext (.mat 36 3 1 (List.replicate (List.replicate n AV.nils).length []) [])),(0,.ext (.mat 36 3 1 (List.replicate (List.replicate n AV.nils).length []) []))])
  1 3 1 (e:=36) (es:=List.replicate n .nils) rfl (fun x hx=>List.eq_of_mem_replicate hx) rfl h1 rfl rfl (by simp [GC])
 have:=hm.trans hm2
 simpa using this
theorem x7d (n:Nat) (hn:n≤5000) (l:List (Int×Int)) (hlen:l.length≤1000000):SpecP Tryz.prog 209 [.int .i64 n,.sl (avP l)] (fun r=>r=HZ (XX n l)):=by
 refine SpecP.body x9b QQ Tryz.func209 rfl Tryz.call209 (by show 2≤_;decide) ?_
 conv=>whnf
 repeat' (first|((first|intro (_:_≤9223372036854775807)|refine DrawK.auto QQ mixed (by kernel_rfl) ?_|refine And.intro rfl ?_|(refine And.intro ⟨rfl,rfl,by decide⟩ ?_)|refine MkK.mk n rfl (by show 24*n≤140737488355328;omega) (by unfold maxLen;omega) ?_);conv=>whnf)|(refine Br.dec (fun _=>?_) (fun _=>?_)<;>first|(exfalso;omega)|conv=>whnf)|(refine And.intro ?_ ?_<;>conv=>whnf))
 all_goals have hl:(avP l).length=l.length:=List.length_map _
 ·refine LoopK.inv QQ (fun m:Nat=>⟨[(5,.ptr (0+1+1) 0),(20,.p (.sl (avP l))),(21,.p (.int .i64 (avP l).length)),(22,.p (.int .i64 m))],[(0+1+1,.obj 213 [.hd 0 0 n,.hd (0+1) 0 n]),(0,.ext (.mat 36 3 1 (avI (XX n (l.take m)).1) [])),(0+1,.ext (.mat 36 3 1 (avI (XX n (l.take m)).2) []))]⟩)
   (fun m=>m≤l.length) (fun m=>l.length-m) 0 (by
     refine Le.trans (x0z n _ _ rfl rfl) ?_
     exact Le.mk [] (by simp) (by simp) (by simp) (.cons (.refl _) (.cons (.refl _) (.cons (.refl _) (.cons (.refl _) .nil)))) (.cons rfl (.refl _) (.cons rfl (.of_eq (by simp [avI,XX])) (.cons rfl (.of_eq (by simp [avI,XX])) .nil)))) (Nat.zero_le _) ?_
  rintro m h2
  obtain ⟨g1,g2⟩:=q2y (n:=n) h2
  rcases Nat.lt_or_ge m l.length with hm|hm
  ·have hme:(avP l)[m]? = some (.agg [.int .i64 l[m].1,.int .i64 l[m].2]):=by simp [avP,hm]
   conv=>whnf
   repeat' (first|((first|refine And.intro rfl ?_|refine Wr.i64 (by omega) (by omega) ?_|(refine IdxK.at rfl hme rfl ?_)|refine IdxL.mk 0 rfl (by decide) ?_|refine IdxL.mk 1 rfl (by decide) ?_);conv=>whnf)|(refine Br.dec (fun _=>?_) (fun _=>?_)<;>first|(exfalso;omega)|conv=>whnf)|(refine CallK.heap [(1000,0+1+1),(2001,0),(2002,1)] 0 (by repeat' (first|exact ArgsH.nil|refine ArgsH.cons ?_ ?_|exact LSub.refl _|exact LSub.p Sub.nils|exact LSub.p (Sub.tt rfl)|exact LSub.p (Sub.ff rfl)|exact LSub.p (Sub.int (by omega)))) (by refine BlksH.cons (j:=2) rfl rfl ?_ ?_;exact CSub.refl _;refine BlksH.cons (j:=0) rfl rfl ?_ ?_;exact CSub.refl _;refine BlksH.cons (j:=1) rfl rfl ?_ ?_;exact CSub.refl _;exact BlksH.nil) (x5c n _ _ l[m].1 l[m].2 g1.1 g2.1 hn (fun r hr=>⟨(g1.2 r hr).1,by have:=(g1.2 r hr).2;omega⟩) (fun r hr=>⟨(g2.2 r hr).1,by have:=(g2.2 r hr).2;omega⟩)) rfl rfl ?_;rintro l' H' ⟨t,rfl,rfl⟩;conv=>whnf))
   exact ⟨m+1,hm,by omega,Le.of_eq (by rw [NA hm,q7s,x1x];rfl)⟩
  ·rw [List.take_of_length_le hm] at g1 g2 ⊢
   conv=>whnf
   repeat' (refine Br.dec (fun _=>?_) (fun _=>?_)<;>first|(exfalso;omega)|conv=>whnf)
   exact ⟨_,.ptr (cs:=[q8i (XX n l).1,q8i (XX n l).2]) rfl rfl (fun i x c h1 h3=>by
    match i,h1,h3 with
    | 0,h1,h3=>cases h1;cases h3;exact .mat rfl (by rw [avI,List.length_map,g1.1])
    | 1,h1,h3=>cases h1;cases h3;exact .mat rfl (by rw [avI,List.length_map,g2.1])),rfl⟩
 ·refine LoopK.inv QQ (fun m:Nat=>⟨[(5,.ptr (0+1+1) 0),(20,.p (.sl (avP l))),(21,.p (.int .i64 (avP l).length)),(22,.p (.int .i64 m))],[(0+1+1,.obj 213 [.hd (0+1) 0 n,.hd 0 0 n]),(0+1,.ext (.mat 36 3 1 (avI (XX n (l.take m)).1) [])),(0,.ext (.mat 36 3 1 (avI (XX n (l.take m)).2) []))]⟩)
   (fun m=>m≤l.length) (fun m=>l.length-m) 0 (by
     refine Le.trans (x0z n _ _ rfl rfl) ?_
     exact Le.mk [] (by simp) (by simp) (by simp) (.cons (.refl _) (.cons (.refl _) (.cons (.refl _) (.cons (.refl _) .nil)))) (.cons rfl (.refl _) (.cons rfl (.of_eq (by simp [avI,XX])) (.cons rfl (.of_eq (by simp [avI,XX])) .nil)))) (Nat.zero_le _) ?_
  rintro m h2
  obtain ⟨g1,g2⟩:=q2y (n:=n) h2
  rcases Nat.lt_or_ge m l.length with hm|hm
  ·have hme:(avP l)[m]? = some (.agg [.int .i64 l[m].1,.int .i64 l[m].2]):=by simp [avP,hm]
   conv=>whnf
   repeat' (first|((first|refine And.intro rfl ?_|refine Wr.i64 (by omega) (by omega) ?_|(refine IdxK.at rfl hme rfl ?_)|refine IdxL.mk 0 rfl (by decide) ?_|refine IdxL.mk 1 rfl (by decide) ?_);conv=>whnf)|(refine Br.dec (fun _=>?_) (fun _=>?_)<;>first|(exfalso;omega)|conv=>whnf)|(refine CallK.heap [(1000,0+1+1),(2001,1),(2002,0)] 0 (by repeat' (first|exact ArgsH.nil|refine ArgsH.cons ?_ ?_|exact LSub.refl _|exact LSub.p Sub.nils|exact LSub.p (Sub.tt rfl)|exact LSub.p (Sub.ff rfl)|exact LSub.p (Sub.int (by omega)))) (by refine BlksH.cons (j:=2) rfl rfl ?_ ?_;exact CSub.refl _;refine BlksH.cons (j:=1) rfl rfl ?_ ?_;exact CSub.refl _;refine BlksH.cons (j:=0) rfl rfl ?_ ?_;exact CSub.refl _;exact BlksH.nil) (x5c n _ _ l[m].1 l[m].2 g1.1 g2.1 hn (fun r hr=>⟨(g1.2 r hr).1,by have:=(g1.2 r hr).2;omega⟩) (fun r hr=>⟨(g2.2 r hr).1,by have:=(g2.2 r hr).2;omega⟩)) rfl rfl ?_;rintro l' H' ⟨t,rfl,rfl⟩;conv=>whnf))
   exact ⟨m+1,hm,by omega,Le.of_eq (by rw [NA hm,q7s,x1x];rfl)⟩
  ·rw [List.take_of_length_le hm] at g1 g2 ⊢
   conv=>whnf
   repeat' (refine Br.dec (fun _=>?_) (fun _=>?_)<;>first|(exfalso;omega)|conv=>whnf)
   exact ⟨_,.ptr (cs:=[q8i (XX n l).1,q8i (XX n l).2]) rfl rfl (fun i x c h1 h3=>by
    match i,h1,h3 with
    | 0,h1,h3=>cases h1;cases h3;exact .mat rfl (by rw [avI,List.length_map,g1.1])
    | 1,h1,h3=>cases h1;cases h3;exact .mat rfl (by rw [avI,List.length_map,g2.1])),rfl⟩
open Go.Proofs
def KU (st:List Bool×List Int) (b:Int):List Bool×List Int:=bif st.1.getD b.toNat false then st else (st.1.set b.toNat true,st.2++[b])
def XO (rows:List (List Int)):Nat→Nat→List Bool×List Int→List Bool×List Int
 | 0,_,st=>st
 | k+1,i,st=>match st.2[i]? with
   | some a=>XO rows k (i+1) ((rows.getD a.toNat []).foldl KU st)
   | none=>st
def wkInv (n:Nat) (st:List Bool×List Int):Prop:=st.1.length=n∧st.2.length≤st.1.count true ∧ ∀ x∈st.2,0≤x∧x<n
theorem q1n {n:Nat} {st:List Bool×List Int} (h:wkInv n st) {b:Int} (hb:0≤b∧b<n):wkInv n (KU st b):=by
 unfold KU
 obtain ⟨h1,h2,h3⟩:=h
 have hlt:b.toNat<st.1.length:=by omega
 cases hs:st.1.getD b.toNat false with
 | true=>exact ⟨h1,h2,h3⟩
 | false =>
   have hg:st.1[b.toNat]=false:=by simpa [hlt] using hs
   refine ⟨by simpa using h1,?_,fun x hx => ?_⟩
   ·simp only [cond_false,List.length_append,List.length_singleton]
    rw [List.count_set hlt,hg]
    simp
    omega
   ·rcases List.mem_append.1 hx with hx|hx
    ·exact h3 x hx
    ·rw [List.mem_singleton.1 hx];exact hb
theorem z8a {n:Nat} {l:List Int} : ∀ {st:List Bool×List Int},wkInv n st→(∀ b∈l,0≤b∧b<n)→wkInv n (l.foldl KU st):=by
 induction l with
 | nil=>intro st h _;exact h
 | cons b r ih=>intro st h hl;exact ih (q1n h (hl b List.mem_cons_self)) fun c hc=>hl c (List.mem_cons_of_mem _ hc)
theorem BF {n:Nat} {st:List Bool×List Int} (h:wkInv n st):st.2.length≤n:=by
 refine Nat.le_trans h.2.1 ?_
 rw [← h.1]
 exact List.count_le_length
def XG (n:Nat) (rows:List (List Int)):Prop:=rows.length=n ∧ ∀ r∈rows,∀ b∈r,0≤b∧b<n
def w0z (st:List Bool×List Int):Heap:=[(1000,.own 4 1 (st.1.map bv)),(2000,.own 3 1 (st.2.map (.int .i64)))]
theorem x1z (n:Nat) (hn:n≤5000) (rows:List (List Int)) (hr:XG n rows) (st:List Bool×List Int) (hs:wkInv n st) :
  SpecH Tryz.prog 211 [.p (q8i rows),.hd 1000 0 n,.hd 2000 0 st.2.length] (w0z st) (fun r H=>r = .hd 2000 0 (XO rows (n+1) 0 st).2.length∧H=w0z (XO rows (n+1) 0 st)):=by
 refine SpecH.body x4g QQ Tryz.func211 rfl Tryz.call211 (by show 3≤_;decide) ?_
 conv=>whnf
 skip
 refine LoopK.inv QQ (fun x:Nat×List Bool×List Int=>⟨[(0,.p (q8i rows)),(1,.hd 1000 0 n),(2,.hd 2000 0 x.2.2.length),(7,.p (.int .i64 x.1))],w0z x.2⟩)
  (fun x=>wkInv n x.2∧x.1≤x.2.2.length∧XO rows (n+1-x.1) x.1 x.2=XO rows (n+1) 0 st) (fun x=>n-x.1) (0,st) (Le.of_eq rfl) ⟨hs,Nat.zero_le _,rfl⟩ ?_
 rintro ⟨i,seen,todo⟩ ⟨h1,h2,h3⟩
 simp only at h1 h2 h3 ⊢
 have hle:=BF h1
 simp only at hle
 rw [show n+1-i=n-i+1 by omega,XO] at h3
 rcases Nat.lt_or_ge i todo.length with hi|hi
 rotate_left 1
 ·simp only [List.getElem?_eq_none hi] at h3
  conv=>whnf
  repeat' (first|(intro (_:_≤9223372036854775807);conv=>whnf)|(refine Br.dec (fun _=>?_) (fun _=>?_)<;>first|(exfalso;omega)|conv=>whnf))
  exact ⟨_,LSub.of_eq (by rw [← h3]),rfl,by rw [← h3];rfl⟩
 simp only [List.getElem?_eq_getElem hi] at h3
 have hx:=h1.2.2 _ (List.getElem_mem hi)
 have hxr:todo[i].toNat<rows.length:=by rw [hr.1];omega
 have hrow:((avI rows).map AV.sl)[todo[i].toNat]? = some (.sl (rows[todo[i].toNat].map (.int .i64))):=by simp [avI,hxr]
 have hgd:rows.getD todo[i].toNat []=rows[todo[i].toNat]:=by simp [hxr]
 rw [hgd] at h3
 have hrin:=hr.2 _ (List.getElem_mem hxr)
 conv=>whnf
 repeat' (first|((first|intro (_:_≤9223372036854775807)|refine And.intro rfl ?_|refine IdxL.mk i (by omega) (by omega) ?_|refine LdOwn.mk i 0 (.int .i64 todo[i]) (by omega) (by simp [hi]) ?_|(refine IdxK.at (by omega) hrow rfl ?_));conv=>whnf)|(refine Br.dec (fun _=>?_) (fun _=>?_)<;>first|(exfalso;omega)|conv=>whnf))
 have hrb:(rows[todo[i].toNat].map (AV.int .i64)).length≤9223372036854775807:=by assumption
 generalize rows[todo[i].toNat]=row at hrin h3 hrb ⊢
 have hrl:(row.map (AV.int .i64)).length=row.length:=List.length_map _
 refine LoopK.inv QQ (fun x:Nat×List Bool×List Int=>⟨[(0,.p (q8i rows)),(1,.hd 1000 0 n),(2,.hd 2000 0 x.2.2.length),(7,.p (.int .i64 i)),(22,.p (.sl (row.map (.int .i64)))),(23,.p (.int .i64 (row.map (AV.int .i64)).length)),(24,.p (.int .i64 x.1))],w0z x.2⟩)
  (fun x=>wkInv n x.2∧todo.length≤x.2.2.length∧x.1≤row.length∧XO rows (n-i) (i+1) ((row.drop x.1).foldl KU x.2)=XO rows (n+1) 0 st) (fun x=>row.length-x.1) (0,seen,todo) (Le.of_eq rfl) ⟨h1,Nat.le_refl _,Nat.zero_le _,h3⟩ ?_
 rintro ⟨q,s2,t2⟩ ⟨h4,h5,h6,h7⟩
 simp only at h4 h5 h6 h7 ⊢
 have hle2:=BF h4
 simp only at hle2
 rcases Nat.lt_or_ge q row.length with hq|hq
 rotate_left 1
 ·rw [List.drop_eq_nil_of_le hq] at h7
  conv=>whnf
  repeat' (first|(refine Wr.i64 (by omega) (by omega) ?_;conv=>whnf)|(refine Br.dec (fun _=>?_) (fun _=>?_)<;>first|(exfalso;omega)|conv=>whnf))
  exact ⟨(i+1,s2,t2),⟨h4,by simp only;omega,by simp only;rw [show n+1-(i+1)=n-i by omega];exact h7⟩,by simp only;omega,Le.of_eq rfl⟩
 rw [List.drop_eq_getElem_cons hq,List.foldl_cons] at h7
 have hb:=hrin _ (List.getElem_mem hq)
 have h8:=q1n h4 hb
 have hbl:row[q].toNat<s2.length:=by have:=h4.1;simp only at this;omega
 cases hsb:s2.getD row[q].toNat false with
 | true =>
   have e1:KU (s2,t2) row[q]=(s2,t2):=by unfold KU;simp only [hsb,cond_true]
   have e2:(s2.map bv)[row[q].toNat]? = some .tt:=by
    have:s2[row[q].toNat]=true:=by simpa [hbl] using hsb
    simp [hbl,this,bv]
   rw [e1] at h7
   conv=>whnf
   repeat' (first|((first|refine And.intro rfl ?_|refine IdxK.map (by omega) (fun _=>rfl) ?_|refine Wr.i64 (by omega) (by omega) ?_|refine IdxL.mk row[q].toNat (by omega) (by have:=h4.1;simp only at this;omega) ?_|refine LdOwn.mk row[q].toNat 0 .tt (by omega) e2 ?_);conv=>whnf)|(refine Br.dec (fun _=>?_) (fun _=>?_)<;>first|(exfalso;omega)|conv=>whnf))
   all_goals exact ⟨(q+1,s2,t2),⟨h4,h5,by simp only;omega,h7⟩,by simp only;omega,Le.of_eq rfl⟩
 | false =>
   have e1:KU (s2,t2) row[q]=(s2.set row[q].toNat true,t2++[row[q]]):=by unfold KU;simp only [hsb,cond_false]
   have e2:(s2.map bv)[row[q].toNat]? = some .ff:=by
    have:s2[row[q].toNat]=false:=by simpa [hbl] using hsb
    simp [hbl,this,bv]
   rw [e1] at h7 h8
   conv=>whnf
   repeat' (first|((first|refine And.intro rfl ?_|(refine And.intro ⟨by decide,by decide⟩ ?_)|refine BsK.pure (fun x hx=>by rcases List.mem_singleton.1 hx with rfl;rfl) rfl ?_|refine IdxK.map (by omega) (fun _=>rfl) ?_|refine Wr.i64 (by omega) (by omega) ?_|refine IdxL.mk row[q].toNat (by omega) (by have:=h4.1;simp only at this;omega) ?_|refine LdOwn.mk row[q].toNat 0 .ff (by omega) e2 ?_|refine StOwn.mk row[q].toNat 0 .ff .tt (by omega) e2 (Nat.le_refl 1) rfl ?_|refine AppK.int1 (by simp) (by simp;omega) ?_);conv=>whnf)|(refine Br.dec (fun _=>?_) (fun _=>?_)<;>first|(exfalso;omega)|conv=>whnf))
   all_goals exact ⟨(q+1,s2.set row[q].toNat true,t2++[row[q]]),⟨h8,by simp;omega,by simp only;omega,h7⟩,by simp only;omega,Le.of_eq (by simp only [w0z,List.length_append,List.map_append,List.map_set];rfl)⟩
open Go.Proofs
def NJ:Nat→List Bool→List Int
 | _,[]=>[]
 | i,b::r=>bif b then (i:Int)::NJ (i+1) r else NJ (i+1) r
theorem x5j (seen:List Bool) (hn:seen.length≤1000000) :
  SpecH Tryz.prog 212 [.hd 1000 0 seen.length] [(1000,.own 4 1 (seen.map bv))] (fun r H => ∃ es,r = .p (.sl es)∧H=[(1000,.own 4 1 (seen.map bv))]∧es=(NJ 0 seen).map (.int .i64)):=by
 refine SpecH.frzret (e:=3) (sz:=1) rfl ?_
 refine SpecH.body q9u QQ Tryz.func212 rfl Tryz.call212 (by show 1≤_;decide) ?_
 conv=>whnf
 repeat' (intro (_:_≤9223372036854775807);conv=>whnf)
 refine LoopK.inv QQ (fun i:Nat×List Int=>⟨[(3,.hd 0 0 i.2.length),(6,.hd 1000 0 seen.length),(7,.p (.int .i64 seen.length)),(8,.p (.int .i64 i.1))],[(0,.own 3 1 (i.2.map (.int .i64))),(1000,.own 4 1 (seen.map bv))]⟩)
  (fun i=>i.1≤seen.length∧i.2.length≤i.1∧i.2++NJ i.1 (seen.drop i.1)=NJ 0 seen) (fun i=>seen.length-i.1) (0,[])
  (Le.mk [(0,.own 3 1 [])] (by simp [Chunk.new0];rfl) (by simp) (by simp) (.cons (.nil List.mem_cons_self) (.cons (.refl _) (.cons (.refl _) (.cons (.refl _) .nil)))) (.new List.mem_cons_self (.cons rfl (.refl _) .nil)))
  ⟨Nat.zero_le _,Nat.le_refl _,rfl⟩ ?_
 rintro ⟨m,acc⟩ ⟨h2,h3,h4⟩
 simp only at h2 h3 h4 ⊢
 rcases Nat.lt_or_ge m seen.length with hm|hm
 rotate_left 1
 ·rw [List.drop_eq_nil_of_le hm,NJ,List.append_nil] at h4
  subst h4
  conv=>whnf
  repeat' (refine Br.dec (fun _=>?_) (fun _=>?_)<;>first|(exfalso;omega)|conv=>whnf)
  exact ⟨_,LSub.refl _,(NJ 0 seen).map (.int .i64),by simp,rfl,rfl⟩
 rw [List.drop_eq_getElem_cons hm,NJ] at h4
 cases hsb:seen[m] with
 | true =>
   rw [hsb,cond_true] at h4
   have e2:(seen.map bv)[m]? = some .tt:=by simp [hm,hsb,bv]
   conv=>whnf
   repeat' (first|((first|refine And.intro rfl ?_|(refine And.intro ⟨by decide,by decide⟩ ?_)|refine BsK.pure (fun x hx=>by rcases List.mem_singleton.1 hx with rfl;rfl) rfl ?_|refine Wr.i64 (by omega) (by omega) ?_|refine IdxL.mk m rfl hm ?_|refine LdOwn.mk m 0 .tt (by omega) e2 ?_|refine AppK.int1 (by simp) (by simp;omega) ?_);conv=>whnf)|(refine Br.dec (fun _=>?_) (fun _=>?_)<;>first|(exfalso;omega)|conv=>whnf))
   exact ⟨(m+1,acc++[(m:Int)]),⟨by simp only;omega,by simp;omega,by simpa using h4⟩,by simp only;omega,Le.of_eq (by simp only [List.length_append,List.map_append];rfl)⟩
 | false =>
   rw [hsb,cond_false] at h4
   have e2:(seen.map bv)[m]? = some .ff:=by simp [hm,hsb,bv]
   conv=>whnf
   repeat' (first|((first|refine And.intro rfl ?_|refine Wr.i64 (by omega) (by omega) ?_|refine IdxL.mk m rfl hm ?_|refine LdOwn.mk m 0 .ff (by omega) e2 ?_);conv=>whnf)|(refine Br.dec (fun _=>?_) (fun _=>?_)<;>first|(exfalso;omega)|conv=>whnf))
   exact ⟨(m+1,acc),⟨by simp only;omega,by simp only;omega,h4⟩,by simp only;omega,Le.of_eq rfl⟩
theorem q8v (g:List (List Int)×List (List Int)) (a:Int):SpecP Tryz.prog 210 [HZ g,.int .i64 a] (fun r=>r = .bool (WD g.1.length a)):=by
 refine SpecP.body GE QQ Tryz.func210 rfl Tryz.call210 (by show 2≤_;decide) ?_
 conv=>whnf
 repeat' (first|(intro (_:_≤9223372036854775807);conv=>whnf)|(refine Br.dec (fun _=>?_) (fun _=>?_)<;>first|(exfalso;omega)|conv=>whnf))
 all_goals have hl:((avI g.1).map AV.sl).length=g.1.length:=by simp [avI]
 all_goals first
  | exact RetK.bool (by unfold WD;simp [*];done)
  | exact RetK.ff (by unfold WD;simp;omega)
 all_goals trace_state
def DK (n:Nat) (l:List Int):List Bool×List Int:=l.foldl (fun st a=>bif WD n a then KU st a else st) (List.replicate n false,[])
def VU (rows:List (List Int)) (l:List Int):List Bool:=(XO rows (rows.length+1) 0 (DK rows.length l)).1
theorem LW (n:Nat):wkInv n (List.replicate n false,[]):=⟨by simp,by simp [List.count_replicate],by simp⟩
theorem BW {n:Nat} {rows:List (List Int)} (hr:XG n rows) : ∀ (k i:Nat) {st:List Bool×List Int},wkInv n st→wkInv n (XO rows k i st)
 | 0,_,_,h=>h
 | k+1,i,st,h=>by
   rw [XO]
   split
   ·rename_i a ha
    have hx:=h.2.2 a (List.mem_of_getElem? ha)
    refine BW hr k (i+1) (z8a h ?_)
    have hlt:a.toNat<rows.length:=by rw [hr.1];omega
    rw [List.getD_eq_getElem?_getD,List.getElem?_eq_getElem hlt]
    exact hr.2 _ (List.getElem_mem hlt)
   ·exact h
theorem ZN {n:Nat} {a:Int} (h:WD n a=true):0≤a∧a<n:=by
 unfold WD at h
 simpa using h
theorem q1s (n:Nat) (hn:n≤5000) (g:List (List Int)×List (List Int)) (hg:XG n g.1) (l:List Int) (hlen:l.length≤1000000):SpecP Tryz.prog 151 [HZ g,QF l] (fun r=>r=QF (NJ 0 (VU g.1 l))):=by
 refine SpecP.body MP QQ Tryz.func151 rfl Tryz.call151 (by show 2≤_;decide) ?_
 conv=>whnf
 have hl:((avI g.1).map AV.sl).length=n:=by simp [avI,hg.1]
 repeat' ((first|intro (_:_≤9223372036854775807)|(refine And.intro ⟨rfl,rfl,by decide⟩ ?_)|refine MkK.mk n (by rw [hl]) (by show 1*n≤140737488355328;omega) (by unfold maxLen;omega) ?_);conv=>whnf)
 have hll:(l.map (AV.int .i64)).length=l.length:=List.length_map _
 refine LoopK.inv QQ (fun x:Nat×List Bool×List Int=>⟨[(0,.p (HZ g)),(5,.hd 0 0 n),(6,.hd 1 0 x.2.2.length),(17,.p (QF l)),(18,.p (.int .i64 (l.map (AV.int .i64)).length)),(19,.p (.int .i64 x.1))],[(0,.own 4 1 (x.2.1.map bv)),(1,.own 3 1 (x.2.2.map (.int .i64)))]⟩)
  (fun x=>x.1≤l.length∧wkInv n x.2∧(l.drop x.1).foldl (fun st a=>bif WD n a then KU st a else st) x.2=DK n l) (fun x=>l.length-x.1) (0,List.replicate n false,[])
  (Le.mk [(1,.own 3 1 [])] (by simp [Chunk.new0];rfl) (by simp) (by simp) (.cons (.refl _) (.cons (.refl _) (.cons (.nil List.mem_cons_self) (.cons (.refl _) (.cons (.refl _) (.cons (.refl _) .nil)))))) (.cons rfl (.of_eq (by rw [List.map_replicate];rfl)) (.new List.mem_cons_self .nil)))
  ⟨Nat.zero_le _,LW n,rfl⟩ ?_
 rintro ⟨m,seen,todo⟩ ⟨h2,h3,h4⟩
 simp only at h2 h3 h4 ⊢
 have hsl:seen.length=n:=h3.1
 have htl:todo.length≤n:=BF h3
 rcases Nat.lt_or_ge m l.length with hm|hm
 rotate_left 1
 ·rw [List.drop_eq_nil_of_le hm,List.foldl_nil] at h4
  conv=>whnf
  repeat' (first|(refine Br.dec (fun _=>?_) (fun _=>?_)<;>first|(exfalso;omega)|conv=>whnf)|(refine CallK.heap [(1000,0),(2000,1)] 0 (by repeat' (first|exact ArgsH.nil|refine ArgsH.cons ?_ ?_|exact LSub.refl _|exact LSub.p Sub.nils|exact LSub.p (Sub.tt rfl)|exact LSub.p (Sub.ff rfl)|exact LSub.p (Sub.int (by omega)))) (by refine BlksH.cons (j:=0) rfl rfl ?_ ?_;exact CSub.refl _;refine BlksH.cons (j:=1) rfl rfl ?_ ?_;exact CSub.refl _;exact BlksH.nil) (x1z n hn g.1 hg (seen,todo) h3) rfl rfl ?_;rintro l' H' ⟨rfl,rfl⟩;conv=>whnf))
  have hwl:(XO g.1 (n+1) 0 (seen,todo)).1.length=n:=(BW hg _ _ h3).1
  refine CallK.heap [(1000,0)] 0 (ArgsH.cons (LSub.of_eq (by rw [hwl];rfl)) ArgsH.nil) (by refine BlksH.cons (j:=0) rfl rfl ?_ ?_;exact CSub.refl _;exact BlksH.nil) (x5j (XO g.1 (n+1) 0 (seen,todo)).1 (by omega)) rfl rfl ?_
  rintro l' H' ⟨es,rfl,rfl,rfl⟩
  conv=>whnf
  skip
  exact RetK.p (by unfold QF VU;rw [hg.1,← h4])
 rw [List.drop_eq_getElem_cons hm,List.foldl_cons] at h4
 have hhas:SpecP Tryz.prog 210 [HZ g,.int .i64 l[m]] (fun r=>r = .bool (WD n l[m])):=by
  have:=q8v g l[m]
  rwa [hg.1] at this
 cases hsb:seen.getD l[m].toNat false with
 | true =>
   have e1:(bif WD n l[m] then KU (seen,todo) l[m] else (seen,todo))=(seen,todo):=by unfold KU;simp only [hsb,cond_true];cases WD n l[m]<;>rfl
   have e2:WD n l[m]=true→(seen.map bv)[l[m].toNat]? = some .tt:=fun h=>by
    have hb:=ZN h
    have hlt:l[m].toNat<seen.length:=by omega
    have:seen[l[m].toNat]=true:=by simpa [hlt] using hsb
    simp [hlt,this,bv]
   rw [e1] at h4
   conv=>whnf
   repeat' (first|((first|refine And.intro rfl ?_|refine IdxK.map (by omega) (fun _=>rfl) ?_|refine Wr.i64 (by omega) (by omega) ?_|(refine CallK.pure hhas (.cons (Sub.refl _) (.cons (Sub.refl _) .nil)) ?_;rintro _ rfl)|refine IdxL.mk l[m].toNat (by have:=ZN (by assumption);omega) (by have:=ZN (by assumption);omega) ?_|refine LdOwn.mk l[m].toNat 0 .tt (by omega) (e2 (by assumption)) ?_);conv=>whnf)|(refine Br.dec (fun _=>?_) (fun _=>?_)<;>first|(exfalso;omega)|conv=>whnf)|(refine Br.b (fun _=>?_) (fun _=>?_)<;>conv=>whnf))
   all_goals exact ⟨(m+1,seen,todo),⟨by simp only;omega,h3,h4⟩,by simp only;omega,Le.of_eq rfl⟩
 | false =>
   have e2:WD n l[m]=true→(seen.map bv)[l[m].toNat]? = some .ff:=fun h=>by
    have hb:=ZN h
    have hlt:l[m].toNat<seen.length:=by omega
    have:seen[l[m].toNat]=false:=by simpa [hlt] using hsb
    simp [hlt,this,bv]
   conv=>whnf
   repeat' (first|((first|refine And.intro rfl ?_|(refine And.intro ⟨by decide,by decide⟩ ?_)|refine BsK.pure (fun x hx=>by rcases List.mem_singleton.1 hx with rfl;rfl) rfl ?_|refine IdxK.map (by omega) (fun _=>rfl) ?_|refine Wr.i64 (by omega) (by omega) ?_|(refine CallK.pure hhas (.cons (Sub.refl _) (.cons (Sub.refl _) .nil)) ?_;rintro _ rfl)|refine IdxL.mk l[m].toNat (by have:=ZN (by assumption);omega) (by have:=ZN (by assumption);omega) ?_|refine LdOwn.mk l[m].toNat 0 .ff (by omega) (e2 (by assumption)) ?_|refine StOwn.mk l[m].toNat 0 .ff .tt (by omega) (e2 (by assumption)) (Nat.le_refl 1) rfl ?_|refine AppK.int1 (by simp) (by simp;omega) ?_);conv=>whnf)|(refine Br.dec (fun _=>?_) (fun _=>?_)<;>first|(exfalso;omega)|conv=>whnf)|(refine Br.b (fun _=>?_) (fun _=>?_)<;>conv=>whnf))
   ·have hh:WD n l[m]=true:=by assumption
    have e1:(bif WD n l[m] then KU (seen,todo) l[m] else (seen,todo))=(seen.set l[m].toNat true,todo++[l[m]]):=by unfold KU;simp only [hsb,hh,cond_true,cond_false]
    have h8:=q1n h3 (ZN hh)
    rw [e1] at h4
    have e3:KU (seen,todo) l[m]=(seen.set l[m].toNat true,todo++[l[m]]):=by unfold KU;simp only [hsb,cond_false]
    rw [e3] at h8
    exact ⟨(m+1,seen.set l[m].toNat true,todo++[l[m]]),⟨by simp only;omega,h8,h4⟩,by simp only;omega,Le.of_eq (by simp only [List.length_append,List.map_append,List.map_set];rfl)⟩
   ·have hh:WD n l[m]=false:=by assumption
    have e1:(bif WD n l[m] then KU (seen,todo) l[m] else (seen,todo))=(seen,todo):=by rw [hh];rfl
    rw [e1] at h4
    exact ⟨(m+1,seen,todo),⟨by simp only;omega,h3,h4⟩,by simp only;omega,Le.of_eq rfl⟩
open Go.Proofs
theorem x1k (w:Way) (f:Pr) (n:Nat) (hw:w.n=n) (hj:w.p.procs[w.j]? = some f) (hc:cntP w.p.procs≤1000) (hn:n≤5000) (l:List Step) (hlen:l.length≤1000000):SpecP Tryz.prog 150 [.ip w.cells,QL l] (fun r=>r=HZ (XX n (l.map (ixP w.p w.j f w.n)))):=by
 refine SpecP.body BN QQ Tryz.func150 rfl Tryz.call150 (by show 2≤_;decide) ?_
 conv=>whnf
 repeat' ((first|refine DrawK.auto QQ mixed (by kernel_rfl) ?_|(refine CallK.pure (YH w f hj hc (by omega) l hlen) (.cons (Sub.refl _) (.cons (Sub.refl _) .nil)) ?_;rintro _ rfl)|(refine CallK.pure (x7d n hn (l.map (ixP w.p w.j f w.n)) (by rw [List.length_map];exact hlen)) (.cons (Sub.int hw) (.cons (Sub.refl _) .nil)) ?_;rintro _ rfl));conv=>whnf)
 exact RetK.p rfl
theorem x1d (p:Pg) (j:Nat) (f:Pr) (n:Nat) (real:AV) (lv:List AV) (hj:p.procs[j]? = some f) (hc:cntP p.procs≤1000) (hn:n≤5000) (l:List Step) (hlen:l.length≤1000000) :
  SpecH Tryz.prog 150 [.ptr 1000 0,.p (QL l)] (w2f p j n real lv) (fun r H=>r = .p (HZ (XX n (l.map (ixP p j f n))))∧H=w2f p j n real lv):=by
 refine SpecH.body BN QQ Tryz.func150 rfl Tryz.call150 (by show 2≤_;decide) ?_
 conv=>whnf
 refine DrawK.of QQ mixed (.cons 0 false (.cons 1 false (.cons 2 false (.cons 4 false (.cons 5 false (.fork 3 (.cons 6 true (.cons 7 true (.cons 8 true .nil))) 6 (.cons 3 true (.cons 7 true (.cons 8 true .nil))))))))) (by kernel_rfl) ?_
 conv=>whnf
 repeat' (first|(refine CallK.pure (x7d n hn (l.map (ixP p j f n)) (by rw [List.length_map];exact hlen)) (.cons (Sub.refl _) (.cons (Sub.refl _) .nil)) ?_;rintro _ rfl;conv=>whnf)|(refine And.intro ?_ ?_<;>conv=>whnf)|(refine CallK.heap [(1000,1000),(2000,2000)] 0 (by repeat' (first|exact ArgsH.nil|refine ArgsH.cons ?_ ?_|exact LSub.refl _|exact LSub.p Sub.nils|exact LSub.p (Sub.tt rfl)|exact LSub.p (Sub.ff rfl)|exact LSub.p (Sub.int (by omega)))) (by refine BlksH.cons (j:=1000) rfl rfl ?_ ?_;exact CSub.refl _;refine BlksH.cons (j:=2000) rfl rfl ?_ ?_;exact CSub.refl _;exact BlksH.nil) (x2z p j f n real lv hj hc (by omega) l hlen) rfl rfl ?_;rintro l' H' ⟨es,rfl,rfl,rfl⟩;conv=>whnf))
 all_goals exact ⟨_,LSub.refl _,rfl,rfl⟩
theorem q9i {n:Nat} {N:List (List Int)} (h:XG n N) {a:Nat} {b:Int} (hb:0≤b∧b<n):XG n (x0g N a b):=by
 unfold x0g
 refine ⟨by rw [List.length_set];exact h.1,fun r hr x hx => ?_⟩
 rcases List.mem_or_eq_of_mem_set hr with hr|rfl
 ·exact h.2 r hr x hx
 ·unfold q4q at hx
  have hg : ∀ y∈N.getD a [],0≤y∧y<n:=fun y hy=>by
   rcases Nat.lt_or_ge a N.length with ha|ha
   ·rw [List.getD_eq_getElem?_getD,List.getElem?_eq_getElem ha] at hy
    exact h.2 _ (List.getElem_mem ha) y hy
   ·rw [List.getD_eq_getElem?_getD,List.getElem?_eq_none ha] at hy
    cases hy
  rcases List.mem_append.1 hx with hx|hx
  ·exact hg x (List.mem_of_mem_take hx)
  ·rcases List.mem_cons.1 hx with rfl|hx
   ·exact hb
   ·exact hg x (List.mem_of_mem_drop hx)
theorem w5r {n:Nat} {g:List (List Int)×List (List Int)} (h:XG n g.1∧XG n g.2) (e:Int×Int):XG n (x4y n g e).1∧XG n (x4y n g e).2:=by
 rw [q7s,x1x]
 cases hc:WD n e.1&&WD n e.2 && !(g.1.getD e.1.toNat []).contains e.2
 ·exact h
 ·simp only [Bool.and_eq_true] at hc
  exact ⟨q9i h.1 (ZN hc.1.2),q9i h.2 (ZN hc.1.1)⟩
theorem w2p {n:Nat} (l:List (Int×Int)) : ∀ {g:List (List Int)×List (List Int)},XG n g.1∧XG n g.2→XG n (l.foldl (x4y n) g).1∧XG n (l.foldl (x4y n) g).2:=by
 induction l with
 | nil=>intro g h;exact h
 | cons e r ih=>intro g h;exact ih (w5r h e)
theorem DY (n:Nat) (l:List (Int×Int)):XG n (XX n l).1∧XG n (XX n l).2:=by
 have h0:XG n (List.replicate n []):=⟨by simp,fun r hr=>by rw [List.eq_of_mem_replicate hr];simp⟩
 exact w2p l ⟨h0,h0⟩
theorem Wr.eq {n m:Int} {K:Int→Prop} (h:n=m) (h1 : -9223372036854775808≤m) (h2:m≤9223372036854775807) (hK:K m):Wr .i64 n K:=by
 subst h
 exact Wr.i64 h1 h2 hK
theorem q3o : ∀ (a:Step) (l:List Step),(XZ a l).length≤l.length
 | _,[]=>Nat.le_refl _
 | a,b::r=>by
   have:=q3o b r
   rw [XZ]
   cases ZU b a<;>simp<;>omega
theorem x7t (l:List Step):(ZM l).length≤l.length:=by
 unfold ZM
 rw [← q2o (l:=l)]
 cases YQ l with
 | nil=>exact Nat.le_refl _
 | cons a r =>
   have:=q3o a r
   simp [NE];omega
theorem z8e (sh:Sheet) (f:Pr) (it:Item):(WY sh f it).length≤2:=by
 unfold WY;split<;>(try split)<;>(try split)<;>(try split)<;>(try split)<;>(try split)<;>simp
theorem q3c {α β:Type} {g:α→List β} (h : ∀ x,(g x).length≤2) : ∀ l:List α,(l.flatMap g).length≤2*l.length
 | []=>by simp
 | a::r=>by
   have:=q3c h r
   have:=h a
   rw [List.flatMap_cons,List.length_append,List.length_cons]
   omega
theorem DP (p:Pg) (j:Nat) (f:Pr):(QH p j f).length≤1+2*QY f.body:=by
 unfold QH
 have:=q3c (g:=fun it=>(WY (sheetOf p) f it).map (Step.mk it.s.id · 1)) (fun it=>by rw [List.length_map];exact z8e _ _ _) (itL j 0 (-1) 0 (QN p.procs j) f.body)
 rw [XR] at this
 rw [List.length_cons]
 omega
theorem z1r : ∀ (i:Nat) (l:List Bool) (a:Int),a∈NJ i l→(i:Int)≤a∧a<i+l.length
 | _,[],_,h=>by rw [NJ] at h;cases h
 | i,b::r,a,h=>by
   rw [NJ] at h
   have key:a∈NJ (i+1) r→(i:Int)≤a∧a<i+(b::r).length:=fun h=>by
    have:=z1r (i+1) r a h
    simp only [List.length_cons]
    omega
   cases b with
   | false=>exact key h
   | true =>
     rcases List.mem_cons.1 h with rfl|h
     ·simp only [List.length_cons];omega
     ·exact key h
theorem z3d (n:Nat) (l:List Int):wkInv n (DK n l):=by
 unfold DK
 have : ∀ (l:List Int) (st:List Bool×List Int),wkInv n st→wkInv n (l.foldl (fun st a=>bif WD n a then KU st a else st) st):=fun l=>by
  induction l with
  | nil=>intro st h;exact h
  | cons a r ih =>
    intro st h
    refine ih _ ?_
    show wkInv n (bif WD n a then KU st a else st)
    cases hb:WD n a with
    | true=>exact q1n h (ZN hb)
    | false=>exact h
 exact this l _ (LW n)
theorem z4k {n:Nat} {rows:List (List Int)} (h:XG n rows) (l:List Int):(VU rows l).length=n:=by
 unfold VU
 rw [h.1]
 exact (BW h _ _ (z3d n l)).1
def z0f (l:List Int) (b:List Bool):List Bool:=l.foldl (fun b a=>b.set a.toNat true) b
def QX (p:Pg) (j:Nat) (f:Pr):Way :=
 let real:=ZM (QH p j f)
 let n:=QY f.body+2
 ⟨p,j,n,real,z0f (NJ 0 (VU (XX n (real.map (ixP p j f n))).1 [0])) (List.replicate n false)⟩
theorem w4o (p:Pg) (j:Nat) (f:Pr) (hj:p.procs[j]? = some f) (hc:cntP p.procs≤1000) (hl : ∀ it∈itsOf p j f,it.s.kind=7→1≤it.loop∧it.loop≤(sheetOf p).l.length) (hok : ∀ s∈QH p j f,okSt s):SpecP Tryz.prog 94 [.ip (sheetOf p).cells,.int .i64 j] (fun r=>r = .ip (QX p j f).cells):=by
 refine SpecP.body z6j QQ Tryz.func94 rfl Tryz.call94 (by show 2≤_;decide) ?_
 conv=>whnf
 obtain ⟨_,_,_,hlen,hsp⟩:=QJ p
 obtain ⟨hlo,hhi,hle,_⟩:=hsp j f hj
 repeat' ((first|refine DrawK.auto QQ mixed (by kernel_rfl) ?_|refine And.intro rfl ?_|(refine And.intro ⟨rfl,rfl,by decide⟩ ?_)|(refine IdxK.at rfl (VL hlo) rfl ?_)|(refine IdxK.at rfl (VL hhi) rfl ?_)|(refine CallK.pure (q4g p j f hj hc hl hok) (.cons (Sub.refl _) (.cons (Sub.refl _) .nil)) ?_;rintro _ rfl)|refine Wr.eq (m:=QY f.body) (by omega) (by omega) (by omega) ?_|refine Wr.eq (m:=(QY f.body+2:Nat)) (by omega) (by omega) (by omega) ?_|refine MkK.mk (QY f.body+2) rfl (by show 1*_≤140737488355328;omega) (by unfold maxLen;omega) ?_);conv=>whnf)
 have hrl:(ZM (QH p j f)).length≤1000000:=by have:=x7t (QH p j f);have:=DP p j f;omega
 refine CallK.heap [(1000,0),(2000,1)] 0 (by repeat' (first|exact ArgsH.nil|refine ArgsH.cons ?_ ?_|exact LSub.refl _|exact LSub.p Sub.nils|exact LSub.p (Sub.tt rfl)|exact LSub.p (Sub.ff rfl)|exact LSub.p (Sub.int (by omega)))) (BlksH.cons (j:=0) rfl rfl (CSub.of_eq (by rw [List.length_replicate];rfl)) (BlksH.cons (j:=1) rfl rfl (CSub.refl _) BlksH.nil)) (x1d p j f (QY f.body+2) (QL (ZM (QH p j f))) (List.replicate (QY f.body+2) .ff) hj hc (by omega) (ZM (QH p j f)) hrl) rfl rfl ?_
 rintro l' H' ⟨rfl,rfl⟩
 conv=>whnf
 obtain ⟨hgi,_⟩:=DY (QY f.body+2) ((ZM (QH p j f)).map (ixP p j f (QY f.body+2:Nat)))
 repeat' ((first|intro (_:_≤9223372036854775807)|refine And.intro rfl ?_|(refine And.intro ⟨by decide,by decide⟩ ?_)|refine BsK.pure (fun x hx=>by rcases List.mem_singleton.1 hx with rfl;rfl) rfl ?_|(refine CallK.pure (q1s (QY f.body+2) (by omega) _ hgi [0] (by simp)) (.cons (Sub.refl _) (.cons (Sub.refl _) .nil)) ?_;rintro _ rfl));conv=>whnf)
 have hlm : ∀ a∈NJ 0 (VU (XX (QY f.body+2) ((ZM (QH p j f)).map (ixP p j f (QY f.body+2:Nat)))).1 [0]),0≤a∧a<(QY f.body+2:Nat):=fun a ha=>by
  have:=z1r _ _ _ ha
  rw [z4k hgi] at this
  omega
 have hnw:QX p j f=⟨p,j,(QY f.body+2:Nat),ZM (QH p j f),z0f (NJ 0 (VU (XX (QY f.body+2) ((ZM (QH p j f)).map (ixP p j f (QY f.body+2:Nat)))).1 [0])) (List.replicate (QY f.body+2) false)⟩:=rfl
 rw [hnw]
 have hlb:((NJ 0 (VU (XX (QY f.body+2) ((ZM (QH p j f)).map (ixP p j f (QY f.body+2:Nat)))).1 [0])).map (AV.int .i64)).length≤9223372036854775807:=by assumption
 generalize NJ 0 (VU (XX (QY f.body+2) ((ZM (QH p j f)).map (ixP p j f (QY f.body+2:Nat)))).1 [0])=lst at hlm hlb ⊢
 have hll:(lst.map (AV.int .i64)).length=lst.length:=List.length_map _
 refine LoopK.inv QQ (fun x:Nat×List Bool=>⟨[(5,.ptr 0 0),(46,.p (QF lst)),(47,.p (.int .i64 (lst.map (AV.int .i64)).length)),(48,.p (.int .i64 x.1))],[(0,.obj 114 [.p (.ip (sheetOf p).cells),.p (.int .i64 j),.p (.int .i64 (QY f.body+2:Nat)),.p (QL (ZM (QH p j f))),.hd 1 0 (QY f.body+2)]),(1,.own 4 1 (x.2.map bv))]⟩)
  (fun x=>x.1≤lst.length∧x.2.length=QY f.body+2∧z0f (lst.drop x.1) x.2=z0f lst (List.replicate (QY f.body+2) false)) (fun x=>lst.length-x.1) (0,List.replicate (QY f.body+2) false)
  (Le.of_eq (by simp only [List.map_replicate,List.length_replicate];rfl)) ⟨Nat.zero_le _,by simp,rfl⟩ ?_
 rintro ⟨m,b⟩ ⟨h2,h3,h4⟩
 simp only at h2 h3 h4 ⊢
 rcases Nat.lt_or_ge m lst.length with hm|hm
 rotate_left 1
 ·rw [List.drop_eq_nil_of_le hm] at h4
  rw [← h4]
  conv=>whnf
  repeat' (refine Br.dec (fun _=>?_) (fun _=>?_)<;>first|(exfalso;omega)|conv=>whnf)
  exact ⟨_,.ptr (cs:=[.ip (sheetOf p).cells,.int .i64 j,.int .i64 (QY f.body+2:Nat),QL (ZM (QH p j f)),.sl (b.map bv)]) rfl rfl (fun i x c h5 h6=>by
   match i,h5,h6 with
   | 0,h5,h6=>cases h5;cases h6;exact .p (Sub.refl _)
   | 1,h5,h6=>cases h5;cases h6;exact .p (Sub.refl _)
   | 2,h5,h6=>cases h5;cases h6;exact .p (Sub.refl _)
   | 3,h5,h6=>cases h5;cases h6;exact .p (Sub.refl _)
   | 4,h5,h6=>cases h5;cases h6;exact .hd rfl (by rw [List.length_map,h3])),rfl⟩
 rw [List.drop_eq_getElem_cons hm] at h4
 have ha:=hlm _ (List.getElem_mem hm)
 have hal:lst[m].toNat<b.length:=by omega
 have hbe:(b.map bv)[lst[m].toNat]? = some (bv b[lst[m].toNat]):=by simp [hal]
 conv=>whnf
 repeat' (first|((first|refine And.intro rfl ?_|refine IdxK.map (by omega) (fun _=>rfl) ?_|refine Wr.i64 (by omega) (by omega) ?_|refine IdxL.mk lst[m].toNat (by omega) (by omega) ?_|refine StOwn.mk lst[m].toNat 0 (bv b[lst[m].toNat]) .tt (by omega) hbe (Nat.le_refl 1) (by cases b[lst[m].toNat]<;>rfl) ?_);conv=>whnf)|(refine Br.dec (fun _=>?_) (fun _=>?_)<;>first|(exfalso;omega)|conv=>whnf))
 exact ⟨(m+1,b.set lst[m].toNat true),⟨by simp only;omega,by simp only [List.length_set];exact h3,h4⟩,by simp only;omega,Le.of_eq (by simp only [List.map_set];rfl)⟩
open Go.Proofs
def YF (n c:Nat):List Int:=(List.range' (n+1) c).map fun (k:Nat)=>(k:Int)
theorem FZ (n a b:Nat):YF n (a+b)=YF n a++YF (n+a) b:=by
 unfold YF
 rw [← List.map_append,show n+a+1=n+1+1*a by omega,List.range'_append]
theorem w1q (n:Nat):YF n 1=[((n+1:Nat):Int)]:=by simp [YF]
mutual
theorem w1p (nest:Int) : ∀ (t:S) {n:Nat} {m:Int},q4i nest n t=some m→(flS t).map S.id=YF n (ZJ t)
 | .mk id kind labels name proc x has args thn els,n,m,h=>by
   simp only [q4i] at h
   split at h
   ·cases h
   split at h
   ·cases h
   rename_i hid
   cases hn:namesB labels<;>rw [hn] at h
   ·cases h
   cases hf:WP (.mk id kind labels name proc x has args thn els)<;>rw [hf] at h
   ·cases h
   simp only [cond_true] at h
   split at h
   ·rename_i m1 h1
    have h1':ZG (nest+1) ((n+1:Nat):Int) thn=some m1:=by rw [← h1];rfl
    have h2:=ZP _ _ thn h1'
    have h3:=YD (nest+1) thn h1'
    have h':ZG (nest+1) ((n+1+QY thn:Nat):Int) els=some m:=by rw [← h,h2];rfl
    have h4:=YD (nest+1) els h'
    rw [flS,ZJ,List.map_cons,List.map_append,h3,h4,show 1+QY thn+QY els=1+(QY thn+QY els) by omega,FZ,w1q,FZ]
    have:id=((n+1:Nat):Int):=by omega
    rw [show (S.mk id kind labels name proc x has args thn els).id=id from rfl,this]
    rfl
   ·cases h
theorem YD (nest:Int) : ∀ (l:List S) {n:Nat} {m:Int},ZG nest n l=some m→(flL l).map S.id=YF n (QY l)
 | [],n,m,h=>by rw [flL,QY];rfl
 | t::r,n,m,h=>by
   simp only [ZG] at h
   split at h
   ·cases h
   split at h
   ·rename_i m1 h1
    have h2:=YJ _ _ t h1
    have h3:=w1p nest t h1
    have h':ZG nest ((n+ZJ t:Nat):Int) r=some m:=by rw [← h,h2];rfl
    have h4:=YD nest r h'
    rw [flL,QY,List.map_append,h3,h4,FZ]
   ·cases h
end
theorem x0e : ∀ (l:List Pr) {n:Nat} {m:Int},XL n l=some m → ∀ (j:Nat) (f:Pr),l[j]? = some f→(flL f.body).map S.id=YF (n+QN l j) (QY f.body)
 | [],_,_,_,j,f,hj=>by simp at hj
 | g::r,n,m,h,j,f,hj=>by
   rw [XL] at h
   cases hm:KL g<;>rw [hm] at h
   ·cases h
   simp only [cond_true] at h
   split at h
   ·rename_i m1 h1
    cases j with
    | zero =>
      simp at hj
      subst hj
      exact YD 1 g.body h1
    | succ j =>
      have h2:=ZP _ _ g.body h1
      have h':XL ((n+QY g.body:Nat):Int) r=some m:=by rw [← h,h2];rfl
      have:=x0e r h' j f (by simpa using hj)
      rw [QN,this,Nat.add_assoc]
   ·cases h
theorem x3l {p:Pg} (h:WI p=true) {j:Nat} {f:Pr} (hj:p.procs[j]? = some f):(flL f.body).map S.id=YF (QN p.procs j) (QY f.body):=by
 unfold WI at h
 simp only [Bool.and_eq_true] at h
 cases hm:XL 0 p.procs with
 | none=>rw [hm] at h;cases h.2
 | some m =>
   have:=x0e p.procs (n:=0) hm j f hj
   simpa using this
theorem LD {n c:Nat} {a:Int} (h:a∈YF n c):(n:Int)+1≤a∧a≤n+c:=by
 unfold YF at h
 obtain ⟨k,hk,rfl⟩:=List.mem_map.1 h
 rw [List.mem_range'] at hk
 obtain ⟨i,hi,rfl⟩:=hk
 omega
def okI (lo hi:Nat) (x:Int):Prop:=x = -1∨((lo:Int)+1≤x∧x≤hi)
mutual
theorem w4e (proc:Int) (lo hi:Nat) : ∀ (t:S) (up nx loop:Int) (n:Nat) (it:Item),it∈itS proc up nx loop n t→okI lo hi nx→(loop=0∨((lo:Int)+1≤loop∧loop≤hi))→lo≤n→n+ZJ t≤hi →
  okI lo hi it.next∧(it.loop=0∨((lo:Int)+1≤it.loop∧it.loop≤hi))
 | .mk id kind labels name pr x has args thn els,up,nx,loop,n,it,h,h1,h2,h3,h4=>by
   rw [itS] at h
   rw [ZJ] at h4
   rcases List.mem_cons.1 h with rfl|h
   ·exact ⟨h1,h2⟩
   ·have h5:okI lo hi (if kind=6 then ((n:Int)+1) else nx):=by
     split
     ·exact .inr ⟨by omega,by omega⟩
     ·exact h1
    have h6:(if kind=6 then ((n:Int)+1) else loop)=0∨((lo:Int)+1≤(if kind=6 then ((n:Int)+1) else loop)∧(if kind=6 then ((n:Int)+1) else loop)≤hi):=by
     split
     ·exact .inr ⟨by omega,by omega⟩
     ·exact h2
    rcases List.mem_append.1 h with h|h
    ·exact x3x proc lo hi thn _ _ _ _ it h h5 h6 (by omega) (by omega)
    ·exact x3x proc lo hi els _ _ _ _ it h h5 h6 (by omega) (by omega)
theorem x3x (proc:Int) (lo hi:Nat) : ∀ (l:List S) (up nx loop:Int) (n:Nat) (it:Item),it∈itL proc up nx loop n l→okI lo hi nx→(loop=0∨((lo:Int)+1≤loop∧loop≤hi))→lo≤n→n+QY l≤hi →
  okI lo hi it.next∧(it.loop=0∨((lo:Int)+1≤it.loop∧it.loop≤hi))
 | [],up,nx,loop,n,it,h,h1,h2,h3,h4=>by rw [itL] at h;cases h
 | t::r,up,nx,loop,n,it,h,h1,h2,h3,h4=>by
   rw [itL] at h
   rw [QY] at h4
   rcases List.mem_append.1 h with h|h
   ·refine w4e proc lo hi t _ _ _ _ it h ?_ h2 h3 (by omega)
    cases r with
    | nil=>exact h1
    | cons u r =>
      have:1≤QY (u::r):=by rw [QY,ZO];omega
      exact .inr ⟨by simp;omega,by simp;omega⟩
   ·exact x3x proc lo hi r _ _ _ _ it h h1 h2 (by omega) (by omega)
end
theorem x1r : ∀ (l:List S) (v:S),v∈l→v∈flL l
 | [],v,h=>by cases h
 | t::r,v,h=>by
   rw [flL]
   rcases List.mem_cons.1 h with rfl|h
   ·refine List.mem_append.2 (.inl ?_)
    rw [w3a]
    exact List.mem_cons_self
   ·exact List.mem_append.2 (.inr (x1r r v h))
open Go.Proofs
theorem QK {p:Pg} (h:XK p=true):WI p=true∧(QS p).1=0∧(VK p).1=0∧(PT p).1=0∧(HV p).1=0:=by
 unfold XK z5n at h
 simp only [decide_eq_true_eq] at h
 by_cases h1:WI p=false
 ·rw [if_pos h1] at h;cases h
 rw [if_neg h1] at h
 by_cases h2:(QS p).1=0
 ·rw [if_neg (by omega)] at h
  by_cases h3:(VK p).1=0
  ·rw [if_neg (by omega)] at h
   by_cases h4:(PT p).1=0
   ·rw [if_neg (by omega)] at h
    exact ⟨by simpa using h1,h2,h3,h4,h⟩
   ·rw [if_pos h4] at h;exact absurd h h4
  ·rw [if_pos h3] at h;exact absurd h h3
 ·rw [if_pos h2] at h;exact absurd h h2
theorem q7e {f:Pr} : ∀ (l:List Item) (seen:List Str) {s:List Str},UT f l seen = .ok s → ∀ it∈l,VY f it=true
 | [],_,_,_,it,h=>by cases h
 | a::r,seen,s,h,it,hi=>by
   rw [UT] at h
   cases hj:VC seen a.s.labels with
   | none=>rw [hj] at h;cases h
   | some s1 =>
     rw [hj] at h
     simp only at h
     cases hl:VY f a with
     | false=>rw [hl] at h;cases h
     | true =>
       rw [hl,cond_true] at h
       rcases List.mem_cons.1 hi with rfl|hi
       ·exact hl
       ·exact q7e r s1 h it hi
theorem q9q {p:Pg} (hs:(QS p).1=0) (h:(PT p).1=0) {j:Nat} {f:Pr} (hj:p.procs[j]? = some f) : ∀ it∈itsOf p j f,VY f it=true:=by
 unfold PT at h
 rw [if_neg (by omega)] at h
 have hn:(List.range p.procs.length).findSome? (UP p)=none:=by
  cases hq:(List.range p.procs.length).findSome? (UP p) with
  | none=>rfl
  | some a=>rw [hq] at h;cases h
 rw [List.findSome?_eq_none_iff] at hn
 have hlt:j<p.procs.length:=(List.getElem?_eq_some_iff.1 hj).1
 have:=hn j (List.mem_range.2 hlt)
 unfold UP at this
 rw [hj] at this
 simp only at this
 cases hr:UT f (itL (j:Nat) 0 (-1) 0 (QN p.procs j) f.body) [] with
 | error id=>rw [hr] at this;cases this
 | ok seen=>exact q7e _ _ hr
mutual
theorem w0d : ∀ (t u v:S),u∈flS t→v∈u.thn∨v∈u.els→v∈flS t
 | .mk id kind labels name proc x has args thn els,u,v,h,hv=>by
   rw [flS] at h ⊢
   rcases List.mem_cons.1 h with rfl|h
   ·refine List.mem_cons_of_mem _ (List.mem_append.2 ?_)
    rcases hv with hv|hv
    ·exact .inl (x1r thn v hv)
    ·exact .inr (x1r els v hv)
   ·rcases List.mem_append.1 h with h|h
    ·exact List.mem_cons_of_mem _ (List.mem_append.2 (.inl (q5j thn u v h hv)))
    ·exact List.mem_cons_of_mem _ (List.mem_append.2 (.inr (q5j els u v h hv)))
theorem q5j : ∀ (l:List S) (u v:S),u∈flL l→v∈u.thn∨v∈u.els→v∈flL l
 | [],u,v,h,hv=>by rw [flL] at h;cases h
 | t::r,u,v,h,hv=>by
   rw [flL] at h ⊢
   rcases List.mem_append.1 h with h|h
   ·exact List.mem_append.2 (.inl (w0d t u v h hv))
   ·exact List.mem_append.2 (.inr (q5j r u v h hv))
end
theorem PK {p:Pg} {j:Nat} {f:Pr} {it:Item} (h:it∈itsOf p j f):it.s∈flL f.body:=by
 unfold itsOf at h
 rw [← MK (j:Nat) 0 (-1) 0 (QN p.procs j) f.body]
 exact List.mem_map.2 ⟨it,h,rfl⟩
theorem VX {p:Pg} (hm:WI p=true) {j:Nat} {f:Pr} (hj:p.procs[j]? = some f) {t:S} (h:t∈flL f.body):(QN p.procs j:Int)+1≤t.id∧t.id≤(QN p.procs j+QY f.body:Nat):=by
 have h1:=x3l hm hj
 have h2:t.id∈YF (QN p.procs j) (QY f.body):=by
  rw [← h1]
  exact List.mem_map.2 ⟨t,h,rfl⟩
 have:=LD h2
 omega
theorem MO {p:Pg} {j:Nat} {f:Pr} {it:Item} (h:it∈itsOf p j f):okI (QN p.procs j) (QN p.procs j+QY f.body) it.next∧(it.loop=0∨((QN p.procs j:Int)+1≤it.loop∧it.loop≤(QN p.procs j+QY f.body:Nat))) :=
 x3x (j:Nat) _ _ f.body 0 (-1) 0 _ it h (.inl rfl) (.inl rfl) (Nat.le_refl _) (Nat.le_refl _)
theorem GN {p:Pg} {j:Nat} {f:Pr} (hj:p.procs[j]? = some f) {k:Nat} (h1:QN p.procs j≤k) (h2:k<QN p.procs j+QY f.body) : ∃ it,(sheetOf p).l[k]? = some it∧it∈itsOf p j f:=by
 obtain ⟨_,_,_,hlen,hsp⟩:=QJ p
 obtain ⟨_,_,hle,hd⟩:=hsp j f hj
 have hk:k<(sheetOf p).l.length:=by omega
 refine ⟨(sheetOf p).l[k],List.getElem?_eq_getElem hk,?_⟩
 unfold itsOf
 rw [← hd]
 refine List.mem_iff_getElem?.2 ⟨k-QN p.procs j,?_⟩
 rw [List.getElem?_drop,List.getElem?_take,if_pos (by omega),show QN p.procs j+(k-QN p.procs j)=k by omega,List.getElem?_eq_getElem hk]
theorem w4n {p:Pg} (hm:WI p=true) {j:Nat} {f:Pr} (hj:p.procs[j]? = some f) {it:Item} (h:it∈itsOf p j f) (hl:VY f it=true) : ∀ x∈WY (sheetOf p) f it,okI (QN p.procs j) (QN p.procs j+QY f.body) x:=by
 obtain ⟨hnx,hlo⟩:=MO h
 have hs:=PK h
 have hid:=VX hm hj hs
 have hhead : ∀ (l:List S) (o:Int),(∀ v∈l,v∈it.s.thn∨v∈it.s.els)→okI (QN p.procs j) (QN p.procs j+QY f.body) o→okI (QN p.procs j) (QN p.procs j+QY f.body) (q8o l o):=fun l o hv ho=>by
  cases l with
  | nil=>exact ho
  | cons v r=>exact .inr (VX hm hj (q5j f.body it.s v hs (hv v List.mem_cons_self)))
 have hloop:it.s.kind=7∨it.s.kind=8→(QN p.procs j:Int)+1≤it.loop∧it.loop≤(QN p.procs j+QY f.body:Nat):=fun hk=>by
  unfold VY at hl
  rw [if_pos hk] at hl
  rcases hlo with h0|h0
  ·rw [h0] at hl;cases hl
  ·exact h0
 intro x hx
 unfold WY at hx
 split at hx
 ·simp only [List.mem_cons,List.not_mem_nil,or_false] at hx
  rcases hx with rfl|rfl
  ·exact hhead _ _ (fun v hv => .inl hv) hnx
  ·exact hhead _ _ (fun v hv => .inr hv) hnx
 split at hx
 ·simp only [List.mem_cons,List.not_mem_nil,or_false] at hx
  rcases hx with rfl|rfl
  ·exact hhead _ _ (fun v hv => .inl hv) (.inr hid)
  ·exact hnx
 split at hx
 ·rename_i hk
  have hlp:=hloop (.inl hk)
  obtain ⟨u,hu1,hu2⟩:=GN hj (k:=(it.loop-1).toNat) (by omega) (by omega)
  rw [hu1] at hx
  rw [List.mem_singleton.1 hx]
  exact (MO hu2).1
 split at hx
 ·rename_i hk
  rw [List.mem_singleton.1 hx]
  exact .inr (hloop (.inr hk))
 split at hx
 ·rw [List.mem_singleton.1 hx]
  exact .inl rfl
 split at hx
 ·rename_i h7 h8 _ hk
  rw [List.mem_singleton.1 hx]
  unfold VY at hl
  rw [if_neg (by omega),if_pos hk] at hl
  unfold atB at hl ⊢
  split
  ·rename_i t ht
   exact .inr (VX hm hj (List.mem_of_find?_eq_some ht))
  ·rename_i hn
   rw [hn] at hl
   simp only at hl
   cases hfin:f.fin.any fun s=>it.s.name==s with
   | true=>exact .inl rfl
   | false=>rw [hfin] at hl;cases hl
 ·rw [List.mem_singleton.1 hx]
  exact hnx
theorem BG {p:Pg} (h:XK p=true) {j:Nat} {f:Pr} (hj:p.procs[j]? = some f):(∀ it∈itsOf p j f,it.s.kind=7→1≤it.loop∧it.loop≤(sheetOf p).l.length) ∧
  (∀ s∈QH p j f,(s.src=0∨((QN p.procs j:Int)+1≤s.src∧s.src≤(QN p.procs j+QY f.body:Nat)))∧okI (QN p.procs j) (QN p.procs j+QY f.body) s.dst) ∧ ∀ s∈QH p j f,okSt s:=by
 obtain ⟨hm,hs,_,hjm,_⟩:=QK h
 have hld:=q9q hs hjm hj
 obtain ⟨_,_,_,hlen,hsp⟩:=QJ p
 obtain ⟨_,_,hle,_⟩:=hsp j f hj
 obtain ⟨_,_,hcn⟩:=ZX hm
 have key : ∀ s∈QH p j f,(s.src=0∨((QN p.procs j:Int)+1≤s.src∧s.src≤(QN p.procs j+QY f.body:Nat)))∧okI (QN p.procs j) (QN p.procs j+QY f.body) s.dst:=fun s hx=>by
  unfold QH at hx
  rcases List.mem_cons.1 hx with rfl|hx
  ·refine ⟨.inl rfl,?_⟩
   show okI _ _ (if QN p.procs j<QN p.procs j+QY f.body then ((QN p.procs j:Nat)+1:Int) else -1)
   split
   ·exact .inr ⟨by omega,by omega⟩
   ·exact .inl rfl
  ·obtain ⟨it,hit,hz⟩:=List.mem_flatMap.1 hx
   obtain ⟨y,hy,rfl⟩:=List.mem_map.1 hz
   exact ⟨.inr (VX hm hj (PK hit)),w4n hm hj hit (hld it hit) y hy⟩
 refine ⟨fun it hit hk => ?_,key,fun s hx => ?_⟩
 ·have hl:=hld it hit
  unfold VY at hl
  rw [if_pos (.inl hk)] at hl
  rcases (MO hit).2 with h0|h0
  ·rw [h0] at hl;cases hl
  ·omega
 ·obtain ⟨h1,h2⟩:=key s hx
  unfold okSt okI at *
  omega
open Go.Proofs
def HP (p:Pg) (n:Str):Option Way:=bif XK p then (match p.procs.find? (fun f=>f.name==n) with
 | some f=>some (QX p (p.procs.findIdx fun f=>f.name==n) f)
 | none=>none) else none
def v1o:Option Way→AV
 | some w => .ip w.cells
 | none => .nilp
theorem UY {p:Pg} (h:XK p=true):p.globals.length≤16∧p.procs.length≤16∧cntP p.procs≤200:=ZX (QK h).1
theorem z1a {p:Pg} {n:Str} (h : ¬n∈procsN p):q9a (fun f=>f.name==n) p.procs = -1∧p.procs.find? (fun f=>f.name==n)=none:=by
 have h1:p.procs.any (fun f=>f.name==n)=false:=by
  rw [List.any_eq_false]
  intro f hf hn
  exact h (List.mem_map.2 ⟨f,hf,by simpa using hn⟩)
 refine ⟨by unfold q9a;rw [h1];rfl,?_⟩
 rw [List.find?_eq_none]
 intro f hf
 have:=List.any_eq_false.1 h1 f hf
 simpa using this
theorem z7l {p:Pg} {n:Str} (h:n∈procsN p) : ∃ (k:Nat) (hk:k<p.procs.length),q9a (fun f=>f.name==n) p.procs=k∧p.procs.findIdx (fun f=>f.name==n)=k∧p.procs.find? (fun f=>f.name==n)=some p.procs[k]∧p.procs[k].name=n:=by
 obtain ⟨k,hk,h1,h2,h3⟩:=q0p h
 refine ⟨k,hk,h1,?_,h2,h3⟩
 unfold q9a at h1
 cases ha:p.procs.any (fun f=>f.name==n) with
 | true=>rw [ha,cond_true] at h1;omega
 | false=>rw [ha,cond_false] at h1;omega
theorem w8g (p:Pg) (hf:Fit p) (n:Str):SpecP Tryz.prog 88 [.agg p.cells,.str n] (fun r=>r=v1o (HP p n)):=by
 refine SpecP.body w3g QQ Tryz.func88 rfl Tryz.call88 (by show 2≤_;decide) ?_
 conv=>whnf
 cases hc:XK p with
 | false =>
   have e:HP p n=none:=by unfold HP;rw [hc];rfl
   have hA : ¬(z5n p).1=0:=by unfold XK at hc;simpa using hc
   rw [e]
   repeat' (first|(refine CallK.pure (JB p hf) (by repeat' (first|exact ArgP.nil|refine ArgP.cons ?_ ?_|exact Sub.refl _|exact Sub.tt rfl|exact Sub.ff rfl|exact Sub.int (by omega))) ?_;rintro _ rfl;conv=>whnf)|(refine Br.dec2 (fun _=>?_) (fun _=>?_)<;>first|(exfalso;omega)|conv=>whnf))
   all_goals first
    | exact RetK.p rfl
    | (exfalso;exact hA (by assumption))
 | true =>
   obtain ⟨hg,hpl,hcn⟩:=UY hc
   have hA:(z5n p).1=0:=by unfold XK at hc;simpa using hc
   have hsp:(sheetOf p).p.procs=p.procs:=by rw [(QJ p).1]
   by_cases hn:n∈procsN p
   ·obtain ⟨k,hk,h1,h2,h3,h4⟩:=z7l hn
    have e:HP p n=some (QX p k p.procs[k]):=by unfold HP;rw [hc,h3,h2];rfl
    have hkj:p.procs[k]? = some p.procs[k]:=by simp
    obtain ⟨w1,_,w3⟩:=BG hc hkj
    rw [e]
    repeat' (first|((first|(refine CallK.pure (JB p hf) (by repeat' (first|exact ArgP.nil|refine ArgP.cons ?_ ?_|exact Sub.refl _|exact Sub.tt rfl|exact Sub.ff rfl|exact Sub.int (by omega))) ?_;rintro _ rfl)|(refine CallK.pure (VP _ _) (by repeat' (first|exact ArgP.nil|refine ArgP.cons ?_ ?_|exact Sub.refl _|exact Sub.tt rfl|exact Sub.ff rfl)) ?_;rintro _ rfl)|(refine CallK.pure (YK p (by omega) (by omega)) (.cons (Sub.refl _) .nil) ?_;rintro _ rfl)|(refine CallK.pure (w4o p k p.procs[k] hkj (by omega) w1 w3) (.cons (Sub.refl _) (.cons (Sub.int h1) .nil)) ?_;rintro _ rfl));conv=>whnf)|(refine Br.dec (fun _=>?_) (fun _=>?_)<;>first|(exfalso;omega)|conv=>whnf)|(refine Br.dec2 (fun _=>?_) (fun _=>?_)<;>first|(exfalso;omega)|conv=>whnf))
    all_goals rw [hsp] at *
    all_goals first
     | exact RetK.p rfl
     | (exfalso;omega)
   ·obtain ⟨h1,h2⟩:=z1a hn
    have e:HP p n=none:=by unfold HP;rw [hc,h2];rfl
    rw [e]
    repeat' (first|((first|(refine CallK.pure (JB p hf) (by repeat' (first|exact ArgP.nil|refine ArgP.cons ?_ ?_|exact Sub.refl _|exact Sub.tt rfl|exact Sub.ff rfl|exact Sub.int (by omega))) ?_;rintro _ rfl)|(refine CallK.pure (VP _ _) (by repeat' (first|exact ArgP.nil|refine ArgP.cons ?_ ?_|exact Sub.refl _|exact Sub.tt rfl|exact Sub.ff rfl)) ?_;rintro _ rfl)|(refine CallK.pure (YK p (by omega) (by omega)) (.cons (Sub.refl _) .nil) ?_;rintro _ rfl));conv=>whnf)|(refine Br.dec (fun _=>?_) (fun _=>?_)<;>first|(exfalso;omega)|conv=>whnf)|(refine Br.dec2 (fun _=>?_) (fun _=>?_)<;>first|(exfalso;omega)|conv=>whnf))
    all_goals rw [hsp] at *
    all_goals first
     | exact RetK.p rfl
     | (exfalso;omega)
theorem KI {p:Pg} {n:Str} {w:Way} (h:HP p n=some w) : ∃ (k:Nat) (f:Pr),p.procs[k]? = some f∧w=QX p k f∧XK p=true∧f.name=n∧p.procs.find? (fun f=>f.name==n)=some f:=by
 unfold HP at h
 cases hc:XK p with
 | false=>rw [hc] at h;cases h
 | true =>
   rw [hc,cond_true] at h
   by_cases hn:n∈procsN p
   ·obtain ⟨k,hk,h1,h2,h3,h4⟩:=z7l hn
    rw [h3,h2] at h
    cases h
    exact ⟨k,p.procs[k],by simp,rfl,rfl,h4,h3⟩
   ·rw [(z1a hn).2] at h
    cases h
def w8r (p:Pg) (k:Nat) (f:Pr):Int:=if QN p.procs k<QN p.procs k+QY f.body then ((QN p.procs k:Nat)+1:Int) else -1
def w8s (p:Pg) (id:Int):Int×Bool:=bif XK p&&(decide (1≤id)&&decide (id≤(sheetOf p).l.length)) then (((sheetOf p).l[(id-1).toNat]?.map Item.next).getD 0,true) else (0,false)
open Go.Proofs
def QM (p:Pg) (j:Nat) (n i:Int):Int:=if i=0 then 0 else if i=n-1 then -1 else loI p j+i-1
theorem HS (w:Way) (f:Pr) (hj:w.p.procs[w.j]? = some f) (hc:cntP w.p.procs≤1000) (hn:0≤w.n∧w.n≤5000) (i:Int) (hi:0≤i∧i≤5000):SpecP Tryz.prog 91 [.ip w.cells,.int .i64 i] (fun r=>r = .int .i64 (QM w.p w.j w.n i)):=by
 refine SpecP.body q6i QQ Tryz.func91 rfl Tryz.call91 (by show 2≤_;decide) ?_
 conv=>whnf
 obtain ⟨_,_,_,hlen,hsp⟩:=QJ w.p
 obtain ⟨hlo,hhi,hle,_⟩:=hsp w.j f hj
 repeat' (first|((first|refine DrawK.auto QQ mixed (by kernel_rfl) ?_|refine Wr.i64 (by omega) (by omega) ?_|(refine IdxK.at rfl (VL hlo) rfl ?_));conv=>whnf)|(refine Br.dec (fun _=>?_) (fun _=>?_)<;>first|(exfalso;omega)|conv=>whnf))
 all_goals exact RetK.int (by unfold QM loI;(repeat' split)<;>omega)
open Go.Proofs
theorem DrawK.le {P:Program} {T:Tab} {N:Nat} {ops:Array Oper} {info:Info} {id:Nat} {K:St→Prop} {s s':St} (hle:Le N s s') (h:DrawK P T N info id ops K s'):DrawK P T N info id ops K s:=by
 refine ⟨⟨fun σ β a w hr => ?_⟩⟩
 obtain ⟨σ1,β1,hr1,hl1⟩:=hle σ β a w hr
 refine Code.wp_mono (fun e a' w' hk => ?_) (h.ok.ok σ1 β1 a w hr1)
 obtain ⟨σ',β',s2,hk,hr',hl⟩:=hk
 exact ⟨σ',β',s2,hk,hr',hl1.trans hl⟩
def w6r (p:Pg) (id:Int):Option S:=((sheetOf p).l[(id-1).toNat]?).map Item.s
open Go.Proofs
open Go.Proofs
def q0g (a b:Step):Prop:=XE a.src<XE b.src∨(XE a.src=XE b.src∧XE a.dst<XE b.dst)
def w0k (s:Step):Prop:=okSt s∧s.kind=1
theorem Step.eq_of {a b:Step} (h1:a.src=b.src) (h2:a.dst=b.dst) (h3:a.kind=b.kind):a=b:=by
 cases a;cases b;simp_all
theorem GL {a b:Step}:FG a b=true↔XE a.src<XE b.src∨(XE a.src=XE b.src∧(XE a.dst<XE b.dst∨(XE a.dst=XE b.dst∧a.kind<b.kind))):=by
 have h:FG a b=decide (x9r a b<0):=rfl
 rw [h,decide_eq_true_eq]
 unfold x9r
 simp only [orI]
 split
 ·rename_i h1
  rw [JU] at h1
  split
  ·rename_i h2
   rw [JU] at h2
   split
   ·rename_i h3
    rw [JU] at h3
    omega
   ·rw [BO];omega
  ·rename_i h2
   rw [JU] at h2
   rw [BO]
   omega
 ·rename_i h1
  rw [JU] at h1
  rw [BO]
  omega
theorem q0v (l:List Step):(YQ l).Pairwise fun a b=>FG b a=false:=by
 have:=List.pairwise_mergeSort (le:=fun x y => !FG y x) (fun a b c h1 h2=>by
  simp only [Bool.not_eq_true'] at h1 h2 ⊢
  rw [Bool.eq_false_iff,ne_eq,GL] at h1 h2 ⊢
  omega) (fun a b=>by
  cases h1:FG b a with
  | false=>rfl
  | true =>
    have h2:FG a b=false:=by
     rw [Bool.eq_false_iff,ne_eq,GL]
     rw [GL] at h1
     omega
    rw [h2]
    rfl) l
 refine List.Pairwise.imp ?_ this
 intro a b h
 simpa using h
theorem q4x {a b:Step} (ha:w0k a) (hb:w0k b):ZU a b=true↔a=b:=by
 unfold ZU
 simp only [Bool.and_eq_true,decide_eq_true_eq]
 refine ⟨fun h=>Step.eq_of h.1 h.2 (by rw [ha.2,hb.2]),fun h=>by rw [h];exact ⟨rfl,rfl⟩⟩
theorem w4d {a b:Step} (ha:w0k a) (hb:w0k b) (h:FG b a=false) (hne:a≠b):q0g a b:=by
 rw [Bool.eq_false_iff,ne_eq,GL] at h
 unfold q0g
 by_cases h1:XE a.src=XE b.src
 ·by_cases h2:XE a.dst=XE b.dst
  ·exact absurd (Step.eq_of (HX ha.1.1 hb.1.1 h1) (HX ha.1.2 hb.1.2 h2) (by rw [ha.2,hb.2])) hne
  ·omega
 ·omega
theorem q2f {a b c:Step} (h:q0g a b) (h':q0g b c):q0g a c:=by unfold q0g at *;omega
theorem HU {a:Step} (h:q0g a a):False:=by unfold q0g at h;omega
theorem LA : ∀ (l:List Step) (a:Step),w0k a→(∀ s∈l,w0k s)→(a::l).Pairwise (fun a b=>FG b a=false)→(a::XZ a l).Pairwise q0g ∧ ∀ s,s∈a::XZ a l↔s∈a::l
 | [],a,_,_,_=>⟨by simp [XZ],by simp [XZ]⟩
 | b::r,a,ha,hl,h=>by
   have hb:=hl b List.mem_cons_self
   have hr : ∀ s∈r,w0k s:=fun s hs=>hl s (List.mem_cons_of_mem _ hs)
   rw [List.pairwise_cons] at h
   obtain ⟨h1,h2⟩:=h
   obtain ⟨i1,i2⟩:=LA r b hb hr h2
   rw [XZ]
   cases hs:ZU b a with
   | true =>
     obtain rfl:=(q4x hb ha).1 hs
     rw [cond_true]
     exact ⟨i1,fun s=>by rw [i2];simp⟩
   | false =>
     rw [cond_false]
     have hne:a≠b:=fun e=>by
      rw [(q4x hb ha).2 e.symm] at hs
      cases hs
     have hlt:=w4d ha hb (h1 b List.mem_cons_self) hne
     refine ⟨?_,fun s=>by rw [List.mem_cons,i2,← List.mem_cons (a:=s) (b:=a)]⟩
     rw [List.pairwise_cons]
     refine ⟨fun s hsm => ?_,i1⟩
     rcases List.mem_cons.1 hsm with rfl|hsm
     ·exact hlt
     ·exact q2f hlt ((List.pairwise_cons.1 i1).1 s hsm)
theorem z5j {l:List Step} (hok : ∀ s∈l,w0k s):(ZM l).Pairwise q0g ∧ ∀ s,s∈ZM l↔s∈l:=by
 have hp : ∀ s,s∈YQ l↔s∈l:=fun s=>(q5r l).mem_iff
 have hs:=q0v l
 unfold ZM
 cases hq:YQ l with
 | nil =>
   rw [hq] at hp
   exact ⟨by simp [NE],fun s=>by rw [← hp];simp [NE]⟩
 | cons a r =>
   rw [hq] at hp hs
   have hok' : ∀ s∈a::r,w0k s:=fun s h=>hok s ((hp s).1 h)
   obtain ⟨h1,h2⟩:=LA r a (hok' a List.mem_cons_self) (fun s h=>hok' s (List.mem_cons_of_mem _ h)) hs
   exact ⟨h1,fun s=>by rw [NE,h2,hp]⟩
theorem x0w : ∀ {l m:List Step},l.Pairwise q0g→m.Pairwise q0g→(∀ s,s∈l↔s∈m)→l=m
 | [],[],_,_,_=>rfl
 | [],b::m,_,_,h=>by have:=(h b).2 List.mem_cons_self;cases this
 | a::l,[],_,_,h=>by have:=(h a).1 List.mem_cons_self;cases this
 | a::l,b::m,hl,hm,h=>by
   rw [List.pairwise_cons] at hl hm
   have hab:a=b:=by
    rcases List.mem_cons.1 ((h a).1 List.mem_cons_self) with e|ha
    ·exact e
    ·rcases List.mem_cons.1 ((h b).2 List.mem_cons_self) with e|hb
     ·exact e.symm
     ·exact (HU (q2f (hl.1 b hb) (hm.1 a ha))).elim
   subst hab
   congr 1
   refine x0w hl.2 hm.2 fun s=>⟨fun hs => ?_,fun hs => ?_⟩
   ·rcases List.mem_cons.1 ((h s).1 (List.mem_cons_of_mem _ hs)) with rfl|h'
    ·exact (HU (hl.1 _ hs)).elim
    ·exact h'
   ·rcases List.mem_cons.1 ((h s).2 (List.mem_cons_of_mem _ hs)) with rfl|h'
    ·exact (HU (hm.1 _ hs)).elim
    ·exact h'
theorem x5o {p:Pg} (h:XK p=true) {j:Nat} {f:Pr} (hj:p.procs[j]? = some f) : ∀ s∈QH p j f,w0k s:=by
 obtain ⟨_,_,h3⟩:=BG h hj
 intro s hs
 refine ⟨h3 s hs,?_⟩
 unfold QH at hs
 rcases List.mem_cons.1 hs with rfl|hs
 ·rfl
 ·obtain ⟨it,_,hz⟩:=List.mem_flatMap.1 hs
  obtain ⟨y,_,rfl⟩:=List.mem_map.1 hz
  rfl
theorem JY {p:Pg} (h:XK p=true) {j:Nat} {f:Pr} (hj:p.procs[j]? = some f):(QX p j f).real.Pairwise q0g ∧ ∀ s,s∈(QX p j f).real↔s∈QH p j f:=z5j (x5o h hj)
theorem w1x {p:Pg} (h:XK p=true) {j:Nat} {f:Pr} (hj:p.procs[j]? = some f) {s:Step} (hs:s∈QH p j f):s=⟨0,w8r p j f,1⟩∨(1≤s.src∧s.src≤9223372036854775806):=by
 obtain ⟨_,_,hcn⟩:=UY h
 obtain ⟨_,_,_,hlen,hsp⟩:=QJ p
 obtain ⟨_,_,hle,_⟩:=hsp j f hj
 unfold QH at hs
 rcases List.mem_cons.1 hs with rfl|hs
 ·exact .inl rfl
 ·obtain ⟨it,hit,hz⟩:=List.mem_flatMap.1 hs
  obtain ⟨y,_,rfl⟩:=List.mem_map.1 hz
  have:=VX (QK h).1 hj (PK hit)
  refine .inr ?_
  simp only
  omega
theorem w2v {p:Pg} (h:XK p=true) {j:Nat} {f:Pr} (hj:p.procs[j]? = some f):w8r p j f=q8o f.body (-1):=by
 have h1:=x3l (QK h).1 hj
 unfold w8r
 cases hb:f.body with
 | nil=>rw [QY,if_neg (by omega)];rfl
 | cons t r =>
   rw [hb,flL,w3a] at h1
   have h3:1≤QY (t::r):=by rw [QY,ZO];omega
   rw [if_pos (by omega)]
   have h4:=congrArg (fun l=>l[0]?) h1
   simp only [List.cons_append,List.map_cons] at h4
   unfold YF at h4
   rw [List.getElem?_map,List.getElem?_range' (by omega)] at h4
   simp at h4
   show _=t.id
   omega
end Go.Ab
