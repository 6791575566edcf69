/- flat: a program laid flat. -/
import Derived.Test.YtlhblcpmfnkjpaaGreatDomA6
import Derived.Test.YtlhblcpmfnkjpaaGreatDomA8
set_option linter.unusedSimpArgs false
set_option linter.unusedVariables false
set_option maxRecDepth 100000
set_option maxHeartbeats 16000000
open List (drop_eq_nil_of_le drop_zero length_append length_cons length_map mem_cons_of_mem mem_cons_self nil_append take_of_length_le)
open Nat (zero_le)
namespace Go.Ab
open Go.Proofs
structure Sheet where
 p:Pg
 l:List Item
 lo:List Int
 hi:List Int
def Sheet.cells (s:Sheet):List AV:=s.p.cells++[.sl (s.l.map fun i => .agg i.cells),QD s.lo,QD s.hi]
def cntP:List Pr->Nat
 | []=>0
 | f::r=>QV f.body+cntP r
theorem q9h {l:List Pr} {j:Nat} (hj:j<l.length):cntP (l.drop j)=QV l[j].body+cntP (l.drop (j+1)):=by
 rw [QH hj,cntP]
def x0l (i:Nat) (acc:List Item) (lo hi:List Int):List Pr->List Item×List Int×List Int
 | []=>(acc,lo,hi)
 | f::r=>x0l (i+1) (XN i 0 (-1) 0 acc f.body) (lo++[(acc.length:Int)+1]) (hi++[((XN i 0 (-1) 0 acc f.body).length:Int)+1]) r
def sheetOf (p:Pg):Sheet:=⟨p,(x0l 0 [] [] [] p.procs).1,(x0l 0 [] [] [] p.procs).2.1,(x0l 0 [] [] [] p.procs).2.2⟩
theorem x9g {i:Nat} {acc:List Item} {lo hi:List Int} {l:List Pr} {j:Nat} (hj:j<l.length) :
  x0l i acc lo hi (l.drop j)=x0l (i+1) (XN i 0 (-1) 0 acc l[j].body) (lo++[(acc.length:Int)+1]) (hi++[((XN i 0 (-1) 0 acc l[j].body).length:Int)+1]) (l.drop (j+1)):=by
 rw [QH hj,x0l]
def v1r (tS tI tN:Nat) (p:Pg) (L:List Item) (lo hi:List Int):Heap :=
 [(0,.obj tS [.p (QM p.globals),.p (.sl (p.procs.map fun f => .agg f.cells)),.hd 1 0 L.length,.hd 2 0 lo.length,.hd 3 0 hi.length]),(1,.own tI 17 (L.map fun i => .agg i.cells)),(2,.own tN 1 (lo.map (.int .i64))),(3,.own tN 1 (hi.map (.int .i64)))]
theorem FP (p:Pg) (h1:p.procs.length<=1000) (hc:cntP p.procs<=999):SpecP Tryz.prog 105 [.agg p.cells] (fun r=>r = .ip (sheetOf p).cells):=by
 refine sB z6e Tryz.func105 rfl Tryz.call105 ?_;conv=>whnf
 repeat' ((first|(refine iM fun _=>?_)|refine And.intro rfl ?_);conv=>whnf)
 have hl2:(p.procs.map fun f=>AV.agg f.cells).length=p.procs.length:=length_map _;refine LoopK.inv QX (fun i:Nat×List Item×List Int×List Int=>⟨[(3,.ptr 0 0),(10,.p (.sl (p.procs.map fun f=>AV.agg f.cells))),(11,.p (.int .i64 (p.procs.map fun f=>AV.agg f.cells).length)),(12,.p (.int .i64 i.1))],v1r 181 177 3 p i.2.1 i.2.2.1 i.2.2.2⟩)
  (fun i=>i.1<=p.procs.length∧i.2.1.length+cntP (p.procs.drop i.1)=cntP p.procs∧i.2.2.1.length=i.1∧i.2.2.2.length=i.1∧x0l i.1 i.2.1 i.2.2.1 i.2.2.2 (p.procs.drop i.1)=x0l 0 [] [] [] p.procs) (fun i=>p.procs.length-i.1) (0,[],[],[])
  (Le.mk [(1,.own 177 17 []),(2,.own 3 1 []),(3,.own 3 1 [])] (by simp [Chunk.new0];exact ⟨rfl,rfl,rfl⟩) (by simp) (by simp [v1r]) (.cons (.refl _) (.cons (.refl _) (.cons (.refl _) (.cons (.refl _) .nil))))
    (.cons rfl (.obj (.cons (.refl _) (.cons (.refl _) (.cons (.nil mem_cons_self) (.cons (.nil (mem_cons_of_mem _ mem_cons_self)) (.cons (.nil (mem_cons_of_mem _ (mem_cons_of_mem _ mem_cons_self))) .nil)))))) (.new mem_cons_self (.new (mem_cons_of_mem _ mem_cons_self) (.new (mem_cons_of_mem _ (mem_cons_of_mem _ mem_cons_self)) .nil)))))
  ⟨zero_le _,by simp,rfl,rfl,rfl⟩ ?_
 rintro ⟨j,b,lo,hi⟩ ⟨h2,h3,h4,h5,h6⟩;simp only at h2 h3 h4 h5 h6 ⊢;conv=>whnf
 repeat' (first|((first|(refine iM fun _=>?_)|refine dA ?_|refine And.intro rfl ?_|refine aD ?_|refine bP ?_|(refine iA fun _=>?_)|refine wI ?_|refine AppK.mk (by simp) rfl (by show (lo.length+1)*8<=140737488355328;omega) (by show lo.length+1<=9223372036854775807;omega) (fun x hx=>by rcases List.mem_singleton.1 hx with rfl;exact ⟨rfl,rfl⟩) ?_);conv=>whnf)|(apply bD<;>intro _<;>first|omega|conv=>whnf)|(refine And.intro ?_ ?_<;>conv=>whnf))
 ·have hj:j<p.procs.length:=by omega
  have hst:=q9h hj;refine CallK.heap [(1000,0),(2000,1),(2001,2),(2002,3)] 0 (by refine ArgsH.cons (LSub.refl _) (ArgsH.cons (LSub.refl _) (ArgsH.cons (LSub.agg ?_) ArgsH.nil));repeat' (first|exact SubL.nil|refine SubL.cons ?_ ?_|exact Sub.refl _|exact Sub.nils|exact Sub.ff rfl)) (by exact BlksH.cons (j:=0) rfl rfl (CSub.of_eq (by rw [length_append];first|done|rfl)) (BlksH.cons (j:=1) rfl rfl (CSub.refl _) (BlksH.cons (j:=2) rfl rfl (CSub.of_eq (by rw [List.map_append];first|done|rfl)) (BlksH.cons (j:=3) rfl rfl (CSub.refl _) BlksH.nil)))) (z4p 1000 (by omega) p.procs[j].body (by omega) b (by omega) ⟨S0,j,0,-1,0⟩ _ _ (lo++[(b.length:Int)+1]) hi) rfl rfl ?_;rintro l' H' ⟨rfl,rfl⟩;conv=>whnf
  have hlen:=XJ j 0 (-1) 0 b p.procs[j].body;repeat' (first|((first|(refine iM fun _=>?_)|refine dA ?_|refine And.intro rfl ?_|refine aD ?_|refine bP ?_|refine wI ?_|refine AppK.mk (by simp) rfl (by show (hi.length+1)*8<=140737488355328;omega) (by show hi.length+1<=9223372036854775807;omega) (fun x hx=>by rcases List.mem_singleton.1 hx with rfl;exact ⟨rfl,rfl⟩) ?_|refine Wr.i64 (by rw [XJ];omega) (by rw [XJ];omega) ?_);conv=>whnf)|(refine And.intro ?_ ?_<;>conv=>whnf))
  all_goals exact ⟨(j+1,XN j 0 (-1) 0 b p.procs[j].body,lo++[(b.length:Int)+1],hi++[((XN j 0 (-1) 0 b p.procs[j].body).length:Int)+1]),⟨by simp only;omega,by simp only;omega,by simp [h4],by simp [h5],by simp only;rw [<- h6,x9g hj]⟩,by simp only;omega,Le.of_eq (by simp only [v1r,length_append,List.map_append];rfl)⟩
 ·have hj:j<p.procs.length:=by omega
  have hst:=q9h hj;refine CallK.heap [(1000,0),(2000,1),(2001,2),(2002,3)] 0 (by refine ArgsH.cons (LSub.refl _) (ArgsH.cons (LSub.refl _) (ArgsH.cons (LSub.agg ?_) ArgsH.nil));repeat' (first|exact SubL.nil|refine SubL.cons ?_ ?_|exact Sub.refl _|exact Sub.nils|exact Sub.ff rfl)) (by exact BlksH.cons (j:=0) rfl rfl (CSub.of_eq (by rw [length_append];first|done|rfl)) (BlksH.cons (j:=1) rfl rfl (CSub.refl _) (BlksH.cons (j:=2) rfl rfl (CSub.of_eq (by rw [List.map_append];first|done|rfl)) (BlksH.cons (j:=3) rfl rfl (CSub.refl _) BlksH.nil)))) (z4p 1000 (by omega) p.procs[j].body (by omega) b (by omega) ⟨S0,j,0,-1,0⟩ _ _ (lo++[(b.length:Int)+1]) hi) rfl rfl ?_;rintro l' H' ⟨rfl,rfl⟩;conv=>whnf
  have hlen:=XJ j 0 (-1) 0 b p.procs[j].body;repeat' (first|((first|(refine iM fun _=>?_)|refine dA ?_|refine And.intro rfl ?_|refine aD ?_|refine bP ?_|refine wI ?_|refine AppK.mk (by simp) rfl (by show (hi.length+1)*8<=140737488355328;omega) (by show hi.length+1<=9223372036854775807;omega) (fun x hx=>by rcases List.mem_singleton.1 hx with rfl;exact ⟨rfl,rfl⟩) ?_|refine Wr.i64 (by rw [XJ];omega) (by rw [XJ];omega) ?_);conv=>whnf)|(refine And.intro ?_ ?_<;>conv=>whnf))
  all_goals exact ⟨(j+1,XN j 0 (-1) 0 b p.procs[j].body,lo++[(b.length:Int)+1],hi++[((XN j 0 (-1) 0 b p.procs[j].body).length:Int)+1]),⟨by simp only;omega,by simp only;omega,by simp [h4],by simp [h5],by simp only;rw [<- h6,x9g hj]⟩,by simp only;omega,Le.of_eq (by simp only [v1r,length_append,List.map_append];rfl)⟩
 ·have hd:p.procs.drop j=[]:=drop_eq_nil_of_le (by omega);rw [hd,x0l] at h6;refine ⟨.ip (sheetOf p).cells,?_,rfl⟩;have e:(sheetOf p).cells=[QM p.globals,.sl (p.procs.map fun f => .agg f.cells),.sl (b.map fun i => .agg i.cells),QD lo,QD hi]:=by
   unfold sheetOf;rw [<- h6];rfl
  rw [e];have hF : ∀ H:Heap,getH H 1=some (.own 177 17 (b.map fun i => .agg i.cells))->getH H 2=some (.own 3 1 (lo.map (.int .i64)))->getH H 3=some (.own 3 1 (hi.map (.int .i64))) ->
    FrzL H [.p (QM p.globals),.p (.sl (p.procs.map fun f => .agg f.cells)),.hd 1 0 b.length,.hd 2 0 lo.length,.hd 3 0 hi.length] [QM p.globals,.sl (p.procs.map fun f => .agg f.cells),.sl (b.map fun i => .agg i.cells),QD lo,QD hi]:=fun H g1 g2 g3 =>
   .cons (.p (Sub.refl _)) (.cons (.p (Sub.refl _)) (.cons (.hd g1 (by simp)) (.cons (.hd g2 (by simp)) (.cons (.hd g3 (by simp)) .nil))))
  refine Frz.ptr (off:=0) rfl rfl fun m l c hl hc => ?_;obtain ⟨l',h7,h8⟩:=(hF (v1r 181 177 3 p b lo hi) rfl rfl rfl).get.2 m c hc;have h9:=h7.symm.trans hl;cases h9;exact h8
theorem IdxK.at {es:List AV} {sz k:Nat} {e:AV} {n:Int} {K:List AV->Prop} (hn:n=k) (he:es[k]? = some e) (hs:e.cells.length=sz) (h:K e.cells):IdxK es sz n K:=⟨k,e,hn,he,hs,h⟩
theorem UY {l:List Int} {k:Nat} {n:Int} (h:l[k]? = some n):(l.map (AV.int .i64))[k]? = some (.int .i64 n):=by simp [h]
def KM (l:List Item):AV := .sl (l.map fun i => .agg i.cells)
theorem x5k (s:Sheet) (i lo hi:Nat) (h1:s.lo[i]? = some ((lo:Int)+1)) (h2:s.hi[i]? = some ((hi:Int)+1)) (h3:lo<=hi) (h4:hi<=s.l.length) (h5:s.l.length<=1000):SpecP Tryz.prog 229 [.ip s.cells,.int .i64 i] (fun r=>r=KM ((s.l.take hi).drop lo)):=by
 refine sB q7m Tryz.func229 rfl Tryz.call229 ?_;conv=>whnf
 repeat' ((first|refine dA ?_|refine wI ?_|(refine IdxK.at rfl (UY h1) rfl ?_)|(refine IdxK.at rfl (UY h2) rfl ?_)|refine And.intro (fun e he=>by obtain ⟨x,_,rfl⟩:=List.mem_map.1 he;rfl) (SlK.mk lo hi (by simp) (by simp) h3 (by simpa using h4) ?_));conv=>whnf)
 exact RetK.p (by simp [KM,List.map_take,List.map_drop])
theorem q6f (s:Sheet) (i lo hi:Nat) (h1:s.lo[i]? = some ((lo:Int)+1)) (h2:s.hi[i]? = some ((hi:Int)+1)):SpecP Tryz.prog 196 [.ip s.cells,.int .i64 i] (fun r=>r = .int .i64 (if lo<hi then (lo:Int)+1 else -1)):=by
 refine sB q1h Tryz.func196 rfl Tryz.call196 ?_;conv=>whnf
 repeat' (first|((first|refine dA ?_|(refine IdxK.at rfl (UY h1) rfl ?_)|(refine IdxK.at rfl (UY h2) rfl ?_));conv=>whnf)|(apply bD<;>intro _<;>first|omega|conv=>whnf))
 ·exact RetK.int (by rw [if_pos (by omega)])
 ·exact RetK.int (by rw [if_neg (by omega)])
theorem UT (l:List Str) (g:Nat) (c:AV) (p:Str->Bool) (hp : ∀ s,SpecP Tryz.prog g [.str s,c] (fun r=>r = .bool (p s))):SpecP Tryz.prog 302 [QM l,.fn g [c]] (fun r=>r = .int .i64 (x2y p l)):=by
 refine sB UU Tryz.func302 rfl Tryz.call302 ?_;conv=>whnf
 refine iM fun _=>?_;have hl:(l.map AV.str).length=l.length:=length_map _;conv=>whnf
 refine LoopK.inv QX (fun j:Nat=>⟨[(0,.p (QM l)),(1,.p (.fn g [c])),(7,.p (.int .i64 (l.map AV.str).length)),(8,.p (.int .i64 j))],[]⟩) (fun j=>j<=l.length∧(l.drop j).any p=l.any p∧l.findIdx p=j+(l.drop j).findIdx p) (fun j=>l.length-j) 0 (Le.of_eq rfl) ⟨zero_le _,rfl,by simp⟩ ?_;rintro j ⟨h2,h3,h4⟩;conv=>whnf
 repeat' (first|((first|(refine iA fun _=>?_)|refine wI ?_|refine cP (hp _) ?_);conv=>whnf)|(apply bD<;>intro _<;>first|omega|conv=>whnf)|(apply bB<;>intro _<;>conv=>whnf))
 ·exact RetK.int (x4z (p:=p) (by omega) (by assumption) h3 h4).symm
 ·exact ⟨j+1,⟨by omega,by rw [<- h3,q5s (p:=p) (by omega) (by assumption)],by rw [h4,w9u (p:=p) (by omega) (by assumption)];omega⟩,by omega,Le.of_eq rfl⟩
 ·exact RetK.int (by rw [z1b];rw [<- h3,PW (by omega)])
theorem VA (l:List Str) (g:Nat) (c:AV) (p:Str->Bool) (hp : ∀ s,SpecP Tryz.prog g [.str s,c] (fun r=>r = .bool (p s))):SpecP Tryz.prog 227 [QM l,.fn g [c]] (fun r=>r = .bool (l.any p)):=by
 refine sB VW Tryz.func227 rfl Tryz.call227 ?_;conv=>whnf
 repeat' (refine cP (UT _ _ _ p hp) ?_;conv=>whnf)
 exact RetK.bool x0u
theorem XI (l:List Pr) (g:Nat) (c:AV) (p:Pr->Bool) (hp : ∀ s:Pr,SpecP Tryz.prog g [.agg s.cells,c] (fun r=>r = .bool (p s))):SpecP Tryz.prog 155 [.sl (l.map fun f => .agg f.cells),.fn g [c]] (fun r=>r = .int .i64 (x2y p l)):=by
 refine sB WC Tryz.func155 rfl Tryz.call155 ?_;conv=>whnf
 refine iM fun _=>?_;have hl:(l.map fun f=>AV.agg f.cells).length=l.length:=length_map _;conv=>whnf
 refine LoopK.inv QX (fun j:Nat=>⟨[(0,.p (.sl (l.map fun f => .agg f.cells))),(1,.p (.fn g [c])),(7,.p (.int .i64 (l.map fun f=>AV.agg f.cells).length)),(8,.p (.int .i64 j))],[]⟩) (fun j=>j<=l.length∧(l.drop j).any p=l.any p∧l.findIdx p=j+(l.drop j).findIdx p) (fun j=>l.length-j) 0 (Le.of_eq rfl) ⟨zero_le _,rfl,by simp⟩ ?_;rintro j ⟨h2,h3,h4⟩;conv=>whnf
 repeat' (first|((first|(refine iA fun _=>?_)|refine wI ?_|refine cP (hp _) ?_);conv=>whnf)|(apply bD<;>intro _<;>first|omega|conv=>whnf)|(apply bB<;>intro _<;>conv=>whnf))
 ·exact RetK.int (x4z (p:=p) (by omega) (by assumption) h3 h4).symm
 ·exact ⟨j+1,⟨by omega,by rw [<- h3,q5s (p:=p) (by omega) (by assumption)],by rw [h4,w9u (p:=p) (by omega) (by assumption)];omega⟩,by omega,Le.of_eq rfl⟩
 ·exact RetK.int (by rw [z1b];rw [<- h3,PW (by omega)])
theorem WR (l:List Pr) (g:Nat) (c:AV) (p:Pr->Bool) (hp : ∀ s:Pr,SpecP Tryz.prog g [.agg s.cells,c] (fun r=>r = .bool (p s))):SpecP Tryz.prog 351 [.sl (l.map fun f => .agg f.cells),.fn g [c]] (fun r=>r = .bool (l.any p)):=by
 refine sB WU Tryz.func351 rfl Tryz.call351 ?_;conv=>whnf
 repeat' (refine cP (XI _ _ _ p hp) ?_;conv=>whnf)
 exact RetK.bool x0u
theorem x5r (p:Pg) (n:Str):SpecP Tryz.prog 228 [.str n,.ip p.cells] (fun r=>r = .bool (p.globals.any fun s=>n==s)):=by
 refine sB q9u Tryz.func228 rfl Tryz.call228 ?_;conv=>whnf
 repeat' (refine cP (QY _ _) ?_;conv=>whnf)
 exact RetK.p rfl
theorem q3c (n:Str) (f:Pr):SpecP Tryz.prog 156 [.agg f.cells,.ip [.str n]] (fun r=>r = .bool (f.name==n)):=by
 refine sB LH Tryz.func156 rfl Tryz.call156 ?_;conv=>whnf
 skip
 exact RetK.p rfl
theorem x6w (n:Str) (f:Pr):SpecP Tryz.prog 352 [.agg f.cells,.ip [.str n]] (fun r=>r = .bool (f.name==n)):=by
 refine sB q9y Tryz.func352 rfl Tryz.call352 ?_;conv=>whnf
 skip
 exact RetK.p rfl
theorem UZ (s:Sheet) (n:Str):SpecP Tryz.prog 86 [.ip s.cells,.str n] (fun r=>r = .int .i64 (x2y (fun f=>f.name==n) s.p.procs)):=by
 refine sB q4b Tryz.func86 rfl Tryz.call86 ?_;conv=>whnf
 repeat' (refine cP (XI _ _ _ (fun f=>f.name==n) (fun f=>q3c n f)) ?_;conv=>whnf)
 exact RetK.p rfl
theorem UH {es:List AV} {n:Nat} {K:Prop} (xs:List Str) (hn:n=es.length) (hb:es.length+xs.length<=8796093022208) (hK:K):AppK es (xs.map .str) n (xs.map AV.str).length 1 16 K :=
 .mk hn rfl (by rw [hn];simp;omega) (by rw [hn];simp [maxLen];omega) (fun x hx=>by obtain ⟨y,_,rfl⟩:=List.mem_map.1 hx;exact ⟨rfl,rfl⟩) hK
theorem XW {es:List AV} {n:Nat} {K:Prop} {s:Str} (hn:n=es.length) (hb:es.length<=8796093022000) (hK:K):AppK es [.str s] n 1 1 16 K :=
 .mk hn rfl (by omega) (by simp only [maxLen];omega) (fun x hx=>by rcases List.mem_singleton.1 hx with rfl;exact ⟨rfl,rfl⟩) hK
theorem XO {es:List AV} {n:Nat} {K:Prop} {s:Int} (hn:n=es.length) (hb:es.length<=8796093022000) (hK:K):AppK es [.int .i64 s] n 1 1 8 K :=
 .mk hn rfl (by omega) (by simp only [maxLen];omega) (fun x hx=>by rcases List.mem_singleton.1 hx with rfl;exact ⟨rfl,rfl⟩) hK
mutual
def x3v:X->List Str->List Str
 | .mk op _ name kids,out=>HK kids (if op=2∧(out.any fun s=>name==s)=false then out++[name] else out)
def HK:List X->List Str->List Str
 | [],out=>out
 | x::r,out=>HK r (x3v x out)
end
theorem x4j (x:X) (out:List Str):x3v x out=HK x.kids (if x.op=2∧(out.any fun s=>x.name==s)=false then out++[x.name] else out):=by
 cases x;rw [x3v];rfl
theorem x2m {l:List X} {j:Nat} {out:List Str} (hj:j<l.length):HK (l.drop j) out=HK (l.drop (j+1)) (x3v l[j] out):=by
 rw [QH hj,HK]
theorem x8o {l:List X} {j:Nat} {out:List Str} (hj:l.length<=j):HK (l.drop j) out=out:=by
 rw [drop_eq_nil_of_le hj,HK]
theorem q4d {n:Nat} {x:X} (h:VU (n+1) x=true):x.kids.length<=2∧(x.op=2->x.kids.length=0) ∧ ∀ k∈x.kids,VU n k=true:=by
 rw [VU] at h;simp only [Bool.and_eq_true,decide_eq_true_eq] at h;obtain ⟨h1,h2⟩:=h;refine ⟨?_,fun he => ?_,?_⟩
 ·unfold q6p at h1;(repeat' split at h1)<;>omega
 ·unfold q6p at h1;rw [if_pos (by omega)] at h1;omega
 ·by_cases h3:x.op=1
  ·have:x.kids.length=0:=by unfold q6p at h1;rw [if_pos (by omega)] at h1;omega
   rw [List.eq_nil_of_length_eq_zero this];simp
  ·by_cases h4:x.op=2
   ·have:x.kids.length=0:=by unfold q6p at h1;rw [if_pos (by omega)] at h1;omega
    rw [List.eq_nil_of_length_eq_zero this];simp
   ·rw [if_neg h3,if_neg h4] at h2;simp only [Bool.and_eq_true] at h2;exact List.all_eq_true.1 h2.2
theorem z3x : ∀ (n:Nat) (x:X) (out:List Str),VU n x=true->out.length<=(x3v x out).length∧(x3v x out).length<=out.length+2 ^ n:=by
 intro n;induction n with
 | zero=>intro x out h;rw [VU] at h;cases h
 | succ n ih =>
   intro x out h;obtain ⟨h1,h2,h3⟩:=q4d h;have key : ∀ (l:List X) (o:List Str),(∀ k∈l,VU n k=true)->o.length<=(HK l o).length∧(HK l o).length<=o.length+l.length*2 ^ n:=by
    intro l;induction l with
    | nil=>intro o _;simp [HK]
    | cons k r ihl =>
      intro o hk;rw [HK];have h5:=ih k o (hk k (by simp));have h6:=ihl (x3v k o) fun k hk'=>hk k (by simp [hk']);simp only [length_cons,Nat.add_mul,Nat.one_mul];omega
   rw [x4j];have hp:2 ^ (n+1)=2*2 ^ n:=by rw [Nat.pow_succ];omega
   have hpos:0<2 ^ n:=Nat.pow_pos (by decide);have h4:=key x.kids (if x.op=2∧(out.any fun s=>x.name==s)=false then out++[x.name] else out) h3;have h5:x.kids.length*2 ^ n<=2*2 ^ n:=Nat.mul_le_mul_right _ h1;split at h4
   ·rename_i hc;have:=h2 hc.1;rw [this] at h4;rw [if_pos hc];simp only [length_append,List.length_singleton] at h4;omega
   ·rename_i hc;rw [if_neg hc];omega
def x4u (t:Nat) (out:List Str):Heap:=[(2000,.own t 1 (out.map .str))]
theorem z0l : ∀ (n:Nat) (_:n<=20) (x:X) (_:VU n x=true) (out:List Str) (_:out.length+2 ^ n<=1073741824),
  SpecH Tryz.prog 309 [.p (.agg x.cells),.hd 2000 0 out.length] (x4u 9 out) (fun r H=>r = .hd 2000 0 (x3v x out).length∧H=x4u 9 (x3v x out)):=by
 intro n;induction n with
 | zero=>intro _ x h;rw [VU] at h;cases h
 | succ n ih =>
   intro hn x hx out ho;have hp:2 ^ (n+1)=2*2 ^ n:=by rw [Nat.pow_succ];omega
   have hpos:0<2 ^ n:=Nat.pow_pos (by decide);obtain ⟨hk1,hk2,hk3⟩:=q4d hx;have hxl:=X.avs_len x.kids;refine sH x4s Tryz.func309 rfl Tryz.call309 ?_;conv=>whnf
   repeat' (first|((first|(refine iM fun _=>?_)|refine And.intro rfl ?_|refine aD ?_|refine bP ?_|(refine QG (QY out x.name) (.cons (.hd rfl (by simp)) (.cons (.p (Sub.refl _)) .nil)) (by rintro _ rfl;rfl) ?_;rintro _ rfl)|refine AppK.mk (by simp) rfl (by show (out.length+1)*16<=140737488355328;omega) (by show out.length+1<=9223372036854775807;omega) (fun x hx=>by rcases List.mem_singleton.1 hx with rfl;exact ⟨rfl,rfl⟩) ?_);conv=>whnf)|(apply bD<;>intro _<;>first|omega|conv=>whnf)|(apply bN<;>intro _<;>conv=>whnf))
   all_goals
    have hmul : ∀ j,j<x.kids.length->(x.kids.length-j)*2 ^ n=(x.kids.length-(j+1))*2 ^ n+2 ^ n:=fun j hj=>by
     rw [show x.kids.length-j=(x.kids.length-(j+1))+1 by omega,Nat.add_mul,Nat.one_mul]
    have hmul0:x.kids.length*2 ^ n<=2*2 ^ n:=Nat.mul_le_mul_right _ hk1;first
    | refine LoopK.inv QX (fun i:Nat×List Str=>⟨[(1,.hd 2000 0 i.2.length),(23,.p (.sl (X.avs x.kids))),(24,.p (.int .i64 (X.avs x.kids).length)),(25,.p (.int .i64 i.1))],x4u 9 i.2⟩) (fun i=>i.1<=x.kids.length∧HK (x.kids.drop i.1) i.2=x3v x out∧i.2.length+(x.kids.length-i.1)*2 ^ n<=1073741824) (fun i=>x.kids.length-i.1) (0,out++[x.name]) (Le.of_eq (by simp [x4u];exact ⟨rfl,rfl⟩)) ⟨zero_le _,by simp only [drop_zero];rw [x4j,if_pos ⟨by assumption,by assumption⟩],by have:=hk2 (by assumption);simp [this];omega⟩ ?_
    | refine LoopK.inv QX (fun i:Nat×List Str=>⟨[(1,.hd 2000 0 i.2.length),(23,.p (.sl (X.avs x.kids))),(24,.p (.int .i64 (X.avs x.kids).length)),(25,.p (.int .i64 i.1))],x4u 9 i.2⟩) (fun i=>i.1<=x.kids.length∧HK (x.kids.drop i.1) i.2=x3v x out∧i.2.length+(x.kids.length-i.1)*2 ^ n<=1073741824) (fun i=>x.kids.length-i.1) (0,out) (Le.of_eq rfl) ⟨zero_le _,by simp only [drop_zero];rw [x4j,if_neg (by simp [*])],by simp only [Nat.sub_zero];omega⟩ ?_
    rintro ⟨j,acc⟩ ⟨h2,h3,h4⟩;simp only at h2 h3 h4 ⊢;conv=>whnf
    repeat' (first|((first|refine And.intro rfl ?_|refine IdxK.xs (by omega) ?_);conv=>whnf)|(apply bD<;>intro _<;>first|omega|conv=>whnf))
    all_goals first
     | (rw [x8o (by omega)] at h3
        exact ⟨_,.refl _,by rw [h3];exact ⟨rfl,rfl⟩⟩)
     | (have hj:j<x.kids.length:=by omega
        have hm:=hmul j hj;have hg:=z3x n x.kids[j] acc (hk3 _ (List.getElem_mem hj));refine CallK.heap [(2000,2000)] 0 (by repeat' (first|exact ArgsH.nil|refine ArgsH.cons ?_ ?_|exact LSub.refl _|exact LSub.p Sub.nils|exact LSub.p (Sub.tt rfl)|exact LSub.p (Sub.ff rfl)|exact LSub.p (Sub.int (by omega)))) (by refine BlksH.cons (j:=2000) rfl rfl ?_ ?_;exact CSub.refl _;exact BlksH.nil) (ih (by omega) x.kids[j] (hk3 _ (List.getElem_mem hj)) acc (by omega)) rfl rfl ?_;rintro l' H' ⟨rfl,rfl⟩;conv=>whnf
        refine wI ?_;conv=>whnf
        exact ⟨(j+1,x3v x.kids[j] acc),⟨by simp only;omega,by simp only;rw [<- h3,x2m hj],by simp only;omega⟩,by simp only;omega,Le.of_eq rfl⟩)
def WD (x:X):List Str:=bif w3k x then x3v x [] else []
theorem JF (x:X):(WD x).length<=1048576:=by
 unfold WD;cases h:w3k x with
 | false=>simp
 | true =>
   have:=(z3x 20 x [] h).2;simpa using this
theorem x2n (x:X):SpecP Tryz.prog 242 [.agg x.cells] (fun r=>r=QM (WD x)):=by
 refine sB x8x Tryz.func242 rfl Tryz.call242 ?_;conv=>whnf
 repeat' (first|(refine cP (q5t _) ?_;conv=>whnf)|(apply bN<;>intro _<;>conv=>whnf))
 ·refine CallK.nil 5 9 1 rfl (.cons rfl (.row .nil)) ?_;refine CallK.heap [(2000,5)] 0 (by repeat' (first|exact ArgsH.nil|refine ArgsH.cons ?_ ?_|exact LSub.refl _|exact LSub.p Sub.nils|exact LSub.p (Sub.tt rfl)|exact LSub.p (Sub.ff rfl)|exact LSub.p (Sub.int (by omega)))) (by refine BlksH.cons (j:=5) rfl rfl ?_ ?_;exact CSub.refl _;exact BlksH.nil) (z0l 20 (by omega) x (by assumption) [] (by simp)) rfl rfl ?_;rintro l' H' ⟨rfl,rfl⟩;conv=>whnf
  refine ⟨_,.hd rfl (by simp),?_⟩;unfold WD;rw [show w3k x=true by assumption];rfl
 ·refine ⟨_,.p Sub.nils,?_⟩;unfold WD;rw [show w3k x=false by assumption];rfl
def JQ (a:Arg):List Str:=(bif a.ref then [a.name] else [])++WD a.x
def DM (t:S):List Str:=(bif t.kind≠10 && !(t.name==[]) then [t.name] else [])++WD t.x
def WV (t:S):List Str:=DM t++t.args.flatMap JQ
theorem z8j (a:Arg):(JQ a).length<=1048577:=by
 have:=JF a.x;unfold JQ;cases a.ref<;>simp<;>omega
theorem z7c (t:S):(DM t).length<=1048577:=by
 have:=JF t.x;unfold DM;cases (t.kind≠10 && !(t.name==[]):Bool)<;>simp<;>omega
theorem q8z {α β:Type} {f:α->List β} {c:Nat} (h : ∀ a,(f a).length<=c) : ∀ l:List α,(l.flatMap f).length<=l.length*c
 | []=>by simp
 | x::r=>by
   have:=q8z h r;have:=h x;simp only [List.flatMap_cons,length_append,length_cons,Nat.add_mul,Nat.one_mul];omega
def x6f (t:S) (j:Nat):List Str:=DM t++(t.args.take j).flatMap JQ
theorem z4e (t:S) {j:Nat} (h:j<=t.args.length) (ha:t.args.length<=20000):(x6f t j).length<=21000000000:=by
 have h1:=z7c t;have h2:=q8z z8j (t.args.take j);have h3:(t.args.take j).length*1048577<=20000*1048577:=Nat.mul_le_mul_right _ (by simp;omega);unfold x6f;simp only [length_append];omega
theorem x8k {t:S} {j:Nat} (hj:j<t.args.length):x6f t (j+1)=x6f t j++JQ t.args[j]:=by
 unfold x6f;rw [List.take_succ_eq_append_getElem hj,List.flatMap_append,List.append_assoc];simp
def DT (t:S) (tS:Nat) (j:Nat):St:=⟨[(3,.hd 0 0 (x6f t j).length),(25,.p (.sl (t.args.map fun a => .agg a.cells))),(26,.p (.int .i64 (t.args.map fun a=>AV.agg a.cells).length)),(27,.p (.int .i64 j))],[(0,.own tS 1 ((x6f t j).map .str))]⟩
theorem x1k (t:S) (ha:t.args.length<=20000):SpecP Tryz.prog 303 [.agg t.cells] (fun r=>r=QM (WV t)):=by
 refine sB x9t Tryz.func303 rfl Tryz.call303 ?_;conv=>whnf
 repeat' (first|((first|(refine iM fun _=>?_)|refine cP (x2n _) ?_|refine And.intro rfl ?_|refine aD ?_|refine bP ?_|refine UH _ (by simp) (by have:=JF t.x;simp;omega) ?_|refine XW (by simp) (by simp) ?_);conv=>whnf)|(apply bE<;>intro _<;>first|omega|conv=>whnf)|(apply bN<;>intro _<;>conv=>whnf))
 all_goals
  have hl:(t.args.map fun a=>AV.agg a.cells).length=t.args.length:=length_map _;refine LoopK.inv QX (DT t 9) (fun j=>j<=t.args.length) (fun j=>t.args.length-j) 0 (Le.of_eq ?_) (zero_le _) ?_
  ·first
    | (have e:x6f t 0=WD t.x:=by simp [x6f,DM,show t.kind=10 by assumption]
       rw [DT,e];simp only [Nat.zero_add,length_map,length_append,List.map_append,nil_append];rfl)
    | (have e:x6f t 0=WD t.x:=by simp [x6f,DM,show t.name=[] by simpa using (show (t.name==[])=true by assumption)]
       rw [DT,e];simp only [Nat.zero_add,length_map,length_append,List.map_append,nil_append];rfl)
    | (have e:x6f t 0=[t.name]++WD t.x:=by
        have:(t.name==[])=false:=by assumption
        simp [x6f,DM,show ¬t.kind=10 by assumption,this]
       rw [DT,e];simp only [Nat.zero_add,length_map,length_append,List.map_append,nil_append];rfl)
  intro j h2;have hacc:=z4e t h2 ha;conv=>whnf
  repeat' (first|((first|refine cP (x2n _) ?_|refine And.intro rfl ?_|refine aD ?_|refine bP ?_|(refine iA fun _=>?_)|refine wI ?_|refine UH _ (by simp) (by have:=JF (t.args[j]'(by omega)).x;simp;omega) ?_|refine XW (by simp) (by simp;omega) ?_);conv=>whnf)|(apply bD<;>intro _<;>first|omega|conv=>whnf)|(apply bB<;>intro _<;>conv=>whnf))
  all_goals first
   | exact ⟨_,.hd rfl (by simp),by
      have:t.args.take j=t.args:=take_of_length_le (by omega);rw [WV,<- this];rfl⟩
   | (have hj:j<t.args.length:=by omega
      have hst:=x8k hj;refine ⟨j+1,by show j+1<=_;omega,by show t.args.length-(j+1)<t.args.length-j;omega,Le.of_eq ?_⟩;first
       | (have hn:JQ t.args[j]=[t.args[j].name]++WD t.args[j].x:=by rw [JQ,show t.args[j].ref=true by assumption];rfl
          rw [DT,hst,hn];simp only [length_append,List.map_append,length_map,<- List.append_assoc,<- Nat.add_assoc];rfl)
       | (have hn:JQ t.args[j]=WD t.args[j].x:=by rw [JQ,show t.args[j].ref=false by assumption];rfl
          rw [DT,hst,hn];simp only [length_append,List.map_append,length_map];rfl))
def w3c:List Str->Nat
 | []=>0
 | s::r=>1+w3c r
mutual
def wX:X->Nat
 | .mk _ _ name kids=>1+wXs kids
def wXs:List X->Nat
 | []=>0
 | x::r=>wX x+wXs r
end
def x4i:List Arg->Nat
 | []=>0
 | a::r=>wX a.x+1+x4i r
mutual
def wS:S->Nat
 | .mk _ _ labels name proc x _ args thn els=>wX x+w3c labels+1+1+x4i args+wL thn+wL els
def wL:List S->Nat
 | []=>0
 | s::r=>wS s+wL r
end
def v0i:List Param->Nat
 | []=>0
 | a::r=>1+v0i r
def wPr (f:Pr):Nat:=1+w3c f.vars+w3c f.fin+v0i f.params+wL f.body
def w8w:List Pr->Nat
 | []=>0
 | f::r=>wPr f+w8w r
def wPg (p:Pg):Nat:=w3c p.globals+w8w p.procs
def Fit (p:Pg):Prop:=wPg p<=20000
theorem DF : ∀ l:List Str,l.length<=w3c l
 | []=>zero_le _
 | s::r=>by have:=DF r;simp only [length_cons,w3c];omega
theorem JS : ∀ l:List Arg,l.length<=x4i l
 | []=>zero_le _
 | s::r=>by have:=JS r;simp only [length_cons,x4i];omega
theorem x5l (s:S):wS s=wX s.x+w3c s.labels+1+1+x4i s.args+wL s.thn+wL s.els:=by
 cases s;rw [wS];rfl
mutual
theorem v2h : ∀ s:S,ZV s<=wS s
 | .mk id kind labels name proc x has args thn els=>by
   have:=z5l thn;have:=z5l els;rw [ZV,wS];omega
theorem z5l : ∀ l:List S,QV l<=wL l
 | []=>by rw [QV,wL];exact Nat.le_refl _
 | s::r=>by
   have:=v2h s;have:=z5l r;rw [QV,wL];omega
end
theorem z9q : ∀ {l:List Pr} {f:Pr},f∈l->wPr f<=w8w l
 | g::r,f,h=>by
   simp only [w8w];rcases List.mem_cons.1 h with rfl|h
   ·omega
   ·have:=z9q h;omega
theorem Fit.pr {p:Pg} (h:Fit p) {f:Pr} (hf:f∈p.procs):wPr f<=20000:=by
 have:=z9q hf;unfold Fit wPg at h;omega
mutual
def flS:S->List S
 | .mk id kind labels name proc x has args thn els => .mk id kind labels name proc x has args thn els::(flL thn++flL els)
def flL:List S->List S
 | []=>[]
 | s::r=>flS s++flL r
end
theorem w7m (s:S):flS s=s::(flL s.thn++flL s.els):=by
 cases s;rw [flS];rfl
mutual
theorem v0q : ∀ s:S,(flS s).length=ZV s
 | .mk id kind labels name proc x has args thn els=>by
   rw [flS,ZV,length_cons,length_append,x0z thn,x0z els];omega
theorem x0z : ∀ l:List S,(flL l).length=QV l
 | []=>by rw [flL,QV];rfl
 | s::r=>by rw [flL,QV,length_append,v0q s,x0z r]
end
mutual
theorem v3o : ∀ (s t:S),t∈flS s->wS t<=wS s
 | .mk id kind labels name proc x has args thn els,t,h=>by
   rw [flS] at h;rcases List.mem_cons.1 h with rfl|h
   ·exact Nat.le_refl _
   ·rw [wS];rcases List.mem_append.1 h with h|h
    ·have:=x0k thn t h;omega
    ·have:=x0k els t h;omega
theorem x0k : ∀ (l:List S) (t:S),t∈flL l->wS t<=wL l
 | [],t,h=>by rw [flL] at h;cases h
 | s::r,t,h=>by
   rw [flL] at h;rw [wL];rcases List.mem_append.1 h with h|h
   ·have:=v3o s t h;omega
   ·have:=x0k r t h;omega
end

mutual
def itS (proc up nx loop:Int) (n:Nat):S->List Item
 | .mk id kind labels name pr x has args thn els =>
   ⟨.mk id kind labels name pr x has args thn els,proc,up,nx,loop⟩::(itL proc (n+1) (if kind=6 then n+1 else nx) (if kind=6 then n+1 else loop) (n+1) thn ++
     itL proc (n+1) (if kind=6 then n+1 else nx) (if kind=6 then n+1 else loop) (n+1+QV thn) els)
def itL (proc up nx loop:Int) (n:Nat):List S->List Item
 | []=>[]
 | t::r=>itS proc up (if r.isEmpty then nx else n+1+ZV t) loop n t++itL proc up nx loop (n+ZV t) r
end
theorem w8z (proc up nx loop:Int) (n:Nat) (t:S):itS proc up nx loop n t=⟨t,proc,up,nx,loop⟩::(itL proc (n+1) (if t.kind=6 then n+1 else nx) (if t.kind=6 then n+1 else loop) (n+1) t.thn ++
   itL proc (n+1) (if t.kind=6 then n+1 else nx) (if t.kind=6 then n+1 else loop) (n+1+QV t.thn) t.els):=by
 cases t;rw [itS];rfl
mutual
theorem w8s (proc up nx loop:Int) : ∀ (t:S) (acc:List Item),q6o proc up nx loop acc t=acc++itS proc up nx loop acc.length t
 | .mk id kind labels name pr x has args thn els,acc=>by
   rw [q6o,itS,q1e _ _ _ _ thn,q1e _ _ _ _ els];simp only [length_append,length_cons,List.length_nil,List.append_assoc,List.cons_append,nil_append,ZH proc _ _ _ _ thn,Nat.zero_add,Nat.add_assoc,Nat.add_comm (QV thn) 1]
theorem q1e (proc up nx loop:Int) : ∀ (l:List S) (acc:List Item),XN proc up nx loop acc l=acc++itL proc up nx loop acc.length l
 | [],acc=>by rw [XN,itL,List.append_nil]
 | t::r,acc=>by
   rw [XN,itL,w8s _ _ _ _ t,q1e _ _ _ _ r];simp only [length_append,List.append_assoc,z2g proc _ _ _ _ t]
theorem z2g (proc up nx loop:Int) (n:Nat) : ∀ t:S,(itS proc up nx loop n t).length=ZV t
 | .mk id kind labels name pr x has args thn els=>by
   rw [itS,ZV,length_cons,length_append,ZH _ _ _ _ _ thn,ZH _ _ _ _ _ els];omega
theorem ZH (proc up nx loop:Int) (n:Nat) : ∀ l:List S,(itL proc up nx loop n l).length=QV l
 | []=>by rw [itL,QV];rfl
 | t::r=>by rw [itL,QV,length_append,z2g _ _ _ _ _ t,ZH _ _ _ _ _ r]
end
mutual
theorem v5z (proc up nx loop:Int) (n:Nat) : ∀ t:S,(itS proc up nx loop n t).map Item.s=flS t
 | .mk id kind labels name pr x has args thn els=>by
   rw [itS,flS,List.map_cons,List.map_append,q0g _ _ _ _ _ thn,q0g _ _ _ _ _ els]
theorem q0g (proc up nx loop:Int) (n:Nat) : ∀ l:List S,(itL proc up nx loop n l).map Item.s=flL l
 | []=>by rw [itL,flL];rfl
 | t::r=>by rw [itL,flL,List.map_append,v5z _ _ _ _ _ t,q0g _ _ _ _ _ r]
end
def QR:List Pr->Nat->Nat
 | _,0=>0
 | [],_+1=>0
 | f::r,i+1=>QV f.body+QR r i
theorem x9f : ∀ (l:List Pr) (i:Nat) (acc:List Item) (lo hi:List Int),lo.length=i->hi.length=i ->
  (x0l i acc lo hi l).2.1.length=i+l.length∧(x0l i acc lo hi l).2.2.length=i+l.length ∧
  (∀ k,k<i->(x0l i acc lo hi l).2.1[k]? = lo[k]? ∧ (x0l i acc lo hi l).2.2[k]? = hi[k]?) ∧ ∃ L,(x0l i acc lo hi l).1=acc++L∧L.length=cntP l ∧
  ∀ (k:Nat) (f:Pr),l[k]? = some f->(x0l i acc lo hi l).2.1[i+k]? = some ((acc.length+QR l k:Nat)+1:Int)∧(x0l i acc lo hi l).2.2[i+k]? = some ((acc.length+QR l k+QV f.body:Nat)+1:Int) ∧
   QR l k+QV f.body<=cntP l∧(L.take (QR l k+QV f.body)).drop (QR l k)=itL (i+k:Nat) 0 (-1) 0 (acc.length+QR l k) f.body
 | [],i,acc,lo,hi,h1,h2=>by
   rw [x0l];exact ⟨by simpa using h1,by simpa using h2,fun _ _=>⟨rfl,rfl⟩,[],by simp,rfl,fun k f h=>by simp at h⟩
 | f::r,i,acc,lo,hi,h1,h2=>by
   rw [x0l];have hrow:=q1e i 0 (-1) 0 f.body acc;have hlen:=XJ i 0 (-1) 0 acc f.body;obtain ⟨h3,h4,h5,L,h6,h7,h8⟩:=x9f r (i+1) (XN i 0 (-1) 0 acc f.body) (lo++[(acc.length:Int)+1]) (hi++[((XN i 0 (-1) 0 acc f.body).length:Int)+1]) (by simp [h1]) (by simp [h2]);refine ⟨by rw [h3,length_cons];omega,by rw [h4,length_cons];omega,fun k hk => ?_,itL i 0 (-1) 0 acc.length f.body++L,?_,?_,fun k g hg => ?_⟩
   ·obtain ⟨h9,h10⟩:=h5 k (by omega);rw [h9,h10,List.getElem?_append_left (by omega),List.getElem?_append_left (by omega)];exact ⟨rfl,rfl⟩
   ·rw [h6,hrow,List.append_assoc]
   ·rw [length_append,h7,ZH,cntP]
   ·cases k with
    | zero =>
      simp only [List.getElem?_cons_zero,Option.some.injEq] at hg;subst hg;obtain ⟨h9,h10⟩:=h5 i (by omega);simp only [Nat.add_zero,QR,Nat.zero_add,drop_zero];refine ⟨?_,?_,?_,?_⟩
      ·rw [h9,List.getElem?_append_right (by omega),h1];simp
      ·rw [h10,List.getElem?_append_right (by omega),h2,hlen];simp
      ·rw [cntP];omega
      ·rw [List.take_append_of_le_length (by rw [ZH];omega),take_of_length_le (by rw [ZH];omega)]
    | succ k =>
      simp only [List.getElem?_cons_succ] at hg;obtain ⟨h9,h10,h11,h12⟩:=h8 k g hg;rw [hlen] at h12;simp only [QR];refine ⟨?_,?_,?_,?_⟩
      ·rw [show i+(k+1)=i+1+k by omega,h9,hlen];congr 2;omega
      ·rw [show i+(k+1)=i+1+k by omega,h10,hlen];congr 2;omega
      ·rw [cntP];omega
      ·rw [List.take_append,List.drop_append,ZH,take_of_length_le (by rw [ZH];omega),drop_eq_nil_of_le (by rw [ZH];omega),nil_append];simp only [ZH];rw [show QV f.body+QR r k+QV g.body-QV f.body=QR r k+QV g.body by omega,show QV f.body+QR r k-QV f.body=QR r k by omega,h12];rw [show i+(k+1)=i+1+k by omega,show acc.length+(QV f.body+QR r k)=acc.length+QV f.body+QR r k by omega]
theorem QJ (p:Pg):(sheetOf p).p=p∧(sheetOf p).lo.length=p.procs.length∧(sheetOf p).hi.length=p.procs.length∧(sheetOf p).l.length=cntP p.procs ∧
  ∀ (k:Nat) (f:Pr),p.procs[k]? = some f->(sheetOf p).lo[k]? = some ((QR p.procs k:Nat)+1:Int)∧(sheetOf p).hi[k]? = some ((QR p.procs k+QV f.body:Nat)+1:Int) ∧
   QR p.procs k+QV f.body<=cntP p.procs∧((sheetOf p).l.take (QR p.procs k+QV f.body)).drop (QR p.procs k)=itL k 0 (-1) 0 (QR p.procs k) f.body:=by
 obtain ⟨h3,h4,_,L,h6,h7,h8⟩:=x9f p.procs 0 [] [] [] rfl rfl;refine ⟨rfl,by unfold sheetOf;simpa using h3,by unfold sheetOf;simpa using h4,by unfold sheetOf;simp [h6,h7],fun k f hk => ?_⟩;have:=h8 k f hk;unfold sheetOf;simp only [h6,nil_append,List.length_nil,Nat.zero_add] at this ⊢;exact this
mutual
theorem JY (nest seen:Int) : ∀ (s:S) {m:Int},q7x nest seen s=some m->m=seen+ZV s
 | .mk id kind labels name proc x has args thn els,m,h=>by
   simp only [q7x] at h;split at h
   ·cases h
   split at h
   ·cases h
   cases hn:namesB labels<;>rw [hn] at h
   ·cases h
   cases hf:WE (.mk id kind labels name proc x has args thn els)<;>rw [hf] at h
   ·cases h
   simp only [cond_true] at h;split at h
   ·rename_i m1 h1;have h2:=ZC (nest+1) (seen+1) thn h1;have h3:=ZC (nest+1) m1 els h;rw [ZV];omega
   ·cases h
theorem ZC (nest seen:Int) : ∀ (l:List S) {m:Int},ZB nest seen l=some m->m=seen+QV l
 | [],m,h=>by
   simp only [ZB] at h;cases h;rw [QV];simp
 | s::r,m,h=>by
   simp only [ZB] at h;split at h
   ·cases h
   split at h
   ·rename_i m1 h1;have h2:=JY nest seen s h1;have h3:=ZC nest m1 r h;rw [QV];omega
   ·cases h
end
theorem x2r : ∀ (l:List Pr) {seen m:Int},seen<=200->XE seen l=some m->m=seen+cntP l∧m<=200
 | [],seen,m,h0,h=>by rw [XE] at h;cases h;simp [cntP];exact h0
 | f::r,seen,m,h0,h=>by
   rw [XE] at h;cases hm:GW f<;>rw [hm] at h
   ·cases h
   simp only [cond_true] at h;split at h
   ·rename_i m1 h1;have h2:=ZC 1 seen f.body h1;have h3:=x0y 1 seen f.body h0 h1;have h4:=x2r r (by omega) h;rw [cntP];omega
   ·cases h
theorem ZG {p:Pg} (h:VB p=true):p.globals.length<=16∧p.procs.length<=16∧cntP p.procs<=200:=by
 unfold VB at h;simp only [Bool.and_eq_true,decide_eq_true_eq] at h;obtain ⟨⟨⟨h1,h2⟩,_⟩,h3⟩:=h;cases hm:XE 0 p.procs with
 | none=>rw [hm] at h3;cases h3
 | some m =>
   have:=x2r p.procs (by decide) hm;omega
theorem v0f {p:Pg} (h:VB p=true) {f:Pr} (hf:f∈p.procs):GW f=true:=by
 unfold VB at h;simp only [Bool.and_eq_true] at h;have h3:=h.2;have key : ∀ (l:List Pr) (seen:Int),(XE seen l).isSome=true -> ∀ f∈l,GW f=true:=fun l=>by
  induction l with
  | nil=>intro _ _ f hf;cases hf
  | cons g r ih =>
    intro seen h f hf;rw [XE] at h;cases hm:GW g<;>rw [hm] at h
    ·cases h
    simp only [cond_true] at h;split at h
    ·rename_i m1 h1;rcases List.mem_cons.1 hf with rfl|hf
     ·exact hm
     ·exact ih _ h f hf
    ·cases h
 exact key _ _ h3 f hf
def FL (p:Pg) (f:Pr) (name:Str):Int :=
 match f.params.find? (fun a=>a.name==name) with
 | some a=>bif a.ref then 3 else 2
 | none=>bif f.vars.any (fun s=>name==s) then 4 else bif p.globals.any (fun s=>name==s) then 1 else 0
theorem PM {α:Type} {l:List α} {p:α->Bool} {j:Nat} (hj:j<l.length) (h:p l[j]=false):(l.drop (j+1)).find? p=(l.drop j).find? p:=by
 rw [QH hj,List.find?_cons,h]
theorem KC {α:Type} {l:List α} {p:α->Bool} {j:Nat} (hj:j<l.length) (h:p l[j]=true):(l.drop j).find? p=some l[j]:=by
 rw [QH hj,List.find?_cons,h]
theorem KR {α:Type} {l:List α} {p:α->Bool} {j:Nat} (hj:l.length<=j):(l.drop j).find? p=none:=by
 rw [drop_eq_nil_of_le hj];rfl
theorem z6h (p:Pg) (f:Pr) (name:Str):SpecP Tryz.prog 304 [.agg p.cells,.agg f.cells,.str name] (fun r=>r = .int .i64 (FL p f name)):=by
 refine sB x7c Tryz.func304 rfl Tryz.call304 ?_;conv=>whnf
 repeat' (refine iM fun _=>?_;conv=>whnf)
 have hl:(f.params.map fun a=>AV.agg a.cells).length=f.params.length:=length_map _;refine LoopK.inv QX (fun j:Nat=>⟨[(2,.p (.str name)),(3,.p (.ip p.cells)),(4,.p (.ip f.cells)),(10,.p (.sl (f.params.map fun a => .agg a.cells))),(11,.p (.int .i64 (f.params.map fun a=>AV.agg a.cells).length)),(12,.p (.int .i64 j))],[]⟩) (fun j=>j<=f.params.length∧(f.params.drop j).find? (fun a=>a.name==name)=f.params.find? (fun a=>a.name==name)) (fun j=>f.params.length-j) 0 (Le.of_eq rfl) ⟨zero_le _,rfl⟩ ?_;rintro j ⟨h2,h3⟩;conv=>whnf
 repeat' (first|((first|refine cP (QY _ _) ?_|refine And.intro rfl ?_|(refine iA fun _=>?_)|refine wI ?_);conv=>whnf)|(apply bD<;>intro _<;>first|omega|conv=>whnf)|(apply bB<;>intro _<;>conv=>whnf))
 all_goals try have hj:j<f.params.length:=by omega
 all_goals first
  | (exfalso
     have h8:((f.params[j]'(by omega)).name==name)=true:=by assumption
     have h9:((f.params[j]'(by omega)).name==name)=false:=by assumption
     rw [h8] at h9;cases h9)
  | (have e:=KC (p:=fun a:Param=>a.name==name) (by omega) (by assumption)
     rw [h3] at e;exact RetK.int (by unfold FL;rw [e];simp [*]))
  | (refine ⟨j+1,⟨by omega,by rw [<- h3,PM (p:=fun a:Param=>a.name==name) (by omega) (by assumption)]⟩,by omega,Le.of_eq rfl⟩)
  | (have e:f.params.find? (fun a=>a.name==name)=none:=by rw [<- h3,KR (by omega)]
     exact RetK.int (by unfold FL;rw [e];simp [*]))
def mainS:Str:=[109,97,105,110]
def knownB (p:Pg) (f:Pr) (procs:List Str) (t:S):Bool:=(WV t).all (fun n => !(FL p f n==0))&&(decide (t.kind≠4)||(!(t.proc==mainS)&&procs.any fun s=>t.proc==s))
theorem z2v (p:Pg) (f:Pr) (procs:List Str) (t:S) (ha:t.args.length<=20000):SpecP Tryz.prog 230 [.agg p.cells,.agg f.cells,QM procs,.agg t.cells] (fun r=>r = .bool (knownB p f procs t)):=by
 refine sB x4t Tryz.func230 rfl Tryz.call230 ?_;conv=>whnf
 repeat' ((first|(refine iM fun _=>?_)|refine cP (x1k _ ha) ?_);conv=>whnf)
 have hl:((WV t).map AV.str).length=(WV t).length:=length_map _;refine LoopK.inv QX (fun j:Nat=>⟨[(2,.p (QM procs)),(4,.p (.ip p.cells)),(5,.p (.ip f.cells)),(7,.p (.ip t.cells)),(12,.p (QM (WV t))),(13,.p (.int .i64 ((WV t).map AV.str).length)),(14,.p (.int .i64 j))],[]⟩) (fun j=>j<=(WV t).length∧((WV t).drop j).all (fun n => !(FL p f n==0))=(WV t).all (fun n => !(FL p f n==0))) (fun j=>(WV t).length-j) 0 (Le.of_eq rfl) ⟨zero_le _,rfl⟩ ?_;rintro j ⟨h2,h3⟩;conv=>whnf
 repeat' (first|((first|refine cP (z6h _ _ _) ?_|refine cP (QY _ _) ?_|(refine iA fun _=>?_)|refine wI ?_);conv=>whnf)|(apply bD<;>intro _<;>first|omega|conv=>whnf)|(apply bE<;>intro _<;>first|omega|conv=>whnf)|(apply bN<;>intro _<;>conv=>whnf))
 ·exact RetK.ff (by
   have e:=q1y (p:=fun n => !(FL p f n==0)) (l:=WV t) (j:=j) (by omega) (by simp;assumption);rw [knownB,<- h3,e,Bool.false_and])
 ·exact ⟨j+1,⟨by omega,by rw [<- h3,GY (p:=fun n => !(FL p f n==0)) (by omega) (by simp;assumption)]⟩,by omega,Le.of_eq rfl⟩
 all_goals
  have e:(WV t).all (fun n => !(FL p f n==0))=true:=by rw [<- h3,GM (by omega)]
 ·exact RetK.ff (by
   have h8:(t.proc==mainS)=true:=by assumption
   rw [knownB,e,h8];simp [*])
 ·exact RetK.bool (by
   have h8:(t.proc==mainS)=false:=by assumption
   rw [knownB,e,h8];simp [*])
 ·exact RetK.tt (by rw [knownB,e];simp [*])
def BN (c at_:Int):AV := .agg [.int .i64 c,.int .i64 at_]
def procsN (p:Pg):List Str:=p.procs.map Pr.name
def WQ (p:Pg):Bool:=XH p.globals||(XH (procsN p)||(!((procsN p).any fun s=>mainS==s)||match p.procs.find? (fun f=>mainS==f.name) with
 | some f=>decide (0<f.params.length)
 | none=>true))
def WI (p:Pg) (f:Pr):Option Int :=
 bif XH (x7m f)||(x7m f).any (fun n=>p.globals.any fun s=>n==s) then some 0 else ((flL f.body).find? fun t => !knownB p f (procsN p) t).map S.id
def QA (p:Pg):Int×Int :=
 bif VB p then bif WQ p then (5,0) else match p.procs.findSome? (WI p) with
  | some a=>(5,a)
  | none=>(0,0)
 else (1,0)
theorem z5n {α:Type} {l:List α} {p:α->Bool} (h:l.any p=true) : ∃ (k:Nat) (hk:k<l.length),x2y p l=k∧p l[k]=true∧l.find? p=some l[k]:=by
 have h1:l.findIdx p<l.length:=by
  rw [List.findIdx_lt_length];exact List.any_eq_true.1 h
 refine ⟨l.findIdx p,h1,by unfold x2y;rw [h];rfl,List.findIdx_getElem,?_⟩;rw [List.find?_eq_some_iff_getElem];exact ⟨List.findIdx_getElem,l.findIdx p,h1,rfl,fun j hj=>by simpa using List.not_of_lt_findIdx hj⟩
theorem w5w {p:Pg} (h:(procsN p).any (fun s=>mainS==s)=true) : ∃ (k:Nat) (hk:k<p.procs.length),x2y (fun s=>mainS==s) (procsN p)=k∧p.procs.find? (fun f=>mainS==f.name)=some p.procs[k]:=by
 have h':p.procs.any (fun f=>mainS==f.name)=true:=by simpa [procsN,List.any_map,Function.comp_def] using h
 obtain ⟨k,hk,h1,_,h2⟩:=z5n h';refine ⟨k,hk,?_,h2⟩;rw [<- h1];unfold x2y;rw [h,h'];simp [procsN,List.findIdx_map,Function.comp_def]
theorem z2d (p:Pg) {j:Nat} {f:Pr} (hj:p.procs[j]? = some f) (hc:cntP p.procs<=1000):SpecP Tryz.prog 229 [.ip (sheetOf p).cells,.int .i64 j] (fun r=>r=KM (itL j 0 (-1) 0 (QR p.procs j) f.body)):=by
 obtain ⟨_,h2,h3,h4,h5⟩:=QJ p;obtain ⟨h6,h7,h8,h9⟩:=h5 j f hj;have:=x5k (sheetOf p) j _ _ h6 h7 (by omega) (by omega) (by omega);rw [h9] at this;exact this
theorem WL (l:List Item):(l.map fun i=>AV.agg i.cells).length=l.length:=length_map _
theorem q8a {α β:Type} {l:List α} {f:α->Option β} {j:Nat} (hj:j<l.length) (h:f l[j]=none):(l.drop (j+1)).findSome? f=(l.drop j).findSome? f:=by
 rw [QH hj,List.findSome?_cons,h]
theorem VL {α β:Type} {l:List α} {f:α->Option β} {j:Nat} {b:β} (hj:j<l.length) (h:f l[j]=some b):(l.drop j).findSome? f=some b:=by
 rw [QH hj,List.findSome?_cons,h]
theorem q5b {α β:Type} {l:List α} {f:α->Option β} {j:Nat} (hj:l.length<=j):(l.drop j).findSome? f=none:=by
 rw [drop_eq_nil_of_le hj];rfl
theorem NJ {q:S->Bool} (l:List Item):(l.find? fun it=>q it.s).map (fun it=>it.s.id)=((l.map Item.s).find? q).map S.id:=by
 rw [List.find?_map];cases h:l.find? (q∘Item.s) with
 | none=>rw [show (l.find? fun it=>q it.s)=none from h];rfl
 | some i=>rw [show (l.find? fun it=>q it.s)=some i from h];rfl
theorem z9x {l:List Pr} {j:Nat} (hj:j<l.length) (h:wPr l[j]<=20000) {a b c d:Int} {n k:Nat} (hk:k<(itL a b c d n l[j].body).length):(itL a b c d n l[j].body)[k].s.args.length<=20000:=by
 have hm:(itL a b c d n l[j].body)[k].s∈flL l[j].body:=by
  rw [<- q0g a b c d n];exact List.mem_map.2 ⟨_,List.getElem_mem hk,rfl⟩
 have h1:=x0k _ _ hm;have h2:=x5l (itL a b c d n l[j].body)[k].s;have h3:=JS (itL a b c d n l[j].body)[k].s.args;unfold wPr at h;omega
theorem QL {H:Heap} {a b c d:Int} (h:a=c) (h':b=d):RetK H (.p (.agg [.int .i64 a,.int .i64 b])) (fun r=>r=BN c d):=⟨_,.p (Sub.refl _),by rw [h,h'];rfl⟩
theorem KV (p:Pg) (hf:Fit p):SpecP Tryz.prog 145 [.agg p.cells] (fun r=>r=BN (QA p).1 (QA p).2):=by
 refine sB x4q Tryz.func145 rfl Tryz.call145 ?_;conv=>whnf
 repeat' (first|((first|(refine iM fun _=>?_)|refine cP (z3h _) ?_|refine And.intro rfl ?_);conv=>whnf)|(apply bN<;>intro _<;>conv=>whnf))
 rotate_left 1
 ·exact QL (by simp [QA, *]) (by simp [QA, *])
 have hm:VB p=true:=by assumption
 obtain ⟨hg,hpl,hcn⟩:=ZG hm;have hl:(p.procs.map fun f=>AV.agg f.cells).length=p.procs.length:=length_map _;have hnl:(procsN p).length=p.procs.length:=by simp [procsN]
 refine LoopK.inv QX (fun i:Nat×List Str=>⟨[(1,.p (.ip p.cells)),(2,.ptr 1 0),(3,.hd 0 0 i.2.length),(18,.p (.sl (p.procs.map fun f => .agg f.cells))),(19,.p (.int .i64 (p.procs.map fun f=>AV.agg f.cells).length)),(20,.p (.int .i64 i.1))],[(0,.own 9 1 (i.2.map .str)),(1,.obj 117 [.p (.int .i64 0),.p (.int .i64 0)])]⟩)
  (fun i=>i.1<=p.procs.length∧i.2=(procsN p).take i.1) (fun i=>p.procs.length-i.1) (0,[])
  (Le.mk [(0,.own 9 1 [])] (by simp [Chunk.new0];rfl) (by simp) (by simp) (.cons (.refl _) (.cons (.refl _) (.cons (.nil mem_cons_self) (.cons (.refl _) (.cons (.refl _) (.cons (.refl _) .nil)))))) (.new mem_cons_self (.cons rfl (.refl _) .nil)))
  ⟨zero_le _,by simp⟩ ?_
 rintro ⟨j,acc⟩ ⟨h2,h3⟩;simp only at h2 h3 ⊢;have hal:acc.length<=16:=by rw [h3];simp;omega
 conv=>whnf
 repeat' (first|((first|refine And.intro rfl ?_|refine aD ?_|refine bP ?_|(refine iA fun _=>?_)|refine wI ?_|refine XW (by simp) (by simp;omega) ?_|(refine QG (WH acc mainS) (.cons (.hd rfl (by simp)) (.cons (.p (Sub.refl _)) .nil)) (by rintro _ rfl;rfl) ?_;rintro _ rfl)|(refine QG (q0m acc) (.cons (.hd rfl (by simp)) .nil) (by rintro _ rfl;rfl) ?_;rintro _ rfl)|refine cP (q0m _) ?_);conv=>whnf)|(apply bD<;>intro _<;>first|omega|conv=>whnf)|(apply bB<;>intro _<;>conv=>whnf))
 ·exact ⟨(j+1,acc++[p.procs[j].name]),⟨by simp only;omega,by simp only;rw [h3,List.take_succ_eq_append_getElem (by omega)];simp [procsN]⟩,by simp only;omega,Le.of_eq (by simp only [length_append,List.map_append];rfl)⟩
 all_goals
  have hacc:acc=procsN p:=by rw [h3,take_of_length_le (by omega)]
  clear h3;subst hacc
 ·have hb:WQ p=true:=by unfold WQ;rw [show XH p.globals=true by assumption];rfl
  exact QL (by unfold QA;rw [hm,hb];rfl) (by unfold QA;rw [hm,hb];rfl)
 ·have hb:WQ p=true:=by unfold WQ;rw [show XH p.globals=false by assumption,show XH (procsN p)=true by assumption];rfl
  exact QL (by unfold QA;rw [hm,hb];rfl) (by unfold QA;rw [hm,hb];rfl)
 ·have hany:((procsN p).any fun s=>mainS==s)=false:=by
   rw [<- x0u];simp;omega
  have hb:WQ p=true:=by unfold WQ;rw [show XH p.globals=false by assumption,show XH (procsN p)=false by assumption,hany];rfl
  exact QL (by unfold QA;rw [hm,hb];rfl) (by unfold QA;rw [hm,hb];rfl)
 have hany:((procsN p).any fun s=>mainS==s)=true:=by
  rw [<- x0u];simp;omega
 obtain ⟨k,hk,hik,hfind⟩:=w5w hany;have hlk:(p.procs.map fun f=>AV.agg f.cells)[k]? = some (.agg p.procs[k].cells):=by simp [hk]
 have hpl2:(p.procs[k].params.map fun a=>AV.agg a.cells).length=p.procs[k].params.length:=length_map _;refine IdxK.at hik hlk rfl ?_;conv=>whnf
 repeat' (first|((first|(refine iM fun _=>?_)|refine And.intro rfl ?_|(refine CallK.pure (FP p (by omega) (by omega)) (.cons (Sub.refl _) .nil) ?_;rintro _ rfl));conv=>whnf)|(apply bD<;>intro _<;>first|omega|conv=>whnf))
 ·have hb:WQ p=true:=by
   unfold WQ;rw [show XH p.globals=false by assumption,show XH (procsN p)=false by assumption,hany,hfind];have:0<p.procs[k].params.length:=by omega
   simp [this]
  exact QL (by unfold QA;rw [hm,hb];rfl) (by unfold QA;rw [hm,hb];rfl)
 have hb:WQ p=false:=by
  unfold WQ;rw [show XH p.globals=false by assumption,show XH (procsN p)=false by assumption,hany,hfind];have : ¬0<p.procs[k].params.length:=by omega
  simp [this]
 have hsc:QA p=match p.procs.findSome? (WI p) with
  | some a=>(5,a)
  | none=>(0,0):=by unfold QA;rw [hm,hb];rfl
 rw [hsc];refine LoopK.inv QX (fun j:Nat=>⟨[(1,.p (.ip p.cells)),(2,.ptr 1 0),(3,.hd 0 0 (procsN p).length),(7,.p (.ip (sheetOf p).cells)),(57,.p (.sl (p.procs.map fun f => .agg f.cells))),(58,.p (.int .i64 (p.procs.map fun f=>AV.agg f.cells).length)),(59,.p (.int .i64 j))],[(0,.own 9 1 ((procsN p).map .str)),(1,.obj 117 [.p (.int .i64 0),.p (.int .i64 0)])]⟩)
  (fun j=>j<=p.procs.length∧(p.procs.drop j).findSome? (WI p)=p.procs.findSome? (WI p)) (fun j=>p.procs.length-j) 0 (Le.of_eq rfl) ⟨zero_le _,rfl⟩ ?_
 clear h2 hik hfind hlk hpl2;rintro j ⟨h2,h3⟩;rcases Nat.lt_or_ge j p.procs.length with hj|hj;rotate_left 1
 ·have e:p.procs.findSome? (WI p)=none:=by rw [<- h3,q5b hj]
  rw [e];conv=>whnf
  repeat' (first|(refine And.intro rfl ?_;conv=>whnf)|(apply bD<;>intro _<;>first|omega|conv=>whnf))
  exact QL rfl rfl
 have hfp:=hf.pr (List.getElem_mem hj);have hmp:=PR.1 (v0f hm (List.getElem_mem hj));conv=>whnf
 repeat' (first|((first|(refine iM fun _=>?_)|refine cP (q0m _) ?_|refine And.intro rfl ?_|(refine iA fun _=>?_)|(refine CallK.pure (w2i (p.procs[j]'hj) (by have:=hmp.1;omega) (by have:=hmp.2.1;omega)) (.cons (Sub.refl _) .nil) ?_;rintro _ rfl)|refine cP (VA (x7m (p.procs[j]'hj)) 228 (.ip p.cells) (fun n=>p.globals.any fun s=>n==s) (x5r p)) ?_|(refine CallK.pure (z2d p (f:=p.procs[j]'hj) (by simp) (by omega)) (.cons (Sub.refl _) (.cons (Sub.refl _) .nil)) ?_;rintro _ rfl));conv=>whnf)|(apply bD<;>intro _<;>first|omega|conv=>whnf)|(apply bB<;>intro _<;>conv=>whnf))
 ·have e:WI p p.procs[j]=some 0:=by
   unfold WI;rw [show XH (x7m p.procs[j])=true by assumption];rfl
  have e2:=VL hj e;rw [h3] at e2;rw [e2];exact QL rfl rfl
 ·have e:WI p p.procs[j]=some 0:=by
   unfold WI;rw [show XH (x7m p.procs[j])=false by assumption,show ((x7m p.procs[j]).any fun n=>p.globals.any fun s=>n==s)=true by assumption];rfl
  have e2:=VL hj e;rw [h3] at e2;rw [e2];exact QL rfl rfl
 have hsa:WI p p.procs[j]=((flL p.procs[j].body).find? fun t => !knownB p p.procs[j] (procsN p) t).map S.id:=by
  unfold WI;rw [show XH (x7m p.procs[j])=false by assumption,show ((x7m p.procs[j]).any fun n=>p.globals.any fun s=>n==s)=false by assumption];rfl
 have hitm : ∀ k (hk:k<(itL (j:Nat) 0 (-1) 0 (QR p.procs j) p.procs[j].body).length),(itL (j:Nat) 0 (-1) 0 (QR p.procs j) p.procs[j].body)[k].s.args.length<=20000:=fun k hk=>z9x hj hfp hk;rw [<- q0g (j:Nat) 0 (-1) 0 (QR p.procs j),<- NJ] at hsa;have hib:(itL (j:Nat) 0 (-1) 0 (QR p.procs j) p.procs[j].body).length<=20000:=by
  have:=z5l p.procs[j].body;unfold wPr at hfp;rw [ZH];omega
 generalize hits:itL (j:Nat) 0 (-1) 0 (QR p.procs j) p.procs[j].body=its at hsa hitm hib ⊢;have hil:=WL its;refine LoopK.inv QX (fun k:Nat=>⟨[(1,.p (.ip p.cells)),(2,.ptr 1 0),(3,.hd 0 0 (procsN p).length),(7,.p (.ip (sheetOf p).cells)),(9,.p (.ip (p.procs[j]'hj).cells)),(57,.p (.sl (p.procs.map fun f => .agg f.cells))),(58,.p (.int .i64 (p.procs.map fun f=>AV.agg f.cells).length)),(59,.p (.int .i64 j)),(76,.p (KM its)),(77,.p (.int .i64 (its.map fun i=>AV.agg i.cells).length)),(78,.p (.int .i64 k))],[(0,.own 9 1 ((procsN p).map .str)),(1,.obj 117 [.p (.int .i64 0),.p (.int .i64 0)])]⟩)
  (fun k=>k<=its.length∧(its.drop k).find? (fun it => !knownB p p.procs[j] (procsN p) it.s)=its.find? fun it => !knownB p p.procs[j] (procsN p) it.s) (fun k=>its.length-k) 0 (Le.of_eq rfl) ⟨zero_le _,rfl⟩ ?_
 rintro k ⟨h5,h6⟩;rcases Nat.lt_or_ge k its.length with hk|hk;rotate_left 1
 ·rw [<- h6,KR hk] at hsa;conv=>whnf
  repeat' (first|(refine wI ?_;conv=>whnf)|(apply bD<;>intro _<;>first|omega|conv=>whnf))
  exact ⟨j+1,⟨by omega,by rw [<- h3,q8a hj hsa]⟩,by omega,Le.of_eq rfl⟩
 have hka:=hitm k hk;conv=>whnf
 repeat' (first|((first|refine And.intro rfl ?_|(refine iA fun _=>?_)|refine wI ?_|(refine QG (z2v p p.procs[j] (procsN p) its[k].s hka) (.cons (.p (Sub.refl _)) (.cons (.p (Sub.refl _)) (.cons (.hd rfl (by simp)) (.cons (.p (Sub.refl _)) .nil)))) (by rintro _ rfl;rfl) ?_;rintro _ rfl));conv=>whnf)|(apply bD<;>intro _<;>first|omega|conv=>whnf)|(apply bN<;>intro _<;>conv=>whnf))
 ·exact ⟨k+1,⟨by omega,by rw [<- h6,PM (p:=fun it:Item => !knownB p p.procs[j] (procsN p) it.s) hk (by simp;assumption)]⟩,by omega,Le.of_eq rfl⟩
 ·have e3:=KC (p:=fun it:Item => !knownB p p.procs[j] (procsN p) it.s) hk (by simp;assumption);rw [<- h6,e3] at hsa;have e2:=VL hj hsa;rw [h3] at e2;rw [e2];exact QL rfl rfl
def w8h:LV->Option Bool
 | .p .tt=>some true
 | .p .ff=>some false
 | .p (.bool b)=>some b
 | _=>none
theorem q7y {σ:Mem} {β:Lab} {l:LV} {v:Value} {b:Bool} (h:RepL σ β l v) (hb:w8h l=some b):v = .bool b:=by
 cases h with
 | p h=>cases h<;>simp [w8h] at hb<;>subst hb<;>rfl
 | _=>simp [w8h] at hb
theorem WN {P:Program} {T:Tab} {hr:Bool} {s:St} {o:Oper} {K:LV->Prop} (hT:TabOK P T) {t u:TypeId} {x y:Operand} (hop:o.op = .binOp .neq t x y u) {i:TyI} (ht:T.get t=some i) (hd:i.desc = .bool)
  {a b:Bool} (hx:w8h (QI s.sl x)=some a) (hy:w8h (QI s.sl y)=some b) (hK:K (.p (.bool (a != b)))):ValO P hr s o K:=by
 refine ⟨fun σ β ac w hs _=>⟨_,.bool (a != b),hK,.p (.bool _),fun w' _ _ => ?_⟩⟩;have h1:=q7y (QU hs x) hx;have h2:=q7y (QU hs y) hy;have hu:=hT.of ht;rw [hd] at hu;have hg:(eqGuard .neq t x y (.bool a) (.bool b)).run P w' = .ok () w':=by unfold eqGuard;rfl
 have he:(Op.equal t (.bool a) (.bool b)).run P w' = .ok (a==b) w':=by
  have e:Op.equal t (.bool a) (.bool b)=Op.equalIn (9999+1) t (.bool a) (.bool b):=rfl;rw [e,Op.equalIn,Sem.run_bind,run_underlying hu,Result.andThen_ok];rfl
 simp only [execOp,hop,h1,h2,Sem.run_bind,hg,Result.andThen_ok,binOp];simp [he];cases a<;>cases b<;>rfl
def x0s (l:List Param) (args:List Arg):Bool:=decide (l.map Param.ref=args.map Arg.ref)
theorem z6t (l:List Param) (args:List Arg):SpecP Tryz.prog 305 [.sl (l.map fun a => .agg a.cells),w6o args] (fun r=>r = .bool (x0s l args)):=by
 refine sB x7e Tryz.func305 rfl Tryz.call305 ?_;conv=>whnf
 repeat' (first|(refine iM fun _=>?_;conv=>whnf)|(apply bE<;>intro _<;>first|omega|conv=>whnf))
 all_goals
  have hl:(l.map fun a=>AV.agg a.cells).length=l.length:=length_map _;have hl2:(args.map fun a=>AV.agg a.cells).length=args.length:=length_map _
 ·have hlen:l.length=args.length:=by omega
  refine LoopK.inv QX (fun j:Nat=>⟨[(1,.p (w6o args)),(12,.p (.sl (l.map fun a => .agg a.cells))),(13,.p (.int .i64 (l.map fun a=>AV.agg a.cells).length)),(14,.p (.int .i64 j))],[]⟩) (fun j=>j<=l.length∧(l.map Param.ref).take j=(args.map Arg.ref).take j) (fun j=>l.length-j) 0 (Le.of_eq rfl) ⟨zero_le _,rfl⟩ ?_;rintro j ⟨h2,h3⟩;rcases Nat.lt_or_ge j l.length with hj|hj
  ·conv=>whnf
   repeat' (first|((first|refine dA ?_|refine And.intro rfl ?_|(refine iA fun _=>?_)|refine wI ?_|refine WN QX rfl rfl rfl rfl rfl ?_);conv=>whnf)|(apply bD<;>intro _<;>first|omega|conv=>whnf)|(apply bE<;>intro _<;>first|omega|conv=>whnf))
   ·have hne:l[j].ref=(args[j]'(by omega)).ref:=by assumption
    exact ⟨j+1,⟨by omega,by
     rw [List.take_succ_eq_append_getElem (by simp;omega),List.take_succ_eq_append_getElem (by simp;omega),h3];simp [hne]⟩,by omega,Le.of_eq rfl⟩
   ·have hne : ¬l[j].ref=(args[j]'(by omega)).ref:=by assumption
    exact RetK.ff (by
     unfold x0s;rw [decide_eq_false_iff_not];intro he;have:(l.map Param.ref)[j]? = (args.map Arg.ref)[j]? := by rw [he]
     rw [List.getElem?_map,List.getElem?_map,List.getElem?_eq_getElem hj,List.getElem?_eq_getElem (by omega)] at this;simp at this;exact hne this)
  ·conv=>whnf
   repeat' (apply bD<;>intro _<;>first|omega|conv=>whnf)
   exact RetK.tt (by
    unfold x0s;rw [decide_eq_true_eq]
    rwa [take_of_length_le (by simp;omega),take_of_length_le (by simp;omega)] at h3)
 ·exact RetK.ff (by
   unfold x0s;rw [decide_eq_false_iff_not];intro he;have:=congrArg List.length he;simp at this;omega)
def YW (p:Pg) (s:S):Bool:=decide (s.kind=4)&&match p.procs.find? (fun f=>f.name==s.proc) with
 | some f=>x0s f.params s.args
 | none=>false
theorem z7f (p:Pg) (s:S):SpecP Tryz.prog 231 [.agg p.cells,.agg s.cells] (fun r=>r = .bool (YW p s)):=by
 refine sB x8p Tryz.func231 rfl Tryz.call231 ?_;conv=>whnf
 repeat' (first|(refine iM fun _=>?_;conv=>whnf)|(apply bE<;>intro _<;>first|omega|conv=>whnf))
 ·have hl:(p.procs.map fun f=>AV.agg f.cells).length=p.procs.length:=length_map _;refine LoopK.inv QX (fun j:Nat=>⟨[(3,.p (.ip s.cells)),(11,.p (.sl (p.procs.map fun f => .agg f.cells))),(12,.p (.int .i64 (p.procs.map fun f=>AV.agg f.cells).length)),(13,.p (.int .i64 j))],[]⟩) (fun j=>j<=p.procs.length∧(p.procs.drop j).find? (fun f=>f.name==s.proc)=p.procs.find? (fun f=>f.name==s.proc)) (fun j=>p.procs.length-j) 0 (Le.of_eq rfl) ⟨zero_le _,rfl⟩ ?_;rintro j ⟨h2,h3⟩;conv=>whnf
  repeat' (first|((first|refine cP (z6t _ _) ?_|refine And.intro rfl ?_|(refine iA fun _=>?_)|refine wI ?_);conv=>whnf)|(apply bD<;>intro _<;>first|omega|conv=>whnf)|(apply bB<;>intro _<;>conv=>whnf))
  ·have e:=KC (p:=fun f:Pr=>f.name==s.proc) (l:=p.procs) (j:=j) (by omega) (by assumption);rw [h3] at e;exact RetK.bool (by unfold YW;rw [e];simp [*])
  ·exact ⟨j+1,⟨by omega,by rw [<- h3,PM (p:=fun f:Pr=>f.name==s.proc) (by omega) (by assumption)]⟩,by omega,Le.of_eq rfl⟩
  ·have e:p.procs.find? (fun f=>f.name==s.proc)=none:=by rw [<- h3,KR (by omega)]
   exact RetK.ff (by unfold YW;rw [e];simp)
 ·exact RetK.ff (by unfold YW;simp [*])
def JC (p:Pg):List S:=p.procs.flatMap fun f=>flL f.body
theorem w8x : ∀ (l:List Pr) (i:Nat) (acc:List Item) (lo hi:List Int),(x0l i acc lo hi l).1.map Item.s=acc.map Item.s++l.flatMap fun f=>flL f.body
 | [],i,acc,lo,hi=>by rw [x0l];simp
 | f::r,i,acc,lo,hi=>by
   rw [x0l,w8x r,q1e,List.map_append,q0g,List.flatMap_cons,List.append_assoc]
theorem x6b (p:Pg):(sheetOf p).l.map Item.s=JC p:=by
 have:=w8x p.procs 0 [] [] [];unfold sheetOf JC;simpa using this
theorem z7y {p:Pg} (hf:Fit p) {k:Nat} (hk:k<(sheetOf p).l.length):wS (sheetOf p).l[k].s<=20000:=by
 have hm:(sheetOf p).l[k].s∈JC p:=by
  rw [<- x6b];exact List.mem_map.2 ⟨_,List.getElem_mem hk,rfl⟩
 unfold JC at hm;obtain ⟨f,h1,h2⟩:=List.mem_flatMap.1 hm;have h3:=x0k _ _ h2;have h4:=hf.pr h1;unfold wPr at h4;omega
def VM (p:Pg):Int×Int :=
 if (QA p).1≠0 then (1,0) else match (JC p).find? fun t=>decide (t.kind=4) && !YW p t with
  | some t=>(6,t.id)
  | none=>(0,0)
theorem VH {p:Pg} (h:(QA p).1=0):VB p=true∧WQ p=false∧p.procs.findSome? (WI p)=none:=by
 unfold QA at h;cases hm:VB p<;>rw [hm] at h
 ·cases h
 cases hb:WQ p<;>rw [hb] at h
 ·refine ⟨rfl,rfl,?_⟩;simp only [cond_true,cond_false] at h;split at h
  ·cases h
  ·assumption
 ·cases h
theorem q7l (p:Pg) (hf:Fit p):SpecP Tryz.prog 146 [.agg p.cells] (fun r=>r=BN (VM p).1 (VM p).2):=by
 refine sB x5d Tryz.func146 rfl Tryz.call146 ?_;conv=>whnf
 repeat' (first|((first|refine cP (KV p hf) ?_|refine And.intro rfl ?_);conv=>whnf)|(apply bE<;>intro _<;>first|omega|conv=>whnf))
 rotate_left 1
 ·have e:VM p=(1,0):=by unfold VM;rw [if_pos (by assumption)]
  exact QL (by rw [e]) (by rw [e])
 have hs:(QA p).1=0:=by assumption
 obtain ⟨hm,hb,hns⟩:=VH hs;obtain ⟨hg,hpl,hcn⟩:=ZG hm;have hA:VM p=match (JC p).find? fun t=>decide (t.kind=4) && !YW p t with
  | some t=>(6,t.id)
  | none=>(0,0):=by unfold VM;rw [if_neg (by omega)]
 repeat' ((first|(refine iM fun _=>?_)|(refine CallK.pure (FP p (by omega) (by omega)) (.cons (Sub.refl _) .nil) ?_;rintro _ rfl));conv=>whnf)
 have hil:=WL (sheetOf p).l;have hib:(sheetOf p).l.length<=200:=by have:=(QJ p).2.2.2.1;omega
 have hfi:=NJ (q:=fun t=>decide (t.kind=4) && !YW p t) (sheetOf p).l;rw [x6b] at hfi;have hA2:VM p=match ((sheetOf p).l.find? fun it=>decide (it.s.kind=4) && !YW p it.s).map (fun it=>it.s.id) with
  | some a=>(6,a)
  | none=>(0,0):=by
  rw [hA,hfi];cases (JC p).find? fun t=>decide (t.kind=4) && !YW p t<;>rfl
 rw [hA2];refine LoopK.inv QX (fun k:Nat=>⟨[(1,.p (.ip p.cells)),(2,.ptr 1 0),(14,.p (KM (sheetOf p).l)),(15,.p (.int .i64 ((sheetOf p).l.map fun i=>AV.agg i.cells).length)),(16,.p (.int .i64 k))],[(1,.obj 117 [.p (.int .i64 0),.p (.int .i64 0)])]⟩)
  (fun k=>k<=(sheetOf p).l.length∧((sheetOf p).l.drop k).find? (fun it=>decide (it.s.kind=4) && !YW p it.s)=(sheetOf p).l.find? fun it=>decide (it.s.kind=4) && !YW p it.s) (fun k=>(sheetOf p).l.length-k) 0 (Le.of_eq rfl) ⟨zero_le _,rfl⟩ ?_
 rintro k ⟨h5,h6⟩;rcases Nat.lt_or_ge k (sheetOf p).l.length with hk|hk;rotate_left 1
 ·rw [<- h6,KR hk];conv=>whnf
  repeat' (first|(refine And.intro rfl ?_;conv=>whnf)|(apply bD<;>intro _<;>first|omega|conv=>whnf))
  exact QL rfl rfl
 conv=>whnf
 repeat' (first|((first|refine cP (z7f _ _) ?_|refine And.intro rfl ?_|(refine iA fun _=>?_)|refine wI ?_);conv=>whnf)|(apply bD<;>intro _<;>first|omega|conv=>whnf)|(apply bN<;>intro _<;>conv=>whnf))
 all_goals first
  | (have e3:=KC (p:=fun it:Item=>decide (it.s.kind=4) && !YW p it.s) hk (by simp [*])
     rw [<- h6,e3];exact QL rfl rfl)
  | exact ⟨k+1,⟨by omega,by rw [<- h6,PM (p:=fun it:Item=>decide (it.s.kind=4) && !YW p it.s) hk (by simp [*])]⟩,by omega,Le.of_eq rfl⟩
def VO:List Str->List Str->Option (List Str)
 | seen,[]=>some seen
 | seen,n::r=>bif seen.any (fun s=>n==s) then none else VO (seen++[n]) r
theorem w4l {seen l:List Str} {j:Nat} (hj:j<l.length) (h:(seen.any fun s=>l[j]==s)=true):VO seen (l.drop j)=none:=by
 rw [QH hj,VO,h];rfl
theorem w1a {seen l:List Str} {j:Nat} (hj:j<l.length) (h:(seen.any fun s=>l[j]==s)=false):VO seen (l.drop j)=VO (seen++[l[j]]) (l.drop (j+1)):=by
 rw [QH hj,VO,h];rfl
theorem q1z : ∀ {l seen out:List Str},VO seen l=some out->out=seen++l
 | [],seen,out,h=>by rw [VO] at h;cases h;simp
 | n::r,seen,out,h=>by
   rw [VO] at h;cases hc:(seen.any fun s=>n==s)<;>rw [hc] at h
   ·have:=q1z h;simpa using this
   ·cases h
def w0b (t:Nat) (seen l:List Str) (r:LV) (H:Heap):Prop :=
 match VO seen l with
 | some out=>r = .tup [.hd 2000 0 out.length,.p .tt]∧H=x4u t out
 | none => ∃ out,r = .tup [.hd 2000 0 out.length,.p .ff]∧H=x4u t out
theorem x0w {t:Nat} {seen l:List Str} {Q:LV->Heap->Prop} (h1:VO seen l=some (seen++l)->Q (.tup [.hd 2000 0 (seen++l).length,.p .tt]) (x4u t (seen++l)))
  (h2:VO seen l=none -> ∀ out,Q (.tup [.hd 2000 0 out.length,.p .ff]) (x4u t out)) : ∀ l' H',w0b t seen l l' H'->Q l' H':=by
 intro l' H' h;unfold w0b at h;cases hr:VO seen l with
 | some out =>
   rw [hr] at h;obtain ⟨rfl,rfl⟩:=h;have:=q1z hr;subst this;exact h1 hr
 | none =>
   rw [hr] at h;obtain ⟨out,rfl,rfl⟩:=h;exact h2 hr out
theorem x7w (seen l:List Str) (hlen:seen.length+l.length<=1000000000) :
  SpecH Tryz.prog 233 [.hd 2000 0 seen.length,.p (QM l)] (x4u 9 seen) (w0b 9 seen l):=by
 refine sH z1o Tryz.func233 rfl Tryz.call233 ?_;conv=>whnf
 repeat' (refine iM fun _=>?_;conv=>whnf)
 have hl:(l.map AV.str).length=l.length:=length_map _;refine LoopK.inv QX (fun i:Nat×List Str=>⟨[(0,.hd 2000 0 i.2.length),(8,.p (QM l)),(9,.p (.int .i64 (l.map AV.str).length)),(10,.p (.int .i64 i.1))],x4u 9 i.2⟩) (fun i=>i.1<=l.length∧i.2.length+(l.length-i.1)=seen.length+l.length∧VO i.2 (l.drop i.1)=VO seen l) (fun i=>l.length-i.1) (0,seen) (Le.of_eq rfl) ⟨zero_le _,by simp,rfl⟩ ?_;rintro ⟨j,acc⟩ ⟨h2,h3,h4⟩;simp only at h2 h3 h4 ⊢;rcases Nat.lt_or_ge j l.length with hj|hj
 ·conv=>whnf
  repeat' (first|((first|refine And.intro rfl ?_|refine aD ?_|refine bP ?_|(refine iA fun _=>?_)|refine wI ?_|(refine QG (QY acc (l[j]'hj)) (.cons (.hd rfl (by simp)) (.cons (.p (Sub.refl _)) .nil)) (by rintro _ rfl;rfl) ?_;rintro _ rfl)|refine XW (by simp) (by simp;omega) ?_);conv=>whnf)|(apply bD<;>intro _<;>first|omega|conv=>whnf)|(apply bB<;>intro _<;>conv=>whnf))
  ·exact ⟨_,.refl _,by unfold w0b;rw [<- h4,w4l hj (by assumption)];exact ⟨acc,rfl,rfl⟩⟩
  ·exact ⟨(j+1,acc++[l[j]]),⟨by simp only;omega,by simp;omega,by simp only;rw [<- h4,w1a hj (by assumption)]⟩,by simp only;omega,Le.of_eq (by simp only [x4u,length_append,List.map_append];rfl)⟩
 ·conv=>whnf
  repeat' (apply bD<;>intro _<;>first|omega|conv=>whnf)
  rw [drop_eq_nil_of_le hj,VO] at h4;exact ⟨_,.refl _,by unfold w0b;rw [<- h4];exact ⟨rfl,rfl⟩⟩
def atB (f:Pr) (label:Str):Int×Bool :=
 match (flL f.body).find? fun t=>t.labels.any fun s=>label==s with
 | some t=>(t.id,true)
 | none=>bif f.fin.any fun s=>label==s then (-1,true) else (0,false)
theorem RetK.tup2 {H:Heap} {k:IntKind} {m n:Int} {x:AV} {b:Bool} (h:m=n) (hb:Sub x (.bool b)):RetK H (.p (.tup [.int k m,x])) (fun r=>r = .tup [.int k n,.bool b]) :=
 ⟨_,.p (Sub.tup (SubL.cons (Sub.int h) (SubL.cons hb SubL.nil))),rfl⟩
theorem q1c (p:Pg) (j:Nat) (f:Pr) (hj:p.procs[j]? = some f) (hc:cntP p.procs<=1000) (label:Str):SpecP Tryz.prog 220 [.ip (sheetOf p).cells,.int .i64 j,.str label] (fun r=>r = .tup [.int .i64 (atB f label).1,.bool (atB f label).2]):=by
 refine sB q9e Tryz.func220 rfl Tryz.call220 ?_;conv=>whnf
 repeat' ((first|(refine iM fun _=>?_)|refine cP (z2d p hj hc) ?_);conv=>whnf)
 have hfi:=NJ (q:=fun t=>t.labels.any fun s=>label==s) (itL (j:Nat) 0 (-1) 0 (QR p.procs j) f.body);rw [q0g] at hfi;have hib:(itL (j:Nat) 0 (-1) 0 (QR p.procs j) f.body).length<=1000:=by
  have:=(QJ p).2.2.2.2 j f hj;rw [ZH];omega
 generalize hits:itL (j:Nat) 0 (-1) 0 (QR p.procs j) f.body=its at hfi hib ⊢;have hil:=WL its;have hat:atB f label=match (its.find? fun it=>it.s.labels.any fun s=>label==s).map (fun it=>it.s.id) with
  | some a=>(a,true)
  | none=>bif f.fin.any fun s=>label==s then (-1,true) else (0,false):=by
  unfold atB;rw [hfi];cases (flL f.body).find? fun t=>t.labels.any fun s=>label==s<;>rfl
 rw [hat];refine LoopK.inv QX (fun k:Nat=>⟨[(0,.p (.ip (sheetOf p).cells)),(1,.p (.int .i64 j)),(2,.p (.str label)),(12,.p (KM its)),(13,.p (.int .i64 (its.map fun i=>AV.agg i.cells).length)),(14,.p (.int .i64 k))],[]⟩)
  (fun k=>k<=its.length∧(its.drop k).find? (fun it=>it.s.labels.any fun s=>label==s)=its.find? fun it=>it.s.labels.any fun s=>label==s) (fun k=>its.length-k) 0 (Le.of_eq rfl) ⟨zero_le _,rfl⟩ ?_
 rintro k ⟨h5,h6⟩;rcases Nat.lt_or_ge k its.length with hk|hk
 ·conv=>whnf
  repeat' (first|((first|refine cP (QY _ _) ?_|refine And.intro rfl ?_|(refine iA fun _=>?_)|refine wI ?_);conv=>whnf)|(apply bD<;>intro _<;>first|omega|conv=>whnf)|(apply bB<;>intro _<;>conv=>whnf))
  ·have e3:=KC (p:=fun it:Item=>it.s.labels.any fun s=>label==s) hk (by assumption);rw [<- h6,e3];exact RetK.tup2 rfl (Sub.tt rfl)
  ·exact ⟨k+1,⟨by omega,by rw [<- h6,PM (p:=fun it:Item=>it.s.labels.any fun s=>label==s) hk (by assumption)]⟩,by omega,Le.of_eq rfl⟩
 ·rw [<- h6,KR hk];have hpj:(p.procs.map fun f=>AV.agg f.cells)[j]? = some (.agg f.cells):=by simp [hj]
  conv=>whnf
  repeat' (first|((first|refine cP (QY _ _) ?_|(refine IdxK.at rfl hpj rfl ?_));conv=>whnf)|(apply bD<;>intro _<;>first|omega|conv=>whnf)|(apply bB<;>intro _<;>conv=>whnf))
  ·exact RetK.tup2 (by simp [*]) (Sub.tt (by simp [*]))
  ·exact RetK.tup2 (by simp [*]) (Sub.ff (by simp [*]))
def VJ (f:Pr) (it:Item):Bool:=if it.s.kind=7∨it.s.kind=8 then !(it.loop==0) else if it.s.kind=10 then (atB f it.s.name).2 else true
theorem z8d (p:Pg) (j:Nat) (f:Pr) (hj:p.procs[j]? = some f) (hc:cntP p.procs<=1000) (it:Item) (hp:it.proc=j):SpecP Tryz.prog 234 [.ip (sheetOf p).cells,.agg it.cells] (fun r=>r = .bool (VJ f it)):=by
 refine sB x7v Tryz.func234 rfl Tryz.call234 ?_;conv=>whnf
 repeat' (first|(refine CallK.pure (q1c p j f hj hc it.s.name) (.cons (Sub.refl _) (.cons (Sub.int hp) (.cons (Sub.refl _) .nil))) ?_;rintro _ rfl;conv=>whnf)|(apply bD<;>intro _<;>first|omega|conv=>whnf))
 all_goals first
  | exact RetK.bool (by simp [VJ, *];rfl)
  | exact RetK.bool (by simp [VJ, *])
  | exact RetK.tt (by simp [VJ, *])
theorem z8b (p:Pg) (hf:Fit p) (h:(QA p).1=0):SpecP Tryz.prog 232 [.agg p.cells] (fun r=>r = .ip (sheetOf p).cells):=by
 refine sB q5v Tryz.func232 rfl Tryz.call232 ?_;conv=>whnf
 obtain ⟨hm,hb,hns⟩:=VH h;obtain ⟨hg,hpl,hcn⟩:=ZG hm;repeat' (first|((first|refine cP (KV p hf) ?_|(refine CallK.pure (FP p (by omega) (by omega)) (.cons (Sub.refl _) .nil) ?_;rintro _ rfl));conv=>whnf)|(apply bE<;>intro _<;>first|omega|conv=>whnf))
 exact RetK.p rfl
theorem x6k (p:Pg) (hf:Fit p) (h:(QA p).1≠0):SpecP Tryz.prog 232 [.agg p.cells] (fun r=>r = .nilp):=by
 refine sB q5v Tryz.func232 rfl Tryz.call232 ?_;conv=>whnf
 repeat' (first|(refine cP (KV p hf) ?_;conv=>whnf)|(apply bE<;>intro _<;>first|omega|conv=>whnf))
 exact RetK.p rfl
mutual
theorem w4e (proc up nx loop:Int) (n:Nat) : ∀ (t:S) (it:Item),it∈itS proc up nx loop n t->it.proc=proc
 | .mk id kind labels name pr x has args thn els,it,h=>by
   rw [itS] at h;rcases List.mem_cons.1 h with rfl|h
   ·rfl
   ·rcases List.mem_append.1 h with h|h
    ·exact q2s _ _ _ _ _ thn it h
    ·exact q2s _ _ _ _ _ els it h
theorem q2s (proc up nx loop:Int) (n:Nat) : ∀ (l:List S) (it:Item),it∈itL proc up nx loop n l->it.proc=proc
 | [],it,h=>by rw [itL] at h;cases h
 | t::r,it,h=>by
   rw [itL] at h;rcases List.mem_append.1 h with h|h
   ·exact w4e _ _ _ _ _ t it h
   ·exact q2s _ _ _ _ _ r it h
end
def YP (f:Pr):List Item->List Str->Except Int (List Str)
 | [],seen => .ok seen
 | it::r,seen=>match VO seen it.s.labels with
   | none => .error it.s.id
   | some s=>bif VJ f it then YP f r s else .error it.s.id
def YH (p:Pg) (j:Nat):Option Int :=
 match p.procs[j]? with
 | none=>none
 | some f=>match YP f (itL (j:Nat) 0 (-1) 0 (QR p.procs j) f.body) [] with
   | .error id=>some id
   | .ok seen=>match VO seen f.fin with
     | none=>some 0
     | some _=>none
def NI (p:Pg):Int×Int :=
 if (QA p).1≠0 then (1,0) else match (List.range p.procs.length).findSome? (YH p) with
  | some a=>(7,a)
  | none=>(0,0)
theorem w6n {f:Pr} {its:List Item} {seen:List Str} {k:Nat} (hk:k<its.length) (h:VO seen its[k].s.labels=none):YP f (its.drop k) seen = .error its[k].s.id:=by
 rw [QH hk,YP,h]
theorem w3g {f:Pr} {its:List Item} {seen s:List Str} {k:Nat} (hk:k<its.length) (h:VO seen its[k].s.labels=some s) (hl:VJ f its[k]=false):YP f (its.drop k) seen = .error its[k].s.id:=by
 rw [QH hk,YP,h];simp only [hl,cond_false]
theorem w1p {f:Pr} {its:List Item} {seen s:List Str} {k:Nat} (hk:k<its.length) (h:VO seen its[k].s.labels=some s) (hl:VJ f its[k]=true):YP f (its.drop k) seen=YP f (its.drop (k+1)) s:=by
 rw [QH hk,YP,h];simp only [hl,cond_true]
theorem z2e {l:List Pr} {j:Nat} (hj:j<l.length) (h:wPr l[j]<=20000) {a b c d:Int} {n k:Nat} (hk:k<(itL a b c d n l[j].body).length):(itL a b c d n l[j].body)[k].s.labels.length<=20000:=by
 have hm:(itL a b c d n l[j].body)[k].s∈flL l[j].body:=by
  rw [<- q0g a b c d n];exact List.mem_map.2 ⟨_,List.getElem_mem hk,rfl⟩
 have h1:=x0k _ _ hm;have h2:=x5l (itL a b c d n l[j].body)[k].s;have h3:=DF (itL a b c d n l[j].body)[k].s.labels;unfold wPr at h;omega
theorem z7q (p:Pg) (hf:Fit p):SpecP Tryz.prog 147 [.agg p.cells] (fun r=>r=BN (NI p).1 (NI p).2):=by
 refine sB z0x Tryz.func147 rfl Tryz.call147 ?_;conv=>whnf
 rcases Decidable.em ((QA p).1=0) with hs|hs;rotate_left 1
 ·
  repeat' ((first|refine cP (x6k p hf hs) ?_|refine And.intro rfl ?_);conv=>whnf)
  have e:NI p=(1,0):=by unfold NI;rw [if_pos hs]
  exact QL (by rw [e]) (by rw [e])
 obtain ⟨hm,hb,hns⟩:=VH hs;obtain ⟨hg,hpl,hcn⟩:=ZG hm;have hJ:NI p=match (List.range p.procs.length).findSome? (YH p) with
  | some a=>(7,a)
  | none=>(0,0):=by unfold NI;rw [if_neg (by omega)]
 rw [hJ];have hl:(p.procs.map fun f=>AV.agg f.cells).length=p.procs.length:=length_map _;repeat' ((first|(refine iM fun _=>?_)|refine cP (z8b p hf hs) ?_);conv=>whnf)
 refine LoopK.inv QX (fun j:Nat=>⟨[(2,.ptr 1 0),(3,.p (.ip (sheetOf p).cells)),(16,.p (.sl (p.procs.map fun f => .agg f.cells))),(17,.p (.int .i64 (p.procs.map fun f=>AV.agg f.cells).length)),(18,.p (.int .i64 j))],[(1,.obj 117 [.p (.int .i64 0),.p (.int .i64 0)])]⟩)
  (fun j=>j<=p.procs.length∧((List.range p.procs.length).drop j).findSome? (YH p)=(List.range p.procs.length).findSome? (YH p)) (fun j=>p.procs.length-j) 0 (Le.of_eq rfl) ⟨zero_le _,rfl⟩ ?_
 rintro j ⟨h2,h3⟩;rcases Nat.lt_or_ge j p.procs.length with hj|hj;rotate_left 1
 ·have e:(List.range p.procs.length).findSome? (YH p)=none:=by rw [<- h3,q5b (by simpa using hj)]
  rw [e];conv=>whnf
  repeat' (first|(refine And.intro rfl ?_;conv=>whnf)|(apply bD<;>intro _<;>first|omega|conv=>whnf))
  exact QL rfl rfl
 have hfp:=hf.pr (List.getElem_mem hj);have hjr:j<(List.range p.procs.length).length:=by simpa using hj
 have hrj:(List.range p.procs.length)[j]=j:=by simp
 have hpj:p.procs[j]? = some p.procs[j]:=by simp [hj]
 conv=>whnf
 repeat' (first|((first|(refine iM fun _=>?_)|refine And.intro rfl ?_|(refine iA fun _=>?_)|(refine CallK.pure (z2d p (f:=p.procs[j]'hj) hpj (by omega)) (.cons (Sub.refl _) (.cons (Sub.refl _) .nil)) ?_;rintro _ rfl));conv=>whnf)|(apply bD<;>intro _<;>first|omega|conv=>whnf))
 have hlab : ∀ k (hk:k<(itL (j:Nat) 0 (-1) 0 (QR p.procs j) p.procs[j].body).length),(itL (j:Nat) 0 (-1) 0 (QR p.procs j) p.procs[j].body)[k].s.labels.length<=20000:=fun k hk=>z2e hj hfp hk;have hprc : ∀ k (hk:k<(itL (j:Nat) 0 (-1) 0 (QR p.procs j) p.procs[j].body).length),(itL (j:Nat) 0 (-1) 0 (QR p.procs j) p.procs[j].body)[k].proc=j:=fun k hk=>q2s _ _ _ _ _ _ _ (List.getElem_mem hk);have hib:(itL (j:Nat) 0 (-1) 0 (QR p.procs j) p.procs[j].body).length<=200:=by
  have:=(QJ p).2.2.2.2 j _ hpj;rw [ZH];omega
 have hja:YH p j=match YP p.procs[j] (itL (j:Nat) 0 (-1) 0 (QR p.procs j) p.procs[j].body) [] with
  | .error id=>some id
  | .ok seen=>match VO seen p.procs[j].fin with
    | none=>some 0
    | some _=>none:=by
  unfold YH;rw [hpj]
 generalize hits:itL (j:Nat) 0 (-1) 0 (QR p.procs j) p.procs[j].body=its at hlab hprc hib hja ⊢;have hil:=WL its;refine LoopK.inv QX (fun i:Nat×List Str=>⟨[(2,.ptr 1 0),(3,.p (.ip (sheetOf p).cells)),(5,.p (.ip (p.procs[j]'hj).cells)),(6,.hd 0 0 i.2.length),(16,.p (.sl (p.procs.map fun f => .agg f.cells))),(17,.p (.int .i64 (p.procs.map fun f=>AV.agg f.cells).length)),(18,.p (.int .i64 j)),(25,.p (KM its)),(26,.p (.int .i64 (its.map fun i=>AV.agg i.cells).length)),(27,.p (.int .i64 i.1))],[(0,.own 9 1 (i.2.map .str)),(1,.obj 117 [.p (.int .i64 0),.p (.int .i64 0)])]⟩)
  (fun i=>i.1<=its.length∧i.2.length<=20000*i.1∧YP p.procs[j] (its.drop i.1) i.2=YP p.procs[j] its []) (fun i=>its.length-i.1) (0,[])
  (Le.mk [(0,.own 9 1 [])] (by simp [Chunk.new0];rfl) (by simp) (by simp) (.cons (.refl _) (.cons (.refl _) (.cons (.refl _) (.cons (.nil mem_cons_self) (.cons (.refl _) (.cons (.refl _) (.cons (.refl _) (.cons (.refl _) (.cons (.refl _) (.cons (.refl _) .nil)))))))))) (.new mem_cons_self (.cons rfl (.refl _) .nil)))
  ⟨zero_le _,by simp,rfl⟩ ?_
 rintro ⟨k,acc⟩ ⟨h5,h6,h7⟩;simp only at h5 h6 h7 ⊢;rcases Nat.lt_or_ge k its.length with hk|hk
 ·have hlk:=hlab k hk;conv=>whnf
  repeat' (first|((first|refine And.intro rfl ?_|(refine iA fun _=>?_)|refine wI ?_|(refine CallK.pure (z8d p j p.procs[j] hpj (by omega) its[k] (hprc k hk)) (.cons (Sub.refl _) (.cons (Sub.refl _) .nil)) ?_;rintro _ rfl));conv=>whnf)|(apply bD<;>intro _<;>first|omega|conv=>whnf)|(apply bN<;>intro _<;>conv=>whnf)|(refine CallK.heap [(2000,0)] 0 (by repeat' (first|exact ArgsH.nil|refine ArgsH.cons ?_ ?_|exact LSub.refl _|exact LSub.p Sub.nils|exact LSub.p (Sub.tt rfl)|exact LSub.p (Sub.ff rfl)|exact LSub.p (Sub.int (by omega)))) (by refine BlksH.cons (j:=0) rfl rfl ?_ ?_;exact CSub.refl _;exact BlksH.nil) (x7w acc its[k].s.labels (by omega)) rfl rfl (x0w (fun hjo => ?_) (fun hjo out => ?_))<;>conv=>whnf))
  ·exact ⟨(k+1,acc++its[k].s.labels),⟨by simp only;omega,by simp;omega,by simp only;rw [<- h7,w1p hk hjo (by assumption)]⟩,by simp only;omega,Le.of_eq rfl⟩
  ·rw [<- h7,w3g hk hjo (by assumption)] at hja;have e2:=VL (f:=YH p) hjr (by rw [hrj];exact hja);rw [h3] at e2;rw [e2];exact QL rfl rfl
  ·rw [<- h7,w6n hk hjo] at hja;have e2:=VL (f:=YH p) hjr (by rw [hrj];exact hja);rw [h3] at e2;rw [e2];exact QL rfl rfl
 ·have hfin:p.procs[j].fin.length<=20000:=by
   have:=DF p.procs[j].fin;unfold wPr at hfp;omega
  rw [drop_eq_nil_of_le hk,YP] at h7;rw [<- h7] at hja;simp only at hja;conv=>whnf
  repeat' (first|((first|refine And.intro rfl ?_|refine wI ?_);conv=>whnf)|(apply bD<;>intro _<;>first|omega|conv=>whnf)|(refine CallK.heap [(2000,0)] 0 (by repeat' (first|exact ArgsH.nil|refine ArgsH.cons ?_ ?_|exact LSub.refl _|exact LSub.p Sub.nils|exact LSub.p (Sub.tt rfl)|exact LSub.p (Sub.ff rfl)|exact LSub.p (Sub.int (by omega)))) (by refine BlksH.cons (j:=0) rfl rfl ?_ ?_;exact CSub.refl _;exact BlksH.nil) (x7w acc p.procs[j].fin (by omega)) rfl rfl (x0w (fun hjo => ?_) (fun hjo out => ?_))<;>conv=>whnf))
  ·rw [hjo] at hja;exact ⟨j+1,⟨by omega,by rw [<- h3,q8a (f:=YH p) hjr (by rw [hrj];exact hja)]⟩,by omega,Le.of_eq rfl⟩
  ·rw [hjo] at hja;have e2:=VL (f:=YH p) hjr (by rw [hrj];exact hja);rw [h3] at e2;rw [e2];exact QL rfl rfl
theorem BsK.pureL {es:List AV} {sz:Nat} {out:List LV} {Kp Ko:Prop} (hx:(es.all fun x=>x.cells.length==sz)=true) (ho:out=(es.flatMap AV.cells).map .p) (hK:Kp):BsK es sz out Kp Ko := .pure (fun x h=>by simpa using List.all_eq_true.1 hx x h) ho hK
end Go.Ab
