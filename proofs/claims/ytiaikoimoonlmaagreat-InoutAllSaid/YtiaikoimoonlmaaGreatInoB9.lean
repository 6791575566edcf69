/- flat: a program laid flat. -/
import Derived.Test.YtiaikoimoonlmaaGreatInoB6
import Derived.Test.YtiaikoimoonlmaaGreatInoB8
set_option linter.unusedSimpArgs false
set_option linter.unusedVariables false
set_option maxRecDepth 100000
set_option maxHeartbeats 16000000
open List (drop_zero)
namespace Go.Ab
open Go.Proofs.Tryz
open Go.Proofs
structure Sheet where
 p:Pg
 l:List Item
 lo:List Int
 hi:List Int
def Sheet.cells (s:Sheet):List AV:=s.p.cells++[.sl (s.l.map fun i => .agg i.cells),QR s.lo,QR s.hi]
def cntP:List Pr->Nat
 | []=>0
 | f::r=>cntL f.body+cntP r
theorem x1w {l:List Pr} {j:Nat} (hj:j<l.length):cntP (l.drop j)=cntL l[j].body+cntP (l.drop (j+1)):=by
 rw [QF hj,cntP]
def x3p (i:Nat) (acc:List Item) (lo hi:List Int):List Pr->List Item×List Int×List Int
 | []=>(acc,lo,hi)
 | f::r=>x3p (i+1) (XA i 0 (-1) 0 acc f.body) (lo++[(acc.length:Int)+1]) (hi++[((XA i 0 (-1) 0 acc f.body).length:Int)+1]) r
def sheetOf (p:Pg):Sheet:=⟨p,(x3p 0 [] [] [] p.procs).1,(x3p 0 [] [] [] p.procs).2.1,(x3p 0 [] [] [] p.procs).2.2⟩
theorem z2c {i:Nat} {acc:List Item} {lo hi:List Int} {l:List Pr} {j:Nat} (hj:j<l.length) :
  x3p i acc lo hi (l.drop j)=x3p (i+1) (XA i 0 (-1) 0 acc l[j].body) (lo++[(acc.length:Int)+1]) (hi++[((XA i 0 (-1) 0 acc l[j].body).length:Int)+1]) (l.drop (j+1)):=by
 rw [QF hj,x3p]
def v7h (tS tI tN:Nat) (p:Pg) (L:List Item) (lo hi:List Int):Heap :=
 [(0,.obj tS [.p (eStrs p.globals),.p (.sl (p.procs.map fun f => .agg f.cells)),.hd 1 0 L.length,.hd 2 0 lo.length,.hd 3 0 hi.length]),(1,.own tI 17 (L.map fun i => .agg i.cells)),(2,.own tN 1 (lo.map (.int .i64))),(3,.own tN 1 (hi.map (.int .i64)))]
theorem MF (p:Pg) (h1:p.procs.length<=1000) (hc:cntP p.procs<=999):SpecP prog 109 [.agg p.cells] (fun r=>r = .ip (sheetOf p).cells):=by
 refine sB w0q func109 rfl call109 ?_;conv=>whnf
 repeat' ((first|(refine iM fun _=>?_)|refine u3d rfl ?_);conv=>whnf)
 have hl2:(p.procs.map fun f=>AV.agg f.cells).length=p.procs.length:=u3k _;refine LoopK.inv QX (fun i:Nat×List Item×List Int×List Int=>⟨[(3,.ptr 0 0),(10,.p (.sl (p.procs.map fun f=>AV.agg f.cells))),(11,.p (.int .i64 (p.procs.map fun f=>AV.agg f.cells).length)),(12,.p (.int .i64 i.1))],v7h 154 151 3 p i.2.1 i.2.2.1 i.2.2.2⟩)
  (fun i=>i.1<=p.procs.length∧i.2.1.length+cntP (p.procs.drop i.1)=cntP p.procs∧i.2.2.1.length=i.1∧i.2.2.2.length=i.1∧x3p i.1 i.2.1 i.2.2.1 i.2.2.2 (p.procs.drop i.1)=x3p 0 [] [] [] p.procs) (fun i=>p.procs.length-i.1) (0,[],[],[])
  (Le.mk [(1,.own 151 17 []),(2,.own 3 1 []),(3,.own 3 1 [])] (by simp [Chunk.new0];exact ⟨rfl,rfl,rfl⟩) (by simp) (by simp [v7h]) (.cons (.refl _) (.cons (.refl _) (.cons (.refl _) (.cons (.refl _) .nil))))
    (.cons rfl (.obj (.cons (.refl _) (.cons (.refl _) (.cons (.nil u3g) (.cons (.nil (u3n _ u3g)) (.cons (.nil (u3n _ (u3n _ u3g))) .nil)))))) (.new u3g (.new (u3n _ u3g) (.new (u3n _ (u3n _ u3g)) .nil)))))
  ⟨u3l _,by simp,rfl,rfl,rfl⟩ ?_
 rintro ⟨j,b,lo,hi⟩ ⟨h2,h3,h4,h5,h6⟩;simp only at h2 h3 h4 h5 h6 ⊢;conv=>whnf
 repeat' (first|((first|(refine iM fun _=>?_)|refine dA ?_|refine u3d rfl ?_|refine aD ?_|refine bP ?_|(refine iA fun _=>?_)|refine wI ?_|refine u6q (by simp) rfl (by show (lo.length+1)*8<=140737488355328;omega) (by show lo.length+1<=9223372036854775807;omega) (fun x hx=>by rcases u3b.1 hx with rfl;exact ⟨rfl,rfl⟩) ?_);conv=>whnf)|(apply bD<;>intro _<;>first|omega|conv=>whnf)|(refine u3d ?_ ?_<;>conv=>whnf))
 ·have hj:j<p.procs.length:=by omega
  have hst:=x1w hj;refine CallK.heap [(1000,0),(2000,1),(2001,2),(2002,3)] 0 (by refine u4w (u4v _) (u4w (u4v _) (u4w (LSub.agg ?_) u4s));repeat' (first|exact SubL.nil|refine SubL.cons ?_ ?_|exact Sub.refl _|exact Sub.nils|exact Sub.ff rfl)) (by exact u4x (j:=0) rfl rfl (CSub.of_eq (by rw [u3f];first|done|rfl)) (u4x (j:=1) rfl rfl (CSub.refl _) (u4x (j:=2) rfl rfl (CSub.of_eq (by rw [u3t];first|done|rfl)) (u4x (j:=3) rfl rfl (CSub.refl _) u4c)))) (z7t 1000 (by omega) p.procs[j].body (by omega) b (by omega) ⟨S0,j,0,-1,0⟩ _ _ (lo++[(b.length:Int)+1]) hi) rfl rfl ?_;rintro l' H' ⟨rfl,rfl⟩;conv=>whnf
  have hlen:=XD j 0 (-1) 0 b p.procs[j].body;repeat' (first|((first|(refine iM fun _=>?_)|refine dA ?_|refine u3d rfl ?_|refine aD ?_|refine bP ?_|refine wI ?_|refine u6q (by simp) rfl (by show (hi.length+1)*8<=140737488355328;omega) (by show hi.length+1<=9223372036854775807;omega) (fun x hx=>by rcases u3b.1 hx with rfl;exact ⟨rfl,rfl⟩) ?_|refine Wr.i64 (by rw [XD];omega) (by rw [XD];omega) ?_);conv=>whnf)|(refine u3d ?_ ?_<;>conv=>whnf))
  all_goals exact ⟨(j+1,XA j 0 (-1) 0 b p.procs[j].body,lo++[(b.length:Int)+1],hi++[((XA j 0 (-1) 0 b p.procs[j].body).length:Int)+1]),⟨by simp only;omega,by simp only;omega,by simp [h4],by simp [h5],by simp only;rw [<- h6,z2c hj]⟩,by simp only;omega,Le.of_eq (by simp only [v7h,u3f,u3t];rfl)⟩
 ·have hj:j<p.procs.length:=by omega
  have hst:=x1w hj;refine CallK.heap [(1000,0),(2000,1),(2001,2),(2002,3)] 0 (by refine u4w (u4v _) (u4w (u4v _) (u4w (LSub.agg ?_) u4s));repeat' (first|exact SubL.nil|refine SubL.cons ?_ ?_|exact Sub.refl _|exact Sub.nils|exact Sub.ff rfl)) (by exact u4x (j:=0) rfl rfl (CSub.of_eq (by rw [u3f];first|done|rfl)) (u4x (j:=1) rfl rfl (CSub.refl _) (u4x (j:=2) rfl rfl (CSub.of_eq (by rw [u3t];first|done|rfl)) (u4x (j:=3) rfl rfl (CSub.refl _) u4c)))) (z7t 1000 (by omega) p.procs[j].body (by omega) b (by omega) ⟨S0,j,0,-1,0⟩ _ _ (lo++[(b.length:Int)+1]) hi) rfl rfl ?_;rintro l' H' ⟨rfl,rfl⟩;conv=>whnf
  have hlen:=XD j 0 (-1) 0 b p.procs[j].body;repeat' (first|((first|(refine iM fun _=>?_)|refine dA ?_|refine u3d rfl ?_|refine aD ?_|refine bP ?_|refine wI ?_|refine u6q (by simp) rfl (by show (hi.length+1)*8<=140737488355328;omega) (by show hi.length+1<=9223372036854775807;omega) (fun x hx=>by rcases u3b.1 hx with rfl;exact ⟨rfl,rfl⟩) ?_|refine Wr.i64 (by rw [XD];omega) (by rw [XD];omega) ?_);conv=>whnf)|(refine u3d ?_ ?_<;>conv=>whnf))
  all_goals exact ⟨(j+1,XA j 0 (-1) 0 b p.procs[j].body,lo++[(b.length:Int)+1],hi++[((XA j 0 (-1) 0 b p.procs[j].body).length:Int)+1]),⟨by simp only;omega,by simp only;omega,by simp [h4],by simp [h5],by simp only;rw [<- h6,z2c hj]⟩,by simp only;omega,Le.of_eq (by simp only [v7h,u3f,u3t];rfl)⟩
 ·have hd:p.procs.drop j=[]:=u4z (by omega);rw [hd,x3p] at h6;refine ⟨.ip (sheetOf p).cells,?_,rfl⟩;have e:(sheetOf p).cells=[eStrs p.globals,.sl (p.procs.map fun f => .agg f.cells),.sl (b.map fun i => .agg i.cells),QR lo,QR hi]:=by
   unfold sheetOf;rw [<- h6];rfl
  rw [e];have hF : ∀ H:Heap,getH H 1=some (.own 151 17 (b.map fun i => .agg i.cells))->getH H 2=some (.own 3 1 (lo.map (.int .i64)))->getH H 3=some (.own 3 1 (hi.map (.int .i64))) ->
    FrzL H [.p (eStrs p.globals),.p (.sl (p.procs.map fun f => .agg f.cells)),.hd 1 0 b.length,.hd 2 0 lo.length,.hd 3 0 hi.length] [eStrs p.globals,.sl (p.procs.map fun f => .agg f.cells),.sl (b.map fun i => .agg i.cells),QR lo,QR hi]:=fun H g1 g2 g3 =>
   .cons (.p (Sub.refl _)) (.cons (.p (Sub.refl _)) (.cons (.hd g1 (by simp)) (.cons (.hd g2 (by simp)) (.cons (.hd g3 (by simp)) .nil))))
  refine Frz.ptr (off:=0) rfl rfl fun m l c hl hc => ?_;obtain ⟨l',h7,h8⟩:=(hF (v7h 154 151 3 p b lo hi) rfl rfl rfl).get.2 m c hc;have h9:=h7.symm.trans hl;cases h9;exact h8
theorem IdxK.at {es:List AV} {sz k:Nat} {e:AV} {n:Int} {K:List AV->Prop} (hn:n=k) (he:es[k]? = some e) (hs:e.cells.length=sz) (h:K e.cells):IdxK es sz n K:=⟨k,e,hn,he,hs,h⟩
theorem YZ {l:List Int} {k:Nat} {n:Int} (h:l[k]? = some n):(l.map (AV.int .i64))[k]? = some (.int .i64 n):=by simp [h]
def YW (l:List Item):AV := .sl (l.map fun i => .agg i.cells)
theorem q3p (s:Sheet) (i lo hi:Nat) (h1:s.lo[i]? = some ((lo:Int)+1)) (h2:s.hi[i]? = some ((hi:Int)+1)) (h3:lo<=hi) (h4:hi<=s.l.length) (h5:s.l.length<=1000):SpecP prog 195 [.ip s.cells,.int .i64 i] (fun r=>r=YW ((s.l.take hi).drop lo)):=by
 refine sB x0h func195 rfl call195 ?_;conv=>whnf
 repeat' ((first|refine dA ?_|refine wI ?_|(refine IdxK.at rfl (YZ h1) rfl ?_)|(refine IdxK.at rfl (YZ h2) rfl ?_)|refine u3d (fun e he=>by obtain ⟨x,_,rfl⟩:=u3s.1 he;rfl) (SlK.mk lo hi (by simp) (by simp) h3 (by simpa using h4) ?_));conv=>whnf)
 exact RetK.p (by simp [YW,List.map_take,List.map_drop])
theorem q0j (s:Sheet) (id:Int):SpecP prog 82 [.ip s.cells,.int .i64 id] (fun r=>r = .bool (decide (1<=id)&&decide (id<=s.l.length))):=by
 refine sB q8t func82 rfl call82 ?_;conv=>whnf
 repeat' (first|(refine iM fun _=>?_;conv=>whnf)|(apply bD<;>intro _<;>first|omega|conv=>whnf))
 all_goals have hl:(s.l.map fun i=>AV.agg i.cells).length=s.l.length:=u3k _
 ·exact RetK.bool (by simp_all)
 ·exact RetK.ff (by simp;omega)
theorem q9q (s:Sheet) (i lo hi:Nat) (h1:s.lo[i]? = some ((lo:Int)+1)) (h2:s.hi[i]? = some ((hi:Int)+1)):SpecP prog 146 [.ip s.cells,.int .i64 i] (fun r=>r = .int .i64 (if lo<hi then (lo:Int)+1 else -1)):=by
 refine sB q2b func146 rfl call146 ?_;conv=>whnf
 repeat' (first|((first|refine dA ?_|(refine IdxK.at rfl (YZ h1) rfl ?_)|(refine IdxK.at rfl (YZ h2) rfl ?_));conv=>whnf)|(apply bD<;>intro _<;>first|omega|conv=>whnf))
 ·exact RetK.int (by rw [if_pos (by omega)])
 ·exact RetK.int (by rw [if_neg (by omega)])
theorem JK (l:List Str) (g:Nat) (c:AV) (p:Str->Bool) (hp : ∀ s,SpecP prog g [.str s,c] (fun r=>r = .bool (p s))):SpecP prog 250 [eStrs l,.fn g [c]] (fun r=>r = .int .i64 (q3l p l)):=by
 refine sB YX func250 rfl call250 ?_;conv=>whnf
 refine iM fun _=>?_;have hl:(l.map AV.str).length=l.length:=u3k _;conv=>whnf
 refine LoopK.inv QX (fun j:Nat=>⟨[(0,.p (eStrs l)),(1,.p (.fn g [c])),(7,.p (.int .i64 (l.map AV.str).length)),(8,.p (.int .i64 j))],[]⟩) (fun j=>j<=l.length∧(l.drop j).any p=l.any p∧l.findIdx p=j+(l.drop j).findIdx p) (fun j=>l.length-j) 0 (Le.of_eq rfl) ⟨u3l _,rfl,by simp⟩ ?_;rintro j ⟨h2,h3,h4⟩;conv=>whnf
 repeat' (first|((first|(refine iA fun _=>?_)|refine wI ?_|refine cP (hp _) ?_);conv=>whnf)|(apply bD<;>intro _<;>first|omega|conv=>whnf)|(apply bB<;>intro _<;>conv=>whnf))
 ·exact RetK.int (q9c (p:=p) (by omega) (by assumption) h3 h4).symm
 ·exact ⟨j+1,⟨by omega,by rw [<- h3,q0u (p:=p) (by omega) (by assumption)],by rw [h4,w8t (p:=p) (by omega) (by assumption)];omega⟩,by omega,Le.of_eq rfl⟩
 ·exact RetK.int (by rw [x8w];rw [<- h3,HI (by omega)])
theorem YQ (l:List Str) (g:Nat) (c:AV) (p:Str->Bool) (hp : ∀ s,SpecP prog g [.str s,c] (fun r=>r = .bool (p s))):SpecP prog 193 [eStrs l,.fn g [c]] (fun r=>r = .bool (l.any p)):=by
 refine sB VI func193 rfl call193 ?_;conv=>whnf
 repeat' (refine cP (JK _ _ _ p hp) ?_;conv=>whnf)
 exact RetK.bool x1i
theorem ZJ (l:List Pr) (g:Nat) (c:AV) (p:Pr->Bool) (hp : ∀ s:Pr,SpecP prog g [.agg s.cells,c] (fun r=>r = .bool (p s))):SpecP prog 135 [.sl (l.map fun f => .agg f.cells),.fn g [c]] (fun r=>r = .int .i64 (q3l p l)):=by
 refine sB VR func135 rfl call135 ?_;conv=>whnf
 refine iM fun _=>?_;have hl:(l.map fun f=>AV.agg f.cells).length=l.length:=u3k _;conv=>whnf
 refine LoopK.inv QX (fun j:Nat=>⟨[(0,.p (.sl (l.map fun f => .agg f.cells))),(1,.p (.fn g [c])),(7,.p (.int .i64 (l.map fun f=>AV.agg f.cells).length)),(8,.p (.int .i64 j))],[]⟩) (fun j=>j<=l.length∧(l.drop j).any p=l.any p∧l.findIdx p=j+(l.drop j).findIdx p) (fun j=>l.length-j) 0 (Le.of_eq rfl) ⟨u3l _,rfl,by simp⟩ ?_;rintro j ⟨h2,h3,h4⟩;conv=>whnf
 repeat' (first|((first|(refine iA fun _=>?_)|refine wI ?_|refine cP (hp _) ?_);conv=>whnf)|(apply bD<;>intro _<;>first|omega|conv=>whnf)|(apply bB<;>intro _<;>conv=>whnf))
 ·exact RetK.int (q9c (p:=p) (by omega) (by assumption) h3 h4).symm
 ·exact ⟨j+1,⟨by omega,by rw [<- h3,q0u (p:=p) (by omega) (by assumption)],by rw [h4,w8t (p:=p) (by omega) (by assumption)];omega⟩,by omega,Le.of_eq rfl⟩
 ·exact RetK.int (by rw [x8w];rw [<- h3,HI (by omega)])
theorem VF (l:List Pr) (g:Nat) (c:AV) (p:Pr->Bool) (hp : ∀ s:Pr,SpecP prog g [.agg s.cells,c] (fun r=>r = .bool (p s))):SpecP prog 315 [.sl (l.map fun f => .agg f.cells),.fn g [c]] (fun r=>r = .bool (l.any p)):=by
 refine sB VQ func315 rfl call315 ?_;conv=>whnf
 repeat' (refine cP (ZJ _ _ _ p hp) ?_;conv=>whnf)
 exact RetK.bool x1i
theorem x9z (p:Pg) (n:Str):SpecP prog 194 [.str n,.ip p.cells] (fun r=>r = .bool (p.globals.any fun s=>n==s)):=by
 refine sB x0d func194 rfl call194 ?_;conv=>whnf
 repeat' (refine cP (QU _ _) ?_;conv=>whnf)
 exact RetK.p rfl
theorem q6v (n:Str) (f:Pr):SpecP prog 136 [.agg f.cells,.ip [.str n]] (fun r=>r = .bool (f.name==n)):=by
 refine sB q0f func136 rfl call136 ?_;conv=>whnf
 skip
 exact RetK.p rfl
theorem x9d (n:Str) (f:Pr):SpecP prog 316 [.agg f.cells,.ip [.str n]] (fun r=>r = .bool (f.name==n)):=by
 refine sB x0p func316 rfl call316 ?_;conv=>whnf
 skip
 exact RetK.p rfl
theorem VW (s:Sheet) (n:Str):SpecP prog 76 [.ip s.cells,.str n] (fun r=>r = .int .i64 (q3l (fun f=>f.name==n) s.p.procs)):=by
 refine sB q5n func76 rfl call76 ?_;conv=>whnf
 repeat' (refine cP (ZJ _ _ _ (fun f=>f.name==n) (fun f=>q6v n f)) ?_;conv=>whnf)
 exact RetK.p rfl
theorem XR {es:List AV} {n:Nat} {K:Prop} (xs:List Str) (hn:n=es.length) (hb:es.length+xs.length<=8796093022208) (hK:K):AppK es (xs.map .str) n (xs.map AV.str).length 1 16 K :=
 .mk hn rfl (by rw [hn];simp;omega) (by rw [hn];simp [maxLen];omega) (fun x hx=>by obtain ⟨y,_,rfl⟩:=u3s.1 hx;exact ⟨rfl,rfl⟩) hK
theorem QH {es:List AV} {n:Nat} {K:Prop} {s:Str} (hn:n=es.length) (hb:es.length<=8796093022000) (hK:K):AppK es [.str s] n 1 1 16 K :=
 .mk hn rfl (by omega) (by simp only [maxLen];omega) (fun x hx=>by rcases u3b.1 hx with rfl;exact ⟨rfl,rfl⟩) hK
theorem ZZ {es:List AV} {n:Nat} {K:Prop} {s:Int} (hn:n=es.length) (hb:es.length<=8796093022000) (hK:K):AppK es [.int .i64 s] n 1 1 8 K :=
 .mk hn rfl (by omega) (by simp only [maxLen];omega) (fun x hx=>by rcases u3b.1 hx with rfl;exact ⟨rfl,rfl⟩) hK
mutual
def x3b:X->List Str->List Str
 | .mk op _ name kids,out=>FC kids (if op=2∧(out.any fun s=>name==s)=false then out++[name] else out)
def FC:List X->List Str->List Str
 | [],out=>out
 | x::r,out=>FC r (x3b x out)
end
theorem x7o (x:X) (out:List Str):x3b x out=FC x.kids (if x.op=2∧(out.any fun s=>x.name==s)=false then out++[x.name] else out):=by
 cases x;rw [x3b];rfl
theorem x5u {l:List X} {j:Nat} {out:List Str} (hj:j<l.length):FC (l.drop j) out=FC (l.drop (j+1)) (x3b l[j] out):=by
 rw [QF hj,FC]
theorem z2q {l:List X} {j:Nat} {out:List Str} (hj:l.length<=j):FC (l.drop j) out=out:=by
 rw [u4z hj,FC]
theorem q6z {n:Nat} {x:X} (h:VO (n+1) x=true):x.kids.length<=2∧(x.op=2->x.kids.length=0) ∧ ∀ k∈x.kids,VO n k=true:=by
 rw [VO] at h;simp only [u4u,u4b] at h;obtain ⟨h1,h2⟩:=h;refine ⟨?_,fun he => ?_,?_⟩
 ·unfold q9v at h1;(repeat' split at h1)<;>omega
 ·unfold q9v at h1;rw [if_pos (by omega)] at h1;omega
 ·by_cases h3:x.op=1
  ·have:x.kids.length=0:=by unfold q9v at h1;rw [if_pos (by omega)] at h1;omega
   rw [u6x this];simp
  ·by_cases h4:x.op=2
   ·have:x.kids.length=0:=by unfold q9v at h1;rw [if_pos (by omega)] at h1;omega
    rw [u6x this];simp
   ·rw [if_neg h3,if_neg h4] at h2;simp only [u4u] at h2;exact u5t.1 h2.2
theorem z5k : ∀ (n:Nat) (x:X) (out:List Str),VO n x=true->out.length<=(x3b x out).length∧(x3b x out).length<=out.length+2 ^ n:=by
 intro n;induction n with
 | zero=>intro x out h;rw [VO] at h;cases h
 | succ n ih =>
   intro x out h;obtain ⟨h1,h2,h3⟩:=q6z h;have key : ∀ (l:List X) (o:List Str),(∀ k∈l,VO n k=true)->o.length<=(FC l o).length∧(FC l o).length<=o.length+l.length*2 ^ n:=by
    intro l;induction l with
    | nil=>intro o _;simp [FC]
    | cons k r ihl =>
      intro o hk;rw [FC];have h5:=ih k o (hk k (by simp));have h6:=ihl (x3b k o) fun k hk'=>hk k (by simp [hk']);simp only [u4t,u6j,Nat.one_mul];omega
   rw [x7o];have hp:2 ^ (n+1)=2*2 ^ n:=by rw [Nat.pow_succ];omega
   have hpos:0<2 ^ n:=Nat.pow_pos (by decide);have h4:=key x.kids (if x.op=2∧(out.any fun s=>x.name==s)=false then out++[x.name] else out) h3;have h5:x.kids.length*2 ^ n<=2*2 ^ n:=u5k _ h1;split at h4
   ·rename_i hc;have:=h2 hc.1;rw [this] at h4;rw [if_pos hc];simp only [u3f,u4l] at h4;omega
   ·rename_i hc;rw [if_neg hc];omega
def x8t (t:Nat) (out:List Str):Heap:=[(2000,.own t 1 (out.map .str))]
theorem x3k : ∀ (n:Nat) (_:n<=20) (x:X) (_:VO n x=true) (out:List Str) (_:out.length+2 ^ n<=1073741824),
  SpecH prog 262 [.p (.agg x.cells),.hd 2000 0 out.length] (x8t 9 out) (fun r H=>r = .hd 2000 0 (x3b x out).length∧H=x8t 9 (x3b x out)):=by
 intro n;induction n with
 | zero=>intro _ x h;rw [VO] at h;cases h
 | succ n ih =>
   intro hn x hx out ho;have hp:2 ^ (n+1)=2*2 ^ n:=by rw [Nat.pow_succ];omega
   have hpos:0<2 ^ n:=Nat.pow_pos (by decide);obtain ⟨hk1,hk2,hk3⟩:=q6z hx;have hxl:=X.avs_len x.kids;refine sH x7u func262 rfl call262 ?_;conv=>whnf
   repeat' (first|((first|(refine iM fun _=>?_)|refine u3d rfl ?_|refine aD ?_|refine bP ?_|(refine QD (QU out x.name) (.cons (.hd rfl (by simp)) (.cons (.p (Sub.refl _)) .nil)) (by rintro _ rfl;rfl) ?_;rintro _ rfl)|refine u6q (by simp) rfl (by show (out.length+1)*16<=140737488355328;omega) (by show out.length+1<=9223372036854775807;omega) (fun x hx=>by rcases u3b.1 hx with rfl;exact ⟨rfl,rfl⟩) ?_);conv=>whnf)|(apply bD<;>intro _<;>first|omega|conv=>whnf)|(apply bN<;>intro _<;>conv=>whnf))
   all_goals
    have hmul : ∀ j,j<x.kids.length->(x.kids.length-j)*2 ^ n=(x.kids.length-(j+1))*2 ^ n+2 ^ n:=fun j hj=>by
     rw [show x.kids.length-j=(x.kids.length-(j+1))+1 by omega,u6j,Nat.one_mul]
    have hmul0:x.kids.length*2 ^ n<=2*2 ^ n:=u5k _ hk1;first
    | refine LoopK.inv QX (fun i:Nat×List Str=>⟨[(1,.hd 2000 0 i.2.length),(23,.p (.sl (X.avs x.kids))),(24,.p (.int .i64 (X.avs x.kids).length)),(25,.p (.int .i64 i.1))],x8t 9 i.2⟩) (fun i=>i.1<=x.kids.length∧FC (x.kids.drop i.1) i.2=x3b x out∧i.2.length+(x.kids.length-i.1)*2 ^ n<=1073741824) (fun i=>x.kids.length-i.1) (0,out++[x.name]) (Le.of_eq (by simp [x8t];exact ⟨rfl,rfl⟩)) ⟨u3l _,by simp only [drop_zero];rw [x7o,if_pos ⟨by assumption,by assumption⟩],by have:=hk2 (by assumption);simp [this];omega⟩ ?_
    | refine LoopK.inv QX (fun i:Nat×List Str=>⟨[(1,.hd 2000 0 i.2.length),(23,.p (.sl (X.avs x.kids))),(24,.p (.int .i64 (X.avs x.kids).length)),(25,.p (.int .i64 i.1))],x8t 9 i.2⟩) (fun i=>i.1<=x.kids.length∧FC (x.kids.drop i.1) i.2=x3b x out∧i.2.length+(x.kids.length-i.1)*2 ^ n<=1073741824) (fun i=>x.kids.length-i.1) (0,out) (Le.of_eq rfl) ⟨u3l _,by simp only [drop_zero];rw [x7o,if_neg (by simp [*])],by simp only [Nat.sub_zero];omega⟩ ?_
    rintro ⟨j,acc⟩ ⟨h2,h3,h4⟩;simp only at h2 h3 h4 ⊢;conv=>whnf
    repeat' (first|((first|refine u3d rfl ?_|refine IdxK.xs (by omega) ?_);conv=>whnf)|(apply bD<;>intro _<;>first|omega|conv=>whnf))
    all_goals first
     | (rw [z2q (by omega)] at h3
        exact ⟨_,.refl _,by rw [h3];exact ⟨rfl,rfl⟩⟩)
     | (have hj:j<x.kids.length:=by omega
        have hm:=hmul j hj;have hg:=z5k n x.kids[j] acc (hk3 _ (u3i hj));refine CallK.heap [(2000,2000)] 0 (by repeat' (first|exact u4s|refine u4w ?_ ?_|exact u4v _|exact u4p Sub.nils|exact u4p (Sub.tt rfl)|exact u4p (Sub.ff rfl)|exact u4p (Sub.int (by omega)))) (by refine u4x (j:=2000) rfl rfl ?_ ?_;exact CSub.refl _;exact u4c) (ih (by omega) x.kids[j] (hk3 _ (u3i hj)) acc (by omega)) rfl rfl ?_;rintro l' H' ⟨rfl,rfl⟩;conv=>whnf
        refine wI ?_;conv=>whnf
        exact ⟨(j+1,x3b x.kids[j] acc),⟨by simp only;omega,by simp only;rw [<- h3,x5u hj],by simp only;omega⟩,by simp only;omega,Le.of_eq rfl⟩)
def QS (x:X):List Str:=bif w1f x then x3b x [] else []
theorem ZP (x:X):(QS x).length<=1048576:=by
 unfold QS;cases h:w1f x with
 | false=>simp
 | true =>
   have:=(z5k 20 x [] h).2;simpa using this
theorem q7y (x:X):SpecP prog 211 [.agg x.cells] (fun r=>r=eStrs (QS x)):=by
 refine sB q7t func211 rfl call211 ?_;conv=>whnf
 repeat' (first|(refine cP (MZ _) ?_;conv=>whnf)|(apply bN<;>intro _<;>conv=>whnf))
 ·refine CallK.nil 5 9 1 rfl (.cons rfl (.row .nil)) ?_;refine CallK.heap [(2000,5)] 0 (by repeat' (first|exact u4s|refine u4w ?_ ?_|exact u4v _|exact u4p Sub.nils|exact u4p (Sub.tt rfl)|exact u4p (Sub.ff rfl)|exact u4p (Sub.int (by omega)))) (by refine u4x (j:=5) rfl rfl ?_ ?_;exact CSub.refl _;exact u4c) (x3k 20 (by omega) x (by assumption) [] (by simp)) rfl rfl ?_;rintro l' H' ⟨rfl,rfl⟩;conv=>whnf
  refine ⟨_,.hd rfl (by simp),?_⟩;unfold QS;rw [show w1f x=true by assumption];rfl
 ·refine ⟨_,.p Sub.nils,?_⟩;unfold QS;rw [show w1f x=false by assumption];rfl
def KU (a:Arg):List Str:=(bif a.ref then [a.name] else [])++QS a.x
def BE (t:S):List Str:=(bif t.kind≠10 && !(t.name==[]) then [t.name] else [])++QS t.x
def WC (t:S):List Str:=BE t++t.args.flatMap KU
theorem w1n (a:Arg):(KU a).length<=1048577:=by
 have:=ZP a.x;unfold KU;cases a.ref<;>simp<;>omega
theorem w1m (t:S):(BE t).length<=1048577:=by
 have:=ZP t.x;unfold BE;cases (t.kind≠10 && !(t.name==[]):Bool)<;>simp<;>omega
theorem GY {α β:Type} {f:α->List β} {c:Nat} (h : ∀ a,(f a).length<=c) : ∀ l:List α,(l.flatMap f).length<=l.length*c
 | []=>by simp
 | x::r=>by
   have:=GY h r;have:=h x;simp only [u5b,u3f,u4t,u6j,Nat.one_mul];omega
def x7h (t:S) (j:Nat):List Str:=BE t++(t.args.take j).flatMap KU
theorem z7x (t:S) {j:Nat} (h:j<=t.args.length) (ha:t.args.length<=20000):(x7h t j).length<=21000000000:=by
 have h1:=w1m t;have h2:=GY w1n (t.args.take j);have h3:(t.args.take j).length*1048577<=20000*1048577:=u5k _ (by simp;omega);unfold x7h;simp only [u3f];omega
theorem z0e {t:S} {j:Nat} (hj:j<t.args.length):x7h t (j+1)=x7h t j++KU t.args[j]:=by
 unfold x7h;rw [u3a hj,u7v,u4f];simp
def BI (t:S) (tS:Nat) (j:Nat):St:=⟨[(3,.hd 0 0 (x7h t j).length),(25,.p (.sl (t.args.map fun a => .agg a.cells))),(26,.p (.int .i64 (t.args.map fun a=>AV.agg a.cells).length)),(27,.p (.int .i64 j))],[(0,.own tS 1 ((x7h t j).map .str))]⟩
theorem x4i (t:S) (ha:t.args.length<=20000):SpecP prog 251 [.agg t.cells] (fun r=>r=eStrs (WC t)):=by
 refine sB z0y func251 rfl call251 ?_;conv=>whnf
 repeat' (first|((first|(refine iM fun _=>?_)|refine cP (q7y _) ?_|refine u3d rfl ?_|refine aD ?_|refine bP ?_|refine XR _ (by simp) (by have:=ZP t.x;simp;omega) ?_|refine QH (by simp) (by simp) ?_);conv=>whnf)|(apply bE<;>intro _<;>first|omega|conv=>whnf)|(apply bN<;>intro _<;>conv=>whnf))
 all_goals
  have hl:(t.args.map fun a=>AV.agg a.cells).length=t.args.length:=u3k _;refine LoopK.inv QX (BI t 9) (fun j=>j<=t.args.length) (fun j=>t.args.length-j) 0 (Le.of_eq ?_) (u3l _) ?_
  ·first
    | (have e:x7h t 0=QS t.x:=by simp [x7h,BE,show t.kind=10 by assumption]
       rw [BI,e];simp only [u5s,u3k,u3f,u3t,u6u];rfl)
    | (have e:x7h t 0=QS t.x:=by simp [x7h,BE,show t.name=[] by simpa using (show (t.name==[])=true by assumption)]
       rw [BI,e];simp only [u5s,u3k,u3f,u3t,u6u];rfl)
    | (have e:x7h t 0=[t.name]++QS t.x:=by
        have:(t.name==[])=false:=by assumption
        simp [x7h,BE,show ¬t.kind=10 by assumption,this]
       rw [BI,e];simp only [u5s,u3k,u3f,u3t,u6u];rfl)
  intro j h2;have hacc:=z7x t h2 ha;conv=>whnf
  repeat' (first|((first|refine cP (q7y _) ?_|refine u3d rfl ?_|refine aD ?_|refine bP ?_|(refine iA fun _=>?_)|refine wI ?_|refine XR _ (by simp) (by have:=ZP (t.args[j]'(by omega)).x;simp;omega) ?_|refine QH (by simp) (by simp;omega) ?_);conv=>whnf)|(apply bD<;>intro _<;>first|omega|conv=>whnf)|(apply bB<;>intro _<;>conv=>whnf))
  all_goals first
   | exact ⟨_,.hd rfl (by simp),by
      have:t.args.take j=t.args:=u3o (by omega);rw [WC,<- this];rfl⟩
   | (have hj:j<t.args.length:=by omega
      have hst:=z0e hj;refine ⟨j+1,by show j+1<=_;omega,by show t.args.length-(j+1)<t.args.length-j;omega,Le.of_eq ?_⟩;first
       | (have hn:KU t.args[j]=[t.args[j].name]++QS t.args[j].x:=by rw [KU,show t.args[j].ref=true by assumption];rfl
          rw [BI,hst,hn];simp only [u3f,u3t,u3k,<- u4f,<- u6g];rfl)
       | (have hn:KU t.args[j]=QS t.args[j].x:=by rw [KU,show t.args[j].ref=false by assumption];rfl
          rw [BI,hst,hn];simp only [u3f,u3t,u3k];rfl))
def w8v:List Str->Nat
 | []=>0
 | s::r=>1+w8v r
mutual
def wX:X->Nat
 | .mk _ _ name kids=>1+wXs kids
def wXs:List X->Nat
 | []=>0
 | x::r=>wX x+wXs r
end
def x9l:List Arg->Nat
 | []=>0
 | a::r=>wX a.x+1+x9l r
mutual
def wS:S->Nat
 | .mk _ _ labels name proc x _ args thn els=>wX x+w8v labels+1+1+x9l args+wL thn+wL els
def wL:List S->Nat
 | []=>0
 | s::r=>wS s+wL r
end
def v5e:List Param->Nat
 | []=>0
 | a::r=>1+v5e r
def wPr (f:Pr):Nat:=1+w8v f.vars+w8v f.fin+v5e f.params+wL f.body
def v2a:List Pr->Nat
 | []=>0
 | f::r=>wPr f+v2a r
def wPg (p:Pg):Nat:=w8v p.globals+v2a p.procs
def Fit (p:Pg):Prop:=wPg p<=20000
theorem BB : ∀ l:List Str,l.length<=w8v l
 | []=>u3l _
 | s::r=>by have:=BB r;simp only [u4t,w8v];omega
theorem GP : ∀ l:List Arg,l.length<=x9l l
 | []=>u3l _
 | s::r=>by have:=GP r;simp only [u4t,x9l];omega
theorem x9r (s:S):wS s=wX s.x+w8v s.labels+1+1+x9l s.args+wL s.thn+wL s.els:=by
 cases s;rw [wS];rfl
mutual
theorem v6y : ∀ s:S,ZA s<=wS s
 | .mk id kind labels name proc x has args thn els=>by
   have:=z7f thn;have:=z7f els;rw [ZA,wS];omega
theorem z7f : ∀ l:List S,cntL l<=wL l
 | []=>by rw [cntL,wL];exact u4j _
 | s::r=>by
   have:=v6y s;have:=z7f r;rw [cntL,wL];omega
end
theorem w7e : ∀ {l:List Pr} {f:Pr},f∈l->wPr f<=v2a l
 | g::r,f,h=>by
   simp only [v2a];rcases u3c.1 h with rfl|h
   ·omega
   ·have:=w7e h;omega
theorem Fit.pr {p:Pg} (h:Fit p) {f:Pr} (hf:f∈p.procs):wPr f<=20000:=by
 have:=w7e hf;unfold Fit wPg at h;omega
mutual
def flS:S->List S
 | .mk id kind labels name proc x has args thn els => .mk id kind labels name proc x has args thn els::(flL thn++flL els)
def flL:List S->List S
 | []=>[]
 | s::r=>flS s++flL r
end
theorem z7n (s:S):flS s=s::(flL s.thn++flL s.els):=by
 cases s;rw [flS];rfl
mutual
theorem v3b : ∀ s:S,(flS s).length=ZA s
 | .mk id kind labels name proc x has args thn els=>by
   rw [flS,ZA,u4t,u3f,x1h thn,x1h els];omega
theorem x1h : ∀ l:List S,(flL l).length=cntL l
 | []=>by rw [flL,cntL];rfl
 | s::r=>by rw [flL,cntL,u3f,v3b s,x1h r]
end
mutual
theorem v9x : ∀ (s t:S),t∈flS s->wS t<=wS s
 | .mk id kind labels name proc x has args thn els,t,h=>by
   rw [flS] at h;rcases u3c.1 h with rfl|h
   ·exact u4j _
   ·rw [wS];rcases u3p.1 h with h|h
    ·have:=x1f thn t h;omega
    ·have:=x1f els t h;omega
theorem x1f : ∀ (l:List S) (t:S),t∈flL l->wS t<=wL l
 | [],t,h=>by rw [flL] at h;cases h
 | s::r,t,h=>by
   rw [flL] at h;rw [wL];rcases u3p.1 h with h|h
   ·have:=v9x s t h;omega
   ·have:=x1f r t h;omega
end

mutual
def itS (proc up nx loop:Int) (n:Nat):S->List Item
 | .mk id kind labels name pr x has args thn els =>
   ⟨.mk id kind labels name pr x has args thn els,proc,up,nx,loop⟩::(itL proc (n+1) (if kind=6 then n+1 else nx) (if kind=6 then n+1 else loop) (n+1) thn ++
     itL proc (n+1) (if kind=6 then n+1 else nx) (if kind=6 then n+1 else loop) (n+1+cntL thn) els)
def itL (proc up nx loop:Int) (n:Nat):List S->List Item
 | []=>[]
 | t::r=>itS proc up (if r.isEmpty then nx else n+1+ZA t) loop n t++itL proc up nx loop (n+ZA t) r
end
mutual
theorem v4o (proc up nx loop:Int) : ∀ (t:S) (acc:List Item),x0j proc up nx loop acc t=acc++itS proc up nx loop acc.length t
 | .mk id kind labels name pr x has args thn els,acc=>by
   rw [x0j,itS,q4d _ _ _ _ thn,q4d _ _ _ _ els];simp only [u3f,u4t,u9v,u4f,u7i,u6u,WR proc _ _ _ _ thn,u5s,u6g,u9d (cntL thn) 1]
theorem q4d (proc up nx loop:Int) : ∀ (l:List S) (acc:List Item),XA proc up nx loop acc l=acc++itL proc up nx loop acc.length l
 | [],acc=>by rw [XA,itL,u4e]
 | t::r,acc=>by
   rw [XA,itL,v4o _ _ _ _ t,q4d _ _ _ _ r];simp only [u3f,u4f,w4c proc _ _ _ _ t]
theorem w4c (proc up nx loop:Int) (n:Nat) : ∀ t:S,(itS proc up nx loop n t).length=ZA t
 | .mk id kind labels name pr x has args thn els=>by
   rw [itS,ZA,u4t,u3f,WR _ _ _ _ _ thn,WR _ _ _ _ _ els];omega
theorem WR (proc up nx loop:Int) (n:Nat) : ∀ l:List S,(itL proc up nx loop n l).length=cntL l
 | []=>by rw [itL,cntL];rfl
 | t::r=>by rw [itL,cntL,u3f,w4c _ _ _ _ _ t,WR _ _ _ _ _ r]
end
mutual
theorem v9j (proc up nx loop:Int) (n:Nat) : ∀ t:S,(itS proc up nx loop n t).map Item.s=flS t
 | .mk id kind labels name pr x has args thn els=>by
   rw [itS,flS,u4m,u3t,LA _ _ _ _ _ thn,LA _ _ _ _ _ els]
theorem LA (proc up nx loop:Int) (n:Nat) : ∀ l:List S,(itL proc up nx loop n l).map Item.s=flL l
 | []=>by rw [itL,flL];rfl
 | t::r=>by rw [itL,flL,u3t,v9j _ _ _ _ _ t,LA _ _ _ _ _ r]
end
def QN:List Pr->Nat->Nat
 | _,0=>0
 | [],_+1=>0
 | f::r,i+1=>cntL f.body+QN r i
theorem z2s : ∀ (l:List Pr) (i:Nat) (acc:List Item) (lo hi:List Int),lo.length=i->hi.length=i ->
  (x3p i acc lo hi l).2.1.length=i+l.length∧(x3p i acc lo hi l).2.2.length=i+l.length ∧
  (∀ k,k<i->(x3p i acc lo hi l).2.1[k]? = lo[k]? ∧ (x3p i acc lo hi l).2.2[k]? = hi[k]?) ∧ ∃ L,(x3p i acc lo hi l).1=acc++L∧L.length=cntP l ∧
  ∀ (k:Nat) (f:Pr),l[k]? = some f->(x3p i acc lo hi l).2.1[i+k]? = some ((acc.length+QN l k:Nat)+1:Int)∧(x3p i acc lo hi l).2.2[i+k]? = some ((acc.length+QN l k+cntL f.body:Nat)+1:Int) ∧
   QN l k+cntL f.body<=cntP l∧(L.take (QN l k+cntL f.body)).drop (QN l k)=itL (i+k:Nat) 0 (-1) 0 (acc.length+QN l k) f.body
 | [],i,acc,lo,hi,h1,h2=>by
   rw [x3p];exact ⟨by simpa using h1,by simpa using h2,fun _ _=>⟨rfl,rfl⟩,[],by simp,rfl,fun k f h=>by simp at h⟩
 | f::r,i,acc,lo,hi,h1,h2=>by
   rw [x3p];have hrow:=q4d i 0 (-1) 0 f.body acc;have hlen:=XD i 0 (-1) 0 acc f.body;obtain ⟨h3,h4,h5,L,h6,h7,h8⟩:=z2s r (i+1) (XA i 0 (-1) 0 acc f.body) (lo++[(acc.length:Int)+1]) (hi++[((XA i 0 (-1) 0 acc f.body).length:Int)+1]) (by simp [h1]) (by simp [h2]);refine ⟨by rw [h3,u4t];omega,by rw [h4,u4t];omega,fun k hk => ?_,itL i 0 (-1) 0 acc.length f.body++L,?_,?_,fun k g hg => ?_⟩
   ·obtain ⟨h9,h10⟩:=h5 k (by omega);rw [h9,h10,u5g (by omega),u5g (by omega)];exact ⟨rfl,rfl⟩
   ·rw [h6,hrow,u4f]
   ·rw [u3f,h7,WR,cntP]
   ·cases k with
    | zero =>
      simp only [u9x,u6d] at hg;subst hg;obtain ⟨h9,h10⟩:=h5 i (by omega);simp only [u8e,QN,u5s,drop_zero];refine ⟨?_,?_,?_,?_⟩
      ·rw [h9,u5f (by omega),h1];simp
      ·rw [h10,u5f (by omega),h2,hlen];simp
      ·rw [cntP];omega
      ·rw [List.take_append_of_le_length (by rw [WR];omega),u3o (by rw [WR];omega)]
    | succ k =>
      simp only [u9q] at hg;obtain ⟨h9,h10,h11,h12⟩:=h8 k g hg;rw [hlen] at h12;simp only [QN];refine ⟨?_,?_,?_,?_⟩
      ·rw [show i+(k+1)=i+1+k by omega,h9,hlen];congr 2;omega
      ·rw [show i+(k+1)=i+1+k by omega,h10,hlen];congr 2;omega
      ·rw [cntP];omega
      ·rw [List.take_append,List.drop_append,WR,u3o (by rw [WR];omega),u4z (by rw [WR];omega),u6u];simp only [WR];rw [show cntL f.body+QN r k+cntL g.body-cntL f.body=QN r k+cntL g.body by omega,show cntL f.body+QN r k-cntL f.body=QN r k by omega,h12];rw [show i+(k+1)=i+1+k by omega,show acc.length+(cntL f.body+QN r k)=acc.length+cntL f.body+QN r k by omega]
theorem QJ (p:Pg):(sheetOf p).p=p∧(sheetOf p).lo.length=p.procs.length∧(sheetOf p).hi.length=p.procs.length∧(sheetOf p).l.length=cntP p.procs ∧
  ∀ (k:Nat) (f:Pr),p.procs[k]? = some f->(sheetOf p).lo[k]? = some ((QN p.procs k:Nat)+1:Int)∧(sheetOf p).hi[k]? = some ((QN p.procs k+cntL f.body:Nat)+1:Int) ∧
   QN p.procs k+cntL f.body<=cntP p.procs∧((sheetOf p).l.take (QN p.procs k+cntL f.body)).drop (QN p.procs k)=itL k 0 (-1) 0 (QN p.procs k) f.body:=by
 obtain ⟨h3,h4,_,L,h6,h7,h8⟩:=z2s p.procs 0 [] [] [] rfl rfl;refine ⟨rfl,by unfold sheetOf;simpa using h3,by unfold sheetOf;simpa using h4,by unfold sheetOf;simp [h6,h7],fun k f hk => ?_⟩;have:=h8 k f hk;unfold sheetOf;simp only [h6,u6u,u9v,u5s] at this ⊢;exact this
mutual
theorem KL (nest seen:Int) : ∀ (s:S) {m:Int},x0y nest seen s=some m->m=seen+ZA s
 | .mk id kind labels name proc x has args thn els,m,h=>by
   simp only [x0y] at h;split at h
   ·cases h
   split at h
   ·cases h
   cases hn:namesB labels<;>rw [hn] at h
   ·cases h
   cases hf:VS (.mk id kind labels name proc x has args thn els)<;>rw [hf] at h
   ·cases h
   simp only [u4y] at h;split at h
   ·rename_i m1 h1;have h2:=WG (nest+1) (seen+1) thn h1;have h3:=WG (nest+1) m1 els h;rw [ZA];omega
   ·cases h
theorem WG (nest seen:Int) : ∀ (l:List S) {m:Int},WV nest seen l=some m->m=seen+cntL l
 | [],m,h=>by
   simp only [WV] at h;cases h;rw [cntL];simp
 | s::r,m,h=>by
   simp only [WV] at h;split at h
   ·cases h
   split at h
   ·rename_i m1 h1;have h2:=KL nest seen s h1;have h3:=WG nest m1 r h;rw [cntL];omega
   ·cases h
end
theorem x5s : ∀ (l:List Pr) {seen m:Int},seen<=200->ZY seen l=some m->m=seen+cntP l∧m<=200
 | [],seen,m,h0,h=>by rw [ZY] at h;cases h;simp [cntP];exact h0
 | f::r,seen,m,h0,h=>by
   rw [ZY] at h;cases hm:FX f<;>rw [hm] at h
   ·cases h
   simp only [u4y] at h;split at h
   ·rename_i m1 h1;have h2:=WG 1 seen f.body h1;have h3:=x2c 1 seen f.body h0 h1;have h4:=x5s r (by omega) h;rw [cntP];omega
   ·cases h
theorem ZM {p:Pg} (h:UB p=true):p.globals.length<=16∧p.procs.length<=16∧cntP p.procs<=200:=by
 unfold UB at h;simp only [u4u,u4b] at h;obtain ⟨⟨⟨h1,h2⟩,_⟩,h3⟩:=h;cases hm:ZY 0 p.procs with
 | none=>rw [hm] at h3;cases h3
 | some m =>
   have:=x5s p.procs (by decide) hm;omega
theorem w5h {p:Pg} (h:UB p=true) {f:Pr} (hf:f∈p.procs):FX f=true:=by
 unfold UB at h;simp only [u4u] at h;have h3:=h.2;have key : ∀ (l:List Pr) (seen:Int),(ZY seen l).isSome=true -> ∀ f∈l,FX f=true:=fun l=>by
  induction l with
  | nil=>intro _ _ f hf;cases hf
  | cons g r ih =>
    intro seen h f hf;rw [ZY] at h;cases hm:FX g<;>rw [hm] at h
    ·cases h
    simp only [u4y] at h;split at h
    ·rename_i m1 h1;rcases u3c.1 hf with rfl|hf
     ·exact hm
     ·exact ih _ h f hf
    ·cases h
 exact key _ _ h3 f hf
def BZ (p:Pg) (f:Pr) (name:Str):Int :=
 match f.params.find? (fun a=>a.name==name) with
 | some a=>bif a.ref then 3 else 2
 | none=>bif f.vars.any (fun s=>name==s) then 4 else bif p.globals.any (fun s=>name==s) then 1 else 0
theorem NJ {α:Type} {l:List α} {p:α->Bool} {j:Nat} (hj:j<l.length) (h:p l[j]=false):(l.drop (j+1)).find? p=(l.drop j).find? p:=by
 rw [QF hj,u9r,h]
theorem HU {α:Type} {l:List α} {p:α->Bool} {j:Nat} (hj:j<l.length) (h:p l[j]=true):(l.drop j).find? p=some l[j]:=by
 rw [QF hj,u9r,h]
theorem HV {α:Type} {l:List α} {p:α->Bool} {j:Nat} (hj:l.length<=j):(l.drop j).find? p=none:=by
 rw [u4z hj];rfl
theorem w2x (p:Pg) (f:Pr) (name:Str):SpecP prog 107 [.agg p.cells,.agg f.cells,.str name] (fun r=>r = .int .i64 (BZ p f name)):=by
 refine sB z0p func107 rfl call107 ?_;conv=>whnf
 repeat' (refine iM fun _=>?_;conv=>whnf)
 have hl:(f.params.map fun a=>AV.agg a.cells).length=f.params.length:=u3k _;refine LoopK.inv QX (fun j:Nat=>⟨[(2,.p (.str name)),(3,.p (.ip p.cells)),(4,.p (.ip f.cells)),(10,.p (.sl (f.params.map fun a => .agg a.cells))),(11,.p (.int .i64 (f.params.map fun a=>AV.agg a.cells).length)),(12,.p (.int .i64 j))],[]⟩) (fun j=>j<=f.params.length∧(f.params.drop j).find? (fun a=>a.name==name)=f.params.find? (fun a=>a.name==name)) (fun j=>f.params.length-j) 0 (Le.of_eq rfl) ⟨u3l _,rfl⟩ ?_;rintro j ⟨h2,h3⟩;conv=>whnf
 repeat' (first|((first|refine cP (QU _ _) ?_|refine u3d rfl ?_|(refine iA fun _=>?_)|refine wI ?_);conv=>whnf)|(apply bD<;>intro _<;>first|omega|conv=>whnf)|(apply bB<;>intro _<;>conv=>whnf))
 all_goals try have hj:j<f.params.length:=by omega
 all_goals first
  | (exfalso
     have h8:((f.params[j]'(by omega)).name==name)=true:=by assumption
     have h9:((f.params[j]'(by omega)).name==name)=false:=by assumption
     rw [h8] at h9;cases h9)
  | (have e:=HU (p:=fun a:Param=>a.name==name) (by omega) (by assumption)
     rw [h3] at e;exact RetK.int (by unfold BZ;rw [e];simp [*]))
  | (refine ⟨j+1,⟨by omega,by rw [<- h3,NJ (p:=fun a:Param=>a.name==name) (by omega) (by assumption)]⟩,by omega,Le.of_eq rfl⟩)
  | (have e:f.params.find? (fun a=>a.name==name)=none:=by rw [<- h3,HV (by omega)]
     exact RetK.int (by unfold BZ;rw [e];simp [*]))
def mainS:Str:=[109,97,105,110]
def knownB (p:Pg) (f:Pr) (procs:List Str) (t:S):Bool:=(WC t).all (fun n => !(BZ p f n==0))&&(decide (t.kind≠4)||(!(t.proc==mainS)&&procs.any fun s=>t.proc==s))
theorem z6u (p:Pg) (f:Pr) (procs:List Str) (t:S) (ha:t.args.length<=20000):SpecP prog 196 [.agg p.cells,.agg f.cells,eStrs procs,.agg t.cells] (fun r=>r = .bool (knownB p f procs t)):=by
 refine sB x7q func196 rfl call196 ?_;conv=>whnf
 repeat' ((first|(refine iM fun _=>?_)|refine cP (x4i _ ha) ?_);conv=>whnf)
 have hl:((WC t).map AV.str).length=(WC t).length:=u3k _;refine LoopK.inv QX (fun j:Nat=>⟨[(2,.p (eStrs procs)),(4,.p (.ip p.cells)),(5,.p (.ip f.cells)),(7,.p (.ip t.cells)),(12,.p (eStrs (WC t))),(13,.p (.int .i64 ((WC t).map AV.str).length)),(14,.p (.int .i64 j))],[]⟩) (fun j=>j<=(WC t).length∧((WC t).drop j).all (fun n => !(BZ p f n==0))=(WC t).all (fun n => !(BZ p f n==0))) (fun j=>(WC t).length-j) 0 (Le.of_eq rfl) ⟨u3l _,rfl⟩ ?_;rintro j ⟨h2,h3⟩;conv=>whnf
 repeat' (first|((first|refine cP (w2x _ _ _) ?_|refine cP (QU _ _) ?_|(refine iA fun _=>?_)|refine wI ?_);conv=>whnf)|(apply bD<;>intro _<;>first|omega|conv=>whnf)|(apply bE<;>intro _<;>first|omega|conv=>whnf)|(apply bN<;>intro _<;>conv=>whnf))
 ·exact RetK.ff (by
   have e:=q3y (p:=fun n => !(BZ p f n==0)) (l:=WC t) (j:=j) (by omega) (by simp;assumption);rw [knownB,<- h3,e,Bool.false_and])
 ·exact ⟨j+1,⟨by omega,by rw [<- h3,HE (p:=fun n => !(BZ p f n==0)) (by omega) (by simp;assumption)]⟩,by omega,Le.of_eq rfl⟩
 all_goals
  have e:(WC t).all (fun n => !(BZ p f n==0))=true:=by rw [<- h3,HA (by omega)]
 ·exact RetK.ff (by
   have h8:(t.proc==mainS)=true:=by assumption
   rw [knownB,e,h8];simp [*])
 ·exact RetK.bool (by
   have h8:(t.proc==mainS)=false:=by assumption
   rw [knownB,e,h8];simp [*])
 ·exact RetK.tt (by rw [knownB,e];simp [*])
def NY (c at_:Int):AV := .agg [.int .i64 c,.int .i64 at_]
def procsN (p:Pg):List Str:=p.procs.map Pr.name
def WX (p:Pg):Bool:=XM p.globals||(XM (procsN p)||(!((procsN p).any fun s=>mainS==s)||match p.procs.find? (fun f=>mainS==f.name) with
 | some f=>decide (0<f.params.length)
 | none=>true))
def VA (p:Pg) (f:Pr):Option Int :=
 bif XM (z3v f)||(z3v f).any (fun n=>p.globals.any fun s=>n==s) then some 0 else ((flL f.body).find? fun t => !knownB p f (procsN p) t).map S.id
def QO (p:Pg):Int×Int :=
 bif UB p then bif WX p then (5,0) else match p.procs.findSome? (VA p) with
  | some a=>(5,a)
  | none=>(0,0)
 else (1,0)
theorem z8q {α:Type} {l:List α} {p:α->Bool} (h:l.any p=true) : ∃ (k:Nat) (hk:k<l.length),q3l p l=k∧p l[k]=true∧l.find? p=some l[k]:=by
 have h1:l.findIdx p<l.length:=by
  rw [List.findIdx_lt_length];exact u5n.1 h
 refine ⟨l.findIdx p,h1,by unfold q3l;rw [h];rfl,List.findIdx_getElem,?_⟩;rw [List.find?_eq_some_iff_getElem];exact ⟨List.findIdx_getElem,l.findIdx p,h1,rfl,fun j hj=>by simpa using List.not_of_lt_findIdx hj⟩
theorem v0z {p:Pg} (h:(procsN p).any (fun s=>mainS==s)=true) : ∃ (k:Nat) (hk:k<p.procs.length),q3l (fun s=>mainS==s) (procsN p)=k∧p.procs.find? (fun f=>mainS==f.name)=some p.procs[k]:=by
 have h':p.procs.any (fun f=>mainS==f.name)=true:=by simpa [procsN,List.any_map,Function.comp_def] using h
 obtain ⟨k,hk,h1,_,h2⟩:=z8q h';refine ⟨k,hk,?_,h2⟩;rw [<- h1];unfold q3l;rw [h,h'];simp [procsN,List.findIdx_map,Function.comp_def]
theorem w0u (p:Pg) {j:Nat} {f:Pr} (hj:p.procs[j]? = some f) (hc:cntP p.procs<=1000):SpecP prog 195 [.ip (sheetOf p).cells,.int .i64 j] (fun r=>r=YW (itL j 0 (-1) 0 (QN p.procs j) f.body)):=by
 obtain ⟨_,h2,h3,h4,h5⟩:=QJ p;obtain ⟨h6,h7,h8,h9⟩:=h5 j f hj;have:=q3p (sheetOf p) j _ _ h6 h7 (by omega) (by omega) (by omega);rw [h9] at this;exact this
theorem UL (l:List Item):(l.map fun i=>AV.agg i.cells).length=l.length:=u3k _
theorem x1k {α β:Type} {l:List α} {f:α->Option β} {j:Nat} (hj:j<l.length) (h:f l[j]=none):(l.drop (j+1)).findSome? f=(l.drop j).findSome? f:=by
 rw [QF hj,List.findSome?_cons,h]
theorem UR {α β:Type} {l:List α} {f:α->Option β} {j:Nat} {b:β} (hj:j<l.length) (h:f l[j]=some b):(l.drop j).findSome? f=some b:=by
 rw [QF hj,List.findSome?_cons,h]
theorem q8v {α β:Type} {l:List α} {f:α->Option β} {j:Nat} (hj:l.length<=j):(l.drop j).findSome? f=none:=by
 rw [u4z hj];rfl
theorem MH {q:S->Bool} (l:List Item):(l.find? fun it=>q it.s).map (fun it=>it.s.id)=((l.map Item.s).find? q).map S.id:=by
 rw [List.find?_map];cases h:l.find? (q∘Item.s) with
 | none=>rw [show (l.find? fun it=>q it.s)=none from h];rfl
 | some i=>rw [show (l.find? fun it=>q it.s)=some i from h];rfl
theorem w4a {l:List Pr} {j:Nat} (hj:j<l.length) (h:wPr l[j]<=20000) {a b c d:Int} {n k:Nat} (hk:k<(itL a b c d n l[j].body).length):(itL a b c d n l[j].body)[k].s.args.length<=20000:=by
 have hm:(itL a b c d n l[j].body)[k].s∈flL l[j].body:=by
  rw [<- LA a b c d n];exact u3s.2 ⟨_,u3i hk,rfl⟩
 have h1:=x1f _ _ hm;have h2:=x9r (itL a b c d n l[j].body)[k].s;have h3:=GP (itL a b c d n l[j].body)[k].s.args;unfold wPr at h;omega
theorem QC {H:Heap} {a b c d:Int} (h:a=c) (h':b=d):RetK H (.p (.agg [.int .i64 a,.int .i64 b])) (fun r=>r=NY c d):=⟨_,.p (Sub.refl _),by rw [h,h'];rfl⟩
theorem GF (p:Pg) (hf:Fit p):SpecP prog 124 [.agg p.cells] (fun r=>r=NY (QO p).1 (QO p).2):=by
 refine sB x6o func124 rfl call124 ?_;conv=>whnf
 repeat' (first|((first|(refine iM fun _=>?_)|refine cP (z9c _) ?_|refine u3d rfl ?_);conv=>whnf)|(apply bN<;>intro _<;>conv=>whnf))
 rotate_left 1
 ·exact QC (by simp [QO, *]) (by simp [QO, *])
 have hm:UB p=true:=by assumption
 obtain ⟨hg,hpl,hcn⟩:=ZM hm;have hl:(p.procs.map fun f=>AV.agg f.cells).length=p.procs.length:=u3k _;have hnl:(procsN p).length=p.procs.length:=by simp [procsN]
 refine LoopK.inv QX (fun i:Nat×List Str=>⟨[(1,.p (.ip p.cells)),(2,.ptr 1 0),(3,.hd 0 0 i.2.length),(18,.p (.sl (p.procs.map fun f => .agg f.cells))),(19,.p (.int .i64 (p.procs.map fun f=>AV.agg f.cells).length)),(20,.p (.int .i64 i.1))],[(0,.own 9 1 (i.2.map .str)),(1,.obj 112 [.p (.int .i64 0),.p (.int .i64 0)])]⟩)
  (fun i=>i.1<=p.procs.length∧i.2=(procsN p).take i.1) (fun i=>p.procs.length-i.1) (0,[])
  (Le.mk [(0,.own 9 1 [])] (by simp [Chunk.new0];rfl) (by simp) (by simp) (.cons (.refl _) (.cons (.refl _) (.cons (.nil u3g) (.cons (.refl _) (.cons (.refl _) (.cons (.refl _) .nil)))))) (.new u3g (.cons rfl (.refl _) .nil)))
  ⟨u3l _,by simp⟩ ?_
 rintro ⟨j,acc⟩ ⟨h2,h3⟩;simp only at h2 h3 ⊢;have hal:acc.length<=16:=by rw [h3];simp;omega
 conv=>whnf
 repeat' (first|((first|refine u3d rfl ?_|refine aD ?_|refine bP ?_|(refine iA fun _=>?_)|refine wI ?_|refine QH (by simp) (by simp;omega) ?_|(refine QD (VJ acc mainS) (.cons (.hd rfl (by simp)) (.cons (.p (Sub.refl _)) .nil)) (by rintro _ rfl;rfl) ?_;rintro _ rfl)|(refine QD (q1e acc) (.cons (.hd rfl (by simp)) .nil) (by rintro _ rfl;rfl) ?_;rintro _ rfl)|refine cP (q1e _) ?_);conv=>whnf)|(apply bD<;>intro _<;>first|omega|conv=>whnf)|(apply bB<;>intro _<;>conv=>whnf))
 ·exact ⟨(j+1,acc++[p.procs[j].name]),⟨by simp only;omega,by simp only;rw [h3,u3a (by omega)];simp [procsN]⟩,by simp only;omega,Le.of_eq (by simp only [u3f,u3t];rfl)⟩
 all_goals
  have hacc:acc=procsN p:=by rw [h3,u3o (by omega)]
  clear h3;subst hacc
 ·have hb:WX p=true:=by unfold WX;rw [show XM p.globals=true by assumption];rfl
  exact QC (by unfold QO;rw [hm,hb];rfl) (by unfold QO;rw [hm,hb];rfl)
 ·have hb:WX p=true:=by unfold WX;rw [show XM p.globals=false by assumption,show XM (procsN p)=true by assumption];rfl
  exact QC (by unfold QO;rw [hm,hb];rfl) (by unfold QO;rw [hm,hb];rfl)
 ·have hany:((procsN p).any fun s=>mainS==s)=false:=by
   rw [<- x1i];simp;omega
  have hb:WX p=true:=by unfold WX;rw [show XM p.globals=false by assumption,show XM (procsN p)=false by assumption,hany];rfl
  exact QC (by unfold QO;rw [hm,hb];rfl) (by unfold QO;rw [hm,hb];rfl)
 have hany:((procsN p).any fun s=>mainS==s)=true:=by
  rw [<- x1i];simp;omega
 obtain ⟨k,hk,hik,hfind⟩:=v0z hany;have hlk:(p.procs.map fun f=>AV.agg f.cells)[k]? = some (.agg p.procs[k].cells):=by simp [hk]
 have hpl2:(p.procs[k].params.map fun a=>AV.agg a.cells).length=p.procs[k].params.length:=u3k _;refine IdxK.at hik hlk rfl ?_;conv=>whnf
 repeat' (first|((first|(refine iM fun _=>?_)|refine u3d rfl ?_|(refine CallK.pure (MF p (by omega) (by omega)) (.cons (Sub.refl _) .nil) ?_;rintro _ rfl));conv=>whnf)|(apply bD<;>intro _<;>first|omega|conv=>whnf))
 ·have hb:WX p=true:=by
   unfold WX;rw [show XM p.globals=false by assumption,show XM (procsN p)=false by assumption,hany,hfind];have:0<p.procs[k].params.length:=by omega
   simp [this]
  exact QC (by unfold QO;rw [hm,hb];rfl) (by unfold QO;rw [hm,hb];rfl)
 have hb:WX p=false:=by
  unfold WX;rw [show XM p.globals=false by assumption,show XM (procsN p)=false by assumption,hany,hfind];have : ¬0<p.procs[k].params.length:=by omega
  simp [this]
 have hsc:QO p=match p.procs.findSome? (VA p) with
  | some a=>(5,a)
  | none=>(0,0):=by unfold QO;rw [hm,hb];rfl
 rw [hsc];refine LoopK.inv QX (fun j:Nat=>⟨[(1,.p (.ip p.cells)),(2,.ptr 1 0),(3,.hd 0 0 (procsN p).length),(7,.p (.ip (sheetOf p).cells)),(57,.p (.sl (p.procs.map fun f => .agg f.cells))),(58,.p (.int .i64 (p.procs.map fun f=>AV.agg f.cells).length)),(59,.p (.int .i64 j))],[(0,.own 9 1 ((procsN p).map .str)),(1,.obj 112 [.p (.int .i64 0),.p (.int .i64 0)])]⟩)
  (fun j=>j<=p.procs.length∧(p.procs.drop j).findSome? (VA p)=p.procs.findSome? (VA p)) (fun j=>p.procs.length-j) 0 (Le.of_eq rfl) ⟨u3l _,rfl⟩ ?_
 clear h2 hik hfind hlk hpl2;rintro j ⟨h2,h3⟩;rcases u3r j p.procs.length with hj|hj;rotate_left 1
 ·have e:p.procs.findSome? (VA p)=none:=by rw [<- h3,q8v hj]
  rw [e];conv=>whnf
  repeat' (first|(refine u3d rfl ?_;conv=>whnf)|(apply bD<;>intro _<;>first|omega|conv=>whnf))
  exact QC rfl rfl
 have hfp:=hf.pr (u3i hj);have hmp:=FE.1 (w5h hm (u3i hj));conv=>whnf
 repeat' (first|((first|(refine iM fun _=>?_)|refine cP (q1e _) ?_|refine u3d rfl ?_|(refine iA fun _=>?_)|(refine CallK.pure (w6h (p.procs[j]'hj) (by have:=hmp.1;omega) (by have:=hmp.2.1;omega)) (.cons (Sub.refl _) .nil) ?_;rintro _ rfl)|refine cP (YQ (z3v (p.procs[j]'hj)) 194 (.ip p.cells) (fun n=>p.globals.any fun s=>n==s) (x9z p)) ?_|(refine CallK.pure (w0u p (f:=p.procs[j]'hj) (by simp) (by omega)) (.cons (Sub.refl _) (.cons (Sub.refl _) .nil)) ?_;rintro _ rfl));conv=>whnf)|(apply bD<;>intro _<;>first|omega|conv=>whnf)|(apply bB<;>intro _<;>conv=>whnf))
 ·have e:VA p p.procs[j]=some 0:=by
   unfold VA;rw [show XM (z3v p.procs[j])=true by assumption];rfl
  have e2:=UR hj e;rw [h3] at e2;rw [e2];exact QC rfl rfl
 ·have e:VA p p.procs[j]=some 0:=by
   unfold VA;rw [show XM (z3v p.procs[j])=false by assumption,show ((z3v p.procs[j]).any fun n=>p.globals.any fun s=>n==s)=true by assumption];rfl
  have e2:=UR hj e;rw [h3] at e2;rw [e2];exact QC rfl rfl
 have hsa:VA p p.procs[j]=((flL p.procs[j].body).find? fun t => !knownB p p.procs[j] (procsN p) t).map S.id:=by
  unfold VA;rw [show XM (z3v p.procs[j])=false by assumption,show ((z3v p.procs[j]).any fun n=>p.globals.any fun s=>n==s)=false by assumption];rfl
 have hitm : ∀ k (hk:k<(itL (j:Nat) 0 (-1) 0 (QN p.procs j) p.procs[j].body).length),(itL (j:Nat) 0 (-1) 0 (QN p.procs j) p.procs[j].body)[k].s.args.length<=20000:=fun k hk=>w4a hj hfp hk;rw [<- LA (j:Nat) 0 (-1) 0 (QN p.procs j),<- MH] at hsa;have hib:(itL (j:Nat) 0 (-1) 0 (QN p.procs j) p.procs[j].body).length<=20000:=by
  have:=z7f p.procs[j].body;unfold wPr at hfp;rw [WR];omega
 generalize hits:itL (j:Nat) 0 (-1) 0 (QN p.procs j) p.procs[j].body=its at hsa hitm hib ⊢;have hil:=UL its;refine LoopK.inv QX (fun k:Nat=>⟨[(1,.p (.ip p.cells)),(2,.ptr 1 0),(3,.hd 0 0 (procsN p).length),(7,.p (.ip (sheetOf p).cells)),(9,.p (.ip (p.procs[j]'hj).cells)),(57,.p (.sl (p.procs.map fun f => .agg f.cells))),(58,.p (.int .i64 (p.procs.map fun f=>AV.agg f.cells).length)),(59,.p (.int .i64 j)),(76,.p (YW its)),(77,.p (.int .i64 (its.map fun i=>AV.agg i.cells).length)),(78,.p (.int .i64 k))],[(0,.own 9 1 ((procsN p).map .str)),(1,.obj 112 [.p (.int .i64 0),.p (.int .i64 0)])]⟩)
  (fun k=>k<=its.length∧(its.drop k).find? (fun it => !knownB p p.procs[j] (procsN p) it.s)=its.find? fun it => !knownB p p.procs[j] (procsN p) it.s) (fun k=>its.length-k) 0 (Le.of_eq rfl) ⟨u3l _,rfl⟩ ?_
 rintro k ⟨h5,h6⟩;rcases u3r k its.length with hk|hk;rotate_left 1
 ·rw [<- h6,HV hk] at hsa;conv=>whnf
  repeat' (first|(refine wI ?_;conv=>whnf)|(apply bD<;>intro _<;>first|omega|conv=>whnf))
  exact ⟨j+1,⟨by omega,by rw [<- h3,x1k hj hsa]⟩,by omega,Le.of_eq rfl⟩
 have hka:=hitm k hk;conv=>whnf
 repeat' (first|((first|refine u3d rfl ?_|(refine iA fun _=>?_)|refine wI ?_|(refine QD (z6u p p.procs[j] (procsN p) its[k].s hka) (.cons (.p (Sub.refl _)) (.cons (.p (Sub.refl _)) (.cons (.hd rfl (by simp)) (.cons (.p (Sub.refl _)) .nil)))) (by rintro _ rfl;rfl) ?_;rintro _ rfl));conv=>whnf)|(apply bD<;>intro _<;>first|omega|conv=>whnf)|(apply bN<;>intro _<;>conv=>whnf))
 ·exact ⟨k+1,⟨by omega,by rw [<- h6,NJ (p:=fun it:Item => !knownB p p.procs[j] (procsN p) it.s) hk (by simp;assumption)]⟩,by omega,Le.of_eq rfl⟩
 ·have e3:=HU (p:=fun it:Item => !knownB p p.procs[j] (procsN p) it.s) hk (by simp;assumption);rw [<- h6,e3] at hsa;have e2:=UR hj hsa;rw [h3] at e2;rw [e2];exact QC rfl rfl
def v3y:LV->Option Bool
 | .p .tt=>some true
 | .p .ff=>some false
 | .p (.bool b)=>some b
 | _=>none
theorem q9b {σ:Mem} {β:Lab} {l:LV} {v:Value} {b:Bool} (h:RepL σ β l v) (hb:v3y l=some b):v = .bool b:=by
 cases h with
 | p h=>cases h<;>simp [v3y] at hb<;>subst hb<;>rfl
 | _=>simp [v3y] at hb
theorem HZ {P:Program} {T:Tab} {hr:Bool} {s:St} {o:Oper} {K:LV->Prop} (hT:TabOK P T) {t u:TypeId} {x y:Operand} (hop:o.op = .binOp .neq t x y u) {i:TyI} (ht:T.get t=some i) (hd:i.desc = .bool)
  {a b:Bool} (hx:v3y (XX s.sl x)=some a) (hy:v3y (XX s.sl y)=some b) (hK:K (.p (.bool (a != b)))):ValO P hr s o K:=by
 refine ⟨fun σ β ac w hs _=>⟨_,.bool (a != b),hK,.p (.bool _),fun w' _ _ => ?_⟩⟩;have h1:=q9b (QY hs x) hx;have h2:=q9b (QY hs y) hy;have hu:=hT.of ht;rw [hd] at hu;have hg:(eqGuard .neq t x y (.bool a) (.bool b)).run P w' = .ok () w':=by unfold eqGuard;rfl
 have he:(Op.equal t (.bool a) (.bool b)).run P w' = .ok (a==b) w':=by
  have e:Op.equal t (.bool a) (.bool b)=Op.equalIn (9999+1) t (.bool a) (.bool b):=rfl;rw [e,Op.equalIn,Sem.run_bind,run_underlying hu,Result.andThen_ok];rfl
 simp only [execOp,hop,h1,h2,Sem.run_bind,hg,Result.andThen_ok,binOp];simp [he];cases a<;>cases b<;>rfl
def x2i (l:List Param) (args:List Arg):Bool:=decide (l.map Param.ref=args.map Arg.ref)
theorem w0m (l:List Param) (args:List Arg):SpecP prog 252 [.sl (l.map fun a => .agg a.cells),w3t args] (fun r=>r = .bool (x2i l args)):=by
 refine sB z0u func252 rfl call252 ?_;conv=>whnf
 repeat' (first|(refine iM fun _=>?_;conv=>whnf)|(apply bE<;>intro _<;>first|omega|conv=>whnf))
 all_goals
  have hl:(l.map fun a=>AV.agg a.cells).length=l.length:=u3k _;have hl2:(args.map fun a=>AV.agg a.cells).length=args.length:=u3k _
 ·have hlen:l.length=args.length:=by omega
  refine LoopK.inv QX (fun j:Nat=>⟨[(1,.p (w3t args)),(12,.p (.sl (l.map fun a => .agg a.cells))),(13,.p (.int .i64 (l.map fun a=>AV.agg a.cells).length)),(14,.p (.int .i64 j))],[]⟩) (fun j=>j<=l.length∧(l.map Param.ref).take j=(args.map Arg.ref).take j) (fun j=>l.length-j) 0 (Le.of_eq rfl) ⟨u3l _,rfl⟩ ?_;rintro j ⟨h2,h3⟩;rcases u3r j l.length with hj|hj
  ·conv=>whnf
   repeat' (first|((first|refine dA ?_|refine u3d rfl ?_|(refine iA fun _=>?_)|refine wI ?_|refine HZ QX rfl rfl rfl rfl rfl ?_);conv=>whnf)|(apply bD<;>intro _<;>first|omega|conv=>whnf)|(apply bE<;>intro _<;>first|omega|conv=>whnf))
   ·have hne:l[j].ref=(args[j]'(by omega)).ref:=by assumption
    exact ⟨j+1,⟨by omega,by
     rw [u3a (by simp;omega),u3a (by simp;omega),h3];simp [hne]⟩,by omega,Le.of_eq rfl⟩
   ·have hne : ¬l[j].ref=(args[j]'(by omega)).ref:=by assumption
    exact RetK.ff (by
     unfold x2i;rw [u5a];intro he;have:(l.map Param.ref)[j]? = (args.map Arg.ref)[j]? := by rw [he]
     rw [u4q,u4q,u3h hj,u3h (by omega)] at this;simp at this;exact hne this)
  ·conv=>whnf
   repeat' (apply bD<;>intro _<;>first|omega|conv=>whnf)
   exact RetK.tt (by
    unfold x2i;rw [u4b]
    rwa [u3o (by simp;omega),u3o (by simp;omega)] at h3)
 ·exact RetK.ff (by
   unfold x2i;rw [u5a];intro he;have:=u5j List.length he;simp at this;omega)
def JW (p:Pg) (s:S):Bool:=decide (s.kind=4)&&match p.procs.find? (fun f=>f.name==s.proc) with
 | some f=>x2i f.params s.args
 | none=>false
theorem w0n (p:Pg) (s:S):SpecP prog 197 [.agg p.cells,.agg s.cells] (fun r=>r = .bool (JW p s)):=by
 refine sB z0v func197 rfl call197 ?_;conv=>whnf
 repeat' (first|(refine iM fun _=>?_;conv=>whnf)|(apply bE<;>intro _<;>first|omega|conv=>whnf))
 ·have hl:(p.procs.map fun f=>AV.agg f.cells).length=p.procs.length:=u3k _;refine LoopK.inv QX (fun j:Nat=>⟨[(3,.p (.ip s.cells)),(11,.p (.sl (p.procs.map fun f => .agg f.cells))),(12,.p (.int .i64 (p.procs.map fun f=>AV.agg f.cells).length)),(13,.p (.int .i64 j))],[]⟩) (fun j=>j<=p.procs.length∧(p.procs.drop j).find? (fun f=>f.name==s.proc)=p.procs.find? (fun f=>f.name==s.proc)) (fun j=>p.procs.length-j) 0 (Le.of_eq rfl) ⟨u3l _,rfl⟩ ?_;rintro j ⟨h2,h3⟩;conv=>whnf
  repeat' (first|((first|refine cP (w0m _ _) ?_|refine u3d rfl ?_|(refine iA fun _=>?_)|refine wI ?_);conv=>whnf)|(apply bD<;>intro _<;>first|omega|conv=>whnf)|(apply bB<;>intro _<;>conv=>whnf))
  ·have e:=HU (p:=fun f:Pr=>f.name==s.proc) (l:=p.procs) (j:=j) (by omega) (by assumption);rw [h3] at e;exact RetK.bool (by unfold JW;rw [e];simp [*])
  ·exact ⟨j+1,⟨by omega,by rw [<- h3,NJ (p:=fun f:Pr=>f.name==s.proc) (by omega) (by assumption)]⟩,by omega,Le.of_eq rfl⟩
  ·have e:p.procs.find? (fun f=>f.name==s.proc)=none:=by rw [<- h3,HV (by omega)]
   exact RetK.ff (by unfold JW;rw [e];simp)
 ·exact RetK.ff (by unfold JW;simp [*])
def VK (p:Pg):List S:=p.procs.flatMap fun f=>flL f.body
theorem v2u : ∀ (l:List Pr) (i:Nat) (acc:List Item) (lo hi:List Int),(x3p i acc lo hi l).1.map Item.s=acc.map Item.s++l.flatMap fun f=>flL f.body
 | [],i,acc,lo,hi=>by rw [x3p];simp
 | f::r,i,acc,lo,hi=>by
   rw [x3p,v2u r,q4d,u3t,LA,u5b,u4f]
theorem BK (p:Pg):(sheetOf p).l.map Item.s=VK p:=by
 have:=v2u p.procs 0 [] [] [];unfold sheetOf VK;simpa using this
theorem w2w {p:Pg} (hf:Fit p) {k:Nat} (hk:k<(sheetOf p).l.length):wS (sheetOf p).l[k].s<=20000:=by
 have hm:(sheetOf p).l[k].s∈VK p:=by
  rw [<- BK];exact u3s.2 ⟨_,u3i hk,rfl⟩
 unfold VK at hm;obtain ⟨f,h1,h2⟩:=u4o.1 hm;have h3:=x1f _ _ h2;have h4:=hf.pr h1;unfold wPr at h4;omega
def UM (p:Pg):Int×Int :=
 if (QO p).1≠0 then (1,0) else match (VK p).find? fun t=>decide (t.kind=4) && !JW p t with
  | some t=>(6,t.id)
  | none=>(0,0)
theorem UY {p:Pg} (h:(QO p).1=0):UB p=true∧WX p=false∧p.procs.findSome? (VA p)=none:=by
 unfold QO at h;cases hm:UB p<;>rw [hm] at h
 ·cases h
 cases hb:WX p<;>rw [hb] at h
 ·refine ⟨rfl,rfl,?_⟩;simp only [u4y,u4h] at h;split at h
  ·cases h
  ·assumption
 ·cases h
theorem x0o (p:Pg) (hf:Fit p):SpecP prog 125 [.agg p.cells] (fun r=>r=NY (UM p).1 (UM p).2):=by
 refine sB x6s func125 rfl call125 ?_;conv=>whnf
 repeat' (first|((first|refine cP (GF p hf) ?_|refine u3d rfl ?_);conv=>whnf)|(apply bE<;>intro _<;>first|omega|conv=>whnf))
 rotate_left 1
 ·have e:UM p=(1,0):=by unfold UM;rw [if_pos (by assumption)]
  exact QC (by rw [e]) (by rw [e])
 have hs:(QO p).1=0:=by assumption
 obtain ⟨hm,hb,hns⟩:=UY hs;obtain ⟨hg,hpl,hcn⟩:=ZM hm;have hA:UM p=match (VK p).find? fun t=>decide (t.kind=4) && !JW p t with
  | some t=>(6,t.id)
  | none=>(0,0):=by unfold UM;rw [if_neg (by omega)]
 repeat' ((first|(refine iM fun _=>?_)|(refine CallK.pure (MF p (by omega) (by omega)) (.cons (Sub.refl _) .nil) ?_;rintro _ rfl));conv=>whnf)
 have hil:=UL (sheetOf p).l;have hib:(sheetOf p).l.length<=200:=by have:=(QJ p).2.2.2.1;omega
 have hfi:=MH (q:=fun t=>decide (t.kind=4) && !JW p t) (sheetOf p).l;rw [BK] at hfi;have hA2:UM p=match ((sheetOf p).l.find? fun it=>decide (it.s.kind=4) && !JW p it.s).map (fun it=>it.s.id) with
  | some a=>(6,a)
  | none=>(0,0):=by
  rw [hA,hfi];cases (VK p).find? fun t=>decide (t.kind=4) && !JW p t<;>rfl
 rw [hA2];refine LoopK.inv QX (fun k:Nat=>⟨[(1,.p (.ip p.cells)),(2,.ptr 1 0),(14,.p (YW (sheetOf p).l)),(15,.p (.int .i64 ((sheetOf p).l.map fun i=>AV.agg i.cells).length)),(16,.p (.int .i64 k))],[(1,.obj 112 [.p (.int .i64 0),.p (.int .i64 0)])]⟩)
  (fun k=>k<=(sheetOf p).l.length∧((sheetOf p).l.drop k).find? (fun it=>decide (it.s.kind=4) && !JW p it.s)=(sheetOf p).l.find? fun it=>decide (it.s.kind=4) && !JW p it.s) (fun k=>(sheetOf p).l.length-k) 0 (Le.of_eq rfl) ⟨u3l _,rfl⟩ ?_
 rintro k ⟨h5,h6⟩;rcases u3r k (sheetOf p).l.length with hk|hk;rotate_left 1
 ·rw [<- h6,HV hk];conv=>whnf
  repeat' (first|(refine u3d rfl ?_;conv=>whnf)|(apply bD<;>intro _<;>first|omega|conv=>whnf))
  exact QC rfl rfl
 conv=>whnf
 repeat' (first|((first|refine cP (w0n _ _) ?_|refine u3d rfl ?_|(refine iA fun _=>?_)|refine wI ?_);conv=>whnf)|(apply bD<;>intro _<;>first|omega|conv=>whnf)|(apply bN<;>intro _<;>conv=>whnf))
 all_goals first
  | (have e3:=HU (p:=fun it:Item=>decide (it.s.kind=4) && !JW p it.s) hk (by simp [*])
     rw [<- h6,e3];exact QC rfl rfl)
  | exact ⟨k+1,⟨by omega,by rw [<- h6,NJ (p:=fun it:Item=>decide (it.s.kind=4) && !JW p it.s) hk (by simp [*])]⟩,by omega,Le.of_eq rfl⟩
def YY:List Str->List Str->Option (List Str)
 | seen,[]=>some seen
 | seen,n::r=>bif seen.any (fun s=>n==s) then none else YY (seen++[n]) r
theorem w9n {seen l:List Str} {j:Nat} (hj:j<l.length) (h:(seen.any fun s=>l[j]==s)=true):YY seen (l.drop j)=none:=by
 rw [QF hj,YY,h];rfl
theorem w4o {seen l:List Str} {j:Nat} (hj:j<l.length) (h:(seen.any fun s=>l[j]==s)=false):YY seen (l.drop j)=YY (seen++[l[j]]) (l.drop (j+1)):=by
 rw [QF hj,YY,h];rfl
theorem q3a : ∀ {l seen out:List Str},YY seen l=some out->out=seen++l
 | [],seen,out,h=>by rw [YY] at h;cases h;simp
 | n::r,seen,out,h=>by
   rw [YY] at h;cases hc:(seen.any fun s=>n==s)<;>rw [hc] at h
   ·have:=q3a h;simpa using this
   ·cases h
def w5q (t:Nat) (seen l:List Str) (r:LV) (H:Heap):Prop :=
 match YY seen l with
 | some out=>r = .tup [.hd 2000 0 out.length,.p .tt]∧H=x8t t out
 | none => ∃ out,r = .tup [.hd 2000 0 out.length,.p .ff]∧H=x8t t out
theorem x2w {t:Nat} {seen l:List Str} {Q:LV->Heap->Prop} (h1:YY seen l=some (seen++l)->Q (.tup [.hd 2000 0 (seen++l).length,.p .tt]) (x8t t (seen++l)))
  (h2:YY seen l=none -> ∀ out,Q (.tup [.hd 2000 0 out.length,.p .ff]) (x8t t out)) : ∀ l' H',w5q t seen l l' H'->Q l' H':=by
 intro l' H' h;unfold w5q at h;cases hr:YY seen l with
 | some out =>
   rw [hr] at h;obtain ⟨rfl,rfl⟩:=h;have:=q3a hr;subst this;exact h1 hr
 | none =>
   rw [hr] at h;obtain ⟨out,rfl,rfl⟩:=h;exact h2 hr out
theorem z2n (seen l:List Str) (hlen:seen.length+l.length<=1000000000) :
  SpecH prog 199 [.hd 2000 0 seen.length,.p (eStrs l)] (x8t 9 seen) (w5q 9 seen l):=by
 refine sH z4r func199 rfl call199 ?_;conv=>whnf
 repeat' (refine iM fun _=>?_;conv=>whnf)
 have hl:(l.map AV.str).length=l.length:=u3k _;refine LoopK.inv QX (fun i:Nat×List Str=>⟨[(0,.hd 2000 0 i.2.length),(8,.p (eStrs l)),(9,.p (.int .i64 (l.map AV.str).length)),(10,.p (.int .i64 i.1))],x8t 9 i.2⟩) (fun i=>i.1<=l.length∧i.2.length+(l.length-i.1)=seen.length+l.length∧YY i.2 (l.drop i.1)=YY seen l) (fun i=>l.length-i.1) (0,seen) (Le.of_eq rfl) ⟨u3l _,by simp,rfl⟩ ?_;rintro ⟨j,acc⟩ ⟨h2,h3,h4⟩;simp only at h2 h3 h4 ⊢;rcases u3r j l.length with hj|hj
 ·conv=>whnf
  repeat' (first|((first|refine u3d rfl ?_|refine aD ?_|refine bP ?_|(refine iA fun _=>?_)|refine wI ?_|(refine QD (QU acc (l[j]'hj)) (.cons (.hd rfl (by simp)) (.cons (.p (Sub.refl _)) .nil)) (by rintro _ rfl;rfl) ?_;rintro _ rfl)|refine QH (by simp) (by simp;omega) ?_);conv=>whnf)|(apply bD<;>intro _<;>first|omega|conv=>whnf)|(apply bB<;>intro _<;>conv=>whnf))
  ·exact ⟨_,.refl _,by unfold w5q;rw [<- h4,w9n hj (by assumption)];exact ⟨acc,rfl,rfl⟩⟩
  ·exact ⟨(j+1,acc++[l[j]]),⟨by simp only;omega,by simp;omega,by simp only;rw [<- h4,w4o hj (by assumption)]⟩,by simp only;omega,Le.of_eq (by simp only [x8t,u3f,u3t];rfl)⟩
 ·conv=>whnf
  repeat' (apply bD<;>intro _<;>first|omega|conv=>whnf)
  rw [u4z hj,YY] at h4;exact ⟨_,.refl _,by unfold w5q;rw [<- h4];exact ⟨rfl,rfl⟩⟩
def atB (f:Pr) (label:Str):Int×Bool :=
 match (flL f.body).find? fun t=>t.labels.any fun s=>label==s with
 | some t=>(t.id,true)
 | none=>bif f.fin.any fun s=>label==s then (-1,true) else (0,false)
theorem RetK.tup2 {H:Heap} {k:IntKind} {m n:Int} {x:AV} {b:Bool} (h:m=n) (hb:Sub x (.bool b)):RetK H (.p (.tup [.int k m,x])) (fun r=>r = .tup [.int k n,.bool b]) :=
 ⟨_,.p (Sub.tup (SubL.cons (Sub.int h) (SubL.cons hb SubL.nil))),rfl⟩
theorem q3b (p:Pg) (j:Nat) (f:Pr) (hj:p.procs[j]? = some f) (hc:cntP p.procs<=1000) (label:Str):SpecP prog 181 [.ip (sheetOf p).cells,.int .i64 j,.str label] (fun r=>r = .tup [.int .i64 (atB f label).1,.bool (atB f label).2]):=by
 refine sB x0g func181 rfl call181 ?_;conv=>whnf
 repeat' ((first|(refine iM fun _=>?_)|refine cP (w0u p hj hc) ?_);conv=>whnf)
 have hfi:=MH (q:=fun t=>t.labels.any fun s=>label==s) (itL (j:Nat) 0 (-1) 0 (QN p.procs j) f.body);rw [LA] at hfi;have hib:(itL (j:Nat) 0 (-1) 0 (QN p.procs j) f.body).length<=1000:=by
  have:=(QJ p).2.2.2.2 j f hj;rw [WR];omega
 generalize hits:itL (j:Nat) 0 (-1) 0 (QN p.procs j) f.body=its at hfi hib ⊢;have hil:=UL its;have hat:atB f label=match (its.find? fun it=>it.s.labels.any fun s=>label==s).map (fun it=>it.s.id) with
  | some a=>(a,true)
  | none=>bif f.fin.any fun s=>label==s then (-1,true) else (0,false):=by
  unfold atB;rw [hfi];cases (flL f.body).find? fun t=>t.labels.any fun s=>label==s<;>rfl
 rw [hat];refine LoopK.inv QX (fun k:Nat=>⟨[(0,.p (.ip (sheetOf p).cells)),(1,.p (.int .i64 j)),(2,.p (.str label)),(12,.p (YW its)),(13,.p (.int .i64 (its.map fun i=>AV.agg i.cells).length)),(14,.p (.int .i64 k))],[]⟩)
  (fun k=>k<=its.length∧(its.drop k).find? (fun it=>it.s.labels.any fun s=>label==s)=its.find? fun it=>it.s.labels.any fun s=>label==s) (fun k=>its.length-k) 0 (Le.of_eq rfl) ⟨u3l _,rfl⟩ ?_
 rintro k ⟨h5,h6⟩;rcases u3r k its.length with hk|hk
 ·conv=>whnf
  repeat' (first|((first|refine cP (QU _ _) ?_|refine u3d rfl ?_|(refine iA fun _=>?_)|refine wI ?_);conv=>whnf)|(apply bD<;>intro _<;>first|omega|conv=>whnf)|(apply bB<;>intro _<;>conv=>whnf))
  ·have e3:=HU (p:=fun it:Item=>it.s.labels.any fun s=>label==s) hk (by assumption);rw [<- h6,e3];exact RetK.tup2 rfl (Sub.tt rfl)
  ·exact ⟨k+1,⟨by omega,by rw [<- h6,NJ (p:=fun it:Item=>it.s.labels.any fun s=>label==s) hk (by assumption)]⟩,by omega,Le.of_eq rfl⟩
 ·rw [<- h6,HV hk];have hpj:(p.procs.map fun f=>AV.agg f.cells)[j]? = some (.agg f.cells):=by simp [hj]
  conv=>whnf
  repeat' (first|((first|refine cP (QU _ _) ?_|(refine IdxK.at rfl hpj rfl ?_));conv=>whnf)|(apply bD<;>intro _<;>first|omega|conv=>whnf)|(apply bB<;>intro _<;>conv=>whnf))
  ·exact RetK.tup2 (by simp [*]) (Sub.tt (by simp [*]))
  ·exact RetK.tup2 (by simp [*]) (Sub.ff (by simp [*]))
def US (f:Pr) (it:Item):Bool:=if it.s.kind=7∨it.s.kind=8 then !(it.loop==0) else if it.s.kind=10 then (atB f it.s.name).2 else true
theorem w1j (p:Pg) (j:Nat) (f:Pr) (hj:p.procs[j]? = some f) (hc:cntP p.procs<=1000) (it:Item) (hp:it.proc=j):SpecP prog 200 [.ip (sheetOf p).cells,.agg it.cells] (fun r=>r = .bool (US f it)):=by
 refine sB z0d func200 rfl call200 ?_;conv=>whnf
 repeat' (first|(refine CallK.pure (q3b p j f hj hc it.s.name) (.cons (Sub.refl _) (.cons (Sub.int hp) (.cons (Sub.refl _) .nil))) ?_;rintro _ rfl;conv=>whnf)|(apply bD<;>intro _<;>first|omega|conv=>whnf))
 all_goals first
  | exact RetK.bool (by simp [US, *];rfl)
  | exact RetK.bool (by simp [US, *])
  | exact RetK.tt (by simp [US, *])
theorem w1k (p:Pg) (hf:Fit p) (h:(QO p).1=0):SpecP prog 198 [.agg p.cells] (fun r=>r = .ip (sheetOf p).cells):=by
 refine sB q7r func198 rfl call198 ?_;conv=>whnf
 obtain ⟨hm,hb,hns⟩:=UY h;obtain ⟨hg,hpl,hcn⟩:=ZM hm;repeat' (first|((first|refine cP (GF p hf) ?_|(refine CallK.pure (MF p (by omega) (by omega)) (.cons (Sub.refl _) .nil) ?_;rintro _ rfl));conv=>whnf)|(apply bE<;>intro _<;>first|omega|conv=>whnf))
 exact RetK.p rfl
theorem x8j (p:Pg) (hf:Fit p) (h:(QO p).1≠0):SpecP prog 198 [.agg p.cells] (fun r=>r = .nilp):=by
 refine sB q7r func198 rfl call198 ?_;conv=>whnf
 repeat' (first|(refine cP (GF p hf) ?_;conv=>whnf)|(apply bE<;>intro _<;>first|omega|conv=>whnf))
 exact RetK.p rfl
mutual
theorem w9p (proc up nx loop:Int) (n:Nat) : ∀ (t:S) (it:Item),it∈itS proc up nx loop n t->it.proc=proc
 | .mk id kind labels name pr x has args thn els,it,h=>by
   rw [itS] at h;rcases u3c.1 h with rfl|h
   ·rfl
   ·rcases u3p.1 h with h|h
    ·exact q3s _ _ _ _ _ thn it h
    ·exact q3s _ _ _ _ _ els it h
theorem q3s (proc up nx loop:Int) (n:Nat) : ∀ (l:List S) (it:Item),it∈itL proc up nx loop n l->it.proc=proc
 | [],it,h=>by rw [itL] at h;cases h
 | t::r,it,h=>by
   rw [itL] at h;rcases u3p.1 h with h|h
   ·exact w9p _ _ _ _ _ t it h
   ·exact q3s _ _ _ _ _ r it h
end
def KQ (f:Pr):List Item->List Str->Except Int (List Str)
 | [],seen => .ok seen
 | it::r,seen=>match YY seen it.s.labels with
   | none => .error it.s.id
   | some s=>bif US f it then KQ f r s else .error it.s.id
def JB (p:Pg) (j:Nat):Option Int :=
 match p.procs[j]? with
 | none=>none
 | some f=>match KQ f (itL (j:Nat) 0 (-1) 0 (QN p.procs j) f.body) [] with
   | .error id=>some id
   | .ok seen=>match YY seen f.fin with
     | none=>some 0
     | some _=>none
def LE (p:Pg):Int×Int :=
 if (QO p).1≠0 then (1,0) else match (List.range p.procs.length).findSome? (JB p) with
  | some a=>(7,a)
  | none=>(0,0)
theorem w9m {f:Pr} {its:List Item} {seen:List Str} {k:Nat} (hk:k<its.length) (h:YY seen its[k].s.labels=none):KQ f (its.drop k) seen = .error its[k].s.id:=by
 rw [QF hk,KQ,h]
theorem w5x {f:Pr} {its:List Item} {seen s:List Str} {k:Nat} (hk:k<its.length) (h:YY seen its[k].s.labels=some s) (hl:US f its[k]=false):KQ f (its.drop k) seen = .error its[k].s.id:=by
 rw [QF hk,KQ,h];simp only [hl,u4h]
theorem w5z {f:Pr} {its:List Item} {seen s:List Str} {k:Nat} (hk:k<its.length) (h:YY seen its[k].s.labels=some s) (hl:US f its[k]=true):KQ f (its.drop k) seen=KQ f (its.drop (k+1)) s:=by
 rw [QF hk,KQ,h];simp only [hl,u4y]
theorem z5d {l:List Pr} {j:Nat} (hj:j<l.length) (h:wPr l[j]<=20000) {a b c d:Int} {n k:Nat} (hk:k<(itL a b c d n l[j].body).length):(itL a b c d n l[j].body)[k].s.labels.length<=20000:=by
 have hm:(itL a b c d n l[j].body)[k].s∈flL l[j].body:=by
  rw [<- LA a b c d n];exact u3s.2 ⟨_,u3i hk,rfl⟩
 have h1:=x1f _ _ hm;have h2:=x9r (itL a b c d n l[j].body)[k].s;have h3:=BB (itL a b c d n l[j].body)[k].s.labels;unfold wPr at h;omega
theorem w1y (p:Pg) (hf:Fit p):SpecP prog 126 [.agg p.cells] (fun r=>r=NY (LE p).1 (LE p).2):=by
 refine sB z0f func126 rfl call126 ?_;conv=>whnf
 rcases Decidable.em ((QO p).1=0) with hs|hs;rotate_left 1
 ·
  repeat' ((first|refine cP (x8j p hf hs) ?_|refine u3d rfl ?_);conv=>whnf)
  have e:LE p=(1,0):=by unfold LE;rw [if_pos hs]
  exact QC (by rw [e]) (by rw [e])
 obtain ⟨hm,hb,hns⟩:=UY hs;obtain ⟨hg,hpl,hcn⟩:=ZM hm;have hJ:LE p=match (List.range p.procs.length).findSome? (JB p) with
  | some a=>(7,a)
  | none=>(0,0):=by unfold LE;rw [if_neg (by omega)]
 rw [hJ];have hl:(p.procs.map fun f=>AV.agg f.cells).length=p.procs.length:=u3k _;repeat' ((first|(refine iM fun _=>?_)|refine cP (w1k p hf hs) ?_);conv=>whnf)
 refine LoopK.inv QX (fun j:Nat=>⟨[(2,.ptr 1 0),(3,.p (.ip (sheetOf p).cells)),(16,.p (.sl (p.procs.map fun f => .agg f.cells))),(17,.p (.int .i64 (p.procs.map fun f=>AV.agg f.cells).length)),(18,.p (.int .i64 j))],[(1,.obj 112 [.p (.int .i64 0),.p (.int .i64 0)])]⟩)
  (fun j=>j<=p.procs.length∧((List.range p.procs.length).drop j).findSome? (JB p)=(List.range p.procs.length).findSome? (JB p)) (fun j=>p.procs.length-j) 0 (Le.of_eq rfl) ⟨u3l _,rfl⟩ ?_
 rintro j ⟨h2,h3⟩;rcases u3r j p.procs.length with hj|hj;rotate_left 1
 ·have e:(List.range p.procs.length).findSome? (JB p)=none:=by rw [<- h3,q8v (by simpa using hj)]
  rw [e];conv=>whnf
  repeat' (first|(refine u3d rfl ?_;conv=>whnf)|(apply bD<;>intro _<;>first|omega|conv=>whnf))
  exact QC rfl rfl
 have hfp:=hf.pr (u3i hj);have hjr:j<(List.range p.procs.length).length:=by simpa using hj
 have hrj:(List.range p.procs.length)[j]=j:=by simp
 have hpj:p.procs[j]? = some p.procs[j]:=by simp [hj]
 conv=>whnf
 repeat' (first|((first|(refine iM fun _=>?_)|refine u3d rfl ?_|(refine iA fun _=>?_)|(refine CallK.pure (w0u p (f:=p.procs[j]'hj) hpj (by omega)) (.cons (Sub.refl _) (.cons (Sub.refl _) .nil)) ?_;rintro _ rfl));conv=>whnf)|(apply bD<;>intro _<;>first|omega|conv=>whnf))
 have hlab : ∀ k (hk:k<(itL (j:Nat) 0 (-1) 0 (QN p.procs j) p.procs[j].body).length),(itL (j:Nat) 0 (-1) 0 (QN p.procs j) p.procs[j].body)[k].s.labels.length<=20000:=fun k hk=>z5d hj hfp hk;have hprc : ∀ k (hk:k<(itL (j:Nat) 0 (-1) 0 (QN p.procs j) p.procs[j].body).length),(itL (j:Nat) 0 (-1) 0 (QN p.procs j) p.procs[j].body)[k].proc=j:=fun k hk=>q3s _ _ _ _ _ _ _ (u3i hk);have hib:(itL (j:Nat) 0 (-1) 0 (QN p.procs j) p.procs[j].body).length<=200:=by
  have:=(QJ p).2.2.2.2 j _ hpj;rw [WR];omega
 have hja:JB p j=match KQ p.procs[j] (itL (j:Nat) 0 (-1) 0 (QN p.procs j) p.procs[j].body) [] with
  | .error id=>some id
  | .ok seen=>match YY seen p.procs[j].fin with
    | none=>some 0
    | some _=>none:=by
  unfold JB;rw [hpj]
 generalize hits:itL (j:Nat) 0 (-1) 0 (QN p.procs j) p.procs[j].body=its at hlab hprc hib hja ⊢;have hil:=UL its;refine LoopK.inv QX (fun i:Nat×List Str=>⟨[(2,.ptr 1 0),(3,.p (.ip (sheetOf p).cells)),(5,.p (.ip (p.procs[j]'hj).cells)),(6,.hd 0 0 i.2.length),(16,.p (.sl (p.procs.map fun f => .agg f.cells))),(17,.p (.int .i64 (p.procs.map fun f=>AV.agg f.cells).length)),(18,.p (.int .i64 j)),(25,.p (YW its)),(26,.p (.int .i64 (its.map fun i=>AV.agg i.cells).length)),(27,.p (.int .i64 i.1))],[(0,.own 9 1 (i.2.map .str)),(1,.obj 112 [.p (.int .i64 0),.p (.int .i64 0)])]⟩)
  (fun i=>i.1<=its.length∧i.2.length<=20000*i.1∧KQ p.procs[j] (its.drop i.1) i.2=KQ p.procs[j] its []) (fun i=>its.length-i.1) (0,[])
  (Le.mk [(0,.own 9 1 [])] (by simp [Chunk.new0];rfl) (by simp) (by simp) (.cons (.refl _) (.cons (.refl _) (.cons (.refl _) (.cons (.nil u3g) (.cons (.refl _) (.cons (.refl _) (.cons (.refl _) (.cons (.refl _) (.cons (.refl _) (.cons (.refl _) .nil)))))))))) (.new u3g (.cons rfl (.refl _) .nil)))
  ⟨u3l _,by simp,rfl⟩ ?_
 rintro ⟨k,acc⟩ ⟨h5,h6,h7⟩;simp only at h5 h6 h7 ⊢;rcases u3r k its.length with hk|hk
 ·have hlk:=hlab k hk;conv=>whnf
  repeat' (first|((first|refine u3d rfl ?_|(refine iA fun _=>?_)|refine wI ?_|(refine CallK.pure (w1j p j p.procs[j] hpj (by omega) its[k] (hprc k hk)) (.cons (Sub.refl _) (.cons (Sub.refl _) .nil)) ?_;rintro _ rfl));conv=>whnf)|(apply bD<;>intro _<;>first|omega|conv=>whnf)|(apply bN<;>intro _<;>conv=>whnf)|(refine CallK.heap [(2000,0)] 0 (by repeat' (first|exact u4s|refine u4w ?_ ?_|exact u4v _|exact u4p Sub.nils|exact u4p (Sub.tt rfl)|exact u4p (Sub.ff rfl)|exact u4p (Sub.int (by omega)))) (by refine u4x (j:=0) rfl rfl ?_ ?_;exact CSub.refl _;exact u4c) (z2n acc its[k].s.labels (by omega)) rfl rfl (x2w (fun hjo => ?_) (fun hjo out => ?_))<;>conv=>whnf))
  ·exact ⟨(k+1,acc++its[k].s.labels),⟨by simp only;omega,by simp;omega,by simp only;rw [<- h7,w5z hk hjo (by assumption)]⟩,by simp only;omega,Le.of_eq rfl⟩
  ·rw [<- h7,w5x hk hjo (by assumption)] at hja;have e2:=UR (f:=JB p) hjr (by rw [hrj];exact hja);rw [h3] at e2;rw [e2];exact QC rfl rfl
  ·rw [<- h7,w9m hk hjo] at hja;have e2:=UR (f:=JB p) hjr (by rw [hrj];exact hja);rw [h3] at e2;rw [e2];exact QC rfl rfl
 ·have hfin:p.procs[j].fin.length<=20000:=by
   have:=BB p.procs[j].fin;unfold wPr at hfp;omega
  rw [u4z hk,KQ] at h7;rw [<- h7] at hja;simp only at hja;conv=>whnf
  repeat' (first|((first|refine u3d rfl ?_|refine wI ?_);conv=>whnf)|(apply bD<;>intro _<;>first|omega|conv=>whnf)|(refine CallK.heap [(2000,0)] 0 (by repeat' (first|exact u4s|refine u4w ?_ ?_|exact u4v _|exact u4p Sub.nils|exact u4p (Sub.tt rfl)|exact u4p (Sub.ff rfl)|exact u4p (Sub.int (by omega)))) (by refine u4x (j:=0) rfl rfl ?_ ?_;exact CSub.refl _;exact u4c) (z2n acc p.procs[j].fin (by omega)) rfl rfl (x2w (fun hjo => ?_) (fun hjo out => ?_))<;>conv=>whnf))
  ·rw [hjo] at hja;exact ⟨j+1,⟨by omega,by rw [<- h3,x1k (f:=JB p) hjr (by rw [hrj];exact hja)]⟩,by omega,Le.of_eq rfl⟩
  ·rw [hjo] at hja;have e2:=UR (f:=JB p) hjr (by rw [hrj];exact hja);rw [h3] at e2;rw [e2];exact QC rfl rfl
theorem BsK.pureL {es:List AV} {sz:Nat} {out:List LV} {Kp Ko:Prop} (hx:(es.all fun x=>x.cells.length==sz)=true) (ho:out=(es.flatMap AV.cells).map .p) (hK:Kp):BsK es sz out Kp Ko := .pure (fun x h=>by simpa using u5t.1 hx x h) ho hK
end Go.Ab
