/- flat: a program laid flat. -/
import Derived.Test.YtlhblcpmfnkjpaaGreatInoA6
import Derived.Test.YtlhblcpmfnkjpaaGreatInoA8
set_option linter.unusedSimpArgs false
set_option linter.unusedVariables false
set_option maxRecDepth 100000
set_option maxHeartbeats 16000000
open List (drop_eq_nil_of_le drop_zero length_append length_cons length_map mem_cons_of_mem mem_cons_self nil_append take_of_length_le)
open Nat (zero_le)
namespace Go.Ab
open Go.Proofs
structure Sheet where
 p:Pg
 l:List Item
 lo:List Int
 hi:List Int
def Sheet.cells (s:Sheet):List AV:=s.p.cells++[.sl (s.l.map fun i => .agg i.cells),ZM s.lo,ZM s.hi]
def cntP:List Pr->Nat
 | []=>0
 | f::r=>cntL f.body+cntP r
theorem q4p {l:List Pr} {j:Nat} (hj:j<l.length):cntP (l.drop j)=cntL l[j].body+cntP (l.drop (j+1)):=by
 rw [QG hj,cntP]
def q7p (i:Nat) (acc:List Item) (lo hi:List Int):List Pr->List Item×List Int×List Int
 | []=>(acc,lo,hi)
 | f::r=>q7p (i+1) (XH i 0 (-1) 0 acc f.body) (lo++[(acc.length:Int)+1]) (hi++[((XH i 0 (-1) 0 acc f.body).length:Int)+1]) r
def sheetOf (p:Pg):Sheet:=⟨p,(q7p 0 [] [] [] p.procs).1,(q7p 0 [] [] [] p.procs).2.1,(q7p 0 [] [] [] p.procs).2.2⟩
theorem x5s {i:Nat} {acc:List Item} {lo hi:List Int} {l:List Pr} {j:Nat} (hj:j<l.length) :
  q7p i acc lo hi (l.drop j)=q7p (i+1) (XH i 0 (-1) 0 acc l[j].body) (lo++[(acc.length:Int)+1]) (hi++[((XH i 0 (-1) 0 acc l[j].body).length:Int)+1]) (l.drop (j+1)):=by
 rw [QG hj,q7p]
def w8f (tS tI tN:Nat) (p:Pg) (L:List Item) (lo hi:List Int):Heap :=
 [(0,.obj tS [.p (eStrs p.globals),.p (.sl (p.procs.map fun f => .agg f.cells)),.hd 1 0 L.length,.hd 2 0 lo.length,.hd 3 0 hi.length]),(1,.own tI 17 (L.map fun i => .agg i.cells)),(2,.own tN 1 (lo.map (.int .i64))),(3,.own tN 1 (hi.map (.int .i64)))]
theorem US (p:Pg) (h1:p.procs.length<=1000) (hc:cntP p.procs<=999):SpecP Tryz.prog 105 [.agg p.cells] (fun r=>r = .ip (sheetOf p).cells):=by
 refine sB z3s Tryz.func105 rfl Tryz.call105 ?_;conv=>whnf
 repeat' ((first|(refine iM fun _=>?_)|refine And.intro rfl ?_);conv=>whnf)
 have hl2:(p.procs.map fun f=>AV.agg f.cells).length=p.procs.length:=length_map _;refine LoopK.inv QY (fun i:Nat×List Item×List Int×List Int=>⟨[(3,.ptr 0 0),(10,.p (.sl (p.procs.map fun f=>AV.agg f.cells))),(11,.p (.int .i64 (p.procs.map fun f=>AV.agg f.cells).length)),(12,.p (.int .i64 i.1))],w8f 181 177 3 p i.2.1 i.2.2.1 i.2.2.2⟩)
  (fun i=>i.1<=p.procs.length∧i.2.1.length+cntP (p.procs.drop i.1)=cntP p.procs∧i.2.2.1.length=i.1∧i.2.2.2.length=i.1∧q7p i.1 i.2.1 i.2.2.1 i.2.2.2 (p.procs.drop i.1)=q7p 0 [] [] [] p.procs) (fun i=>p.procs.length-i.1) (0,[],[],[])
  (Le.mk [(1,.own 177 17 []),(2,.own 3 1 []),(3,.own 3 1 [])] (by simp [Chunk.new0];exact ⟨rfl,rfl,rfl⟩) (by simp) (by simp [w8f]) (.cons (.refl _) (.cons (.refl _) (.cons (.refl _) (.cons (.refl _) .nil))))
    (.cons rfl (.obj (.cons (.refl _) (.cons (.refl _) (.cons (.nil mem_cons_self) (.cons (.nil (mem_cons_of_mem _ mem_cons_self)) (.cons (.nil (mem_cons_of_mem _ (mem_cons_of_mem _ mem_cons_self))) .nil)))))) (.new mem_cons_self (.new (mem_cons_of_mem _ mem_cons_self) (.new (mem_cons_of_mem _ (mem_cons_of_mem _ mem_cons_self)) .nil)))))
  ⟨zero_le _,by simp,rfl,rfl,rfl⟩ ?_
 rintro ⟨j,b,lo,hi⟩ ⟨h2,h3,h4,h5,h6⟩;simp only at h2 h3 h4 h5 h6 ⊢;conv=>whnf
 repeat' (first|((first|(refine iM fun _=>?_)|refine dA ?_|refine And.intro rfl ?_|refine aD ?_|refine bP ?_|(refine iA fun _=>?_)|refine wI ?_|refine AppK.mk (by simp) rfl (by show (lo.length+1)*8<=140737488355328;omega) (by show lo.length+1<=9223372036854775807;omega) (fun x hx=>by rcases List.mem_singleton.1 hx with rfl;exact ⟨rfl,rfl⟩) ?_);conv=>whnf)|(apply bD<;>intro _<;>first|omega|conv=>whnf)|(refine And.intro ?_ ?_<;>conv=>whnf))
 ·have hj:j<p.procs.length:=by omega
  have hst:=q4p hj;refine CallK.heap [(1000,0),(2000,1),(2001,2),(2002,3)] 0 (by refine ArgsH.cons (LSub.refl _) (ArgsH.cons (LSub.refl _) (ArgsH.cons (LSub.agg ?_) ArgsH.nil));repeat' (first|exact SubL.nil|refine SubL.cons ?_ ?_|exact Sub.refl _|exact Sub.nils|exact Sub.ff rfl)) (by exact BlksH.cons (j:=0) rfl rfl (CSub.of_eq (by rw [length_append];first|done|rfl)) (BlksH.cons (j:=1) rfl rfl (CSub.refl _) (BlksH.cons (j:=2) rfl rfl (CSub.of_eq (by rw [List.map_append];first|done|rfl)) (BlksH.cons (j:=3) rfl rfl (CSub.refl _) BlksH.nil)))) (z0a 1000 (by omega) p.procs[j].body (by omega) b (by omega) ⟨S0,j,0,-1,0⟩ _ _ (lo++[(b.length:Int)+1]) hi) rfl rfl ?_;rintro l' H' ⟨rfl,rfl⟩;conv=>whnf
  have hlen:=XW j 0 (-1) 0 b p.procs[j].body;repeat' (first|((first|(refine iM fun _=>?_)|refine dA ?_|refine And.intro rfl ?_|refine aD ?_|refine bP ?_|refine wI ?_|refine AppK.mk (by simp) rfl (by show (hi.length+1)*8<=140737488355328;omega) (by show hi.length+1<=9223372036854775807;omega) (fun x hx=>by rcases List.mem_singleton.1 hx with rfl;exact ⟨rfl,rfl⟩) ?_|refine Wr.i64 (by rw [XW];omega) (by rw [XW];omega) ?_);conv=>whnf)|(refine And.intro ?_ ?_<;>conv=>whnf))
  all_goals exact ⟨(j+1,XH j 0 (-1) 0 b p.procs[j].body,lo++[(b.length:Int)+1],hi++[((XH j 0 (-1) 0 b p.procs[j].body).length:Int)+1]),⟨by simp only;omega,by simp only;omega,by simp [h4],by simp [h5],by simp only;rw [<- h6,x5s hj]⟩,by simp only;omega,Le.of_eq (by simp only [w8f,length_append,List.map_append];rfl)⟩
 ·have hj:j<p.procs.length:=by omega
  have hst:=q4p hj;refine CallK.heap [(1000,0),(2000,1),(2001,2),(2002,3)] 0 (by refine ArgsH.cons (LSub.refl _) (ArgsH.cons (LSub.refl _) (ArgsH.cons (LSub.agg ?_) ArgsH.nil));repeat' (first|exact SubL.nil|refine SubL.cons ?_ ?_|exact Sub.refl _|exact Sub.nils|exact Sub.ff rfl)) (by exact BlksH.cons (j:=0) rfl rfl (CSub.of_eq (by rw [length_append];first|done|rfl)) (BlksH.cons (j:=1) rfl rfl (CSub.refl _) (BlksH.cons (j:=2) rfl rfl (CSub.of_eq (by rw [List.map_append];first|done|rfl)) (BlksH.cons (j:=3) rfl rfl (CSub.refl _) BlksH.nil)))) (z0a 1000 (by omega) p.procs[j].body (by omega) b (by omega) ⟨S0,j,0,-1,0⟩ _ _ (lo++[(b.length:Int)+1]) hi) rfl rfl ?_;rintro l' H' ⟨rfl,rfl⟩;conv=>whnf
  have hlen:=XW j 0 (-1) 0 b p.procs[j].body;repeat' (first|((first|(refine iM fun _=>?_)|refine dA ?_|refine And.intro rfl ?_|refine aD ?_|refine bP ?_|refine wI ?_|refine AppK.mk (by simp) rfl (by show (hi.length+1)*8<=140737488355328;omega) (by show hi.length+1<=9223372036854775807;omega) (fun x hx=>by rcases List.mem_singleton.1 hx with rfl;exact ⟨rfl,rfl⟩) ?_|refine Wr.i64 (by rw [XW];omega) (by rw [XW];omega) ?_);conv=>whnf)|(refine And.intro ?_ ?_<;>conv=>whnf))
  all_goals exact ⟨(j+1,XH j 0 (-1) 0 b p.procs[j].body,lo++[(b.length:Int)+1],hi++[((XH j 0 (-1) 0 b p.procs[j].body).length:Int)+1]),⟨by simp only;omega,by simp only;omega,by simp [h4],by simp [h5],by simp only;rw [<- h6,x5s hj]⟩,by simp only;omega,Le.of_eq (by simp only [w8f,length_append,List.map_append];rfl)⟩
 ·have hd:p.procs.drop j=[]:=drop_eq_nil_of_le (by omega);rw [hd,q7p] at h6;refine ⟨.ip (sheetOf p).cells,?_,rfl⟩;have e:(sheetOf p).cells=[eStrs p.globals,.sl (p.procs.map fun f => .agg f.cells),.sl (b.map fun i => .agg i.cells),ZM lo,ZM hi]:=by
   unfold sheetOf;rw [<- h6];rfl
  rw [e];have hF : ∀ H:Heap,getH H 1=some (.own 177 17 (b.map fun i => .agg i.cells))->getH H 2=some (.own 3 1 (lo.map (.int .i64)))->getH H 3=some (.own 3 1 (hi.map (.int .i64))) ->
    FrzL H [.p (eStrs p.globals),.p (.sl (p.procs.map fun f => .agg f.cells)),.hd 1 0 b.length,.hd 2 0 lo.length,.hd 3 0 hi.length] [eStrs p.globals,.sl (p.procs.map fun f => .agg f.cells),.sl (b.map fun i => .agg i.cells),ZM lo,ZM hi]:=fun H g1 g2 g3 =>
   .cons (.p (Sub.refl _)) (.cons (.p (Sub.refl _)) (.cons (.hd g1 (by simp)) (.cons (.hd g2 (by simp)) (.cons (.hd g3 (by simp)) .nil))))
  refine Frz.ptr (off:=0) rfl rfl fun m l c hl hc => ?_;obtain ⟨l',h7,h8⟩:=(hF (w8f 181 177 3 p b lo hi) rfl rfl rfl).get.2 m c hc;have h9:=h7.symm.trans hl;cases h9;exact h8
theorem IdxK.at {es:List AV} {sz k:Nat} {e:AV} {n:Int} {K:List AV->Prop} (hn:n=k) (he:es[k]? = some e) (hs:e.cells.length=sz) (h:K e.cells):IdxK es sz n K:=⟨k,e,hn,he,hs,h⟩
theorem VY {l:List Int} {k:Nat} {n:Int} (h:l[k]? = some n):(l.map (AV.int .i64))[k]? = some (.int .i64 n):=by simp [h]
def VH (l:List Item):AV := .sl (l.map fun i => .agg i.cells)
theorem LD (s:Sheet) (i lo hi:Nat) (h1:s.lo[i]? = some ((lo:Int)+1)) (h2:s.hi[i]? = some ((hi:Int)+1)) (h3:lo<=hi) (h4:hi<=s.l.length) (h5:s.l.length<=1000):SpecP Tryz.prog 229 [.ip s.cells,.int .i64 i] (fun r=>r=VH ((s.l.take hi).drop lo)):=by
 refine sB q5x Tryz.func229 rfl Tryz.call229 ?_;conv=>whnf
 repeat' ((first|refine dA ?_|refine wI ?_|(refine IdxK.at rfl (VY h1) rfl ?_)|(refine IdxK.at rfl (VY h2) rfl ?_)|refine And.intro (fun e he=>by obtain ⟨x,_,rfl⟩:=List.mem_map.1 he;rfl) (SlK.mk lo hi (by simp) (by simp) h3 (by simpa using h4) ?_));conv=>whnf)
 exact RetK.p (by simp [VH,List.map_take,List.map_drop])
theorem BH (s:Sheet) (id:Int):SpecP Tryz.prog 93 [.ip s.cells,.int .i64 id] (fun r=>r = .bool (decide (1<=id)&&decide (id<=s.l.length))):=by
 refine sB q3w Tryz.func93 rfl Tryz.call93 ?_;conv=>whnf
 repeat' (first|(refine iM fun _=>?_;conv=>whnf)|(apply bD<;>intro _<;>first|omega|conv=>whnf))
 all_goals have hl:(s.l.map fun i=>AV.agg i.cells).length=s.l.length:=length_map _
 ·exact RetK.bool (by simp_all)
 ·exact RetK.ff (by simp;omega)
theorem q3l (s:Sheet) (i lo hi:Nat) (h1:s.lo[i]? = some ((lo:Int)+1)) (h2:s.hi[i]? = some ((hi:Int)+1)):SpecP Tryz.prog 196 [.ip s.cells,.int .i64 i] (fun r=>r = .int .i64 (if lo<hi then (lo:Int)+1 else -1)):=by
 refine sB MV Tryz.func196 rfl Tryz.call196 ?_;conv=>whnf
 repeat' (first|((first|refine dA ?_|(refine IdxK.at rfl (VY h1) rfl ?_)|(refine IdxK.at rfl (VY h2) rfl ?_));conv=>whnf)|(apply bD<;>intro _<;>first|omega|conv=>whnf))
 ·exact RetK.int (by rw [if_pos (by omega)])
 ·exact RetK.int (by rw [if_neg (by omega)])
theorem VR (l:List Str) (g:Nat) (c:AV) (p:Str->Bool) (hp : ∀ s,SpecP Tryz.prog g [.str s,c] (fun r=>r = .bool (p s))):SpecP Tryz.prog 302 [eStrs l,.fn g [c]] (fun r=>r = .int .i64 (q0y p l)):=by
 refine sB VV Tryz.func302 rfl Tryz.call302 ?_;conv=>whnf
 refine iM fun _=>?_;have hl:(l.map AV.str).length=l.length:=length_map _;conv=>whnf
 refine LoopK.inv QY (fun j:Nat=>⟨[(0,.p (eStrs l)),(1,.p (.fn g [c])),(7,.p (.int .i64 (l.map AV.str).length)),(8,.p (.int .i64 j))],[]⟩) (fun j=>j<=l.length∧(l.drop j).any p=l.any p∧l.findIdx p=j+(l.drop j).findIdx p) (fun j=>l.length-j) 0 (Le.of_eq rfl) ⟨zero_le _,rfl,by simp⟩ ?_;rintro j ⟨h2,h3,h4⟩;conv=>whnf
 repeat' (first|((first|(refine iA fun _=>?_)|refine wI ?_|refine cP (hp _) ?_);conv=>whnf)|(apply bD<;>intro _<;>first|omega|conv=>whnf)|(apply bB<;>intro _<;>conv=>whnf))
 ·exact RetK.int (q4f (p:=p) (by omega) (by assumption) h3 h4).symm
 ·exact ⟨j+1,⟨by omega,by rw [<- h3,LG (p:=p) (by omega) (by assumption)],by rw [h4,w0i (p:=p) (by omega) (by assumption)];omega⟩,by omega,Le.of_eq rfl⟩
 ·exact RetK.int (by rw [x1f];rw [<- h3,GX (by omega)])
theorem WO (l:List Str) (g:Nat) (c:AV) (p:Str->Bool) (hp : ∀ s,SpecP Tryz.prog g [.str s,c] (fun r=>r = .bool (p s))):SpecP Tryz.prog 227 [eStrs l,.fn g [c]] (fun r=>r = .bool (l.any p)):=by
 refine sB WU Tryz.func227 rfl Tryz.call227 ?_;conv=>whnf
 repeat' (refine cP (VR _ _ _ p hp) ?_;conv=>whnf)
 exact RetK.bool q1g
theorem XM (l:List Pr) (g:Nat) (c:AV) (p:Pr->Bool) (hp : ∀ s:Pr,SpecP Tryz.prog g [.agg s.cells,c] (fun r=>r = .bool (p s))):SpecP Tryz.prog 155 [.sl (l.map fun f => .agg f.cells),.fn g [c]] (fun r=>r = .int .i64 (q0y p l)):=by
 refine sB WQ Tryz.func155 rfl Tryz.call155 ?_;conv=>whnf
 refine iM fun _=>?_;have hl:(l.map fun f=>AV.agg f.cells).length=l.length:=length_map _;conv=>whnf
 refine LoopK.inv QY (fun j:Nat=>⟨[(0,.p (.sl (l.map fun f => .agg f.cells))),(1,.p (.fn g [c])),(7,.p (.int .i64 (l.map fun f=>AV.agg f.cells).length)),(8,.p (.int .i64 j))],[]⟩) (fun j=>j<=l.length∧(l.drop j).any p=l.any p∧l.findIdx p=j+(l.drop j).findIdx p) (fun j=>l.length-j) 0 (Le.of_eq rfl) ⟨zero_le _,rfl,by simp⟩ ?_;rintro j ⟨h2,h3,h4⟩;conv=>whnf
 repeat' (first|((first|(refine iA fun _=>?_)|refine wI ?_|refine cP (hp _) ?_);conv=>whnf)|(apply bD<;>intro _<;>first|omega|conv=>whnf)|(apply bB<;>intro _<;>conv=>whnf))
 ·exact RetK.int (q4f (p:=p) (by omega) (by assumption) h3 h4).symm
 ·exact ⟨j+1,⟨by omega,by rw [<- h3,LG (p:=p) (by omega) (by assumption)],by rw [h4,w0i (p:=p) (by omega) (by assumption)];omega⟩,by omega,Le.of_eq rfl⟩
 ·exact RetK.int (by rw [x1f];rw [<- h3,GX (by omega)])
theorem ZI (l:List Pr) (g:Nat) (c:AV) (p:Pr->Bool) (hp : ∀ s:Pr,SpecP Tryz.prog g [.agg s.cells,c] (fun r=>r = .bool (p s))):SpecP Tryz.prog 351 [.sl (l.map fun f => .agg f.cells),.fn g [c]] (fun r=>r = .bool (l.any p)):=by
 refine sB ZN Tryz.func351 rfl Tryz.call351 ?_;conv=>whnf
 repeat' (refine cP (XM _ _ _ p hp) ?_;conv=>whnf)
 exact RetK.bool q1g
theorem x0o (p:Pg) (n:Str):SpecP Tryz.prog 228 [.str n,.ip p.cells] (fun r=>r = .bool (p.globals.any fun s=>n==s)):=by
 refine sB q4l Tryz.func228 rfl Tryz.call228 ?_;conv=>whnf
 repeat' (refine cP (QZ _ _) ?_;conv=>whnf)
 exact RetK.p rfl
theorem q2z (n:Str) (f:Pr):SpecP Tryz.prog 156 [.agg f.cells,.ip [.str n]] (fun r=>r = .bool (f.name==n)):=by
 refine sB PD Tryz.func156 rfl Tryz.call156 ?_;conv=>whnf
 skip
 exact RetK.p rfl
theorem x1h (n:Str) (f:Pr):SpecP Tryz.prog 352 [.agg f.cells,.ip [.str n]] (fun r=>r = .bool (f.name==n)):=by
 refine sB q7q Tryz.func352 rfl Tryz.call352 ?_;conv=>whnf
 skip
 exact RetK.p rfl
theorem XL (s:Sheet) (n:Str):SpecP Tryz.prog 86 [.ip s.cells,.str n] (fun r=>r = .int .i64 (q0y (fun f=>f.name==n) s.p.procs)):=by
 refine sB q0m Tryz.func86 rfl Tryz.call86 ?_;conv=>whnf
 repeat' (refine cP (XM _ _ _ (fun f=>f.name==n) (fun f=>q2z n f)) ?_;conv=>whnf)
 exact RetK.p rfl
theorem VF {es:List AV} {n:Nat} {K:Prop} (xs:List Str) (hn:n=es.length) (hb:es.length+xs.length<=8796093022208) (hK:K):AppK es (xs.map .str) n (xs.map AV.str).length 1 16 K :=
 .mk hn rfl (by rw [hn];simp;omega) (by rw [hn];simp [maxLen];omega) (fun x hx=>by obtain ⟨y,_,rfl⟩:=List.mem_map.1 hx;exact ⟨rfl,rfl⟩) hK
theorem QC {es:List AV} {n:Nat} {K:Prop} {s:Str} (hn:n=es.length) (hb:es.length<=8796093022000) (hK:K):AppK es [.str s] n 1 1 16 K :=
 .mk hn rfl (by omega) (by simp only [maxLen];omega) (fun x hx=>by rcases List.mem_singleton.1 hx with rfl;exact ⟨rfl,rfl⟩) hK
theorem ZJ {es:List AV} {n:Nat} {K:Prop} {s:Int} (hn:n=es.length) (hb:es.length<=8796093022000) (hK:K):AppK es [.int .i64 s] n 1 1 8 K :=
 .mk hn rfl (by omega) (by simp only [maxLen];omega) (fun x hx=>by rcases List.mem_singleton.1 hx with rfl;exact ⟨rfl,rfl⟩) hK
mutual
def q8h:X->List Str->List Str
 | .mk op _ name kids,out=>KY kids (if op=2∧(out.any fun s=>name==s)=false then out++[name] else out)
def KY:List X->List Str->List Str
 | [],out=>out
 | x::r,out=>KY r (q8h x out)
end
theorem x2u (x:X) (out:List Str):q8h x out=KY x.kids (if x.op=2∧(out.any fun s=>x.name==s)=false then out++[x.name] else out):=by
 cases x;rw [q8h];rfl
theorem x0v {l:List X} {j:Nat} {out:List Str} (hj:j<l.length):KY (l.drop j) out=KY (l.drop (j+1)) (q8h l[j] out):=by
 rw [QG hj,KY]
theorem x5i {l:List X} {j:Nat} {out:List Str} (hj:l.length<=j):KY (l.drop j) out=out:=by
 rw [drop_eq_nil_of_le hj,KY]
theorem q2q {n:Nat} {x:X} (h:WK (n+1) x=true):x.kids.length<=2∧(x.op=2->x.kids.length=0) ∧ ∀ k∈x.kids,WK n k=true:=by
 rw [WK] at h;simp only [Bool.and_eq_true,decide_eq_true_eq] at h;obtain ⟨h1,h2⟩:=h;refine ⟨?_,fun he => ?_,?_⟩
 ·unfold q3b at h1;(repeat' split at h1)<;>omega
 ·unfold q3b at h1;rw [if_pos (by omega)] at h1;omega
 ·by_cases h3:x.op=1
  ·have:x.kids.length=0:=by unfold q3b at h1;rw [if_pos (by omega)] at h1;omega
   rw [List.eq_nil_of_length_eq_zero this];simp
  ·by_cases h4:x.op=2
   ·have:x.kids.length=0:=by unfold q3b at h1;rw [if_pos (by omega)] at h1;omega
    rw [List.eq_nil_of_length_eq_zero this];simp
   ·rw [if_neg h3,if_neg h4] at h2;simp only [Bool.and_eq_true] at h2;exact List.all_eq_true.1 h2.2
theorem x9f : ∀ (n:Nat) (x:X) (out:List Str),WK n x=true->out.length<=(q8h x out).length∧(q8h x out).length<=out.length+2 ^ n:=by
 intro n;induction n with
 | zero=>intro x out h;rw [WK] at h;cases h
 | succ n ih =>
   intro x out h;obtain ⟨h1,h2,h3⟩:=q2q h;have key : ∀ (l:List X) (o:List Str),(∀ k∈l,WK n k=true)->o.length<=(KY l o).length∧(KY l o).length<=o.length+l.length*2 ^ n:=by
    intro l;induction l with
    | nil=>intro o _;simp [KY]
    | cons k r ihl =>
      intro o hk;rw [KY];have h5:=ih k o (hk k (by simp));have h6:=ihl (q8h k o) fun k hk'=>hk k (by simp [hk']);simp only [length_cons,Nat.add_mul,Nat.one_mul];omega
   rw [x2u];have hp:2 ^ (n+1)=2*2 ^ n:=by rw [Nat.pow_succ];omega
   have hpos:0<2 ^ n:=Nat.pow_pos (by decide);have h4:=key x.kids (if x.op=2∧(out.any fun s=>x.name==s)=false then out++[x.name] else out) h3;have h5:x.kids.length*2 ^ n<=2*2 ^ n:=Nat.mul_le_mul_right _ h1;split at h4
   ·rename_i hc;have:=h2 hc.1;rw [this] at h4;rw [if_pos hc];simp only [length_append,List.length_singleton] at h4;omega
   ·rename_i hc;rw [if_neg hc];omega
def x1c (t:Nat) (out:List Str):Heap:=[(2000,.own t 1 (out.map .str))]
theorem q5k : ∀ (n:Nat) (_:n<=20) (x:X) (_:WK n x=true) (out:List Str) (_:out.length+2 ^ n<=1073741824),
  SpecH Tryz.prog 309 [.p (.agg x.cells),.hd 2000 0 out.length] (x1c 9 out) (fun r H=>r = .hd 2000 0 (q8h x out).length∧H=x1c 9 (q8h x out)):=by
 intro n;induction n with
 | zero=>intro _ x h;rw [WK] at h;cases h
 | succ n ih =>
   intro hn x hx out ho;have hp:2 ^ (n+1)=2*2 ^ n:=by rw [Nat.pow_succ];omega
   have hpos:0<2 ^ n:=Nat.pow_pos (by decide);obtain ⟨hk1,hk2,hk3⟩:=q2q hx;have hxl:=X.avs_len x.kids;refine sH x2e Tryz.func309 rfl Tryz.call309 ?_;conv=>whnf
   repeat' (first|((first|(refine iM fun _=>?_)|refine And.intro rfl ?_|refine aD ?_|refine bP ?_|(refine QI (QZ out x.name) (.cons (.hd rfl (by simp)) (.cons (.p (Sub.refl _)) .nil)) (by rintro _ rfl;rfl) ?_;rintro _ rfl)|refine AppK.mk (by simp) rfl (by show (out.length+1)*16<=140737488355328;omega) (by show out.length+1<=9223372036854775807;omega) (fun x hx=>by rcases List.mem_singleton.1 hx with rfl;exact ⟨rfl,rfl⟩) ?_);conv=>whnf)|(apply bD<;>intro _<;>first|omega|conv=>whnf)|(apply bN<;>intro _<;>conv=>whnf))
   all_goals
    have hmul : ∀ j,j<x.kids.length->(x.kids.length-j)*2 ^ n=(x.kids.length-(j+1))*2 ^ n+2 ^ n:=fun j hj=>by
     rw [show x.kids.length-j=(x.kids.length-(j+1))+1 by omega,Nat.add_mul,Nat.one_mul]
    have hmul0:x.kids.length*2 ^ n<=2*2 ^ n:=Nat.mul_le_mul_right _ hk1;first
    | refine LoopK.inv QY (fun i:Nat×List Str=>⟨[(1,.hd 2000 0 i.2.length),(23,.p (.sl (X.avs x.kids))),(24,.p (.int .i64 (X.avs x.kids).length)),(25,.p (.int .i64 i.1))],x1c 9 i.2⟩) (fun i=>i.1<=x.kids.length∧KY (x.kids.drop i.1) i.2=q8h x out∧i.2.length+(x.kids.length-i.1)*2 ^ n<=1073741824) (fun i=>x.kids.length-i.1) (0,out++[x.name]) (Le.of_eq (by simp [x1c];exact ⟨rfl,rfl⟩)) ⟨zero_le _,by simp only [drop_zero];rw [x2u,if_pos ⟨by assumption,by assumption⟩],by have:=hk2 (by assumption);simp [this];omega⟩ ?_
    | refine LoopK.inv QY (fun i:Nat×List Str=>⟨[(1,.hd 2000 0 i.2.length),(23,.p (.sl (X.avs x.kids))),(24,.p (.int .i64 (X.avs x.kids).length)),(25,.p (.int .i64 i.1))],x1c 9 i.2⟩) (fun i=>i.1<=x.kids.length∧KY (x.kids.drop i.1) i.2=q8h x out∧i.2.length+(x.kids.length-i.1)*2 ^ n<=1073741824) (fun i=>x.kids.length-i.1) (0,out) (Le.of_eq rfl) ⟨zero_le _,by simp only [drop_zero];rw [x2u,if_neg (by simp [*])],by simp only [Nat.sub_zero];omega⟩ ?_
    rintro ⟨j,acc⟩ ⟨h2,h3,h4⟩;simp only at h2 h3 h4 ⊢;conv=>whnf
    repeat' (first|((first|refine And.intro rfl ?_|refine IdxK.xs (by omega) ?_);conv=>whnf)|(apply bD<;>intro _<;>first|omega|conv=>whnf))
    all_goals first
     | (rw [x5i (by omega)] at h3
        exact ⟨_,.refl _,by rw [h3];exact ⟨rfl,rfl⟩⟩)
     | (have hj:j<x.kids.length:=by omega
        have hm:=hmul j hj;have hg:=x9f n x.kids[j] acc (hk3 _ (List.getElem_mem hj));refine CallK.heap [(2000,2000)] 0 (by repeat' (first|exact ArgsH.nil|refine ArgsH.cons ?_ ?_|exact LSub.refl _|exact LSub.p Sub.nils|exact LSub.p (Sub.tt rfl)|exact LSub.p (Sub.ff rfl)|exact LSub.p (Sub.int (by omega)))) (by refine BlksH.cons (j:=2000) rfl rfl ?_ ?_;exact CSub.refl _;exact BlksH.nil) (ih (by omega) x.kids[j] (hk3 _ (List.getElem_mem hj)) acc (by omega)) rfl rfl ?_;rintro l' H' ⟨rfl,rfl⟩;conv=>whnf
        refine wI ?_;conv=>whnf
        exact ⟨(j+1,q8h x.kids[j] acc),⟨by simp only;omega,by simp only;rw [<- h3,x0v hj],by simp only;omega⟩,by simp only;omega,Le.of_eq rfl⟩)
def XZ (x:X):List Str:=bif z3w x then q8h x [] else []
theorem ZK (x:X):(XZ x).length<=1048576:=by
 unfold XZ;cases h:z3w x with
 | false=>simp
 | true =>
   have:=(x9f 20 x [] h).2;simpa using this
theorem q1i (x:X):SpecP Tryz.prog 242 [.agg x.cells] (fun r=>r=eStrs (XZ x)):=by
 refine sB q2j Tryz.func242 rfl Tryz.call242 ?_;conv=>whnf
 repeat' (first|(refine cP (DX _) ?_;conv=>whnf)|(apply bN<;>intro _<;>conv=>whnf))
 ·refine CallK.nil 5 9 1 rfl (.cons rfl (.row .nil)) ?_;refine CallK.heap [(2000,5)] 0 (by repeat' (first|exact ArgsH.nil|refine ArgsH.cons ?_ ?_|exact LSub.refl _|exact LSub.p Sub.nils|exact LSub.p (Sub.tt rfl)|exact LSub.p (Sub.ff rfl)|exact LSub.p (Sub.int (by omega)))) (by refine BlksH.cons (j:=5) rfl rfl ?_ ?_;exact CSub.refl _;exact BlksH.nil) (q5k 20 (by omega) x (by assumption) [] (by simp)) rfl rfl ?_;rintro l' H' ⟨rfl,rfl⟩;conv=>whnf
  refine ⟨_,.hd rfl (by simp),?_⟩;unfold XZ;rw [show z3w x=true by assumption];rfl
 ·refine ⟨_,.p Sub.nils,?_⟩;unfold XZ;rw [show z3w x=false by assumption];rfl
def VO (a:Arg):List Str:=(bif a.ref then [a.name] else [])++XZ a.x
def JQ (t:S):List Str:=(bif t.kind≠10 && !(t.name==[]) then [t.name] else [])++XZ t.x
def namesT (t:S):List Str:=JQ t++t.args.flatMap VO
theorem q9v (a:Arg):(VO a).length<=1048577:=by
 have:=ZK a.x;unfold VO;cases a.ref<;>simp<;>omega
theorem q9k (t:S):(JQ t).length<=1048577:=by
 have:=ZK t.x;unfold JQ;cases (t.kind≠10 && !(t.name==[]):Bool)<;>simp<;>omega
theorem YR {α β:Type} {f:α->List β} {c:Nat} (h : ∀ a,(f a).length<=c) : ∀ l:List α,(l.flatMap f).length<=l.length*c
 | []=>by simp
 | x::r=>by
   have:=YR h r;have:=h x;simp only [List.flatMap_cons,length_append,length_cons,Nat.add_mul,Nat.one_mul];omega
def x2z (t:S) (j:Nat):List Str:=JQ t++(t.args.take j).flatMap VO
theorem z1k (t:S) {j:Nat} (h:j<=t.args.length) (ha:t.args.length<=20000):(x2z t j).length<=21000000000:=by
 have h1:=q9k t;have h2:=YR q9v (t.args.take j);have h3:(t.args.take j).length*1048577<=20000*1048577:=Nat.mul_le_mul_right _ (by simp;omega);unfold x2z;simp only [length_append];omega
theorem x4r {t:S} {j:Nat} (hj:j<t.args.length):x2z t (j+1)=x2z t j++VO t.args[j]:=by
 unfold x2z;rw [List.take_succ_eq_append_getElem hj,List.flatMap_append,List.append_assoc];simp
def HV (t:S) (tS:Nat) (j:Nat):St:=⟨[(3,.hd 0 0 (x2z t j).length),(25,.p (.sl (t.args.map fun a => .agg a.cells))),(26,.p (.int .i64 (t.args.map fun a=>AV.agg a.cells).length)),(27,.p (.int .i64 j))],[(0,.own tS 1 ((x2z t j).map .str))]⟩
theorem q9j (t:S) (ha:t.args.length<=20000):SpecP Tryz.prog 303 [.agg t.cells] (fun r=>r=eStrs (namesT t)):=by
 refine sB x6r Tryz.func303 rfl Tryz.call303 ?_;conv=>whnf
 repeat' (first|((first|(refine iM fun _=>?_)|refine cP (q1i _) ?_|refine And.intro rfl ?_|refine aD ?_|refine bP ?_|refine VF _ (by simp) (by have:=ZK t.x;simp;omega) ?_|refine QC (by simp) (by simp) ?_);conv=>whnf)|(apply bE<;>intro _<;>first|omega|conv=>whnf)|(apply bN<;>intro _<;>conv=>whnf))
 all_goals
  have hl:(t.args.map fun a=>AV.agg a.cells).length=t.args.length:=length_map _;refine LoopK.inv QY (HV t 9) (fun j=>j<=t.args.length) (fun j=>t.args.length-j) 0 (Le.of_eq ?_) (zero_le _) ?_
  ·first
    | (have e:x2z t 0=XZ t.x:=by simp [x2z,JQ,show t.kind=10 by assumption]
       rw [HV,e];simp only [Nat.zero_add,length_map,length_append,List.map_append,nil_append];rfl)
    | (have e:x2z t 0=XZ t.x:=by simp [x2z,JQ,show t.name=[] by simpa using (show (t.name==[])=true by assumption)]
       rw [HV,e];simp only [Nat.zero_add,length_map,length_append,List.map_append,nil_append];rfl)
    | (have e:x2z t 0=[t.name]++XZ t.x:=by
        have:(t.name==[])=false:=by assumption
        simp [x2z,JQ,show ¬t.kind=10 by assumption,this]
       rw [HV,e];simp only [Nat.zero_add,length_map,length_append,List.map_append,nil_append];rfl)
  intro j h2;have hacc:=z1k t h2 ha;conv=>whnf
  repeat' (first|((first|refine cP (q1i _) ?_|refine And.intro rfl ?_|refine aD ?_|refine bP ?_|(refine iA fun _=>?_)|refine wI ?_|refine VF _ (by simp) (by have:=ZK (t.args[j]'(by omega)).x;simp;omega) ?_|refine QC (by simp) (by simp;omega) ?_);conv=>whnf)|(apply bD<;>intro _<;>first|omega|conv=>whnf)|(apply bB<;>intro _<;>conv=>whnf))
  all_goals first
   | exact ⟨_,.hd rfl (by simp),by
      have:t.args.take j=t.args:=take_of_length_le (by omega);rw [namesT,<- this];rfl⟩
   | (have hj:j<t.args.length:=by omega
      have hst:=x4r hj;refine ⟨j+1,by show j+1<=_;omega,by show t.args.length-(j+1)<t.args.length-j;omega,Le.of_eq ?_⟩;first
       | (have hn:VO t.args[j]=[t.args[j].name]++XZ t.args[j].x:=by rw [VO,show t.args[j].ref=true by assumption];rfl
          rw [HV,hst,hn];simp only [length_append,List.map_append,length_map,<- List.append_assoc,<- Nat.add_assoc];rfl)
       | (have hn:VO t.args[j]=XZ t.args[j].x:=by rw [VO,show t.args[j].ref=false by assumption];rfl
          rw [HV,hst,hn];simp only [length_append,List.map_append,length_map];rfl))
def z9p:List Str->Nat
 | []=>0
 | s::r=>1+z9p r
mutual
def wX:X->Nat
 | .mk _ _ name kids=>1+wXs kids
def wXs:List X->Nat
 | []=>0
 | x::r=>wX x+wXs r
end
def x3j:List Arg->Nat
 | []=>0
 | a::r=>wX a.x+1+x3j r
mutual
def wS:S->Nat
 | .mk _ _ labels name proc x _ args thn els=>wX x+z9p labels+1+1+x3j args+wL thn+wL els
def wL:List S->Nat
 | []=>0
 | s::r=>wS s+wL r
end
def w9v:List Param->Nat
 | []=>0
 | a::r=>1+w9v r
def wPr (f:Pr):Nat:=1+z9p f.vars+z9p f.fin+w9v f.params+wL f.body
def w6a:List Pr->Nat
 | []=>0
 | f::r=>wPr f+w6a r
def wPg (p:Pg):Nat:=z9p p.globals+w6a p.procs
def Fit (p:Pg):Prop:=wPg p<=20000
theorem x1v : ∀ l:List Str,l.length<=z9p l
 | []=>zero_le _
 | s::r=>by have:=x1v r;simp only [length_cons,z9p];omega
theorem q0q : ∀ l:List Arg,l.length<=x3j l
 | []=>zero_le _
 | s::r=>by have:=q0q r;simp only [length_cons,x3j];omega
theorem z5q (s:S):wS s=wX s.x+z9p s.labels+1+1+x3j s.args+wL s.thn+wL s.els:=by
 cases s;rw [wS];rfl
mutual
theorem w7t : ∀ s:S,ZB s<=wS s
 | .mk id kind labels name proc x has args thn els=>by
   have:=z0z thn;have:=z0z els;rw [ZB,wS];omega
theorem z0z : ∀ l:List S,cntL l<=wL l
 | []=>by rw [cntL,wL];exact Nat.le_refl _
 | s::r=>by
   have:=w7t s;have:=z0z r;rw [cntL,wL];omega
end
theorem z7x : ∀ {l:List Pr} {f:Pr},f∈l->wPr f<=w6a l
 | g::r,f,h=>by
   simp only [w6a];rcases List.mem_cons.1 h with rfl|h
   ·omega
   ·have:=z7x h;omega
theorem Fit.pr {p:Pg} (h:Fit p) {f:Pr} (hf:f∈p.procs):wPr f<=20000:=by
 have:=z7x hf;unfold Fit wPg at h;omega
mutual
def flS:S->List S
 | .mk id kind labels name proc x has args thn els => .mk id kind labels name proc x has args thn els::(flL thn++flL els)
def flL:List S->List S
 | []=>[]
 | s::r=>flS s++flL r
end
theorem z4i (s:S):flS s=s::(flL s.thn++flL s.els):=by
 cases s;rw [flS];rfl
mutual
theorem w5q : ∀ s:S,(flS s).length=ZB s
 | .mk id kind labels name proc x has args thn els=>by
   rw [flS,ZB,length_cons,length_append,q5m thn,q5m els];omega
theorem q5m : ∀ l:List S,(flL l).length=cntL l
 | []=>by rw [flL,cntL];rfl
 | s::r=>by rw [flL,cntL,length_append,w5q s,q5m r]
end
mutual
theorem v0v : ∀ (s t:S),t∈flS s->wS t<=wS s
 | .mk id kind labels name proc x has args thn els,t,h=>by
   rw [flS] at h;rcases List.mem_cons.1 h with rfl|h
   ·exact Nat.le_refl _
   ·rw [wS];rcases List.mem_append.1 h with h|h
    ·have:=x8g thn t h;omega
    ·have:=x8g els t h;omega
theorem x8g : ∀ (l:List S) (t:S),t∈flL l->wS t<=wL l
 | [],t,h=>by rw [flL] at h;cases h
 | s::r,t,h=>by
   rw [flL] at h;rw [wL];rcases List.mem_append.1 h with h|h
   ·have:=v0v s t h;omega
   ·have:=x8g r t h;omega
end

mutual
def itS (proc up nx loop:Int) (n:Nat):S->List Item
 | .mk id kind labels name pr x has args thn els =>
   ⟨.mk id kind labels name pr x has args thn els,proc,up,nx,loop⟩::(itL proc (n+1) (if kind=6 then n+1 else nx) (if kind=6 then n+1 else loop) (n+1) thn ++
     itL proc (n+1) (if kind=6 then n+1 else nx) (if kind=6 then n+1 else loop) (n+1+cntL thn) els)
def itL (proc up nx loop:Int) (n:Nat):List S->List Item
 | []=>[]
 | t::r=>itS proc up (if r.isEmpty then nx else n+1+ZB t) loop n t++itL proc up nx loop (n+ZB t) r
end
mutual
theorem w5e (proc up nx loop:Int) : ∀ (t:S) (acc:List Item),q4v proc up nx loop acc t=acc++itS proc up nx loop acc.length t
 | .mk id kind labels name pr x has args thn els,acc=>by
   rw [q4v,itS,LL _ _ _ _ thn,LL _ _ _ _ els];simp only [length_append,length_cons,List.length_nil,List.append_assoc,List.cons_append,nil_append,ZF proc _ _ _ _ thn,Nat.zero_add,Nat.add_assoc,Nat.add_comm (cntL thn) 1]
theorem LL (proc up nx loop:Int) : ∀ (l:List S) (acc:List Item),XH proc up nx loop acc l=acc++itL proc up nx loop acc.length l
 | [],acc=>by rw [XH,itL,List.append_nil]
 | t::r,acc=>by
   rw [XH,itL,w5e _ _ _ _ t,LL _ _ _ _ r];simp only [length_append,List.append_assoc,z4s proc _ _ _ _ t]
theorem z4s (proc up nx loop:Int) (n:Nat) : ∀ t:S,(itS proc up nx loop n t).length=ZB t
 | .mk id kind labels name pr x has args thn els=>by
   rw [itS,ZB,length_cons,length_append,ZF _ _ _ _ _ thn,ZF _ _ _ _ _ els];omega
theorem ZF (proc up nx loop:Int) (n:Nat) : ∀ l:List S,(itL proc up nx loop n l).length=cntL l
 | []=>by rw [itL,cntL];rfl
 | t::r=>by rw [itL,cntL,length_append,z4s _ _ _ _ _ t,ZF _ _ _ _ _ r]
end
mutual
theorem w9t (proc up nx loop:Int) (n:Nat) : ∀ t:S,(itS proc up nx loop n t).map Item.s=flS t
 | .mk id kind labels name pr x has args thn els=>by
   rw [itS,flS,List.map_cons,List.map_append,MJ _ _ _ _ _ thn,MJ _ _ _ _ _ els]
theorem MJ (proc up nx loop:Int) (n:Nat) : ∀ l:List S,(itL proc up nx loop n l).map Item.s=flL l
 | []=>by rw [itL,flL];rfl
 | t::r=>by rw [itL,flL,List.map_append,w9t _ _ _ _ _ t,MJ _ _ _ _ _ r]
end
def QL:List Pr->Nat->Nat
 | _,0=>0
 | [],_+1=>0
 | f::r,i+1=>cntL f.body+QL r i
theorem x4p : ∀ (l:List Pr) (i:Nat) (acc:List Item) (lo hi:List Int),lo.length=i->hi.length=i ->
  (q7p i acc lo hi l).2.1.length=i+l.length∧(q7p i acc lo hi l).2.2.length=i+l.length ∧
  (∀ k,k<i->(q7p i acc lo hi l).2.1[k]? = lo[k]? ∧ (q7p i acc lo hi l).2.2[k]? = hi[k]?) ∧ ∃ L,(q7p i acc lo hi l).1=acc++L∧L.length=cntP l ∧
  ∀ (k:Nat) (f:Pr),l[k]? = some f->(q7p i acc lo hi l).2.1[i+k]? = some ((acc.length+QL l k:Nat)+1:Int)∧(q7p i acc lo hi l).2.2[i+k]? = some ((acc.length+QL l k+cntL f.body:Nat)+1:Int) ∧
   QL l k+cntL f.body<=cntP l∧(L.take (QL l k+cntL f.body)).drop (QL l k)=itL (i+k:Nat) 0 (-1) 0 (acc.length+QL l k) f.body
 | [],i,acc,lo,hi,h1,h2=>by
   rw [q7p];exact ⟨by simpa using h1,by simpa using h2,fun _ _=>⟨rfl,rfl⟩,[],by simp,rfl,fun k f h=>by simp at h⟩
 | f::r,i,acc,lo,hi,h1,h2=>by
   rw [q7p];have hrow:=LL i 0 (-1) 0 f.body acc;have hlen:=XW i 0 (-1) 0 acc f.body;obtain ⟨h3,h4,h5,L,h6,h7,h8⟩:=x4p r (i+1) (XH i 0 (-1) 0 acc f.body) (lo++[(acc.length:Int)+1]) (hi++[((XH i 0 (-1) 0 acc f.body).length:Int)+1]) (by simp [h1]) (by simp [h2]);refine ⟨by rw [h3,length_cons];omega,by rw [h4,length_cons];omega,fun k hk => ?_,itL i 0 (-1) 0 acc.length f.body++L,?_,?_,fun k g hg => ?_⟩
   ·obtain ⟨h9,h10⟩:=h5 k (by omega);rw [h9,h10,List.getElem?_append_left (by omega),List.getElem?_append_left (by omega)];exact ⟨rfl,rfl⟩
   ·rw [h6,hrow,List.append_assoc]
   ·rw [length_append,h7,ZF,cntP]
   ·cases k with
    | zero =>
      simp only [List.getElem?_cons_zero,Option.some.injEq] at hg;subst hg;obtain ⟨h9,h10⟩:=h5 i (by omega);simp only [Nat.add_zero,QL,Nat.zero_add,drop_zero];refine ⟨?_,?_,?_,?_⟩
      ·rw [h9,List.getElem?_append_right (by omega),h1];simp
      ·rw [h10,List.getElem?_append_right (by omega),h2,hlen];simp
      ·rw [cntP];omega
      ·rw [List.take_append_of_le_length (by rw [ZF];omega),take_of_length_le (by rw [ZF];omega)]
    | succ k =>
      simp only [List.getElem?_cons_succ] at hg;obtain ⟨h9,h10,h11,h12⟩:=h8 k g hg;rw [hlen] at h12;simp only [QL];refine ⟨?_,?_,?_,?_⟩
      ·rw [show i+(k+1)=i+1+k by omega,h9,hlen];congr 2;omega
      ·rw [show i+(k+1)=i+1+k by omega,h10,hlen];congr 2;omega
      ·rw [cntP];omega
      ·rw [List.take_append,List.drop_append,ZF,take_of_length_le (by rw [ZF];omega),drop_eq_nil_of_le (by rw [ZF];omega),nil_append];simp only [ZF];rw [show cntL f.body+QL r k+cntL g.body-cntL f.body=QL r k+cntL g.body by omega,show cntL f.body+QL r k-cntL f.body=QL r k by omega,h12];rw [show i+(k+1)=i+1+k by omega,show acc.length+(cntL f.body+QL r k)=acc.length+cntL f.body+QL r k by omega]
theorem QJ (p:Pg):(sheetOf p).p=p∧(sheetOf p).lo.length=p.procs.length∧(sheetOf p).hi.length=p.procs.length∧(sheetOf p).l.length=cntP p.procs ∧
  ∀ (k:Nat) (f:Pr),p.procs[k]? = some f->(sheetOf p).lo[k]? = some ((QL p.procs k:Nat)+1:Int)∧(sheetOf p).hi[k]? = some ((QL p.procs k+cntL f.body:Nat)+1:Int) ∧
   QL p.procs k+cntL f.body<=cntP p.procs∧((sheetOf p).l.take (QL p.procs k+cntL f.body)).drop (QL p.procs k)=itL k 0 (-1) 0 (QL p.procs k) f.body:=by
 obtain ⟨h3,h4,_,L,h6,h7,h8⟩:=x4p p.procs 0 [] [] [] rfl rfl;refine ⟨rfl,by unfold sheetOf;simpa using h3,by unfold sheetOf;simpa using h4,by unfold sheetOf;simp [h6,h7],fun k f hk => ?_⟩;have:=h8 k f hk;unfold sheetOf;simp only [h6,nil_append,List.length_nil,Nat.zero_add] at this ⊢;exact this
mutual
theorem z1v (nest seen:Int) : ∀ (s:S) {m:Int},x0e nest seen s=some m->m=seen+ZB s
 | .mk id kind labels name proc x has args thn els,m,h=>by
   simp only [x0e] at h;split at h
   ·cases h
   split at h
   ·cases h
   cases hn:namesB labels<;>rw [hn] at h
   ·cases h
   cases hf:WW (.mk id kind labels name proc x has args thn els)<;>rw [hf] at h
   ·cases h
   simp only [cond_true] at h;split at h
   ·rename_i m1 h1;have h2:=JK (nest+1) (seen+1) thn h1;have h3:=JK (nest+1) m1 els h;rw [ZB];omega
   ·cases h
theorem JK (nest seen:Int) : ∀ (l:List S) {m:Int},UR nest seen l=some m->m=seen+cntL l
 | [],m,h=>by
   simp only [UR] at h;cases h;rw [cntL];simp
 | s::r,m,h=>by
   simp only [UR] at h;split at h
   ·cases h
   split at h
   ·rename_i m1 h1;have h2:=z1v nest seen s h1;have h3:=JK nest m1 r h;rw [cntL];omega
   ·cases h
end
theorem x0z : ∀ (l:List Pr) {seen m:Int},seen<=200->XR seen l=some m->m=seen+cntP l∧m<=200
 | [],seen,m,h0,h=>by rw [XR] at h;cases h;simp [cntP];exact h0
 | f::r,seen,m,h0,h=>by
   rw [XR] at h;cases hm:JH f<;>rw [hm] at h
   ·cases h
   simp only [cond_true] at h;split at h
   ·rename_i m1 h1;have h2:=JK 1 seen f.body h1;have h3:=q7u 1 seen f.body h0 h1;have h4:=x0z r (by omega) h;rw [cntP];omega
   ·cases h
theorem WD {p:Pg} (h:YS p=true):p.globals.length<=16∧p.procs.length<=16∧cntP p.procs<=200:=by
 unfold YS at h;simp only [Bool.and_eq_true,decide_eq_true_eq] at h;obtain ⟨⟨⟨h1,h2⟩,_⟩,h3⟩:=h;cases hm:XR 0 p.procs with
 | none=>rw [hm] at h3;cases h3
 | some m =>
   have:=x0z p.procs (by decide) hm;omega
theorem x9w {p:Pg} (h:YS p=true) {f:Pr} (hf:f∈p.procs):JH f=true:=by
 unfold YS at h;simp only [Bool.and_eq_true] at h;have h3:=h.2;have key : ∀ (l:List Pr) (seen:Int),(XR seen l).isSome=true -> ∀ f∈l,JH f=true:=fun l=>by
  induction l with
  | nil=>intro _ _ f hf;cases hf
  | cons g r ih =>
    intro seen h f hf;rw [XR] at h;cases hm:JH g<;>rw [hm] at h
    ·cases h
    simp only [cond_true] at h;split at h
    ·rename_i m1 h1;rcases List.mem_cons.1 hf with rfl|hf
     ·exact hm
     ·exact ih _ h f hf
    ·cases h
 exact key _ _ h3 f hf
def q5t (p:Pg) (f:Pr) (name:Str):Int :=
 match f.params.find? (fun a=>a.name==name) with
 | some a=>bif a.ref then 3 else 2
 | none=>bif f.vars.any (fun s=>name==s) then 4 else bif p.globals.any (fun s=>name==s) then 1 else 0
theorem q0k {α:Type} {l:List α} {p:α->Bool} {j:Nat} (hj:j<l.length) (h:p l[j]=false):(l.drop (j+1)).find? p=(l.drop j).find? p:=by
 rw [QG hj,List.find?_cons,h]
theorem DP {α:Type} {l:List α} {p:α->Bool} {j:Nat} (hj:j<l.length) (h:p l[j]=true):(l.drop j).find? p=some l[j]:=by
 rw [QG hj,List.find?_cons,h]
theorem DF {α:Type} {l:List α} {p:α->Bool} {j:Nat} (hj:l.length<=j):(l.drop j).find? p=none:=by
 rw [drop_eq_nil_of_le hj];rfl
theorem z3a (p:Pg) (f:Pr) (name:Str):SpecP Tryz.prog 304 [.agg p.cells,.agg f.cells,.str name] (fun r=>r = .int .i64 (q5t p f name)):=by
 refine sB x4l Tryz.func304 rfl Tryz.call304 ?_;conv=>whnf
 repeat' (refine iM fun _=>?_;conv=>whnf)
 have hl:(f.params.map fun a=>AV.agg a.cells).length=f.params.length:=length_map _;refine LoopK.inv QY (fun j:Nat=>⟨[(2,.p (.str name)),(3,.p (.ip p.cells)),(4,.p (.ip f.cells)),(10,.p (.sl (f.params.map fun a => .agg a.cells))),(11,.p (.int .i64 (f.params.map fun a=>AV.agg a.cells).length)),(12,.p (.int .i64 j))],[]⟩) (fun j=>j<=f.params.length∧(f.params.drop j).find? (fun a=>a.name==name)=f.params.find? (fun a=>a.name==name)) (fun j=>f.params.length-j) 0 (Le.of_eq rfl) ⟨zero_le _,rfl⟩ ?_;rintro j ⟨h2,h3⟩;conv=>whnf
 repeat' (first|((first|refine cP (QZ _ _) ?_|refine And.intro rfl ?_|(refine iA fun _=>?_)|refine wI ?_);conv=>whnf)|(apply bD<;>intro _<;>first|omega|conv=>whnf)|(apply bB<;>intro _<;>conv=>whnf))
 all_goals try have hj:j<f.params.length:=by omega
 all_goals first
  | (exfalso
     have h8:((f.params[j]'(by omega)).name==name)=true:=by assumption
     have h9:((f.params[j]'(by omega)).name==name)=false:=by assumption
     rw [h8] at h9;cases h9)
  | (have e:=DP (p:=fun a:Param=>a.name==name) (by omega) (by assumption)
     rw [h3] at e;exact RetK.int (by unfold q5t;rw [e];simp [*]))
  | (refine ⟨j+1,⟨by omega,by rw [<- h3,q0k (p:=fun a:Param=>a.name==name) (by omega) (by assumption)]⟩,by omega,Le.of_eq rfl⟩)
  | (have e:f.params.find? (fun a=>a.name==name)=none:=by rw [<- h3,DF (by omega)]
     exact RetK.int (by unfold q5t;rw [e];simp [*]))
def mainS:Str:=[109,97,105,110]
def YE (p:Pg) (f:Pr) (procs:List Str) (t:S):Bool:=(namesT t).all (fun n => !(q5t p f n==0))&&(decide (t.kind≠4)||(!(t.proc==mainS)&&procs.any fun s=>t.proc==s))
theorem x7t (p:Pg) (f:Pr) (procs:List Str) (t:S) (ha:t.args.length<=20000):SpecP Tryz.prog 230 [.agg p.cells,.agg f.cells,eStrs procs,.agg t.cells] (fun r=>r = .bool (YE p f procs t)):=by
 refine sB x3y Tryz.func230 rfl Tryz.call230 ?_;conv=>whnf
 repeat' ((first|(refine iM fun _=>?_)|refine cP (q9j _ ha) ?_);conv=>whnf)
 have hl:((namesT t).map AV.str).length=(namesT t).length:=length_map _;refine LoopK.inv QY (fun j:Nat=>⟨[(2,.p (eStrs procs)),(4,.p (.ip p.cells)),(5,.p (.ip f.cells)),(7,.p (.ip t.cells)),(12,.p (eStrs (namesT t))),(13,.p (.int .i64 ((namesT t).map AV.str).length)),(14,.p (.int .i64 j))],[]⟩) (fun j=>j<=(namesT t).length∧((namesT t).drop j).all (fun n => !(q5t p f n==0))=(namesT t).all (fun n => !(q5t p f n==0))) (fun j=>(namesT t).length-j) 0 (Le.of_eq rfl) ⟨zero_le _,rfl⟩ ?_;rintro j ⟨h2,h3⟩;conv=>whnf
 repeat' (first|((first|refine cP (z3a _ _ _) ?_|refine cP (QZ _ _) ?_|(refine iA fun _=>?_)|refine wI ?_);conv=>whnf)|(apply bD<;>intro _<;>first|omega|conv=>whnf)|(apply bE<;>intro _<;>first|omega|conv=>whnf)|(apply bN<;>intro _<;>conv=>whnf))
 ·exact RetK.ff (by
   have e:=q2s (p:=fun n => !(q5t p f n==0)) (l:=namesT t) (j:=j) (by omega) (by simp;assumption);rw [YE,<- h3,e,Bool.false_and])
 ·exact ⟨j+1,⟨by omega,by rw [<- h3,GR (p:=fun n => !(q5t p f n==0)) (by omega) (by simp;assumption)]⟩,by omega,Le.of_eq rfl⟩
 all_goals
  have e:(namesT t).all (fun n => !(q5t p f n==0))=true:=by rw [<- h3,GV (by omega)]
 ·exact RetK.ff (by
   have h8:(t.proc==mainS)=true:=by assumption
   rw [YE,e,h8];simp [*])
 ·exact RetK.bool (by
   have h8:(t.proc==mainS)=false:=by assumption
   rw [YE,e,h8];simp [*])
 ·exact RetK.tt (by rw [YE,e];simp [*])
def q9t (c at_:Int):AV := .agg [.int .i64 c,.int .i64 at_]
def QH (p:Pg):List Str:=p.procs.map Pr.name
def WR (p:Pg):Bool:=WI p.globals||(WI (QH p)||(!((QH p).any fun s=>mainS==s)||match p.procs.find? (fun f=>mainS==f.name) with
 | some f=>decide (0<f.params.length)
 | none=>true))
def VT (p:Pg) (f:Pr):Option Int :=
 bif WI (x9d f)||(x9d f).any (fun n=>p.globals.any fun s=>n==s) then some 0 else ((flL f.body).find? fun t => !YE p f (QH p) t).map S.id
def XX (p:Pg):Int×Int :=
 bif YS p then bif WR p then (5,0) else match p.procs.findSome? (VT p) with
  | some a=>(5,a)
  | none=>(0,0)
 else (1,0)
theorem z1z {α:Type} {l:List α} {p:α->Bool} (h:l.any p=true) : ∃ (k:Nat) (hk:k<l.length),q0y p l=k∧p l[k]=true∧l.find? p=some l[k]:=by
 have h1:l.findIdx p<l.length:=by
  rw [List.findIdx_lt_length];exact List.any_eq_true.1 h
 refine ⟨l.findIdx p,h1,by unfold q0y;rw [h];rfl,List.findIdx_getElem,?_⟩;rw [List.find?_eq_some_iff_getElem];exact ⟨List.findIdx_getElem,l.findIdx p,h1,rfl,fun j hj=>by simpa using List.not_of_lt_findIdx hj⟩
theorem w1u {p:Pg} (h:(QH p).any (fun s=>mainS==s)=true) : ∃ (k:Nat) (hk:k<p.procs.length),q0y (fun s=>mainS==s) (QH p)=k∧p.procs.find? (fun f=>mainS==f.name)=some p.procs[k]:=by
 have h':p.procs.any (fun f=>mainS==f.name)=true:=by simpa [QH,List.any_map,Function.comp_def] using h
 obtain ⟨k,hk,h1,_,h2⟩:=z1z h';refine ⟨k,hk,?_,h2⟩;rw [<- h1];unfold q0y;rw [h,h'];simp [QH,List.findIdx_map,Function.comp_def]
theorem z3r (p:Pg) {j:Nat} {f:Pr} (hj:p.procs[j]? = some f) (hc:cntP p.procs<=1000):SpecP Tryz.prog 229 [.ip (sheetOf p).cells,.int .i64 j] (fun r=>r=VH (itL j 0 (-1) 0 (QL p.procs j) f.body)):=by
 obtain ⟨_,h2,h3,h4,h5⟩:=QJ p;obtain ⟨h6,h7,h8,h9⟩:=h5 j f hj;have:=LD (sheetOf p) j _ _ h6 h7 (by omega) (by omega) (by omega);rw [h9] at this;exact this
theorem WE (l:List Item):(l.map fun i=>AV.agg i.cells).length=l.length:=length_map _
theorem q5a {α β:Type} {l:List α} {f:α->Option β} {j:Nat} (hj:j<l.length) (h:f l[j]=none):(l.drop (j+1)).findSome? f=(l.drop j).findSome? f:=by
 rw [QG hj,List.findSome?_cons,h]
theorem WC {α β:Type} {l:List α} {f:α->Option β} {j:Nat} {b:β} (hj:j<l.length) (h:f l[j]=some b):(l.drop j).findSome? f=some b:=by
 rw [QG hj,List.findSome?_cons,h]
theorem q2e {α β:Type} {l:List α} {f:α->Option β} {j:Nat} (hj:l.length<=j):(l.drop j).findSome? f=none:=by
 rw [drop_eq_nil_of_le hj];rfl
theorem DR {q:S->Bool} (l:List Item):(l.find? fun it=>q it.s).map (fun it=>it.s.id)=((l.map Item.s).find? q).map S.id:=by
 rw [List.find?_map];cases h:l.find? (q∘Item.s) with
 | none=>rw [show (l.find? fun it=>q it.s)=none from h];rfl
 | some i=>rw [show (l.find? fun it=>q it.s)=some i from h];rfl
theorem z6c {l:List Pr} {j:Nat} (hj:j<l.length) (h:wPr l[j]<=20000) {a b c d:Int} {n k:Nat} (hk:k<(itL a b c d n l[j].body).length):(itL a b c d n l[j].body)[k].s.args.length<=20000:=by
 have hm:(itL a b c d n l[j].body)[k].s∈flL l[j].body:=by
  rw [<- MJ a b c d n];exact List.mem_map.2 ⟨_,List.getElem_mem hk,rfl⟩
 have h1:=x8g _ _ hm;have h2:=z5q (itL a b c d n l[j].body)[k].s;have h3:=q0q (itL a b c d n l[j].body)[k].s.args;unfold wPr at h;omega
theorem QN {H:Heap} {a b c d:Int} (h:a=c) (h':b=d):RetK H (.p (.agg [.int .i64 a,.int .i64 b])) (fun r=>r=q9t c d):=⟨_,.p (Sub.refl _),by rw [h,h'];rfl⟩
theorem YN (p:Pg) (hf:Fit p):SpecP Tryz.prog 145 [.agg p.cells] (fun r=>r=q9t (XX p).1 (XX p).2):=by
 refine sB x2d Tryz.func145 rfl Tryz.call145 ?_;conv=>whnf
 repeat' (first|((first|(refine iM fun _=>?_)|refine cP (z0j _) ?_|refine And.intro rfl ?_);conv=>whnf)|(apply bN<;>intro _<;>conv=>whnf))
 rotate_left 1
 ·exact QN (by simp [XX, *]) (by simp [XX, *])
 have hm:YS p=true:=by assumption
 obtain ⟨hg,hpl,hcn⟩:=WD hm;have hl:(p.procs.map fun f=>AV.agg f.cells).length=p.procs.length:=length_map _;have hnl:(QH p).length=p.procs.length:=by simp [QH]
 refine LoopK.inv QY (fun i:Nat×List Str=>⟨[(1,.p (.ip p.cells)),(2,.ptr 1 0),(3,.hd 0 0 i.2.length),(18,.p (.sl (p.procs.map fun f => .agg f.cells))),(19,.p (.int .i64 (p.procs.map fun f=>AV.agg f.cells).length)),(20,.p (.int .i64 i.1))],[(0,.own 9 1 (i.2.map .str)),(1,.obj 117 [.p (.int .i64 0),.p (.int .i64 0)])]⟩)
  (fun i=>i.1<=p.procs.length∧i.2=(QH p).take i.1) (fun i=>p.procs.length-i.1) (0,[])
  (Le.mk [(0,.own 9 1 [])] (by simp [Chunk.new0];rfl) (by simp) (by simp) (.cons (.refl _) (.cons (.refl _) (.cons (.nil mem_cons_self) (.cons (.refl _) (.cons (.refl _) (.cons (.refl _) .nil)))))) (.new mem_cons_self (.cons rfl (.refl _) .nil)))
  ⟨zero_le _,by simp⟩ ?_
 rintro ⟨j,acc⟩ ⟨h2,h3⟩;simp only at h2 h3 ⊢;have hal:acc.length<=16:=by rw [h3];simp;omega
 conv=>whnf
 repeat' (first|((first|refine And.intro rfl ?_|refine aD ?_|refine bP ?_|(refine iA fun _=>?_)|refine wI ?_|refine QC (by simp) (by simp;omega) ?_|(refine QI (ZR acc mainS) (.cons (.hd rfl (by simp)) (.cons (.p (Sub.refl _)) .nil)) (by rintro _ rfl;rfl) ?_;rintro _ rfl)|(refine QI (NJ acc) (.cons (.hd rfl (by simp)) .nil) (by rintro _ rfl;rfl) ?_;rintro _ rfl)|refine cP (NJ _) ?_);conv=>whnf)|(apply bD<;>intro _<;>first|omega|conv=>whnf)|(apply bB<;>intro _<;>conv=>whnf))
 ·exact ⟨(j+1,acc++[p.procs[j].name]),⟨by simp only;omega,by simp only;rw [h3,List.take_succ_eq_append_getElem (by omega)];simp [QH]⟩,by simp only;omega,Le.of_eq (by simp only [length_append,List.map_append];rfl)⟩
 all_goals
  have hacc:acc=QH p:=by rw [h3,take_of_length_le (by omega)]
  clear h3;subst hacc
 ·have hb:WR p=true:=by unfold WR;rw [show WI p.globals=true by assumption];rfl
  exact QN (by unfold XX;rw [hm,hb];rfl) (by unfold XX;rw [hm,hb];rfl)
 ·have hb:WR p=true:=by unfold WR;rw [show WI p.globals=false by assumption,show WI (QH p)=true by assumption];rfl
  exact QN (by unfold XX;rw [hm,hb];rfl) (by unfold XX;rw [hm,hb];rfl)
 ·have hany:((QH p).any fun s=>mainS==s)=false:=by
   rw [<- q1g];simp;omega
  have hb:WR p=true:=by unfold WR;rw [show WI p.globals=false by assumption,show WI (QH p)=false by assumption,hany];rfl
  exact QN (by unfold XX;rw [hm,hb];rfl) (by unfold XX;rw [hm,hb];rfl)
 have hany:((QH p).any fun s=>mainS==s)=true:=by
  rw [<- q1g];simp;omega
 obtain ⟨k,hk,hik,hfind⟩:=w1u hany;have hlk:(p.procs.map fun f=>AV.agg f.cells)[k]? = some (.agg p.procs[k].cells):=by simp [hk]
 have hpl2:(p.procs[k].params.map fun a=>AV.agg a.cells).length=p.procs[k].params.length:=length_map _;refine IdxK.at hik hlk rfl ?_;conv=>whnf
 repeat' (first|((first|(refine iM fun _=>?_)|refine And.intro rfl ?_|(refine CallK.pure (US p (by omega) (by omega)) (.cons (Sub.refl _) .nil) ?_;rintro _ rfl));conv=>whnf)|(apply bD<;>intro _<;>first|omega|conv=>whnf))
 ·have hb:WR p=true:=by
   unfold WR;rw [show WI p.globals=false by assumption,show WI (QH p)=false by assumption,hany,hfind];have:0<p.procs[k].params.length:=by omega
   simp [this]
  exact QN (by unfold XX;rw [hm,hb];rfl) (by unfold XX;rw [hm,hb];rfl)
 have hb:WR p=false:=by
  unfold WR;rw [show WI p.globals=false by assumption,show WI (QH p)=false by assumption,hany,hfind];have : ¬0<p.procs[k].params.length:=by omega
  simp [this]
 have hsc:XX p=match p.procs.findSome? (VT p) with
  | some a=>(5,a)
  | none=>(0,0):=by unfold XX;rw [hm,hb];rfl
 rw [hsc];refine LoopK.inv QY (fun j:Nat=>⟨[(1,.p (.ip p.cells)),(2,.ptr 1 0),(3,.hd 0 0 (QH p).length),(7,.p (.ip (sheetOf p).cells)),(57,.p (.sl (p.procs.map fun f => .agg f.cells))),(58,.p (.int .i64 (p.procs.map fun f=>AV.agg f.cells).length)),(59,.p (.int .i64 j))],[(0,.own 9 1 ((QH p).map .str)),(1,.obj 117 [.p (.int .i64 0),.p (.int .i64 0)])]⟩)
  (fun j=>j<=p.procs.length∧(p.procs.drop j).findSome? (VT p)=p.procs.findSome? (VT p)) (fun j=>p.procs.length-j) 0 (Le.of_eq rfl) ⟨zero_le _,rfl⟩ ?_
 clear h2 hik hfind hlk hpl2;rintro j ⟨h2,h3⟩;rcases Nat.lt_or_ge j p.procs.length with hj|hj;rotate_left 1
 ·have e:p.procs.findSome? (VT p)=none:=by rw [<- h3,q2e hj]
  rw [e];conv=>whnf
  repeat' (first|(refine And.intro rfl ?_;conv=>whnf)|(apply bD<;>intro _<;>first|omega|conv=>whnf))
  exact QN rfl rfl
 have hfp:=hf.pr (List.getElem_mem hj);have hmp:=YM.1 (x9w hm (List.getElem_mem hj));conv=>whnf
 repeat' (first|((first|(refine iM fun _=>?_)|refine cP (NJ _) ?_|refine And.intro rfl ?_|(refine iA fun _=>?_)|(refine CallK.pure (z9v (p.procs[j]'hj) (by have:=hmp.1;omega) (by have:=hmp.2.1;omega)) (.cons (Sub.refl _) .nil) ?_;rintro _ rfl)|refine cP (WO (x9d (p.procs[j]'hj)) 228 (.ip p.cells) (fun n=>p.globals.any fun s=>n==s) (x0o p)) ?_|(refine CallK.pure (z3r p (f:=p.procs[j]'hj) (by simp) (by omega)) (.cons (Sub.refl _) (.cons (Sub.refl _) .nil)) ?_;rintro _ rfl));conv=>whnf)|(apply bD<;>intro _<;>first|omega|conv=>whnf)|(apply bB<;>intro _<;>conv=>whnf))
 ·have e:VT p p.procs[j]=some 0:=by
   unfold VT;rw [show WI (x9d p.procs[j])=true by assumption];rfl
  have e2:=WC hj e;rw [h3] at e2;rw [e2];exact QN rfl rfl
 ·have e:VT p p.procs[j]=some 0:=by
   unfold VT;rw [show WI (x9d p.procs[j])=false by assumption,show ((x9d p.procs[j]).any fun n=>p.globals.any fun s=>n==s)=true by assumption];rfl
  have e2:=WC hj e;rw [h3] at e2;rw [e2];exact QN rfl rfl
 have hsa:VT p p.procs[j]=((flL p.procs[j].body).find? fun t => !YE p p.procs[j] (QH p) t).map S.id:=by
  unfold VT;rw [show WI (x9d p.procs[j])=false by assumption,show ((x9d p.procs[j]).any fun n=>p.globals.any fun s=>n==s)=false by assumption];rfl
 have hitm : ∀ k (hk:k<(itL (j:Nat) 0 (-1) 0 (QL p.procs j) p.procs[j].body).length),(itL (j:Nat) 0 (-1) 0 (QL p.procs j) p.procs[j].body)[k].s.args.length<=20000:=fun k hk=>z6c hj hfp hk;rw [<- MJ (j:Nat) 0 (-1) 0 (QL p.procs j),<- DR] at hsa;have hib:(itL (j:Nat) 0 (-1) 0 (QL p.procs j) p.procs[j].body).length<=20000:=by
  have:=z0z p.procs[j].body;unfold wPr at hfp;rw [ZF];omega
 generalize hits:itL (j:Nat) 0 (-1) 0 (QL p.procs j) p.procs[j].body=its at hsa hitm hib ⊢;have hil:=WE its;refine LoopK.inv QY (fun k:Nat=>⟨[(1,.p (.ip p.cells)),(2,.ptr 1 0),(3,.hd 0 0 (QH p).length),(7,.p (.ip (sheetOf p).cells)),(9,.p (.ip (p.procs[j]'hj).cells)),(57,.p (.sl (p.procs.map fun f => .agg f.cells))),(58,.p (.int .i64 (p.procs.map fun f=>AV.agg f.cells).length)),(59,.p (.int .i64 j)),(76,.p (VH its)),(77,.p (.int .i64 (its.map fun i=>AV.agg i.cells).length)),(78,.p (.int .i64 k))],[(0,.own 9 1 ((QH p).map .str)),(1,.obj 117 [.p (.int .i64 0),.p (.int .i64 0)])]⟩)
  (fun k=>k<=its.length∧(its.drop k).find? (fun it => !YE p p.procs[j] (QH p) it.s)=its.find? fun it => !YE p p.procs[j] (QH p) it.s) (fun k=>its.length-k) 0 (Le.of_eq rfl) ⟨zero_le _,rfl⟩ ?_
 rintro k ⟨h5,h6⟩;rcases Nat.lt_or_ge k its.length with hk|hk;rotate_left 1
 ·rw [<- h6,DF hk] at hsa;conv=>whnf
  repeat' (first|(refine wI ?_;conv=>whnf)|(apply bD<;>intro _<;>first|omega|conv=>whnf))
  exact ⟨j+1,⟨by omega,by rw [<- h3,q5a hj hsa]⟩,by omega,Le.of_eq rfl⟩
 have hka:=hitm k hk;conv=>whnf
 repeat' (first|((first|refine And.intro rfl ?_|(refine iA fun _=>?_)|refine wI ?_|(refine QI (x7t p p.procs[j] (QH p) its[k].s hka) (.cons (.p (Sub.refl _)) (.cons (.p (Sub.refl _)) (.cons (.hd rfl (by simp)) (.cons (.p (Sub.refl _)) .nil)))) (by rintro _ rfl;rfl) ?_;rintro _ rfl));conv=>whnf)|(apply bD<;>intro _<;>first|omega|conv=>whnf)|(apply bN<;>intro _<;>conv=>whnf))
 ·exact ⟨k+1,⟨by omega,by rw [<- h6,q0k (p:=fun it:Item => !YE p p.procs[j] (QH p) it.s) hk (by simp;assumption)]⟩,by omega,Le.of_eq rfl⟩
 ·have e3:=DP (p:=fun it:Item => !YE p p.procs[j] (QH p) it.s) hk (by simp;assumption);rw [<- h6,e3] at hsa;have e2:=WC hj hsa;rw [h3] at e2;rw [e2];exact QN rfl rfl
def w8k:LV->Option Bool
 | .p .tt=>some true
 | .p .ff=>some false
 | .p (.bool b)=>some b
 | _=>none
theorem z0k {σ:Mem} {β:Lab} {l:LV} {v:Value} {b:Bool} (h:RepL σ β l v) (hb:w8k l=some b):v = .bool b:=by
 cases h with
 | p h=>cases h<;>simp [w8k] at hb<;>subst hb<;>rfl
 | _=>simp [w8k] at hb
theorem DV {P:Program} {T:Tab} {hr:Bool} {s:St} {o:Oper} {K:LV->Prop} (hT:TabOK P T) {t u:TypeId} {x y:Operand} (hop:o.op = .binOp .neq t x y u) {i:TyI} (ht:T.get t=some i) (hd:i.desc = .bool)
  {a b:Bool} (hx:w8k (QR s.sl x)=some a) (hy:w8k (QR s.sl y)=some b) (hK:K (.p (.bool (a != b)))):ValO P hr s o K:=by
 refine ⟨fun σ β ac w hs _=>⟨_,.bool (a != b),hK,.p (.bool _),fun w' _ _ => ?_⟩⟩;have h1:=z0k (QU hs x) hx;have h2:=z0k (QU hs y) hy;have hu:=hT.of ht;rw [hd] at hu;have hg:(eqGuard .neq t x y (.bool a) (.bool b)).run P w' = .ok () w':=by unfold eqGuard;rfl
 have he:(Op.equal t (.bool a) (.bool b)).run P w' = .ok (a==b) w':=by
  have e:Op.equal t (.bool a) (.bool b)=Op.equalIn (9999+1) t (.bool a) (.bool b):=rfl;rw [e,Op.equalIn,Sem.run_bind,run_underlying hu,Result.andThen_ok];rfl
 simp only [execOp,hop,h1,h2,Sem.run_bind,hg,Result.andThen_ok,binOp];simp [he];cases a<;>cases b<;>rfl
def z3n (l:List Param) (args:List Arg):Bool:=decide (l.map Param.ref=args.map Arg.ref)
theorem z4w (l:List Param) (args:List Arg):SpecP Tryz.prog 305 [.sl (l.map fun a => .agg a.cells),z5b args] (fun r=>r = .bool (z3n l args)):=by
 refine sB x6q Tryz.func305 rfl Tryz.call305 ?_;conv=>whnf
 repeat' (first|(refine iM fun _=>?_;conv=>whnf)|(apply bE<;>intro _<;>first|omega|conv=>whnf))
 all_goals
  have hl:(l.map fun a=>AV.agg a.cells).length=l.length:=length_map _;have hl2:(args.map fun a=>AV.agg a.cells).length=args.length:=length_map _
 ·have hlen:l.length=args.length:=by omega
  refine LoopK.inv QY (fun j:Nat=>⟨[(1,.p (z5b args)),(12,.p (.sl (l.map fun a => .agg a.cells))),(13,.p (.int .i64 (l.map fun a=>AV.agg a.cells).length)),(14,.p (.int .i64 j))],[]⟩) (fun j=>j<=l.length∧(l.map Param.ref).take j=(args.map Arg.ref).take j) (fun j=>l.length-j) 0 (Le.of_eq rfl) ⟨zero_le _,rfl⟩ ?_;rintro j ⟨h2,h3⟩;rcases Nat.lt_or_ge j l.length with hj|hj
  ·conv=>whnf
   repeat' (first|((first|refine dA ?_|refine And.intro rfl ?_|(refine iA fun _=>?_)|refine wI ?_|refine DV QY rfl rfl rfl rfl rfl ?_);conv=>whnf)|(apply bD<;>intro _<;>first|omega|conv=>whnf)|(apply bE<;>intro _<;>first|omega|conv=>whnf))
   ·have hne:l[j].ref=(args[j]'(by omega)).ref:=by assumption
    exact ⟨j+1,⟨by omega,by
     rw [List.take_succ_eq_append_getElem (by simp;omega),List.take_succ_eq_append_getElem (by simp;omega),h3];simp [hne]⟩,by omega,Le.of_eq rfl⟩
   ·have hne : ¬l[j].ref=(args[j]'(by omega)).ref:=by assumption
    exact RetK.ff (by
     unfold z3n;rw [decide_eq_false_iff_not];intro he;have:(l.map Param.ref)[j]? = (args.map Arg.ref)[j]? := by rw [he]
     rw [List.getElem?_map,List.getElem?_map,List.getElem?_eq_getElem hj,List.getElem?_eq_getElem (by omega)] at this;simp at this;exact hne this)
  ·conv=>whnf
   repeat' (apply bD<;>intro _<;>first|omega|conv=>whnf)
   exact RetK.tt (by
    unfold z3n;rw [decide_eq_true_eq]
    rwa [take_of_length_le (by simp;omega),take_of_length_le (by simp;omega)] at h3)
 ·exact RetK.ff (by
   unfold z3n;rw [decide_eq_false_iff_not];intro he;have:=congrArg List.length he;simp at this;omega)
def FX (p:Pg) (s:S):Bool:=decide (s.kind=4)&&match p.procs.find? (fun f=>f.name==s.proc) with
 | some f=>z3n f.params s.args
 | none=>false
theorem z3k (p:Pg) (s:S):SpecP Tryz.prog 231 [.agg p.cells,.agg s.cells] (fun r=>r = .bool (FX p s)):=by
 refine sB x5d Tryz.func231 rfl Tryz.call231 ?_;conv=>whnf
 repeat' (first|(refine iM fun _=>?_;conv=>whnf)|(apply bE<;>intro _<;>first|omega|conv=>whnf))
 ·have hl:(p.procs.map fun f=>AV.agg f.cells).length=p.procs.length:=length_map _;refine LoopK.inv QY (fun j:Nat=>⟨[(3,.p (.ip s.cells)),(11,.p (.sl (p.procs.map fun f => .agg f.cells))),(12,.p (.int .i64 (p.procs.map fun f=>AV.agg f.cells).length)),(13,.p (.int .i64 j))],[]⟩) (fun j=>j<=p.procs.length∧(p.procs.drop j).find? (fun f=>f.name==s.proc)=p.procs.find? (fun f=>f.name==s.proc)) (fun j=>p.procs.length-j) 0 (Le.of_eq rfl) ⟨zero_le _,rfl⟩ ?_;rintro j ⟨h2,h3⟩;conv=>whnf
  repeat' (first|((first|refine cP (z4w _ _) ?_|refine And.intro rfl ?_|(refine iA fun _=>?_)|refine wI ?_);conv=>whnf)|(apply bD<;>intro _<;>first|omega|conv=>whnf)|(apply bB<;>intro _<;>conv=>whnf))
  ·have e:=DP (p:=fun f:Pr=>f.name==s.proc) (l:=p.procs) (j:=j) (by omega) (by assumption);rw [h3] at e;exact RetK.bool (by unfold FX;rw [e];simp [*])
  ·exact ⟨j+1,⟨by omega,by rw [<- h3,q0k (p:=fun f:Pr=>f.name==s.proc) (by omega) (by assumption)]⟩,by omega,Le.of_eq rfl⟩
  ·have e:p.procs.find? (fun f=>f.name==s.proc)=none:=by rw [<- h3,DF (by omega)]
   exact RetK.ff (by unfold FX;rw [e];simp)
 ·exact RetK.ff (by unfold FX;simp [*])
def VA (p:Pg):List S:=p.procs.flatMap fun f=>flL f.body
theorem w3f : ∀ (l:List Pr) (i:Nat) (acc:List Item) (lo hi:List Int),(q7p i acc lo hi l).1.map Item.s=acc.map Item.s++l.flatMap fun f=>flL f.body
 | [],i,acc,lo,hi=>by rw [q7p];simp
 | f::r,i,acc,lo,hi=>by
   rw [q7p,w3f r,LL,List.map_append,MJ,List.flatMap_cons,List.append_assoc]
theorem GO (p:Pg):(sheetOf p).l.map Item.s=VA p:=by
 have:=w3f p.procs 0 [] [] [];unfold sheetOf VA;simpa using this
theorem z3o {p:Pg} (hf:Fit p) {k:Nat} (hk:k<(sheetOf p).l.length):wS (sheetOf p).l[k].s<=20000:=by
 have hm:(sheetOf p).l[k].s∈VA p:=by
  rw [<- GO];exact List.mem_map.2 ⟨_,List.getElem_mem hk,rfl⟩
 unfold VA at hm;obtain ⟨f,h1,h2⟩:=List.mem_flatMap.1 hm;have h3:=x8g _ _ h2;have h4:=hf.pr h1;unfold wPr at h4;omega
def UZ (p:Pg):Int×Int :=
 if (XX p).1≠0 then (1,0) else match (VA p).find? fun t=>decide (t.kind=4) && !FX p t with
  | some t=>(6,t.id)
  | none=>(0,0)
theorem GD {p:Pg} (h:(XX p).1=0):YS p=true∧WR p=false∧p.procs.findSome? (VT p)=none:=by
 unfold XX at h;cases hm:YS p<;>rw [hm] at h
 ·cases h
 cases hb:WR p<;>rw [hb] at h
 ·refine ⟨rfl,rfl,?_⟩;simp only [cond_true,cond_false] at h;split at h
  ·cases h
  ·assumption
 ·cases h
theorem q5g (p:Pg) (hf:Fit p):SpecP Tryz.prog 146 [.agg p.cells] (fun r=>r=q9t (UZ p).1 (UZ p).2):=by
 refine sB x2r Tryz.func146 rfl Tryz.call146 ?_;conv=>whnf
 repeat' (first|((first|refine cP (YN p hf) ?_|refine And.intro rfl ?_);conv=>whnf)|(apply bE<;>intro _<;>first|omega|conv=>whnf))
 rotate_left 1
 ·have e:UZ p=(1,0):=by unfold UZ;rw [if_pos (by assumption)]
  exact QN (by rw [e]) (by rw [e])
 have hs:(XX p).1=0:=by assumption
 obtain ⟨hm,hb,hns⟩:=GD hs;obtain ⟨hg,hpl,hcn⟩:=WD hm;have hA:UZ p=match (VA p).find? fun t=>decide (t.kind=4) && !FX p t with
  | some t=>(6,t.id)
  | none=>(0,0):=by unfold UZ;rw [if_neg (by omega)]
 repeat' ((first|(refine iM fun _=>?_)|(refine CallK.pure (US p (by omega) (by omega)) (.cons (Sub.refl _) .nil) ?_;rintro _ rfl));conv=>whnf)
 have hil:=WE (sheetOf p).l;have hib:(sheetOf p).l.length<=200:=by have:=(QJ p).2.2.2.1;omega
 have hfi:=DR (q:=fun t=>decide (t.kind=4) && !FX p t) (sheetOf p).l;rw [GO] at hfi;have hA2:UZ p=match ((sheetOf p).l.find? fun it=>decide (it.s.kind=4) && !FX p it.s).map (fun it=>it.s.id) with
  | some a=>(6,a)
  | none=>(0,0):=by
  rw [hA,hfi];cases (VA p).find? fun t=>decide (t.kind=4) && !FX p t<;>rfl
 rw [hA2];refine LoopK.inv QY (fun k:Nat=>⟨[(1,.p (.ip p.cells)),(2,.ptr 1 0),(14,.p (VH (sheetOf p).l)),(15,.p (.int .i64 ((sheetOf p).l.map fun i=>AV.agg i.cells).length)),(16,.p (.int .i64 k))],[(1,.obj 117 [.p (.int .i64 0),.p (.int .i64 0)])]⟩)
  (fun k=>k<=(sheetOf p).l.length∧((sheetOf p).l.drop k).find? (fun it=>decide (it.s.kind=4) && !FX p it.s)=(sheetOf p).l.find? fun it=>decide (it.s.kind=4) && !FX p it.s) (fun k=>(sheetOf p).l.length-k) 0 (Le.of_eq rfl) ⟨zero_le _,rfl⟩ ?_
 rintro k ⟨h5,h6⟩;rcases Nat.lt_or_ge k (sheetOf p).l.length with hk|hk;rotate_left 1
 ·rw [<- h6,DF hk];conv=>whnf
  repeat' (first|(refine And.intro rfl ?_;conv=>whnf)|(apply bD<;>intro _<;>first|omega|conv=>whnf))
  exact QN rfl rfl
 conv=>whnf
 repeat' (first|((first|refine cP (z3k _ _) ?_|refine And.intro rfl ?_|(refine iA fun _=>?_)|refine wI ?_);conv=>whnf)|(apply bD<;>intro _<;>first|omega|conv=>whnf)|(apply bN<;>intro _<;>conv=>whnf))
 all_goals first
  | (have e3:=DP (p:=fun it:Item=>decide (it.s.kind=4) && !FX p it.s) hk (by simp [*])
     rw [<- h6,e3];exact QN rfl rfl)
  | exact ⟨k+1,⟨by omega,by rw [<- h6,q0k (p:=fun it:Item=>decide (it.s.kind=4) && !FX p it.s) hk (by simp [*])]⟩,by omega,Le.of_eq rfl⟩
def YD:List Str->List Str->Option (List Str)
 | seen,[]=>some seen
 | seen,n::r=>bif seen.any (fun s=>n==s) then none else YD (seen++[n]) r
theorem w0r {seen l:List Str} {j:Nat} (hj:j<l.length) (h:(seen.any fun s=>l[j]==s)=true):YD seen (l.drop j)=none:=by
 rw [QG hj,YD,h];rfl
theorem z6b {seen l:List Str} {j:Nat} (hj:j<l.length) (h:(seen.any fun s=>l[j]==s)=false):YD seen (l.drop j)=YD (seen++[l[j]]) (l.drop (j+1)):=by
 rw [QG hj,YD,h];rfl
theorem x5a : ∀ {l seen out:List Str},YD seen l=some out->out=seen++l
 | [],seen,out,h=>by rw [YD] at h;cases h;simp
 | n::r,seen,out,h=>by
   rw [YD] at h;cases hc:(seen.any fun s=>n==s)<;>rw [hc] at h
   ·have:=x5a h;simpa using this
   ·cases h
def z6s (t:Nat) (seen l:List Str) (r:LV) (H:Heap):Prop :=
 match YD seen l with
 | some out=>r = .tup [.hd 2000 0 out.length,.p .tt]∧H=x1c t out
 | none => ∃ out,r = .tup [.hd 2000 0 out.length,.p .ff]∧H=x1c t out
theorem q7g {t:Nat} {seen l:List Str} {Q:LV->Heap->Prop} (h1:YD seen l=some (seen++l)->Q (.tup [.hd 2000 0 (seen++l).length,.p .tt]) (x1c t (seen++l)))
  (h2:YD seen l=none -> ∀ out,Q (.tup [.hd 2000 0 out.length,.p .ff]) (x1c t out)) : ∀ l' H',z6s t seen l l' H'->Q l' H':=by
 intro l' H' h;unfold z6s at h;cases hr:YD seen l with
 | some out =>
   rw [hr] at h;obtain ⟨rfl,rfl⟩:=h;have:=x5a hr;subst this;exact h1 hr
 | none =>
   rw [hr] at h;obtain ⟨out,rfl,rfl⟩:=h;exact h2 hr out
theorem x5r (seen l:List Str) (hlen:seen.length+l.length<=1000000000) :
  SpecH Tryz.prog 233 [.hd 2000 0 seen.length,.p (eStrs l)] (x1c 9 seen) (z6s 9 seen l):=by
 refine sH x7n Tryz.func233 rfl Tryz.call233 ?_;conv=>whnf
 repeat' (refine iM fun _=>?_;conv=>whnf)
 have hl:(l.map AV.str).length=l.length:=length_map _;refine LoopK.inv QY (fun i:Nat×List Str=>⟨[(0,.hd 2000 0 i.2.length),(8,.p (eStrs l)),(9,.p (.int .i64 (l.map AV.str).length)),(10,.p (.int .i64 i.1))],x1c 9 i.2⟩) (fun i=>i.1<=l.length∧i.2.length+(l.length-i.1)=seen.length+l.length∧YD i.2 (l.drop i.1)=YD seen l) (fun i=>l.length-i.1) (0,seen) (Le.of_eq rfl) ⟨zero_le _,by simp,rfl⟩ ?_;rintro ⟨j,acc⟩ ⟨h2,h3,h4⟩;simp only at h2 h3 h4 ⊢;rcases Nat.lt_or_ge j l.length with hj|hj
 ·conv=>whnf
  repeat' (first|((first|refine And.intro rfl ?_|refine aD ?_|refine bP ?_|(refine iA fun _=>?_)|refine wI ?_|(refine QI (QZ acc (l[j]'hj)) (.cons (.hd rfl (by simp)) (.cons (.p (Sub.refl _)) .nil)) (by rintro _ rfl;rfl) ?_;rintro _ rfl)|refine QC (by simp) (by simp;omega) ?_);conv=>whnf)|(apply bD<;>intro _<;>first|omega|conv=>whnf)|(apply bB<;>intro _<;>conv=>whnf))
  ·exact ⟨_,.refl _,by unfold z6s;rw [<- h4,w0r hj (by assumption)];exact ⟨acc,rfl,rfl⟩⟩
  ·exact ⟨(j+1,acc++[l[j]]),⟨by simp only;omega,by simp;omega,by simp only;rw [<- h4,z6b hj (by assumption)]⟩,by simp only;omega,Le.of_eq (by simp only [x1c,length_append,List.map_append];rfl)⟩
 ·conv=>whnf
  repeat' (apply bD<;>intro _<;>first|omega|conv=>whnf)
  rw [drop_eq_nil_of_le hj,YD] at h4;exact ⟨_,.refl _,by unfold z6s;rw [<- h4];exact ⟨rfl,rfl⟩⟩
def atB (f:Pr) (label:Str):Int×Bool :=
 match (flL f.body).find? fun t=>t.labels.any fun s=>label==s with
 | some t=>(t.id,true)
 | none=>bif f.fin.any fun s=>label==s then (-1,true) else (0,false)
theorem RetK.tup2 {H:Heap} {k:IntKind} {m n:Int} {x:AV} {b:Bool} (h:m=n) (hb:Sub x (.bool b)):RetK H (.p (.tup [.int k m,x])) (fun r=>r = .tup [.int k n,.bool b]) :=
 ⟨_,.p (Sub.tup (SubL.cons (Sub.int h) (SubL.cons hb SubL.nil))),rfl⟩
theorem LC (p:Pg) (j:Nat) (f:Pr) (hj:p.procs[j]? = some f) (hc:cntP p.procs<=1000) (label:Str):SpecP Tryz.prog 220 [.ip (sheetOf p).cells,.int .i64 j,.str label] (fun r=>r = .tup [.int .i64 (atB f label).1,.bool (atB f label).2]):=by
 refine sB q6q Tryz.func220 rfl Tryz.call220 ?_;conv=>whnf
 repeat' ((first|(refine iM fun _=>?_)|refine cP (z3r p hj hc) ?_);conv=>whnf)
 have hfi:=DR (q:=fun t=>t.labels.any fun s=>label==s) (itL (j:Nat) 0 (-1) 0 (QL p.procs j) f.body);rw [MJ] at hfi;have hib:(itL (j:Nat) 0 (-1) 0 (QL p.procs j) f.body).length<=1000:=by
  have:=(QJ p).2.2.2.2 j f hj;rw [ZF];omega
 generalize hits:itL (j:Nat) 0 (-1) 0 (QL p.procs j) f.body=its at hfi hib ⊢;have hil:=WE its;have hat:atB f label=match (its.find? fun it=>it.s.labels.any fun s=>label==s).map (fun it=>it.s.id) with
  | some a=>(a,true)
  | none=>bif f.fin.any fun s=>label==s then (-1,true) else (0,false):=by
  unfold atB;rw [hfi];cases (flL f.body).find? fun t=>t.labels.any fun s=>label==s<;>rfl
 rw [hat];refine LoopK.inv QY (fun k:Nat=>⟨[(0,.p (.ip (sheetOf p).cells)),(1,.p (.int .i64 j)),(2,.p (.str label)),(12,.p (VH its)),(13,.p (.int .i64 (its.map fun i=>AV.agg i.cells).length)),(14,.p (.int .i64 k))],[]⟩)
  (fun k=>k<=its.length∧(its.drop k).find? (fun it=>it.s.labels.any fun s=>label==s)=its.find? fun it=>it.s.labels.any fun s=>label==s) (fun k=>its.length-k) 0 (Le.of_eq rfl) ⟨zero_le _,rfl⟩ ?_
 rintro k ⟨h5,h6⟩;rcases Nat.lt_or_ge k its.length with hk|hk
 ·conv=>whnf
  repeat' (first|((first|refine cP (QZ _ _) ?_|refine And.intro rfl ?_|(refine iA fun _=>?_)|refine wI ?_);conv=>whnf)|(apply bD<;>intro _<;>first|omega|conv=>whnf)|(apply bB<;>intro _<;>conv=>whnf))
  ·have e3:=DP (p:=fun it:Item=>it.s.labels.any fun s=>label==s) hk (by assumption);rw [<- h6,e3];exact RetK.tup2 rfl (Sub.tt rfl)
  ·exact ⟨k+1,⟨by omega,by rw [<- h6,q0k (p:=fun it:Item=>it.s.labels.any fun s=>label==s) hk (by assumption)]⟩,by omega,Le.of_eq rfl⟩
 ·rw [<- h6,DF hk];have hpj:(p.procs.map fun f=>AV.agg f.cells)[j]? = some (.agg f.cells):=by simp [hj]
  conv=>whnf
  repeat' (first|((first|refine cP (QZ _ _) ?_|(refine IdxK.at rfl hpj rfl ?_));conv=>whnf)|(apply bD<;>intro _<;>first|omega|conv=>whnf)|(apply bB<;>intro _<;>conv=>whnf))
  ·exact RetK.tup2 (by simp [*]) (Sub.tt (by simp [*]))
  ·exact RetK.tup2 (by simp [*]) (Sub.ff (by simp [*]))
def JX (f:Pr) (it:Item):Bool:=if it.s.kind=7∨it.s.kind=8 then !(it.loop==0) else if it.s.kind=10 then (atB f it.s.name).2 else true
theorem z4y (p:Pg) (j:Nat) (f:Pr) (hj:p.procs[j]? = some f) (hc:cntP p.procs<=1000) (it:Item) (hp:it.proc=j):SpecP Tryz.prog 234 [.ip (sheetOf p).cells,.agg it.cells] (fun r=>r = .bool (JX f it)):=by
 refine sB x5w Tryz.func234 rfl Tryz.call234 ?_;conv=>whnf
 repeat' (first|(refine CallK.pure (LC p j f hj hc it.s.name) (.cons (Sub.refl _) (.cons (Sub.int hp) (.cons (Sub.refl _) .nil))) ?_;rintro _ rfl;conv=>whnf)|(apply bD<;>intro _<;>first|omega|conv=>whnf))
 all_goals first
  | exact RetK.bool (by simp [JX, *];rfl)
  | exact RetK.bool (by simp [JX, *])
  | exact RetK.tt (by simp [JX, *])
theorem z2m (p:Pg) (hf:Fit p) (h:(XX p).1=0):SpecP Tryz.prog 232 [.agg p.cells] (fun r=>r = .ip (sheetOf p).cells):=by
 refine sB q2l Tryz.func232 rfl Tryz.call232 ?_;conv=>whnf
 obtain ⟨hm,hb,hns⟩:=GD h;obtain ⟨hg,hpl,hcn⟩:=WD hm;repeat' (first|((first|refine cP (YN p hf) ?_|(refine CallK.pure (US p (by omega) (by omega)) (.cons (Sub.refl _) .nil) ?_;rintro _ rfl));conv=>whnf)|(apply bE<;>intro _<;>first|omega|conv=>whnf))
 exact RetK.p rfl
theorem x1o (p:Pg) (hf:Fit p) (h:(XX p).1≠0):SpecP Tryz.prog 232 [.agg p.cells] (fun r=>r = .nilp):=by
 refine sB q2l Tryz.func232 rfl Tryz.call232 ?_;conv=>whnf
 repeat' (first|(refine cP (YN p hf) ?_;conv=>whnf)|(apply bE<;>intro _<;>first|omega|conv=>whnf))
 exact RetK.p rfl
mutual
theorem w1s (proc up nx loop:Int) (n:Nat) : ∀ (t:S) (it:Item),it∈itS proc up nx loop n t->it.proc=proc
 | .mk id kind labels name pr x has args thn els,it,h=>by
   rw [itS] at h;rcases List.mem_cons.1 h with rfl|h
   ·rfl
   ·rcases List.mem_append.1 h with h|h
    ·exact NO _ _ _ _ _ thn it h
    ·exact NO _ _ _ _ _ els it h
theorem NO (proc up nx loop:Int) (n:Nat) : ∀ (l:List S) (it:Item),it∈itL proc up nx loop n l->it.proc=proc
 | [],it,h=>by rw [itL] at h;cases h
 | t::r,it,h=>by
   rw [itL] at h;rcases List.mem_append.1 h with h|h
   ·exact w1s _ _ _ _ _ t it h
   ·exact NO _ _ _ _ _ r it h
end
def BY (f:Pr):List Item->List Str->Except Int (List Str)
 | [],seen => .ok seen
 | it::r,seen=>match YD seen it.s.labels with
   | none => .error it.s.id
   | some s=>bif JX f it then BY f r s else .error it.s.id
def JW (p:Pg) (j:Nat):Option Int :=
 match p.procs[j]? with
 | none=>none
 | some f=>match BY f (itL (j:Nat) 0 (-1) 0 (QL p.procs j) f.body) [] with
   | .error id=>some id
   | .ok seen=>match YD seen f.fin with
     | none=>some 0
     | some _=>none
def q3m (p:Pg):Int×Int :=
 if (XX p).1≠0 then (1,0) else match (List.range p.procs.length).findSome? (JW p) with
  | some a=>(7,a)
  | none=>(0,0)
theorem w1m {f:Pr} {its:List Item} {seen:List Str} {k:Nat} (hk:k<its.length) (h:YD seen its[k].s.labels=none):BY f (its.drop k) seen = .error its[k].s.id:=by
 rw [QG hk,BY,h]
theorem z6k {f:Pr} {its:List Item} {seen s:List Str} {k:Nat} (hk:k<its.length) (h:YD seen its[k].s.labels=some s) (hl:JX f its[k]=false):BY f (its.drop k) seen = .error its[k].s.id:=by
 rw [QG hk,BY,h];simp only [hl,cond_false]
theorem z6i {f:Pr} {its:List Item} {seen s:List Str} {k:Nat} (hk:k<its.length) (h:YD seen its[k].s.labels=some s) (hl:JX f its[k]=true):BY f (its.drop k) seen=BY f (its.drop (k+1)) s:=by
 rw [QG hk,BY,h];simp only [hl,cond_true]
theorem x7d {l:List Pr} {j:Nat} (hj:j<l.length) (h:wPr l[j]<=20000) {a b c d:Int} {n k:Nat} (hk:k<(itL a b c d n l[j].body).length):(itL a b c d n l[j].body)[k].s.labels.length<=20000:=by
 have hm:(itL a b c d n l[j].body)[k].s∈flL l[j].body:=by
  rw [<- MJ a b c d n];exact List.mem_map.2 ⟨_,List.getElem_mem hk,rfl⟩
 have h1:=x8g _ _ hm;have h2:=z5q (itL a b c d n l[j].body)[k].s;have h3:=x1v (itL a b c d n l[j].body)[k].s.labels;unfold wPr at h;omega
theorem z2l (p:Pg) (hf:Fit p):SpecP Tryz.prog 147 [.agg p.cells] (fun r=>r=q9t (q3m p).1 (q3m p).2):=by
 refine sB x5n Tryz.func147 rfl Tryz.call147 ?_;conv=>whnf
 rcases Decidable.em ((XX p).1=0) with hs|hs;rotate_left 1
 ·
  repeat' ((first|refine cP (x1o p hf hs) ?_|refine And.intro rfl ?_);conv=>whnf)
  have e:q3m p=(1,0):=by unfold q3m;rw [if_pos hs]
  exact QN (by rw [e]) (by rw [e])
 obtain ⟨hm,hb,hns⟩:=GD hs;obtain ⟨hg,hpl,hcn⟩:=WD hm;have hJ:q3m p=match (List.range p.procs.length).findSome? (JW p) with
  | some a=>(7,a)
  | none=>(0,0):=by unfold q3m;rw [if_neg (by omega)]
 rw [hJ];have hl:(p.procs.map fun f=>AV.agg f.cells).length=p.procs.length:=length_map _;repeat' ((first|(refine iM fun _=>?_)|refine cP (z2m p hf hs) ?_);conv=>whnf)
 refine LoopK.inv QY (fun j:Nat=>⟨[(2,.ptr 1 0),(3,.p (.ip (sheetOf p).cells)),(16,.p (.sl (p.procs.map fun f => .agg f.cells))),(17,.p (.int .i64 (p.procs.map fun f=>AV.agg f.cells).length)),(18,.p (.int .i64 j))],[(1,.obj 117 [.p (.int .i64 0),.p (.int .i64 0)])]⟩)
  (fun j=>j<=p.procs.length∧((List.range p.procs.length).drop j).findSome? (JW p)=(List.range p.procs.length).findSome? (JW p)) (fun j=>p.procs.length-j) 0 (Le.of_eq rfl) ⟨zero_le _,rfl⟩ ?_
 rintro j ⟨h2,h3⟩;rcases Nat.lt_or_ge j p.procs.length with hj|hj;rotate_left 1
 ·have e:(List.range p.procs.length).findSome? (JW p)=none:=by rw [<- h3,q2e (by simpa using hj)]
  rw [e];conv=>whnf
  repeat' (first|(refine And.intro rfl ?_;conv=>whnf)|(apply bD<;>intro _<;>first|omega|conv=>whnf))
  exact QN rfl rfl
 have hfp:=hf.pr (List.getElem_mem hj);have hjr:j<(List.range p.procs.length).length:=by simpa using hj
 have hrj:(List.range p.procs.length)[j]=j:=by simp
 have hpj:p.procs[j]? = some p.procs[j]:=by simp [hj]
 conv=>whnf
 repeat' (first|((first|(refine iM fun _=>?_)|refine And.intro rfl ?_|(refine iA fun _=>?_)|(refine CallK.pure (z3r p (f:=p.procs[j]'hj) hpj (by omega)) (.cons (Sub.refl _) (.cons (Sub.refl _) .nil)) ?_;rintro _ rfl));conv=>whnf)|(apply bD<;>intro _<;>first|omega|conv=>whnf))
 have hlab : ∀ k (hk:k<(itL (j:Nat) 0 (-1) 0 (QL p.procs j) p.procs[j].body).length),(itL (j:Nat) 0 (-1) 0 (QL p.procs j) p.procs[j].body)[k].s.labels.length<=20000:=fun k hk=>x7d hj hfp hk;have hprc : ∀ k (hk:k<(itL (j:Nat) 0 (-1) 0 (QL p.procs j) p.procs[j].body).length),(itL (j:Nat) 0 (-1) 0 (QL p.procs j) p.procs[j].body)[k].proc=j:=fun k hk=>NO _ _ _ _ _ _ _ (List.getElem_mem hk);have hib:(itL (j:Nat) 0 (-1) 0 (QL p.procs j) p.procs[j].body).length<=200:=by
  have:=(QJ p).2.2.2.2 j _ hpj;rw [ZF];omega
 have hja:JW p j=match BY p.procs[j] (itL (j:Nat) 0 (-1) 0 (QL p.procs j) p.procs[j].body) [] with
  | .error id=>some id
  | .ok seen=>match YD seen p.procs[j].fin with
    | none=>some 0
    | some _=>none:=by
  unfold JW;rw [hpj]
 generalize hits:itL (j:Nat) 0 (-1) 0 (QL p.procs j) p.procs[j].body=its at hlab hprc hib hja ⊢;have hil:=WE its;refine LoopK.inv QY (fun i:Nat×List Str=>⟨[(2,.ptr 1 0),(3,.p (.ip (sheetOf p).cells)),(5,.p (.ip (p.procs[j]'hj).cells)),(6,.hd 0 0 i.2.length),(16,.p (.sl (p.procs.map fun f => .agg f.cells))),(17,.p (.int .i64 (p.procs.map fun f=>AV.agg f.cells).length)),(18,.p (.int .i64 j)),(25,.p (VH its)),(26,.p (.int .i64 (its.map fun i=>AV.agg i.cells).length)),(27,.p (.int .i64 i.1))],[(0,.own 9 1 (i.2.map .str)),(1,.obj 117 [.p (.int .i64 0),.p (.int .i64 0)])]⟩)
  (fun i=>i.1<=its.length∧i.2.length<=20000*i.1∧BY p.procs[j] (its.drop i.1) i.2=BY p.procs[j] its []) (fun i=>its.length-i.1) (0,[])
  (Le.mk [(0,.own 9 1 [])] (by simp [Chunk.new0];rfl) (by simp) (by simp) (.cons (.refl _) (.cons (.refl _) (.cons (.refl _) (.cons (.nil mem_cons_self) (.cons (.refl _) (.cons (.refl _) (.cons (.refl _) (.cons (.refl _) (.cons (.refl _) (.cons (.refl _) .nil)))))))))) (.new mem_cons_self (.cons rfl (.refl _) .nil)))
  ⟨zero_le _,by simp,rfl⟩ ?_
 rintro ⟨k,acc⟩ ⟨h5,h6,h7⟩;simp only at h5 h6 h7 ⊢;rcases Nat.lt_or_ge k its.length with hk|hk
 ·have hlk:=hlab k hk;conv=>whnf
  repeat' (first|((first|refine And.intro rfl ?_|(refine iA fun _=>?_)|refine wI ?_|(refine CallK.pure (z4y p j p.procs[j] hpj (by omega) its[k] (hprc k hk)) (.cons (Sub.refl _) (.cons (Sub.refl _) .nil)) ?_;rintro _ rfl));conv=>whnf)|(apply bD<;>intro _<;>first|omega|conv=>whnf)|(apply bN<;>intro _<;>conv=>whnf)|(refine CallK.heap [(2000,0)] 0 (by repeat' (first|exact ArgsH.nil|refine ArgsH.cons ?_ ?_|exact LSub.refl _|exact LSub.p Sub.nils|exact LSub.p (Sub.tt rfl)|exact LSub.p (Sub.ff rfl)|exact LSub.p (Sub.int (by omega)))) (by refine BlksH.cons (j:=0) rfl rfl ?_ ?_;exact CSub.refl _;exact BlksH.nil) (x5r acc its[k].s.labels (by omega)) rfl rfl (q7g (fun hjo => ?_) (fun hjo out => ?_))<;>conv=>whnf))
  ·exact ⟨(k+1,acc++its[k].s.labels),⟨by simp only;omega,by simp;omega,by simp only;rw [<- h7,z6i hk hjo (by assumption)]⟩,by simp only;omega,Le.of_eq rfl⟩
  ·rw [<- h7,z6k hk hjo (by assumption)] at hja;have e2:=WC (f:=JW p) hjr (by rw [hrj];exact hja);rw [h3] at e2;rw [e2];exact QN rfl rfl
  ·rw [<- h7,w1m hk hjo] at hja;have e2:=WC (f:=JW p) hjr (by rw [hrj];exact hja);rw [h3] at e2;rw [e2];exact QN rfl rfl
 ·have hfin:p.procs[j].fin.length<=20000:=by
   have:=x1v p.procs[j].fin;unfold wPr at hfp;omega
  rw [drop_eq_nil_of_le hk,BY] at h7;rw [<- h7] at hja;simp only at hja;conv=>whnf
  repeat' (first|((first|refine And.intro rfl ?_|refine wI ?_);conv=>whnf)|(apply bD<;>intro _<;>first|omega|conv=>whnf)|(refine CallK.heap [(2000,0)] 0 (by repeat' (first|exact ArgsH.nil|refine ArgsH.cons ?_ ?_|exact LSub.refl _|exact LSub.p Sub.nils|exact LSub.p (Sub.tt rfl)|exact LSub.p (Sub.ff rfl)|exact LSub.p (Sub.int (by omega)))) (by refine BlksH.cons (j:=0) rfl rfl ?_ ?_;exact CSub.refl _;exact BlksH.nil) (x5r acc p.procs[j].fin (by omega)) rfl rfl (q7g (fun hjo => ?_) (fun hjo out => ?_))<;>conv=>whnf))
  ·rw [hjo] at hja;exact ⟨j+1,⟨by omega,by rw [<- h3,q5a (f:=JW p) hjr (by rw [hrj];exact hja)]⟩,by omega,Le.of_eq rfl⟩
  ·rw [hjo] at hja;have e2:=WC (f:=JW p) hjr (by rw [hrj];exact hja);rw [h3] at e2;rw [e2];exact QN rfl rfl
theorem YT {es:List AV} {sz:Nat} {out:List LV} {Kp Ko:Prop} (hx:(es.all fun x=>x.cells.length==sz)=true) (ho:out=(es.flatMap AV.cells).map .p) (hK:Kp):BsK es sz out Kp Ko := .pure (fun x h=>by simpa using List.all_eq_true.1 hx x h) ho hK
end Go.Ab
