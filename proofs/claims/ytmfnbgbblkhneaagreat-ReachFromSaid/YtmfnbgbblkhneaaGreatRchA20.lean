/- The library's contracts at this seat's program, in plain words (printed by the kit's lay-plain.mjs). Conditions: none. -/
import Derived.Shelf.Sort.Plain
import Derived.Shelf.Slices.In.SortNone
import Derived.Shelf.Slices.CompactS
import Derived.Ground.Names2Prog
import Derived.Shelf.Slices.SearchI
import Derived.Shelf.Slices.Empties
import Derived.Shelf.Spec.SlicesInsert
import Derived.Shelf.Spec.SlicesInsertGrow
import Derived.Shelf.SlSortCmp.NoneTotal
import Derived.Ground.SlsfProg
import Derived.Test.YtmfnbgbblkhneaaGreatProg
import Derived.Test.YtmfnbgbblkhneaaGreatRchA8
import Derived.Test.YtmfnbgbblkhneaaGreatRchA9
import Derived.Test.YtmfnbgbblkhneaaGreatRchA13
import Derived.Test.YtmfnbgbblkhneaaGreatRchA14
import Derived.Test.YtmfnbgbblkhneaaGreatRchA15
import Derived.Test.YtmfnbgbblkhneaaGreatRchA16
import Derived.Test.YtmfnbgbblkhneaaGreatRchA17
import Derived.Test.YtmfnbgbblkhneaaGreatRchA18
import Derived.Test.YtmfnbgbblkhneaaGreatRchA19
set_option linter.unusedSimpArgs false
set_option linter.unusedVariables false
set_option maxRecDepth 100000
set_option maxHeartbeats 16000000
namespace Go.Proofs
open Go.Shelf
def Tryz.laysG_ren:Go.Shelf.Ren:=⟨fun|6=>100|15=>160|14=>159|28=>209|29=>210|20=>201|21=>202|22=>203|23=>204|24=>205|25=>206|26=>207|27=>208|46=>241|47=>242|48=>243|49=>244|50=>245|57=>268|n=>n,fun|22=>97|24=>99|25=>161|3=>3|39=>216|0=>0|53=>253|55=>255|4=>4|46=>247|45=>246|50=>181|5=>5|9=>9|66=>274|70=>278|76=>293|77=>60|n=>n,fun|n=>n⟩
theorem Yr:Go.Proofs.SlLaysF0.n6 Tryz.prog Tryz.laysG_ren:={
 mixed:=by kernel_rfl
 f6:=⟨Tryz.f100.name,by decide,Tryz.func100.trans (congrArg some (by kernel_rfl))⟩
 f14:=⟨Tryz.f159.name,by decide,Tryz.func159.trans (congrArg some (by kernel_rfl))⟩
 f15:=Tryz.func160.trans (congrArg some (by kernel_rfl))
 f20:=⟨Tryz.f201.name,by decide,Tryz.func201.trans (congrArg some (by kernel_rfl))⟩
 f21:=⟨Tryz.f202.name,by decide,Tryz.func202.trans (congrArg some (by kernel_rfl))⟩
 f22:=⟨Tryz.f203.name,by decide,Tryz.func203.trans (congrArg some (by kernel_rfl))⟩
 f23:=⟨Tryz.f204.name,by decide,Tryz.func204.trans (congrArg some (by kernel_rfl))⟩
 f24:=⟨Tryz.f205.name,by decide,Tryz.func205.trans (congrArg some (by kernel_rfl))⟩
 f25:=⟨Tryz.f206.name,by decide,Tryz.func206.trans (congrArg some (by kernel_rfl))⟩
 f26:=⟨Tryz.f207.name,by decide,Tryz.func207.trans (congrArg some (by kernel_rfl))⟩
 f27:=⟨Tryz.f208.name,by decide,Tryz.func208.trans (congrArg some (by kernel_rfl))⟩
 f28:=Tryz.func209.trans (congrArg some (by kernel_rfl))
 f29:=Tryz.func210.trans (congrArg some (by kernel_rfl))
 f46:=⟨Tryz.f241.name,by decide,Tryz.func241.trans (congrArg some (by kernel_rfl))⟩
 f47:=Tryz.func242.trans (congrArg some (by kernel_rfl))
 f48:=Tryz.func243.trans (congrArg some (by kernel_rfl))
 f49:=⟨Tryz.f244.name,by decide,Tryz.func244.trans (congrArg some (by kernel_rfl))⟩
 f50:=⟨Tryz.f245.name,by decide,Tryz.func245.trans (congrArg some (by kernel_rfl))⟩
 f57:=⟨Tryz.f268.name,by decide,Tryz.func268.trans (congrArg some (by kernel_rfl))⟩
 t0:=Tryz.underlying0
 a0:=Tryz.isAgg0
 z0:=Tryz.sizeOf0
 v0:=Tryz.zeroValue0
 t3:=Tryz.underlying3
 a3:=Tryz.isAgg3
 z3:=Tryz.sizeOf3
 v3:=Tryz.zeroValue3
 t4:=Tryz.underlying4
 a4:=Tryz.isAgg4
 z4:=Tryz.sizeOf4
 v4:=Tryz.zeroValue4
 t5:=Tryz.underlying5
 a5:=Tryz.isAgg5
 z5:=Tryz.sizeOf5
 v5:=Tryz.zeroValue5
 t9:=Tryz.underlying9
 a9:=Tryz.isAgg9
 z9:=Tryz.sizeOf9
 v9:=Tryz.zeroValue9
 t22:=Tryz.underlying97
 a22:=Tryz.isAgg97
 z22:=Tryz.sizeOf97
 v22:=Tryz.zeroValue97
 t25:=Tryz.underlying161
 a25:=Tryz.isAgg161
 z25:=Tryz.sizeOf161
 v25:=Tryz.zeroValue161
 t39:=Tryz.underlying216
 a39:=Tryz.isAgg216
 z39:=Tryz.sizeOf216
 v39:=Tryz.zeroValue216
 t45:=Tryz.underlying246
 a45:=Tryz.isAgg246
 z45:=Tryz.sizeOf246
 v45:=Tryz.zeroValue246
 t46:=Tryz.underlying247
 a46:=Tryz.isAgg247
 z46:=Tryz.sizeOf247
 v46:=Tryz.zeroValue247
 t50:=Tryz.underlying181
 a50:=Tryz.isAgg181
 z50:=Tryz.sizeOf181
 v50:=Tryz.zeroValue181
 t53:=Tryz.underlying253
 a53:=Tryz.isAgg253
 z53:=Tryz.sizeOf253
 v53:=Tryz.zeroValue253
 t55:=Tryz.underlying255
 a55:=Tryz.isAgg255
 z55:=Tryz.sizeOf255
 v55:=Tryz.zeroValue255
 t66:=Tryz.underlying274
 a66:=Tryz.isAgg274
 z66:=Tryz.sizeOf274
 v66:=Tryz.zeroValue274
 t70:=Tryz.underlying278
 a70:=Tryz.isAgg278
 z70:=Tryz.sizeOf278
 v70:=Tryz.zeroValue278
 t76:=Tryz.underlying293
 a76:=Tryz.isAgg293
 z76:=Tryz.sizeOf293
 v76:=Tryz.zeroValue293
 t77:=Tryz.underlying60
 a77:=Tryz.isAgg60
 z77:=Tryz.sizeOf60
 v77:=Tryz.zeroValue60}
end Go.Proofs
namespace Go.Ab
open Go.Proofs.Tryz
open Go.Proofs Go.Sort Go.RowKit Go.Lib
variable {a:Int}{j n:Nat}{σ:Mem}
structure Fl where
 src:Int
 dst:Int
 var:Str
deriving DecidableEq
def Fl.cells(f:Fl):List AV:=[.int .i64 f.src,.int .i64 f.dst,.str f.var]
def AX(a b:Str):Int:=if Op.bytesLess a b=true then -1 else if Op.bytesLess b a=true then 1 else 0
theorem AZ(a b:Str):AX a b<0↔ltT a b:=by
 unfold AX ltT;split
 ·rename_i h;exact⟨fun _=>h,fun _=>by decide⟩
 ·rename_i h;split
  ·exact⟨fun h2=>absurd h2 (by decide),fun h2=>absurd h2 h⟩
  ·exact⟨fun h2=>absurd h2 (by decide),fun h2=>absurd h2 h⟩
theorem TC(a b:Str):AX a b=0↔a=b:=by
 unfold AX;split
 ·rename_i h;refine⟨fun h2=>absurd h2 (by decide),fun h2=>?_⟩;subst h2;exact absurd h (ltT.irr a)
 ·rename_i h;split
  ·rename_i h1;refine⟨fun h2=>absurd h2 (by decide),fun h2=>?_⟩;subst h2;exact absurd h1 (ltT.irr a)
  ·rename_i h1;refine⟨fun _=>x0k fun hne=>?_,fun _=>rfl⟩;rcases ltT.total hne with h3|h3
   ·exact h h3
   ·exact h1 h3
def flC(a b:Fl):Int:=orI [F5 (QS a.src) (QS b.src),F5 (QS a.dst) (QS b.dst),AX a.var b.var]
theorem PQ(a b:Str):SpecP prog 105 [.str a,.str b] (fun r=>r=.int .i64 (AX a b)):=by
 refine sB HG func105 rfl call105 ?_;conv=>whnf
 repeat' (first|((first|(refine iM fun _=>?_)|refine dA ?_|refine q7p rfl ?_|refine aD ?_|refine aR ?_|refine bP ?_|(refine iA fun _=>?_)|refine IdxK.xs (by omega) ?_|refine QX (by omega) ?_|(refine ByteK.at (by omega) ?_)|refine wI ?_|refine cP (UY a) ?_|refine cP (UY b) ?_);conv=>whnf)|(apply bD<;>intro _<;>first|omega|conv=>whnf)|(apply bE<;>intro _<;>first|omega|conv=>whnf)|(apply bN<;>intro _<;>conv=>whnf)|(apply bB<;>intro _<;>conv=>whnf))
 all_goals first
  |contradiction
  | (have h8:Op.bytesLess a b=true:=by assumption
     exact RetK.int (by unfold AX;rw[if_pos h8]))
  | (have h8:Op.bytesLess a b=false:=by assumption
     have h9:(Op.bytesLess a b||a==b)=true:=by assumption
     have h7:a=b:=by rw[h8]at h9;simpa using h9
     exact RetK.int ((TC a b).2 h7).symm)
  | (have h8:Op.bytesLess a b=false:=by assumption
     have h9:(Op.bytesLess a b||a==b)=false:=by assumption
     have h7:a≠b:=by
      rw[h8]at h9;rintro rfl;simp at h9
     have h6:Op.bytesLess b a=true:=by
      rcases ltT.total h7 with h|h
      ·exact absurd h (by unfold ltT;rw[h8];decide)
      ·exact h
     exact RetK.int (by unfold AX;rw[if_neg (by rw[h8];decide),if_pos h6]))
theorem Qw(a b:Fl):SpecP prog 101 [.agg a.cells,.agg b.cells] (fun r=>r=.int .i64 (flC a b)):=by
 refine sB BB func101 rfl call101 ?_;conv=>whnf
 have hS:=PQ a.var b.var;repeat' (first|((first|(refine iM fun _=>?_)|refine cP (Dg _) ?_|refine cP (GT _ _) ?_|refine cP (V0 [F5 (QS a.src) (QS b.src),F5 (QS a.dst) (QS b.dst),AX a.var b.var]) ?_|refine dA ?_|refine q7p rfl ?_|refine aD ?_|refine aR ?_|refine bP ?_|(refine iA fun _=>?_)|refine IdxK.xs (by omega) ?_|refine QX (by omega) ?_|(refine ByteK.at (by omega) ?_)|refine wI ?_|refine BsK.pureL rfl rfl ?_|refine cP hS ?_);conv=>whnf)|(apply bD<;>intro _<;>first|omega|conv=>whnf)|(apply bE<;>intro _<;>first|omega|conv=>whnf)|(apply bN<;>intro _<;>conv=>whnf)|(apply bB<;>intro _<;>conv=>whnf))
 all_goals first
  |exact RetK.p rfl
def ltF(a b:Fl):Prop:=QS a.src<QS b.src\/QS a.src=QS b.src/\(QS a.dst<QS b.dst\/QS a.dst=QS b.dst/\ltT a.var b.var)
theorem HA(a b:Fl):flC a b<0↔ltF a b:=by
 unfold flC ltF;rw[SI,JH,JH,AZ,VB,VB]
theorem ltF.irr(a:Fl):¬ltF a a:=by
 rintro(h|⟨_,h|⟨_,h⟩⟩)
 ·omega
 ·omega
 ·exact ltT.irr _ h
theorem ltF.trans(a b c:Fl)(h1:ltF a b)(h2:ltF b c):ltF a c:=by
 unfold ltF at*
 rcases h1 with h1|⟨e1,h1⟩<;>rcases h2 with h2|⟨e2,h2⟩
 ·exact .inl (by omega)
 ·exact .inl (by omega)
 ·exact .inl (by omega)
 ·refine .inr ⟨by omega,?_⟩;rcases h1 with h1|⟨f1,h1⟩<;>rcases h2 with h2|⟨f2,h2⟩
  ·exact .inl (by omega)
  ·exact .inl (by omega)
  ·exact .inl (by omega)
  ·exact .inr ⟨by omega,ltT.trans _ _ _ h1 h2⟩
theorem ltT.neg{a b c:Str}(h1:¬ltT a b)(h2:¬ltT b c):¬ltT a c:=fun h=>by
 by_cases e:a=b
 ·subst e;exact h2 h
 ·rcases ltT.total e with h3|h3
  ·exact h1 h3
  ·exact h2 (ltT.trans b a c h3 h)
theorem ltF.neg{x y z:Fl}(h1:¬ltF x y)(h2:¬ltF y z):¬ltF x z:=fun h=>by
 unfold ltF at h1 h2 h;have k1:¬QS x.src<QS y.src:=fun h=>h1 (.inl h);have k2:¬QS y.src<QS z.src:=fun h=>h2 (.inl h);rcases h with h|⟨e,h⟩
 ·omega
 have e1:QS x.src=QS y.src:=by omega
 have e2:QS y.src=QS z.src:=by omega
 have m1:¬QS x.dst<QS y.dst:=fun h=>h1 (.inr ⟨e1,.inl h⟩);have m2:¬QS y.dst<QS z.dst:=fun h=>h2 (.inr ⟨e2,.inl h⟩);rcases h with h|⟨f,h⟩
 ·omega
 exact ltT.neg (fun h=>h1 (.inr ⟨e1,.inr ⟨by omega,h⟩⟩)) (fun h=>h2 (.inr ⟨e2,.inr ⟨by omega,h⟩⟩)) h
def okFl(s:Fl):Prop:=s.src≠9223372036854775807/\s.dst≠9223372036854775807/\s.var.length<=maxLen
abbrev OFl:={s:Fl // okFl s}
instance:Inhabited OFl:=⟨⟨⟨0,0,[]⟩,by decide,by decide,q7c _⟩⟩
def cfF(a b:OFl):Int:=flC a.1 b.1
theorem Wi(a b:OFl):ltOf cfF a b=true↔ltF a.1 b.1:=by
 unfold ltOf cfF;rw[q8e,HA]
theorem NR(a b:OFl):ltOf cfF a b=false ↔ ¬ltF a.1 b.1:=by
 rw[<-Wi,x2d]
theorem IT:SWO (ltOf cfF):=by
 refine⟨fun x=>?_,fun x y z h1 h2=>?_,fun x y z h1 h2=>?_⟩
 ·exact(NR x x).2 (ltF.irr _)
 ·first
   |exact(Wi x z).2 (ltF.trans _ _ _ ((Wi x y).1 h1) ((Wi y z).1 h2))
   |exact(NR x z).2 (ltF.neg ((NR x y).1 h1) ((NR y z).1 h2))
 ·first
   |exact(Wi x z).2 (ltF.trans _ _ _ ((Wi x y).1 h1) ((Wi y z).1 h2))
   |exact(NR x z).2 (ltF.neg ((NR x y).1 h1) ((NR y z).1 h2))
theorem ltF.total{a b:Fl}(ha:okFl a)(hb:okFl b)(h1:¬ltF a b)(h2:¬ltF b a):a=b:=by
 unfold ltF at h1 h2;obtain⟨a1,a2,a3⟩:=a;obtain⟨b1,b2,b3⟩:=b;simp only at*
 have k1:¬QS a1<QS b1:=fun h=>h1 (.inl h);have k2:¬QS b1<QS a1:=fun h=>h2 (.inl h);have e1:=US (x:=a1) (y:=b1) ha.1 hb.1 (by omega);have m1:¬QS a2<QS b2:=fun h=>h1 (.inr ⟨by omega,.inl h⟩);have m2:¬QS b2<QS a2:=fun h=>h2 (.inr ⟨by omega,.inl h⟩);have e2:=US (x:=a2) (y:=b2) ha.2.1 hb.2.1 (by omega);have e3:a3=b3:=x0k fun hne=>by
  rcases ltT.total hne with h|h
  ·exact h1 (.inr ⟨by omega,.inr ⟨by omega,h⟩⟩)
  ·exact h2 (.inr ⟨by omega,.inr ⟨by omega,h⟩⟩)
 subst e1 e2 e3;rfl
theorem IS(x y:OFl)(h1:ltOf cfF x y=false)(h2:ltOf cfF y x=false):x=y:=Subtype.ext (ltF.total x.2 y.2 ((NR x y).1 h1) ((NR y x).1 h2))
def F6(s:OFl):List Value:=[.int .i64 s.1.src,.int .i64 s.1.dst,.string ⟨s.1.var.toArray⟩]
theorem D1(s:OFl):Rep σ (.agg s.1.cells) (.agg (F6 s).toArray):=by
 refine .agg _ _ (fun j=>(F6 s).toArray.getD j undef) rfl (fun j c hj=>?_) (fun j c hj=>?_)
 ·match j,hj with
  |0,_=>rfl
  |1,_=>rfl
  |2,_=>rfl
 ·match j,hj with
  |0,hj=>cases hj;exact .int _ _
  |1,hj=>cases hj;exact .int _ _
  |2,hj=>cases hj;exact .str _ s.2.2.2
theorem TS(W:World)(x y:OFl):Calls prog 101 (#[.agg (F6 x).toArray,.agg (F6 y).toArray] ++ #[]) W fun e w'=>e=.returned (.int .i64 (cfF x y))/\∃q os',w'=grow (W.drewN q) os':=by
 refine((Qw x.1 y.1).ok (fun _=>none) W #[.agg (F6 x).toArray,.agg (F6 y).toArray] rfl (fun j c hj=>?_) (fun b c h=>by cases h)).mono ?_
 ·match j,hj with
  |0,hj=>cases hj;exact D1 x
  |1,hj=>cases hj;exact D1 y
 ·rintro e w' ⟨c,u,σ',rfl,rfl,hr,_,_,hf,_⟩;cases hr;exact⟨rfl,hf.grown⟩
def LN(s:Fl):AV:=.agg s.cells
theorem O7{l:List OFl}{vs:Array Value}(h:∀(m:Nat)(x:AV),(l.map fun s=>AV.agg s.1.cells)[m]?=some x->x.cells.length=3/\∀(j:Nat)(c:AV),x.cells[j]?=some c->∃u:Value,vs[m*3+j]?=some u/\Rep σ c u){m:Nat}(hm:m<l.length)(hj:j<3):
  vs[m*3+j]?=(F6 l[m])[j]?:=by
 have h1:=(h m (.agg l[m].1.cells) (by simp[hm])).2
 match j,hj with
 | 0,_=>
   obtain⟨u,h2,h3⟩:=h1 0 (.int .i64 l[m].1.src) rfl;cases h3;exact h2
 | 1,_=>
   obtain⟨u,h2,h3⟩:=h1 1 (.int .i64 l[m].1.dst) rfl;cases h3;exact h2
 | 2,_=>
   obtain⟨u,h2,h3⟩:=h1 2 (.str l[m].1.var) rfl;cases h3;exact h2
theorem O8{l:List OFl}{vs:Array Value}(h:∀(m:Nat)(hm:m<l.length)(j:Nat),j<3->vs[m*3+j]?=(F6 l[m])[j]?):∀(m:Nat)(x:AV),(l.map fun s=>AV.agg s.1.cells)[m]?=some x->x.cells.length=3/\∀(j:Nat)(c:AV),x.cells[j]?=some c->∃u:Value,vs[m*3+j]?=some u/\Rep σ c u:=by
 intro m x hx;rw[q7l]at hx;cases hq:l[m]?with
 |none=>rw[hq]at hx;cases hx
 | some s=>
   rw[hq]at hx;cases hx;obtain⟨hm,rfl⟩:=q7t.1 hq;refine⟨rfl,fun j c hj=>?_⟩
   match j,hj with
   |0,hj=>cases hj;exact⟨_,h m hm 0 (by omega),.int _ _⟩
   |1,hj=>cases hj;exact⟨_,h m hm 1 (by omega),.int _ _⟩
   |2,hj=>cases hj;exact⟨_,h m hm 2 (by omega),.str _ l[m].2.2.2⟩
theorem Dy{d:Array OFl}{t:Nat}(h:t<d.size*3):(flatK F6 3 d)[t]?=(F6 (d[t/3]'(by omega)))[t%3]?:=by
 have h1:=get_flatK F6 3 d t h;rw[x2k _ t (by simpa using h),x2k d (t/3) (by omega)]at h1;rw[q9n (by simpa using h),h1];have h3:t%3<(F6 (d[t/3]'(by omega))).length:=by simp[F6];omega
 rw[q7g h3,x2k (F6 (d[t/3]'(by omega))) (t%3) h3]
def VJ(l:List Fl):List Fl:=l.mergeSort fun x y=> !decide (flC y x<0)
theorem Kz{l:List Fl}:(VJ l).length=l.length:=by unfold VJ;simp
theorem BQ(l:List OFl)(hlen:l.length<=1000000000):
  SpecH prog 100 [.hd 1000 0 l.length,.p (.fn 101 [])] [(1000,.own 99 3 (l.map fun s=>.agg s.1.cells))]
   (fun r H=>r=.p (.tup [])/\H=[(1000,.own 99 3 ((l.mergeSort fun x y=> !(ltOf cfF) y x).map fun s=>.agg s.1.cells))]):=by
 refine⟨call100,fun σ β w vals hn hv hH=>?_⟩;obtain⟨v,u,rfl⟩:=q0x hn;have hv1:RepL σ β (.hd 1000 0 l.length) v:=by simpa using hv 0 _ rfl
 have hv2:RepL σ β (.p (.fn 101 [])) u:=by simpa using hv 1 _ rfl
 obtain rfl:u=.func (.func 101) #[] #[]:=by
  cases hv2 with
  | p h=>cases h with
    | fn _ _ vs u hn' hc hr=>
      obtain rfl:vs=#[]:=Array.size_eq_zero_iff.1 hn';rfl
 have hch:=hH.chunks 1000 _ q7d;rcases hch with⟨hb0,hes⟩|⟨i,vs,hi,hsz,hh,h2,h3,h4,h5⟩
 ·have hl0:l=[]:=x3z.1 hes;subst hl0;obtain⟨rfl,_⟩:=B0 hv1 hb0;have hc:=AnyF.slices_SortFunc_none Yr none 0 (.func (.func 101) #[] #[]) w;change Calls prog 100 _ _ _ at hc;refine hc.mono ?_;rintro e w' ⟨rfl,rfl⟩;exact⟨.p (.tup []),.tuple #[],σ,β,_,rfl,⟨rfl,rfl⟩,.p (.tup [] #[] (fun _=>undef) rfl (by simp) (by simp)),by simpa using hH,by simpa using Later.refl _ _ _ _⟩
 ·have hve:=Jh hv1 hi;subst hve;have hlt:=(hH.apart 1000 (by simp) i hi i.blk i.has_blk).2;have hcap:l.length<=i.cap:=by simpa using h3
  have hle:l.length*3<=vs.size:=by rw[h2];omega
  have hget:=fun m j hm hj=>O7 (σ:=σ) (l:=l) h5 (m:=m) (j:=j) hm hj;have hc:=AnyQ.slices_SortFunc_total Yr 3 Tryz.isAgg99 Tryz.sizeOf99 F6 (fun _=>rfl) (fun x v hv=>by simp[F6]at hv;rcases hv with rfl|rfl|rfl<;>rfl) cfF IT 101 #[] i.blk 0 i.cap l.toArray w
   call101 (fun m os dk _ x y=>TS _ x y) (fun t ht=>by
    have ht':t<l.toArray.size*3:=by simpa using ht
    refine⟨?_,VV hh _⟩;have h6:=Dy ht';have h7:=hget (t/3) (t%3) (by simp at ht';omega) (by omega);rw[Nat.div_add_mod']at h7;rw[JG hh,x0j,h7,x2k _ t (by simpa using ht')];rw[q9n (by simpa using ht')]at h6;simpa using h6.symm) hlt (by simp;omega) IS
  simp only[x1z]at hc;change Calls prog 100 _ _ _ at hc;refine hc.mono ?_;rintro e w' ⟨rfl,n,os,rfl⟩;generalize hS:(l.mergeSort fun x y=> !(ltOf cfF) y x)=S;have hSl:S.length=l.length:=by rw[<-hS];simp
  obtain⟨hf,hb⟩:=DS (enc:=id) (n:=n) (os:=os) (d:=flatK F6 3 S.toArray) hh hlt;obtain⟨hH',hL⟩:=W6 (c':=.own 99 3 (S.map fun s=>.agg s.1.cells)) hH hi hf (.inr ⟨i,_,hi,hsz,hb,by rw[GF];exact h2,by simp[hSl];exact hcap,h4,O8 fun m hm j hj=>by
   have h6:=JL (enc:=id) (d:=flatK F6 3 S.toArray) (vs:=vs) (by simp[hSl];omega) (k:=m*3+j) (by simp;omega);have h7:=Dy (d:=S.toArray) (t:=m*3+j) (by simp;omega);rw[q9n (by simp;omega)]at h7;rw[h6];simp only[id];rw[h7];simp[show(m*3+j)/3=m by omega,show(m*3+j)%3=j by omega]⟩)
  exact⟨.p (.tup []),.tuple #[],σ,β,_,rfl,⟨rfl,rfl⟩,.p (.tup [] #[] (fun _=>undef) rfl (by simp) (by simp)),hH',hL⟩
theorem Ud(l:List Fl)(hok:∀s∈l,okFl s)(hlen:l.length<=1000000000):
  SpecH prog 100 [.hd 1000 0 l.length,.p (.fn 101 [])] [(1000,.own 99 3 (l.map fun s=>.agg s.cells))]
   (fun r H=>r=.p (.tup [])/\H=[(1000,.own 99 3 ((VJ l).map fun s=>.agg s.cells))]):=by
 have h:=BQ (l.attachWith okFl hok) (by simpa using hlen);have e1:((l.attachWith okFl hok).map fun s=>AV.agg s.1.cells)=l.map fun s=>AV.agg s.cells:=by
  have:=q9e (List.map fun s:Fl=>AV.agg s.cells) (x2u (l:=l) (p:=okFl) hok);simp
 have e2:(((l.attachWith okFl hok).mergeSort fun x y=> !(ltOf cfF) y x).map fun s=>AV.agg s.1.cells)=(VJ l).map fun s=>AV.agg s.cells:=by
  have h1:=List.map_mergeSort (l:=l.attachWith okFl hok) (f:=Subtype.val) (r:=fun x y=> !(ltOf cfF) y x) (s:=fun x y=> !decide (flC y x<0)) (fun a _ b _=>rfl);rw[x2u]at h1;unfold VJ;rw[<-h1,x1o];rfl
 rw[e1,e2]at h;simpa using h
open Classical in
noncomputable def comC(n:Nat)(steps:List (Int×Int))(at_:List Nat):List (List Int):=(List.range n).map fun c=>((List.range at_.length).filter fun f=>decide (SolP (QC n steps).1 ((gnC n at_ at_.length).map (GD (at_.length/64+1))) ((klC n at_ at_.length).map (GD (at_.length/64+1))) f (c:Nat))).map Int.ofNat
theorem ComR.eq{steps:List (Int×Int)}{at_:List Nat}{r:AV}(h:ComR n steps at_ r):r=eMat (comC n steps at_):=by
 obtain⟨inn,h1,h2,rfl⟩:=h;congr 1;unfold comC;refine List.ext_getElem (by simp[h2]) fun c h3 h4=>?_;have hc:c<inn.length:=by simpa using h3
 rw[x1i,x1i,x3j];unfold UL;congr 1;refine List.filter_congr fun f hf=>?_;have hf:=q9q.1 hf;have:=h1 (c:Nat) (by omega) (by omega) f (Nat.lt_succ_of_le (Nat.div_le_div_right (by omega)));rw[x0q,q7h,q7g hc,q9j]at this;rw[x3y,this];simp
theorem Gv(n:Nat)(steps:List (Int×Int))(at_:List Nat):(comC n steps at_).length=n:=by unfold comC;simp
theorem NA{steps:List (Int×Int)}{at_:List Nat}{r:List Int}(h:r∈comC n steps at_):r.length<=at_.length/\∀f∈r,0<=f/\f<at_.length:=by
 unfold comC at h;obtain⟨c,_,rfl⟩:=q7s.1 h;refine⟨by rw[q7f];exact q8i (q9l _ _) (by simp),fun f hf=>?_⟩;obtain⟨x,hx,rfl⟩:=q7s.1 hf;have:=q9q.1 (q8t.1 hx).1;exact⟨x2n _,by show(x:Int)<_;omega⟩
theorem P2{l l':List Fl}(h:l.Perm l')(hok:∀s∈l,okFl s):VJ l=VJ l':=by
 have hs:∀m:List Fl,(VJ m).Pairwise fun x y=>¬ltF y x:=fun m=>by
  unfold VJ;refine(x3v ?_ ?_ m).imp fun h=>?_
  ·intro a b c h1 h2;simp only[x0p,q9s]at h1 h2⊢;rw[HA]at h1 h2⊢;exact ltF.neg h2 h1
  ·intro a b;simp only[x1b,x0p,q9s];rw[HA,HA];by_cases h1:ltF b a
   ·exact .inr fun h2=>ltF.irr a (ltF.trans a b a h2 h1)
   ·exact .inl h1
  ·rw[<-HA];simpa using h
 have hp:(VJ l).Perm (VJ l'):=(x1s l _).trans (h.trans (x1s l' _).symm);refine hp.eq_of_pairwise (fun a b ha hb h1 h2=>?_) (hs l) (hs l');have ha':a∈l:=(x1s l _).mem_iff.1 ha;have hb':b∈l:=h.mem_iff.2 ((x1s l' _).mem_iff.1 hb);exact ltF.total (hok a ha') (hok b hb') h2 h1
theorem Vg(l:List Str)(hlen:l.length<=1000000000):SpecH prog 86 [.hd 1000 0 l.length] [(1000,.own 9 1 (l.map .str))] (fun r H=>r=.hd 1000 0 (WR l).length/\H=[(1000,.own 9 1 ((WR l).map .str))]):=by
 refine sH Ks func86 rfl call86 ?_;conv=>whnf
 repeat' (first|(refine CallK.heap [(1000,1000)] 0 (by repeat' (first|exact q8c|refine q8w ?_ ?_|exact q8k _|exact q8m Sub.nils|exact q8m (Sub.tt rfl)|exact q8m (Sub.ff rfl)|exact q8m (Sub.int (by omega)))) (by refine q8x (j:=1000) rfl rfl ?_ ?_;exact CSub.refl _;exact q8a) (GP l hlen) rfl rfl ?_;rintro l' H' ⟨rfl,rfl⟩;conv=>whnf)|(refine CallK.heap [(1000,1000)] 0 (q8w (x2b (by rw[VO];rfl)) q8c) (by refine q8x (j:=1000) rfl rfl ?_ ?_;exact CSub.refl _;exact q8a) (KU (JW l) (by rw[VO];omega)) rfl rfl ?_;rintro l' H' ⟨rfl,rfl⟩;conv=>whnf))
 all_goals first
  |exact x1c _ (q8k _) ⟨rfl,rfl⟩
theorem GC(b:Book)(t:S):SpecP prog 149 [.ip b.cells,.agg t.cells] (fun r=>r=.int .i64 (Qj (fun f=>f.name==t.proc) b.s.p.procs)):=by
 refine sB NZ func149 rfl call149 ?_;conv=>whnf
 have hP:=XF b.s t.proc;repeat' ((first|refine dA ?_|refine cP hP ?_);conv=>whnf)
 all_goals exact RetK.p rfl
def q3w(O:List Str)(x:Arg×Param):Bool:=x.1.ref&&inS O x.2.name
def C7(t:S)(f:Pr)(O:List Str)(j:Nat):List Str:=(((t.args.zip f.params).take j).filter (q3w O)).map fun x=>x.1.name
def IR(p:Pg)(t:S)(f:Pr)(O:List Str):List Str:=(if t.name=[]then []else [t.name])++C7 t f O t.args.length++O.filter (comB p)
theorem Li(t:S)(f:Pr)(O:List Str)(j:Nat):(C7 t f O j).length<=j:=by
 unfold C7;rw[q7f];exact q8i (q9l _ _) (by rw[q8n];omega)
theorem C8{t:S}{f:Pr}{O:List Str}(h1:j<t.args.length)(h2:j<f.params.length):C7 t f O (j+1)=C7 t f O j++(if t.args[j].ref=true/\inS O f.params[j].name=true then [t.args[j].name]else []):=by
 have hz:j<(t.args.zip f.params).length:=by rw[List.length_zip];omega
 unfold C7;rw[q8q hz,x0f,q7o];congr 1;have e:(t.args.zip f.params)[j]=(t.args[j],f.params[j]):=List.getElem_zip;rw[e];by_cases h:t.args[j].ref=true/\inS O f.params[j].name=true
 ·rw[if_pos h,x0n (by unfold q3w;simp[h])];rfl
 ·rw[if_neg h,x0t (by unfold q3w;simpa using h)];rfl
theorem Zv(b:Book)(t:S)(i:Nat)(f:Pr)(O:List Str)(hi:Qj (fun f=>f.name==t.proc) b.s.p.procs=i)(hf:b.s.p.procs[i]?=some f)(hO:b.outs[i]?=some O)(hs:O.Pairwise ltT)(hl:O.length<=1000000)(ha:t.args.length<=f.params.length)(hal:t.args.length<=1000000):SpecH prog 144 [.p (.ip b.cells),.p (.agg t.cells)] [] (fun r H=>OneRow (Ky (IR b.s.p t f O)) False r H):=by
 refine sH NV func144 rfl call144 ?_;conv=>whnf
 have hC:=GC b t;rw[hi]at hC;have hH:=fun x=>MK O x hs (by omega);have hCo:=fun x=>GA b x;have hg1:(b.outs.map eStrs)[i]?=some (eStrs O):=by rw[q7l,hO];rfl
 have hg2:(b.s.p.procs.map fun f=>AV.agg f.cells)[i]?=some (.agg f.cells):=by rw[q7l,hf];rfl
 have ham:(t.args.map fun a=>AV.agg a.cells).length=t.args.length:=q7f _;have hOm:(O.map AV.str).length=O.length:=q7f _;repeat' (first|((first|(refine iM fun _=>?_)|refine q7p rfl ?_|refine aD ?_|refine bP ?_|refine XQ (es:=[]) rfl (by simp) ?_|refine cP hC ?_);conv=>whnf)|(apply bN<;>intro _<;>conv=>whnf))
 all_goals
  refine LoopK.inv QK (fun x:Nat×List Str=>⟨[(0,.p (.ip b.cells)),(5,.hd 0 0 x.2.length),(6,.p (.int .i64 i)),(23,.p (.sl (t.args.map fun a=>.agg a.cells))),(24,.p (.int .i64 (t.args.map fun a=>AV.agg a.cells).length)),(25,.p (.int .i64 x.1))],[(0,.own 9 1 (x.2.map .str))]⟩) (fun x=>x.1<=t.args.length/\x.2=(if t.name=[]then []else [t.name])++C7 t f O x.1) (fun x=>t.args.length-x.1) (0,if t.name=[]then []else [t.name]) ?_ ⟨q7c _,by simp[C7]⟩ ?_
  ·first
    | (have h9:(t.name==[])=true:=by assumption
       rw[if_pos (eq_of_beq h9)];exact Le.mk [(0,.own 9 1 [])] (by simp[Chunk.new0];rfl) (by simp) (by simp) (.r (.cons (.nil q7d) (.r (.r (.r (.r .nil)))))) (.new q7d .nil))
    | (have h9:(t.name==[])=false:=by assumption
       rw[if_neg (by simpa using h9)];exact Le.of_eq rfl)
  rintro⟨j,acc⟩ ⟨h2,h3⟩;simp only at h2 h3⊢;have hal2:acc.length<=j+1:=by
   rw[h3,q7b];have:=Li t f O j;split<;>simp<;>omega
  rcases q7e j t.args.length with hj|hj
  ·have hjp:j<f.params.length:=by omega
   have hst:=C8 (O:=O) hj hjp;have hHj:=hH f.params[j].name;have hg3:(f.params.map fun a=>AV.agg a.cells)[j]?=some (.agg f.params[j].cells):=by rw[q7l,q7g hjp];rfl
   conv=>whnf
   repeat' (first|((first|refine dA ?_|refine q7p rfl ?_|refine aD ?_|refine bP ?_|(refine iA fun _=>?_)|refine wI ?_|(refine IdxK.at (k:=i) rfl hg1 rfl ?_)|(refine IdxK.at (k:=i) rfl hg2 rfl ?_)|(refine IdxK.at (k:=j) rfl hg3 rfl ?_)|refine cP hHj ?_|refine XQ (by simp) (by rw[q7f];omega) ?_);conv=>whnf)|(apply bD<;>intro _<;>first|omega|conv=>whnf)|(apply bB<;>intro _<;>conv=>whnf))
   all_goals first
    | (have h9:t.args[j].ref=true:=by assumption
       have h10:inS O f.params[j].name=true:=by assumption
       exact⟨(j+1,acc++[t.args[j].name]),⟨hj,by simp only;rw[hst,if_pos (show t.args[j].ref=true/\inS O f.params[j].name=true from⟨h9,h10⟩),h3,q8d]⟩,by simp only;omega,Le.of_eq (by simp only[q7b,q7o];rfl)⟩)
    | (have h10:inS O f.params[j].name=false:=by assumption
       exact⟨(j+1,acc),⟨hj,by simp only;rw[hst,if_neg (show ¬(t.args[j].ref=true/\inS O f.params[j].name=true)from fun hh=>by rw[h10]at hh;cases hh.2),q9h];exact h3⟩,by simp only;omega,Le.of_eq rfl⟩)
    | (have h9:t.args[j].ref=false:=by assumption
       exact⟨(j+1,acc),⟨hj,by simp only;rw[hst,if_neg (show ¬(t.args[j].ref=true/\inS O f.params[j].name=true)from fun hh=>by rw[h9]at hh;cases hh.1),q9h];exact h3⟩,by simp only;omega,Le.of_eq rfl⟩)
  ·obtain rfl:j=t.args.length:=by omega
   conv=>whnf
   repeat' (first|((first|(refine iM fun _=>?_)|(refine IdxK.at (k:=i) rfl hg1 rfl ?_));conv=>whnf)|(apply bD<;>intro _<;>first|omega|conv=>whnf))
   refine LoopK.inv QK (fun x:Nat×List Str=>⟨[(0,.p (.ip b.cells)),(5,.hd 0 0 x.2.length),(70,.p (eStrs O)),(71,.p (.int .i64 (O.map AV.str).length)),(72,.p (.int .i64 x.1))],[(0,.own 9 1 (x.2.map .str))]⟩) (fun x=>x.1<=O.length/\x.2=acc++(O.take x.1).filter (comB b.s.p)/\x.2.length<=acc.length+x.1) (fun x=>O.length-x.1) (0,acc) (Le.of_eq rfl) ⟨q7c _,by simp,by simp⟩ ?_;rintro⟨q,o⟩ ⟨h4,h5,h6⟩;simp only at h4 h5 h6⊢;rcases q7e q O.length with hq|hq
   ·have hn1:=q8q hq;have hCq:=hCo O[q];conv=>whnf
    repeat' (first|((first|refine q7p rfl ?_|refine aD ?_|refine bP ?_|(refine iA fun _=>?_)|refine wI ?_|refine cP hCq ?_|refine XQ (by simp) (by rw[q7f];omega) ?_);conv=>whnf)|(apply bD<;>intro _<;>first|omega|conv=>whnf)|(apply bB<;>intro _<;>conv=>whnf))
    all_goals first
     | (have h9:comB b.s.p O[q]=true:=by assumption
        exact⟨(q+1,o++[O[q]]),⟨hq,by simp only;rw[hn1,x0f,x0n h9,h5,q8d];rfl,by simp;omega⟩,by simp only;omega,Le.of_eq (by simp only[q7b,q7o];rfl)⟩)
     | (have h9:comB b.s.p O[q]=false:=by assumption
        exact⟨(q+1,o),⟨hq,by simp only;rw[hn1,x0f,x0t (by rw[h9];decide),h5];simp,by simp only;omega⟩,by simp only;omega,Le.of_eq rfl⟩)
   ·rw[q8y hq]at h5;have hfin:o=IR b.s.p t f O:=by rw[h5,h3];rfl
    subst hfin;conv=>whnf
    repeat' (apply bD<;>intro _<;>first|omega|conv=>whnf)
    all_goals exact x1c _ (q8k _) (OneRow.str rfl)
def EW:Str:=[36,114,101,116]
def caI(p:Pg)(t:S):Int:=Qj (fun f=>f.name==t.proc) p.procs
def caP(p:Pg)(t:S):Pr:=p.procs.getD (caI p t).toNat Pr0
def caO(b:Book)(t:S):List Str:=b.outs.getD (caI b.s.p t).toNat []
def PA(b:Book)(t:S):List Str:=if t.kind=1 then [t.name]else if t.kind=2 then [t.name,KE]else if t.kind=9 then [EW]else if t.kind=4 then IR b.s.p t (caP b.s.p t) (caO b t)else []
structure CallOk(b:Book)(t:S):Prop where
 i0:0<=caI b.s.p t
 i1:(caI b.s.p t).toNat<b.s.p.procs.length
 io:b.s.p.procs.length<=b.outs.length
 rise:(caO b t).Pairwise ltT
 len:(caO b t).length<=1000000
 args:t.args.length<=(caP b.s.p t).params.length
 al:t.args.length<=1000000
theorem TM{b:Book}{t:S}(h:CallOk b t):SpecH prog 144 ([AV.ip b.cells,.agg t.cells].map .p) [] (OneRow (Ky (IR b.s.p t (caP b.s.p t) (caO b t))) False):=by
 have h1:=h.i1;have h2:=h.io;refine Zv b t (caI b.s.p t).toNat (caP b.s.p t) (caO b t) ?_ ?_ ?_ h.rise h.len h.args h.al
 ·rw[x2x h.i0];rfl
 ·unfold caP;rw[q7h,q7g h1];rfl
 ·unfold caO;rw[q7h,q7g (by omega)];rfl
theorem Yz(b:Book)(t:S)(h4:t.kind=4->CallOk b t):SpecH prog 87 [.p (.ip b.cells),.p (.agg t.cells)] [] (fun r H=>OneRow (Ky (PA b t)) (PA b t=[]) r H):=by
 refine sH Z6 func87 rfl call87 ?_;conv=>whnf
 have hC:=fun h=>TM (h4 h);repeat' (first|((first|refine q7p rfl ?_|refine aD ?_|refine x3e (fun x hx=>by rcases q7m.1 hx with rfl;rfl) rfl ?_|refine x3e (fun x hx=>by rcases q7r.1 hx with rfl|hx;rfl;rcases q7m.1 hx with rfl;rfl) rfl ?_|(refine YH 0 rfl (hC (by assumption)) (.cons (.p (Sub.refl _)) (.cons (.p (Sub.refl _)) .nil)) (fun h=>h.elim) ?_;rintro _ _ _ _ ⟨rfl,rfl,rfl⟩));conv=>whnf)|(apply bD<;>intro _<;>first|omega|conv=>whnf))
 ·rw[show PA b t=[t.name] by unfold PA;rw[if_pos (by assumption)]];exact x1c _ (q8k _) (UV (L:=[t.name]) rfl)
 ·rw[show PA b t=[t.name,KE] by unfold PA;rw[if_neg (by assumption),if_pos (by assumption)]];exact x1c _ (q8k _) (UV (L:=[t.name,KE]) rfl)
 ·rw[show PA b t=[EW] by unfold PA;rw[if_neg (by assumption),if_neg (by assumption),if_pos (by assumption)]];exact x1c _ (q8k _) (UV (L:=[EW]) rfl)
 ·rw[show PA b t=IR b.s.p t (caP b.s.p t) (caO b t) by unfold PA;rw[if_neg (by assumption),if_neg (by assumption),if_neg (by assumption),if_pos (by assumption)]];exact x1c _ (q8k _) (UV (by rw[q7f]))
 ·exact x1c _ (q8k _) (.inl ⟨rfl,rfl,by unfold PA;rw[if_neg (by assumption),if_neg (by assumption),if_neg (by assumption),if_neg (by assumption)]⟩)
def outB(p:Pg)(f:Pr)(n:Str):Bool:=comB p n||decide ((⟨n,true⟩:Param)∈f.params)
def HV(D:List (List Str))(id:Int):List Str:=D.getD (id-1).toNat []
def q2q(p:Pg)(i:Nat)(f:Pr)(D:List (List Str))(it:Item):List Str:=bif (QQ p i f).live.getD (ixI p i f it.s.id).toNat false then(HV D it.s.id).filter (outB p f)else []
def Py(p:Pg)(i:Nat)(f:Pr)(D:List (List Str))(its:List Item):List Str:=its.flatMap (q2q p i f D)
theorem C0{p:Pg}{i:Nat}{f:Pr}{D:List (List Str)}{its:List Item}{k:Nat}(hk:k<its.length):Py p i f D (its.take (k+1))=Py p i f D (its.take k)++q2q p i f D its[k]:=by
 unfold Py;rw[q8q hk,x1g];simp
theorem Lj{p:Pg}{i:Nat}{f:Pr}{D:List (List Str)}(hD:∀d∈D,d.length<=1000)(its:List Item):(Py p i f D its).length<=its.length*1000:=by
 refine WS its fun it _=>?_;unfold q2q;cases(QQ p i f).live.getD (ixI p i f it.s.id).toNat false with
 |false=>exact q7c _
 | true=>
   refine q8i (q9l _ _) ?_;unfold HV;rcases q7e (it.s.id-1).toNat D.length with h|h
   ·rw[q7h,q7g h];exact hD _ (q7i h)
   ·rw[q7h,q9i h];exact q7c _
theorem Yw(b:Book)(p:Pg)(hp:b.s=sheetOf p)(h:QO p=true)(i:Nat)(f:Pr)(hj:p.procs[i]?=some f)(hW:b.ways[i]?=some (QQ p i f))(hD:b.defs.length=(sheetOf p).l.length)(hd:∀d∈b.defs,d.length<=1000):SpecH prog 88 [.p (.ip b.cells),.p (.int .i64 i)] [] (fun r H=>OneRow (Ky (Py p i f b.defs (itsOf p i f))) False r H):=by
 refine sH Z7 func88 rfl call88 ?_;conv=>whnf
 obtain⟨hsp,_,_,hlen,hs⟩:=QV p;obtain⟨s1,s2,s3,s4⟩:=hs i f hj;have hcn:=(XP h).2.2;have hO:=MZ (sheetOf p) i (QM p.procs i) (QM p.procs i+QU f.body) s1 s2 (by omega) (by omega) (by omega);rw[s4]at hO;have e1:itL (i:Nat) 0 (-1) 0 (QM p.procs i) f.body=itsOf p i f:=rfl;rw[e1,<-hp]at hO;have hbp:b.s.p=p:=by rw[hp,hsp]
 have hCo:=fun x=>GA b x;rw[hbp]at hCo;have hg1:(b.s.p.procs.map fun f=>AV.agg f.cells)[i]?=some (.agg f.cells):=by rw[hbp,q7l,hj];rfl
 have hg2:(b.ways.map fun w=>AV.ip w.cells)[i]?=some (.ip (QQ p i f).cells):=by rw[q7l,hW];rfl
 have hIl:((itsOf p i f).map fun i=>AV.agg i.cells).length=(itsOf p i f).length:=q7f _;have hil:(itsOf p i f).length<=200:=by
  have h1:=q9e List.length s4;rw[e1,x0u,q8n]at h1;omega
 have hall:∀k,(Py p i f b.defs ((itsOf p i f).take k)).length<=200*1000:=fun k=>by
  have h1:=Lj (p:=p) (i:=i) (f:=f) hd ((itsOf p i f).take k);have h2:((itsOf p i f).take k).length*1000<=200*1000:=q9y _ (by rw[q8n];omega);omega
 repeat' ((first|(refine iM fun _=>?_)|refine q7p rfl ?_|(refine IdxK.at (k:=i) rfl hg1 rfl ?_)|refine cP hO ?_);conv=>whnf)
 refine LoopK.inv QK (fun k:Nat=>⟨[(0,.p (.ip b.cells)),(1,.p (.int .i64 i)),(5,.hd 0 0 (Py p i f b.defs ((itsOf p i f).take k)).length),(6,.p (.ip f.cells)),(27,.p (VL (itsOf p i f))),(28,.p (.int .i64 ((itsOf p i f).map fun i=>AV.agg i.cells).length)),(29,.p (.int .i64 k))],[(0,.own 9 1 ((Py p i f b.defs ((itsOf p i f).take k)).map .str))]⟩) (fun k=>k<=(itsOf p i f).length) (fun k=>(itsOf p i f).length-k) 0
  (Le.mk [(0,.own 9 1 [])] (by simp[Chunk.new0];rfl) (by simp) (by simp) (.r (.r (.cons (.nil q7d) (.r (.r (.r (.r .nil))))))) (.new q7d .nil)) (q7c _) ?_
 intro k hk;have hak:=hall k;rcases q7e k (itsOf p i f).length with hk2|hk2;rotate_left 1
 ·rw[q8y hk2];conv=>whnf
  repeat' (apply bD<;>intro _<;>first|omega|conv=>whnf)
  all_goals exact x1c _ (q8k _) (OneRow.str rfl)
 have hst:=C0 (p:=p) (i:=i) (f:=f) (D:=b.defs) hk2;have hb:=WG (QD h).1 hj (Zk (q7i hk2));have hLv:=He p i f h hj (itsOf p i f)[k].s.id (.inr (.inr hb));have hoi:q2q p i f b.defs (itsOf p i f)[k]=bif (QQ p i f).live.getD (ixI p i f (itsOf p i f)[k].s.id).toNat false then(HV b.defs (itsOf p i f)[k].s.id).filter (outB p f)else []:=rfl;have hdl:((itsOf p i f)[k].s.id-1).toNat<b.defs.length:=by omega
 have hg3:(b.defs.map eStrs)[((itsOf p i f)[k].s.id-1).toNat]?=some (eStrs (HV b.defs (itsOf p i f)[k].s.id)):=by
  unfold HV;rw[q7l,q7h,q7g hdl];rfl
 have hDl:(HV b.defs (itsOf p i f)[k].s.id).length<=1000:=by
  unfold HV;rw[q7h,q7g hdl];exact hd _ (q7i hdl)
 generalize(QQ p i f).live.getD (ixI p i f (itsOf p i f)[k].s.id).toNat false=lv at*
 rw[hoi]at hst;generalize HV b.defs (itsOf p i f)[k].s.id=D at*
 generalize Py p i f b.defs ((itsOf p i f).take k)=acc at*
 have hDm:(D.map AV.str).length=D.length:=q7f _;cases lv;all_goals
  conv=>whnf
  repeat' (first|((first|(refine iM fun _=>?_)|refine dA ?_|refine q7p rfl ?_|(refine iA fun _=>?_)|refine wI ?_|(refine IdxK.at (k:=i) rfl hg2 rfl ?_)|refine cP hLv ?_|(refine IdxK.at (k:=((itsOf p i f)[k].s.id-1).toNat) (by omega) hg3 rfl ?_));conv=>whnf)|(apply bD<;>intro _<;>first|omega|conv=>whnf)|(apply bN<;>intro _<;>conv=>whnf))
 all_goals first
  |contradiction
  |exact⟨k+1,hk2,by omega,Le.of_eq (by rw[hst,q8b,q9h];rfl)⟩
  |skip
 all_goals
  rw[q8g]at hst;refine LoopK.inv QK (fun x:Nat×List Str=>⟨[(0,.p (.ip b.cells)),(1,.p (.int .i64 i)),(5,.hd 0 0 x.2.length),(6,.p (.ip f.cells)),(27,.p (VL (itsOf p i f))),(28,.p (.int .i64 ((itsOf p i f).map fun i=>AV.agg i.cells).length)),(29,.p (.int .i64 k)),(54,.p (eStrs D)),(55,.p (.int .i64 (D.map AV.str).length)),(56,.p (.int .i64 x.1))],[(0,.own 9 1 (x.2.map .str))]⟩) (fun x=>x.1<=D.length/\x.2=acc++(D.take x.1).filter (outB p f)/\x.2.length<=acc.length+x.1) (fun x=>D.length-x.1) (0,acc) (Le.of_eq rfl) ⟨q7c _,by simp,by simp⟩ ?_;rintro⟨q,o⟩ ⟨h4,h5,h6⟩;simp only at h4 h5 h6⊢;rcases q7e q D.length with hq|hq
  ·have hn1:=q8q hq;have hCq:=hCo D[q];have hKq:=WT f.params ⟨D[q],true⟩;have hob:outB p f D[q]=(comB p D[q]||decide ((⟨D[q],true⟩:Param)∈f.params)):=rfl;generalize hdc:decide ((⟨D[q],true⟩:Param)∈f.params)=dc at hKq hob;conv=>whnf
   repeat' (first|((first|refine q7p rfl ?_|refine aD ?_|refine bP ?_|(refine iA fun _=>?_)|refine wI ?_|refine cP hCq ?_|(refine CallK.pure hKq (.cons (Sub.refl _) (.cons (Sub.agg (.cons (Sub.refl _) (.cons (Sub.tt rfl) .nil))) .nil)) ?_;rintro _ rfl)|refine XQ (by simp) (by rw[q7f];omega) ?_);conv=>whnf)|(apply bD<;>intro _<;>first|omega|conv=>whnf)|(apply bB<;>intro _<;>conv=>whnf))
   all_goals first
    | (have h9:outB p f D[q]=true:=by rw[hob,show comB p D[q]=true by assumption];rfl
       exact⟨(q+1,o++[D[q]]),⟨hq,by simp only;rw[hn1,x0f,x0n h9,h5,q8d];rfl,by simp;omega⟩,by simp only;omega,Le.of_eq (by simp only[q7b,q7o];rfl)⟩)
    | (have h9:outB p f D[q]=true:=by rw[hob,show dc=true by assumption,Bool.or_true]
       exact⟨(q+1,o++[D[q]]),⟨hq,by simp only;rw[hn1,x0f,x0n h9,h5,q8d];rfl,by simp;omega⟩,by simp only;omega,Le.of_eq (by simp only[q7b,q7o];rfl)⟩)
    | (have h9:outB p f D[q]=false:=by rw[hob,show comB p D[q]=false by assumption,show dc=false by assumption];rfl
       exact⟨(q+1,o),⟨hq,by simp only;rw[hn1,x0f,x0t (by rw[h9];decide),h5];simp,by simp only;omega⟩,by simp only;omega,Le.of_eq rfl⟩)
  ·rw[q8y hq,<-hst]at h5;subst h5;conv=>whnf
   repeat' (first|(refine wI ?_;conv=>whnf)|(apply bD<;>intro _<;>first|omega|conv=>whnf))
   all_goals exact⟨k+1,hk2,by omega,Le.of_eq rfl⟩
theorem SN(x:X):SpecH prog 148 ([AV.agg x.cells].map .p) [] (OneRow (Ky (XL x)) (XL x=[])):=by
 refine sH Xy func148 rfl call148 ?_;conv=>whnf
 repeat' (first|(refine cP (FS _) ?_;conv=>whnf)|(apply bN<;>intro _<;>conv=>whnf))
 ·refine CallK.nil 5 9 1 rfl (.cons rfl (.row .nil)) ?_;refine CallK.heap [(2000,5)] 0 (by repeat' (first|exact q8c|refine q8w ?_ ?_|exact q8k _|exact q8m Sub.nils|exact q8m (Sub.tt rfl)|exact q8m (Sub.ff rfl)|exact q8m (Sub.int (by omega)))) (by refine q8x (j:=5) rfl rfl ?_ ?_;exact CSub.refl _;exact q8a) (Ue 20 (by omega) x (by assumption) [] (by simp)) rfl rfl ?_;rintro l' H' ⟨rfl,rfl⟩;conv=>whnf
  have e:XL x=Dm x []:=by
   unfold XL;rw[show Aq x=true by assumption];rfl
  rw[e];exact x1c _ (q8k _) (BI rfl)
 ·have e:XL x=[]:=by
   unfold XL;rw[show Aq x=false by assumption];rfl
  exact x1c _ (q8k _) (.inl ⟨rfl,rfl,e⟩)
def usA(a:Arg):List Str:=(if a.ref=true then [a.name]else [])++XL a.x
def inAt(b:Book)(t:S):List Str:=b.ins.getD (caI b.s.p t).toNat []
def Rj(t:S):List Str:=XL t.x++(if t.kind=2 then [KE]else [])
def PR(b:Book)(t:S):List Str:=if t.kind=4 then Rj t++t.args.flatMap usA++inAt b t else Rj t
theorem CE(a:Arg):(usA a).length<=1048577:=by
 have:=VU a.x;unfold usA;rw[q7b];split<;>simp<;>omega
theorem Rk(t:S):(Rj t).length<=1048577:=by
 have:=VU t.x;unfold Rj;rw[q7b];split<;>simp<;>omega
def Ts(t:S)(j:Nat):List Str:=Rj t++(t.args.take j).flatMap usA
theorem Ah(t:S)(ha:t.args.length<=20000):(Ts t j).length<=21000000000:=by
 have h1:=Rk t;have h2:=GV CE (t.args.take j);have h3:(t.args.take j).length*1048577<=20000*1048577:=q9y _ (by simp;omega);unfold Ts;simp only[q7b];omega
theorem TJ{t:S}(hj:j<t.args.length):Ts t (j+1)=Ts t j++usA t.args[j]:=by
 unfold Ts;rw[q8q hj,x1g,q8d];simp
theorem OneRow.es{L:List Str}{es:List AV}{nil:Prop}(he:es=L.map .str)(h:n=L.length):OneRow (Ky L) nil (.hd 0 0 n) [(0,.own 9 1 es)]:=by
 subst he;exact UV h
structure UseOk(b:Book)(t:S):Prop where
 i0:0<=caI b.s.p t
 ii:(caI b.s.p t).toNat<b.ins.length
 al:t.args.length<=20000
 len:(inAt b t).length<=1000000
theorem Yv(b:Book)(t:S)(h4:t.kind=4->UseOk b t):SpecH prog 90 [.p (.ip b.cells),.p (.agg t.cells)] [] (fun r H=>OneRow (Ky (PR b t)) (PR b t=[]) r H):=by
 refine sH Z8 func90 rfl call90 ?_;conv=>whnf
 have hN:=SN t.x;have hC:=GC b t;have hI:Qj (fun f=>f.name==t.proc) b.s.p.procs=caI b.s.p t:=rfl;rw[hI]at hC;have hnx:=VU t.x;conv=>whnf
 refine YH 0 rfl hN (.cons (.p (Sub.refl _)) .nil) (fun hnil=>?_) (fun q e sz es hR=>?_);rotate_left;obtain⟨rfl,rfl,rfl⟩:=hR
 rotate_right
 all_goals
  conv=>whnf
  repeat' (first|((first|(refine iM fun _=>?_)|refine q7p rfl ?_|refine aD ?_|refine bP ?_|refine XQ (es:=[]) rfl (by simp) ?_|refine XQ (by simp) (by simp;omega) ?_);conv=>whnf)|(apply bD<;>intro _<;>first|omega|conv=>whnf)|(apply bE<;>intro _<;>first|omega|conv=>whnf))
 ·have e:PR b t=[KE]:=by unfold PR Rj;rw[if_neg (by assumption),if_pos (by assumption),hnil];rfl
  rw[e];exact x1c _ (q8k _) (UV (L:=[KE]) rfl)
 rotate_left
 ·have e:PR b t=[]:=by unfold PR Rj;rw[if_neg (by assumption),if_neg (by assumption),hnil];rfl
  exact x1c _ (q8k _) (.inl ⟨rfl,rfl,e⟩)
 ·have e:PR b t=XL t.x++[KE]:=by unfold PR Rj;rw[if_neg (by assumption),if_pos (by assumption)]
  rw[e];exact x1c _ (q8k _) (OneRow.es (by rw[q7o];rfl) (by simp))
 rotate_left
 ·have e:PR b t=XL t.x:=by unfold PR Rj;rw[if_neg (by assumption),if_neg (by assumption),q9h]
  rw[e];exact x1c _ (q8k _) (OneRow.es rfl (by simp))
 all_goals
  have hk4:t.kind=4:=by assumption
  have hU:=h4 hk4;have e0:Ts t 0=XL t.x:=by unfold Ts Rj;rw[if_neg (by omega),List.take_zero,List.flatMap_nil,q9h,q9h]
  have hl:(t.args.map fun a=>AV.agg a.cells).length=t.args.length:=q7f _;have hg:(b.ins.map eStrs)[(caI b.s.p t).toNat]?=some (eStrs (inAt b t)):=by
   unfold inAt;rw[q7l,q7h,q7g hU.ii];rfl
  have hi0:=hU.i0;have hil:=hU.len;have hia:=hU.al;refine LoopK.inv QK (fun j:Nat=>⟨[(0,.p (.ip b.cells)),(3,.p (.ip t.cells)),(5,.hd 0 0 (Ts t j).length),(22,.p (.sl (t.args.map fun a=>.agg a.cells))),(23,.p (.int .i64 (t.args.map fun a=>AV.agg a.cells).length)),(24,.p (.int .i64 j))],[(0,.own 9 1 ((Ts t j).map .str))]⟩) (fun j=>j<=t.args.length) (fun j=>t.args.length-j) 0 ?_ (q7c _) ?_
  ·first
    | (rw[e0,hnil]
       exact Le.mk [(0,.own 9 1 [])] (by simp[Chunk.new0];rfl) (by simp) (by simp) (.r (.r (.cons (.nil q7d) (.r (.r (.r .nil)))))) (.new q7d .nil))
    | (rw[e0]
       exact Le.of_eq (by rw[q7f];rfl))
  intro j hj;have hacc:=Ah t (j:=j) hia;have hfin:t.args.length<=j->PR b t=Ts t j++inAt b t:=fun h=>by
   unfold PR Ts;rw[if_pos hk4,q8y h]
  have hst:=fun h=>TJ (t:=t) (j:=j) h;generalize Ts t j=acc at*
  rcases q7e j t.args.length with hj2|hj2
  ·have hnl:=VU t.args[j].x;conv=>whnf
   repeat' (first|((first|refine cP (X4 _) ?_|refine q7p rfl ?_|refine aD ?_|refine bP ?_|(refine iA fun _=>?_)|refine wI ?_|refine HK _ (by simp) (by simp;omega) ?_|refine XQ (by simp) (by simp;omega) ?_);conv=>whnf)|(apply bD<;>intro _<;>first|omega|conv=>whnf)|(apply bB<;>intro _<;>conv=>whnf))
   all_goals
    refine⟨j+1,hj2,by omega,Le.of_eq ?_⟩;first
     | (have hn:usA t.args[j]=[t.args[j].name]++XL t.args[j].x:=by rw[usA,if_pos (by assumption)]
        rw[hst hj2,hn];simp only[q7b,q7o,q7f,<-q8d,<-x1x];rfl)
     | (have hn:usA t.args[j]=XL t.args[j].x:=by rw[usA,if_neg (by rw[show t.args[j].ref=false by assumption];decide)];rfl
        rw[hst hj2,hn];simp only[q7b,q7o,q7f];rfl)
  ·rw[hfin hj2];conv=>whnf
   repeat' (first|((first|refine dA ?_|refine aD ?_|refine cP hC ?_|(refine IdxK.at (k:=(caI b.s.p t).toNat) (by omega) hg rfl ?_)|refine HK _ (by simp) (by simp;omega) ?_);conv=>whnf)|(apply bD<;>intro _<;>first|omega|conv=>whnf))
   all_goals exact x1c _ (q8k _) (OneRow.es (by rw[q7o]) (by simp))
def UT(w:Way)(f:Pr):List (Int×Int):=(DC w f).map (ixP w.p w.j f w.n)
theorem M4(w:Way)(f:Pr)(n:Nat)(h:WayT w f n)(hp:∀t∈UT w f,(0<=t.1/\t.1<n)/\0<=t.2/\t.2<n)(hlen:(DC w f).length<=1000000):SpecP prog 150 [.ip w.cells] (fun r=>r=eMat (MS n (UT w f))):=by
 refine sB G6 func150 rfl call150 ?_;conv=>whnf
 have hwn:=h.hw;have hn5:=h.hn;have hn2:=h.hn2;have hA:=Z2 w f n h;have hP:=YG w f h.hj h.hc (by omega) (DC w f) hlen;have hpl:(avP (UT w f)).length=(UT w f).length:=by unfold avP;rw[q7f]
 have hpl2:(UT w f).length<=1000000:=by unfold UT;rw[q7f];exact hlen
 have hPe:(DC w f).map (ixP w.p w.j f w.n)=UT w f:=rfl;rw[hPe]at hP;repeat' ((first|(refine iM fun _=>?_)|refine aR ?_|refine x2m n (by omega) (by show 24*_<=140737488355328;omega) (by unfold maxLen;omega) ?_|refine cP hA ?_|refine cP hP ?_);conv=>whnf)
 refine LoopK.inv QK (fun j:Nat=>⟨[(3,.hd 0 0 n),(14,.p (.sl (avP (UT w f)))),(15,.p (.int .i64 (avP (UT w f)).length)),(16,.p (.int .i64 j))],[(0,.ext (.mat 29 3 1 (avI (MS n ((UT w f).take j))) []))]⟩) (fun j=>j<=(UT w f).length) (fun j=>(UT w f).length-j) 0
  (by
    refine Le.trans (SB n rfl) ?_;exact Le.mk [] (by simp) (by simp) (by simp) (.r (.r (.r (.r .nil)))) (.cons rfl (.of_eq (by simp[avI,MS])) .nil)) (q7c _) ?_
 intro j h2;rcases q7e j (UT w f).length with hj|hj
 ·have hme:(avP (UT w f))[j]?=some (.agg [.int .i64 (UT w f)[j].1,.int .i64 (UT w f)[j].2]):=by simp[avP,hj]
  obtain⟨⟨q1,q2⟩,q3,q4⟩:=hp _ (q7i hj);have hst:MS n ((UT w f).take (j+1))=nxE (MS n ((UT w f).take j)) (UT w f)[j]:=by
   unfold MS;rw[q8q hj,x2i];rfl
  have hrl:=U9 n ((UT w f).take j);have hcnt:=Bv n ((UT w f).take j) (UT w f)[j].1.toNat;generalize(UT w f)[j]=t at hme q1 q2 q3 q4 hst hcnt;generalize MS n ((UT w f).take j)=rows at hst hrl hcnt⊢;obtain⟨a,ha⟩ : ∃a:Nat,t.1=a:=⟨t.1.toNat,by omega⟩;have hal:a<rows.length:=by omega
  have hrow:(avI rows)[a]?=some (rows[a].map (.int .i64)):=by unfold avI;rw[q7l,q7g hal];rfl
  have hput:(avI rows).set a (rows[a].map (.int .i64)++[.int .i64 t.2])=avI (nxE rows t):=by
   unfold nxE avI;rw[ha,x0q,q7h,q7g hal,q9j,q9k,q7o];rfl
  have hcl:rows[a].length<=1000000:=by
   rw[ha,x0q,q7h,q7g hal,q9j,q8n]at hcnt;omega
  rw[ha]at hme;conv=>whnf
  repeat' (first|((first|refine q7p rfl ?_|refine aD ?_|refine wI ?_|refine DrawK.of QK mixed (.cons 0 false (.cons 1 false (.cons 2 false (.cons 3 false (.cons 4 false (.cons 5 false (.cons 6 false (.cons 8 false (.cons 9 false (.alo 7 (.cons 10 true (.cons 11 true (.cons 12 true (.cons 13 true .nil)))))))))))))) (by kernel_rfl) ?_|(refine IdxK.at (k:=j) rfl hme rfl ?_)|refine q9x 0 rfl (by decide) ?_|refine q9x 1 rfl (by decide) ?_|refine q9x a rfl (by omega) ?_|refine RowK.mk a _ (by omega) hrow (by simp) ?_|refine x3e (fun x hx=>by rcases q7m.1 hx with rfl;rfl) rfl ?_|refine OpK.focus QK 27 0 a 2 rfl rfl hrow (by simp) rfl rfl ?_|refine XX rfl (by rw[q7f];omega) ?_|(refine HR QK rfl rfl rfl rfl rfl rfl rfl rfl rfl (by decide) a [] (by omega) (by unfold avI;rw[q7f];omega) (by simp) ⟨by simp,by simp,by simp⟩ ?_));conv=>whnf)|(apply bD<;>intro _<;>first|omega|conv=>whnf))
  all_goals exact⟨j+1,hj,by omega,Le.of_eq (by rw[hst,<-hput];rfl)⟩
 ·have hje:(UT w f).take j=UT w f:=q8y hj;rw[hje];have hNl:=U9 n (UT w f);conv=>whnf
  repeat' (apply bD<;>intro _<;>first|omega|conv=>whnf)
  exact⟨_,.mat rfl (by unfold avI;rw[q7f,hNl]),rfl⟩
section
variable {p:Pg}{j:Nat}{f:Pr}
def dR(p:Pg)(j:Nat)(f:Pr):Int->Int->Prop:=stR (DC (QQ p j f) f)
theorem Mg(h:QO p=true)(hj:p.procs[j]?=some f){b:Int}:dR p j f a b↔wR p j f a b\/∃l∈trapsW (QQ p j f) f,∃t∈flL f.body,t.id∈l/\t.kind=10/\a=t.id/\b = -1:=by
 constructor
 ·rintro⟨s,hs,rfl,rfl⟩;rcases q7a.1 ((FH (Gj h hj)).2.1 s hs)with h1|h1
  ·obtain⟨l,hl,t,ht,hid,hk,rfl⟩:=(DT h hj).1 h1;exact .inr ⟨l,hl,t,ht,hid,hk,rfl,rfl⟩
  ·exact .inl ⟨s,h1,rfl,rfl⟩
 ·rintro(⟨s,hs,rfl,rfl⟩|⟨l,hl,t,ht,hid,hk,rfl,rfl⟩)
  ·exact Gy h hj (q7a.2 (.inr hs))
  ·exact Gy h hj (s:=⟨t.id,-1,3⟩) (q7a.2 (.inl ((DT h hj).2 ⟨l,hl,t,ht,hid,hk,rfl⟩)))
theorem Dw(h:QO p=true)(hj:p.procs[j]?=some f){b:Int}(hd:dR p j f a b):plP p j f a/\plP p j f b:=by
 have hA:q2a p j f a b:=by
  rcases(Mg h hj).1 hd with h1|h1
  ·exact(M6 h hj).2 (.inl h1)
  ·exact(M6 h hj).2 (.inr (.inr (.inl h1)))
 exact⟨(IB h hj hA).1,(IB h hj hA).2.1⟩
theorem GH(h:QO p=true)(hj:p.procs[j]?=some f):∀t∈UT (QQ p j f) f,(0<=t.1/\t.1<(QU f.body+2:Nat))/\0<=t.2/\t.2<(QU f.body+2:Nat):=fun t ht=>by
 obtain⟨s,hs,rfl⟩:=q7s.1 ht;obtain⟨h1,h2⟩:=Dw h hj ⟨s,hs,rfl,rfl⟩;exact⟨ZA h1,ZA h2⟩
theorem Hx(h:QO p=true)(hj:p.procs[j]?=some f){b:Int}(ha:plP p j f a)(hb:plP p j f b):(ixI p j f a,ixI p j f b)∈UT (QQ p j f) f↔dR p j f a b:=by
 constructor
 ·intro h1;obtain⟨s,hs,he⟩:=q7s.1 h1;obtain⟨h2,h3⟩:=Dw h hj ⟨s,hs,rfl,rfl⟩;have e1:ixI p j f s.src=ixI p j f a:=q9e Prod.fst he;have e2:ixI p j f s.dst=ixI p j f b:=q9e Prod.snd he;exact⟨s,hs,BJ h2 ha e1,BJ h3 hb e2⟩
 ·rintro⟨s,hs,rfl,rfl⟩;exact q7s.2 ⟨s,hs,rfl⟩
end


section
variable {p:Pg}{j:Nat}{f:Pr}
theorem AB{t:S}(ht:t∈flL f.body):∃x∈flatU f,x.s=t:=by
 rw[<-show(flatU f).map RI.s=flL f.body from N5 1 0 false f.body]at ht;exact q7s.1 ht
end
theorem Kd{l:List Str}:ZH l=false↔l.Nodup:=by
 refine⟨Ry,fun h=>?_⟩;unfold ZH;rw[x2e];intro i hi;rw[q9q]at hi;rw[x2d,x2e];intro s hs he;rw[q7g hi]at he;have he:l[i]=s:=eq_of_beq he;obtain⟨k,hk,rfl⟩:=x0w.1 hs;rw[q8n]at hk;rw[List.getElem_take]at he;have:=(List.getElem_inj h).1 he;omega
def allV(p:Pg)(f:Pr):List Str:=p.globals++Ja f
structure ScopeOK(p:Pg)(f:Pr):Prop where
 nd:(allV p f).Nodup
 kn:∀t∈flL f.body,knownB p f (procsN p) t=true
theorem Uh{p:Pg}{f:Pr}(hg:ZH p.globals=false):WF p f=none↔ScopeOK p f:=by
 unfold WF;have h1:(ZH (Ja f)||(Ja f).any (fun n=>p.globals.any fun s=>n==s))=false↔(allV p f).Nodup:=by
  unfold allV;rw[x2y,Kd,x0x,x2e];have hgn:=Kd.1 hg;constructor
  ·rintro⟨a,b⟩;refine⟨hgn,a,fun x hx y hy e=>b y hy ?_⟩;rw[q9c];exact⟨x,hx,by rw[e];exact x0i _⟩
  ·rintro⟨_,a,b⟩;refine⟨a,fun y hy hh=>?_⟩;obtain⟨x,hx,he⟩:=q9c.1 hh;exact b x hx y hy (eq_of_beq he).symm
 cases hc:(ZH (Ja f)||(Ja f).any (fun n=>p.globals.any fun s=>n==s))with
 | true=>
   rw[q8g];refine⟨fun h=>by(cases h),fun h=>?_⟩;have:=h1.2 h.nd;rw[hc]at this;cases this
 | false=>
   rw[q8b,x3d,x0o];constructor
   ·exact fun h=>⟨h1.1 hc,fun t ht=>by have:=h t ht;simpa using this⟩
   ·intro h t ht;rw[h.kn t ht];decide
theorem Cy{p:Pg}(hm:HY p=true):(XZ p).1=0↔ZD p=false/\∀f∈p.procs,ScopeOK p f:=by
 unfold XZ;rw[hm,q8g];cases hb:ZD p with
 |true=>rw[q8g];exact⟨fun h=>by simp at h,fun h=>by cases h.1⟩
 | false=>
   have hg:ZH p.globals=false:=by
    unfold ZD at hb;rw[x2y]at hb;exact hb.1
   rw[q8b];cases hf:p.procs.findSome? (WF p)with
   | some a=>
     refine⟨fun h=>by simp at h,fun h=>?_⟩;obtain⟨f,hm2,hq⟩:=List.exists_of_findSome?_eq_some hf;rw[(Uh hg).2 (h.2 f hm2)]at hq;cases hq
   |none=>exact⟨fun _=>⟨rfl,fun f hm2=>(Uh hg).1 (x2z.1 hf f hm2)⟩,fun _=>rfl⟩
theorem TD{p:Pg}(hs:(XZ p).1=0):(UM p).1=0 ↔ ∀t∈YZ p,t.kind=4->HC p t=true:=by
 unfold UM;rw[if_neg (by omega)];cases hf:(YZ p).find? fun t=>decide (t.kind=4) && !HC p t with
 | some t=>
   have h1:=x0c hf;have h2:=x2q hf;simp only[q8j,q8e,x0p]at h2;refine⟨fun h=>by simp at h,fun h=>?_⟩;have:=h t h1 h2.1;rw[h2.2]at this;cases this
 | none=>
   refine⟨fun _ t ht hk=>?_,fun _=>rfl⟩;have:=x0o.1 hf t ht;simp only[q8j,q8e,x0p,not_and]at this;simpa using this hk
section
variable {p:Pg}{j:Nat}{f:Pr}{n:Str}
end
theorem Rh{p:Pg}(h:QO p=true){f:Pr}(hf:f∈p.procs):∃k,p.procs[k]?=some f/\X7 p f.name=some (QQ p k f):=by
 cases hw:X7 p f.name with
 | none=>
   exfalso;unfold X7 at hw;rw[h,q8g]at hw;cases hq:p.procs.find? (fun g=>g.name==f.name)with
   | none=>
     have:=x0o.1 hq _ hf;simp at this
   |some g=>rw[hq]at hw;cases hw
 | some w=>
   obtain⟨k,g,hkj,rfl,_,hgn,_⟩:=KI hw;have he:g=f:=Ux (U6 h) g (q8u hkj) f hf hgn;subst he;exact⟨k,hkj,rfl⟩
theorem Lm{p:Pg}(h:QO p=true){id:Int}(hid:id∈Jf p 0):∃k f t,p.procs[k]?=some f/\t∈flL f.body/\t.id=id/\X7 p (WI p id).2.1=some (QQ p k f):=by
 have hm:=(QD h).1;unfold Jf at hid;obtain⟨x,hx,rfl⟩:=q7s.1 hid;have hx:=(q8t.1 hx).1;rw[G7 hm]at hx;obtain⟨g,hg,hxg⟩:=q8r.1 hx;rw[<-Zt hm hg]at hxg;unfold WI;cases hr:N1 p x.s.id with
 | none=>
   exfalso;unfold N1 at hr;have h1:=x2z.1 hr g hg;unfold RJ at h1;rw[x3d,x0o]at h1;exact h1 x hxg (by simp)
 | some y=>
   obtain⟨y,nm⟩:=y;unfold N1 at hr;obtain⟨f,hf,h1⟩:=List.exists_of_findSome?_eq_some hr;unfold RJ at h1;rw[x2p]at h1;obtain⟨z,h2,h3⟩:=h1;obtain rfl:z=y:=q9e Prod.fst h3;have hnm:f.name=nm:=q9e Prod.snd h3;obtain⟨k,hk,hw⟩:=Rh h hf;refine⟨k,f,z.s,hk,O6 h hk (x0c h2),by simpa using x2q h2,?_⟩;show X7 p nm=_;rw[<-hnm];exact hw
theorem OQ{l:List Int}(n:Int)(h:l≠[]):DO l n∈l:=by
 unfold DO;have hl:0<(l.length:Int):=by
  have:=x3o.2 h;omega
 have:=ML (n:=n) hl;rw[if_neg h,q7h,q7g (by omega)];exact q7i _
theorem Du{p:Pg}(h:QO p=true){id:Int}(h1:1<=id)(h2:id<=(sheetOf p).l.length):∃k f it,p.procs[k]?=some f/\it∈itsOf p k f/\it.s.id=id/\X7 p (WI p id).2.1=some (QQ p k f)/\(WI p id).2.2=true/\q5o p id=(it.next,true):=by
 obtain⟨_,_,_,hlen,_⟩:=QV p;obtain⟨j,f,hj,h3,h4⟩:=Lp p.procs (id-1).toNat (by omega);obtain⟨it,h5,h6⟩:=KC hj h3 h4;have h7:=Hh h hj h3 h4 h5;have h8:it.s.id=id:=by omega
 have hm:=(QD h).1;obtain⟨x,hx,hxs⟩:=AB (Zk h6);have hid:id∈Jf p 0:=by
  unfold Jf;refine q7s.2 ⟨x,q8t.2 ⟨?_,rfl⟩,by rw[hxs,h8]⟩;rw[G7 hm];exact q8r.2 ⟨f,q8u hj,hx⟩
 obtain⟨k,g,t,hk,ht,hti,hw⟩:=Lm h hid;have hb:=WG hm hk ht;have hbl:QM p.procs k+QU g.body<=(sheetOf p).l.length:=by
  obtain⟨_,_,_,_,hsp⟩:=QV p;have:=(hsp k g hk).2.2.1;omega
 obtain⟨it2,h9,h10⟩:=KC hk (k:=(id-1).toNat) (by omega) (by omega);rw[h5]at h9;obtain rfl:=x0m h9;refine⟨k,g,it,hk,h10,h8,hw,?_,?_⟩
 ·cases ho:(WI p id).2.2 with
  |true=>rfl
  | false=>
    exfalso;unfold WI at ho;cases hr:N1 p id with
    |some y=>rw[hr]at ho;cases ho
    | none=>
      unfold N1 at hr;have h11:=x2z.1 hr f (q8u hj);unfold RJ at h11;rw[x3d,x0o]at h11;rw[Zt hm (q8u hj)]at h11;exact h11 x hx (by rw[hxs,h8];simp)
 ·unfold q5o;rw[h,h5,x0b h1,x0b h2];rfl
theorem Ly{p:Pg}{n:Str}{w:Way}(h:X7 p n=some w):ofR p n=w.real:=by
 unfold ofR;rw[h]
theorem Ep{p:Pg}{n:Str}(h:X7 p n=none):ofR p n=[]:=by
 unfold ofR;rw[h]
theorem Ew{p:Pg}(h:QO p=true){f:Pr}(hj:p.procs[j]?=some f){y:Int}:y∈B8 (QQ p j f)↔0<y/\Rch (wR p j f) 0 y:=by
 have hn:(QQ p j f).n=(QU f.body+2:Nat):=rfl;have hpl:∀i:Nat,1<=i->i<=QU f.body->QH p j (QU f.body+2:Nat) i=QM p.procs j+i:=fun i h1 h2=>by
  unfold QH loI;rw[if_neg (by omega),if_neg (by omega)];omega
 have hix:∀i:Nat,1<=i->i<=QU f.body->(ixI p j f (QM p.procs j+i)).toNat=i:=fun i h1 h2=>by
  unfold ixI UZ loI hiI
  (repeat' split)<;>omega
 unfold B8;rw[q7s];constructor
 ·rintro⟨i,hi,rfl⟩;obtain⟨h1,h2⟩:=q8t.1 hi;rw[hn]at h1;have h3:=List.mem_range'_1.1 h1;have e1:=hpl i (by omega) (by omega);have e2:=hix i (by omega) (by omega);show 0<QH p j (QU f.body+2:Nat) i/\Rch (wR p j f) 0 (QH p j (QU f.body+2:Nat) i);rw[e1];refine⟨by omega,(DH h hj (.inr (.inr ⟨by omega,by omega⟩))).1 ?_⟩;rw[e2];exact h2
 ·rintro⟨h0,h1⟩;have hp:plP p j f y:=by
   cases h1 with
   |refl=>exact .inl rfl
   | tail _ h2=>
     obtain⟨t,ht,_,rfl⟩:=h2;exact(WO h hj t ht).2
  have h2:=(DH h hj hp).2 h1;rcases hp with hp|hp|⟨h3,h4⟩
  ·omega
  ·omega
  obtain⟨i,hi⟩ : ∃i:Nat,y=QM p.procs j+i:=⟨(y-QM p.procs j).toNat,by omega⟩;subst hi;rw[hix i (by omega) (by omega)]at h2;refine⟨i,q8t.2 ⟨List.mem_range'_1.2 ⟨by omega,?_⟩,h2⟩,hpl i (by omega) (by omega)⟩;rw[hn];omega
theorem Ev{p:Pg}{f:Pr}:(B8 (QQ p j f)).Pairwise ordP:=by
 have hn:(QQ p j f).n=(QU f.body+2:Nat):=rfl;unfold B8;rw[List.pairwise_map];have h1:((List.range' 1 ((QQ p j f).n-2).toNat).filter fun i=>(QQ p j f).live.getD i false).Pairwise fun a b=>a<b:=List.Pairwise.sublist List.filter_sublist List.pairwise_lt_range';refine h1.imp_of_mem fun {a b} ha hb hab=>?_;have h2:=List.mem_range'_1.1 (q8t.1 ha).1;have h3:=List.mem_range'_1.1 (q8t.1 hb).1;rw[hn]at h2 h3;rw[DD];right;show QH p j (QU f.body+2:Nat) a ≠ -1/\QH p j (QU f.body+2:Nat) b ≠ -1/\QH p j (QU f.body+2:Nat) a<QH p j (QU f.body+2:Nat) b;unfold QH loI
 (repeat' split)<;>omega
theorem Ez(p:Pg)(n:Str):(PH p n).Pairwise ordP/\∀y,y∈PH p n↔0<y/\Rch (stR (ofR p n)) 0 y:=by
 cases hw:X7 p n with
 | none=>
   have e:PH p n=[]:=by unfold PH;rw[hw]
   rw[e,Ep hw];refine⟨.nil,fun y=>⟨fun h=>(by cases h),fun⟨h0,h1⟩=>?_⟩⟩;cases h1 with
   |refl=>omega
   |tail _ h2=>obtain⟨t,ht,_⟩:=h2;cases ht
 | some w=>
   obtain⟨k,f,hk,rfl,hc,_⟩:=KI hw;have e:PH p n=B8 (QQ p k f):=by unfold PH;rw[hw]
   rw[e,Ly hw];exact⟨Ev,fun y=>Ew hc hk⟩
def q6v(l:List Int)(r:AV):Prop:=∃m,r=QA m/\m.Pairwise ordP/\∀s,s∈m↔s∈l
section
variable {p:Pg}{j:Nat}{f:Pr}
end
theorem BW(l:List Int)(hl:l.length<=1000000000):SpecP prog 18 [QA l] (fun r=>q6v l r):=by
 refine sB HW func18 rfl call18 ?_;conv=>whnf
 refine iM fun _=>?_;have hll:(l.map (AV.int .i64)).length=l.length:=q7f _;conv=>whnf
 refine LoopK.inv QK (fun x:Nat×List Int=>⟨[(0,.p (QA l)),(3,.hd 0 0 x.2.length),(9,.p (.int .i64 (l.map (AV.int .i64)).length)),(10,.p (.int .i64 x.1))],[(0,.own 3 1 (x.2.map (.int .i64)))]⟩) (fun x=>x.1<=l.length/\RiseI ordP l x.2 x.1) (fun x=>l.length-x.1) (0,[])
  (Le.mk [(0,.own 3 1 [])] (by simp[Chunk.new0];rfl) (by simp) (by simp) (.r (.cons (.nil q7d) (.r (.r .nil)))) (.new q7d .nil)) ⟨q7c _,RiseI.zero⟩ ?_
 rintro⟨i,out⟩ ⟨h2,h3⟩;simp only at h2 h3⊢;have hol:=h3.len ordP.irr;rcases q7e i l.length with hi|hi
 ·conv=>whnf
  repeat' (first|(refine iM fun _=>?_;conv=>whnf)|(apply bD<;>intro _<;>first|omega|conv=>whnf))
  refine LoopK.inv QK (fun x:Nat×Option Int=>⟨[(0,.p (QA l)),(3,.hd 0 0 out.length),(4,.p (.int .i64 (x.2.getD 0))),(5,.p (.bool x.2.isSome)),(9,.p (.int .i64 (l.map (AV.int .i64)).length)),(10,.p (.int .i64 i)),(12,.p (QA l)),(13,.p (.int .i64 (l.map (AV.int .i64)).length)),(14,.p (.int .i64 x.1))],[(0,.own 3 1 (out.map (.int .i64)))]⟩) (fun x=>x.1<=l.length/\LeastI ordP l out x.1 x.2) (fun x=>l.length-x.1) (0,none) (Le.mk [] (by simp) (by simp) (by simp) (.r (.r (.r (.cons (.p (Sub.ff rfl)) (.r (.r (.r (.r (.r .nil))))))))) (.cons rfl (.refl _) .nil)) ⟨q7c _,LeastI.zero⟩ ?_;rintro⟨k,o⟩ ⟨h4,h5⟩;simp only at h4 h5⊢;rcases q7e k l.length with hk|hk
  ·have hin:Pu out l[k]=true->l[k]∈out:=Gl.1;have hno:Pu out l[k]=false->l[k]∉out:=fun h hm=>by rw[Gl.2 hm]at h;cases h
   cases o with
   | none=>
     simp only[Option.getD_none,Option.isSome_none];conv=>whnf
     repeat' (first|((first|(refine iA fun _=>?_)|refine wI ?_|(refine XU (UP out (l[k]'hk)) (.cons (.hd rfl (by simp)) (.cons (.p (Sub.refl _)) .nil)) (by rintro _ rfl;rfl) ?_;rintro _ rfl));conv=>whnf)|(apply bD<;>intro _<;>first|omega|conv=>whnf)|(apply bN<;>intro _<;>conv=>whnf))
     all_goals first
      |(exfalso;simp_all;done)
      |exact⟨(k+1,none),⟨by simp only;omega,h5.old hk (hin (by assumption))⟩,by simp only;omega,Le.of_eq rfl⟩
      |exact⟨(k+1,some l[k]),⟨by simp only;omega,h5.first hk (hno (by assumption))⟩,by simp only;omega,(Le.mk [] (by simp) (by simp) (by simp) (.r (.r (.r (.cons (.p (Sub.tt rfl)) (.r (.r (.r (.r (.r .nil))))))))) (.cons rfl (.refl _) .nil))⟩
   | some m=>
     simp only[q9j,Option.isSome_some];conv=>whnf
     repeat' (first|((first|(refine iA fun _=>?_)|refine wI ?_|(refine XU (UP out (l[k]'hk)) (.cons (.hd rfl (by simp)) (.cons (.p (Sub.refl _)) .nil)) (by rintro _ rfl;rfl) ?_;rintro _ rfl)|refine cP (PT (l[k]'hk) m) ?_);conv=>whnf)|(apply bD<;>intro _<;>first|omega|conv=>whnf)|(apply bN<;>intro _<;>conv=>whnf)|(apply bB<;>intro _<;>conv=>whnf))
     all_goals first
      |(exfalso;simp_all;done)
      |exact⟨(k+1,some m),⟨by simp only;omega,h5.old hk (hin (by assumption))⟩,by simp only;omega,Le.of_eq rfl⟩
      |exact⟨(k+1,some l[k]),⟨by simp only;omega,h5.less ordP.trans hk (hno (by assumption)) (by assumption)⟩,by simp only;omega,(Le.mk [] (by simp) (by simp) (by simp) (.r (.r (.r (.cons (.p (Sub.tt rfl)) (.r (.r (.r (.r (.r .nil))))))))) (.cons rfl (.refl _) .nil))⟩
      | (have hb:Oe l[k] m=false:=by assumption
         exact⟨(k+1,some m),⟨by simp only;omega,h5.more ordP.total hk (fun h=>by unfold ordP at h;rw[hb]at h;cases h)⟩,by simp only;omega,Le.of_eq rfl⟩)
  ·obtain rfl:k=l.length:=by omega
   cases o with
   | none=>
     simp only[Option.getD_none,Option.isSome_none];conv=>whnf
     repeat' (first|((first|refine q7p rfl ?_|refine aD ?_|refine bP ?_|refine wI ?_);conv=>whnf)|(apply bD<;>intro _<;>first|omega|conv=>whnf)|(apply bB<;>intro _<;>conv=>whnf))
     all_goals first
      |(exfalso;simp_all;done)
      |exact⟨(i+1,out),⟨by simp only;omega,h3.stay h5⟩,by simp only;omega,Le.of_eq rfl⟩
   | some m=>
     simp only[q9j,Option.isSome_some];conv=>whnf
     repeat' (first|((first|refine q7p rfl ?_|refine aD ?_|refine bP ?_|refine wI ?_|refine XX (by simp) (by simp;omega) ?_);conv=>whnf)|(apply bD<;>intro _<;>first|omega|conv=>whnf)|(apply bB<;>intro _<;>conv=>whnf))
     all_goals first
      |(exfalso;simp_all;done)
      |exact⟨(i+1,out++[m]),⟨by simp only;omega,h3.snoc h5⟩,by simp only;omega,Le.of_eq (by simp only[q7b,q7o];rfl)⟩
 ·obtain⟨h6,h7⟩:=h3.all ordP.irr (by omega);conv=>whnf
  repeat' (apply bD<;>intro _<;>first|omega|conv=>whnf)
  exact⟨_,.hd rfl (by simp),out,rfl,h6,h7⟩
section
variable {p:Pg}{j:Nat}{f:Pr}
end
end Go.Ab
