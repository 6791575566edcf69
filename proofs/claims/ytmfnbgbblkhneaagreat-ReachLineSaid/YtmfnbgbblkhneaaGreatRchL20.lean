/- The library's contracts at this seat's program, in plain words (printed by the kit's lay-plain.mjs). Conditions: none. -/
import Derived.Shelf.Sort.Plain
import Derived.Shelf.Slices.In.SortNone
import Derived.Shelf.Slices.CompactS
import Derived.Ground.Names2Prog
import Derived.Shelf.Slices.SearchI
import Derived.Shelf.Slices.Empties
import Derived.Shelf.Spec.SlicesInsert
import Derived.Shelf.Spec.SlicesInsertGrow
import Derived.Shelf.SlSortCmp.NoneTotal
import Derived.Ground.SlsfProg
import Derived.Test.YtmfnbgbblkhneaaGreatProg
import Derived.Test.YtmfnbgbblkhneaaGreatRchL8
import Derived.Test.YtmfnbgbblkhneaaGreatRchL9
import Derived.Test.YtmfnbgbblkhneaaGreatRchL13
import Derived.Test.YtmfnbgbblkhneaaGreatRchL15
import Derived.Test.YtmfnbgbblkhneaaGreatRchL16
import Derived.Test.YtmfnbgbblkhneaaGreatRchL17
import Derived.Test.YtmfnbgbblkhneaaGreatRchL18
import Derived.Test.YtmfnbgbblkhneaaGreatRchL19
set_option linter.unusedSimpArgs false
set_option linter.unusedVariables false
set_option maxRecDepth 100000
set_option maxHeartbeats 16000000
namespace Go.Proofs
open Go.Shelf
def Tryz.laysG_ren:Go.Shelf.Ren:=⟨fun|6=>100|15=>160|14=>159|28=>209|29=>210|20=>201|21=>202|22=>203|23=>204|24=>205|25=>206|26=>207|27=>208|46=>241|47=>242|48=>243|49=>244|50=>245|57=>268|n=>n,fun|22=>97|24=>99|25=>161|3=>3|39=>216|0=>0|53=>253|55=>255|4=>4|46=>247|45=>246|50=>181|5=>5|9=>9|66=>274|70=>278|76=>293|77=>60|n=>n,fun|n=>n⟩
theorem K7:Go.Proofs.SlLaysF0.n6 Tryz.prog Tryz.laysG_ren:={
 mixed:=by kernel_rfl
 f6:=⟨Tryz.f100.name,by decide,Tryz.func100.trans (congrArg some (by kernel_rfl))⟩
 f14:=⟨Tryz.f159.name,by decide,Tryz.func159.trans (congrArg some (by kernel_rfl))⟩
 f15:=Tryz.func160.trans (congrArg some (by kernel_rfl))
 f20:=⟨Tryz.f201.name,by decide,Tryz.func201.trans (congrArg some (by kernel_rfl))⟩
 f21:=⟨Tryz.f202.name,by decide,Tryz.func202.trans (congrArg some (by kernel_rfl))⟩
 f22:=⟨Tryz.f203.name,by decide,Tryz.func203.trans (congrArg some (by kernel_rfl))⟩
 f23:=⟨Tryz.f204.name,by decide,Tryz.func204.trans (congrArg some (by kernel_rfl))⟩
 f24:=⟨Tryz.f205.name,by decide,Tryz.func205.trans (congrArg some (by kernel_rfl))⟩
 f25:=⟨Tryz.f206.name,by decide,Tryz.func206.trans (congrArg some (by kernel_rfl))⟩
 f26:=⟨Tryz.f207.name,by decide,Tryz.func207.trans (congrArg some (by kernel_rfl))⟩
 f27:=⟨Tryz.f208.name,by decide,Tryz.func208.trans (congrArg some (by kernel_rfl))⟩
 f28:=Tryz.func209.trans (congrArg some (by kernel_rfl))
 f29:=Tryz.func210.trans (congrArg some (by kernel_rfl))
 f46:=⟨Tryz.f241.name,by decide,Tryz.func241.trans (congrArg some (by kernel_rfl))⟩
 f47:=Tryz.func242.trans (congrArg some (by kernel_rfl))
 f48:=Tryz.func243.trans (congrArg some (by kernel_rfl))
 f49:=⟨Tryz.f244.name,by decide,Tryz.func244.trans (congrArg some (by kernel_rfl))⟩
 f50:=⟨Tryz.f245.name,by decide,Tryz.func245.trans (congrArg some (by kernel_rfl))⟩
 f57:=⟨Tryz.f268.name,by decide,Tryz.func268.trans (congrArg some (by kernel_rfl))⟩
 t0:=Tryz.underlying0
 a0:=Tryz.isAgg0
 z0:=Tryz.sizeOf0
 v0:=Tryz.zeroValue0
 t3:=Tryz.underlying3
 a3:=Tryz.isAgg3
 z3:=Tryz.sizeOf3
 v3:=Tryz.zeroValue3
 t4:=Tryz.underlying4
 a4:=Tryz.isAgg4
 z4:=Tryz.sizeOf4
 v4:=Tryz.zeroValue4
 t5:=Tryz.underlying5
 a5:=Tryz.isAgg5
 z5:=Tryz.sizeOf5
 v5:=Tryz.zeroValue5
 t9:=Tryz.underlying9
 a9:=Tryz.isAgg9
 z9:=Tryz.sizeOf9
 v9:=Tryz.zeroValue9
 t22:=Tryz.underlying97
 a22:=Tryz.isAgg97
 z22:=Tryz.sizeOf97
 v22:=Tryz.zeroValue97
 t25:=Tryz.underlying161
 a25:=Tryz.isAgg161
 z25:=Tryz.sizeOf161
 v25:=Tryz.zeroValue161
 t39:=Tryz.underlying216
 a39:=Tryz.isAgg216
 z39:=Tryz.sizeOf216
 v39:=Tryz.zeroValue216
 t45:=Tryz.underlying246
 a45:=Tryz.isAgg246
 z45:=Tryz.sizeOf246
 v45:=Tryz.zeroValue246
 t46:=Tryz.underlying247
 a46:=Tryz.isAgg247
 z46:=Tryz.sizeOf247
 v46:=Tryz.zeroValue247
 t50:=Tryz.underlying181
 a50:=Tryz.isAgg181
 z50:=Tryz.sizeOf181
 v50:=Tryz.zeroValue181
 t53:=Tryz.underlying253
 a53:=Tryz.isAgg253
 z53:=Tryz.sizeOf253
 v53:=Tryz.zeroValue253
 t55:=Tryz.underlying255
 a55:=Tryz.isAgg255
 z55:=Tryz.sizeOf255
 v55:=Tryz.zeroValue255
 t66:=Tryz.underlying274
 a66:=Tryz.isAgg274
 z66:=Tryz.sizeOf274
 v66:=Tryz.zeroValue274
 t70:=Tryz.underlying278
 a70:=Tryz.isAgg278
 z70:=Tryz.sizeOf278
 v70:=Tryz.zeroValue278
 t76:=Tryz.underlying293
 a76:=Tryz.isAgg293
 z76:=Tryz.sizeOf293
 v76:=Tryz.zeroValue293
 t77:=Tryz.underlying60
 a77:=Tryz.isAgg60
 z77:=Tryz.sizeOf60
 v77:=Tryz.zeroValue60}
end Go.Proofs
namespace Go.Ab
open Go.Proofs.Tryz
open Go.Proofs Go.Sort Go.RowKit Go.Lib
variable {a:Int}{j:Nat}{σ:Mem}
structure Fl where
 src:Int
 dst:Int
 var:Str
deriving DecidableEq
def Fl.cells(f:Fl):List AV:=[.int .i64 f.src,.int .i64 f.dst,.str f.var]
def It(a b:Str):Int:=if Op.bytesLess a b=true then -1 else if Op.bytesLess b a=true then 1 else 0
theorem Ic(a b:Str):It a b<0↔ltT a b:=by
 unfold It ltT;split
 ·rename_i h;exact⟨fun _=>h,fun _=>by decide⟩
 ·rename_i h;split
  ·exact⟨fun h2=>absurd h2 (by decide),fun h2=>absurd h2 h⟩
  ·exact⟨fun h2=>absurd h2 (by decide),fun h2=>absurd h2 h⟩
theorem Cs(a b:Str):It a b=0↔a=b:=by
 unfold It;split
 ·rename_i h;refine⟨fun h2=>absurd h2 (by decide),fun h2=>?_⟩;subst h2;exact absurd h (ltT.irr a)
 ·rename_i h;split
  ·rename_i h1;refine⟨fun h2=>absurd h2 (by decide),fun h2=>?_⟩;subst h2;exact absurd h1 (ltT.irr a)
  ·rename_i h1;refine⟨fun _=>x5p fun hne=>?_,fun _=>rfl⟩;rcases ltT.total hne with h3|h3
   ·exact h h3
   ·exact h1 h3
def flC(a b:Fl):Int:=orI [Bq (QT a.src) (QT b.src),Bq (QT a.dst) (QT b.dst),It a.var b.var]
theorem ND(a b:Str):SpecP prog 105 [.str a,.str b] (fun r=>r=.int .i64 (It a b)):=by
 refine sB FN func105 rfl call105 ?_;conv=>whnf
 repeat' (first|((first|(refine iM fun _=>?_)|refine dA ?_|refine x2t rfl ?_|refine aD ?_|refine aR ?_|refine bP ?_|(refine iA fun _=>?_)|refine IdxK.xs (by omega) ?_|refine QX (by omega) ?_|(refine ByteK.at (by omega) ?_)|refine wI ?_|refine cP (UB a) ?_|refine cP (UB b) ?_);conv=>whnf)|(apply bD<;>intro _<;>first|omega|conv=>whnf)|(apply bE<;>intro _<;>first|omega|conv=>whnf)|(apply bN<;>intro _<;>conv=>whnf)|(apply bB<;>intro _<;>conv=>whnf))
 all_goals first
  |contradiction
  | (have h8:Op.bytesLess a b=true:=by assumption
     exact RetK.int (by unfold It;rw[if_pos h8]))
  | (have h8:Op.bytesLess a b=false:=by assumption
     have h9:(Op.bytesLess a b||a==b)=true:=by assumption
     have h7:a=b:=by rw[h8]at h9;simpa using h9
     exact RetK.int ((Cs a b).2 h7).symm)
  | (have h8:Op.bytesLess a b=false:=by assumption
     have h9:(Op.bytesLess a b||a==b)=false:=by assumption
     have h7:a≠b:=by
      rw[h8]at h9;rintro rfl;simp at h9
     have h6:Op.bytesLess b a=true:=by
      rcases ltT.total h7 with h|h
      ·exact absurd h (by unfold ltT;rw[h8];decide)
      ·exact h
     exact RetK.int (by unfold It;rw[if_neg (by rw[h8];decide),if_pos h6]))
theorem Xr(a b:Fl):SpecP prog 101 [.agg a.cells,.agg b.cells] (fun r=>r=.int .i64 (flC a b)):=by
 refine sB PA func101 rfl call101 ?_;conv=>whnf
 have hS:=ND a.var b.var;repeat' (first|((first|(refine iM fun _=>?_)|refine cP (Pl _) ?_|refine cP (HE _ _) ?_|refine cP (Uz [Bq (QT a.src) (QT b.src),Bq (QT a.dst) (QT b.dst),It a.var b.var]) ?_|refine dA ?_|refine x2t rfl ?_|refine aD ?_|refine aR ?_|refine bP ?_|(refine iA fun _=>?_)|refine IdxK.xs (by omega) ?_|refine QX (by omega) ?_|(refine ByteK.at (by omega) ?_)|refine wI ?_|refine BsK.pureL rfl rfl ?_|refine cP hS ?_);conv=>whnf)|(apply bD<;>intro _<;>first|omega|conv=>whnf)|(apply bE<;>intro _<;>first|omega|conv=>whnf)|(apply bN<;>intro _<;>conv=>whnf)|(apply bB<;>intro _<;>conv=>whnf))
 all_goals first
  |exact RetK.p rfl
def ltF(a b:Fl):Prop:=QT a.src<QT b.src\/QT a.src=QT b.src/\(QT a.dst<QT b.dst\/QT a.dst=QT b.dst/\ltT a.var b.var)
theorem DQ(a b:Fl):flC a b<0↔ltF a b:=by
 unfold flC ltF;rw[AP,KV,KV,Ic,VL,VL]
theorem ltF.irr(a:Fl):¬ltF a a:=by
 rintro(h|⟨_,h|⟨_,h⟩⟩)
 ·omega
 ·omega
 ·exact ltT.irr _ h
theorem ltF.trans(a b c:Fl)(h1:ltF a b)(h2:ltF b c):ltF a c:=by
 unfold ltF at*
 rcases h1 with h1|⟨e1,h1⟩<;>rcases h2 with h2|⟨e2,h2⟩
 ·exact .inl (by omega)
 ·exact .inl (by omega)
 ·exact .inl (by omega)
 ·refine .inr ⟨by omega,?_⟩;rcases h1 with h1|⟨f1,h1⟩<;>rcases h2 with h2|⟨f2,h2⟩
  ·exact .inl (by omega)
  ·exact .inl (by omega)
  ·exact .inl (by omega)
  ·exact .inr ⟨by omega,ltT.trans _ _ _ h1 h2⟩
theorem ltT.neg{a b c:Str}(h1:¬ltT a b)(h2:¬ltT b c):¬ltT a c:=fun h=>by
 by_cases e:a=b
 ·subst e;exact h2 h
 ·rcases ltT.total e with h3|h3
  ·exact h1 h3
  ·exact h2 (ltT.trans b a c h3 h)
theorem ltF.neg{x y z:Fl}(h1:¬ltF x y)(h2:¬ltF y z):¬ltF x z:=fun h=>by
 unfold ltF at h1 h2 h;have k1:¬QT x.src<QT y.src:=fun h=>h1 (.inl h);have k2:¬QT y.src<QT z.src:=fun h=>h2 (.inl h);rcases h with h|⟨e,h⟩
 ·omega
 have e1:QT x.src=QT y.src:=by omega
 have e2:QT y.src=QT z.src:=by omega
 have m1:¬QT x.dst<QT y.dst:=fun h=>h1 (.inr ⟨e1,.inl h⟩);have m2:¬QT y.dst<QT z.dst:=fun h=>h2 (.inr ⟨e2,.inl h⟩);rcases h with h|⟨f,h⟩
 ·omega
 exact ltT.neg (fun h=>h1 (.inr ⟨e1,.inr ⟨by omega,h⟩⟩)) (fun h=>h2 (.inr ⟨e2,.inr ⟨by omega,h⟩⟩)) h
def okFl(s:Fl):Prop:=s.src≠9223372036854775807/\s.dst≠9223372036854775807/\s.var.length<=maxLen
abbrev OFl:={s:Fl // okFl s}
instance:Inhabited OFl:=⟨⟨⟨0,0,[]⟩,by decide,by decide,x3z _⟩⟩
def cfF(a b:OFl):Int:=flC a.1 b.1
theorem U9(a b:OFl):ltOf cfF a b=true↔ltF a.1 b.1:=by
 unfold ltOf cfF;rw[x3i,DQ]
theorem LM(a b:OFl):ltOf cfF a b=false ↔ ¬ltF a.1 b.1:=by
 rw[<-U9,x8q]
theorem q2j:SWO (ltOf cfF):=by
 refine⟨fun x=>?_,fun x y z h1 h2=>?_,fun x y z h1 h2=>?_⟩
 ·exact(LM x x).2 (ltF.irr _)
 ·first
   |exact(U9 x z).2 (ltF.trans _ _ _ ((U9 x y).1 h1) ((U9 y z).1 h2))
   |exact(LM x z).2 (ltF.neg ((LM x y).1 h1) ((LM y z).1 h2))
 ·first
   |exact(U9 x z).2 (ltF.trans _ _ _ ((U9 x y).1 h1) ((U9 y z).1 h2))
   |exact(LM x z).2 (ltF.neg ((LM x y).1 h1) ((LM y z).1 h2))
theorem ltF.total{a b:Fl}(ha:okFl a)(hb:okFl b)(h1:¬ltF a b)(h2:¬ltF b a):a=b:=by
 unfold ltF at h1 h2;obtain⟨a1,a2,a3⟩:=a;obtain⟨b1,b2,b3⟩:=b;simp only at*
 have k1:¬QT a1<QT b1:=fun h=>h1 (.inl h);have k2:¬QT b1<QT a1:=fun h=>h2 (.inl h);have e1:=YX (x:=a1) (y:=b1) ha.1 hb.1 (by omega);have m1:¬QT a2<QT b2:=fun h=>h1 (.inr ⟨by omega,.inl h⟩);have m2:¬QT b2<QT a2:=fun h=>h2 (.inr ⟨by omega,.inl h⟩);have e2:=YX (x:=a2) (y:=b2) ha.2.1 hb.2.1 (by omega);have e3:a3=b3:=x5p fun hne=>by
  rcases ltT.total hne with h|h
  ·exact h1 (.inr ⟨by omega,.inr ⟨by omega,h⟩⟩)
  ·exact h2 (.inr ⟨by omega,.inr ⟨by omega,h⟩⟩)
 subst e1 e2 e3;rfl
theorem q2k(x y:OFl)(h1:ltOf cfF x y=false)(h2:ltOf cfF y x=false):x=y:=Subtype.ext (ltF.total x.2 y.2 ((LM x y).1 h1) ((LM y x).1 h2))
def Bx(s:OFl):List Value:=[.int .i64 s.1.src,.int .i64 s.1.dst,.string ⟨s.1.var.toArray⟩]
theorem P3(s:OFl):Rep σ (.agg s.1.cells) (.agg (Bx s).toArray):=by
 refine .agg _ _ (fun j=>(Bx s).toArray.getD j undef) rfl (fun j c hj=>?_) (fun j c hj=>?_)
 ·match j,hj with
  |0,_=>rfl
  |1,_=>rfl
  |2,_=>rfl
 ·match j,hj with
  |0,hj=>cases hj;exact .int _ _
  |1,hj=>cases hj;exact .int _ _
  |2,hj=>cases hj;exact .str _ s.2.2.2
theorem Ct(W:World)(x y:OFl):Calls prog 101 (#[.agg (Bx x).toArray,.agg (Bx y).toArray] ++ #[]) W fun e w'=>e=.returned (.int .i64 (cfF x y))/\∃q os',w'=grow (W.drewN q) os':=by
 refine((Xr x.1 y.1).ok (fun _=>none) W #[.agg (Bx x).toArray,.agg (Bx y).toArray] rfl (fun j c hj=>?_) (fun b c h=>by cases h)).mono ?_
 ·match j,hj with
  |0,hj=>cases hj;exact P3 x
  |1,hj=>cases hj;exact P3 y
 ·rintro e w' ⟨c,u,σ',rfl,rfl,hr,_,_,hf,_⟩;cases hr;exact⟨rfl,hf.grown⟩
def Bw(s:Fl):AV:=.agg s.cells
theorem q2s{l:List OFl}{vs:Array Value}(h:∀(m:Nat)(x:AV),(l.map fun s=>AV.agg s.1.cells)[m]?=some x->x.cells.length=3/\∀(j:Nat)(c:AV),x.cells[j]?=some c->∃u:Value,vs[m*3+j]?=some u/\Rep σ c u){m:Nat}(hm:m<l.length)(hj:j<3):
  vs[m*3+j]?=(Bx l[m])[j]?:=by
 have h1:=(h m (.agg l[m].1.cells) (by simp[hm])).2
 match j,hj with
 | 0,_=>
   obtain⟨u,h2,h3⟩:=h1 0 (.int .i64 l[m].1.src) rfl;cases h3;exact h2
 | 1,_=>
   obtain⟨u,h2,h3⟩:=h1 1 (.int .i64 l[m].1.dst) rfl;cases h3;exact h2
 | 2,_=>
   obtain⟨u,h2,h3⟩:=h1 2 (.str l[m].1.var) rfl;cases h3;exact h2
theorem q2c{l:List OFl}{vs:Array Value}(h:∀(m:Nat)(hm:m<l.length)(j:Nat),j<3->vs[m*3+j]?=(Bx l[m])[j]?):∀(m:Nat)(x:AV),(l.map fun s=>AV.agg s.1.cells)[m]?=some x->x.cells.length=3/\∀(j:Nat)(c:AV),x.cells[j]?=some c->∃u:Value,vs[m*3+j]?=some u/\Rep σ c u:=by
 intro m x hx;rw[x2e]at hx;cases hq:l[m]?with
 |none=>rw[hq]at hx;cases hx
 | some s=>
   rw[hq]at hx;cases hx;obtain⟨hm,rfl⟩:=x2o.1 hq;refine⟨rfl,fun j c hj=>?_⟩
   match j,hj with
   |0,hj=>cases hj;exact⟨_,h m hm 0 (by omega),.int _ _⟩
   |1,hj=>cases hj;exact⟨_,h m hm 1 (by omega),.int _ _⟩
   |2,hj=>cases hj;exact⟨_,h m hm 2 (by omega),.str _ l[m].2.2.2⟩
theorem Pn{d:Array OFl}{t:Nat}(h:t<d.size*3):(flatK Bx 3 d)[t]?=(Bx (d[t/3]'(by omega)))[t%3]?:=by
 have h1:=get_flatK Bx 3 d t h;rw[x7e _ t (by simpa using h),x7e d (t/3) (by omega)]at h1;rw[x5v (by simpa using h),h1];have h3:t%3<(Bx (d[t/3]'(by omega))).length:=by simp[Bx];omega
 rw[x2n h3,x7e (Bx (d[t/3]'(by omega))) (t%3) h3]
def VF(l:List Fl):List Fl:=l.mergeSort fun x y=> !decide (flC y x<0)
theorem H8{l:List Fl}:(VF l).length=l.length:=by unfold VF;simp
theorem PF(l:List OFl)(hlen:l.length<=1000000000):
  SpecH prog 100 [.hd 1000 0 l.length,.p (.fn 101 [])] [(1000,.own 99 3 (l.map fun s=>.agg s.1.cells))]
   (fun r H=>r=.p (.tup [])/\H=[(1000,.own 99 3 ((l.mergeSort fun x y=> !(ltOf cfF) y x).map fun s=>.agg s.1.cells))]):=by
 refine⟨call100,fun σ β w vals hn hv hH=>?_⟩;obtain⟨v,u,rfl⟩:=q4i hn;have hv1:RepL σ β (.hd 1000 0 l.length) v:=by simpa using hv 0 _ rfl
 have hv2:RepL σ β (.p (.fn 101 [])) u:=by simpa using hv 1 _ rfl
 obtain rfl:u=.func (.func 101) #[] #[]:=by
  cases hv2 with
  | p h=>cases h with
    | fn _ _ vs u hn' hc hr=>
      obtain rfl:vs=#[]:=Array.size_eq_zero_iff.1 hn';rfl
 have hch:=hH.chunks 1000 _ x2r;rcases hch with⟨hb0,hes⟩|⟨i,vs,hi,hsz,hh,h2,h3,h4,h5⟩
 ·have hl0:l=[]:=x8b.1 hes;subst hl0;obtain⟨rfl,_⟩:=Nw hv1 hb0;have hc:=AnyF.slices_SortFunc_none K7 none 0 (.func (.func 101) #[] #[]) w;change Calls prog 100 _ _ _ at hc;refine hc.mono ?_;rintro e w' ⟨rfl,rfl⟩;exact⟨.p (.tup []),.tuple #[],σ,β,_,rfl,⟨rfl,rfl⟩,.p (.tup [] #[] (fun _=>undef) rfl (by simp) (by simp)),by simpa using hH,by simpa using Later.refl _ _ _ _⟩
 ·have hve:=G8 hv1 hi;subst hve;have hlt:=(hH.apart 1000 (by simp) i hi i.blk i.has_blk).2;have hcap:l.length<=i.cap:=by simpa using h3
  have hle:l.length*3<=vs.size:=by rw[h2];omega
  have hget:=fun m j hm hj=>q2s (σ:=σ) (l:=l) h5 (m:=m) (j:=j) hm hj;have hc:=AnyQ.slices_SortFunc_total K7 3 Tryz.isAgg99 Tryz.sizeOf99 Bx (fun _=>rfl) (fun x v hv=>by simp[Bx]at hv;rcases hv with rfl|rfl|rfl<;>rfl) cfF q2j 101 #[] i.blk 0 i.cap l.toArray w
   call101 (fun m os dk _ x y=>Ct _ x y) (fun t ht=>by
    have ht':t<l.toArray.size*3:=by simpa using ht
    refine⟨?_,VJ hh _⟩;have h6:=Pn ht';have h7:=hget (t/3) (t%3) (by simp at ht';omega) (by omega);rw[Nat.div_add_mod']at h7;rw[KW hh,x5m,h7,x7e _ t (by simpa using ht')];rw[x5v (by simpa using ht')]at h6;simpa using h6.symm) hlt (by simp;omega) q2k
  simp only[x6l]at hc;change Calls prog 100 _ _ _ at hc;refine hc.mono ?_;rintro e w' ⟨rfl,n,os,rfl⟩;generalize hS:(l.mergeSort fun x y=> !(ltOf cfF) y x)=S;have hSl:S.length=l.length:=by rw[<-hS];simp
  obtain⟨hf,hb⟩:=PQ (enc:=id) (n:=n) (os:=os) (d:=flatK Bx 3 S.toArray) hh hlt;obtain⟨hH',hL⟩:=Vf (c':=.own 99 3 (S.map fun s=>.agg s.1.cells)) hH hi hf (.inr ⟨i,_,hi,hsz,hb,by rw[HM];exact h2,by simp[hSl];exact hcap,h4,q2c fun m hm j hj=>by
   have h6:=KH (enc:=id) (d:=flatK Bx 3 S.toArray) (vs:=vs) (by simp[hSl];omega) (k:=m*3+j) (by simp;omega);have h7:=Pn (d:=S.toArray) (t:=m*3+j) (by simp;omega);rw[x5v (by simp;omega)]at h7;rw[h6];simp only[id];rw[h7];simp[show(m*3+j)/3=m by omega,show(m*3+j)%3=j by omega]⟩)
  exact⟨.p (.tup []),.tuple #[],σ,β,_,rfl,⟨rfl,rfl⟩,.p (.tup [] #[] (fun _=>undef) rfl (by simp) (by simp)),hH',hL⟩
theorem J5(l:List Fl)(hok:∀s∈l,okFl s)(hlen:l.length<=1000000000):
  SpecH prog 100 [.hd 1000 0 l.length,.p (.fn 101 [])] [(1000,.own 99 3 (l.map fun s=>.agg s.cells))]
   (fun r H=>r=.p (.tup [])/\H=[(1000,.own 99 3 ((VF l).map fun s=>.agg s.cells))]):=by
 have h:=PF (l.attachWith okFl hok) (by simpa using hlen);have e1:((l.attachWith okFl hok).map fun s=>AV.agg s.1.cells)=l.map fun s=>AV.agg s.cells:=by
  have:=x5u (List.map fun s:Fl=>AV.agg s.cells) (x7a (l:=l) (p:=okFl) hok);simp
 have e2:(((l.attachWith okFl hok).mergeSort fun x y=> !(ltOf cfF) y x).map fun s=>AV.agg s.1.cells)=(VF l).map fun s=>AV.agg s.cells:=by
  have h1:=List.map_mergeSort (l:=l.attachWith okFl hok) (f:=Subtype.val) (r:=fun x y=> !(ltOf cfF) y x) (s:=fun x y=> !decide (flC y x<0)) (fun a _ b _=>rfl);rw[x7a]at h1;unfold VF;rw[<-h1,x7p];rfl
 rw[e1,e2]at h;simpa using h
open Classical in
noncomputable def comC(n:Nat)(steps:List (Int×Int))(at_:List Nat):List (List Int):=(List.range n).map fun c=>((List.range at_.length).filter fun f=>decide (SolP (QR n steps).1 ((gnC n at_ at_.length).map (HL (at_.length/64+1))) ((klC n at_ at_.length).map (HL (at_.length/64+1))) f (c:Nat))).map Int.ofNat
theorem ComR.eq{n:Nat}{steps:List (Int×Int)}{at_:List Nat}{r:AV}(h:ComR n steps at_ r):r=eMat (comC n steps at_):=by
 obtain⟨inn,h1,h2,rfl⟩:=h;congr 1;unfold comC;refine List.ext_getElem (by simp[h2]) fun c h3 h4=>?_;have hc:c<inn.length:=by simpa using h3
 rw[x5t,x5t,x8t];unfold UO;congr 1;refine List.filter_congr fun f hf=>?_;have hf:=x4y.1 hf;have:=h1 (c:Nat) (by omega) (by omega) f (Nat.lt_succ_of_le (Nat.div_le_div_right (by omega)));rw[x5c,x2l,x2n hc,x5q]at this;rw[x7k,this];simp
theorem Fu(n:Nat)(steps:List (Int×Int))(at_:List Nat):(comC n steps at_).length=n:=by unfold comC;simp
theorem LR{n:Nat}{steps:List (Int×Int)}{at_:List Nat}{r:List Int}(h:r∈comC n steps at_):r.length<=at_.length/\∀f∈r,0<=f/\f<at_.length:=by
 unfold comC at h;obtain⟨c,_,rfl⟩:=x3q.1 h;refine⟨by rw[x2m];exact x4k (x5y _ _) (by simp),fun f hf=>?_⟩;obtain⟨x,hx,rfl⟩:=x3q.1 hf;have:=x4y.1 (x4w.1 hx).1;exact⟨x8w _,by show(x:Int)<_;omega⟩
theorem Mu{l l':List Fl}(h:l.Perm l')(hok:∀s∈l,okFl s):VF l=VF l':=by
 have hs:∀m:List Fl,(VF m).Pairwise fun x y=>¬ltF y x:=fun m=>by
  unfold VF;refine(x8m ?_ ?_ m).imp fun h=>?_
  ·intro a b c h1 h2;simp only[x5l,x5k]at h1 h2⊢;rw[DQ]at h1 h2⊢;exact ltF.neg h2 h1
  ·intro a b;simp only[x6p,x5l,x5k];rw[DQ,DQ];by_cases h1:ltF b a
   ·exact .inr fun h2=>ltF.irr a (ltF.trans a b a h2 h1)
   ·exact .inl h1
  ·rw[<-DQ];simpa using h
 have hp:(VF l).Perm (VF l'):=(x7y l _).trans (h.trans (x7y l' _).symm);refine hp.eq_of_pairwise (fun a b ha hb h1 h2=>?_) (hs l) (hs l');have ha':a∈l:=(x7y l _).mem_iff.1 ha;have hb':b∈l:=h.mem_iff.2 ((x7y l' _).mem_iff.1 hb);exact ltF.total (hok a ha') (hok b hb') h2 h1
theorem Ua(l:List Str)(hlen:l.length<=1000000000):SpecH prog 86 [.hd 1000 0 l.length] [(1000,.own 9 1 (l.map .str))] (fun r H=>r=.hd 1000 0 (WE l).length/\H=[(1000,.own 9 1 ((WE l).map .str))]):=by
 refine sH Hp func86 rfl call86 ?_;conv=>whnf
 repeat' (first|(refine CallK.heap [(1000,1000)] 0 (by repeat' (first|exact x4x|refine x3d ?_ ?_|exact x3n _|exact x3e Sub.nils|exact x3e (Sub.tt rfl)|exact x3e (Sub.ff rfl)|exact x3e (Sub.int (by omega)))) (by refine x3j (j:=1000) rfl rfl ?_ ?_;exact CSub.refl _;exact x4z) (HT l hlen) rfl rfl ?_;rintro l' H' ⟨rfl,rfl⟩;conv=>whnf)|(refine CallK.heap [(1000,1000)] 0 (x3d (x8z (by rw[UZ];rfl)) x4x) (by refine x3j (j:=1000) rfl rfl ?_ ?_;exact CSub.refl _;exact x4z) (KE (JZ l) (by rw[UZ];omega)) rfl rfl ?_;rintro l' H' ⟨rfl,rfl⟩;conv=>whnf))
 all_goals first
  |exact x7j _ (x3n _) ⟨rfl,rfl⟩
theorem FQ(b:Book)(t:S):SpecP prog 149 [.ip b.cells,.agg t.cells] (fun r=>r=.int .i64 (Xc (fun f=>f.name==t.proc) b.s.p.procs)):=by
 refine sB MC func149 rfl call149 ?_;conv=>whnf
 have hP:=ZO b.s t.proc;repeat' ((first|refine dA ?_|refine cP hP ?_);conv=>whnf)
 all_goals exact RetK.p rfl
def q8w(O:List Str)(x:Arg×Param):Bool:=x.1.ref&&inS O x.2.name
def AI(t:S)(f:Pr)(O:List Str)(j:Nat):List Str:=(((t.args.zip f.params).take j).filter (q8w O)).map fun x=>x.1.name
def q2y(p:Pg)(t:S)(f:Pr)(O:List Str):List Str:=(if t.name=[]then []else [t.name])++AI t f O t.args.length++O.filter (comB p)
theorem Tb(t:S)(f:Pr)(O:List Str)(j:Nat):(AI t f O j).length<=j:=by
 unfold AI;rw[x2m];exact x4k (x5y _ _) (by rw[x3m];omega)
theorem AO{t:S}{f:Pr}{O:List Str}(h1:j<t.args.length)(h2:j<f.params.length):AI t f O (j+1)=AI t f O j++(if t.args[j].ref=true/\inS O f.params[j].name=true then [t.args[j].name]else []):=by
 have hz:j<(t.args.zip f.params).length:=by rw[List.length_zip];omega
 unfold AI;rw[x3u hz,x5r,x3y];congr 1;have e:(t.args.zip f.params)[j]=(t.args[j],f.params[j]):=List.getElem_zip;rw[e];by_cases h:t.args[j].ref=true/\inS O f.params[j].name=true
 ·rw[if_pos h,x5o (by unfold q8w;simp[h])];rfl
 ·rw[if_neg h,x6w (by unfold q8w;simpa using h)];rfl
theorem Wl(b:Book)(t:S)(i:Nat)(f:Pr)(O:List Str)(hi:Xc (fun f=>f.name==t.proc) b.s.p.procs=i)(hf:b.s.p.procs[i]?=some f)(hO:b.outs[i]?=some O)(hs:O.Pairwise ltT)(hl:O.length<=1000000)(ha:t.args.length<=f.params.length)(hal:t.args.length<=1000000):SpecH prog 144 [.p (.ip b.cells),.p (.agg t.cells)] [] (fun r H=>OneRow (Hz (q2y b.s.p t f O)) False r H):=by
 refine sH ME func144 rfl call144 ?_;conv=>whnf
 have hC:=FQ b t;rw[hi]at hC;have hH:=fun x=>Q4 O x hs (by omega);have hCo:=fun x=>FX b x;have hg1:(b.outs.map eStrs)[i]?=some (eStrs O):=by rw[x2e,hO];rfl
 have hg2:(b.s.p.procs.map fun f=>AV.agg f.cells)[i]?=some (.agg f.cells):=by rw[x2e,hf];rfl
 have ham:(t.args.map fun a=>AV.agg a.cells).length=t.args.length:=x2m _;have hOm:(O.map AV.str).length=O.length:=x2m _;repeat' (first|((first|(refine iM fun _=>?_)|refine x2t rfl ?_|refine aD ?_|refine bP ?_|refine QI (es:=[]) rfl (by simp) ?_|refine cP hC ?_);conv=>whnf)|(apply bN<;>intro _<;>conv=>whnf))
 all_goals
  refine LoopK.inv QY (fun x:Nat×List Str=>⟨[(0,.p (.ip b.cells)),(5,.hd 0 0 x.2.length),(6,.p (.int .i64 i)),(23,.p (.sl (t.args.map fun a=>.agg a.cells))),(24,.p (.int .i64 (t.args.map fun a=>AV.agg a.cells).length)),(25,.p (.int .i64 x.1))],[(0,.own 9 1 (x.2.map .str))]⟩) (fun x=>x.1<=t.args.length/\x.2=(if t.name=[]then []else [t.name])++AI t f O x.1) (fun x=>t.args.length-x.1) (0,if t.name=[]then []else [t.name]) ?_ ⟨x3z _,by simp[AI]⟩ ?_
  ·first
    | (have h9:(t.name==[])=true:=by assumption
       rw[if_pos (eq_of_beq h9)];exact Le.mk [(0,.own 9 1 [])] (by simp[Chunk.new0];rfl) (by simp) (by simp) (.r (.cons (.nil x2r) (.r (.r (.r (.r .nil)))))) (.new x2r .nil))
    | (have h9:(t.name==[])=false:=by assumption
       rw[if_neg (by simpa using h9)];exact Le.of_eq rfl)
  rintro⟨j,acc⟩ ⟨h2,h3⟩;simp only at h2 h3⊢;have hal2:acc.length<=j+1:=by
   rw[h3,x2s];have:=Tb t f O j;split<;>simp<;>omega
  rcases x3v j t.args.length with hj|hj
  ·have hjp:j<f.params.length:=by omega
   have hst:=AO (O:=O) hj hjp;have hHj:=hH f.params[j].name;have hg3:(f.params.map fun a=>AV.agg a.cells)[j]?=some (.agg f.params[j].cells):=by rw[x2e,x2n hjp];rfl
   conv=>whnf
   repeat' (first|((first|refine dA ?_|refine x2t rfl ?_|refine aD ?_|refine bP ?_|(refine iA fun _=>?_)|refine wI ?_|(refine IdxK.at (k:=i) rfl hg1 rfl ?_)|(refine IdxK.at (k:=i) rfl hg2 rfl ?_)|(refine IdxK.at (k:=j) rfl hg3 rfl ?_)|refine cP hHj ?_|refine QI (by simp) (by rw[x2m];omega) ?_);conv=>whnf)|(apply bD<;>intro _<;>first|omega|conv=>whnf)|(apply bB<;>intro _<;>conv=>whnf))
   all_goals first
    | (have h9:t.args[j].ref=true:=by assumption
       have h10:inS O f.params[j].name=true:=by assumption
       exact⟨(j+1,acc++[t.args[j].name]),⟨hj,by simp only;rw[hst,if_pos (show t.args[j].ref=true/\inS O f.params[j].name=true from⟨h9,h10⟩),h3,x3s]⟩,by simp only;omega,Le.of_eq (by simp only[x2s,x3y];rfl)⟩)
    | (have h10:inS O f.params[j].name=false:=by assumption
       exact⟨(j+1,acc),⟨hj,by simp only;rw[hst,if_neg (show ¬(t.args[j].ref=true/\inS O f.params[j].name=true)from fun hh=>by rw[h10]at hh;cases hh.2),x4b];exact h3⟩,by simp only;omega,Le.of_eq rfl⟩)
    | (have h9:t.args[j].ref=false:=by assumption
       exact⟨(j+1,acc),⟨hj,by simp only;rw[hst,if_neg (show ¬(t.args[j].ref=true/\inS O f.params[j].name=true)from fun hh=>by rw[h9]at hh;cases hh.1),x4b];exact h3⟩,by simp only;omega,Le.of_eq rfl⟩)
  ·obtain rfl:j=t.args.length:=by omega
   conv=>whnf
   repeat' (first|((first|(refine iM fun _=>?_)|(refine IdxK.at (k:=i) rfl hg1 rfl ?_));conv=>whnf)|(apply bD<;>intro _<;>first|omega|conv=>whnf))
   refine LoopK.inv QY (fun x:Nat×List Str=>⟨[(0,.p (.ip b.cells)),(5,.hd 0 0 x.2.length),(70,.p (eStrs O)),(71,.p (.int .i64 (O.map AV.str).length)),(72,.p (.int .i64 x.1))],[(0,.own 9 1 (x.2.map .str))]⟩) (fun x=>x.1<=O.length/\x.2=acc++(O.take x.1).filter (comB b.s.p)/\x.2.length<=acc.length+x.1) (fun x=>O.length-x.1) (0,acc) (Le.of_eq rfl) ⟨x3z _,by simp,by simp⟩ ?_;rintro⟨q,o⟩ ⟨h4,h5,h6⟩;simp only at h4 h5 h6⊢;rcases x3v q O.length with hq|hq
   ·have hn1:=x3u hq;have hCq:=hCo O[q];conv=>whnf
    repeat' (first|((first|refine x2t rfl ?_|refine aD ?_|refine bP ?_|(refine iA fun _=>?_)|refine wI ?_|refine cP hCq ?_|refine QI (by simp) (by rw[x2m];omega) ?_);conv=>whnf)|(apply bD<;>intro _<;>first|omega|conv=>whnf)|(apply bB<;>intro _<;>conv=>whnf))
    all_goals first
     | (have h9:comB b.s.p O[q]=true:=by assumption
        exact⟨(q+1,o++[O[q]]),⟨hq,by simp only;rw[hn1,x5r,x5o h9,h5,x3s];rfl,by simp;omega⟩,by simp only;omega,Le.of_eq (by simp only[x2s,x3y];rfl)⟩)
     | (have h9:comB b.s.p O[q]=false:=by assumption
        exact⟨(q+1,o),⟨hq,by simp only;rw[hn1,x5r,x6w (by rw[h9];decide),h5];simp,by simp only;omega⟩,by simp only;omega,Le.of_eq rfl⟩)
   ·rw[x3f hq]at h5;have hfin:o=q2y b.s.p t f O:=by rw[h5,h3];rfl
    subst hfin;conv=>whnf
    repeat' (apply bD<;>intro _<;>first|omega|conv=>whnf)
    all_goals exact x7j _ (x3n _) (OneRow.str rfl)
def OJ:Str:=[36,114,101,116]
def caI(p:Pg)(t:S):Int:=Xc (fun f=>f.name==t.proc) p.procs
def caP(p:Pg)(t:S):Pr:=p.procs.getD (caI p t).toNat Pr0
def caO(b:Book)(t:S):List Str:=b.outs.getD (caI b.s.p t).toNat []
def MN(b:Book)(t:S):List Str:=if t.kind=1 then [t.name]else if t.kind=2 then [t.name,KI]else if t.kind=9 then [OJ]else if t.kind=4 then q2y b.s.p t (caP b.s.p t) (caO b t)else []
structure CallOk(b:Book)(t:S):Prop where
 i0:0<=caI b.s.p t
 i1:(caI b.s.p t).toNat<b.s.p.procs.length
 io:b.s.p.procs.length<=b.outs.length
 rise:(caO b t).Pairwise ltT
 len:(caO b t).length<=1000000
 args:t.args.length<=(caP b.s.p t).params.length
 al:t.args.length<=1000000
theorem Cn{b:Book}{t:S}(h:CallOk b t):SpecH prog 144 ([AV.ip b.cells,.agg t.cells].map .p) [] (OneRow (Hz (q2y b.s.p t (caP b.s.p t) (caO b t))) False):=by
 have h1:=h.i1;have h2:=h.io;refine Wl b t (caI b.s.p t).toNat (caP b.s.p t) (caO b t) ?_ ?_ ?_ h.rise h.len h.args h.al
 ·rw[x6f h.i0];rfl
 ·unfold caP;rw[x2l,x2n h1];rfl
 ·unfold caO;rw[x2l,x2n (by omega)];rfl
theorem Js(b:Book)(t:S)(h4:t.kind=4->CallOk b t):SpecH prog 87 [.p (.ip b.cells),.p (.agg t.cells)] [] (fun r H=>OneRow (Hz (MN b t)) (MN b t=[]) r H):=by
 refine sH Wj func87 rfl call87 ?_;conv=>whnf
 have hC:=fun h=>Cn (h4 h);repeat' (first|((first|refine x2t rfl ?_|refine aD ?_|refine x9b (fun x hx=>by rcases x2a.1 hx with rfl;rfl) rfl ?_|refine x9b (fun x hx=>by rcases x2i.1 hx with rfl|hx;rfl;rcases x2a.1 hx with rfl;rfl) rfl ?_|(refine JV 0 rfl (hC (by assumption)) (.cons (.p (Sub.refl _)) (.cons (.p (Sub.refl _)) .nil)) (fun h=>h.elim) ?_;rintro _ _ _ _ ⟨rfl,rfl,rfl⟩));conv=>whnf)|(apply bD<;>intro _<;>first|omega|conv=>whnf))
 ·rw[show MN b t=[t.name] by unfold MN;rw[if_pos (by assumption)]];exact x7j _ (x3n _) (UH (L:=[t.name]) rfl)
 ·rw[show MN b t=[t.name,KI] by unfold MN;rw[if_neg (by assumption),if_pos (by assumption)]];exact x7j _ (x3n _) (UH (L:=[t.name,KI]) rfl)
 ·rw[show MN b t=[OJ] by unfold MN;rw[if_neg (by assumption),if_neg (by assumption),if_pos (by assumption)]];exact x7j _ (x3n _) (UH (L:=[OJ]) rfl)
 ·rw[show MN b t=q2y b.s.p t (caP b.s.p t) (caO b t) by unfold MN;rw[if_neg (by assumption),if_neg (by assumption),if_neg (by assumption),if_pos (by assumption)]];exact x7j _ (x3n _) (UH (by rw[x2m]))
 ·exact x7j _ (x3n _) (.inl ⟨rfl,rfl,by unfold MN;rw[if_neg (by assumption),if_neg (by assumption),if_neg (by assumption),if_neg (by assumption)]⟩)
def outB(p:Pg)(f:Pr)(n:Str):Bool:=comB p n||decide ((⟨n,true⟩:Param)∈f.params)
def FD(D:List (List Str))(id:Int):List Str:=D.getD (id-1).toNat []
def q7q(p:Pg)(i:Nat)(f:Pr)(D:List (List Str))(it:Item):List Str:=bif (QQ p i f).live.getD (ixI p i f it.s.id).toNat false then(FD D it.s.id).filter (outB p f)else []
def Ms(p:Pg)(i:Nat)(f:Pr)(D:List (List Str))(its:List Item):List Str:=its.flatMap (q7q p i f D)
theorem AM{p:Pg}{i:Nat}{f:Pr}{D:List (List Str)}{its:List Item}{k:Nat}(hk:k<its.length):Ms p i f D (its.take (k+1))=Ms p i f D (its.take k)++q7q p i f D its[k]:=by
 unfold Ms;rw[x3u hk,x7q];simp
theorem T9{p:Pg}{i:Nat}{f:Pr}{D:List (List Str)}(hD:∀d∈D,d.length<=1000)(its:List Item):(Ms p i f D its).length<=its.length*1000:=by
 refine WO its fun it _=>?_;unfold q7q;cases(QQ p i f).live.getD (ixI p i f it.s.id).toNat false with
 |false=>exact x3z _
 | true=>
   refine x4k (x5y _ _) ?_;unfold FD;rcases x3v (it.s.id-1).toNat D.length with h|h
   ·rw[x2l,x2n h];exact hD _ (x3w h)
   ·rw[x2l,x4a h];exact x3z _
theorem Jc(b:Book)(p:Pg)(hp:b.s=sheetOf p)(h:QE p=true)(i:Nat)(f:Pr)(hj:p.procs[i]?=some f)(hW:b.ways[i]?=some (QQ p i f))(hD:b.defs.length=(sheetOf p).l.length)(hd:∀d∈b.defs,d.length<=1000):SpecH prog 88 [.p (.ip b.cells),.p (.int .i64 i)] [] (fun r H=>OneRow (Hz (Ms p i f b.defs (itsOf p i f))) False r H):=by
 refine sH Wg func88 rfl call88 ?_;conv=>whnf
 obtain⟨hsp,_,_,hlen,hs⟩:=QJ p;obtain⟨s1,s2,s3,s4⟩:=hs i f hj;have hcn:=(XJ h).2.2;have hO:=Q0 (sheetOf p) i (QB p.procs i) (QB p.procs i+cntL f.body) s1 s2 (by omega) (by omega) (by omega);rw[s4]at hO;have e1:itL (i:Nat) 0 (-1) 0 (QB p.procs i) f.body=itsOf p i f:=rfl;rw[e1,<-hp]at hO;have hbp:b.s.p=p:=by rw[hp,hsp]
 have hCo:=fun x=>FX b x;rw[hbp]at hCo;have hg1:(b.s.p.procs.map fun f=>AV.agg f.cells)[i]?=some (.agg f.cells):=by rw[hbp,x2e,hj];rfl
 have hg2:(b.ways.map fun w=>AV.ip w.cells)[i]?=some (.ip (QQ p i f).cells):=by rw[x2e,hW];rfl
 have hIl:((itsOf p i f).map fun i=>AV.agg i.cells).length=(itsOf p i f).length:=x2m _;have hil:(itsOf p i f).length<=200:=by
  have h1:=x5u List.length s4;rw[e1,x5f,x3m]at h1;omega
 have hall:∀k,(Ms p i f b.defs ((itsOf p i f).take k)).length<=200*1000:=fun k=>by
  have h1:=T9 (p:=p) (i:=i) (f:=f) hd ((itsOf p i f).take k);have h2:((itsOf p i f).take k).length*1000<=200*1000:=x4s _ (by rw[x3m];omega);omega
 repeat' ((first|(refine iM fun _=>?_)|refine x2t rfl ?_|(refine IdxK.at (k:=i) rfl hg1 rfl ?_)|refine cP hO ?_);conv=>whnf)
 refine LoopK.inv QY (fun k:Nat=>⟨[(0,.p (.ip b.cells)),(1,.p (.int .i64 i)),(5,.hd 0 0 (Ms p i f b.defs ((itsOf p i f).take k)).length),(6,.p (.ip f.cells)),(27,.p (VS (itsOf p i f))),(28,.p (.int .i64 ((itsOf p i f).map fun i=>AV.agg i.cells).length)),(29,.p (.int .i64 k))],[(0,.own 9 1 ((Ms p i f b.defs ((itsOf p i f).take k)).map .str))]⟩) (fun k=>k<=(itsOf p i f).length) (fun k=>(itsOf p i f).length-k) 0
  (Le.mk [(0,.own 9 1 [])] (by simp[Chunk.new0];rfl) (by simp) (by simp) (.r (.r (.cons (.nil x2r) (.r (.r (.r (.r .nil))))))) (.new x2r .nil)) (x3z _) ?_
 intro k hk;have hak:=hall k;rcases x3v k (itsOf p i f).length with hk2|hk2;rotate_left 1
 ·rw[x3f hk2];conv=>whnf
  repeat' (apply bD<;>intro _<;>first|omega|conv=>whnf)
  all_goals exact x7j _ (x3n _) (OneRow.str rfl)
 have hst:=AM (p:=p) (i:=i) (f:=f) (D:=b.defs) hk2;have hb:=ZI (QK h).1 hj (Wc (x3w hk2));have hLv:=B3 p i f h hj (itsOf p i f)[k].s.id (.inr (.inr hb));have hoi:q7q p i f b.defs (itsOf p i f)[k]=bif (QQ p i f).live.getD (ixI p i f (itsOf p i f)[k].s.id).toNat false then(FD b.defs (itsOf p i f)[k].s.id).filter (outB p f)else []:=rfl;have hdl:((itsOf p i f)[k].s.id-1).toNat<b.defs.length:=by omega
 have hg3:(b.defs.map eStrs)[((itsOf p i f)[k].s.id-1).toNat]?=some (eStrs (FD b.defs (itsOf p i f)[k].s.id)):=by
  unfold FD;rw[x2e,x2l,x2n hdl];rfl
 have hDl:(FD b.defs (itsOf p i f)[k].s.id).length<=1000:=by
  unfold FD;rw[x2l,x2n hdl];exact hd _ (x3w hdl)
 generalize(QQ p i f).live.getD (ixI p i f (itsOf p i f)[k].s.id).toNat false=lv at*
 rw[hoi]at hst;generalize FD b.defs (itsOf p i f)[k].s.id=D at*
 generalize Ms p i f b.defs ((itsOf p i f).take k)=acc at*
 have hDm:(D.map AV.str).length=D.length:=x2m _;cases lv;all_goals
  conv=>whnf
  repeat' (first|((first|(refine iM fun _=>?_)|refine dA ?_|refine x2t rfl ?_|(refine iA fun _=>?_)|refine wI ?_|(refine IdxK.at (k:=i) rfl hg2 rfl ?_)|refine cP hLv ?_|(refine IdxK.at (k:=((itsOf p i f)[k].s.id-1).toNat) (by omega) hg3 rfl ?_));conv=>whnf)|(apply bD<;>intro _<;>first|omega|conv=>whnf)|(apply bN<;>intro _<;>conv=>whnf))
 all_goals first
  |contradiction
  |exact⟨k+1,hk2,by omega,Le.of_eq (by rw[hst,x3t,x4b];rfl)⟩
  |skip
 all_goals
  rw[x3p]at hst;refine LoopK.inv QY (fun x:Nat×List Str=>⟨[(0,.p (.ip b.cells)),(1,.p (.int .i64 i)),(5,.hd 0 0 x.2.length),(6,.p (.ip f.cells)),(27,.p (VS (itsOf p i f))),(28,.p (.int .i64 ((itsOf p i f).map fun i=>AV.agg i.cells).length)),(29,.p (.int .i64 k)),(54,.p (eStrs D)),(55,.p (.int .i64 (D.map AV.str).length)),(56,.p (.int .i64 x.1))],[(0,.own 9 1 (x.2.map .str))]⟩) (fun x=>x.1<=D.length/\x.2=acc++(D.take x.1).filter (outB p f)/\x.2.length<=acc.length+x.1) (fun x=>D.length-x.1) (0,acc) (Le.of_eq rfl) ⟨x3z _,by simp,by simp⟩ ?_;rintro⟨q,o⟩ ⟨h4,h5,h6⟩;simp only at h4 h5 h6⊢;rcases x3v q D.length with hq|hq
  ·have hn1:=x3u hq;have hCq:=hCo D[q];have hKq:=WI f.params ⟨D[q],true⟩;have hob:outB p f D[q]=(comB p D[q]||decide ((⟨D[q],true⟩:Param)∈f.params)):=rfl;generalize hdc:decide ((⟨D[q],true⟩:Param)∈f.params)=dc at hKq hob;conv=>whnf
   repeat' (first|((first|refine x2t rfl ?_|refine aD ?_|refine bP ?_|(refine iA fun _=>?_)|refine wI ?_|refine cP hCq ?_|(refine CallK.pure hKq (.cons (Sub.refl _) (.cons (Sub.agg (.cons (Sub.refl _) (.cons (Sub.tt rfl) .nil))) .nil)) ?_;rintro _ rfl)|refine QI (by simp) (by rw[x2m];omega) ?_);conv=>whnf)|(apply bD<;>intro _<;>first|omega|conv=>whnf)|(apply bB<;>intro _<;>conv=>whnf))
   all_goals first
    | (have h9:outB p f D[q]=true:=by rw[hob,show comB p D[q]=true by assumption];rfl
       exact⟨(q+1,o++[D[q]]),⟨hq,by simp only;rw[hn1,x5r,x5o h9,h5,x3s];rfl,by simp;omega⟩,by simp only;omega,Le.of_eq (by simp only[x2s,x3y];rfl)⟩)
    | (have h9:outB p f D[q]=true:=by rw[hob,show dc=true by assumption,Bool.or_true]
       exact⟨(q+1,o++[D[q]]),⟨hq,by simp only;rw[hn1,x5r,x5o h9,h5,x3s];rfl,by simp;omega⟩,by simp only;omega,Le.of_eq (by simp only[x2s,x3y];rfl)⟩)
    | (have h9:outB p f D[q]=false:=by rw[hob,show comB p D[q]=false by assumption,show dc=false by assumption];rfl
       exact⟨(q+1,o),⟨hq,by simp only;rw[hn1,x5r,x6w (by rw[h9];decide),h5];simp,by simp only;omega⟩,by simp only;omega,Le.of_eq rfl⟩)
  ·rw[x3f hq,<-hst]at h5;subst h5;conv=>whnf
   repeat' (first|(refine wI ?_;conv=>whnf)|(apply bD<;>intro _<;>first|omega|conv=>whnf))
   all_goals exact⟨k+1,hk2,by omega,Le.of_eq rfl⟩
theorem AQ(x:X):SpecH prog 148 ([AV.agg x.cells].map .p) [] (OneRow (Hz (XN x)) (XN x=[])):=by
 refine sH Zn func148 rfl call148 ?_;conv=>whnf
 repeat' (first|(refine cP (BZ _) ?_;conv=>whnf)|(apply bN<;>intro _<;>conv=>whnf))
 ·refine CallK.nil 5 9 1 rfl (.cons rfl (.row .nil)) ?_;refine CallK.heap [(2000,5)] 0 (by repeat' (first|exact x4x|refine x3d ?_ ?_|exact x3n _|exact x3e Sub.nils|exact x3e (Sub.tt rfl)|exact x3e (Sub.ff rfl)|exact x3e (Sub.int (by omega)))) (by refine x3j (j:=5) rfl rfl ?_ ?_;exact CSub.refl _;exact x4z) (Jw 20 (by omega) x (by assumption) [] (by simp)) rfl rfl ?_;rintro l' H' ⟨rfl,rfl⟩;conv=>whnf
  have e:XN x=N2 x []:=by
   unfold XN;rw[show Aa x=true by assumption];rfl
  rw[e];exact x7j _ (x3n _) (NH rfl)
 ·have e:XN x=[]:=by
   unfold XN;rw[show Aa x=false by assumption];rfl
  exact x7j _ (x3n _) (.inl ⟨rfl,rfl,e⟩)
def usA(a:Arg):List Str:=(if a.ref=true then [a.name]else [])++XN a.x
def inAt(b:Book)(t:S):List Str:=b.ins.getD (caI b.s.p t).toNat []
def TU(t:S):List Str:=XN t.x++(if t.kind=2 then [KI]else [])
def MG(b:Book)(t:S):List Str:=if t.kind=4 then TU t++t.args.flatMap usA++inAt b t else TU t
theorem EP(a:Arg):(usA a).length<=1048577:=by
 have:=VG a.x;unfold usA;rw[x2s];split<;>simp<;>omega
theorem TY(t:S):(TU t).length<=1048577:=by
 have:=VG t.x;unfold TU;rw[x2s];split<;>simp<;>omega
def C4(t:S)(j:Nat):List Str:=TU t++(t.args.take j).flatMap usA
theorem Ix(t:S)(ha:t.args.length<=20000):(C4 t j).length<=21000000000:=by
 have h1:=TY t;have h2:=HU EP (t.args.take j);have h3:(t.args.take j).length*1048577<=20000*1048577:=x4s _ (by simp;omega);unfold C4;simp only[x2s];omega
theorem Cg{t:S}(hj:j<t.args.length):C4 t (j+1)=C4 t j++usA t.args[j]:=by
 unfold C4;rw[x3u hj,x7q,x3s];simp
theorem OneRow.es{L:List Str}{es:List AV}{n:Nat}{nil:Prop}(he:es=L.map .str)(h:n=L.length):OneRow (Hz L) nil (.hd 0 0 n) [(0,.own 9 1 es)]:=by
 subst he;exact UH h
structure UseOk(b:Book)(t:S):Prop where
 i0:0<=caI b.s.p t
 ii:(caI b.s.p t).toNat<b.ins.length
 al:t.args.length<=20000
 len:(inAt b t).length<=1000000
theorem Ja(b:Book)(t:S)(h4:t.kind=4->UseOk b t):SpecH prog 90 [.p (.ip b.cells),.p (.agg t.cells)] [] (fun r H=>OneRow (Hz (MG b t)) (MG b t=[]) r H):=by
 refine sH Wh func90 rfl call90 ?_;conv=>whnf
 have hN:=AQ t.x;have hC:=FQ b t;have hI:Xc (fun f=>f.name==t.proc) b.s.p.procs=caI b.s.p t:=rfl;rw[hI]at hC;have hnx:=VG t.x;conv=>whnf
 refine JV 0 rfl hN (.cons (.p (Sub.refl _)) .nil) (fun hnil=>?_) (fun q e sz es hR=>?_);rotate_left;obtain⟨rfl,rfl,rfl⟩:=hR
 rotate_right
 all_goals
  conv=>whnf
  repeat' (first|((first|(refine iM fun _=>?_)|refine x2t rfl ?_|refine aD ?_|refine bP ?_|refine QI (es:=[]) rfl (by simp) ?_|refine QI (by simp) (by simp;omega) ?_);conv=>whnf)|(apply bD<;>intro _<;>first|omega|conv=>whnf)|(apply bE<;>intro _<;>first|omega|conv=>whnf))
 ·have e:MG b t=[KI]:=by unfold MG TU;rw[if_neg (by assumption),if_pos (by assumption),hnil];rfl
  rw[e];exact x7j _ (x3n _) (UH (L:=[KI]) rfl)
 rotate_left
 ·have e:MG b t=[]:=by unfold MG TU;rw[if_neg (by assumption),if_neg (by assumption),hnil];rfl
  exact x7j _ (x3n _) (.inl ⟨rfl,rfl,e⟩)
 ·have e:MG b t=XN t.x++[KI]:=by unfold MG TU;rw[if_neg (by assumption),if_pos (by assumption)]
  rw[e];exact x7j _ (x3n _) (OneRow.es (by rw[x3y];rfl) (by simp))
 rotate_left
 ·have e:MG b t=XN t.x:=by unfold MG TU;rw[if_neg (by assumption),if_neg (by assumption),x4b]
  rw[e];exact x7j _ (x3n _) (OneRow.es rfl (by simp))
 all_goals
  have hk4:t.kind=4:=by assumption
  have hU:=h4 hk4;have e0:C4 t 0=XN t.x:=by unfold C4 TU;rw[if_neg (by omega),x9y,List.flatMap_nil,x4b,x4b]
  have hl:(t.args.map fun a=>AV.agg a.cells).length=t.args.length:=x2m _;have hg:(b.ins.map eStrs)[(caI b.s.p t).toNat]?=some (eStrs (inAt b t)):=by
   unfold inAt;rw[x2e,x2l,x2n hU.ii];rfl
  have hi0:=hU.i0;have hil:=hU.len;have hia:=hU.al;refine LoopK.inv QY (fun j:Nat=>⟨[(0,.p (.ip b.cells)),(3,.p (.ip t.cells)),(5,.hd 0 0 (C4 t j).length),(22,.p (.sl (t.args.map fun a=>.agg a.cells))),(23,.p (.int .i64 (t.args.map fun a=>AV.agg a.cells).length)),(24,.p (.int .i64 j))],[(0,.own 9 1 ((C4 t j).map .str))]⟩) (fun j=>j<=t.args.length) (fun j=>t.args.length-j) 0 ?_ (x3z _) ?_
  ·first
    | (rw[e0,hnil]
       exact Le.mk [(0,.own 9 1 [])] (by simp[Chunk.new0];rfl) (by simp) (by simp) (.r (.r (.cons (.nil x2r) (.r (.r (.r .nil)))))) (.new x2r .nil))
    | (rw[e0]
       exact Le.of_eq (by rw[x2m];rfl))
  intro j hj;have hacc:=Ix t (j:=j) hia;have hfin:t.args.length<=j->MG b t=C4 t j++inAt b t:=fun h=>by
   unfold MG C4;rw[if_pos hk4,x3f h]
  have hst:=fun h=>Cg (t:=t) (j:=j) h;generalize C4 t j=acc at*
  rcases x3v j t.args.length with hj2|hj2
  ·have hnl:=VG t.args[j].x;conv=>whnf
   repeat' (first|((first|refine cP (Zw _) ?_|refine x2t rfl ?_|refine aD ?_|refine bP ?_|(refine iA fun _=>?_)|refine wI ?_|refine FP _ (by simp) (by simp;omega) ?_|refine QI (by simp) (by simp;omega) ?_);conv=>whnf)|(apply bD<;>intro _<;>first|omega|conv=>whnf)|(apply bB<;>intro _<;>conv=>whnf))
   all_goals
    refine⟨j+1,hj2,by omega,Le.of_eq ?_⟩;first
     | (have hn:usA t.args[j]=[t.args[j].name]++XN t.args[j].x:=by rw[usA,if_pos (by assumption)]
        rw[hst hj2,hn];simp only[x2s,x3y,x2m,<-x3s,<-x6z];rfl)
     | (have hn:usA t.args[j]=XN t.args[j].x:=by rw[usA,if_neg (by rw[show t.args[j].ref=false by assumption];decide)];rfl
        rw[hst hj2,hn];simp only[x2s,x3y,x2m];rfl)
  ·rw[hfin hj2];conv=>whnf
   repeat' (first|((first|refine dA ?_|refine aD ?_|refine cP hC ?_|(refine IdxK.at (k:=(caI b.s.p t).toNat) (by omega) hg rfl ?_)|refine FP _ (by simp) (by simp;omega) ?_);conv=>whnf)|(apply bD<;>intro _<;>first|omega|conv=>whnf))
   all_goals exact x7j _ (x3n _) (OneRow.es (by rw[x3y]) (by simp))
def UL(w:Way)(f:Pr):List (Int×Int):=(LS w f).map (ixP w.p w.j f w.n)
theorem Rm(w:Way)(f:Pr)(n:Nat)(h:WayT w f n)(hp:∀t∈UL w f,(0<=t.1/\t.1<n)/\0<=t.2/\t.2<n)(hlen:(LS w f).length<=1000000):SpecP prog 150 [.ip w.cells] (fun r=>r=eMat (Qk n (UL w f))):=by
 refine sB F0 func150 rfl call150 ?_;conv=>whnf
 have hwn:=h.hw;have hn5:=h.hn;have hn2:=h.hn2;have hA:=Ww w f n h;have hP:=JW w f h.hj h.hc (by omega) (LS w f) hlen;have hpl:(avP (UL w f)).length=(UL w f).length:=by unfold avP;rw[x2m]
 have hpl2:(UL w f).length<=1000000:=by unfold UL;rw[x2m];exact hlen
 have hPe:(LS w f).map (ixP w.p w.j f w.n)=UL w f:=rfl;rw[hPe]at hP;repeat' ((first|(refine iM fun _=>?_)|refine aR ?_|refine x8v n (by omega) (by show 24*_<=140737488355328;omega) (by unfold maxLen;omega) ?_|refine cP hA ?_|refine cP hP ?_);conv=>whnf)
 refine LoopK.inv QY (fun j:Nat=>⟨[(3,.hd 0 0 n),(14,.p (.sl (avP (UL w f)))),(15,.p (.int .i64 (avP (UL w f)).length)),(16,.p (.int .i64 j))],[(0,.ext (.mat 29 3 1 (avI (Qk n ((UL w f).take j))) []))]⟩) (fun j=>j<=(UL w f).length) (fun j=>(UL w f).length-j) 0
  (by
    refine Le.trans (Ac n rfl) ?_;exact Le.mk [] (by simp) (by simp) (by simp) (.r (.r (.r (.r .nil)))) (.cons rfl (.of_eq (by simp[avI,Qk])) .nil)) (x3z _) ?_
 intro j h2;rcases x3v j (UL w f).length with hj|hj
 ·have hme:(avP (UL w f))[j]?=some (.agg [.int .i64 (UL w f)[j].1,.int .i64 (UL w f)[j].2]):=by simp[avP,hj]
  obtain⟨⟨q1,q2⟩,q3,q4⟩:=hp _ (x3w hj);have hst:Qk n ((UL w f).take (j+1))=nxE (Qk n ((UL w f).take j)) (UL w f)[j]:=by
   unfold Qk;rw[x3u hj,x7n];rfl
  have hrl:=Yd n ((UL w f).take j);have hcnt:=Nl n ((UL w f).take j) (UL w f)[j].1.toNat;generalize(UL w f)[j]=t at hme q1 q2 q3 q4 hst hcnt;generalize Qk n ((UL w f).take j)=rows at hst hrl hcnt⊢;obtain⟨a,ha⟩ : ∃a:Nat,t.1=a:=⟨t.1.toNat,by omega⟩;have hal:a<rows.length:=by omega
  have hrow:(avI rows)[a]?=some (rows[a].map (.int .i64)):=by unfold avI;rw[x2e,x2n hal];rfl
  have hput:(avI rows).set a (rows[a].map (.int .i64)++[.int .i64 t.2])=avI (nxE rows t):=by
   unfold nxE avI;rw[ha,x5c,x2l,x2n hal,x5q,x4m,x3y];rfl
  have hcl:rows[a].length<=1000000:=by
   rw[ha,x5c,x2l,x2n hal,x5q,x3m]at hcnt;omega
  rw[ha]at hme;conv=>whnf
  repeat' (first|((first|refine x2t rfl ?_|refine aD ?_|refine wI ?_|refine DrawK.of QY mixed (.cons 0 false (.cons 1 false (.cons 2 false (.cons 3 false (.cons 4 false (.cons 5 false (.cons 6 false (.cons 8 false (.cons 9 false (.alo 7 (.cons 10 true (.cons 11 true (.cons 12 true (.cons 13 true .nil)))))))))))))) (by kernel_rfl) ?_|(refine IdxK.at (k:=j) rfl hme rfl ?_)|refine x4j 0 rfl (by decide) ?_|refine x4j 1 rfl (by decide) ?_|refine x4j a rfl (by omega) ?_|refine RowK.mk a _ (by omega) hrow (by simp) ?_|refine x9b (fun x hx=>by rcases x2a.1 hx with rfl;rfl) rfl ?_|refine OpK.focus QY 27 0 a 2 rfl rfl hrow (by simp) rfl rfl ?_|refine XH rfl (by rw[x2m];omega) ?_|(refine FA QY rfl rfl rfl rfl rfl rfl rfl rfl rfl (by decide) a [] (by omega) (by unfold avI;rw[x2m];omega) (by simp) ⟨by simp,by simp,by simp⟩ ?_));conv=>whnf)|(apply bD<;>intro _<;>first|omega|conv=>whnf))
  all_goals exact⟨j+1,hj,by omega,Le.of_eq (by rw[hst,<-hput];rfl)⟩
 ·have hje:(UL w f).take j=UL w f:=x3f hj;rw[hje];have hNl:=Yd n (UL w f);conv=>whnf
  repeat' (apply bD<;>intro _<;>first|omega|conv=>whnf)
  exact⟨_,.mat rfl (by unfold avI;rw[x2m,hNl]),rfl⟩
section
variable {p:Pg}{j:Nat}{f:Pr}
def dR(p:Pg)(j:Nat)(f:Pr):Int->Int->Prop:=stR (LS (QQ p j f) f)
theorem RZ(h:QE p=true)(hj:p.procs[j]?=some f){b:Int}:dR p j f a b↔wR p j f a b\/∃l∈trapsW (QQ p j f) f,∃t∈flL f.body,t.id∈l/\t.kind=10/\a=t.id/\b = -1:=by
 constructor
 ·rintro⟨s,hs,rfl,rfl⟩;rcases x3x.1 ((DL (Fk h hj)).2.1 s hs)with h1|h1
  ·obtain⟨l,hl,t,ht,hid,hk,rfl⟩:=(Qe h hj).1 h1;exact .inr ⟨l,hl,t,ht,hid,hk,rfl,rfl⟩
  ·exact .inl ⟨s,h1,rfl,rfl⟩
 ·rintro(⟨s,hs,rfl,rfl⟩|⟨l,hl,t,ht,hid,hk,rfl,rfl⟩)
  ·exact Ca h hj (x3x.2 (.inr hs))
  ·exact Ca h hj (s:=⟨t.id,-1,3⟩) (x3x.2 (.inl ((Qe h hj).2 ⟨l,hl,t,ht,hid,hk,rfl⟩)))
theorem Cc(h:QE p=true)(hj:p.procs[j]?=some f){b:Int}(hd:dR p j f a b):plP p j f a/\plP p j f b:=by
 have hA:q7e p j f a b:=by
  rcases(RZ h hj).1 hd with h1|h1
  ·exact(Cj h hj).2 (.inl h1)
  ·exact(Cj h hj).2 (.inr (.inr (.inl h1)))
 exact⟨(q5d h hj hA).1,(q5d h hj hA).2.1⟩
theorem HN(h:QE p=true)(hj:p.procs[j]?=some f):∀t∈UL (QQ p j f) f,(0<=t.1/\t.1<(cntL f.body+2:Nat))/\0<=t.2/\t.2<(cntL f.body+2:Nat):=fun t ht=>by
 obtain⟨s,hs,rfl⟩:=x3q.1 ht;obtain⟨h1,h2⟩:=Cc h hj ⟨s,hs,rfl,rfl⟩;exact⟨WQ h1,WQ h2⟩
theorem Tj(h:QE p=true)(hj:p.procs[j]?=some f){b:Int}(ha:plP p j f a)(hb:plP p j f b):(ixI p j f a,ixI p j f b)∈UL (QQ p j f) f↔dR p j f a b:=by
 constructor
 ·intro h1;obtain⟨s,hs,he⟩:=x3q.1 h1;obtain⟨h2,h3⟩:=Cc h hj ⟨s,hs,rfl,rfl⟩;have e1:ixI p j f s.src=ixI p j f a:=x5u Prod.fst he;have e2:ixI p j f s.dst=ixI p j f b:=x5u Prod.snd he;exact⟨s,hs,PR h2 ha e1,PR h3 hb e2⟩
 ·rintro⟨s,hs,rfl,rfl⟩;exact x3q.2 ⟨s,hs,rfl⟩
end


section
variable {p:Pg}{j:Nat}{f:Pr}
theorem IU{t:S}(ht:t∈flL f.body):∃x∈flatU f,x.s=t:=by
 rw[<-show(flatU f).map RI.s=flL f.body from N0 1 0 false f.body]at ht;exact x3q.1 ht
end
theorem Hj{l:List Str}:ZN l=false↔l.Nodup:=by
 refine⟨B0,fun h=>?_⟩;unfold ZN;rw[x7i];intro i hi;rw[x4y]at hi;rw[x8q,x7i];intro s hs he;rw[x2n hi]at he;have he:l[i]=s:=eq_of_beq he;obtain⟨k,hk,rfl⟩:=x4t.1 hs;rw[x3m]at hk;rw[List.getElem_take]at he;have:=(List.getElem_inj h).1 he;omega
theorem NA:∀(l seen:List Str),seen.Nodup->((VC seen l).isSome=true↔(seen++l).Nodup)
 |[],seen,h=>by rw[VC,x4b];exact⟨fun _=>h,fun _=>rfl⟩
 | n::r,seen,h=>by
   rw[VC];cases hc:(seen.any fun s=>n==s)with
   | true=>
     rw[x3p];obtain⟨s,hs,he⟩:=x4o.1 hc;have he:n=s:=eq_of_beq he;refine⟨fun h=>by(cases h),fun h2=>?_⟩;rw[x4l]at h2;exact absurd rfl (h2.2.2 s hs n x2r |> fun hh=>he▸hh)
   | false=>
     rw[x3t];have hn:n∉seen:=fun hm=>by
      have:=x7i.1 hc n hm;simp at this
     have h1:(seen++[n]).Nodup:=by
      rw[x4l];exact⟨h,by simp,fun a ha b hb e=>hn (by rw[<-x2a.1 hb,<-e];exact ha)⟩
     rw[NA r (seen++[n]) h1,x3s];rfl
theorem Nk(f:Pr):∀(its:List Item)(seen:List Str),seen.Nodup->((∃s,YB f its seen=.ok s)↔(∀it∈its,VK f it=true)/\(seen++its.flatMap fun it=>it.s.labels).Nodup)
 | [],seen,h=>by
   rw[YB];refine⟨fun _=>⟨fun _ hh=>(by cases hh),by simpa using h⟩,fun _=>⟨seen,rfl⟩⟩
 | it::r,seen,h=>by
   have hj:=NA it.s.labels seen h;rw[YB];cases hq:VC seen it.s.labels with
   | none=>
     rw[hq]at hj;refine⟨fun⟨s,hs⟩=>by(cases hs),fun⟨_,h2⟩=>?_⟩;have:(seen++it.s.labels).Nodup:=by
      rw[x4n,<-x3s]at h2;exact(x4l.1 h2).1
     have:=hj.2 this;cases this
   | some s=>
     obtain rfl:=Q9 hq;rw[hq]at hj;have hn:=hj.1 rfl;simp only;cases hl:VK f it with
     | false=>
       rw[x3t];refine⟨fun⟨s,hs⟩=>by(cases hs),fun⟨h1,_⟩=>?_⟩;have:=h1 it x2r;rw[hl]at this;cases this
     | true=>
       rw[x3p,Nk f r _ hn,x4n,x3s];constructor
       ·rintro⟨h1,h2⟩;refine⟨fun x hx=>?_,h2⟩;rcases x2i.1 hx with rfl|hx
        ·exact hl
        ·exact h1 x hx
       ·rintro⟨h1,h2⟩;exact⟨fun x hx=>h1 x (x2c _ hx),h2⟩
theorem Gz(f:Pr):∀(its:List Item)(seen s:List Str),YB f its seen=.ok s->s=seen++its.flatMap fun it=>it.s.labels
 |[],seen,s,h=>by rw[YB]at h;cases h;simp
 | it::r,seen,s,h=>by
   rw[YB]at h;cases hq:VC seen it.s.labels with
   |none=>rw[hq]at h;cases h
   | some s2=>
     obtain rfl:=Q9 hq;rw[hq]at h;simp only at h;cases hl:VK f it with
     |false=>rw[hl]at h;cases h
     | true=>
       rw[hl,x3p]at h;rw[Gz f r _ s h,x4n,x3s]
def D3(f:Pr):List Str:=(flL f.body).flatMap S.labels++f.fin
def Aw(p:Pg)(j:Nat)(f:Pr):Prop:=(∀it∈itsOf p j f,VK f it=true)/\(D3 f).Nodup
theorem Gq(p:Pg)(j:Nat)(f:Pr):((itsOf p j f).flatMap fun it=>it.s.labels)=(flL f.body).flatMap S.labels:=by
 unfold itsOf;rw[<-DD (j:Nat) 0 (-1) 0 (QB p.procs j) f.body,List.flatMap_map]
theorem Gx{p:Pg}{f:Pr}(hj:p.procs[j]?=some f):UI p j=none↔Aw p j f:=by
 unfold UI Aw D3;rw[hj];simp only;have h1:=Nk f (itsOf p j f) [] x8f;rw[x7h,Gq]at h1;have h0:YB f (itL (j:Nat) 0 (-1) 0 (QB p.procs j) f.body) []=YB f (itsOf p j f) []:=rfl;rw[h0];cases hq:YB f (itsOf p j f) []with
 | error id=>
   rw[hq]at h1;refine⟨fun h=>by(cases h),fun⟨h2,h3⟩=>?_⟩;obtain⟨s,hs⟩:=h1.2 ⟨h2,(x4l.1 h3).1⟩;cases hs
 | ok seen=>
   rw[hq]at h1;have hs:=Gz f _ _ _ hq;rw[x7h,Gq]at hs;obtain⟨h2,h3⟩:=h1.1 ⟨seen,rfl⟩;have hJ:=NA f.fin seen (by rw[hs];exact h3);simp only;rw[<-hs];cases hq2:VC seen f.fin with
   | none=>
     rw[hq2]at hJ;refine⟨fun h=>by(cases h),fun⟨_,h4⟩=>?_⟩;have:=hJ.2 h4;cases this
   | some s=>
     rw[hq2]at hJ;exact⟨fun _=>⟨h2,hJ.1 rfl⟩,fun _=>rfl⟩
theorem RA{p:Pg}(hs:(QA p).1=0):(PG p).1=0 ↔ ∀j f,p.procs[j]?=some f->Aw p j f:=by
 unfold PG;rw[if_neg (by omega)];cases hf:(List.range p.procs.length).findSome? (UI p)with
 | some a=>
   refine⟨fun h=>by simp at h,fun h=>?_⟩;obtain⟨j,hj,hq⟩:=x7t hf;rw[x4y]at hj;have:=(Gx (x2n hj)).2 (h j _ (x2n hj));rw[this]at hq;cases hq
 | none=>
   refine⟨fun _ j f hj=>?_,fun _=>rfl⟩;have hlt:j<p.procs.length:=(x2o.1 hj).1;exact(Gx hj).1 (x7v.1 hf j (x4y.2 hlt))
def allV(p:Pg)(f:Pr):List Str:=p.globals++Jd f
structure ScopeOK(p:Pg)(f:Pr):Prop where
 nd:(allV p f).Nodup
 kn:∀t∈flL f.body,knownB p f (procsN p) t=true
theorem J2{p:Pg}{f:Pr}(hg:ZN p.globals=false):WM p f=none↔ScopeOK p f:=by
 unfold WM;have h1:(ZN (Jd f)||(Jd f).any (fun n=>p.globals.any fun s=>n==s))=false↔(allV p f).Nodup:=by
  unfold allV;rw[x6s,Hj,x4l,x7i];have hgn:=Hj.1 hg;constructor
  ·rintro⟨a,b⟩;refine⟨hgn,a,fun x hx y hy e=>b y hy ?_⟩;rw[x4o];exact⟨x,hx,by rw[e];exact x6u _⟩
  ·rintro⟨_,a,b⟩;refine⟨a,fun y hy hh=>?_⟩;obtain⟨x,hx,he⟩:=x4o.1 hh;exact b x hx y hy (eq_of_beq he).symm
 cases hc:(ZN (Jd f)||(Jd f).any (fun n=>p.globals.any fun s=>n==s))with
 | true=>
   rw[x3p];refine⟨fun h=>by(cases h),fun h=>?_⟩;have:=h1.2 h.nd;rw[hc]at this;cases this
 | false=>
   rw[x3t,x8i,x6q];constructor
   ·exact fun h=>⟨h1.1 hc,fun t ht=>by have:=h t ht;simpa using this⟩
   ·intro h t ht;rw[h.kn t ht];decide
theorem Qp{p:Pg}(hm:YL p=true):(QA p).1=0↔ZY p=false/\∀f∈p.procs,ScopeOK p f:=by
 unfold QA;rw[hm,x3p];cases hb:ZY p with
 |true=>rw[x3p];exact⟨fun h=>by simp at h,fun h=>by cases h.1⟩
 | false=>
   have hg:ZN p.globals=false:=by
    unfold ZY at hb;rw[x6s]at hb;exact hb.1
   rw[x3t];cases hf:p.procs.findSome? (WM p)with
   | some a=>
     refine⟨fun h=>by simp at h,fun h=>?_⟩;obtain⟨f,hm2,hq⟩:=x7t hf;rw[(J2 hg).2 (h.2 f hm2)]at hq;cases hq
   |none=>exact⟨fun _=>⟨rfl,fun f hm2=>(J2 hg).1 (x7v.1 hf f hm2)⟩,fun _=>rfl⟩
theorem U4{p:Pg}(hs:(QA p).1=0):(VZ p).1=0 ↔ ∀t∈VN p,t.kind=4->FB p t=true:=by
 unfold VZ;rw[if_neg (by omega)];cases hf:(VN p).find? fun t=>decide (t.kind=4) && !FB p t with
 | some t=>
   have h1:=x5n hf;have h2:=x6n hf;simp only[x3h,x3i,x5l]at h2;refine⟨fun h=>by simp at h,fun h=>?_⟩;have:=h t h1 h2.1;rw[h2.2]at this;cases this
 | none=>
   refine⟨fun _ t ht hk=>?_,fun _=>rfl⟩;have:=x6q.1 hf t ht;simp only[x3h,x3i,x5l,not_and]at this;simpa using this hk
theorem P4{p:Pg}(ha:(VZ p).1=0):(GK p).1=0 ↔ ∀t∈VN p,t.kind=4->ZJ t.name (HJ p t.proc) t.args []=true:=by
 unfold GK;rw[if_neg (by omega)];cases hf:(VN p).find? fun t=>decide (t.kind=4) && !ZJ t.name (HJ p t.proc) t.args []with
 | some t=>
   have h1:=x5n hf;have h2:=x6n hf;simp only[x3h,x3i,x5l]at h2;refine⟨fun h=>by simp at h,fun h=>?_⟩;have:=h t h1 h2.1;rw[h2.2]at this;cases this
 | none=>
   refine⟨fun _ t ht hk=>?_,fun _=>rfl⟩;have:=x6q.1 hf t ht;simp only[x3h,x3i,x5l,not_and]at this;simpa using this hk
theorem q2f{p:Pg}:QE p=true↔YL p=true/\(QA p).1=0/\(VZ p).1=0/\(PG p).1=0/\(GK p).1=0:=by
 refine⟨QK,fun⟨h1,h2,h3,h4,h5⟩=>?_⟩;unfold QE q2z;rw[x3i,if_neg (by rw[h1];decide),if_neg (by omega),if_neg (by omega),if_neg (by omega)];exact h5
theorem q3h{l:List Nat}{a:Nat}(h:a∈l):a<=Sa l:=by
 induction l with
 |nil=>cases h
 | cons b r ih=>
   rw[Sa];rcases x2i.1 h with rfl|h
   ·omega
   ·have:=ih h;omega
theorem Ke:∀(n:Nat)(x:X)(k:Nat),wX x<k->GD n x<=n->PJ k x=true->VD n x=true
 |0,x,k,_,h,_=>by rw[GD]at h;omega
 |n+1,x,0,hk,_,_=>by omega
 | n+1,x,k+1,hk,h,hf=>by
   rw[GD]at h;rw[PJ,x3h,x4d]at hf;obtain⟨ho,hkids⟩:=hf;have hxe:wX x=1+wXs x.kids:=by cases x;rw[wX];rfl
   have hk2:∀y∈x.kids,VD n y=true:=fun y hy=>Ke n y k (by have:=Rn _ _ hy;omega) (by have:=q3h (x3q.2 ⟨y,hy,rfl⟩:GD n y∈x.kids.map (GD n));omega) (hkids y hy);unfold GR at ho;simp only[x3h,x6p,x3i,x6d]at ho;obtain⟨⟨⟨⟨h1,h2⟩,h3⟩,h4⟩,h5⟩:=ho;rw[VD,x3h,x3i];refine⟨h1.symm,?_⟩;split
   ·rename_i h6;rw[h6,x4i (by decide)]at h4;simp_all
   ·rename_i h6;split
    ·rename_i h7;rw[x5g h7]at h4;simp_all
    ·rename_i h7;rw[x4i h7]at h4;simp_all
theorem Ai(x:X):mayXR x=Aa x:=by
 rw[x7k];refine⟨fun h=>?_,Ae⟩;unfold mayXR at h;rw[x3h,x3i]at h;exact Ke 20 x _ (x9d _) h.1 h.2
theorem q2v(a:Arg):argR a=Q6 a:=by
 unfold argR Q6 YT FJ;rw[Ai];cases a.ref<;>rfl
theorem Od{s:S}(h:OneF s):oneOk s=true:=by
 obtain⟨f1,f2,f3,f4,f5,f6,f7,f8,f9,f10,f11,f12,f13,f14⟩:=h;have h11:s.args.all Q6=true:=by
  rw[x4d]at f11⊢;exact fun a ha=>by rw[<-q2v];exact f11 a ha
 rw[Ai]at f4;have hk:s.kind=1\/s.kind=2\/s.kind=3\/s.kind=4\/s.kind=5\/s.kind=6\/s.kind=7\/s.kind=8\/s.kind=9\/s.kind=10:=by omega
 have hz:∀{α:Type}(l:List α),l.length=0->decide (0<l.length)=false:=fun l h=>x4i (by omega);have hnm:¬(s.kind=1\/s.kind=2\/s.kind=10)->s.kind≠4->(s.name==[])=true:=fun h1 h2=>by
  rcases f8 h1 with h|h
  ·exact h
  ·exact absurd h.1 h2
 have hhas:s.kind≠9->s.has=false:=fun h=>by
  cases hq:s.has with
  |false=>rfl
  |true=>exact absurd (f6 hq) h
 unfold oneOk;rw[x3h];refine⟨?_,f1⟩;have key:∀(f:Flds),Q1 s.kind s.has (s.name==[])=some f->f.has=false->(f.thn=false->s.thn.length=0)->(f.els=false->s.els.length=0)->(s.kind≠4->s.args.length=0)->YT s.name f.name=true->YT s.proc f.proc=true->FJ s.x f.x=true->XA s=true:=fun f hf a1 a2 a3 a4 a5 a6 a7=>by
  rw[Kb hf,a1,a5,a6,a7,h11];have e1:(!f.thn&&decide (0<s.thn.length))=false:=by
   cases ht:f.thn with
   |true=>rfl
   |false=>rw[hz _ (a2 ht)];rfl
  have e2:(!f.els&&decide (0<s.els.length))=false:=by
   cases ht:f.els with
   |true=>rfl
   |false=>rw[hz _ (a3 ht)];rfl
  have e3:(!decide (s.kind=4)&&decide (0<s.args.length))=false:=by
   by_cases h4:s.kind=4
   ·rw[x5g h4];rfl
   ·rw[hz _ (a4 h4)];exact Bool.and_false _
  rw[e1,e2,e3];rfl
 have noP:s.kind≠4->YT s.proc false=true:=fun h=>f10 h;rcases hk with hk|hk|hk|hk|hk|hk|hk|hk|hk|hk
 ·exact key ⟨true,false,true,s.has,false,false⟩ (by rw[hk];rfl) (hhas (by omega)) (fun _=>by omega) (fun _=>by omega) f12 (f7 (by omega)) (noP (by omega)) (f4 (by unfold hasXB;rw[hk];rfl))
 ·exact key ⟨true,false,false,s.has,false,false⟩ (by rw[hk];rfl) (hhas (by omega)) (fun _=>by omega) (fun _=>by omega) f12 (f7 (by omega)) (noP (by omega)) (f5 (by unfold hasXB;rw[hk];rfl))
 ·exact key ⟨false,false,true,s.has,false,false⟩ (by rw[hk];rfl) (hhas (by omega)) (fun _=>by omega) (fun _=>by omega) f12 (hnm (by omega) (by omega)) (noP (by omega)) (f4 (by unfold hasXB;rw[hk];rfl))
 ·refine key ⟨!(s.name==[]),true,false,s.has,false,false⟩ (by rw[hk];rfl) (hhas (by omega)) (fun _=>by omega) (fun _=>by omega) f12 ?_ (f9 hk) (f5 (by unfold hasXB;rw[hk];rfl));rcases f8 (by omega)with h|h
  ·rw[h];exact h
  ·rw[G9 h.2];exact h.2
 ·exact key ⟨false,false,true,s.has,true,true⟩ (by rw[hk];rfl) (hhas (by omega)) (fun h=>by cases h) (fun h=>by cases h) f12 (hnm (by omega) (by omega)) (noP (by omega)) (f4 (by unfold hasXB;rw[hk];rfl))
 ·exact key ⟨false,false,true,s.has,true,false⟩ (by rw[hk];rfl) (hhas (by omega)) (fun h=>by cases h) (fun _=>by omega) f12 (hnm (by omega) (by omega)) (noP (by omega)) (f4 (by unfold hasXB;rw[hk];rfl))
 ·exact key ⟨false,false,false,s.has,false,false⟩ (by rw[hk];rfl) (hhas (by omega)) (fun _=>by omega) (fun _=>by omega) f12 (hnm (by omega) (by omega)) (noP (by omega)) (f5 (by unfold hasXB;rw[hk];rfl))
 ·exact key ⟨false,false,false,s.has,false,false⟩ (by rw[hk];rfl) (hhas (by omega)) (fun _=>by omega) (fun _=>by omega) f12 (hnm (by omega) (by omega)) (noP (by omega)) (f5 (by unfold hasXB;rw[hk];rfl))
 ·refine key ⟨false,false,s.has,false,false,false⟩ (by rw[hk];rfl) rfl (fun _=>by omega) (fun _=>by omega) f12 (hnm (by omega) (by omega)) (noP (by omega)) ?_;cases hh:s.has with
  |true=>exact f4 (by unfold hasXB;rw[hk,hh];rfl)
  |false=>exact f5 (by unfold hasXB;rw[hk,hh];rfl)
 ·exact key ⟨true,false,false,s.has,false,false⟩ (by rw[hk];rfl) (hhas (by omega)) (fun _=>by omega) (fun _=>by omega) f12 (f7 (by omega)) (noP (by omega)) (f5 (by unfold hasXB;rw[hk];rfl))
theorem IW:∀(k:Nat)(l:List S)(i:Int)(e:Bool)(out:List RI),(flF k i e l out).length<=200->(∀x∈flF k i e l out,x.deep<=12)->flF k i e l out=out++fuL (13-(k:Int)) i e l:=by
 intro k;induction k with
 | zero=>
   intro l i e out h1 h2;cases l with
   |nil=>rw[fuL,x4b];rfl
   | cons s r=>
     exfalso;have e0:flF 0 i e (s::r) out=flF 0 i e r (if out.length<=200 then out++[⟨s,13,i,e⟩]else out):=rfl;rw[e0]at h1 h2;have hl:=(DX 0 i e r (if out.length<=200 then out++[⟨s,13,i,e⟩]else out)).1;by_cases ho:out.length<=200
     ·rw [if_pos ho]at h1 h2 hl;have hpre:∀(r:List S)(o:List RI)(x:RI),x∈o->x∈flF 0 i e r o:=fun r=>by
       induction r with
       |nil=>exact fun o x hx=>hx
       | cons a r ih=>
         intro o x hx;show x∈flF 0 i e r (if o.length<=200 then o++[⟨a,13,i,e⟩]else o);refine ih _ _ ?_;split
         ·exact x3x.2 (.inl hx)
         ·exact hx
      have:=h2 _ (hpre r _ ⟨s,13,i,e⟩ (x3x.2 (.inr (x2a.2 rfl))));simp at this
     ·rw[if_neg ho]at h1 hl;omega
 | succ k ih=>
   intro l;induction l with
   |nil=>intro i e out h1 h2;rw[fuL,x4b];rfl
   | cons s r ihr=>
     intro i e out h1 h2;have e0:flF (k+1) i e (s::r) out=flF (k+1) i e r (if out.length<=200 then flF k s.id true s.els (flF k s.id false s.thn (out++[⟨s,13-((k+1:Nat):Int),i,e⟩]))else out):=rfl;rw[e0]at h1 h2⊢;have hl:=(DX (k+1) i e r (if out.length<=200 then flF k s.id true s.els (flF k s.id false s.thn (out++[⟨s,13-((k+1:Nat):Int),i,e⟩]))else out)).1;have ho:out.length<=200:=by
      refine x5p fun hq=>?_;rw[if_neg hq]at hl h1;omega
     rw[if_pos ho]at h1 h2 hl⊢;have h3:=ihr i e _ h1 h2;rw[h3]at h2;have h2':∀x∈flF k s.id true s.els (flF k s.id false s.thn (out++[⟨s,13-((k+1:Nat):Int),i,e⟩])),x.deep<=12:=fun x hx=>h2 x (x3x.2 (.inl hx));have h4:=ih s.els s.id true _ (by omega) h2';rw[h4]at h2';have h2'':∀x∈flF k s.id false s.thn (out++[⟨s,13-((k+1:Nat):Int),i,e⟩]),x.deep<=12:=fun x hx=>h2' x (x3x.2 (.inl hx));have hl2:=(DX k s.id true s.els (flF k s.id false s.thn (out++[⟨s,13-((k+1:Nat):Int),i,e⟩]))).1;have h5:=ih s.thn s.id false _ (by omega) h2'';have ed:(13:Int)-((k+1:Nat):Int)+1=13-(k:Int):=by omega
     rw[h3,h4,h5,fuL,CS,ed];simp
mutual
theorem q4x(d i:Int)(e:Bool)(seen:Nat):∀(t:S),(fuS d i e t).map (fun x=>x.s.id)=KO seen (ZW t)->(∀x∈fuS d i e t,x.deep<=12/\oneOk x.s=true)->seen+ZW t<=200->Jb d seen t=some ((seen+ZW t:Nat):Int)
 | .mk id kind labels name proc x has args thn els,h1,h2,h3=>by
   have hc:ZW (.mk id kind labels name proc x has args thn els)=1+cntL thn+cntL els:=ZV _;rw[fuS]at h1 h2;rw[hc]at h1 h3⊢;have hsp:KO seen (1+cntL thn+cntL els)=((seen:Int)+1)::(KO (seen+1) (cntL thn)++KO (seen+1+cntL thn) (cntL els)):=by
    rw[<-HG];unfold KO;rw[show 1+cntL thn+cntL els=(cntL thn+cntL els)+1 by omega,List.range'_succ,x3l];congr 1
   rw[hsp,x3l,x3y]at h1;have hid:id=(seen:Int)+1:=(List.cons.inj h1).1;have h1':=(List.cons.inj h1).2;have hlen:((fuL (d+1) id false thn).map fun x=>x.s.id).length=(KO (seen+1) (cntL thn)).length:=by
    rw[x2m,NR];unfold KO;simp
   obtain⟨ha,hb⟩:=List.append_inj h1' hlen;have hok:=h2 _ x2r;have r1:=Dd (d+1) id false (seen+1) thn ha (fun x hx=>h2 x (x2c _ (x3x.2 (.inl hx)))) (by omega);have r2:=Dd (d+1) id true (seen+1+cntL thn) els hb (fun x hx=>h2 x (x2c _ (x3x.2 (.inr hx)))) (by omega);have hoo:=hok.2;unfold oneOk at hoo;rw[x3h]at hoo;rw[Jb,if_neg (by omega),if_neg (by omega),show namesB labels=true from hoo.2,x3p,show XA (.mk id kind labels name proc x has args thn els)=true from hoo.1,x3p];have e1:(seen:Int)+1=((seen+1:Nat):Int):=by omega
   rw[e1,r1];simp only;rw[r2];congr 1;omega
theorem Dd(d i:Int)(e:Bool)(seen:Nat):∀(l:List S),(fuL d i e l).map (fun x=>x.s.id)=KO seen (cntL l)->(∀x∈fuL d i e l,x.deep<=12/\oneOk x.s=true)->seen+cntL l<=200->WY d seen l=some ((seen+cntL l:Nat):Int)
 |[],_,_,_=>by rw[WY,cntL];rfl
 | t::r,h1,h2,h3=>by
   rw[fuL]at h1 h2;have hc:cntL (t::r)=ZW t+cntL r:=by rw[cntL]
   rw[hc]at h1 h3⊢;rw[HG,x3y]at h1;have hlen:((fuS d i e t).map fun x=>x.s.id).length=(KO seen (ZW t)).length:=by
    have:=NR d i e [t];rw[fuL,fuL,x4b,cntL,cntL]at this;rw[x2m,this];unfold KO;simp
   obtain⟨ha,hb⟩:=List.append_inj h1 hlen;have hd:d<=12:=by
    have:(⟨t,d,i,e⟩:RI)∈fuS d i e t++fuL d i e r:=x3x.2 (.inl (by rw[CS];exact x2r));exact(h2 _ this).1
   have r1:=q4x d i e seen t ha (fun x hx=>h2 x (x3x.2 (.inl hx))) (by omega);have r2:=Dd d i e (seen+ZW t) r hb (fun x hx=>h2 x (x3x.2 (.inr hx))) (by omega);rw[WY,if_neg (by omega),r1];simp only;rw[r2];congr 1;omega
end
theorem Nf:∀(l:List Pr)(seen:Nat),(∀f∈l,JX f=true)->((l.flatMap flatU).map fun x=>x.s.id)=KO seen (cntP l)->(∀x∈l.flatMap flatU,x.deep<=12/\oneOk x.s=true)->seen+cntP l<=200->(XG seen l).isSome=true
 |[],_,_,_,_,_=>rfl
 | f::r,seen,h1,h2,h3,h4=>by
   rw[x4n]at h2 h3;have hc:cntP (f::r)=cntL f.body+cntP r:=by rw[cntP]
   rw[hc]at h2 h4;rw[HG,x3y]at h2;have hlen:((flatU f).map fun x=>x.s.id).length=(KO seen (cntL f.body)).length:=by
    unfold flatU;rw[x2m,NR];unfold KO;simp
   obtain⟨ha,hb⟩:=List.append_inj h2 hlen;have r1:=Dd 1 0 false seen f.body ha (fun x hx=>h3 x (x3x.2 (.inl hx))) (by omega);have r2:=Nf r (seen+cntL f.body) (fun g hg=>h1 g (x2c _ hg)) hb (fun x hx=>h3 x (x3x.2 (.inr hx))) (by omega);rw[XG,h1 f x2r,x3p,r1];exact r2
theorem TO:∀(l:List Pr)(out:List RI),(FI l out).length<=200->(∀x∈FI l out,x.deep<=12)->FI l out=out++l.flatMap flatU:=by
 intro l;induction l with
 |nil=>intro out _ _;show out=_;simp
 | cons f r ih=>
   intro out h1 h2;have mono:∀(r:List Pr)(o:List RI),o.length<=(FI r o).length:=fun r=>by
    induction r with
    |nil=>exact fun o=>x3g _
    | cons g r ih=>
      intro o;show _<=(FI r (if o.length<=200 then o++GB g else o)).length;have:=ih (if o.length<=200 then o++GB g else o);split at this
      ·rw[if_pos (by assumption)];simp only[x2s]at this;omega
      ·rw[if_neg (by assumption)];exact this
   have e0:FI (f::r) out=FI r (if out.length<=200 then out++GB f else out):=rfl;rw[e0]at h1 h2⊢;have hm:=mono r (if out.length<=200 then out++GB f else out);have ho:out.length<=200:=by
    refine x5p fun hq=>?_;rw[if_neg hq]at hm h1;omega
   rw[if_pos ho]at h1 h2 hm⊢;have h3:=ih _ h1 h2;rw[h3]at h2 h1⊢;simp only[x2s]at h1;have h4:=IW 12 f.body 0 false [] (by show(GB f).length<=200;omega) (fun x hx=>h2 x (x3x.2 (.inl (x3x.2 (.inr hx)))));have h5:GB f=flatU f:=by simpa[GB,flatU]using h4
   rw[h5];simp
theorem q6l{p:Pg}(h1:p.globals.length<=16)(h2:p.procs.length<=16)(h3:namesB p.globals=true)(h4:∀f∈p.procs,JX f=true)(h5:(allR p).length<=200)(h6:∀(k:Nat)(x:RI),(allR p)[k]?=some x->x.s.id=(k:Int)+1/\x.deep<=12/\oneOk x.s=true):YL p=true:=by
 have hmem:∀x∈allR p,x.deep<=12/\oneOk x.s=true:=fun x hx=>by
  obtain⟨k,hk,rfl⟩:=x4t.1 hx;exact(h6 k _ (x2n hk)).2
 have he:allR p=p.procs.flatMap flatU:=by
  have:=TO p.procs [] h5 (fun x hx=>(hmem x hx).1);simpa[allR]using this
 have hids:(p.procs.flatMap flatU).map (fun x=>x.s.id)=KO 0 (cntP p.procs):=by
  refine x8k fun k=>?_;rw[x2e,<-he];rcases x3v k (allR p).length with hk|hk
  ·have hk2:k<cntP p.procs:=by rw[<-LB,<-he];exact hk
   rw[x2n hk];have:=(h6 k _ (x2n hk)).1;unfold KO;rw[x2e,x9k hk2];simp only[x6e,this];congr 1;omega
  ·have hk2:cntP p.procs<=k:=by rw[<-LB,<-he];exact hk
   rw[x4a hk,x4a (by unfold KO;simpa using hk2)];rfl
 have hlen:0+cntP p.procs<=200:=by rw[<-LB,<-he];omega
 have:=Nf p.procs 0 h4 hids (fun x hx=>hmem x (by rw[he];exact hx)) hlen;unfold YL;rw[x5g h1,x5g h2,h3];exact this
theorem Yr{s:S}(h:oneOk s=true->False):oneOk s=false:=by
 cases hq:oneOk s with
 |false=>rfl
 |true=>exact(h hq).elim
theorem MB(s:S):SpecP prog 110 [.agg s.cells] (fun r=>r=.bool (oneOk s)):=by
 refine sB LJ func110 rfl call110 ?_;conv=>whnf
 have hal:(s.args.map fun a=>AV.agg a.cells).length=s.args.length:=x2m _;have htl:((S.avs s.thn).length:Int)=s.thn.length:=by rw[S.avs_len]
 have hel:((S.avs s.els).length:Int)=s.els.length:=by rw[S.avs_len]
 repeat' (first|((first|(refine iM fun _=>?_)|refine cP (XP _) ?_|refine cP (UV _) ?_|refine cP (GE _) ?_|refine cP (YE _) ?_|refine FE QY rfl rfl rfl rfl rfl ?_);conv=>whnf)|(apply bD<;>intro _<;>first|omega|conv=>whnf)|(apply bE<;>intro _<;>first|omega|conv=>whnf)|(apply bN<;>intro _<;>conv=>whnf)|(apply bB<;>intro _<;>conv=>whnf))
 all_goals simp only[show(ByteArray.mk #[]).data.toList=[]from rfl]at*
 all_goals first
  | (refine RetK.ff (Yr fun h=>?_)
     obtain⟨f1,f2,f3,f4,f5,f6,f7,f8,f9,f10,f11,f12,f13,f14⟩:=VE h;first
      |omega
      |(exfalso;simp_all[hasXB];done)
      |(exfalso;simp_all[hasXB];omega)
      | (rename_i hq
         by_cases hk:s.kind=4
         ·have h15:=G9 (f9 hk);simp_all
          done
         ·have h15:=f10 hk;simp_all
          done))
  |skip
 all_goals
  have G:s.args.all argR=true->(s.thn.length=0\/s.kind=5\/s.kind=6)->(s.els.length=0\/s.kind=5)->oneOk s=true:=fun g1 g2 g3=>by
   refine Od ⟨by assumption,by omega,by omega,fun q=>?_,fun q=>?_,fun q=>?_,fun q=>?_,fun q=>?_,fun q=>?_,fun q=>?_,g1,fun q=>?_,g2,g3⟩;all_goals clear hal htl hel g1 g2 g3
   all_goals first
    |omega
    |assumption
    |(simp_all[hasXB];done)
    |(simp_all[hasXB];omega)
    | (have h4:(s.kind==4) = !(s.proc==[]):=by assumption
       have h5:(s.kind==4)=false:=x9r.2 (by assumption);rw[h5]at h4
       revert h4
       cases(s.proc==[])<;>simp
       done)
  refine LoopK.inv QY (fun j:Nat=>⟨[(1,.p (.ip s.cells)),(143,.p (.sl (s.args.map fun a=>.agg a.cells))),(144,.p (.int .i64 (s.args.map fun a=>AV.agg a.cells).length)),(145,.p (.int .i64 j))],[]⟩) (fun j=>j<=s.args.length/\(s.args.drop j).all argR=s.args.all argR) (fun j=>s.args.length-j) 0 (Le.of_eq rfl) ⟨x3z _,rfl⟩ ?_;rintro j ⟨h2,h3⟩;rcases x3v j s.args.length with hj|hj
  ·conv=>whnf
   repeat' (first|((first|refine cP (V0 _) ?_|refine x2t rfl ?_|(refine iA fun _=>?_)|refine wI ?_);conv=>whnf)|(apply bD<;>intro _<;>first|omega|conv=>whnf)|(apply bN<;>intro _<;>conv=>whnf))
   all_goals first
    |exact⟨j+1,⟨hj,by rw[HW hj (by assumption)];exact h3⟩,by omega,Le.of_eq rfl⟩
    | (refine RetK.ff (Yr fun h=>?_)
       have h4:=x4d.1 (VE h).args _ (x3w hj);simp_all)
  ·rw [HZ hj]at h3;have G:=G h3.symm;conv=>whnf
   repeat' (first|(refine iM fun _=>?_;conv=>whnf)|(apply bD<;>intro _<;>first|omega|conv=>whnf))
   all_goals first
    |exact RetK.tt (G (by omega) (by omega))
    | (refine RetK.ff (Yr fun h=>?_)
       have F1:=(VE h).thn;have F2:=(VE h).els;omega)
    | (refine RetK.bool ?_
       first
        |rw[x7k,x6d]
        |rw[x7k,x3i]
       exact⟨fun q=>G (by omega) (by omega),fun h=>by have F1:=(VE h).thn;have F2:=(VE h).els;omega⟩)
end Go.Ab
