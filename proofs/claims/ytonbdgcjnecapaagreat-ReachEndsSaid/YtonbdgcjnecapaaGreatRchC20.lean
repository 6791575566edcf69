/- The library's contracts at this seat's program, in plain words (printed by the kit's lay-plain.mjs). Conditions: none. -/
import Derived.Shelf.Sort.Plain
import Derived.Shelf.Slices.In.SortNone
import Derived.Shelf.Slices.CompactS
import Derived.Ground.Names2Prog
import Derived.Shelf.Slices.SearchI
import Derived.Shelf.Slices.Empties
import Derived.Shelf.Spec.SlicesInsert
import Derived.Shelf.Spec.SlicesInsertGrow
import Derived.Shelf.SlSortCmp.NoneTotal
import Derived.Ground.SlsfProg
import Derived.Test.YtonbdgcjnecapaaGreatProg
import Derived.Test.YtonbdgcjnecapaaGreatRchC7
import Derived.Test.YtonbdgcjnecapaaGreatRchC9
import Derived.Test.YtonbdgcjnecapaaGreatRchC13
import Derived.Test.YtonbdgcjnecapaaGreatRchC15
import Derived.Test.YtonbdgcjnecapaaGreatRchC16
import Derived.Test.YtonbdgcjnecapaaGreatRchC17
import Derived.Test.YtonbdgcjnecapaaGreatRchC18
import Derived.Test.YtonbdgcjnecapaaGreatRchC19
set_option linter.all false
set_option maxRecDepth 100000
set_option maxHeartbeats 16000000
namespace Go.Proofs
open Go.Shelf
def Tryz.laysG_ren:Go.Shelf.Ren:=⟨fun|6=>115|15=>187|14=>186|28=>245|29=>246|20=>237|21=>238|22=>239|23=>240|24=>241|25=>242|26=>243|27=>244|46=>293|47=>294|48=>295|49=>296|50=>297|57=>324|n=>n,fun|22=>105|24=>107|25=>178|3=>3|39=>242|0=>0|53=>280|55=>282|4=>4|46=>274|45=>273|50=>201|5=>5|9=>9|66=>307|70=>311|76=>328|77=>30|n=>n,fun|n=>n⟩
def K2:Go.Proofs.SlLaysF0.n6 Tryz.prog Tryz.laysG_ren:={
 mixed:=by kernel_rfl
 f6:=⟨Tryz.f115.name,by decide,Tryz.func115.trans (congrArg some (by kernel_rfl))⟩
 f14:=⟨Tryz.f186.name,by decide,Tryz.func186.trans (congrArg some (by kernel_rfl))⟩
 f15:=Tryz.func187.trans (congrArg some (by kernel_rfl))
 f20:=⟨Tryz.f237.name,by decide,Tryz.func237.trans (congrArg some (by kernel_rfl))⟩
 f21:=⟨Tryz.f238.name,by decide,Tryz.func238.trans (congrArg some (by kernel_rfl))⟩
 f22:=⟨Tryz.f239.name,by decide,Tryz.func239.trans (congrArg some (by kernel_rfl))⟩
 f23:=⟨Tryz.f240.name,by decide,Tryz.func240.trans (congrArg some (by kernel_rfl))⟩
 f24:=⟨Tryz.f241.name,by decide,Tryz.func241.trans (congrArg some (by kernel_rfl))⟩
 f25:=⟨Tryz.f242.name,by decide,Tryz.func242.trans (congrArg some (by kernel_rfl))⟩
 f26:=⟨Tryz.f243.name,by decide,Tryz.func243.trans (congrArg some (by kernel_rfl))⟩
 f27:=⟨Tryz.f244.name,by decide,Tryz.func244.trans (congrArg some (by kernel_rfl))⟩
 f28:=Tryz.func245.trans (congrArg some (by kernel_rfl))
 f29:=Tryz.func246.trans (congrArg some (by kernel_rfl))
 f46:=⟨Tryz.f293.name,by decide,Tryz.func293.trans (congrArg some (by kernel_rfl))⟩
 f47:=Tryz.func294.trans (congrArg some (by kernel_rfl))
 f48:=Tryz.func295.trans (congrArg some (by kernel_rfl))
 f49:=⟨Tryz.f296.name,by decide,Tryz.func296.trans (congrArg some (by kernel_rfl))⟩
 f50:=⟨Tryz.f297.name,by decide,Tryz.func297.trans (congrArg some (by kernel_rfl))⟩
 f57:=⟨Tryz.f324.name,by decide,Tryz.func324.trans (congrArg some (by kernel_rfl))⟩
 t0:=Tryz.underlying0
 a0:=Tryz.isAgg0
 z0:=Tryz.sizeOf0
 v0:=Tryz.zeroValue0
 t3:=Tryz.underlying3
 a3:=Tryz.isAgg3
 z3:=Tryz.sizeOf3
 v3:=Tryz.zeroValue3
 t4:=Tryz.underlying4
 a4:=Tryz.isAgg4
 z4:=Tryz.sizeOf4
 v4:=Tryz.zeroValue4
 t5:=Tryz.underlying5
 a5:=Tryz.isAgg5
 z5:=Tryz.sizeOf5
 v5:=Tryz.zeroValue5
 t9:=Tryz.underlying9
 a9:=Tryz.isAgg9
 z9:=Tryz.sizeOf9
 v9:=Tryz.zeroValue9
 t22:=Tryz.underlying105
 a22:=Tryz.isAgg105
 z22:=Tryz.sizeOf105
 v22:=Tryz.zeroValue105
 t25:=Tryz.underlying178
 a25:=Tryz.isAgg178
 z25:=Tryz.sizeOf178
 v25:=Tryz.zeroValue178
 t39:=Tryz.underlying242
 a39:=Tryz.isAgg242
 z39:=Tryz.sizeOf242
 v39:=Tryz.zeroValue242
 t45:=Tryz.underlying273
 a45:=Tryz.isAgg273
 z45:=Tryz.sizeOf273
 v45:=Tryz.zeroValue273
 t46:=Tryz.underlying274
 a46:=Tryz.isAgg274
 z46:=Tryz.sizeOf274
 v46:=Tryz.zeroValue274
 t50:=Tryz.underlying201
 a50:=Tryz.isAgg201
 z50:=Tryz.sizeOf201
 v50:=Tryz.zeroValue201
 t53:=Tryz.underlying280
 a53:=Tryz.isAgg280
 z53:=Tryz.sizeOf280
 v53:=Tryz.zeroValue280
 t55:=Tryz.underlying282
 a55:=Tryz.isAgg282
 z55:=Tryz.sizeOf282
 v55:=Tryz.zeroValue282
 t66:=Tryz.underlying307
 a66:=Tryz.isAgg307
 z66:=Tryz.sizeOf307
 v66:=Tryz.zeroValue307
 t70:=Tryz.underlying311
 a70:=Tryz.isAgg311
 z70:=Tryz.sizeOf311
 v70:=Tryz.zeroValue311
 t76:=Tryz.underlying328
 a76:=Tryz.isAgg328
 z76:=Tryz.sizeOf328
 v76:=Tryz.zeroValue328
 t77:=Tryz.underlying30
 a77:=Tryz.isAgg30
 z77:=Tryz.sizeOf30
 v77:=Tryz.zeroValue30}
end Go.Proofs
namespace Go.Ab
open Go.Proofs.Tryz
open Go.Proofs Go.Sort Go.RowKit Go.Lib
variable {a:Int}{j:Nat}{σ:Mem}
structure Fl where
 src:Int
 dst:Int
 var:Str
deriving DecidableEq
def Fl.cells(f:Fl):List AV:=[.int .i64 f.src,.int .i64 f.dst,.str f.var]
def ET(a b:Str):Int:=if Op.bytesLess a b=true then -1 else if Op.bytesLess b a=true then 1 else 0
def ES(a b:Str):ET a b<0↔ltT a b:=by
 unfold ET ltT;split
 .rename_i h;exact⟨fun _=>h,fun _=>by decide⟩
 .rename_i h;split
  .exact ⟨fun i=>absurd i (by decide),fun i=>absurd i h⟩
  .exact ⟨fun i=>absurd i (by decide),fun i=>absurd i h⟩
def C4(a b:Str):ET a b=0↔a=b:=by
 unfold ET;split
 .rename_i h;refine⟨fun i=>absurd i (by decide),fun i=>?_⟩;subst i;exact absurd h (ltT.irr a)
 .rename_i h;split
  .rename_i k;refine⟨fun i=>absurd i (by decide),fun i=>?_⟩;subst i;exact absurd k (ltT.irr a)
  .rename_i k;refine⟨fun _=>x3u fun m=>?_,fun _=>rfl⟩;rcases ltT.total m with l|l
   .exact h l
   .exact k l
def flC(a b:Fl):Int:=orI [Da (QT a.src) (QT b.src),Da (QT a.dst) (QT b.dst),ET a.var b.var]
def ND(a b:Str):SpecP prog 120 [.str a,.str b] (fun r=>r=.int .i64 (ET a b)):=by
 refine sB FU func120 rfl call120 ?_;conv=>whnf
 repeat' (first|((first|(refine iM fun _=>?_)|refine dA ?_|refine x0h rfl ?_|refine aD ?_|refine aR ?_|refine bP ?_|(refine iA fun _=>?_)|refine IdxK.xs (by omega) ?_|refine QX (by omega) ?_|(refine ByteK.at (by omega) ?_)|refine wI ?_|refine cP (UF a) ?_|refine cP (UF b) ?_);conv=>whnf)|(apply bD<;>intro _<;>first|omega|conv=>whnf)|(apply bE<;>intro _<;>first|omega|conv=>whnf)|(apply bN<;>intro _<;>conv=>whnf)|(apply bB<;>intro _<;>conv=>whnf))
 all_goals first
  |contradiction
  | (have i:Op.bytesLess a b=true:=by assumption
     exact RetK.int (by unfold ET;rw[if_pos i]))
  | (have i:Op.bytesLess a b=false:=by assumption
     have k:(Op.bytesLess a b||a==b)=true:=by assumption
     have l:a=b:=by rw[i]at k;simpa using k
     exact RetK.int ((C4 a b).2 l).symm)
  | (have i:Op.bytesLess a b=false:=by assumption
     have k:(Op.bytesLess a b||a==b)=false:=by assumption
     have l:a≠b:=by
      rw[i]at k;rintro rfl;simp at k
     have m:Op.bytesLess b a=true:=by
      rcases ltT.total l with h|h
      .exact absurd h (by unfold ltT;rw[i];decide)
      .exact h
     exact RetK.int (by unfold ET;rw[if_neg (by rw[i];decide),if_pos m]))
def Xp(a b:Fl):SpecP prog 116 [.agg a.cells,.agg b.cells] (fun r=>r=.int .i64 (flC a b)):=by
 refine sB PT func116 rfl call116 ?_;conv=>whnf
 have h:=ND a.var b.var;repeat' (first|((first|(refine iM fun _=>?_)|refine cP (P9 _) ?_|refine cP (HM _ _) ?_|refine cP (U9 [Da (QT a.src) (QT b.src),Da (QT a.dst) (QT b.dst),ET a.var b.var]) ?_|refine dA ?_|refine x0h rfl ?_|refine aD ?_|refine aR ?_|refine bP ?_|(refine iA fun _=>?_)|refine IdxK.xs (by omega) ?_|refine QX (by omega) ?_|(refine ByteK.at (by omega) ?_)|refine wI ?_|refine BsK.pureL rfl rfl ?_|refine cP h ?_);conv=>whnf)|(apply bD<;>intro _<;>first|omega|conv=>whnf)|(apply bE<;>intro _<;>first|omega|conv=>whnf)|(apply bN<;>intro _<;>conv=>whnf)|(apply bB<;>intro _<;>conv=>whnf))
 all_goals first
  |exact RetK.p rfl
def ltF(a b:Fl):Prop:=QT a.src<QT b.src\/QT a.src=QT b.src/\(QT a.dst<QT b.dst\/QT a.dst=QT b.dst/\ltT a.var b.var)
def FC(a b:Fl):flC a b<0↔ltF a b:=by
 unfold flC ltF;rw[A6,JC,JC,ES,VR,VR]
theorem ltF.irr(a:Fl):¬ltF a a:=by
 rintro(h|⟨_,h|⟨_,h⟩⟩)
 .omega
 .omega
 .exact ltT.irr _ h
theorem ltF.trans(a b c:Fl)(i:ltF a b)(l:ltF b c):ltF a c:=by
 unfold ltF at*
 rcases i with i|⟨m,i⟩<;>rcases l with l|⟨e2,l⟩
 .exact .inl (by omega)
 .exact .inl (by omega)
 .exact .inl (by omega)
 .refine .inr ⟨by omega,?_⟩;rcases i with i|⟨f1,i⟩<;>rcases l with l|⟨f2,l⟩
  .exact .inl (by omega)
  .exact .inl (by omega)
  .exact .inl (by omega)
  .exact .inr ⟨by omega,ltT.trans _ _ _ i l⟩
theorem ltT.neg{a b c:Str}(m:¬ltT a b)(l:¬ltT b c):¬ltT a c:=fun h=>by
 by_cases e:a=b
 .subst e;exact l h
 .rcases ltT.total e with i|i
  .exact m i
  .exact l (ltT.trans b a c i h)
theorem ltF.neg{x y z:Fl}(i:¬ltF x y)(l:¬ltF y z):¬ltF x z:=fun h=>by
 unfold ltF at i l h;have o:¬QT x.src<QT y.src:=fun h=>i (.inl h);have q:¬QT y.src<QT z.src:=fun h=>l (.inl h);rcases h with h|⟨e,h⟩
 .omega
 have m:QT x.src=QT y.src:=by omega
 have e2:QT y.src=QT z.src:=by omega
 have r:¬QT x.dst<QT y.dst:=fun h=>i (.inr ⟨m,.inl h⟩);have t:¬QT y.dst<QT z.dst:=fun h=>l (.inr ⟨e2,.inl h⟩);rcases h with h|⟨f,h⟩
 .omega
 exact ltT.neg (fun h=>i (.inr ⟨m,.inr ⟨by omega,h⟩⟩)) (fun h=>l (.inr ⟨e2,.inr ⟨by omega,h⟩⟩)) h
def okFl(s:Fl):Prop:=s.src≠9223372036854775807/\s.dst≠9223372036854775807/\s.var.length<=maxLen
abbrev OFl:={s:Fl // okFl s}
instance:Inhabited OFl:=⟨⟨⟨0,0,[]⟩,by decide,by decide,x0l _⟩⟩
def cfF(a b:OFl):Int:=flC a.1 b.1
def U7(a b:OFl):ltOf cfF a b=true↔ltF a.1 b.1:=by
 unfold ltOf cfF;rw[x1n,FC]
def LD(a b:OFl):ltOf cfF a b=false ↔ ¬ltF a.1 b.1:=by
 rw[<-U7,x5p]
def q0b:SWO (ltOf cfF):=by
 refine⟨fun x=>?_,fun x y z h i=>?_,fun x y z h i=>?_⟩
 .exact (LD x x).2 (ltF.irr _)
 .first
   |exact(U7 x z).2 (ltF.trans _ _ _ ((U7 x y).1 h) ((U7 y z).1 i))
   |exact(LD x z).2 (ltF.neg ((LD x y).1 h) ((LD y z).1 i))
 .first
   |exact(U7 x z).2 (ltF.trans _ _ _ ((U7 x y).1 h) ((U7 y z).1 i))
   |exact(LD x z).2 (ltF.neg ((LD x y).1 h) ((LD y z).1 i))
theorem ltF.total{a b:Fl}(u:okFl a)(v:okFl b)(i:¬ltF a b)(l:¬ltF b a):a=b:=by
 unfold ltF at i l;obtain⟨m,o,w⟩:=a;obtain⟨q,r,z⟩:=b;simp only at*
 have g:¬QT m<QT q:=fun h=>i (.inl h);have A:¬QT q<QT m:=fun h=>l (.inl h);have c:=UE (x:=m) (y:=q) u.1 v.1 (by omega);have B:¬QT o<QT r:=fun h=>i (.inr ⟨by omega,.inl h⟩);have C:¬QT r<QT o:=fun h=>l (.inr ⟨by omega,.inl h⟩);have e2:=UE (x:=o) (y:=r) u.2.1 v.2.1 (by omega);have e:w=z:=x3u fun t=>by
  rcases ltT.total t with h|h
  .exact i (.inr ⟨by omega,.inr ⟨by omega,h⟩⟩)
  .exact l (.inr ⟨by omega,.inr ⟨by omega,h⟩⟩)
 subst c e2 e;rfl
def q0p(x y:OFl)(h:ltOf cfF x y=false)(i:ltOf cfF y x=false):x=y:=Subtype.ext (ltF.total x.2 y.2 ((LD x y).1 h) ((LD y x).1 i))
def De(s:OFl):List Value:=[.int .i64 s.1.src,.int .i64 s.1.dst,.string ⟨s.1.var.toArray⟩]
def Bm(s:OFl):Rep σ (.agg s.1.cells) (.agg (De s).toArray):=by
 refine .agg _ _ (fun j=>(De s).toArray.getD j undef) rfl (fun j c h=>?_) (fun j c h=>?_)
 .match j,h with
  |0,_=>rfl
  |1,_=>rfl
  |2,_=>rfl
 .match j,h with
  |0,h=>cases h;exact .int _ _
  |1,h=>cases h;exact .int _ _
  |2,h=>cases h;exact .str _ s.2.2.2
def C3(W:World)(x y:OFl):Calls prog 116 (#[.agg (De x).toArray,.agg (De y).toArray] ++ #[]) W fun e w'=>e=.returned (.int .i64 (cfF x y))/\∃q k,w'=grow (W.drewN q) k:=by
 refine((Xp x.1 y.1).ok (fun _=>none) W #[.agg (De x).toArray,.agg (De y).toArray] rfl (fun j c i=>?_) (fun b c h=>by cases h)).mono ?_
 .match j,i with
  |0,i=>cases i;exact Bm x
  |1,i=>cases i;exact Bm y
 .rintro e w' ⟨c,u,σ',rfl,rfl,m,_,_,l,_⟩;cases m;exact⟨rfl,l.grown⟩
def NN(s:Fl):AV:=.agg s.cells
def q1q{l:List OFl}{vs:Array Value}(h:∀(m:Nat)(x:AV),(l.map fun s=>AV.agg s.1.cells)[m]?=some x->x.cells.length=3/\∀(j:Nat)(c:AV),x.cells[j]?=some c->∃u:Value,vs[m*3+j]?=some u/\Rep σ c u){m:Nat}(q:m<l.length)(o:j<3):
  vs[m*3+j]?=(De l[m])[j]?:=by
 have n:=(h m (.agg l[m].1.cells) (by simp[q])).2
 match j,o with
 | 0,_=>
   obtain⟨u,i,k⟩:=n 0 (.int .i64 l[m].1.src) rfl;cases k;exact i
 | 1,_=>
   obtain⟨u,i,k⟩:=n 1 (.int .i64 l[m].1.dst) rfl;cases k;exact i
 | 2,_=>
   obtain⟨u,i,k⟩:=n 2 (.str l[m].1.var) rfl;cases k;exact i
def q1x{l:List OFl}{vs:Array Value}(h:∀(m:Nat)(n:m<l.length)(j:Nat),j<3->vs[m*3+j]?=(De l[m])[j]?):∀(m:Nat)(x:AV),(l.map fun s=>AV.agg s.1.cells)[m]?=some x->x.cells.length=3/\∀(j:Nat)(c:AV),x.cells[j]?=some c->∃u:Value,vs[m*3+j]?=some u/\Rep σ c u:=by
 intro m x k;rw[x0d]at k;cases o:l[m]?with
 |none=>rw[o]at k;cases k
 | some s=>
   rw[o]at k;cases k;obtain⟨n,rfl⟩:=x0m.1 o;refine⟨rfl,fun j c i=>?_⟩
   match j,i with
   |0,i=>cases i;exact⟨_,h m n 0 (by omega),.int _ _⟩
   |1,i=>cases i;exact⟨_,h m n 1 (by omega),.int _ _⟩
   |2,i=>cases i;exact⟨_,h m n 2 (by omega),.str _ l[m].2.2.2⟩
def P7{d:Array OFl}{t:Nat}(h:t<d.size*3):(flatK De 3 d)[t]?=(De (d[t/3]'(by omega)))[t%3]?:=by
 have i:=get_flatK De 3 d t h;rw[x5g _ t (by simpa using h),x5g d (t/3) (by omega)]at i;rw[x2n (by simpa using h),i];have k:t%3<(De (d[t/3]'(by omega))).length:=by simp[De];omega
 rw[x0u k,x5g (De (d[t/3]'(by omega))) (t%3) k]
def VD(l:List Fl):List Fl:=l.mergeSort fun x y=> !decide (flC y x<0)
def Z8{l:List Fl}:(VD l).length=l.length:=by unfold VD;simp
def PY(l:List OFl)(U:l.length<=1000000000):
  SpecH prog 115 [.hd 1000 0 l.length,.p (.fn 116 [])] [(1000,.own 107 3 (l.map fun s=>.agg s.1.cells))]
   (fun r H=>r=.p (.tup [])/\H=[(1000,.own 107 3 ((l.mergeSort fun x y=> !(ltOf cfF) y x).map fun s=>.agg s.1.cells))]):=by
 refine⟨call115,fun σ β w Y hn B E=>?_⟩;obtain⟨v,u,rfl⟩:=q3w hn;have C:RepL σ β (.hd 1000 0 l.length) v:=by simpa using B 0 _ rfl
 have P:RepL σ β (.p (.fn 116 [])) u:=by simpa using B 1 _ rfl
 obtain rfl:u=.func (.func 116) #[] #[]:=by
  cases P with
  | p h=>cases h with
    | fn _ _ vs u N q hr=>
      obtain rfl:vs=#[]:=Array.size_eq_zero_iff.1 N;rfl
 have J:=E.chunks 1000 _ x0k;rcases J with⟨I,K⟩|⟨i,vs,F,O,L,R,Z,h4,h5⟩
 .have M:l=[]:=x6z.1 K;subst M;obtain⟨rfl,_⟩:=Pt C I;have q:=AnyF.slices_SortFunc_none K2 none 0 (.func (.func 116) #[] #[]) w;change Calls prog 115 _ _ _ at q;refine q.mono ?_;rintro e w' ⟨rfl,rfl⟩;exact⟨.p (.tup []),.tuple #[],σ,β,_,rfl,⟨rfl,rfl⟩,.p (.tup [] #[] (fun _=>undef) rfl (by simp) (by simp)),by simpa using E,by simpa using Later.refl _ _ _ _⟩
 .have Q:=Ks C F;subst Q;have A:=(E.apart 1000 (by simp) i F i.blk i.has_blk).2;have c:l.length<=i.cap:=by simpa using Z
  have hle:l.length*3<=vs.size:=by rw[R];omega
  have g:=fun m j V T=>q1q (σ:=σ) (l:=l) h5 (m:=m) (j:=j) V T;have q:=AnyQ.slices_SortFunc_total K2 3 Tryz.isAgg107 Tryz.sizeOf107 De (fun _=>rfl) (fun x v B=>by simp[De]at B;rcases B with rfl|rfl|rfl<;>rfl) cfF q0b 116 #[] i.blk 0 i.cap l.toArray w
   call116 (fun m os dk _ x y=>C3 _ x y) (fun t ht=>by
    have o:t<l.toArray.size*3:=by simpa using ht
    refine⟨?_,VK L _⟩;have D:=P7 o;have z:=g (t/3) (t%3) (by simp at o;omega) (by omega);rw[Nat.div_add_mod']at z;rw[JS L,x3v,z,x5g _ t (by simpa using o)];rw[x2n (by simpa using o)]at D;simpa using D.symm) A (by simp;omega) q0p
  simp only[x4x]at q;change Calls prog 115 _ _ _ at q;refine q.mono ?_;rintro e w' ⟨rfl,n,os,rfl⟩;generalize hS:(l.mergeSort fun x y=> !(ltOf cfF) y x)=S;have b:S.length=l.length:=by rw[<-hS];simp
  obtain⟨hf,hb⟩:=BS (enc:=id) (n:=n) (os:=os) (d:=flatK De 3 S.toArray) L A;obtain⟨G,hL⟩:=Vk (c':=.own 107 3 (S.map fun s=>.agg s.1.cells)) E F hf (.inr ⟨i,_,F,O,hb,by rw[HJ];exact R,by simp[b];exact c,h4,q1x fun m V j T=>by
   have D:=KZ (enc:=id) (d:=flatK De 3 S.toArray) (vs:=vs) (by simp[b];omega) (k:=m*3+j) (by simp;omega);have z:=P7 (d:=S.toArray) (t:=m*3+j) (by simp;omega);rw[x2n (by simp;omega)]at z;rw[D];simp only[id];rw[z];simp[show(m*3+j)/3=m by omega,show(m*3+j)%3=j by omega]⟩)
  exact⟨.p (.tup []),.tuple #[],σ,β,_,rfl,⟨rfl,rfl⟩,.p (.tup [] #[] (fun _=>undef) rfl (by simp) (by simp)),G,hL⟩
def Yo(l:List Fl)(i:∀s∈l,okFl s)(k:l.length<=1000000000):
  SpecH prog 115 [.hd 1000 0 l.length,.p (.fn 116 [])] [(1000,.own 107 3 (l.map fun s=>.agg s.cells))]
   (fun r H=>r=.p (.tup [])/\H=[(1000,.own 107 3 ((VD l).map fun s=>.agg s.cells))]):=by
 have h:=PY (l.attachWith okFl i) (by simpa using k);have n:((l.attachWith okFl i).map fun s=>AV.agg s.1.cells)=l.map fun s=>AV.agg s.cells:=by
  have:=x2o (List.map fun s:Fl=>AV.agg s.cells) (x5v (l:=l) (p:=okFl) i);simp
 have e2:(((l.attachWith okFl i).mergeSort fun x y=> !(ltOf cfF) y x).map fun s=>AV.agg s.1.cells)=(VD l).map fun s=>AV.agg s.cells:=by
  have m:=List.map_mergeSort (l:=l.attachWith okFl i) (f:=Subtype.val) (r:=fun x y=> !(ltOf cfF) y x) (s:=fun x y=> !decide (flC y x<0)) (fun a _ b _=>rfl);rw[x5v]at m;unfold VD;rw[<-m,x4i];rfl
 rw[n,e2]at h;simpa using h
open Classical in
noncomputable def comC(n:Nat)(steps:List (Int×Int))(at_:List Nat):List (List Int):=(List.range n).map fun c=>((List.range at_.length).filter fun f=>decide (SolP (QS n steps).1 ((gnC n at_ at_.length).map (HK (at_.length/64+1))) ((klC n at_ at_.length).map (HK (at_.length/64+1))) f (c:Nat))).map Int.ofNat
theorem ComR.eq{n:Nat}{steps:List (Int×Int)}{at_:List Nat}{r:AV}(h:ComR n steps at_ r):r=eMat (comC n steps at_):=by
 obtain⟨R,l,m,rfl⟩:=h;congr 1;unfold comC;refine List.ext_getElem (by simp[m]) fun c o t=>?_;have q:c<R.length:=by simpa using o
 rw[x4e,x4e,x6y];unfold US;congr 1;refine List.filter_congr fun f i=>?_;have i:=x1a.1 i;have:=l (c:Nat) (by omega) (by omega) f (Nat.lt_succ_of_le (Nat.div_le_div_right (by omega)));rw[x2s,x0y,x0u q,x2k]at this;rw[x4b,this];simp
def Ha(n:Nat)(steps:List (Int×Int))(at_:List Nat):(comC n steps at_).length=n:=by unfold comC;simp
def LP{n:Nat}{steps:List (Int×Int)}{at_:List Nat}{r:List Int}(h:r∈comC n steps at_):r.length<=at_.length/\∀f∈r,0<=f/\f<at_.length:=by
 unfold comC at h;obtain⟨c,_,rfl⟩:=x0n.1 h;refine⟨by rw[x0j];exact x1t (x2l _ _) (by simp),fun f i=>?_⟩;obtain⟨x,k,rfl⟩:=x0n.1 i;have:=x1a.1 (x1s.1 k).1;exact⟨x5l _,by show(x:Int)<_;omega⟩
def Nr{l l':List Fl}(h:l.Perm l')(n:∀s∈l,okFl s):VD l=VD l':=by
 have r:∀m:List Fl,(VD m).Pairwise fun x y=>¬ltF y x:=fun m=>by
  unfold VD;refine(x6v ?_ ?_ m).imp fun h=>?_
  .intro a b c i k;simp only[x3f,x2c]at i k⊢;rw[FC]at i k⊢;exact ltF.neg k i
  .intro a b;simp only[x3i,x3f,x2c];rw[FC,FC];by_cases i:ltF b a
   .exact .inr fun k=>ltF.irr a (ltF.trans a b a k i)
   .exact .inl i
  .rw [<-FC];simpa using h
 have v:(VD l).Perm (VD l'):=(x4r l _).trans (h.trans (x4r l' _).symm);refine v.eq_of_pairwise (fun a b t u i k=>?_) (r l) (r l');have o:a∈l:=(x4r l _).mem_iff.1 t;have q:b∈l:=h.mem_iff.2 ((x4r l' _).mem_iff.1 u);exact ltF.total (n a o) (n b q) k i
def Ut(l:List Str)(h:l.length<=1000000000):SpecH prog 94 [.hd 1000 0 l.length] [(1000,.own 9 1 (l.map .str))] (fun r H=>r=.hd 1000 0 (WA l).length/\H=[(1000,.own 9 1 ((WA l).map .str))]):=by
 refine sH Hu func94 rfl call94 ?_;conv=>whnf
 repeat' (first|(refine CallK.heap [(1000,1000)] 0 (by repeat' (first|exact x1m|refine x1x ?_ ?_|exact x1v _|exact x1d Sub.nils|exact x1d (Sub.tt rfl)|exact x1d (Sub.ff rfl)|exact x1d (Sub.int (by omega)))) (by refine x0e (j:=1000) rfl rfl ?_ ?_;exact CSub.refl _;exact x1l) (HH l h) rfl rfl ?_;rintro l' H' ⟨rfl,rfl⟩;conv=>whnf)|(refine CallK.heap [(1000,1000)] 0 (x1x (x5n (by rw[UZ];rfl)) x1m) (by refine x0e (j:=1000) rfl rfl ?_ ?_;exact CSub.refl _;exact x1l) (KT (JN l) (by rw[UZ];omega)) rfl rfl ?_;rintro l' H' ⟨rfl,rfl⟩;conv=>whnf))
 all_goals first
  |exact x4t _ (x1v _) ⟨rfl,rfl⟩
def HR(b:Book)(t:S):SpecP prog 168 [.ip b.cells,.agg t.cells] (fun r=>r=.int .i64 (Xr (fun f=>f.name==t.C) b.s.p.A)):=by
 refine sB ML func168 rfl call168 ?_;conv=>whnf
 have h:=XZ b.s t.C;repeat' ((first|refine dA ?_|refine cP h ?_);conv=>whnf)
 all_goals exact RetK.p rfl
def q5o(O:List Str)(x:Arg×Param):Bool:=x.1.ref&&inS O x.2.name
def Ay(t:S)(f:Pr)(O:List Str)(j:Nat):List Str:=(((t.args.zip f.B).take j).filter (q5o O)).map fun x=>x.1.name
def q0d(p:Pg)(t:S)(f:Pr)(O:List Str):List Str:=(if t.name=[]then []else [t.name])++Ay t f O t.args.length++O.filter (comB p)
def T5(t:S)(f:Pr)(O:List Str)(j:Nat):(Ay t f O j).length<=j:=by
 unfold Ay;rw[x0j];exact x1t (x2l _ _) (by rw[x1f];omega)
def Aj{t:S}{f:Pr}{O:List Str}(k:j<t.args.length)(l:j<f.B.length):Ay t f O (j+1)=Ay t f O j++(if t.args[j].ref=true/\inS O f.B[j].name=true then [t.args[j].name]else []):=by
 have i:j<(t.args.zip f.B).length:=by rw[List.length_zip];omega
 unfold Ay;rw[x0a i,x3k,x0c];congr 1;have e:(t.args.zip f.B)[j]=(t.args[j],f.B[j]):=List.getElem_zip;rw[e];by_cases h:t.args[j].ref=true/\inS O f.B[j].name=true
 .rw [if_pos h,x3d (by unfold q5o;simp[h])];rfl
 .rw [if_neg h,x3n (by unfold q5o;simpa using h)];rfl
def Ws(b:Book)(t:S)(i:Nat)(f:Pr)(O:List Str)(Z:Xr (fun f=>f.name==t.C) b.s.p.A=i)(Y:b.s.p.A[i]?=some f)(R:b.P[i]?=some O)(hs:O.Pairwise ltT)(hl:O.length<=1000000)(ha:t.args.length<=f.B.length)(U:t.args.length<=1000000):SpecH prog 163 [.p (.ip b.cells),.p (.agg t.cells)] [] (fun r H=>OneRow (H4 (q0d b.s.p t f O)) False r H):=by
 refine sH MT func163 rfl call163 ?_;conv=>whnf
 have J:=HR b t;rw[Z]at J;have Q:=fun x=>Q1 O x hs (by omega);have D:=fun x=>HT b x;have y:(b.P.map eStrs)[i]?=some (eStrs O):=by rw[x0d,R];rfl
 have G:(b.s.p.A.map fun f=>AV.agg f.cells)[i]?=some (.agg f.cells):=by rw[x0d,Y];rfl
 have V:(t.args.map fun a=>AV.agg a.cells).length=t.args.length:=x0j _;have T:(O.map AV.str).length=O.length:=x0j _;repeat' (first|((first|(refine iM fun _=>?_)|refine x0h rfl ?_|refine aD ?_|refine bP ?_|refine XQ (es:=[]) rfl (by simp) ?_|refine cP J ?_);conv=>whnf)|(apply bN<;>intro _<;>conv=>whnf))
 all_goals
  refine LoopK.inv QK (fun x:Nat×List Str=>⟨[(0,.p (.ip b.cells)),(5,.hd 0 0 x.2.length),(6,.p (.int .i64 i)),(23,.p (.sl (t.args.map fun a=>.agg a.cells))),(24,.p (.int .i64 (t.args.map fun a=>AV.agg a.cells).length)),(25,.p (.int .i64 x.1))],[(0,.own 9 1 (x.2.map .str))]⟩) (fun x=>x.1<=t.args.length/\x.2=(if t.name=[]then []else [t.name])++Ay t f O x.1) (fun x=>t.args.length-x.1) (0,if t.name=[]then []else [t.name]) ?_ ⟨x0l _,by simp[Ay]⟩ ?_
  .first
    | (have l:(t.name==[])=true:=by assumption
       rw[if_pos (eq_of_beq l)];exact Le.mk [(0,.own 9 1 [])] (by simp[Chunk.new0];rfl) (by simp) (by simp) (.r (.cons (.nil x0k) (.r (.r (.r (.r .nil)))))) (.new x0k .nil))
    | (have l:(t.name==[])=false:=by assumption
       rw[if_neg (by simpa using l)];exact Le.of_eq rfl)
  rintro⟨j,h⟩ ⟨L,u⟩;simp only at L u⊢;have K:h.length<=j+1:=by
   rw[u,x0g];have:=T5 t f O j;split<;>simp<;>omega
  rcases x0t j t.args.length with c|c
  .have d:j<f.B.length:=by omega
   have n:=Aj (O:=O) c d;have F:=Q f.B[j].name;have I:(f.B.map fun a=>AV.agg a.cells)[j]?=some (.agg f.B[j].cells):=by rw[x0d,x0u d];rfl
   conv=>whnf
   repeat' (first|((first|refine dA ?_|refine x0h rfl ?_|refine aD ?_|refine bP ?_|(refine iA fun _=>?_)|refine wI ?_|(refine IdxK.at (k:=i) rfl y rfl ?_)|(refine IdxK.at (k:=i) rfl G rfl ?_)|(refine IdxK.at (k:=j) rfl I rfl ?_)|refine cP F ?_|refine XQ (by simp) (by rw[x0j];omega) ?_);conv=>whnf)|(apply bD<;>intro _<;>first|omega|conv=>whnf)|(apply bB<;>intro _<;>conv=>whnf))
   all_goals first
    | (have l:t.args[j].ref=true:=by assumption
       have m:inS O f.B[j].name=true:=by assumption
       exact⟨(j+1,h++[t.args[j].name]),⟨c,by simp only;rw[n,if_pos (show t.args[j].ref=true/\inS O f.B[j].name=true from⟨l,m⟩),u,x1k]⟩,by simp only;omega,Le.of_eq (by simp only[x0g,x0c];rfl)⟩)
    | (have m:inS O f.B[j].name=false:=by assumption
       exact⟨(j+1,h),⟨c,by simp only;rw[n,if_neg (show ¬(t.args[j].ref=true/\inS O f.B[j].name=true)from fun z=>by rw[m]at z;cases z.2),x2v];exact u⟩,by simp only;omega,Le.of_eq rfl⟩)
    | (have l:t.args[j].ref=false:=by assumption
       exact⟨(j+1,h),⟨c,by simp only;rw[n,if_neg (show ¬(t.args[j].ref=true/\inS O f.B[j].name=true)from fun z=>by rw[l]at z;cases z.1),x2v];exact u⟩,by simp only;omega,Le.of_eq rfl⟩)
  .obtain rfl:j=t.args.length:=by omega
   conv=>whnf
   repeat' (first|((first|(refine iM fun _=>?_)|(refine IdxK.at (k:=i) rfl y rfl ?_));conv=>whnf)|(apply bD<;>intro _<;>first|omega|conv=>whnf))
   refine LoopK.inv QK (fun x:Nat×List Str=>⟨[(0,.p (.ip b.cells)),(5,.hd 0 0 x.2.length),(70,.p (eStrs O)),(71,.p (.int .i64 (O.map AV.str).length)),(72,.p (.int .i64 x.1))],[(0,.own 9 1 (x.2.map .str))]⟩) (fun x=>x.1<=O.length/\x.2=h++(O.take x.1).filter (comB b.s.p)/\x.2.length<=h.length+x.1) (fun x=>O.length-x.1) (0,h) (Le.of_eq rfl) ⟨x0l _,by simp,by simp⟩ ?_;rintro⟨q,o⟩ ⟨M,v,N⟩;simp only at M v N⊢;rcases x0t q O.length with g|g
   .have e:=x0a g;have E:=D O[q];conv=>whnf
    repeat' (first|((first|refine x0h rfl ?_|refine aD ?_|refine bP ?_|(refine iA fun _=>?_)|refine wI ?_|refine cP E ?_|refine XQ (by simp) (by rw[x0j];omega) ?_);conv=>whnf)|(apply bD<;>intro _<;>first|omega|conv=>whnf)|(apply bB<;>intro _<;>conv=>whnf))
    all_goals first
     | (have l:comB b.s.p O[q]=true:=by assumption
        exact⟨(q+1,o++[O[q]]),⟨g,by simp only;rw[e,x3k,x3d l,v,x1k];rfl,by simp;omega⟩,by simp only;omega,Le.of_eq (by simp only[x0g,x0c];rfl)⟩)
     | (have l:comB b.s.p O[q]=false:=by assumption
        exact⟨(q+1,o),⟨g,by simp only;rw[e,x3k,x3n (by rw[l];decide),v];simp,by simp only;omega⟩,by simp only;omega,Le.of_eq rfl⟩)
   .rw [x1w g]at v;have w:o=q0d b.s.p t f O:=by rw[v,u];rfl
    subst w;conv=>whnf
    repeat' (apply bD<;>intro _<;>first|omega|conv=>whnf)
    all_goals exact x4t _ (x1v _) (OneRow.str rfl)
def retS:Str:=[36,114,101,116]
def caI(p:Pg)(t:S):Int:=Xr (fun f=>f.name==t.C) p.A
def caP(p:Pg)(t:S):Pr:=p.A.getD (caI p t).toNat Pr0
def caO(b:Book)(t:S):List Str:=b.P.getD (caI b.s.p t).toNat []
def MF(b:Book)(t:S):List Str:=if t.kind=1 then [t.name]else if t.kind=2 then [t.name,GP]else if t.kind=9 then [retS]else if t.kind=4 then q0d b.s.p t (caP b.s.p t) (caO b t)else []
structure CallOk(b:Book)(t:S):Prop where
 i0:0<=caI b.s.p t
 i1:(caI b.s.p t).toNat<b.s.p.A.length
 io:b.s.p.A.length<=b.P.length
 rise:(caO b t).Pairwise ltT
 len:(caO b t).length<=1000000
 args:t.args.length<=(caP b.s.p t).B.length
 al:t.args.length<=1000000
def SE{b:Book}{t:S}(h:CallOk b t):SpecH prog 163 ([AV.ip b.cells,.agg t.cells].map .p) [] (OneRow (H4 (q0d b.s.p t (caP b.s.p t) (caO b t))) False):=by
 have i:=h.i1;have k:=h.io;refine Ws b t (caI b.s.p t).toNat (caP b.s.p t) (caO b t) ?_ ?_ ?_ h.rise h.len h.args h.al
 .rw [x5q h.i0];rfl
 .unfold caP;rw[x0y,x0u i];rfl
 .unfold caO;rw[x0y,x0u (by omega)];rfl
def Jp(b:Book)(t:S)(k:t.kind=4->CallOk b t):SpecH prog 95 [.p (.ip b.cells),.p (.agg t.cells)] [] (fun r H=>OneRow (H4 (MF b t)) (MF b t=[]) r H):=by
 refine sH Wh func95 rfl call95 ?_;conv=>whnf
 have l:=fun h=>SE (k h);repeat' (first|((first|refine x0h rfl ?_|refine aD ?_|refine x6n (fun x i=>by rcases x0b.1 i with rfl;rfl) rfl ?_|refine x6n (fun x i=>by rcases x0p.1 i with rfl|i;rfl;rcases x0b.1 i with rfl;rfl) rfl ?_|(refine YT 0 rfl (l (by assumption)) (.cons (.p (Sub.refl _)) (.cons (.p (Sub.refl _)) .nil)) (fun h=>h.elim) ?_;rintro _ _ _ _ ⟨rfl,rfl,rfl⟩));conv=>whnf)|(apply bD<;>intro _<;>first|omega|conv=>whnf))
 .rw [show MF b t=[t.name] by unfold MF;rw[if_pos (by assumption)]];exact x4t _ (x1v _) (UG (L:=[t.name]) rfl)
 .rw [show MF b t=[t.name,GP] by unfold MF;rw[if_neg (by assumption),if_pos (by assumption)]];exact x4t _ (x1v _) (UG (L:=[t.name,GP]) rfl)
 .rw [show MF b t=[retS] by unfold MF;rw[if_neg (by assumption),if_neg (by assumption),if_pos (by assumption)]];exact x4t _ (x1v _) (UG (L:=[retS]) rfl)
 .rw [show MF b t=q0d b.s.p t (caP b.s.p t) (caO b t) by unfold MF;rw[if_neg (by assumption),if_neg (by assumption),if_neg (by assumption),if_pos (by assumption)]];exact x4t _ (x1v _) (UG (by rw[x0j]))
 .exact x4t _ (x1v _) (.inl ⟨rfl,rfl,by unfold MF;rw[if_neg (by assumption),if_neg (by assumption),if_neg (by assumption),if_neg (by assumption)]⟩)
def outB(p:Pg)(f:Pr)(n:Str):Bool:=comB p n||decide ((⟨n,true⟩:Param)∈f.B)
def FZ(D:List (List Str))(id:Int):List Str:=D.getD (id-1).toNat []
def q5q(p:Pg)(i:Nat)(f:Pr)(D:List (List Str))(h:Item):List Str:=bif (QQ p i f).live.getD (ixI p i f h.s.id).toNat false then(FZ D h.s.id).filter (outB p f)else []
def M5(p:Pg)(i:Nat)(f:Pr)(D:List (List Str))(h:List Item):List Str:=h.flatMap (q5q p i f D)
def A8{p:Pg}{i:Nat}{f:Pr}{D:List (List Str)}{h:List Item}{k:Nat}(l:k<h.length):M5 p i f D (h.take (k+1))=M5 p i f D (h.take k)++q5q p i f D h[k]:=by
 unfold M5;rw[x0a l,x4h];simp
def RM{p:Pg}{i:Nat}{f:Pr}{D:List (List Str)}(m:∀d∈D,d.length<=1000)(k:List Item):(M5 p i f D k).length<=k.length*1000:=by
 refine WI k fun l _=>?_;unfold q5q;cases(QQ p i f).live.getD (ixI p i f l.s.id).toNat false with
 |false=>exact x0l _
 | true=>
   refine x1t (x2l _ _) ?_;unfold FZ;rcases x0t (l.s.id-1).toNat D.length with h|h
   .rw [x0y,x0u h];exact m _ (x0s h)
   .rw [x0y,x2f h];exact x0l _
def Jn(b:Book)(p:Pg)(V:b.s=sheetOf p)(h:QE p=true)(i:Nat)(f:Pr)(F:p.A[i]?=some f)(hW:b.ways[i]?=some (QQ p i f))(hD:b.G.length=(sheetOf p).l.length)(T:∀d∈b.G,d.length<=1000):SpecH prog 96 [.p (.ip b.cells),.p (.int .i64 i)] [] (fun r H=>OneRow (H4 (M5 p i f b.G (itsOf p i f))) False r H):=by
 refine sH Wf func96 rfl call96 ?_;conv=>whnf
 obtain⟨P,_,_,U,hs⟩:=QJ p;obtain⟨s1,s2,s3,Y⟩:=hs i f F;have hcn:=(XP h).2.2;have K:=LA (sheetOf p) i (QR p.A i) (QR p.A i+QW f.body) s1 s2 (by omega) (by omega) (by omega);rw[Y]at K;have Q:itL (i:Nat) 0 (-1) 0 (QR p.A i) f.body=itsOf p i f:=rfl;rw[Q,<-V]at K;have E:b.s.p=p:=by rw[V,P]
 have e:=fun x=>HT b x;rw[E]at e;have L:(b.s.p.A.map fun f=>AV.agg f.cells)[i]?=some (.agg f.cells):=by rw[E,x0d,F];rfl
 have M:(b.ways.map fun w=>AV.ip w.cells)[i]?=some (.ip (QQ p i f).cells):=by rw[x0d,hW];rfl
 have hIl:((itsOf p i f).map fun i=>AV.agg i.cells).length=(itsOf p i f).length:=x0j _;have hil:(itsOf p i f).length<=200:=by
  have R:=x2o List.length Y;rw[Q,x3w,x1f]at R;omega
 have C:∀k,(M5 p i f b.G ((itsOf p i f).take k)).length<=200*1000:=fun k=>by
  have R:=RM (p:=p) (i:=i) (f:=f) T ((itsOf p i f).take k);have h2:((itsOf p i f).take k).length*1000<=200*1000:=x2z _ (by rw[x1f];omega);omega
 repeat' ((first|(refine iM fun _=>?_)|refine x0h rfl ?_|(refine IdxK.at (k:=i) rfl L rfl ?_)|refine cP K ?_);conv=>whnf)
 refine LoopK.inv QK (fun k:Nat=>⟨[(0,.p (.ip b.cells)),(1,.p (.int .i64 i)),(5,.hd 0 0 (M5 p i f b.G ((itsOf p i f).take k)).length),(6,.p (.ip f.cells)),(27,.p (VC (itsOf p i f))),(28,.p (.int .i64 ((itsOf p i f).map fun i=>AV.agg i.cells).length)),(29,.p (.int .i64 k))],[(0,.own 9 1 ((M5 p i f b.G ((itsOf p i f).take k)).map .str))]⟩) (fun k=>k<=(itsOf p i f).length) (fun k=>(itsOf p i f).length-k) 0
  (Le.mk [(0,.own 9 1 [])] (by simp[Chunk.new0];rfl) (by simp) (by simp) (.r (.r (.cons (.nil x0k) (.r (.r (.r (.r .nil))))))) (.new x0k .nil)) (x0l _) ?_
 intro k hk;have hak:=C k;rcases x0t k (itsOf p i f).length with m|m;rotate_left 1
 .rw [x1w m];conv=>whnf
  repeat' (apply bD<;>intro _<;>first|omega|conv=>whnf)
  all_goals exact x4t _ (x1v _) (OneRow.str rfl)
 have t:=A8 (p:=p) (i:=i) (f:=f) (D:=b.G) m;have hb:=WD (QF h).1 F (We (x0s m));have J:=Dp p i f h F (itsOf p i f)[k].s.id (.inr (.inr hb));have O:q5q p i f b.G (itsOf p i f)[k]=bif (QQ p i f).live.getD (ixI p i f (itsOf p i f)[k].s.id).toNat false then(FZ b.G (itsOf p i f)[k].s.id).filter (outB p f)else []:=rfl;have u:((itsOf p i f)[k].s.id-1).toNat<b.G.length:=by omega
 have N:(b.G.map eStrs)[((itsOf p i f)[k].s.id-1).toNat]?=some (eStrs (FZ b.G (itsOf p i f)[k].s.id)):=by
  unfold FZ;rw[x0d,x0y,x0u u];rfl
 have hDl:(FZ b.G (itsOf p i f)[k].s.id).length<=1000:=by
  unfold FZ;rw[x0y,x0u u];exact T _ (x0s u)
 generalize(QQ p i f).live.getD (ixI p i f (itsOf p i f)[k].s.id).toNat false=lv at*
 rw[O]at t;generalize FZ b.G (itsOf p i f)[k].s.id=D at*
 generalize M5 p i f b.G ((itsOf p i f).take k)=acc at*
 have hDm:(D.map AV.str).length=D.length:=x0j _;cases lv;all_goals
  conv=>whnf
  repeat' (first|((first|(refine iM fun _=>?_)|refine dA ?_|refine x0h rfl ?_|(refine iA fun _=>?_)|refine wI ?_|(refine IdxK.at (k:=i) rfl M rfl ?_)|refine cP J ?_|(refine IdxK.at (k:=((itsOf p i f)[k].s.id-1).toNat) (by omega) N rfl ?_));conv=>whnf)|(apply bD<;>intro _<;>first|omega|conv=>whnf)|(apply bN<;>intro _<;>conv=>whnf))
 all_goals first
  |contradiction
  |exact⟨k+1,m,by omega,Le.of_eq (by rw[t,x1g,x2v];rfl)⟩
  |skip
 all_goals
  rw[x1u]at t;refine LoopK.inv QK (fun x:Nat×List Str=>⟨[(0,.p (.ip b.cells)),(1,.p (.int .i64 i)),(5,.hd 0 0 x.2.length),(6,.p (.ip f.cells)),(27,.p (VC (itsOf p i f))),(28,.p (.int .i64 ((itsOf p i f).map fun i=>AV.agg i.cells).length)),(29,.p (.int .i64 k)),(54,.p (eStrs D)),(55,.p (.int .i64 (D.map AV.str).length)),(56,.p (.int .i64 x.1))],[(0,.own 9 1 (x.2.map .str))]⟩) (fun x=>x.1<=D.length/\x.2=acc++(D.take x.1).filter (outB p f)/\x.2.length<=acc.length+x.1) (fun x=>D.length-x.1) (0,acc) (Le.of_eq rfl) ⟨x0l _,by simp,by simp⟩ ?_;rintro⟨q,o⟩ ⟨Z,y,h6⟩;simp only at Z y h6⊢;rcases x0t q D.length with z|z
  .have v:=x0a z;have I:=e D[q];have g:=WE f.B ⟨D[q],true⟩;have n:outB p f D[q]=(comB p D[q]||decide ((⟨D[q],true⟩:Param)∈f.B)):=rfl;generalize hdc:decide ((⟨D[q],true⟩:Param)∈f.B)=dc at g n;conv=>whnf
   repeat' (first|((first|refine x0h rfl ?_|refine aD ?_|refine bP ?_|(refine iA fun _=>?_)|refine wI ?_|refine cP I ?_|(refine CallK.pure g (.cons (Sub.refl _) (.cons (Sub.agg (.cons (Sub.refl _) (.cons (Sub.tt rfl) .nil))) .nil)) ?_;rintro _ rfl)|refine XQ (by simp) (by rw[x0j];omega) ?_);conv=>whnf)|(apply bD<;>intro _<;>first|omega|conv=>whnf)|(apply bB<;>intro _<;>conv=>whnf))
   all_goals first
    | (have c:outB p f D[q]=true:=by rw[n,show comB p D[q]=true by assumption];rfl
       exact⟨(q+1,o++[D[q]]),⟨z,by simp only;rw[v,x3k,x3d c,y,x1k];rfl,by simp;omega⟩,by simp only;omega,Le.of_eq (by simp only[x0g,x0c];rfl)⟩)
    | (have c:outB p f D[q]=true:=by rw[n,show dc=true by assumption,Bool.or_true]
       exact⟨(q+1,o++[D[q]]),⟨z,by simp only;rw[v,x3k,x3d c,y,x1k];rfl,by simp;omega⟩,by simp only;omega,Le.of_eq (by simp only[x0g,x0c];rfl)⟩)
    | (have c:outB p f D[q]=false:=by rw[n,show comB p D[q]=false by assumption,show dc=false by assumption];rfl
       exact⟨(q+1,o),⟨z,by simp only;rw[v,x3k,x3n (by rw[c];decide),y];simp,by simp only;omega⟩,by simp only;omega,Le.of_eq rfl⟩)
  .rw [x1w z,<-t]at y;subst y;conv=>whnf
   repeat' (first|(refine wI ?_;conv=>whnf)|(apply bD<;>intro _<;>first|omega|conv=>whnf))
   all_goals exact⟨k+1,m,by omega,Le.of_eq rfl⟩
def CI(x:X):SpecH prog 167 ([AV.agg x.cells].map .p) [] (OneRow (H4 (XT x)) (XT x=[])):=by
 refine sH Zr func167 rfl call167 ?_;conv=>whnf
 repeat' (first|(refine cP (DT _) ?_;conv=>whnf)|(apply bN<;>intro _<;>conv=>whnf))
 .refine CallK.nil 5 9 1 rfl (.cons rfl (.row .nil)) ?_;refine CallK.heap [(2000,5)] 0 (by repeat' (first|exact x1m|refine x1x ?_ ?_|exact x1v _|exact x1d Sub.nils|exact x1d (Sub.tt rfl)|exact x1d (Sub.ff rfl)|exact x1d (Sub.int (by omega)))) (by refine x0e (j:=5) rfl rfl ?_ ?_;exact CSub.refl _;exact x1l) (Jx 20 (by omega) x (by assumption) [] (by simp)) rfl rfl ?_;rintro l' H' ⟨rfl,rfl⟩;conv=>whnf
  have e:XT x=Pj x []:=by
   unfold XT;rw[show CS x=true by assumption];rfl
  rw[e];exact x4t _ (x1v _) (NG rfl)
 .have e:XT x=[]:=by
   unfold XT;rw[show CS x=false by assumption];rfl
  exact x4t _ (x1v _) (.inl ⟨rfl,rfl,e⟩)
def usA(a:Arg):List Str:=(if a.ref=true then [a.name]else [])++XT a.x
def inAt(b:Book)(t:S):List Str:=b.ins.getD (caI b.s.p t).toNat []
def Td(t:S):List Str:=XT t.x++(if t.kind=2 then [GP]else [])
def MY(b:Book)(t:S):List Str:=if t.kind=4 then Td t++t.args.flatMap usA++inAt b t else Td t
def Ey(a:Arg):(usA a).length<=1048577:=by
 have:=VG a.x;unfold usA;rw[x0g];split<;>simp<;>omega
def Tb(t:S):(Td t).length<=1048577:=by
 have:=VG t.x;unfold Td;rw[x0g];split<;>simp<;>omega
def SW(t:S)(j:Nat):List Str:=Td t++(t.args.take j).flatMap usA
def EV(t:S)(l:t.args.length<=20000):(SW t j).length<=21000000000:=by
 have h:=Tb t;have i:=GE Ey (t.args.take j);have k:(t.args.take j).length*1048577<=20000*1048577:=x2z _ (by simp;omega);unfold SW;simp only[x0g];omega
def SN{t:S}(h:j<t.args.length):SW t (j+1)=SW t j++usA t.args[j]:=by
 unfold SW;rw[x0a h,x4h,x1k];simp
theorem OneRow.es{L:List Str}{es:List AV}{n:Nat}{nil:Prop}(i:es=L.map .str)(h:n=L.length):OneRow (H4 L) nil (.hd 0 0 n) [(0,.own 9 1 es)]:=by
 subst i;exact UG h
structure UseOk(b:Book)(t:S):Prop where
 i0:0<=caI b.s.p t
 ii:(caI b.s.p t).toNat<b.ins.length
 al:t.args.length<=20000
 len:(inAt b t).length<=1000000
def Jm(b:Book)(t:S)(d:t.kind=4->UseOk b t):SpecH prog 98 [.p (.ip b.cells),.p (.agg t.cells)] [] (fun r H=>OneRow (H4 (MY b t)) (MY b t=[]) r H):=by
 refine sH Wb func98 rfl call98 ?_;conv=>whnf
 have B:=CI t.x;have z:=HR b t;have g:Xr (fun f=>f.name==t.C) b.s.p.A=caI b.s.p t:=rfl;rw[g]at z;have I:=VG t.x;conv=>whnf
 refine YT 0 rfl B (.cons (.p (Sub.refl _)) .nil) (fun l=>?_) (fun q e sz es D=>?_);rotate_left;obtain⟨rfl,rfl,rfl⟩:=D
 rotate_right
 all_goals
  conv=>whnf
  repeat' (first|((first|(refine iM fun _=>?_)|refine x0h rfl ?_|refine aD ?_|refine bP ?_|refine XQ (es:=[]) rfl (by simp) ?_|refine XQ (by simp) (by simp;omega) ?_);conv=>whnf)|(apply bD<;>intro _<;>first|omega|conv=>whnf)|(apply bE<;>intro _<;>first|omega|conv=>whnf))
 .have e:MY b t=[GP]:=by unfold MY Td;rw[if_neg (by assumption),if_pos (by assumption),l];rfl
  rw[e];exact x4t _ (x1v _) (UG (L:=[GP]) rfl)
 rotate_left
 .have e:MY b t=[]:=by unfold MY Td;rw[if_neg (by assumption),if_neg (by assumption),l];rfl
  exact x4t _ (x1v _) (.inl ⟨rfl,rfl,e⟩)
 .have e:MY b t=XT t.x++[GP]:=by unfold MY Td;rw[if_neg (by assumption),if_pos (by assumption)]
  rw[e];exact x4t _ (x1v _) (OneRow.es (by rw[x0c];rfl) (by simp))
 rotate_left
 .have e:MY b t=XT t.x:=by unfold MY Td;rw[if_neg (by assumption),if_neg (by assumption),x2v]
  rw[e];exact x4t _ (x1v _) (OneRow.es rfl (by simp))
 all_goals
  have n:t.kind=4:=by assumption
  have u:=d n;have y:SW t 0=XT t.x:=by unfold SW Td;rw[if_neg (by omega),List.take_zero,List.flatMap_nil,x2v,x2v]
  have K:(t.args.map fun a=>AV.agg a.cells).length=t.args.length:=x0j _;have E:(b.ins.map eStrs)[(caI b.s.p t).toNat]?=some (eStrs (inAt b t)):=by
   unfold inAt;rw[x0d,x0y,x0u u.ii];rfl
  have hi0:=u.i0;have F:=u.len;have v:=u.al;refine LoopK.inv QK (fun j:Nat=>⟨[(0,.p (.ip b.cells)),(3,.p (.ip t.cells)),(5,.hd 0 0 (SW t j).length),(22,.p (.sl (t.args.map fun a=>.agg a.cells))),(23,.p (.int .i64 (t.args.map fun a=>AV.agg a.cells).length)),(24,.p (.int .i64 j))],[(0,.own 9 1 ((SW t j).map .str))]⟩) (fun j=>j<=t.args.length) (fun j=>t.args.length-j) 0 ?_ (x0l _) ?_
  .first
    | (rw[y,l]
       exact Le.mk [(0,.own 9 1 [])] (by simp[Chunk.new0];rfl) (by simp) (by simp) (.r (.r (.cons (.nil x0k) (.r (.r (.r .nil)))))) (.new x0k .nil))
    | (rw[y]
       exact Le.of_eq (by rw[x0j];rfl))
  intro j J;have c:=EV t (j:=j) v;have m:t.args.length<=j->MY b t=SW t j++inAt b t:=fun h=>by
   unfold MY SW;rw[if_pos n,x1w h]
  have o:=fun h=>SN (t:=t) (j:=j) h;generalize SW t j=acc at*
  rcases x0t j t.args.length with i|i
  .have G:=VG t.args[j].x;conv=>whnf
   repeat' (first|((first|refine cP (Zw _) ?_|refine x0h rfl ?_|refine aD ?_|refine bP ?_|(refine iA fun _=>?_)|refine wI ?_|refine KC _ (by simp) (by simp;omega) ?_|refine XQ (by simp) (by simp;omega) ?_);conv=>whnf)|(apply bD<;>intro _<;>first|omega|conv=>whnf)|(apply bB<;>intro _<;>conv=>whnf))
   all_goals
    refine⟨j+1,i,by omega,Le.of_eq ?_⟩;first
     | (have w:usA t.args[j]=[t.args[j].name]++XT t.args[j].x:=by rw[usA,if_pos (by assumption)]
        rw[o i,w];simp only[x0g,x0c,x0j,<-x1k,<-x3o];rfl)
     | (have w:usA t.args[j]=XT t.args[j].x:=by rw[usA,if_neg (by rw[show t.args[j].ref=false by assumption];decide)];rfl
        rw[o i,w];simp only[x0g,x0c,x0j];rfl)
  .rw [m i];conv=>whnf
   repeat' (first|((first|refine dA ?_|refine aD ?_|refine cP z ?_|(refine IdxK.at (k:=(caI b.s.p t).toNat) (by omega) E rfl ?_)|refine KC _ (by simp) (by simp;omega) ?_);conv=>whnf)|(apply bD<;>intro _<;>first|omega|conv=>whnf))
   all_goals exact x4t _ (x1v _) (OneRow.es (by rw[x0c]) (by simp))
def UA(w:Way)(f:Pr):List (Int×Int):=(PQ w f).map (ixP w.p w.j f w.n)
def R0(w:Way)(f:Pr)(n:Nat)(h:WayT w f n)(E:∀t∈UA w f,(0<=t.1/\t.1<n)/\0<=t.2/\t.2<n)(l:(PQ w f).length<=1000000):SpecP prog 169 [.ip w.cells] (fun r=>r=eMat (Qw n (UA w f))):=by
 refine sB Hm func169 rfl call169 ?_;conv=>whnf
 have G:=h.hw;have D:=h.hn;have C:=h.hn2;have A:=Wu w f n h;have e:=YR w f h.hj h.hc (by omega) (PQ w f) l;have F:(avP (UA w f)).length=(UA w f).length:=by unfold avP;rw[x0j]
 have g:(UA w f).length<=1000000:=by unfold UA;rw[x0j];exact l
 have z:(PQ w f).map (ixP w.p w.j f w.n)=UA w f:=rfl;rw[z]at e;repeat' ((first|(refine iM fun _=>?_)|refine aR ?_|refine x5r n (by omega) (by show 24*_<=140737488355328;omega) (by unfold maxLen;omega) ?_|refine cP A ?_|refine cP e ?_);conv=>whnf)
 refine LoopK.inv QK (fun j:Nat=>⟨[(3,.hd 0 0 n),(14,.p (.sl (avP (UA w f)))),(15,.p (.int .i64 (avP (UA w f)).length)),(16,.p (.int .i64 j))],[(0,.ext (.mat 54 3 1 (avI (Qw n ((UA w f).take j))) []))]⟩) (fun j=>j<=(UA w f).length) (fun j=>(UA w f).length-j) 0
  (by
    refine Le.trans (CT n rfl) ?_;exact Le.mk [] (by simp) (by simp) (by simp) (.r (.r (.r (.r .nil)))) (.cons rfl (.of_eq (by simp[avI,Qw])) .nil)) (x0l _) ?_
 intro j M;rcases x0t j (UA w f).length with u|u
 .have q:(avP (UA w f))[j]?=some (.agg [.int .i64 (UA w f)[j].1,.int .i64 (UA w f)[j].2]):=by simp[avP,u]
  obtain⟨⟨I,J⟩,K,L⟩:=E _ (x0s u);have s:Qw n ((UA w f).take (j+1))=nxE (Qw n ((UA w f).take j)) (UA w f)[j]:=by
   unfold Qw;rw[x0a u,x5e];rfl
  have d:=Yj n ((UA w f).take j);have i:=N7 n ((UA w f).take j) (UA w f)[j].1.toNat;generalize(UA w f)[j]=t at q I J K L s i;generalize Qw n ((UA w f).take j)=rows at s d i⊢;obtain⟨a,b⟩ : ∃a:Nat,t.1=a:=⟨t.1.toNat,by omega⟩;have o:a<rows.length:=by omega
  have m:(avI rows)[a]?=some (rows[a].map (.int .i64)):=by unfold avI;rw[x0d,x0u o];rfl
  have v:(avI rows).set a (rows[a].map (.int .i64)++[.int .i64 t.2])=avI (nxE rows t):=by
   unfold nxE avI;rw[b,x2s,x0y,x0u o,x2k,x2y,x0c];rfl
  have B:rows[a].length<=1000000:=by
   rw[b,x2s,x0y,x0u o,x2k,x1f]at i;omega
  rw[b]at q;conv=>whnf
  repeat' (first|((first|refine x0h rfl ?_|refine aD ?_|refine wI ?_|refine DrawK.of QK mixed (.cons 0 false (.cons 1 false (.cons 2 false (.cons 3 false (.cons 4 false (.cons 5 false (.cons 6 false (.cons 8 false (.cons 9 false (.alo 7 (.cons 10 true (.cons 11 true (.cons 12 true (.cons 13 true .nil)))))))))))))) (by kernel_rfl) ?_|(refine IdxK.at (k:=j) rfl q rfl ?_)|refine x1i 0 rfl (by decide) ?_|refine x1i 1 rfl (by decide) ?_|refine x1i a rfl (by omega) ?_|refine RowK.mk a _ (by omega) m (by simp) ?_|refine x6n (fun x H=>by rcases x0b.1 H with rfl;rfl) rfl ?_|refine OpK.focus QK 27 0 a 2 rfl rfl m (by simp) rfl rfl ?_|refine XU rfl (by rw[x0j];omega) ?_|(refine FB QK rfl rfl rfl rfl rfl rfl rfl rfl rfl (by decide) a [] (by omega) (by unfold avI;rw[x0j];omega) (by simp) ⟨by simp,by simp,by simp⟩ ?_));conv=>whnf)|(apply bD<;>intro _<;>first|omega|conv=>whnf))
  all_goals exact⟨j+1,u,by omega,Le.of_eq (by rw[s,<-v];rfl)⟩
 .have c:(UA w f).take j=UA w f:=x1w u;rw[c];have y:=Yj n (UA w f);conv=>whnf
  repeat' (apply bD<;>intro _<;>first|omega|conv=>whnf)
  exact⟨_,.mat rfl (by unfold avI;rw[x0j,y]),rfl⟩
section
variable {p:Pg}{j:Nat}{f:Pr}
def dR(p:Pg)(j:Nat)(f:Pr):Int->Int->Prop:=stR (PQ (QQ p j f) f)
def Rv(h:QE p=true)(k:p.A[j]?=some f){b:Int}:dR p j f a b↔wR p j f a b\/∃l∈trapsW (QQ p j f) f,∃t∈flL f.body,t.id∈l/\t.kind=10/\a=t.id/\b = -1:=by
 constructor
 .rintro ⟨s,q,rfl,rfl⟩;rcases x0r.1 ((DF (F0 h k)).2.1 s q)with m|m
  .obtain ⟨l,o,t,r,i,n,rfl⟩:=(BT h k).1 m;exact .inr ⟨l,o,t,r,i,n,rfl,rfl⟩
  .exact .inl ⟨s,m,rfl,rfl⟩
 .rintro (⟨s,q,rfl,rfl⟩|⟨l,o,t,r,i,n,rfl,rfl⟩)
  .exact Ho h k (x0r.2 (.inr q))
  .exact Ho h k (s:=⟨t.id,-1,3⟩) (x0r.2 (.inl ((BT h k).2 ⟨l,o,t,r,i,n,rfl⟩)))
def P4(h:QE p=true)(i:p.A[j]?=some f){b:Int}(m:dR p j f a b):plP p j f a/\plP p j f b:=by
 have l:q5t p j f a b:=by
  rcases(Rv h i).1 m with k|k
  .exact (R2 h i).2 (.inl k)
  .exact (R2 h i).2 (.inr (.inr (.inl k)))
 exact⟨(q0y h i l).1,(q0y h i l).2.1⟩
def HY(h:QE p=true)(l:p.A[j]?=some f):∀t∈UA (QQ p j f) f,(0<=t.1/\t.1<(QW f.body+2:Nat))/\0<=t.2/\t.2<(QW f.body+2:Nat):=fun t n=>by
 obtain⟨s,m,rfl⟩:=x0n.1 n;obtain⟨i,k⟩:=P4 h l ⟨s,m,rfl,rfl⟩;exact⟨ZE i,ZE k⟩
def Fi(h:QE p=true)(t:p.A[j]?=some f){b:Int}(q:plP p j f a)(r:plP p j f b):(ixI p j f a,ixI p j f b)∈UA (QQ p j f) f↔dR p j f a b:=by
 constructor
 .intro m;obtain⟨s,i,k⟩:=x0n.1 m;obtain⟨n,o⟩:=P4 h t ⟨s,i,rfl,rfl⟩;have l:ixI p j f s.src=ixI p j f a:=x2o Prod.fst k;have e2:ixI p j f s.dst=ixI p j f b:=x2o Prod.snd k;exact⟨s,i,PB n q l,PB o r e2⟩
 .rintro ⟨s,i,rfl,rfl⟩;exact x0n.2 ⟨s,i,rfl⟩
end


section
variable {p:Pg}{j:Nat}{f:Pr}
def I5{t:S}(h:t∈flL f.body):∃x∈flatU f,x.s=t:=by
 rw[<-show(flatU f).map RI.s=flL f.body from Ms 1 0 false f.body]at h;exact x0n.1 h
end
def H9{l:List Str}:ZG l=false↔l.Nodup:=by
 refine⟨Tf,fun h=>?_⟩;unfold ZG;rw[x5a];intro i n;rw[x1a]at n;rw[x5p,x5a];intro s q m;rw[x0u n]at m;have m:l[i]=s:=eq_of_beq m;obtain⟨k,o,rfl⟩:=x2m.1 q;rw[x1f]at o;rw[List.getElem_take]at m;have:=(List.getElem_inj h).1 m;omega
def allV(p:Pg)(f:Pr):List Str:=p.D++Jc f
structure ScopeOK(p:Pg)(f:Pr):Prop where
 nd:(allV p f).Nodup
 kn:∀t∈flL f.body,knownB p f (procsN p) t=true
def Ye{p:Pg}{f:Pr}(u:ZG p.D=false):WN p f=none↔ScopeOK p f:=by
 unfold WN;have o:(ZG (Jc f)||(Jc f).any (fun n=>p.D.any fun s=>n==s))=false↔(allV p f).Nodup:=by
  unfold allV;rw[x5u,H9,x2b,x5a];have i:=H9.1 u;constructor
  .rintro ⟨a,b⟩;refine⟨i,a,fun x l y m e=>b y m ?_⟩;rw[x2e];exact⟨x,l,by rw[e];exact x3c _⟩
  .rintro ⟨_,a,b⟩;refine⟨a,fun y m v=>?_⟩;obtain⟨x,l,r⟩:=x2e.1 v;exact b x l y m (eq_of_beq r).symm
 cases q:(ZG (Jc f)||(Jc f).any (fun n=>p.D.any fun s=>n==s))with
 | true=>
   rw[x1u];refine⟨fun h=>by(cases h),fun h=>?_⟩;have:=o.2 h.nd;rw[q]at this;cases this
 | false=>
   rw[x1g,x6h,x3a];constructor
   .exact fun h=>⟨o.1 q,fun t k=>by have:=h t k;simpa using this⟩
   .intro h t k;rw[h.kn t k];decide
def Nd{p:Pg}(o:JJ p=true):(XX p).1=0↔ZF p=false/\∀f∈p.A,ScopeOK p f:=by
 unfold XX;rw[o,x1u];cases k:ZF p with
 |true=>rw[x1u];exact⟨fun h=>by simp at h,fun h=>by cases h.1⟩
 | false=>
   have m:ZG p.D=false:=by
    unfold ZF at k;rw[x5u]at k;exact k.1
   rw[x1g];cases l:p.A.findSome? (WN p)with
   | some a=>
     refine⟨fun h=>by simp at h,fun h=>?_⟩;obtain⟨f,i,n⟩:=List.exists_of_findSome?_eq_some l;rw[(Ye m).2 (h.2 f i)]at n;cases n
   |none=>exact⟨fun _=>⟨rfl,fun f i=>(Ye m).1 (x5z.1 l f i)⟩,fun _=>rfl⟩
def SS{p:Pg}(o:(XX p).1=0):(UT p).1=0 ↔ ∀t∈YQ p,t.kind=4->FS p t=true:=by
 unfold UT;rw[if_neg (by omega)];cases k:(YQ p).find? fun t=>decide (t.kind=4) && !FS p t with
 | some t=>
   have l:=x3l k;have i:=x4o k;simp only[x1z,x1n,x3f]at i;refine⟨fun h=>by simp at h,fun h=>?_⟩;have:=h t l i.1;rw[i.2]at this;cases this
 | none=>
   refine⟨fun _ t n m=>?_,fun _=>rfl⟩;have:=x3a.1 k t n;simp only[x1z,x1n,x3f,not_and]at this;simpa using this m
def q1n{l:List Nat}{a:Nat}(h:a∈l):a<=S5 l:=by
 induction l with
 |nil=>cases h
 | cons b r i=>
   rw[S5];rcases x0p.1 h with rfl|h
   .omega
   .have:=i h;omega
theorem Km:∀(n:Nat)(x:X)(k:Nat),wX x<k->GV n x<=n->PX k x=true->VB n x=true
 |0,x,k,_,h,_=>by rw[GV]at h;omega
 |n+1,x,0,hk,_,_=>by omega
 | n+1,x,k+1,hk,h,hf=>by
   rw[GV]at h;rw[PX,x1z,x2w]at hf;obtain⟨o,i⟩:=hf;have u:wX x=1+wXs x.kids:=by cases x;rw[wX];rfl
   have t:∀y∈x.kids,VB n y=true:=fun y q=>Km n y k (by have:=Li _ _ q;omega) (by have:=q1n (x0n.2 ⟨y,q,rfl⟩:GV n y∈x.kids.map (GV n));omega) (i y q);unfold GG at o;simp only[x1z,x3i,x1n,x3s]at o;obtain⟨⟨⟨⟨s,v⟩,w⟩,l⟩,z⟩:=o;rw[VB,x1z,x1n];refine⟨s.symm,?_⟩;split
   .rename_i r;rw[r,x2h (by decide)]at l;simp_all
   .rename_i r;split
    .rename_i m;rw[x2a m]at l;simp_all
    .rename_i m;rw[x2h m]at l;simp_all
def CA(x:X):mayXR x=CS x:=by
 rw[x4b];refine⟨fun h=>?_,CC⟩;unfold mayXR at h;rw[x1z,x1n]at h;exact Km 20 x _ (x6e _) h.1 h.2
def q0h(a:Arg):argR a=Q2 a:=by
 unfold argR Q2 YF HI;rw[CA];cases a.ref<;>rfl
def IH{s:S}(h:OneF s):oneOk s=true:=by
 obtain⟨f1,f2,f3,f4,f5,f6,f7,f8,f9,f10,f11,f12,f13,f14⟩:=h;have o:s.args.all Q2=true:=by
  rw[x2w]at f11⊢;exact fun a D=>by rw[<-q0h];exact f11 a D
 rw[CA]at f4;have i:s.kind=1\/s.kind=2\/s.kind=3\/s.kind=4\/s.kind=5\/s.kind=6\/s.kind=7\/s.kind=8\/s.kind=9\/s.kind=10:=by omega
 have r:∀{α:Type}(l:List α),l.length=0->decide (0<l.length)=false:=fun l h=>x2h (by omega);have n:¬(s.kind=1\/s.kind=2\/s.kind=10)->s.kind≠4->(s.name==[])=true:=fun A B=>by
  rcases f8 A with h|h
  .exact h
  .exact absurd h.1 B
 have k:s.kind≠9->s.has=false:=fun h=>by
  cases G:s.has with
  |false=>rfl
  |true=>exact absurd (f6 G) h
 unfold oneOk;rw[x1z];refine⟨?_,f1⟩;have key:∀(f:Flds),LE s.kind s.has (s.name==[])=some f->f.has=false->(f.F=false->s.F.length=0)->(f.L=false->s.L.length=0)->(s.kind≠4->s.args.length=0)->YF s.name f.name=true->YF s.C f.C=true->HI s.x f.x=true->WB s=true:=fun f E v w y z b c d=>by
  rw[Kk E,v,b,c,d,o];have e:(!f.F&&decide (0<s.F.length))=false:=by
   cases q:f.F with
   |true=>rfl
   |false=>rw[r _ (w q)];rfl
  have e2:(!f.L&&decide (0<s.L.length))=false:=by
   cases q:f.L with
   |true=>rfl
   |false=>rw[r _ (y q)];rfl
  have g:(!decide (s.kind=4)&&decide (0<s.args.length))=false:=by
   by_cases t:s.kind=4
   .rw [x2a t];rfl
   .rw [r _ (z t)];exact Bool.and_false _
  rw[e,e2,g];rfl
 have m:s.kind≠4->YF s.C false=true:=fun h=>f10 h;rcases i with i|i|i|i|i|i|i|i|i|i
 .exact key ⟨true,false,true,s.has,false,false⟩ (by rw[i];rfl) (k (by omega)) (fun _=>by omega) (fun _=>by omega) f12 (f7 (by omega)) (m (by omega)) (f4 (by unfold hasXB;rw[i];rfl))
 .exact key ⟨true,false,false,s.has,false,false⟩ (by rw[i];rfl) (k (by omega)) (fun _=>by omega) (fun _=>by omega) f12 (f7 (by omega)) (m (by omega)) (f5 (by unfold hasXB;rw[i];rfl))
 .exact key ⟨false,false,true,s.has,false,false⟩ (by rw[i];rfl) (k (by omega)) (fun _=>by omega) (fun _=>by omega) f12 (n (by omega) (by omega)) (m (by omega)) (f4 (by unfold hasXB;rw[i];rfl))
 .refine key ⟨!(s.name==[]),true,false,s.has,false,false⟩ (by rw[i];rfl) (k (by omega)) (fun _=>by omega) (fun _=>by omega) f12 ?_ (f9 i) (f5 (by unfold hasXB;rw[i];rfl));rcases f8 (by omega)with h|h
  .rw [h];exact h
  .rw [G0 h.2];exact h.2
 .exact key ⟨false,false,true,s.has,true,true⟩ (by rw[i];rfl) (k (by omega)) (fun h=>by cases h) (fun h=>by cases h) f12 (n (by omega) (by omega)) (m (by omega)) (f4 (by unfold hasXB;rw[i];rfl))
 .exact key ⟨false,false,true,s.has,true,false⟩ (by rw[i];rfl) (k (by omega)) (fun h=>by cases h) (fun _=>by omega) f12 (n (by omega) (by omega)) (m (by omega)) (f4 (by unfold hasXB;rw[i];rfl))
 .exact key ⟨false,false,false,s.has,false,false⟩ (by rw[i];rfl) (k (by omega)) (fun _=>by omega) (fun _=>by omega) f12 (n (by omega) (by omega)) (m (by omega)) (f5 (by unfold hasXB;rw[i];rfl))
 .exact key ⟨false,false,false,s.has,false,false⟩ (by rw[i];rfl) (k (by omega)) (fun _=>by omega) (fun _=>by omega) f12 (n (by omega) (by omega)) (m (by omega)) (f5 (by unfold hasXB;rw[i];rfl))
 .refine key ⟨false,false,s.has,false,false,false⟩ (by rw[i];rfl) rfl (fun _=>by omega) (fun _=>by omega) f12 (n (by omega) (by omega)) (m (by omega)) ?_;cases u:s.has with
  |true=>exact f4 (by unfold hasXB;rw[i,u];rfl)
  |false=>exact f5 (by unfold hasXB;rw[i,u];rfl)
 .exact key ⟨true,false,false,s.has,false,false⟩ (by rw[i];rfl) (k (by omega)) (fun _=>by omega) (fun _=>by omega) f12 (f7 (by omega)) (m (by omega)) (f5 (by unfold hasXB;rw[i];rfl))
def I3 : ∀(k:Nat)(l:List S)(i:Int)(e:Bool)(out:List RI),(flF k i e l out).length<=200->(∀x∈flF k i e l out,x.deep<=12)->flF k i e l out=out++fuL (13-(k:Int)) i e l:=by
 intro k;induction k with
 | zero=>
   intro l i e out m h;cases l with
   |nil=>rw[fuL,x2v];rfl
   | cons s r=>
     exfalso;have z:flF 0 i e (s::r) out=flF 0 i e r (if out.length<=200 then out++[⟨s,13,i,e⟩]else out):=rfl;rw[z]at m h;have u:=(FA 0 i e r (if out.length<=200 then out++[⟨s,13,i,e⟩]else out)).1;by_cases w:out.length<=200
     .rw [if_pos w]at m h u;have v:∀(r:List S)(o:List RI)(x:RI),x∈o->x∈flF 0 i e r o:=fun r=>by
       induction r with
       |nil=>exact fun o x n=>n
       | cons a r y=>
         intro o x n;show x∈flF 0 i e r (if o.length<=200 then o++[⟨a,13,i,e⟩]else o);refine y _ _ ?_;split
         .exact x0r.2 (.inl n)
         .exact n
      have:=h _ (v r _ ⟨s,13,i,e⟩ (x0r.2 (.inr (x0b.2 rfl))));simp at this
     .rw [if_neg w]at m u;omega
 | succ k y=>
   intro l;induction l with
   |nil=>intro i e out m h;rw[fuL,x2v];rfl
   | cons s r b=>
     intro i e out m h;have z:flF (k+1) i e (s::r) out=flF (k+1) i e r (if out.length<=200 then flF k s.id true s.L (flF k s.id false s.F (out++[⟨s,13-((k+1:Nat):Int),i,e⟩]))else out):=rfl;rw[z]at m h⊢;have u:=(FA (k+1) i e r (if out.length<=200 then flF k s.id true s.L (flF k s.id false s.F (out++[⟨s,13-((k+1:Nat):Int),i,e⟩]))else out)).1;have w:out.length<=200:=by
      refine x3u fun C=>?_;rw[if_neg C]at u m;omega
     rw[if_pos w]at m h u⊢;have c:=b i e _ m h;rw[c]at h;have q:∀x∈flF k s.id true s.L (flF k s.id false s.F (out++[⟨s,13-((k+1:Nat):Int),i,e⟩])),x.deep<=12:=fun x n=>h x (x0r.2 (.inl n));have d:=y s.L s.id true _ (by omega) q;rw[d]at q;have t:∀x∈flF k s.id false s.F (out++[⟨s,13-((k+1:Nat):Int),i,e⟩]),x.deep<=12:=fun x n=>q x (x0r.2 (.inl n));have B:=(FA k s.id true s.L (flF k s.id false s.F (out++[⟨s,13-((k+1:Nat):Int),i,e⟩]))).1;have A:=y s.F s.id false _ (by omega) t;have g:(13:Int)-((k+1:Nat):Int)+1=13-(k:Int):=by omega
     rw[c,d,A,fuL,Cp,g];simp
mutual
theorem q2w(d i:Int)(e:Bool)(seen:Nat):∀(t:S),(fuS d i e t).map (fun x=>x.s.id)=GY seen (ZD t)->(∀x∈fuS d i e t,x.deep<=12/\oneOk x.s=true)->seen+ZD t<=200->D7 d seen t=some ((seen+ZD t:Nat):Int)
 | .mk id kind M name C x has args F L,h1,h2,h3=>by
   have hc:ZD (.mk id kind M name C x has args F L)=1+QW F+QW L:=VX _;rw[fuS]at h1 h2;rw[hc]at h1 h3⊢;have hsp:GY seen (1+QW F+QW L)=((seen:Int)+1)::(GY (seen+1) (QW F)++GY (seen+1+QW F) (QW L)):=by
    rw[<-HX];unfold GY;rw[show 1+QW F+QW L=(QW F+QW L)+1 by omega,List.range'_succ,x1j];congr 1
   rw[hsp,x1j,x0c]at h1;have hid:id=(seen:Int)+1:=(List.cons.inj h1).1;have h1':=(List.cons.inj h1).2;have hlen:((fuL (d+1) id false F).map fun x=>x.s.id).length=(GY (seen+1) (QW F)).length:=by
    rw[x0j,FI];unfold GY;simp
   obtain⟨ha,hb⟩:=List.append_inj h1' hlen;have hok:=h2 _ x0k;have r1:=D5 (d+1) id false (seen+1) F ha (fun x hx=>h2 x (x0f _ (x0r.2 (.inl hx)))) (by omega);have r2:=D5 (d+1) id true (seen+1+QW F) L hb (fun x hx=>h2 x (x0f _ (x0r.2 (.inr hx)))) (by omega);have hoo:=hok.2;unfold oneOk at hoo;rw[x1z]at hoo;rw[D7,if_neg (by omega),if_neg (by omega),show namesB M=true from hoo.2,x1u,show WB (.mk id kind M name C x has args F L)=true from hoo.1,x1u];have e1:(seen:Int)+1=((seen+1:Nat):Int):=by omega
   rw[e1,r1];simp only;rw[r2];congr 1;omega
theorem D5(d i:Int)(e:Bool)(seen:Nat):∀(l:List S),(fuL d i e l).map (fun x=>x.s.id)=GY seen (QW l)->(∀x∈fuL d i e l,x.deep<=12/\oneOk x.s=true)->seen+QW l<=200->YL d seen l=some ((seen+QW l:Nat):Int)
 |[],_,_,_=>by rw[YL,QW];rfl
 | t::r,h1,h2,h3=>by
   rw[fuL]at h1 h2;have hc:QW (t::r)=ZD t+QW r:=by rw[QW]
   rw[hc]at h1 h3⊢;rw[HX,x0c]at h1;have hlen:((fuS d i e t).map fun x=>x.s.id).length=(GY seen (ZD t)).length:=by
    have:=FI d i e [t];rw[fuL,fuL,x2v,QW,QW]at this;rw[x0j,this];unfold GY;simp
   obtain⟨ha,hb⟩:=List.append_inj h1 hlen;have hd:d<=12:=by
    have:(⟨t,d,i,e⟩:RI)∈fuS d i e t++fuL d i e r:=x0r.2 (.inl (by rw[Cp];exact x0k));exact(h2 _ this).1
   have r1:=q2w d i e seen t ha (fun x hx=>h2 x (x0r.2 (.inl hx))) (by omega);have r2:=D5 d i e (seen+ZD t) r hb (fun x hx=>h2 x (x0r.2 (.inr hx))) (by omega);rw[YL,if_neg (by omega),r1];simp only;rw[r2];congr 1;omega
end
theorem N1:∀(l:List Pr)(seen:Nat),(∀f∈l,KN f=true)->((l.flatMap flatU).map fun x=>x.s.id)=GY seen (cntP l)->(∀x∈l.flatMap flatU,x.deep<=12/\oneOk x.s=true)->seen+cntP l<=200->(XR seen l).isSome=true
 |[],_,_,_,_,_=>rfl
 | f::r,seen,h1,h2,h3,h4=>by
   rw[x1o]at h2 h3;have n:cntP (f::r)=QW f.body+cntP r:=by rw[cntP]
   rw[n]at h2 h4;rw[HX,x0c]at h2;have h:((flatU f).map fun x=>x.s.id).length=(GY seen (QW f.body)).length:=by
    unfold flatU;rw[x0j,FI];unfold GY;simp
   obtain⟨k,m⟩:=List.append_inj h2 h;have q:=D5 1 0 false seen f.body k (fun x i=>h3 x (x0r.2 (.inl i))) (by omega);have t:=N1 r (seen+QW f.body) (fun g o=>h1 g (x0f _ o)) m (fun x i=>h3 x (x0r.2 (.inr i))) (by omega);rw[XR,h1 f x0k,x1u,q];exact t
def TU:∀(l:List Pr)(out:List RI),(FN l out).length<=200->(∀x∈FN l out,x.deep<=12)->FN l out=out++l.flatMap flatU:=by
 intro l;induction l with
 |nil=>intro out _ _;show out=_;simp
 | cons f r k=>
   intro out h i;have mono:∀(r:List Pr)(o:List RI),o.length<=(FN r o).length:=fun r=>by
    induction r with
    |nil=>exact fun o=>x0o _
    | cons g r k=>
      intro o;show _<=(FN r (if o.length<=200 then o++UD g else o)).length;have:=k (if o.length<=200 then o++UD g else o);split at this
      .rw [if_pos (by assumption)];simp only[x0g]at this;omega
      .rw [if_neg (by assumption)];exact this
   have n:FN (f::r) out=FN r (if out.length<=200 then out++UD f else out):=rfl;rw[n]at h i⊢;have m:=mono r (if out.length<=200 then out++UD f else out);have u:out.length<=200:=by
    refine x3u fun v=>?_;rw[if_neg v]at m h;omega
   rw[if_pos u]at h i m⊢;have q:=k _ h i;rw[q]at i h⊢;simp only[x0g]at h;have s:=I3 12 f.body 0 false [] (by show(UD f).length<=200;omega) (fun x w=>i x (x0r.2 (.inl (x0r.2 (.inr w)))));have t:UD f=flatU f:=by simpa[UD,flatU]using s
   rw[t];simp
def q4r{p:Pg}(t:p.D.length<=16)(u:p.A.length<=16)(v:namesB p.D=true)(w:∀f∈p.A,KN f=true)(y:(allR p).length<=200)(r:∀(k:Nat)(x:RI),(allR p)[k]?=some x->x.s.id=(k:Int)+1/\x.deep<=12/\oneOk x.s=true):JJ p=true:=by
 have i:∀x∈allR p,x.deep<=12/\oneOk x.s=true:=fun x q=>by
  obtain⟨k,h,rfl⟩:=x2m.1 q;exact(r k _ (x0u h)).2
 have m:allR p=p.A.flatMap flatU:=by
  have:=TU p.A [] y (fun x q=>(i x q).1);simpa[allR]using this
 have n:(p.A.flatMap flatU).map (fun x=>x.s.id)=GY 0 (cntP p.A):=by
  refine x6d fun k=>?_;rw[x0d,<-m];rcases x0t k (allR p).length with h|h
  .have l:k<cntP p.A:=by rw[<-LG,<-m];exact h
   rw[x0u h];have:=(r k _ (x0u h)).1;unfold GY;rw[x0d,List.getElem?_range' l];simp only[x4y,this];congr 1;omega
  .have l:cntP p.A<=k:=by rw[<-LG,<-m];exact h
   rw[x2f h,x2f (by unfold GY;simpa using l)];rfl
 have o:0+cntP p.A<=200:=by rw[<-LG,<-m];omega
 have:=N1 p.A 0 w n (fun x q=>i x (by rw[m];exact q)) o;unfold JJ;rw[x2a t,x2a u,v];exact this
def Yf{s:S}(h:oneOk s=true->False):oneOk s=false:=by
 cases i:oneOk s with
 |false=>rfl
 |true=>exact(h i).elim
def MK(s:S):SpecP prog 126 [.agg s.cells] (fun r=>r=.bool (oneOk s)):=by
 refine sB LX func126 rfl call126 ?_;conv=>whnf
 have n:(s.args.map fun a=>AV.agg a.cells).length=s.args.length:=x0j _;have t:((S.avs s.F).length:Int)=s.F.length:=by rw[S.avs_len]
 have o:((S.avs s.L).length:Int)=s.L.length:=by rw[S.avs_len]
 repeat' (first|((first|(refine iM fun _=>?_)|refine cP (XL _) ?_|refine cP (UW _) ?_|refine cP (GN _) ?_|refine cP (YP _) ?_|refine FP QK rfl rfl rfl rfl rfl ?_);conv=>whnf)|(apply bD<;>intro _<;>first|omega|conv=>whnf)|(apply bE<;>intro _<;>first|omega|conv=>whnf)|(apply bN<;>intro _<;>conv=>whnf)|(apply bB<;>intro _<;>conv=>whnf))
 all_goals simp only[show(ByteArray.mk #[]).data.toList=[]from rfl]at*
 all_goals first
  | (refine RetK.ff (Yf fun h=>?_)
     obtain⟨f1,f2,f3,f4,f5,f6,f7,f8,f9,f10,f11,f12,f13,f14⟩:=JH h;first
      |omega
      |(exfalso;simp_all[hasXB];done)
      |(exfalso;simp_all[hasXB];omega)
      | (rename_i c
         by_cases w:s.kind=4
         .have k:=G0 (f9 w);simp_all
          done
         .have k:=f10 w;simp_all
          done))
  |skip
 all_goals
  have G:s.args.all argR=true->(s.F.length=0\/s.kind=5\/s.kind=6)->(s.L.length=0\/s.kind=5)->oneOk s=true:=fun g1 u v=>by
   refine IH ⟨by assumption,by omega,by omega,fun q=>?_,fun q=>?_,fun q=>?_,fun q=>?_,fun q=>?_,fun q=>?_,fun q=>?_,g1,fun q=>?_,u,v⟩;all_goals clear n t o g1 u v
   all_goals first
    |omega
    |assumption
    |(simp_all[hasXB];done)
    |(simp_all[hasXB];omega)
    | (have m:(s.kind==4) = !(s.C==[]):=by assumption
       have z:(s.kind==4)=false:=x7x.2 (by assumption);rw[z]at m
       revert m
       cases(s.C==[])<;>simp
       done)
  refine LoopK.inv QK (fun j:Nat=>⟨[(1,.p (.ip s.cells)),(143,.p (.sl (s.args.map fun a=>.agg a.cells))),(144,.p (.int .i64 (s.args.map fun a=>AV.agg a.cells).length)),(145,.p (.int .i64 j))],[]⟩) (fun j=>j<=s.args.length/\(s.args.drop j).all argR=s.args.all argR) (fun j=>s.args.length-j) 0 (Le.of_eq rfl) ⟨x0l _,rfl⟩ ?_;rintro j ⟨b,l⟩;rcases x0t j s.args.length with i|i
  .conv=>whnf
   repeat' (first|((first|refine cP (V0 _) ?_|refine x0h rfl ?_|(refine iA fun _=>?_)|refine wI ?_);conv=>whnf)|(apply bD<;>intro _<;>first|omega|conv=>whnf)|(apply bN<;>intro _<;>conv=>whnf))
   all_goals first
    |exact⟨j+1,⟨i,by rw[GT i (by assumption)];exact l⟩,by omega,Le.of_eq rfl⟩
    | (refine RetK.ff (Yf fun h=>?_)
       have m:=x2w.1 (JH h).args _ (x0s i);simp_all)
  .rw [GR i]at l;have G:=G l.symm;conv=>whnf
   repeat' (first|(refine iM fun _=>?_;conv=>whnf)|(apply bD<;>intro _<;>first|omega|conv=>whnf))
   all_goals first
    |exact RetK.tt (G (by omega) (by omega))
    | (refine RetK.ff (Yf fun h=>?_)
       have x:=(JH h).F;have y:=(JH h).L;omega)
    | (refine RetK.bool ?_
       first
        |rw[x4b,x3s]
        |rw[x4b,x1n]
       exact⟨fun q=>G (by omega) (by omega),fun h=>by have x:=(JH h).F;have y:=(JH h).L;omega⟩)
end Go.Ab
