/- The library's contracts at this seat's program, in plain words (printed by the kit's lay-plain.mjs). Conditions: none. -/
import Derived.Shelf.Sort.Plain
import Derived.Shelf.Slices.In.SortNone
import Derived.Shelf.Slices.CompactS
import Derived.Ground.Names2Prog
import Derived.Shelf.Slices.SearchI
import Derived.Shelf.Slices.Empties
import Derived.Shelf.Spec.SlicesInsert
import Derived.Shelf.Spec.SlicesInsertGrow
import Derived.Shelf.SlSortCmp.NoneTotal
import Derived.Ground.SlsfProg
import Derived.Test.YtonbdgcjnecapaaGreatProg
import Derived.Test.YtonbdgcjnecapaaGreatRchR8
import Derived.Test.YtonbdgcjnecapaaGreatRchR9
import Derived.Test.YtonbdgcjnecapaaGreatRchR13
import Derived.Test.YtonbdgcjnecapaaGreatRchR14
import Derived.Test.YtonbdgcjnecapaaGreatRchR15
import Derived.Test.YtonbdgcjnecapaaGreatRchR16
import Derived.Test.YtonbdgcjnecapaaGreatRchR17
import Derived.Test.YtonbdgcjnecapaaGreatRchR18
import Derived.Test.YtonbdgcjnecapaaGreatRchR19
set_option linter.all false
set_option maxRecDepth 100000
set_option maxHeartbeats 16000000
open List (length)
namespace Go.Proofs
open Go.Shelf
def Tryz.laysG_ren:Go.Shelf.Ren:=⟨fun|6=>115|15=>187|14=>186|28=>245|29=>246|20=>237|21=>238|22=>239|23=>240|24=>241|25=>242|26=>243|27=>244|46=>293|47=>294|48=>295|49=>296|50=>297|57=>324|n=>n,fun|22=>105|24=>107|25=>178|3=>3|39=>242|0=>0|53=>280|55=>282|4=>4|46=>274|45=>273|50=>201|5=>5|9=>9|66=>307|70=>311|76=>328|77=>30|n=>n,fun|n=>n⟩
def Ku:Go.Proofs.SlLaysF0.n6 Tryz.prog Tryz.laysG_ren:={
 mixed:=by kernel_rfl
 f6:=⟨Tryz.f115.name,by decide,Tryz.func115.trans (congrArg some (by kernel_rfl))⟩
 f14:=⟨Tryz.f186.name,by decide,Tryz.func186.trans (congrArg some (by kernel_rfl))⟩
 f15:=Tryz.func187.trans (congrArg some (by kernel_rfl))
 f20:=⟨Tryz.f237.name,by decide,Tryz.func237.trans (congrArg some (by kernel_rfl))⟩
 f21:=⟨Tryz.f238.name,by decide,Tryz.func238.trans (congrArg some (by kernel_rfl))⟩
 f22:=⟨Tryz.f239.name,by decide,Tryz.func239.trans (congrArg some (by kernel_rfl))⟩
 f23:=⟨Tryz.f240.name,by decide,Tryz.func240.trans (congrArg some (by kernel_rfl))⟩
 f24:=⟨Tryz.f241.name,by decide,Tryz.func241.trans (congrArg some (by kernel_rfl))⟩
 f25:=⟨Tryz.f242.name,by decide,Tryz.func242.trans (congrArg some (by kernel_rfl))⟩
 f26:=⟨Tryz.f243.name,by decide,Tryz.func243.trans (congrArg some (by kernel_rfl))⟩
 f27:=⟨Tryz.f244.name,by decide,Tryz.func244.trans (congrArg some (by kernel_rfl))⟩
 f28:=Tryz.func245.trans (congrArg some (by kernel_rfl))
 f29:=Tryz.func246.trans (congrArg some (by kernel_rfl))
 f46:=⟨Tryz.f293.name,by decide,Tryz.func293.trans (congrArg some (by kernel_rfl))⟩
 f47:=Tryz.func294.trans (congrArg some (by kernel_rfl))
 f48:=Tryz.func295.trans (congrArg some (by kernel_rfl))
 f49:=⟨Tryz.f296.name,by decide,Tryz.func296.trans (congrArg some (by kernel_rfl))⟩
 f50:=⟨Tryz.f297.name,by decide,Tryz.func297.trans (congrArg some (by kernel_rfl))⟩
 f57:=⟨Tryz.f324.name,by decide,Tryz.func324.trans (congrArg some (by kernel_rfl))⟩
 t0:=Tryz.underlying0
 a0:=Tryz.isAgg0
 z0:=Tryz.sizeOf0
 v0:=Tryz.zeroValue0
 t3:=Tryz.underlying3
 a3:=Tryz.isAgg3
 z3:=Tryz.sizeOf3
 v3:=Tryz.zeroValue3
 t4:=Tryz.underlying4
 a4:=Tryz.isAgg4
 z4:=Tryz.sizeOf4
 v4:=Tryz.zeroValue4
 t5:=Tryz.underlying5
 a5:=Tryz.isAgg5
 z5:=Tryz.sizeOf5
 v5:=Tryz.zeroValue5
 t9:=Tryz.underlying9
 a9:=Tryz.isAgg9
 z9:=Tryz.sizeOf9
 v9:=Tryz.zeroValue9
 t22:=Tryz.underlying105
 a22:=Tryz.isAgg105
 z22:=Tryz.sizeOf105
 v22:=Tryz.zeroValue105
 t25:=Tryz.underlying178
 a25:=Tryz.isAgg178
 z25:=Tryz.sizeOf178
 v25:=Tryz.zeroValue178
 t39:=Tryz.underlying242
 a39:=Tryz.isAgg242
 z39:=Tryz.sizeOf242
 v39:=Tryz.zeroValue242
 t45:=Tryz.underlying273
 a45:=Tryz.isAgg273
 z45:=Tryz.sizeOf273
 v45:=Tryz.zeroValue273
 t46:=Tryz.underlying274
 a46:=Tryz.isAgg274
 z46:=Tryz.sizeOf274
 v46:=Tryz.zeroValue274
 t50:=Tryz.underlying201
 a50:=Tryz.isAgg201
 z50:=Tryz.sizeOf201
 v50:=Tryz.zeroValue201
 t53:=Tryz.underlying280
 a53:=Tryz.isAgg280
 z53:=Tryz.sizeOf280
 v53:=Tryz.zeroValue280
 t55:=Tryz.underlying282
 a55:=Tryz.isAgg282
 z55:=Tryz.sizeOf282
 v55:=Tryz.zeroValue282
 t66:=Tryz.underlying307
 a66:=Tryz.isAgg307
 z66:=Tryz.sizeOf307
 v66:=Tryz.zeroValue307
 t70:=Tryz.underlying311
 a70:=Tryz.isAgg311
 z70:=Tryz.sizeOf311
 v70:=Tryz.zeroValue311
 t76:=Tryz.underlying328
 a76:=Tryz.isAgg328
 z76:=Tryz.sizeOf328
 v76:=Tryz.zeroValue328
 t77:=Tryz.underlying30
 a77:=Tryz.isAgg30
 z77:=Tryz.sizeOf30
 v77:=Tryz.zeroValue30}
end Go.Proofs
namespace Go.Ab
open Go.Proofs.Tryz
open Go.Proofs Go.Sort Go.RowKit Go.Lib
variable {D O':List (List Str)}{j:Nat}{σ:Mem}
structure Fl where
 src:Int
 dst:Int
 var:Str
deriving DecidableEq
def Fl.cells(f:Fl):List AV:=[.int .i64 f.src,.int .i64 f.dst,.str f.var]
def Oj(a b:Str):Int:=if Op.bytesLess a b=true then -1 else if Op.bytesLess b a=true then 1 else 0
def Ok(a b:Str):Oj a b<0↔ltT a b:=by
 unfold Oj ltT;split
 .rename_i h;exact⟨fun _=>h,fun _=>by decide⟩
 .rename_i h;split
  .exact ⟨fun i=>absurd i (by decide),fun i=>absurd i h⟩
  .exact ⟨fun i=>absurd i (by decide),fun i=>absurd i h⟩
def Av(a b:Str):Oj a b=0↔a=b:=by
 unfold Oj;split
 .rename_i h;refine⟨fun i=>absurd i (by decide),fun i=>?_⟩;subst i;exact absurd h (ltT.irr a)
 .rename_i h;split
  .rename_i k;refine⟨fun i=>absurd i (by decide),fun i=>?_⟩;subst i;exact absurd k (ltT.irr a)
  .rename_i k;refine⟨fun _=>z0c fun m=>?_,fun _=>rfl⟩;rcases ltT.total m with l|l
   .exact h l
   .exact k l
def flC(a b:Fl):Int:=orI [Bq (QR a.src) (QR b.src),Bq (QR a.dst) (QR b.dst),Oj a.var b.var]
theorem NG(a b:Str):SpecP prog 120 [.str a,.str b] (fun r=>r=.int .i64 (Oj a b)):=by
 refine sB FH func120 rfl call120 ?_;conv=>whnf
 repeat' (first|((first|refine cP (UD a) ?_|refine cP (UD b) ?_);conv=>whnf)|(apply bN<;>intro _<;>conv=>whnf)|(apply bB<;>intro _<;>conv=>whnf))
 all_goals first
  |contradiction
  | (have i:Op.bytesLess a b=true:=by assumption
     exact RetK.int (by unfold Oj;rw[if_pos i]))
  | (have i:Op.bytesLess a b=false:=by assumption
     have k:(Op.bytesLess a b||a==b)=true:=by assumption
     have l:a=b:=by rw[i]at k;simpa using k
     exact RetK.int ((Av a b).2 l).symm)
  | (have i:Op.bytesLess a b=false:=by assumption
     have k:(Op.bytesLess a b||a==b)=false:=by assumption
     have l:a≠b:=by
      rw[i]at k;rintro rfl;simp at k
     have m:Op.bytesLess b a=true:=by
      rcases ltT.total l with h|h
      ·exact absurd h (by unfold ltT;rw[i];decide)
      ·exact h
     exact RetK.int (by unfold Oj;rw[if_neg (by rw[i];decide),if_pos m]))
def Xj(a b:Fl):SpecP prog 116 [.agg a.cells,.agg b.cells] (fun r=>r=.int .i64 (flC a b)):=by
 refine sB PL func116 rfl call116 ?_;conv=>whnf
 have h:=NG a.var b.var;repeat' ((first|refine cP (Pc _) ?_|refine cP (HT _ _) ?_|refine cP (Uy [Bq (QR a.src) (QR b.src),Bq (QR a.dst) (QR b.dst),Oj a.var b.var]) ?_|refine dA ?_|refine x7g rfl ?_|refine aD ?_|refine BsK.pureL rfl rfl ?_|refine cP h ?_);conv=>whnf)
 all_goals first
  |exact RetK.p rfl
def ltF(a b:Fl):Prop:=QR a.src<QR b.src\/QR a.src=QR b.src/\(QR a.dst<QR b.dst\/QR a.dst=QR b.dst/\ltT a.var b.var)
def Ud(a b:Fl):flC a b<0↔ltF a b:=by
 unfold flC ltF;rw[EQ,KX,KX,Ok,VP,VP]
theorem ltF.irr(a:Fl):¬ltF a a:=by
 rintro(h|⟨_,h|⟨_,h⟩⟩)
 ·omega
 ·omega
 ·exact ltT.irr _ h
theorem ltF.trans(a b c:Fl)(i:ltF a b)(l:ltF b c):ltF a c:=by
 unfold ltF at*
 rcases i with i|⟨m,i⟩<;>rcases l with l|⟨e2,l⟩
 ·exact .inl (by omega)
 ·exact .inl (by omega)
 ·exact .inl (by omega)
 ·refine .inr ⟨by omega,?_⟩;rcases i with i|⟨f1,i⟩<;>rcases l with l|⟨f2,l⟩
  ·exact .inl (by omega)
  ·exact .inl (by omega)
  ·exact .inl (by omega)
  ·exact .inr ⟨by omega,ltT.trans _ _ _ i l⟩
theorem ltT.neg{a b c:Str}(m:¬ltT a b)(l:¬ltT b c):¬ltT a c:=fun h=>by
 by_cases e:a=b
 .subst e;exact l h
 .rcases ltT.total e with i|i
  .exact m i
  .exact l (ltT.trans b a c i h)
theorem ltF.neg{x y z:Fl}(i:¬ltF x y)(l:¬ltF y z):¬ltF x z:=fun h=>by
 unfold ltF at i l h;have o:¬QR x.src<QR y.src:=fun h=>i (.inl h);have q:¬QR y.src<QR z.src:=fun h=>l (.inl h);rcases h with h|⟨e,h⟩
 ·omega
 have m:QR x.src=QR y.src:=by omega
 have e2:QR y.src=QR z.src:=by omega
 have r:¬QR x.dst<QR y.dst:=fun h=>i (.inr ⟨m,.inl h⟩);have t:¬QR y.dst<QR z.dst:=fun h=>l (.inr ⟨e2,.inl h⟩);rcases h with h|⟨f,h⟩
 ·omega
 exact ltT.neg (fun h=>i (.inr ⟨m,.inr ⟨by omega,h⟩⟩)) (fun h=>l (.inr ⟨e2,.inr ⟨by omega,h⟩⟩)) h
def okFl(s:Fl):Prop:=s.src≠9223372036854775807/\s.dst≠9223372036854775807/\s.var.length<=maxLen
abbrev OFl:={s:Fl // okFl s}
instance:Inhabited OFl:=⟨⟨⟨0,0,[]⟩,by decide,by decide,x7p _⟩⟩
def cfF(a b:OFl):Int:=flC a.1 b.1
def Uw(a b:OFl):ltOf cfF a b=true↔ltF a.1 b.1:=by
 unfold ltOf cfF;rw[x8l,Ud]
def LW(a b:OFl):ltOf cfF a b=false ↔ ¬ltF a.1 b.1:=by
 rw[<-Uw,z2p]
def q4m:SWO (ltOf cfF):=by
 refine⟨fun x=>?_,fun x y z h i=>?_,fun x y z h i=>?_⟩
 .exact (LW x x).2 (ltF.irr _)
 .first
   |exact(Uw x z).2 (ltF.trans _ _ _ ((Uw x y).1 h) ((Uw y z).1 i))
   |exact(LW x z).2 (ltF.neg ((LW x y).1 h) ((LW y z).1 i))
 .first
   |exact(Uw x z).2 (ltF.trans _ _ _ ((Uw x y).1 h) ((Uw y z).1 i))
   |exact(LW x z).2 (ltF.neg ((LW x y).1 h) ((LW y z).1 i))
theorem ltF.total{a b:Fl}(ha:okFl a)(u:okFl b)(i:¬ltF a b)(l:¬ltF b a):a=b:=by
 unfold ltF at i l;obtain⟨m,o,v⟩:=a;obtain⟨q,r,w⟩:=b;simp only at*
 have e:¬QR m<QR q:=fun h=>i (.inl h);have g:¬QR q<QR m:=fun h=>l (.inl h);have z:=YU (x:=m) (y:=q) ha.1 u.1 (by omega);have A:¬QR o<QR r:=fun h=>i (.inr ⟨by omega,.inl h⟩);have B:¬QR r<QR o:=fun h=>l (.inr ⟨by omega,.inl h⟩);have e2:=YU (x:=o) (y:=r) ha.2.1 u.2.1 (by omega);have c:v=w:=z0c fun t=>by
  rcases ltT.total t with h|h
  ·exact i (.inr ⟨by omega,.inr ⟨by omega,h⟩⟩)
  ·exact l (.inr ⟨by omega,.inr ⟨by omega,h⟩⟩)
 subst z e2 c;rfl
def q4l(x y:OFl)(h:ltOf cfF x y=false)(i:ltOf cfF y x=false):x=y:=Subtype.ext (ltF.total x.2 y.2 ((LW x y).1 h) ((LW y x).1 i))
def Bx(s:OFl):List Value:=[.int .i64 s.1.src,.int .i64 s.1.dst,.string ⟨s.1.var.toArray⟩]
def P6(s:OFl):Rep σ (.agg s.1.cells) (.agg (Bx s).toArray):=by
 refine .agg _ _ (fun j=>(Bx s).toArray.getD j undef) rfl (fun j c h=>?_) (fun j c h=>?_)
 .match j,h with
  |0,_=>rfl
  |1,_=>rfl
  |2,_=>rfl
 .match j,h with
  |0,h=>cases h;exact .int _ _
  |1,h=>cases h;exact .int _ _
  |2,h=>cases h;exact .str _ s.2.2.2
def Aw(W:World)(x y:OFl):Calls prog 116 (#[.agg (Bx x).toArray,.agg (Bx y).toArray] ++ #[]) W fun e w'=>e=.returned (.int .i64 (cfF x y))/\∃q k,w'=grow (W.drewN q) k:=by
 refine((Xj x.1 y.1).ok (fun _=>none) W #[.agg (Bx x).toArray,.agg (Bx y).toArray] rfl (fun j c i=>?_) (fun b c h=>by cases h)).mono ?_
 .match j,i with
  |0,i=>cases i;exact P6 x
  |1,i=>cases i;exact P6 y
 .rintro e w' ⟨c,u,σ',rfl,rfl,m,_,_,l,_⟩;cases m;exact⟨rfl,l.grown⟩
def Za(s:Fl):AV:=.agg s.cells
def q5g{l:List OFl}{vs:Array Value}(h:∀(m:Nat)(x:AV),(l.map fun s=>AV.agg s.1.cells)[m]?=some x->x.cells.length=3/\∀(j:Nat)(c:AV),x.cells[j]?=some c->∃u:Value,vs[m*3+j]?=some u/\Rep σ c u){m:Nat}(r:m<l.length)(q:j<3):
  vs[m*3+j]?=(Bx l[m])[j]?:=by
 have o:=(h m (.agg l[m].1.cells) (by simp[r])).2
 match j,q with
 | 0,_=>
   obtain⟨u,i,k⟩:=o 0 (.int .i64 l[m].1.src) rfl;cases k;exact i
 | 1,_=>
   obtain⟨u,i,k⟩:=o 1 (.int .i64 l[m].1.dst) rfl;cases k;exact i
 | 2,_=>
   obtain⟨u,i,k⟩:=o 2 (.str l[m].1.var) rfl;cases k;exact i
theorem q5h{l:List OFl}{vs:Array Value}(h:∀(m:Nat)(o:m<l.length)(j:Nat),j<3->vs[m*3+j]?=(Bx l[m])[j]?):∀(m:Nat)(x:AV),(l.map fun s=>AV.agg s.1.cells)[m]?=some x->x.cells.length=3/\∀(j:Nat)(c:AV),x.cells[j]?=some c->∃u:Value,vs[m*3+j]?=some u/\Rep σ c u:=by
 intro m x k;rw[x7k]at k;cases q:l[m]?with
 |none=>rw[q]at k;cases k
 | some s=>
   rw[q]at k;cases k;obtain⟨o,rfl⟩:=x7h.1 q;refine⟨rfl,fun j c i=>?_⟩
   match j,i with
   |0,i=>cases i;exact⟨_,h m o 0 (by omega),.int _ _⟩
   |1,i=>cases i;exact⟨_,h m o 1 (by omega),.int _ _⟩
   |2,i=>cases i;exact⟨_,h m o 2 (by omega),.str _ l[m].2.2.2⟩
theorem Pt{d:Array OFl}{t:Nat}(h:t<d.size*3):(flatK Bx 3 d)[t]?=(Bx (d[t/3]'(by omega)))[t%3]?:=by
 have i:=get_flatK Bx 3 d t h;rw[z2j _ t (by simpa using h),z2j d (t/3) (by omega)]at i;rw[x9b (by simpa using h),i];have k:t%3<(Bx (d[t/3]'(by omega))).length:=by simp[Bx];omega
 rw[x7x k,z2j (Bx (d[t/3]'(by omega))) (t%3) k]
def JX(l:List Fl):List Fl:=l.mergeSort fun x y=> !decide (flC y x<0)
def Hw{l:List Fl}:(JX l).length=l.length:=by unfold JX;simp
theorem PX(l:List OFl)(T:l.length<=1000000000):
  SpecH prog 115 [.hd 1000 0 l.length,.p (.fn 116 [])] [(1000,.own 107 3 (l.map fun s=>.agg s.1.cells))]
   (fun r H=>r=.p (.tup [])/\H=[(1000,.own 107 3 ((l.mergeSort fun x y=> !(ltOf cfF) y x).map fun s=>.agg s.1.cells))]):=by
 refine⟨call115,fun σ β w V hn A hH=>?_⟩;obtain⟨v,u,rfl⟩:=q7a hn;have B:RepL σ β (.hd 1000 0 l.length) v:=by simpa using A 0 _ rfl
 have O:RepL σ β (.p (.fn 116 [])) u:=by simpa using A 1 _ rfl
 obtain rfl:u=.func (.func 116) #[] #[]:=by
  cases O with
  | p h=>cases h with
    | fn _ _ vs u M q hr=>
      obtain rfl:vs=#[]:=Array.size_eq_zero_iff.1 M;rfl
 have I:=hH.chunks 1000 _ x7v;rcases I with⟨G,J⟩|⟨i,vs,E,N,K,Q,Y,Z,h5⟩
 ·have L:l=[]:=z3z.1 J;subst L;obtain⟨rfl,_⟩:=Nu B G;have q:=AnyF.slices_SortFunc_none Ku none 0 (.func (.func 116) #[] #[]) w;change Calls prog 115 _ _ _ at q;refine q.mono ?_;rintro e w' ⟨rfl,rfl⟩;exact⟨.p (.tup []),.tuple #[],σ,β,_,rfl,⟨rfl,rfl⟩,.p (.tup [] #[] (fun _=>undef) rfl (by simp) (by simp)),by simpa using hH,by simpa using Later.refl _ _ _ _⟩
 ·have P:=Gq B E;subst P;have g:=(hH.apart 1000 (by simp) i E i.blk i.has_blk).2;have b:l.length<=i.cap:=by simpa using Y
  have hle:l.length*3<=vs.size:=by rw[Q];omega
  have c:=fun m j U R=>q5g (σ:=σ) (l:=l) h5 (m:=m) (j:=j) U R;have q:=AnyQ.slices_SortFunc_total Ku 3 Tryz.isAgg107 Tryz.sizeOf107 Bx (fun _=>rfl) (fun x v A=>by simp[Bx]at A;rcases A with rfl|rfl|rfl<;>rfl) cfF q4m 116 #[] i.blk 0 i.cap l.toArray w
   call116 (fun m os dk _ x y=>Aw _ x y) (fun t ht=>by
    have o:t<l.toArray.size*3:=by simpa using ht
    refine⟨?_,VJ K _⟩;have C:=Pt o;have z:=c (t/3) (t%3) (by simp at o;omega) (by omega);rw[Nat.div_add_mod']at z;rw[KQ K,z0q,z,z2j _ t (by simpa using o)];rw[x9b (by simpa using o)]at C;simpa using C.symm) g (by simp;omega) q4l
  simp only[z1z]at q;change Calls prog 115 _ _ _ at q;refine q.mono ?_;rintro e w' ⟨rfl,n,os,rfl⟩;generalize hS:(l.mergeSort fun x y=> !(ltOf cfF) y x)=S;have a:S.length=l.length:=by rw[<-hS];simp
  obtain⟨hf,hb⟩:=BC (enc:=id) (n:=n) (os:=os) (d:=flatK Bx 3 S.toArray) K g;obtain⟨F,hL⟩:=Vf (c':=.own 107 3 (S.map fun s=>.agg s.1.cells)) hH E hf (.inr ⟨i,_,E,N,hb,by rw[HB];exact Q,by simp[a];exact b,Z,q5h fun m U j R=>by
   have C:=KY (enc:=id) (d:=flatK Bx 3 S.toArray) (vs:=vs) (by simp[a];omega) (k:=m*3+j) (by simp;omega);have z:=Pt (d:=S.toArray) (t:=m*3+j) (by simp;omega);rw[x9b (by simp;omega)]at z;rw[C];simp only[id];rw[z];simp[show(m*3+j)/3=m by omega,show(m*3+j)%3=j by omega]⟩)
  exact⟨.p (.tup []),.tuple #[],σ,β,_,rfl,⟨rfl,rfl⟩,.p (.tup [] #[] (fun _=>undef) rfl (by simp) (by simp)),F,hL⟩
def Jz(l:List Fl)(i:∀s∈l,okFl s)(k:l.length<=1000000000):
  SpecH prog 115 [.hd 1000 0 l.length,.p (.fn 116 [])] [(1000,.own 107 3 (l.map fun s=>.agg s.cells))]
   (fun r H=>r=.p (.tup [])/\H=[(1000,.own 107 3 ((JX l).map fun s=>.agg s.cells))]):=by
 have h:=PX (l.attachWith okFl i) (by simpa using k);have o:((l.attachWith okFl i).map fun s=>AV.agg s.1.cells)=l.map fun s=>AV.agg s.cells:=by
  have:=x9l (List.map fun s:Fl=>AV.agg s.cells) (z2u (l:=l) (p:=okFl) i);simp
 have e2:(((l.attachWith okFl i).mergeSort fun x y=> !(ltOf cfF) y x).map fun s=>AV.agg s.1.cells)=(JX l).map fun s=>AV.agg s.cells:=by
  have m:=List.map_mergeSort (l:=l.attachWith okFl i) (f:=Subtype.val) (r:=fun x y=> !(ltOf cfF) y x) (s:=fun x y=> !decide (flC y x<0)) (fun a _ b _=>rfl);rw[z2u]at m;unfold JX;rw[<-m,z1s];rfl
 rw[o,e2]at h;simpa using h
open Classical in
noncomputable def comC(n:Nat)(steps:List (Int×Int))(at_:List Nat):List (List Int):=(List.range n).map fun c=>((List.range at_.length).filter fun f=>decide (SolP (QL n steps).1 ((gnC n at_ at_.length).map (HP (at_.length/64+1))) ((klC n at_ at_.length).map (HP (at_.length/64+1))) f (c:Nat))).map Int.ofNat
theorem ComR.eq{n:Nat}{steps:List (Int×Int)}{at_:List Nat}{r:AV}(h:ComR n steps at_ r):r=eMat (comC n steps at_):=by
 obtain⟨R,l,m,rfl⟩:=h;congr 1;unfold comC;refine List.ext_getElem (by simp[m]) fun c o t=>?_;have q:c<R.length:=by simpa using o
 rw[z1h,z1h,z3g];unfold YW;congr 1;refine List.filter_congr fun f i=>?_;have i:=x8n.1 i;have:=l (c:Nat) (by omega) (by omega) f (Nat.lt_succ_of_le (Nat.div_le_div_right (by omega)));rw[z0h,x7w,x7x q,x9u]at this;rw[z3j,this];simp
def Fz(n:Nat)(steps:List (Int×Int))(at_:List Nat):(comC n steps at_).length=n:=by unfold comC;simp
theorem Fw{n:Nat}{steps:List (Int×Int)}{at_:List Nat}{r:List Int}(h:r∈comC n steps at_):r.length<=at_.length/\∀f∈r,0<=f/\f<at_.length:=by
 unfold comC at h;obtain⟨c,_,rfl⟩:=x7d.1 h;refine⟨by rw[x7z];exact x8m (x9n _ _) (by simp),fun f i=>?_⟩;obtain⟨x,k,rfl⟩:=x7d.1 i;have:=x8n.1 (x8d.1 k).1;exact⟨z2s _,by show(x:Int)<_;omega⟩
def Md{l l':List Fl}(h:l.Perm l')(o:∀s∈l,okFl s):JX l=JX l':=by
 have t:∀m:List Fl,(JX m).Pairwise fun x y=>¬ltF y x:=fun m=>by
  unfold JX;refine(List.pairwise_mergeSort ?_ ?_ m).imp fun h=>?_
  .intro a b c i k;simp only[x9r,z0k]at i k⊢;rw[Ud]at i k⊢;exact ltF.neg k i
  .intro a b;simp only[z1y,x9r,z0k];rw[Ud,Ud];by_cases i:ltF b a
   .exact .inr fun k=>ltF.irr a (ltF.trans a b a k i)
   .exact .inl i
  .rw [<-Ud];simpa using h
 have v:(JX l).Perm (JX l'):=(z2d l _).trans (h.trans (z2d l' _).symm);refine v.eq_of_pairwise (fun a b ha u i k=>?_) (t l) (t l');have q:a∈l:=(z2d l _).mem_iff.1 ha;have r:b∈l:=h.mem_iff.2 ((z2d l' _).mem_iff.1 u);exact ltF.total (o a q) (o b r) k i
theorem Y3(l:List Str)(h:l.length<=1000000000):SpecH prog 94 [.hd 1000 0 l.length] [(1000,.own 9 1 (l.map .str))] (fun r H=>r=.hd 1000 0 (WA l).length/\H=[(1000,.own 9 1 ((WA l).map .str))]):=by
 refine sH Ht func94 rfl call94 ?_;conv=>whnf
 repeat' (first|(refine cH [(1000,1000)] 0 (HM l h) ?_;conv=>whnf)|(refine cH [(1000,1000)] 0 (KT (JV l) (by rw[UQ];omega)) ?_ (ha:=(x8y (z2r (by rw[UQ];rfl)) z0v));conv=>whnf))
 all_goals first
  |exact x9h _ (x8z _) ⟨rfl,rfl⟩
def HA(b:Book)(t:S):SpecP prog 168 [.ip b.cells,.agg t.cells] (fun r=>r=.int .i64 (idxF (fun f=>f.name==t.D) b.s.p.A)):=by
 refine sB MF func168 rfl call168 ?_;conv=>whnf
 have h:=XM b.s t.D;repeat' ((first|refine dA ?_|refine cP h ?_);conv=>whnf)
 all_goals exact RetK.p rfl
def x1s(O:List Str)(x:Arg×Param):Bool:=x.1.ref&&inS O x.2.name
def EH(t:S)(f:Pr)(O:List Str)(j:Nat):List Str:=(((t.args.zip f.C).take j).filter (x1s O)).map fun x=>x.1.name
def q4p(p:Pg)(t:S)(f:Pr)(O:List Str):List Str:=(if t.name=[]then []else [t.name])++EH t f O t.args.length++O.filter (comB p)
theorem TP(t:S)(f:Pr)(O:List Str)(j:Nat):(EH t f O j).length<=j:=by
 unfold EH;rw[x7z];exact x8m (x9n _ _) (by rw[x8q];omega)
theorem EF{t:S}{f:Pr}{O:List Str}(k:j<t.args.length)(l:j<f.C.length):EH t f O (j+1)=EH t f O j++(if t.args[j].ref=true/\inS O f.C[j].name=true then [t.args[j].name]else []):=by
 have i:j<(t.args.zip f.C).length:=by rw[List.length_zip];omega
 unfold EH;rw[x7r i,z0u,x7n];congr 1;have e:(t.args.zip f.C)[j]=(t.args[j],f.C[j]):=List.getElem_zip;rw[e];by_cases h:t.args[j].ref=true/\inS O f.C[j].name=true
 ·rw[if_pos h,z0x (by unfold x1s;simp[h])];rfl
 ·rw[if_neg h,z0j (by unfold x1s;simpa using h)];rfl
theorem Wf(b:Book)(t:S)(i:Nat)(f:Pr)(O:List Str)(Z:idxF (fun f=>f.name==t.D) b.s.p.A=i)(Y:b.s.p.A[i]?=some f)(R:b.Q[i]?=some O)(hs:O.Pairwise ltT)(hl:O.length<=1000000)(ha:t.args.length<=f.C.length)(U:t.args.length<=1000000):SpecH prog 163 [.p (.ip b.cells),.p (.agg t.cells)] [] (fun r H=>OneRow (Kx (q4p b.s.p t f O)) False r H):=by
 refine sH MB func163 rfl call163 ?_;conv=>whnf
 have K:=HA b t;rw[Z]at K;have hH:=fun x=>LM O x hs (by omega);have E:=fun x=>HE b x;have z:(b.Q.map eStrs)[i]?=some (eStrs O):=by rw[x7k,R];rfl
 have I:(b.s.p.A.map fun f=>AV.agg f.cells)[i]?=some (.agg f.cells):=by rw[x7k,Y];rfl
 have V:(t.args.map fun a=>AV.agg a.cells).length=t.args.length:=x7z _;have T:(O.map AV.str).length=O.length:=x7z _;repeat' (first|((first|(refine iM fun _=>?_)|refine x7g rfl ?_|refine aD ?_|refine bP ?_|refine QO (es:=[]) rfl (by simp) ?_|refine cP K ?_);conv=>whnf)|(apply bN<;>intro _<;>conv=>whnf))
 all_goals
  refine LoopK.inv QV (fun x:Nat×List Str=>⟨[(0,.p (.ip b.cells)),(5,.hd 0 0 x.2.length),(6,.j i),(23,.p (.sl (t.args.map fun a=>.agg a.cells))),(24,.p (.int .i64 (t.args.map fun a=>AV.agg a.cells).length)),(25,.j x.1)],[(0,.own 9 1 (x.2.map .str))]⟩) (fun x=>x.1<=t.args.length/\x.2=(if t.name=[]then []else [t.name])++EH t f O x.1) (fun x=>t.args.length-x.1) (0,if t.name=[]then []else [t.name]) ?_ ⟨x7p _,by simp[EH]⟩ ?_
  ·first
    | (have l:(t.name==[])=true:=by assumption
       rw[if_pos (eq_of_beq l)];exact Le.mk [(0,.own 9 1 [])] (by simp[Chunk.new0];rfl) (by simp) (by simp) (.r (.cons (.nil x7v) (.r (.r (.r (.r .nil)))))) (.new x7v .nil))
    | (have l:(t.name==[])=false:=by assumption
       rw[if_neg (by simpa using l)];exact Le.of_eq rfl)
  rintro⟨j,h⟩ ⟨M,v⟩;simp only at M v⊢;have L:h.length<=j+1:=by
   rw[v,x7u];have:=TP t f O j;split<;>simp<;>omega
  rcases x7m j t.args.length with d|d
  ·have e:j<f.C.length:=by omega
   have u:=EF (O:=O) d e;have G:=hH f.C[j].name;have J:(f.C.map fun a=>AV.agg a.cells)[j]?=some (.agg f.C[j].cells):=by rw[x7k,x7x e];rfl
   conv=>whnf
   repeat' (first|((first|refine dA ?_|refine x7g rfl ?_|refine aD ?_|refine bP ?_|(refine iA fun _=>?_)|refine wI ?_|(refine IdxK.at (k:=i) rfl z rfl ?_)|(refine IdxK.at (k:=i) rfl I rfl ?_)|(refine IdxK.at (k:=j) rfl J rfl ?_)|refine cP G ?_|refine QO (by simp) (by rw[x7z];omega) ?_);conv=>whnf)|(apply bD<;>intro _<;>first|omega|conv=>whnf)|(apply bB<;>intro _<;>conv=>whnf))
   all_goals first
    | (have l:t.args[j].ref=true:=by assumption
       have m:inS O f.C[j].name=true:=by assumption
       exact⟨(j+1,h++[t.args[j].name]),⟨d,by simp only;rw[u,if_pos (show t.args[j].ref=true/\inS O f.C[j].name=true from⟨l,m⟩),v,x8w]⟩,by simp only;omega,Le.of_eq (by simp only[x7u,x7n];rfl)⟩)
    | (have m:inS O f.C[j].name=false:=by assumption
       exact⟨(j+1,h),⟨d,by simp only;rw[u,if_neg (show ¬(t.args[j].ref=true/\inS O f.C[j].name=true)from fun c=>by rw[m]at c;cases c.2),x9q];exact v⟩,by simp only;omega,Le.of_eq rfl⟩)
    | (have l:t.args[j].ref=false:=by assumption
       exact⟨(j+1,h),⟨d,by simp only;rw[u,if_neg (show ¬(t.args[j].ref=true/\inS O f.C[j].name=true)from fun c=>by rw[l]at c;cases c.1),x9q];exact v⟩,by simp only;omega,Le.of_eq rfl⟩)
  ·obtain rfl:j=t.args.length:=by omega
   conv=>whnf
   repeat' (first|((first|(refine iM fun _=>?_)|(refine IdxK.at (k:=i) rfl z rfl ?_));conv=>whnf)|(apply bD<;>intro _<;>first|omega|conv=>whnf))
   refine LoopK.inv QV (fun x:Nat×List Str=>⟨[(0,.p (.ip b.cells)),(5,.hd 0 0 x.2.length),(70,.p (eStrs O)),(71,.p (.int .i64 (O.map AV.str).length)),(72,.j x.1)],[(0,.own 9 1 (x.2.map .str))]⟩) (fun x=>x.1<=O.length/\x.2=h++(O.take x.1).filter (comB b.s.p)/\x.2.length<=h.length+x.1) (fun x=>O.length-x.1) (0,h) (Le.of_eq rfl) ⟨x7p _,by simp,by simp⟩ ?_;rintro⟨q,o⟩ ⟨N,w,P⟩;simp only at N w P⊢;rcases x7m q O.length with B|B
   ·have g:=x7r B;have F:=E O[q];conv=>whnf
    repeat' (first|((first|refine x7g rfl ?_|refine aD ?_|refine bP ?_|(refine iA fun _=>?_)|refine wI ?_|refine cP F ?_|refine QO (by simp) (by rw[x7z];omega) ?_);conv=>whnf)|(apply bD<;>intro _<;>first|omega|conv=>whnf)|(apply bB<;>intro _<;>conv=>whnf))
    all_goals first
     | (have l:comB b.s.p O[q]=true:=by assumption
        exact⟨(q+1,o++[O[q]]),⟨B,by simp only;rw[g,z0u,z0x l,w,x8w];rfl,by simp;omega⟩,by simp only;omega,Le.of_eq (by simp only[x7u,x7n];rfl)⟩)
     | (have l:comB b.s.p O[q]=false:=by assumption
        exact⟨(q+1,o),⟨B,by simp only;rw[g,z0u,z0j (by rw[l];decide),w];simp,by simp only;omega⟩,by simp only;omega,Le.of_eq rfl⟩)
   ·rw[x7a B]at w;have y:o=q4p b.s.p t f O:=by rw[w,v];rfl
    subst y;conv=>whnf
    repeat' (apply bD<;>intro _<;>first|omega|conv=>whnf)
    all_goals exact x9h _ (x8z _) (OneRow.str rfl)
def q1u:Str:=[36,114,101,116]
def caI(p:Pg)(t:S):Int:=idxF (fun f=>f.name==t.D) p.A
def caP(p:Pg)(t:S):Pr:=p.A.getD (caI p t).toNat Pr0
def caO(b:Book)(t:S):List Str:=b.Q.getD (caI b.s.p t).toNat []
def MY(b:Book)(t:S):List Str:=if t.kind=1 then [t.name]else if t.kind=2 then [t.name,GM]else if t.kind=9 then [q1u]else if t.kind=4 then q4p b.s.p t (caP b.s.p t) (caO b t)else []
structure CallOk(b:Book)(t:S):Prop where
 i0:0<=caI b.s.p t
 i1:(caI b.s.p t).toNat<b.s.p.A.length
 io:b.s.p.A.length<=b.Q.length
 rise:(caO b t).Pairwise ltT
 len:(caO b t).length<=1000000
 args:t.args.length<=(caP b.s.p t).C.length
 al:t.args.length<=1000000
theorem A5{b:Book}{t:S}(h:CallOk b t):SpecH prog 163 ([AV.ip b.cells,.agg t.cells].map .p) [] (OneRow (Kx (q4p b.s.p t (caP b.s.p t) (caO b t))) False):=by
 have i:=h.i1;have k:=h.io;refine Wf b t (caI b.s.p t).toNat (caP b.s.p t) (caO b t) ?_ ?_ ?_ h.rise h.len h.args h.al
 ·rw[z0f h.i0];rfl
 ·unfold caP;rw[x7w,x7x i];rfl
 ·unfold caO;rw[x7w,x7x (by omega)];rfl
theorem K1(b:Book)(t:S)(k:t.kind=4->CallOk b t):SpecH prog 95 [.p (.ip b.cells),.p (.agg t.cells)] [] (fun r H=>OneRow (Kx (MY b t)) (MY b t=[]) r H):=by
 refine sH Wq func95 rfl call95 ?_;conv=>whnf
 have l:=fun h=>A5 (k h);repeat' (first|((first|refine x7g rfl ?_|refine aD ?_|refine z3o (fun x i=>by rcases x7y.1 i with rfl;rfl) rfl ?_|refine z3o (fun x i=>by rcases x7f.1 i with rfl|i;rfl;rcases x7y.1 i with rfl;rfl) rfl ?_|(refine UJ 0 rfl (l (by assumption)) (.cons (.p (Sub.refl _)) (.cons (.p (Sub.refl _)) .nil)) (fun h=>h.elim) ?_;rintro _ _ _ _ ⟨rfl,rfl,rfl⟩));conv=>whnf)|(apply bD<;>intro _<;>first|omega|conv=>whnf))
 ·rw[show MY b t=[t.name] by unfold MY;rw[if_pos (by assumption)]];exact x9h _ (x8z _) (UG (L:=[t.name]) rfl)
 ·rw[show MY b t=[t.name,GM] by unfold MY;rw[if_neg (by assumption),if_pos (by assumption)]];exact x9h _ (x8z _) (UG (L:=[t.name,GM]) rfl)
 ·rw[show MY b t=[q1u] by unfold MY;rw[if_neg (by assumption),if_neg (by assumption),if_pos (by assumption)]];exact x9h _ (x8z _) (UG (L:=[q1u]) rfl)
 ·rw[show MY b t=q4p b.s.p t (caP b.s.p t) (caO b t) by unfold MY;rw[if_neg (by assumption),if_neg (by assumption),if_neg (by assumption),if_pos (by assumption)]];exact x9h _ (x8z _) (UG (by rw[x7z]))
 ·exact x9h _ (x8z _) (.inl ⟨rfl,rfl,by unfold MY;rw[if_neg (by assumption),if_neg (by assumption),if_neg (by assumption),if_neg (by assumption)]⟩)
def outB(p:Pg)(f:Pr)(n:Str):Bool:=comB p n||decide ((⟨n,true⟩:Param)∈f.C)
def FJ(D:List (List Str))(id:Int):List Str:=D.getD (id-1).toNat []
def x0n(p:Pg)(i:Nat)(f:Pr)(D:List (List Str))(it:Item):List Str:=bif (newWay p i f).live.getD (ixI p i f it.s.id).toNat false then(FJ D it.s.id).filter (outB p f)else []
def L6(p:Pg)(i:Nat)(f:Pr)(D:List (List Str))(h:List Item):List Str:=h.flatMap (x0n p i f D)
def EZ{p:Pg}{i:Nat}{f:Pr}{h:List Item}{k:Nat}(l:k<h.length):L6 p i f D (h.take (k+1))=L6 p i f D (h.take k)++x0n p i f D h[k]:=by
 unfold L6;rw[x7r l,z1b];simp
def Ta{p:Pg}{i:Nat}{f:Pr}(l:∀d∈D,d.length<=1000)(k:List Item):(L6 p i f D k).length<=k.length*1000:=by
 refine WI k fun it _=>?_;unfold x0n;cases(newWay p i f).live.getD (ixI p i f it.s.id).toNat false with
 |false=>exact x7p _
 | true=>
   refine x8m (x9n _ _) ?_;unfold FJ;rcases x7m (it.s.id-1).toNat D.length with h|h
   .rw [x7w,x7x h];exact l _ (x7l h)
   .rw [x7w,x9z h];exact x7p _
theorem K2(b:Book)(p:Pg)(V:b.s=sheetOf p)(h:chkB p=true)(i:Nat)(f:Pr)(F:p.A[i]?=some f)(hW:b.ways[i]?=some (newWay p i f))(hD:b.N.length=(sheetOf p).l.length)(T:∀d∈b.N,d.length<=1000):SpecH prog 96 [.p (.ip b.cells),.j i] [] (fun r H=>OneRow (Kx (L6 p i f b.N (itsOf p i f))) False r H):=by
 refine sH Wx func96 rfl call96 ?_;conv=>whnf
 obtain⟨P,_,_,U,hs⟩:=QU p;obtain⟨s1,s2,s3,Y⟩:=hs i f F;have hcn:=(XQ h).2.2;have J:=LD (sheetOf p) i (QP p.A i) (QP p.A i+cntL f.body) s1 s2 (by omega) (by omega) (by omega);rw[Y]at J;have Q:itL (i:Nat) 0 (-1) 0 (QP p.A i) f.body=itsOf p i f:=rfl;rw[Q,<-V]at J;have E:b.s.p=p:=by rw[V,P]
 have e:=fun x=>HE b x;rw[E]at e;have K:(b.s.p.A.map fun f=>AV.agg f.cells)[i]?=some (.agg f.cells):=by rw[E,x7k,F];rfl
 have L:(b.ways.map fun w=>AV.ip w.cells)[i]?=some (.ip (newWay p i f).cells):=by rw[x7k,hW];rfl
 have hIl:((itsOf p i f).map fun i=>AV.agg i.cells).length=(itsOf p i f).length:=x7z _;have hil:(itsOf p i f).length<=200:=by
  have R:=x9l length Y;rw[Q,x9i,x8q]at R;omega
 have B:∀k,(L6 p i f b.N ((itsOf p i f).take k)).length<=200*1000:=fun k=>by
  have R:=Ta (p:=p) (i:=i) (f:=f) T ((itsOf p i f).take k);have h2:((itsOf p i f).take k).length*1000<=200*1000:=x9x _ (by rw[x8q];omega);omega
 repeat' ((first|(refine iM fun _=>?_)|refine x7g rfl ?_|(refine IdxK.at (k:=i) rfl K rfl ?_)|refine cP J ?_);conv=>whnf)
 refine LoopK.inv QV (fun k:Nat=>⟨[(0,.p (.ip b.cells)),(1,.j i),(5,.hd 0 0 (L6 p i f b.N ((itsOf p i f).take k)).length),(6,.p (.ip f.cells)),(27,.p (VL (itsOf p i f))),(28,.p (.int .i64 ((itsOf p i f).map fun i=>AV.agg i.cells).length)),(29,.j k)],[(0,.own 9 1 ((L6 p i f b.N ((itsOf p i f).take k)).map .str))]⟩) (fun k=>k<=(itsOf p i f).length) (fun k=>(itsOf p i f).length-k) 0
  (Le.mk [(0,.own 9 1 [])] (by simp[Chunk.new0];rfl) (by simp) (by simp) (.r (.r (.cons (.nil x7v) (.r (.r (.r (.r .nil))))))) (.new x7v .nil)) (x7p _) ?_
 intro k hk;have hak:=B k;rcases x7m k (itsOf p i f).length with m|m;rotate_left 1
 ·rw[x7a m];conv=>whnf
  repeat' (apply bD<;>intro _<;>first|omega|conv=>whnf)
  all_goals exact x9h _ (x8z _) (OneRow.str rfl)
 have u:=EZ (p:=p) (i:=i) (f:=f) (D:=b.N) m;have hb:=ZS (QY h).1 F (KM (x7l m));have I:=B3 p i f h F (itsOf p i f)[k].s.id (.inr (.inr hb));have O:x0n p i f b.N (itsOf p i f)[k]=bif (newWay p i f).live.getD (ixI p i f (itsOf p i f)[k].s.id).toNat false then(FJ b.N (itsOf p i f)[k].s.id).filter (outB p f)else []:=rfl;have v:((itsOf p i f)[k].s.id-1).toNat<b.N.length:=by omega
 have M:(b.N.map eStrs)[((itsOf p i f)[k].s.id-1).toNat]?=some (eStrs (FJ b.N (itsOf p i f)[k].s.id)):=by
  unfold FJ;rw[x7k,x7w,x7x v];rfl
 have hDl:(FJ b.N (itsOf p i f)[k].s.id).length<=1000:=by
  unfold FJ;rw[x7w,x7x v];exact T _ (x7l v)
 generalize(newWay p i f).live.getD (ixI p i f (itsOf p i f)[k].s.id).toNat false=lv at*
 rw[O]at u;generalize FJ b.N (itsOf p i f)[k].s.id=D at*
 generalize L6 p i f b.N ((itsOf p i f).take k)=acc at*
 have hDm:(D.map AV.str).length=D.length:=x7z _;cases lv;all_goals
  conv=>whnf
  repeat' (first|((first|(refine iM fun _=>?_)|refine dA ?_|refine x7g rfl ?_|(refine iA fun _=>?_)|refine wI ?_|(refine IdxK.at (k:=i) rfl L rfl ?_)|refine cP I ?_|(refine IdxK.at (k:=((itsOf p i f)[k].s.id-1).toNat) (by omega) M rfl ?_));conv=>whnf)|(apply bD<;>intro _<;>first|omega|conv=>whnf)|(apply bN<;>intro _<;>conv=>whnf))
 all_goals first
  |contradiction
  |exact⟨k+1,m,by omega,Le.of_eq (by rw[u,x7o,x9q];rfl)⟩
  |skip
 all_goals
  rw[x7c]at u;refine LoopK.inv QV (fun x:Nat×List Str=>⟨[(0,.p (.ip b.cells)),(1,.j i),(5,.hd 0 0 x.2.length),(6,.p (.ip f.cells)),(27,.p (VL (itsOf p i f))),(28,.p (.int .i64 ((itsOf p i f).map fun i=>AV.agg i.cells).length)),(29,.j k),(54,.p (eStrs D)),(55,.p (.int .i64 (D.map AV.str).length)),(56,.j x.1)],[(0,.own 9 1 (x.2.map .str))]⟩) (fun x=>x.1<=D.length/\x.2=acc++(D.take x.1).filter (outB p f)/\x.2.length<=acc.length+x.1) (fun x=>D.length-x.1) (0,acc) (Le.of_eq rfl) ⟨x7p _,by simp,by simp⟩ ?_;rintro⟨q,o⟩ ⟨Z,z,h6⟩;simp only at Z z h6⊢;rcases x7m q D.length with a|a
  ·have y:=x7r a;have G:=e D[q];have g:=WE f.C ⟨D[q],true⟩;have t:outB p f D[q]=(comB p D[q]||decide ((⟨D[q],true⟩:Param)∈f.C)):=rfl;generalize hdc:decide ((⟨D[q],true⟩:Param)∈f.C)=dc at g t;conv=>whnf
   repeat' (first|((first|refine x7g rfl ?_|refine aD ?_|refine bP ?_|(refine iA fun _=>?_)|refine wI ?_|refine cP G ?_|(refine CallK.pure g (.cons (Sub.refl _) (.cons (Sub.agg (.cons (Sub.refl _) (.cons (Sub.tt rfl) .nil))) .nil)) ?_;rintro _ rfl)|refine QO (by simp) (by rw[x7z];omega) ?_);conv=>whnf)|(apply bD<;>intro _<;>first|omega|conv=>whnf)|(apply bB<;>intro _<;>conv=>whnf))
   all_goals first
    | (have c:outB p f D[q]=true:=by rw[t,show comB p D[q]=true by assumption];rfl
       exact⟨(q+1,o++[D[q]]),⟨a,by simp only;rw[y,z0u,z0x c,z,x8w];rfl,by simp;omega⟩,by simp only;omega,Le.of_eq (by simp only[x7u,x7n];rfl)⟩)
    | (have c:outB p f D[q]=true:=by rw[t,show dc=true by assumption,Bool.or_true]
       exact⟨(q+1,o++[D[q]]),⟨a,by simp only;rw[y,z0u,z0x c,z,x8w];rfl,by simp;omega⟩,by simp only;omega,Le.of_eq (by simp only[x7u,x7n];rfl)⟩)
    | (have c:outB p f D[q]=false:=by rw[t,show comB p D[q]=false by assumption,show dc=false by assumption];rfl
       exact⟨(q+1,o),⟨a,by simp only;rw[y,z0u,z0j (by rw[c];decide),z];simp,by simp only;omega⟩,by simp only;omega,Le.of_eq rfl⟩)
  ·rw[x7a a,<-u]at z;subst z;conv=>whnf
   repeat' (first|(refine wI ?_;conv=>whnf)|(apply bD<;>intro _<;>first|omega|conv=>whnf))
   all_goals exact⟨k+1,m,by omega,Le.of_eq rfl⟩
theorem Eh(x:X):SpecH prog 167 ([AV.agg x.cells].map .p) [] (OneRow (Kx (XP x)) (XP x=[])):=by
 refine sH Zh func167 rfl call167 ?_;conv=>whnf
 repeat' (first|(refine cP (KF _) ?_;conv=>whnf)|(apply bN<;>intro _<;>conv=>whnf))
 ·refine CallK.nil 5 9 1 rfl (.cons rfl (.row .nil)) ?_;refine cJ [(2000,5)] 0 (Jh 20 (by omega) x (by assumption) [] (by simp)) ?_;rintro l' H' ⟨rfl,rfl⟩;conv=>whnf
  have e:XP x=N4 x []:=by
   unfold XP;rw[show CX x=true by assumption];rfl
  rw[e];exact x9h _ (x8z _) (NY rfl)
 ·have e:XP x=[]:=by
   unfold XP;rw[show CX x=false by assumption];rfl
  exact x9h _ (x8z _) (.inl ⟨rfl,rfl,e⟩)
def usA(a:Arg):List Str:=(if a.ref=true then [a.name]else [])++XP a.x
def inAt(b:Book)(t:S):List Str:=b.ins.getD (caI b.s.p t).toNat []
def S6(t:S):List Str:=XP t.x++(if t.kind=2 then [GM]else [])
def MZ(b:Book)(t:S):List Str:=if t.kind=4 then S6 t++t.args.flatMap usA++inAt b t else S6 t
theorem IY(a:Arg):(usA a).length<=1048577:=by
 have:=VK a.x;unfold usA;rw[x7u];split<;>simp<;>omega
theorem S7(t:S):(S6 t).length<=1048577:=by
 have:=VK t.x;unfold S6;rw[x7u];split<;>simp<;>omega
def CQ(t:S)(j:Nat):List Str:=S6 t++(t.args.take j).flatMap usA
theorem O2(t:S)(ha:t.args.length<=21000):(CQ t j).length<=23000000000:=by
 have h:=S7 t;have i:=HZ IY (t.args.take j);have k:(t.args.take j).length*1048577<=21000*1048577:=x9x _ (by simp;omega);unfold CQ;simp only[x7u];omega
def CS{t:S}(h:j<t.args.length):CQ t (j+1)=CQ t j++usA t.args[j]:=by
 unfold CQ;rw[x7r h,z1b,x8w];simp
theorem OneRow.es{L:List Str}{es:List AV}{n:Nat}{nil:Prop}(i:es=L.map .str)(h:n=L.length):OneRow (Kx L) nil (.hd 0 0 n) [(0,.own 9 1 es)]:=by
 subst i;exact UG h
structure UseOk(b:Book)(t:S):Prop where
 i0:0<=caI b.s.p t
 ii:(caI b.s.p t).toNat<b.ins.length
 al:t.args.length<=21000
 len:(inAt b t).length<=1000000
theorem K3(b:Book)(t:S)(g:t.kind=4->UseOk b t):SpecH prog 98 [.p (.ip b.cells),.p (.agg t.cells)] [] (fun r H=>OneRow (Kx (MZ b t)) (MZ b t=[]) r H):=by
 refine sH Wz func98 rfl call98 ?_;conv=>whnf
 have C:=Eh t.x;have c:=HA b t;have B:idxF (fun f=>f.name==t.D) b.s.p.A=caI b.s.p t:=rfl;rw[B]at c;have J:=VK t.x;conv=>whnf
 refine UJ 0 rfl C (.cons (.p (Sub.refl _)) .nil) (fun l=>?_) (fun q e sz es E=>?_);rotate_left;obtain⟨rfl,rfl,rfl⟩:=E
 rotate_right
 all_goals
  conv=>whnf
  repeat' (first|((first|(refine iM fun _=>?_)|refine x7g rfl ?_|refine aD ?_|refine bP ?_|refine QO (es:=[]) rfl (by simp) ?_|refine QO (by simp) (by simp;omega) ?_);conv=>whnf)|(apply bD<;>intro _<;>first|omega|conv=>whnf)|(apply bE<;>intro _<;>first|omega|conv=>whnf))
 ·have e:MZ b t=[GM]:=by unfold MZ S6;rw[if_neg (by assumption),if_pos (by assumption),l];rfl
  rw[e];exact x9h _ (x8z _) (UG (L:=[GM]) rfl)
 rotate_left
 ·have e:MZ b t=[]:=by unfold MZ S6;rw[if_neg (by assumption),if_neg (by assumption),l];rfl
  exact x9h _ (x8z _) (.inl ⟨rfl,rfl,e⟩)
 ·have e:MZ b t=XP t.x++[GM]:=by unfold MZ S6;rw[if_neg (by assumption),if_pos (by assumption)]
  rw[e];exact x9h _ (x8z _) (OneRow.es (by rw[x7n];rfl) (by simp))
 rotate_left
 ·have e:MZ b t=XP t.x:=by unfold MZ S6;rw[if_neg (by assumption),if_neg (by assumption),x9q]
  rw[e];exact x9h _ (x8z _) (OneRow.es rfl (by simp))
 all_goals
  have o:t.kind=4:=by assumption
  have v:=g o;have z:CQ t 0=XP t.x:=by unfold CQ S6;rw[if_neg (by omega),List.take_zero,z3i,x9q,x9q]
  have M:(t.args.map fun a=>AV.agg a.cells).length=t.args.length:=x7z _;have F:(b.ins.map eStrs)[(caI b.s.p t).toNat]?=some (eStrs (inAt b t)):=by
   unfold inAt;rw[x7k,x7w,x7x v.ii];rfl
  have hi0:=v.i0;have G:=v.len;have w:=v.al;refine LoopK.inv QV (fun j:Nat=>⟨[(0,.p (.ip b.cells)),(3,.p (.ip t.cells)),(5,.hd 0 0 (CQ t j).length),(22,.p (.sl (t.args.map fun a=>.agg a.cells))),(23,.p (.int .i64 (t.args.map fun a=>AV.agg a.cells).length)),(24,.j j)],[(0,.own 9 1 ((CQ t j).map .str))]⟩) (fun j=>j<=t.args.length) (fun j=>t.args.length-j) 0 ?_ (x7p _) ?_
  ·first
    | (rw[z,l]
       exact Le.mk [(0,.own 9 1 [])] (by simp[Chunk.new0];rfl) (by simp) (by simp) (.r (.r (.cons (.nil x7v) (.r (.r (.r .nil)))))) (.new x7v .nil))
    | (rw[z]
       exact Le.of_eq (by rw[x7z];rfl))
  intro j K;have d:=O2 t (j:=j) w;have m:t.args.length<=j->MZ b t=CQ t j++inAt b t:=fun h=>by
   unfold MZ CQ;rw[if_pos o,x7a h]
  have u:=fun h=>CS (t:=t) (j:=j) h;generalize CQ t j=acc at*
  rcases x7m j t.args.length with i|i
  ·have I:=VK t.args[j].x;conv=>whnf
   repeat' (first|((first|refine cP (Zq _) ?_|refine x7g rfl ?_|refine aD ?_|refine bP ?_|(refine iA fun _=>?_)|refine wI ?_|refine KS _ (by simp) (by simp;omega) ?_|refine QO (by simp) (by simp;omega) ?_);conv=>whnf)|(apply bD<;>intro _<;>first|omega|conv=>whnf)|(apply bB<;>intro _<;>conv=>whnf))
   all_goals
    refine⟨j+1,i,by omega,Le.of_eq ?_⟩;first
     | (have y:usA t.args[j]=[t.args[j].name]++XP t.args[j].x:=by rw[usA,if_pos (by assumption)]
        rw[u i,y];simp only[x7u,x7n,x7z,<-x8w,<-z0l];rfl)
     | (have y:usA t.args[j]=XP t.args[j].x:=by rw[usA,if_neg (by rw[show t.args[j].ref=false by assumption];decide)];rfl
        rw[u i,y];simp only[x7u,x7n,x7z];rfl)
  ·rw[m i];conv=>whnf
   repeat' (first|((first|refine dA ?_|refine aD ?_|refine cP c ?_|(refine IdxK.at (k:=(caI b.s.p t).toNat) (by omega) F rfl ?_)|refine KS _ (by simp) (by simp;omega) ?_);conv=>whnf)|(apply bD<;>intro _<;>first|omega|conv=>whnf))
   all_goals exact x9h _ (x8z _) (OneRow.es (by rw[x7n]) (by simp))
def YT(w:Way)(f:Pr):List (Int×Int):=(LK w f).map (ixP w.p w.j f w.n)
theorem RK(w:Way)(f:Pr)(n:Nat)(h:WayT w f n)(E:∀t∈YT w f,(0<=t.1/\t.1<n)/\0<=t.2/\t.2<n)(l:(LK w f).length<=1000000):SpecP prog 169 [.ip w.cells] (fun r=>r=eMat (Q2 n (YT w f))):=by
 refine sB F5 func169 rfl call169 ?_;conv=>whnf
 have G:=h.hw;have C:=h.hn;have B:=h.hn2;have g:=W6 w f n h;have d:=JU w f h.hj h.hc (by omega) (LK w f) l;have F:(avP (YT w f)).length=(YT w f).length:=by unfold avP;rw[x7z]
 have e:(YT w f).length<=1000000:=by unfold YT;rw[x7z];exact l
 have z:(LK w f).map (ixP w.p w.j f w.n)=YT w f:=rfl;rw[z]at d;repeat' ((first|(refine iM fun _=>?_)|refine aR ?_|refine z2b n (by omega) (by show 24*_<=140737488355328;omega) (by unfold maxLen;omega) ?_|refine cP g ?_|refine cP d ?_);conv=>whnf)
 refine LoopK.inv QV (fun j:Nat=>⟨[(3,.hd 0 0 n),(14,.p (.sl (avP (YT w f)))),(15,.p (.int .i64 (avP (YT w f)).length)),(16,.j j)],[(0,.ext (.mat 54 3 1 (avI (Q2 n ((YT w f).take j))) []))]⟩) (fun j=>j<=(YT w f).length) (fun j=>(YT w f).length-j) 0
  (by
    refine Le.trans (Ek n rfl) ?_;exact Le.mk [] (by simp) (by simp) (by simp) (.r (.r (.r (.r .nil)))) (.cons rfl (.of_eq (by simp[avI,Q2])) .nil)) (x7p _) ?_
 intro j M;rcases x7m j (YT w f).length with u|u
 ·have q:(avP (YT w f))[j]?=some (.agg [.int .i64 (YT w f)[j].1,.int .i64 (YT w f)[j].2]):=by simp[avP,u]
  obtain⟨⟨I,J⟩,K,L⟩:=E _ (x7l u);have s:Q2 n ((YT w f).take (j+1))=nxE (Q2 n ((YT w f).take j)) (YT w f)[j]:=by
   unfold Q2;rw[x7r u,z2h];rfl
  have c:=Ys n ((YT w f).take j);have i:=Nt n ((YT w f).take j) (YT w f)[j].1.toNat;generalize(YT w f)[j]=t at q I J K L s i;generalize Q2 n ((YT w f).take j)=rows at s c i⊢;obtain⟨a,ha⟩ : ∃a:Nat,t.1=a:=⟨t.1.toNat,by omega⟩;have o:a<rows.length:=by omega
  have m:(avI rows)[a]?=some (rows[a].map (.int .i64)):=by unfold avI;rw[x7k,x7x o];rfl
  have v:(avI rows).set a (rows[a].map (.int .i64)++[.int .i64 t.2])=avI (nxE rows t):=by
   unfold nxE avI;rw[ha,z0h,x7w,x7x o,x9u,x8o,x7n];rfl
  have A:rows[a].length<=1000000:=by
   rw[ha,z0h,x7w,x7x o,x9u,x8q]at i;omega
  rw[ha]at q;conv=>whnf
  repeat' (first|((first|refine x7g rfl ?_|refine aD ?_|refine wI ?_|refine DrawK.of QV mixed (.cons 0 false (.cons 1 false (.cons 2 false (.cons 3 false (.cons 4 false (.cons 5 false (.cons 6 false (.cons 8 false (.cons 9 false (.alo 7 (.cons 10 true (.cons 11 true (.cons 12 true (.cons 13 true .nil)))))))))))))) (by kernel_rfl) ?_|(refine IdxK.at (k:=j) rfl q rfl ?_)|refine x8p 0 rfl (by decide) ?_|refine x8p 1 rfl (by decide) ?_|refine x8p a rfl (by omega) ?_|refine RowK.mk a _ (by omega) m (by simp) ?_|refine z3o (fun x H=>by rcases x7y.1 H with rfl;rfl) rfl ?_|refine OpK.focus QV 27 0 a 2 rfl rfl m (by simp) rfl rfl ?_|refine XX rfl (by rw[x7z];omega) ?_|(refine FR QV rfl rfl rfl rfl rfl rfl rfl rfl rfl (by decide) a [] (by omega) (by unfold avI;rw[x7z];omega) (by simp) ⟨by simp,by simp,by simp⟩ ?_));conv=>whnf)|(apply bD<;>intro _<;>first|omega|conv=>whnf))
  all_goals exact⟨j+1,u,by omega,Le.of_eq (by rw[s,<-v];rfl)⟩
 ·have b:(YT w f).take j=YT w f:=x7a u;rw[b];have y:=Ys n (YT w f);conv=>whnf
  repeat' (apply bD<;>intro _<;>first|omega|conv=>whnf)
  exact⟨_,.mat rfl (by unfold avI;rw[x7z,y]),rfl⟩
section
variable {p:Pg}{j:Nat}{f:Pr}
def dR(p:Pg)(j:Nat)(f:Pr):Int->Int->Prop:=stR (LK (newWay p j f) f)
def Ay(h:chkB p=true)(k:p.A[j]?=some f){a b:Int}:dR p j f a b↔wR p j f a b\/∃l∈trapsW (newWay p j f) f,∃t∈flL f.body,t.id∈l/\t.kind=10/\a=t.id/\b = -1:=by
 constructor
 .rintro ⟨s,r,rfl,rfl⟩;rcases x7b.1 ((DK (Fu h k)).2.1 s r)with m|m
  .obtain ⟨l,q,t,u,i,o,rfl⟩:=(Qg h k).1 m;exact .inr ⟨l,q,t,u,i,o,rfl,rfl⟩
  .exact .inl ⟨s,m,rfl,rfl⟩
 .rintro (⟨s,r,rfl,rfl⟩|⟨l,q,t,u,i,o,rfl,rfl⟩)
  .exact Ak h k (x7b.2 (.inr r))
  .exact Ak h k (s:=⟨t.id,-1,3⟩) (x7b.2 (.inl ((Qg h k).2 ⟨l,q,t,u,i,o,rfl⟩)))
def Aj(h:chkB p=true)(i:p.A[j]?=some f){a b:Int}(m:dR p j f a b):plP p j f a/\plP p j f b:=by
 have l:x1d p j f a b:=by
  rcases(Ay h i).1 m with k|k
  .exact (CL h i).2 (.inl k)
  .exact (CL h i).2 (.inr (.inr (.inl k)))
 exact⟨(q8m h i l).1,(q8m h i l).2.1⟩
def HD(h:chkB p=true)(l:p.A[j]?=some f):∀t∈YT (newWay p j f) f,(0<=t.1/\t.1<(cntL f.body+2:Nat))/\0<=t.2/\t.2<(cntL f.body+2:Nat):=fun t o=>by
 obtain⟨s,m,rfl⟩:=x7d.1 o;obtain⟨i,k⟩:=Aj h l ⟨s,m,rfl,rfl⟩;exact⟨WS i,WS k⟩
def TY(h:chkB p=true)(t:p.A[j]?=some f){a b:Int}(ha:plP p j f a)(r:plP p j f b):(ixI p j f a,ixI p j f b)∈YT (newWay p j f) f↔dR p j f a b:=by
 constructor
 .intro m;obtain⟨s,i,k⟩:=x7d.1 m;obtain⟨o,q⟩:=Aj h t ⟨s,i,rfl,rfl⟩;have l:ixI p j f s.src=ixI p j f a:=x9l Prod.fst k;have e2:ixI p j f s.dst=ixI p j f b:=x9l Prod.snd k;exact⟨s,i,PH o ha l,PH q r e2⟩
 .rintro ⟨s,i,rfl,rfl⟩;exact x7d.2 ⟨s,i,rfl⟩
end


section
variable {p:Pg}{j:Nat}{f:Pr}
def Oi{t:S}(h:t∈flL f.body):∃x∈flatU f,x.s=t:=by
 rw[<-show(flatU f).map RI.s=flL f.body from R4 1 0 false f.body]at h;exact x7d.1 h
end
theorem Hb{l:List Str}:ZD l=false↔l.Nodup:=by
 refine⟨Do,fun h=>?_⟩;unfold ZD;rw[z2k];intro i o;rw[x8n]at o;rw[z2p,z2k];intro s r m;rw[x7x o]at m;have m:l[i]=s:=eq_of_beq m;obtain⟨k,q,rfl⟩:=x9s.1 r;rw[x8q]at q;rw[List.getElem_take]at m;have:=(List.getElem_inj h).1 m;omega
theorem NL:∀(l seen:List Str),seen.Nodup->((VT seen l).isSome=true↔(seen++l).Nodup)
 |[],seen,h=>by rw[VT,x9q];exact⟨fun _=>h,fun _=>rfl⟩
 | n::r,seen,h=>by
   rw[VT];cases m:(seen.any fun s=>n==s)with
   | true=>
     rw[x7c];obtain⟨s,w,i⟩:=x8e.1 m;have i:n=s:=eq_of_beq i;refine⟨fun h=>by(cases h),fun k=>?_⟩;rw[x9k]at k;exact absurd rfl (k.2.2 s w n x7v |> fun t=>i▸t)
   | false=>
     rw[x7o];have v:n∉seen:=fun u=>by
      have:=z2k.1 m n u;simp at this
     have o:(seen++[n]).Nodup:=by
      rw[x9k];exact⟨h,by simp,fun a ha b q e=>v (by rw[<-x7y.1 q,<-e];exact ha)⟩
     rw[NL r (seen++[n]) o,x8w];rfl
theorem Nh(f:Pr):∀(its:List Item)(seen:List Str),seen.Nodup->((∃s,YR f its seen=.ok s)↔(∀it∈its,VS f it=true)/\(seen++its.flatMap fun it=>it.s.G).Nodup)
 | [],seen,h=>by
   rw[YR];refine⟨fun _=>⟨fun _ u=>(by cases u),by simpa using h⟩,fun _=>⟨seen,rfl⟩⟩
 | it::r,seen,h=>by
   have m:=NL it.s.G seen h;rw[YR];cases o:VT seen it.s.G with
   | none=>
     rw[o]at m;refine⟨fun⟨s,q⟩=>by(cases q),fun⟨_,i⟩=>?_⟩;have:(seen++it.s.G).Nodup:=by
      rw[x9v,<-x8w]at i;exact(x9k.1 i).1
     have:=m.2 this;cases this
   | some s=>
     obtain rfl:=LC o;rw[o]at m;have v:=m.1 rfl;simp only;cases t:VS f it with
     | false=>
       rw[x7o];refine⟨fun⟨s,q⟩=>by(cases q),fun⟨k,_⟩=>?_⟩;have:=k it x7v;rw[t]at this;cases this
     | true=>
       rw[x7c,Nh f r _ v,x9v,x8w];constructor
       .rintro ⟨k,i⟩;refine⟨fun x l=>?_,i⟩;rcases x7f.1 l with rfl|l
        .exact t
        .exact k x l
       .rintro ⟨k,i⟩;exact⟨fun x l=>k x (x7j _ l),i⟩
theorem Gw(f:Pr):∀(its:List Item)(seen s:List Str),YR f its seen=.ok s->s=seen++its.flatMap fun it=>it.s.G
 |[],seen,s,h=>by rw[YR]at h;cases h;simp
 | it::r,seen,s,h=>by
   rw[YR]at h;cases i:VT seen it.s.G with
   |none=>rw[i]at h;cases h
   | some l=>
     obtain rfl:=LC i;rw[i]at h;simp only at h;cases k:VS f it with
     |false=>rw[k]at h;cases h
     | true=>
       rw[k,x7c]at h;rw[Gw f r _ s h,x9v,x8w]
def Rz(f:Pr):List Str:=(flL f.body).flatMap S.G++f.fin
def E3(p:Pg)(j:Nat)(f:Pr):Prop:=(∀it∈itsOf p j f,VS f it=true)/\(Rz f).Nodup
def Gx(p:Pg)(j:Nat)(f:Pr):((itsOf p j f).flatMap fun it=>it.s.G)=(flL f.body).flatMap S.G:=by
 unfold itsOf;rw[<-BI (j:Nat) 0 (-1) 0 (QP p.A j) f.body,List.flatMap_map]
def Gz{p:Pg}{f:Pr}(v:p.A[j]?=some f):YZ p j=none↔E3 p j f:=by
 unfold YZ E3 Rz;rw[v];simp only;have i:=Nh f (itsOf p j f) [] z3c;rw[z0i,Gx]at i;have t:YR f (itL (j:Nat) 0 (-1) 0 (QP p.A j) f.body) []=YR f (itsOf p j f) []:=rfl;rw[t];cases r:YR f (itsOf p j f) []with
 | error id=>
   rw[r]at i;refine⟨fun h=>by(cases h),fun⟨o,q⟩=>?_⟩;obtain⟨s,l⟩:=i.2 ⟨o,(x9k.1 q).1⟩;cases l
 | ok seen=>
   rw[r]at i;have l:=Gw f _ _ _ r;rw[z0i,Gx]at l;obtain⟨o,q⟩:=i.1 ⟨seen,rfl⟩;have m:=NL f.fin seen (by rw[l];exact q);simp only;rw[<-l];cases k:VT seen f.fin with
   | none=>
     rw[k]at m;refine⟨fun h=>by(cases h),fun⟨_,u⟩=>?_⟩;have:=m.2 u;cases this
   | some s=>
     rw[k]at m;exact⟨fun _=>⟨o,m.1 rfl⟩,fun _=>rfl⟩
theorem Tg{p:Pg}(o:(QI p).1=0):(BO p).1=0 ↔ ∀j f,p.A[j]?=some f->E3 p j f:=by
 unfold BO;rw[if_neg (by omega)];cases l:(List.range p.A.length).findSome? (YZ p)with
 | some a=>
   refine⟨fun h=>by simp at h,fun h=>?_⟩;obtain⟨j,i,m⟩:=List.exists_of_findSome?_eq_some l;rw[x8n]at i;have:=(Gz (x7x i)).2 (h j _ (x7x i));rw[this]at m;cases m
 | none=>
   refine⟨fun _ j f i=>?_,fun _=>rfl⟩;have k:j<p.A.length:=(x7h.1 i).1;exact(Gz i).1 (z1t.1 l j (x8n.2 k))
def allV(p:Pg)(f:Pr):List Str:=p.B++Qb f
structure ScopeOK(p:Pg)(f:Pr):Prop where
 nd:(allV p f).Nodup
 kn:∀t∈flL f.body,knownB p f (procsN p) t=true
def J8{p:Pg}{f:Pr}(u:ZD p.B=false):WN p f=none↔ScopeOK p f:=by
 unfold WN;have o:(ZD (Qb f)||(Qb f).any (fun n=>p.B.any fun s=>n==s))=false↔(allV p f).Nodup:=by
  unfold allV;rw[z1l,Hb,x9k,z2k];have i:=Hb.1 u;constructor
  .rintro ⟨a,b⟩;refine⟨i,a,fun x l y m e=>b y m ?_⟩;rw[x8e];exact⟨x,l,by rw[e];exact x9o _⟩
  .rintro ⟨_,a,b⟩;refine⟨a,fun y m v=>?_⟩;obtain⟨x,l,r⟩:=x8e.1 v;exact b x l y m (eq_of_beq r).symm
 cases q:(ZD (Qb f)||(Qb f).any (fun n=>p.B.any fun s=>n==s))with
 | true=>
   rw[x7c];refine⟨fun h=>by(cases h),fun h=>?_⟩;have:=o.2 h.nd;rw[q]at this;cases this
 | false=>
   rw[x7o,z3n,z0t];constructor
   .exact fun h=>⟨o.1 q,fun t k=>by have:=h t k;simpa using this⟩
   .intro h t k;rw[h.kn t k];decide
def J9{p:Pg}(q:KR p=true):(QI p).1=0↔XI p=false/\∀f∈p.A,ScopeOK p f:=by
 unfold QI;rw[q,x7c];cases k:XI p with
 |true=>rw[x7c];exact⟨fun h=>by simp at h,fun h=>by cases h.1⟩
 | false=>
   have m:ZD p.B=false:=by
    unfold XI at k;rw[z1l]at k;exact k.1
   rw[x7o];cases l:p.A.findSome? (WN p)with
   | some a=>
     refine⟨fun h=>by simp at h,fun h=>?_⟩;obtain⟨f,i,o⟩:=List.exists_of_findSome?_eq_some l;rw[(J8 m).2 (h.2 f i)]at o;cases o
   |none=>exact⟨fun _=>⟨rfl,fun f i=>(J8 m).1 (z1t.1 l f i)⟩,fun _=>rfl⟩
theorem Pz{p:Pg}(q:(QI p).1=0):(VZ p).1=0 ↔ ∀t∈VD p,t.kind=4->FC p t=true:=by
 unfold VZ;rw[if_neg (by omega)];cases k:(VD p).find? fun t=>decide (t.kind=4) && !FC p t with
 | some t=>
   have l:=z0g k;have i:=z1j k;simp only[x7i,x8l,x9r]at i;refine⟨fun h=>by simp at h,fun h=>?_⟩;have:=h t l i.1;rw[i.2]at this;cases this
 | none=>
   refine⟨fun _ t o m=>?_,fun _=>rfl⟩;have:=z0t.1 k t o;simp only[x7i,x8l,x9r,not_and]at this;simpa using this m
theorem CA{p:Pg}(ha:(VZ p).1=0):(GZ p).1=0 ↔ ∀t∈VD p,t.kind=4->ZA t.name (FO p t.D) t.args []=true:=by
 unfold GZ;rw[if_neg (by omega)];cases k:(VD p).find? fun t=>decide (t.kind=4) && !ZA t.name (FO p t.D) t.args []with
 | some t=>
   have l:=z0g k;have i:=z1j k;simp only[x7i,x8l,x9r]at i;refine⟨fun h=>by simp at h,fun h=>?_⟩;have:=h t l i.1;rw[i.2]at this;cases this
 | none=>
   refine⟨fun _ t o m=>?_,fun _=>rfl⟩;have:=z0t.1 k t o;simp only[x7i,x8l,x9r,not_and]at this;simpa using this m
theorem q4s{p:Pg}:chkB p=true↔KR p=true/\(QI p).1=0/\(VZ p).1=0/\(BO p).1=0/\(GZ p).1=0:=by
 refine⟨QY,fun⟨h,k,l,m,i⟩=>?_⟩;unfold chkB q4f;rw[x8l,if_neg (by rw[h];decide),if_neg (by omega),if_neg (by omega),if_neg (by omega)];exact i
def CE{p:Pg}(h:KR p=true):(allR p).map RI.s=VD p:=by
 rw[U3 h];exact q2n p.A
section
variable {p:Pg}{j:Nat}{f:Pr}{n:Str}
end
def q2h{p:Pg}(h:chkB p=true){f:Pr}(o:f∈p.A):∃k,p.A[k]?=some f/\wayO p f.name=some (newWay p k f):=by
 cases l:wayO p f.name with
 | none=>
   exfalso;unfold wayO at l;rw[h,x7c]at l;cases q:p.A.find? (fun g=>g.name==f.name)with
   | none=>
     have:=z0t.1 q _ o;simp at this
   |some g=>rw[q]at l;cases l
 | some w=>
   obtain⟨k,g,i,rfl,_,m,_⟩:=L0 l;have r:g=f:=Ya (Ym h) g (x7t i) f o m;subst r;exact⟨k,i,rfl⟩
def q0o{p:Pg}(h:chkB p=true){id:Int}(l:id∈Xf p 0):∃k f t,p.A[k]?=some f/\t∈flL f.body/\t.id=id/\wayO p (Ff p id).2.1=some (newWay p k f):=by
 have b:=(QY h).1;unfold Xf at l;obtain⟨x,q,rfl⟩:=x7d.1 l;have q:=(x8d.1 q).1;rw[U3 b]at q;obtain⟨g,w,m⟩:=x8h.1 q;rw[<-V5 b w]at m;unfold Ff;cases o:SZ p x.s.id with
 | none=>
   exfalso;unfold SZ at o;have i:=z1t.1 o g w;unfold Oc at i;rw[z3n,z0t]at i;exact i x m (by simp)
 | some y=>
   obtain⟨y,c⟩:=y;unfold SZ at o;obtain⟨f,d,i⟩:=List.exists_of_findSome?_eq_some o;unfold Oc at i;rw[z2t]at i;obtain⟨z,u,v⟩:=i;obtain rfl:z=y:=x9l Prod.fst v;have r:f.name=c:=x9l Prod.snd v;obtain⟨k,a,e⟩:=q2h h d;refine⟨k,f,z.s,a,q5k h a (z0g u),by simpa using z1j u,?_⟩;show wayO p c=_;rw[<-r];exact e
theorem As{p:Pg}(h:chkB p=true){id:Int}(F:1<=id)(G:id<=(sheetOf p).l.length):∃k f it,p.A[k]?=some f/\it∈itsOf p k f/\it.s.id=id/\wayO p (Ff p id).2.1=some (newWay p k f)/\(Ff p id).2.2=true/\x5k p id=(it.next,true):=by
 obtain⟨_,_,_,C,_⟩:=QU p;obtain⟨j,f,m,d,e⟩:=TU p.A (id-1).toNat (by omega);obtain⟨it,u,H⟩:=GD m d e;have N:=Dn h m d e u;have v:it.s.id=id:=by omega
 have z:=(QY h).1;obtain⟨x,E,o⟩:=Oi (KM H);have w:id∈Xf p 0:=by
  unfold Xf;refine x7d.2 ⟨x,x8d.2 ⟨?_,rfl⟩,by rw[o,v]⟩;rw[U3 z];exact x8h.2 ⟨f,x7t m,E⟩
 obtain⟨k,g,t,q,J,K,L⟩:=q0o h w;have O:=ZS z q J;have I:QP p.A k+cntL g.body<=(sheetOf p).l.length:=by
  obtain⟨_,_,_,_,c⟩:=QU p;have:=(c k g q).2.2.1;omega
 obtain⟨M,B,r⟩:=GD q (k:=(id-1).toNat) (by omega) (by omega);rw[u]at B;obtain rfl:=z0m B;refine⟨k,g,it,q,r,v,L,?_,?_⟩
 ·cases a:(Ff p id).2.2 with
  |true=>rfl
  | false=>
    exfalso;unfold Ff at a;cases b:SZ p id with
    |some y=>rw[b]at a;cases a
    | none=>
      unfold SZ at b;have i:=z1t.1 b f (x7t m);unfold Oc at i;rw[z3n,z0t]at i;rw[V5 z (x7t m)]at i;exact i x E (by rw[o,v];simp)
 ·unfold x5k;rw[h,u,z0y F,z0y G];rfl
section
variable {p:Pg}{j:Nat}{f:Pr}
end
section
variable {p:Pg}{j:Nat}{f:Pr}
end
theorem x0h{p:Pg}(h:Fit p){f:Pr}(k:f∈p.A):∀t∈flL f.body,okC t:=fun t m=>by
 have i:=h.pr k;unfold wPr at i;have q:=Pl _ _ m;have s:=RJ t;have u:=BT t.G;have v:=DS t.args;refine⟨by omega,by omega,by omega,fun a ha=>?_⟩;have key:∀(l:List Arg),a∈l->wX a.x<=PV l:=fun l=>by
  induction l with
  |nil=>intro h;cases h
  | cons b r o=>
    intro h;rw[PV];rcases x7f.1 h with rfl|h
    ·omega
    ·have:=o h;omega
 have:=key _ ha;omega
theorem q7k{p:Pg}(h:Fit p)(l:chkB p=true):p.A.length<=1000/\p.B.length<=1000000/\∀f∈p.A,f.F.length<=1000000/\f.fin.length<=1000000/\f.C.length<=1000000/\cntL f.body<=1000000/\∀t∈flL f.body,okC t:=by
 obtain⟨m,o,q⟩:=XQ l;refine⟨by omega,by omega,fun f i=>?_⟩;have k:=h.pr i;unfold wPr at k;have r:=BT f.F;have s:=BT f.fin;have u:=Sq f.C;have v:=Pf f.body;exact⟨by omega,by omega,by omega,by omega,x0h h i⟩
def bkO(p:Pg)(O:List (List Str)):Book:=⟨sheetOf p,[],[],[],[],O⟩
def prA(p:Pg)(i:Nat):Pr:=p.A.getD i Pr0
def W2{p:Pg}{i:Nat}(h:i<p.A.length):p.A[i]?=some (prA p i):=by
 unfold prA;rw[x7w,x7x h];rfl
def UU{p:Pg}{i:Nat}{f:Pr}(h:p.A[i]?=some f):prA p i=f:=by
 unfold prA;rw[x7w,h];rfl
def dfB(p:Pg)(O:List (List Str)):List (List Str):=(sheetOf p).l.map fun it=>WA (MY (bkO p O) it.s)
def otA(p:Pg)(D:List (List Str))(i:Nat):List Str:=WA (L6 p i (prA p i) D (itsOf p i (prA p i)))
def otB(p:Pg)(D:List (List Str)):List (List Str):=(List.range p.A.length).map (otA p D)
def rdO(p:Pg)(O:List (List Str)):List (List Str):=otB p (dfB p O)
def itO(p:Pg):Nat->List (List Str)
 |0=>List.replicate p.A.length []
 |k+1=>rdO p (itO p k)
def UL{l:List Str}(h:l.Pairwise ltT):l.Nodup:=List.Pairwise.imp (S:=fun a b=>a≠b) (fun {a b} (i:ltT a b)=>fun(k:a=b)=>ltT.irr b (by rw[k]at i;exact i)) h
def JL(l:List Str):(WA l).length<=l.length:=DR (UL (ZF l)) fun s h=>ZQ.1 h
structure OkO(p:Pg)(O:List (List Str)):Prop where
 len:O.length=p.A.length
 rise:∀o∈O,o.Pairwise ltT
 sub:∀i,i<p.A.length->∀n∈O.getD i [],outB p (prA p i) n=true
def LP{O:List (List Str)}(h:∀o∈O,o.Pairwise ltT)(i:Nat):(O.getD i []).Pairwise ltT:=by
 rw[x7w];rcases x7m i O.length with k|k
 .rw [x7x k];exact h _ (x7l k)
 .rw [x9z k];exact .nil
def LY{p:Pg}{n:Str}:comB p n=true↔n=GM\/n∈p.B:=by
 unfold comB;simp only[z1y,z1e,x8e,exists_eq_right']
def q0n{p:Pg}{f:Pr}{n:Str}:outB p f n=true↔(n=GM\/n∈p.B)\/(⟨n,true⟩:Param)∈f.C:=by
 unfold outB;rw[z1y,LY,x8l]
def Xr{p:Pg}(h:chkB p=true)(i:Nat):(prA p i).C.length<=8:=by
 rcases x7m i p.A.length with k|k
 .exact (YV.1 (Ru (QY h).1 (x7t (W2 k)))).1
 .unfold prA;rw[x7w,x9z k];decide
theorem OkO.len25{p:Pg}{O:List (List Str)}(q:chkB p=true)(h:OkO p O)(i:Nat):(O.getD i []).length<=25:=by
 rcases x7m i p.A.length with o|o
 ·have r:=DR (m:=GM::p.B++(prA p i).C.map Param.name) (UL (LP h.rise i)) fun n t=>by
   rcases q0n.1 (h.sub i o n t)with(rfl|l)|l
   ·exact x8t _ x7v
   ·exact x8t _ (x7j _ l)
   ·exact x8s _ (x7d.2 ⟨_,l,rfl⟩)
  have l:=Xr q i;have u:=(XQ q).1;rw[x7u,x8j,x7z]at r;omega
 ·rw[x7w,x9z (by rw[h.len];exact o)];exact x7p _
def LZ{p:Pg}(h:chkB p=true){t:S}(a:t∈VD p)(w:t.kind=4):∃k,k<p.A.length/\caI p t=(k:Nat)/\caP p t=prA p k/\(prA p k).name=t.D/\(prA p k).C.map Param.ref=t.args.map Arg.ref:=by
 obtain⟨_,z,ha,_⟩:=QY h;have q:=(Pz z).1 ha t a w;unfold FC at q;rw[x7i]at q;have i:=q.2;cases o:p.A.find? (fun f=>f.name==t.D)with
 |none=>rw[o]at i;cases i
 | some f=>
   rw[o]at i;have y:t.D∈procsN p:=x7d.2 ⟨f,z0g o,by simpa using z1j o⟩;obtain⟨k,s,v,_,r,x⟩:=Yq y;rw[o]at r;have m:p.A[k]=f:=(z0m r).symm;have u:prA p k=f:=by rw[<-m];exact UU (x7x s)
   have l:caI p t=(k:Nat):=v;refine⟨k,s,l,?_,?_,?_⟩
   .unfold caP;rw[l];rfl
   .rw [u,<-m];exact x
   .rw [u];unfold Cu at i;exact z3l i
theorem LX{p:Pg}(h:chkB p=true){t:S}(q:t∈VD p)(m:t.kind=4):t.args.length=(caP p t).C.length/\t.args.length<=8:=by
 obtain⟨k,_,_,i,_,l⟩:=LZ h q m;have o:=x9l length l;rw[x7z,x7z]at o;have:=Xr h k;rw[i];omega
theorem OkO.call{p:Pg}{O:List (List Str)}(i:chkB p=true)(h:OkO p O){b:Book}(r:b.s=sheetOf p)(o:b.Q=O){t:S}(q:t∈VD p)(l:t.kind=4):CallOk b t:=by
 obtain⟨k,y,u,v,_⟩:=LZ i q l;obtain⟨w,x⟩:=LX i q l;have e:b.s.p=p:=by rw[r];exact(QU p).1
 have m:caO b t=O.getD (caI p t).toNat []:=by unfold caO;rw[e,o]
 refine⟨by rw[e];omega,by rw[e];omega,by rw[e,o,h.len];exact x7s _,?_,?_,by rw[e];omega,by omega⟩
 ·rw[m];exact LP h.rise _
 ·rw[m];have:=h.len25 i (caI p t).toNat;omega
def Af{p:Pg}{O:List (List Str)}{b:Book}(i:b.s=sheetOf p)(h:b.Q=O)(t:S):MY b t=MY (bkO p O) t:=by
 unfold MY caO bkO;rw[i,h]
theorem V0{p:Pg}{O:List (List Str)}(i:chkB p=true)(h:OkO p O){t:S}(l:t∈VD p):(MY (bkO p O) t).length<=34:=by
 unfold MY
 (repeat' split)<;>try (simp;done)
 rename_i k;have s:=TP t (caP p t) (caO (bkO p O) t) t.args.length;have m:=(LX i l k).2;have o:=h.len25 i (caI p t).toNat;have q:((caO (bkO p O) t).filter (comB p)).length<=(O.getD (caI p t).toNat []).length:=x9n _ _;show((if t.name=[]then []else [t.name])++EH t (caP p t) (caO (bkO p O) t) t.args.length++(caO (bkO p O) t).filter (comB p)).length<=34;rw[x7u,x7u];have r:(if t.name=[]then []else [t.name]).length<=1:=by split<;>simp
 omega
def Fy(p:Pg)(O:List (List Str)):(dfB p O).length=(sheetOf p).l.length:=x7z _
def leO(O O':List (List Str)):Prop:=∀i n,n∈O.getD i []->n∈O'.getD i []
def Dj{t:S}{f:Pr}{O:List Str}{n:Str}:n∈EH t f O t.args.length ↔ ∃x∈(t.args.zip f.C).take t.args.length,(x.1.ref=true/\x.2.name∈O)/\x.1.name=n:=by
 unfold EH x1s;simp only[x7d,x8d,x7i,UN,and_assoc]
theorem Ad{p:Pg}{O:List (List Str)}(h:leO O O'){t:S}{n:Str}(i:n∈MY (bkO p O) t):n∈MY (bkO p O') t:=by
 unfold MY at i⊢
 (repeat' split at i)
 ·rw[if_pos (by assumption)];exact i
 ·rw[if_neg (by assumption),if_pos (by assumption)];exact i
 ·rw[if_neg (by assumption),if_neg (by assumption),if_pos (by assumption)];exact i
 ·rw[if_neg (by assumption),if_neg (by assumption),if_neg (by assumption),if_pos (by assumption)];unfold q4p at i⊢;rcases x7b.1 i with i|i
  ·rcases x7b.1 i with i|i
   ·exact x8t _ (x8t _ i)
   ·refine x8t _ (x8s _ ?_);obtain⟨x,k,⟨l,m⟩,o⟩:=Dj.1 i;exact Dj.2 ⟨x,k,⟨l,h _ _ m⟩,o⟩
  ·obtain⟨k,l⟩:=x8d.1 i;exact x8s _ (x8d.2 ⟨h _ _ k,l⟩)
 ·cases i
def KV{α β:Type}{f:α->List β}{l:List α}{i:Nat}{n:β}:n∈(l.map f).getD i [] ↔ ∃x,l[i]?=some x/\n∈f x:=by
 rw[x7w,x7k];cases l[i]?with
 |none=>simp
 |some x=>simp
def Of{p:Pg}{O:List (List Str)}(h:leO O O'):leO (dfB p O) (dfB p O'):=fun i n m=>by
 obtain⟨it,k,l⟩:=KV.1 m;exact KV.2 ⟨it,k,ZQ.2 (Ad h (ZQ.1 l))⟩
def lvB(p:Pg)(i:Nat)(id:Int):Bool:=(newWay p i (prA p i)).live.getD (ixI p i (prA p i) id).toNat false
def q0m{p:Pg}{i:Nat}{n:Str}:n∈L6 p i (prA p i) D (itsOf p i (prA p i)) ↔ ∃it∈itsOf p i (prA p i),lvB p i it.s.id=true/\n∈FJ D it.s.id/\outB p (prA p i) n=true:=by
 unfold L6;rw[x8h];refine exists_congr fun it=>and_congr_right fun _=>?_;unfold x0n lvB;cases(newWay p i (prA p i)).live.getD (ixI p i (prA p i) it.s.id).toNat false with
 |false=>simp
 |true=>simp[x8d]
def Rf{p:Pg}{i:Nat}(l:i<p.A.length){n:Str}:n∈(otB p D).getD i [] ↔ ∃it∈itsOf p i (prA p i),lvB p i it.s.id=true/\n∈FJ D it.s.id/\outB p (prA p i) n=true:=by
 unfold otB;rw[KV,<-q0m];constructor
 .rintro ⟨x,k,m⟩;rw[z1p l]at k;cases k;exact ZQ.1 m
 .exact fun h=>⟨i,z1p l,ZQ.2 h⟩
def q0p{p:Pg}{m:List (List Str)}(h:leO D m):leO (otB p D) (otB p m):=fun i n o=>by
 rcases x7m i p.A.length with l|l
 .obtain ⟨it,k,q,r,s⟩:=(Rf l).1 o;exact(Rf l).2 ⟨it,k,q,h _ _ r,s⟩
 .obtain ⟨x,k,_⟩:=KV.1 o;rw[x9z (by simpa using l)]at k;cases k
def q1w{p:Pg}{O:List (List Str)}(h:leO O O'):leO (rdO p O) (rdO p O'):=q0p (Of h)
theorem q3v(p:Pg):∀k,leO (itO p k) (itO p (k+1))
 | 0=>fun i n h=>by
   unfold itO at h;rw[x7w,x8g]at h;split at h<;>cases h
 |k+1=>q1w (q3v p k)
def q3m(p:Pg)(D:List (List Str)):OkO p (otB p D):=by
 refine⟨by unfold otB;rw[x7z,x9t],fun o m=>?_,fun i k n l=>?_⟩
 .obtain ⟨i,_,rfl⟩:=x7d.1 m;exact ZF _
 .obtain ⟨it,_,_,_,h⟩:=(Rf k).1 l;exact h
def Yv(p:Pg):∀k,OkO p (itO p k)
 | 0=>by
   refine⟨by unfold itO;rw[x9w],fun o l=>?_,fun i m n h=>?_⟩
   .rw [z0r l];exact .nil
   .unfold itO at h;rw[x7w,x8g]at h;split at h<;>cases h
 |k+1=>q3m p _
def tot(O:List (List Str)):Nat:=(O.map length).sum
def OO{a b:List Str}{O:List (List Str)}(h:leO (a::O) (b::O')):(∀n∈a,n∈b)/\leO O O':=⟨fun n k=>h 0 n k,fun i n k=>h (i+1) n k⟩
theorem q1o{a b:List Str}(ha:a.Pairwise ltT)(o:b.Pairwise ltT)(k:∀n∈a,n∈b)(r:b.length<=a.length):a=b:=by
 refine Dk ltT.irr ltT.trans ha o fun s=>⟨k s,fun h=>?_⟩;refine z0c fun q=>?_;have:=DR (l:=s::a) (m:=b) (x8i.2 ⟨q,UL ha⟩) fun n i=>by
  rcases x7f.1 i with rfl|i
  ·exact h
  ·exact k n i
 rw[x8j]at this;omega
theorem Ic:∀{O O':List (List Str)},O.length=O'.length->(∀o∈O,o.Pairwise ltT)->(∀o∈O',o.Pairwise ltT)->leO O O'->tot O<=tot O'/\(tot O'<=tot O->O=O')
 |[],[],_,_,_,_=>⟨x7s _,fun _=>rfl⟩
 |[],_::_,h,_,_,_=>by cases h
 |_::_,[],h,_,_,_=>by cases h
 | a::O,b::O',hl,h1,h2,h=>by
   obtain⟨k,m⟩:=OO h;obtain⟨s,q⟩:=Ic (O:=O) (O':=O') (by simpa using hl) (fun o i=>h1 o (x7j _ i)) (fun o i=>h2 o (x7j _ i)) m;have ha:=h1 a x7v;have r:=h2 b x7v;have t:=DR (UL ha) k;have e:∀(x:List Str)(l:List (List Str)),tot (x::l)=x.length+tot l:=fun x l=>by unfold tot;rw[x8v,z3y]
   rw[e,e];exact⟨by omega,fun u=>by rw[q1o ha r k (by omega),q (by omega)]⟩
theorem Da:∀{O:List (List Str)},(∀o∈O,o.length<=25)->tot O<=25*O.length
 |[],_=>x7s _
 | a::O,h=>by
   have k:=Da (O:=O) fun o i=>h o (x7j _ i);have l:=h a x7v;have e:tot (a::O)=a.length+tot O:=by unfold tot;rw[x8v,z3y]
   rw[e,x8j];omega
theorem OkO.tot{p:Pg}{O:List (List Str)}(l:chkB p=true)(h:OkO p O):Go.Ab.tot O<=400:=by
 have m:=Da (O:=O) fun o r=>by
  obtain⟨i,q,rfl⟩:=x9s.1 r;have:=h.len25 l i
  rwa[x7w,x7x q]at this
 have t:=(XQ l).2.1;rw[h.len]at m;omega
def Tk{p:Pg}{k:Nat}(h:itO p (k+1)≠itO p k):Go.Ab.tot (itO p k)<Go.Ab.tot (itO p (k+1)):=by
 obtain⟨m,l⟩:=Ic (O:=itO p k) (O':=itO p (k+1)) (by rw[(Yv p k).len,(Yv p (k+1)).len]) (Yv p k).rise (Yv p (k+1)).rise (q3v p k);rcases x7m (Go.Ab.tot (itO p k)) (Go.Ab.tot (itO p (k+1)))with i|i
 .exact i
 .exact absurd (l i).symm h
end Go.Ab
