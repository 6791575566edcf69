/- The library's contracts at this seat's program, in plain words (printed by the kit's lay-plain.mjs). Conditions: none. -/
import Derived.Maps.RangeRun
import Derived.Test.YtgljdhjopolmcaaGreatRcA23
set_option linter.all false
set_option maxRecDepth 100000
set_option maxHeartbeats 16000000
namespace Go.Proofs
open Go.Shelf Tryz
def Tryz.laysG_ren:Go.Shelf.Ren:=⟨fun|6=>92|15=>162|14=>161|28=>221|29=>222|20=>213|21=>214|22=>215|23=>216|24=>217|25=>218|26=>219|27=>220|46=>273|47=>274|48=>275|49=>276|50=>277|57=>306|n=>n,fun|22=>90|24=>92|25=>162|3=>3|39=>227|0=>0|53=>267|55=>269|4=>4|46=>261|45=>260|50=>178|5=>5|9=>9|66=>296|70=>300|76=>318|77=>30|n=>n,fun|n=>n⟩
theorem kT23{α:Type}{x:Option α}{a b:α}(h:x=some a)(e:a=b:=by kernel_rfl):x=some b:=e▸h
def Bs:Go.Proofs.SlLaysF0.n6 Tryz.prog Tryz.laysG_ren:=⟨by kernel_rfl,⟨f92.name,by decide,kT23 func92⟩,⟨f161.name,by decide,kT23 func161⟩,kT23 func162,⟨f213.name,by decide,kT23 func213⟩,⟨f214.name,by decide,kT23 func214⟩,⟨f215.name,by decide,kT23 func215⟩,⟨f216.name,by decide,kT23 func216⟩,⟨f217.name,by decide,kT23 func217⟩,⟨f218.name,by decide,kT23 func218⟩,⟨f219.name,by decide,kT23 func219⟩,⟨f220.name,by decide,kT23 func220⟩,kT23 func221,kT23 func222,⟨f273.name,by decide,kT23 func273⟩,kT23 func274,kT23 func275,⟨f276.name,by decide,kT23 func276⟩,⟨f277.name,by decide,kT23 func277⟩,⟨f306.name,by decide,kT23 func306⟩,underlying0,isAgg0,sizeOf0,zeroValue0,underlying3,isAgg3,sizeOf3,zeroValue3,underlying4,isAgg4,sizeOf4,zeroValue4,underlying5,isAgg5,sizeOf5,zeroValue5,underlying9,isAgg9,sizeOf9,zeroValue9,underlying90,isAgg90,sizeOf90,zeroValue90,underlying162,isAgg162,sizeOf162,zeroValue162,underlying227,isAgg227,sizeOf227,zeroValue227,underlying260,isAgg260,sizeOf260,zeroValue260,underlying261,isAgg261,sizeOf261,zeroValue261,underlying178,isAgg178,sizeOf178,zeroValue178,underlying267,isAgg267,sizeOf267,zeroValue267,underlying269,isAgg269,sizeOf269,zeroValue269,underlying296,isAgg296,sizeOf296,zeroValue296,underlying300,isAgg300,sizeOf300,zeroValue300,underlying318,isAgg318,sizeOf318,zeroValue318,underlying30,isAgg30,sizeOf30,zeroValue30⟩
end Go.Proofs
namespace Go.Ab
open Go.Proofs.Tryz
open Go.Proofs Go.Sort Go.RowKit Go.Lib
variable {α:Type}{K:St->Prop}{j:Nat}{o:Oper}{s:St}{t:TypeId}{σ:Mem}
structure Fl where
 src:Int
 dst:Int
 var:Str
deriving DecidableEq
def Fl.cells(f:Fl):List AV:=[.int .i64 f.src,.int .i64 f.dst,.str f.var]
def q3b(a b:Str):Int:=if Op.bytesLess a b=true then -1 else if Op.bytesLess b a=true then 1 else 0
def q3p(a b:Str):q3b a b<0↔ltT a b:=by
 unfold q3b ltT;split
 .rename_i h;exact⟨fun _=>h,fun _=>by decide⟩
 .rename_i h;split
  .exact ⟨fun i=>absurd i (by decide),fun i=>absurd i h⟩
  .exact ⟨fun i=>absurd i (by decide),fun i=>absurd i h⟩
def IB(a b:Str):q3b a b=0↔a=b:=by
 unfold q3b;split
 .rename_i h;refine⟨fun i=>absurd i (by decide),fun i=>?_⟩;subst i;exact absurd h (ltT.irr a)
 .rename_i h;split
  .rename_i k;refine⟨fun i=>absurd i (by decide),fun i=>?_⟩;subst i;exact absurd k (ltT.irr a)
  .rename_i k;refine⟨fun _=>z3t fun m=>?_,fun _=>rfl⟩;rcases ltT.total m with l|l
   .exact h l
   .exact k l
def flC(a b:Fl):Int:=orI [Rk (QS a.src) (QS b.src),Rk (QS a.dst) (QS b.dst),q3b a.var b.var]
def Z2(a b:Str):aP 97 [.str a,.str b] (.int .i64 (q3b a b)):=by
 refine sC NR func97 ?_;conv=>whnf
 repeat' ((first|refine cP (JE a) ?_|refine cP (JE b) ?_|((first|apply bN|apply bB)<;>intro _<;>try omega))<;>conv=>whnf)
 all_goals first
  |contradiction
  | (have i:Op.bytesLess a b=true:=by assumption
     exact RetK.int (by unfold q3b;rw[if_pos i]))
  | (have i:Op.bytesLess a b=false:=by assumption
     have k:(Op.bytesLess a b||a==b)=true:=by assumption
     have l:a=b:=by rw[i]at k;simpa using k
     exact RetK.int ((IB a b).2 l).symm)
  | (have i:Op.bytesLess a b=false:=by assumption
     have k:(Op.bytesLess a b||a==b)=false:=by assumption
     have l:a≠b:=by
      rw[i]at k;rintro rfl;simp at k
     have m:Op.bytesLess b a=true:=by
      rcases ltT.total l with h|h
      .exact absurd h (by unfold ltT;rw[i];decide)
      .exact h
     exact RetK.int (by unfold q3b;rw[if_neg (by rw[i];decide),if_pos m]))
def Y9(a b:Fl):aP 93 [.agg a.cells,.agg b.cells] (.int .i64 (flC a b)):=by
 refine sC Xk func93 ?_;conv=>whnf
 have h:=Z2 a.var b.var;repeat' ((first|refine cP (Tx _) ?_|refine cP (NQ _ _) ?_|refine cP (Hk [Rk (QS a.src) (QS b.src),Rk (QS a.dst) (QS b.dst),q3b a.var b.var]) ?_|refine dA ?_|refine z1s rfl ?_|refine aD ?_|refine BsK.pureL rfl rfl ?_|refine cP h ?_)<;>conv=>whnf)
 all_goals first
  |exact RetK.p rfl
def ltF(a b:Fl):Prop:=QS a.src<QS b.src\/QS a.src=QS b.src/\(QS a.dst<QS b.dst\/QS a.dst=QS b.dst/\ltT a.var b.var)
def Hb(a b:Fl):flC a b<0↔ltF a b:=by
 unfold flC ltF;rw[OA,FJ,FJ,q3p,YR,YR]
theorem ltF.irr(a:Fl):¬ltF a a:=by
 rintro(h|⟨_,h|⟨_,h⟩⟩)
 .omega
 .omega
 .exact ltT.irr _ h
theorem ltF.trans(a b c:Fl)(i:ltF a b)(l:ltF b c):ltF a c:=by
 unfold ltF at*
 rcases i with i|⟨m,i⟩<;>rcases l with l|⟨e2,l⟩
 .exact .inl (by omega)
 .exact .inl (by omega)
 .exact .inl (by omega)
 .refine .inr ⟨by omega,?_⟩;rcases i with i|⟨f1,i⟩<;>rcases l with l|⟨f2,l⟩
  .exact .inl (by omega)
  .exact .inl (by omega)
  .exact .inl (by omega)
  .exact .inr ⟨by omega,ltT.trans _ _ _ i l⟩
theorem ltT.neg{a b c:Str}(m:¬ltT a b)(l:¬ltT b c):¬ltT a c:=fun h=>by
 by_cases e:a=b
 .subst e;exact l h
 .rcases ltT.total e with i|i
  .exact m i
  .exact l (ltT.trans b a c i h)
theorem ltF.neg{x y z:Fl}(i:¬ltF x y)(l:¬ltF y z):¬ltF x z:=fun h=>by
 unfold ltF at i l h;have q:¬QS x.src<QS y.src:=fun h=>i (.inl h);have r:¬QS y.src<QS z.src:=fun h=>l (.inl h);rcases h with h|⟨e,h⟩
 .omega
 have m:QS x.src=QS y.src:=by omega
 have e2:QS y.src=QS z.src:=by omega
 have u:¬QS x.dst<QS y.dst:=fun h=>i (.inr ⟨m,.inl h⟩);have v:¬QS y.dst<QS z.dst:=fun h=>l (.inr ⟨e2,.inl h⟩);rcases h with h|⟨f,h⟩
 .omega
 exact ltT.neg (fun h=>i (.inr ⟨m,.inr ⟨by omega,h⟩⟩)) (fun h=>l (.inr ⟨e2,.inr ⟨by omega,h⟩⟩)) h
def okFl(s:Fl):Prop:=s.src≠9223372036854775807/\s.dst≠9223372036854775807/\s.var.length<=maxLen
abbrev OFl:={s:Fl // okFl s}
instance:Inhabited OFl:=⟨⟨⟨0,0,[]⟩,by decide,by decide,z1q _⟩⟩
def cfF(a b:OFl):Int:=flC a.1 b.1
def Hy(a b:OFl):ltOf cfF a b=true↔ltF a.1 b.1:=by
 unfold ltOf cfF;rw[z2z,Hb]
def Wn(a b:OFl):ltOf cfF a b=false ↔ ¬ltF a.1 b.1:=by
 rw[<-Hy,z6n]
def q9l:SWO (ltOf cfF):=by
 refine⟨fun x=>?_,fun x y z h i=>?_,fun x y z h i=>?_⟩
 .exact (Wn x x).2 (ltF.irr _)
 .first
   |exact(Hy x z).2 (ltF.trans _ _ _ ((Hy x y).1 h) ((Hy y z).1 i))
   |exact(Wn x z).2 (ltF.neg ((Wn x y).1 h) ((Wn y z).1 i))
 .first
   |exact(Hy x z).2 (ltF.trans _ _ _ ((Hy x y).1 h) ((Hy y z).1 i))
   |exact(Wn x z).2 (ltF.neg ((Wn x y).1 h) ((Wn y z).1 i))
theorem ltF.total{a b:Fl}(ha:okFl a)(w:okFl b)(i:¬ltF a b)(l:¬ltF b a):a=b:=by
 unfold ltF at i l;obtain⟨m,q,z⟩:=a;obtain⟨r,u,c⟩:=b;simp only at*
 have g:¬QS m<QS r:=fun h=>i (.inl h);have A:¬QS r<QS m:=fun h=>l (.inl h);have e:=KN (x:=m) (y:=r) ha.1 w.1 (by omega);have B:¬QS q<QS u:=fun h=>i (.inr ⟨by omega,.inl h⟩);have C:¬QS u<QS q:=fun h=>l (.inr ⟨by omega,.inl h⟩);have e2:=KN (x:=q) (y:=u) ha.2.1 w.2.1 (by omega);have f:z=c:=z3t fun v=>by
  rcases ltT.total v with h|h
  .exact i (.inr ⟨by omega,.inr ⟨by omega,h⟩⟩)
  .exact l (.inr ⟨by omega,.inr ⟨by omega,h⟩⟩)
 subst e e2 f;rfl
def q9r(x y:OFl)(h:ltOf cfF x y=false)(i:ltOf cfF y x=false):x=y:=Subtype.ext (ltF.total x.2 y.2 ((Wn x y).1 h) ((Wn y x).1 i))
def Rg(s:OFl):List Value:=[.int .i64 s.1.src,.int .i64 s.1.dst,.string ⟨s.1.var.toArray⟩]
def RF(s:OFl):Rep σ (.agg s.1.cells) (.agg (Rg s).toArray):=by
 refine .agg _ _ (fun j=>(Rg s).toArray.getD j undef) rfl (fun j c h=>?_) (fun j c h=>?_)
 .match j,h with
  |0,_=>rfl
  |1,_=>rfl
  |2,_=>rfl
 .match j,h with
  |0,h=>cases h;exact .int _ _
  |1,h=>cases h;exact .int _ _
  |2,h=>cases h;exact .str _ s.2.2.2
def ID(W:World)(x y:OFl):Calls prog 93 (#[.agg (Rg x).toArray,.agg (Rg y).toArray] ++ #[]) W fun e w'=>e=.returned (.int .i64 (cfF x y))/\∃q k,w'=grow (W.drewN q) k:=by
 refine((Y9 x.1 y.1).ok (fun _=>none) W #[.agg (Rg x).toArray,.agg (Rg y).toArray] rfl (fun j c i=>?_) (fun b c h=>by cases h)).mono ?_
 .match j,i with
  |0,i=>cases i;exact RF x
  |1,i=>cases i;exact RF y
 .rintro e w' ⟨c,u,σ',rfl,rfl,m,_,_,l,_⟩;cases m;exact⟨rfl,l.grown⟩
def Xx(s:Fl):AV:=.agg s.cells
def x0v{l:List OFl}{vs:Array Value}(h:∀(m:Nat)(x:AV),(l.map fun s=>AV.agg s.1.cells)[m]?=some x->x.cells.length=3/\∀(j:Nat)(c:AV),x.cells[j]?=some c->∃u:Value,vs[m*3+j]?=some u/\Rep σ c u){m:Nat}(q:m<l.length)(p:j<3):
  vs[m*3+j]?=(Rg l[m])[j]?:=by
 have n:=(h m (.agg l[m].1.cells) (by simp[q])).2
 match j,p with
 | 0,_=>
   obtain⟨u,i,k⟩:=n 0 (.int .i64 l[m].1.src) rfl;cases k;exact i
 | 1,_=>
   obtain⟨u,i,k⟩:=n 1 (.int .i64 l[m].1.dst) rfl;cases k;exact i
 | 2,_=>
   obtain⟨u,i,k⟩:=n 2 (.str l[m].1.var) rfl;cases k;exact i
def x0u{l:List OFl}{vs:Array Value}(h:∀(m:Nat)(n:m<l.length)(j:Nat),j<3->vs[m*3+j]?=(Rg l[m])[j]?):∀(m:Nat)(x:AV),(l.map fun s=>AV.agg s.1.cells)[m]?=some x->x.cells.length=3/\∀(j:Nat)(c:AV),x.cells[j]?=some c->∃u:Value,vs[m*3+j]?=some u/\Rep σ c u:=by
 intro m x k;rw[z1u]at k;cases p:l[m]?with
 |none=>rw[p]at k;cases k
 | some s=>
   rw[p]at k;cases k;obtain⟨n,rfl⟩:=z1k.1 p;refine⟨rfl,fun j c i=>?_⟩
   match j,i with
   |0,i=>cases i;exact⟨_,h m n 0 (by omega),.int _ _⟩
   |1,i=>cases i;exact⟨_,h m n 1 (by omega),.int _ _⟩
   |2,i=>cases i;exact⟨_,h m n 2 (by omega),.str _ l[m].2.2.2⟩
def T9{d:Array OFl}{t:Nat}(h:t<d.size*3):(flatK Rg 3 d)[t]?=(Rg (d[t/3]'(by omega)))[t%3]?:=by
 have i:=get_flatK Rg 3 d t h;rw[z6h _ t (by simpa using h),z6h d (t/3) (by omega)]at i;rw[z3k (by simpa using h),i];have k:t%3<(Rg (d[t/3]'(by omega))).length:=by simp[Rg];omega
 rw[z0c k,z6h (Rg (d[t/3]'(by omega))) (t%3) k]
def JM(l:List Fl):List Fl:=l.mergeSort fun x y=> !decide (flC y x<0)
def Nf{l:List Fl}:(JM l).length=l.length:=by unfold JM;simp
def X4(l:List OFl)(U:l.length<=1000000000):
  aH 92 [.hd 1000 0 l.length,.p (.fn 93 [])] [(1000,.own 92 3 (l.map fun s=>.agg s.1.cells))] (.p (.tup [])) [(1000,.own 92 3 ((l.mergeSort fun x y=> !(ltOf cfF) y x).map fun s=>.agg s.1.cells))]:=by
 refine⟨call92,fun σ β w Y hn g hH=>?_⟩;obtain⟨v,u,rfl⟩:=x2c hn;have A:RepL σ β (.hd 1000 0 l.length) v:=by simpa using g 0 _ rfl
 have M:RepL σ β (.p (.fn 93 [])) u:=by simpa using g 1 _ rfl
 obtain rfl:u=.func (.func 93) #[] #[]:=by
  cases M with
  | p h=>cases h with
    | fn _ _ vs u J r hr=>
      obtain rfl:vs=#[]:=Array.size_eq_zero_iff.1 J;rfl
 have F:=hH.chunks 1000 _ z1j;rcases F with⟨E,G⟩|⟨i,vs,C,L,H,Q,Z,h4,h5⟩
 .have I:l=[]:=z7g.1 G;subst I;obtain⟨rfl,_⟩:=Tc A E;have r:=AnyF.slices_SortFunc_none Bs none 0 (.func (.func 93) #[] #[]) w;change Calls prog 92 _ _ _ at r;refine r.mono ?_;rintro e w' ⟨rfl,rfl⟩;exact⟨.p (.tup []),.tuple #[],σ,β,_,rfl,⟨rfl,rfl⟩,.p (.tup [] #[] (fun _=>undef) rfl (by simp) (by simp)),by simpa using hH,by simpa using Later.refl _ _ _ _⟩
 .have O:=Pt A C;subst O;have f:=(hH.apart 1000 (by simp) i C i.blk i.has_blk).2;have b:l.length<=i.cap:=by simpa using Z
  have hle:l.length*3<=vs.size:=by rw[Q];omega
  have c:=fun m j V R=>x0v (σ:=σ) (l:=l) h5 (m:=m) (j:=j) V R;have r:=AnyQ.slices_SortFunc_total Bs 3 Tryz.isAgg92 Tryz.sizeOf92 Rg (fun _=>rfl) (fun x v g=>by simp[Rg]at g;rcases g with rfl|rfl|rfl<;>rfl) cfF q9l 93 #[] i.blk 0 i.cap l.toArray w
   call93 (fun m os dk _ x y=>ID _ x y) (fun t ht=>by
    have q:t<l.toArray.size*3:=by simpa using ht
    refine⟨?_,YK H _⟩;have B:=T9 q;have z:=c (t/3) (t%3) (by simp at q;omega) (by omega);rw[Nat.div_add_mod']at z;rw[FY H,z3m,z,z6h _ t (by simpa using q)];rw[z3k (by simpa using q)]at B;simpa using B.symm) f (by simp;omega) q9r
  simp only[z5x]at r;change Calls prog 92 _ _ _ at r;refine r.mono ?_;rintro e w' ⟨rfl,n,os,rfl⟩;generalize hS:(l.mergeSort fun x y=> !(ltOf cfF) y x)=S;have a:S.length=l.length:=by rw[<-hS];simp
  obtain⟨hf,hb⟩:=Q8 (enc:=id) (n:=n) (os:=os) (d:=flatK Rg 3 S.toArray) H f;obtain⟨D,hL⟩:=Gb (c':=.own 92 3 (S.map fun s=>.agg s.1.cells)) hH C hf (.inr ⟨i,_,C,L,hb,by rw[PP];exact Q,by simp[a];exact b,h4,x0u fun m V j R=>by
   have B:=FD (enc:=id) (d:=flatK Rg 3 S.toArray) (vs:=vs) (by simp[a];omega) (k:=m*3+j) (by simp;omega);have z:=T9 (d:=S.toArray) (t:=m*3+j) (by simp;omega);rw[z3k (by simp;omega)]at z;rw[B];simp only[id];rw[z];simp[show(m*3+j)/3=m by omega,show(m*3+j)%3=j by omega]⟩)
  exact⟨.p (.tup []),.tuple #[],σ,β,_,rfl,⟨rfl,rfl⟩,.p (.tup [] #[] (fun _=>undef) rfl (by simp) (by simp)),D,hL⟩
def Dn(l:List Fl)(i:∀s∈l,okFl s)(k:l.length<=1000000000):
  aH 92 [.hd 1000 0 l.length,.p (.fn 93 [])] [(1000,.own 92 3 (l.map fun s=>.agg s.cells))] (.p (.tup [])) [(1000,.own 92 3 ((JM l).map fun s=>.agg s.cells))]:=by
 have h:=X4 (l.attachWith okFl i) (by simpa using k);have n:((l.attachWith okFl i).map fun s=>AV.agg s.1.cells)=l.map fun s=>AV.agg s.cells:=by
  have:=z2b (List.map fun s:Fl=>AV.agg s.cells) (z6y (l:=l) (p:=okFl) i);simp
 have e2:(((l.attachWith okFl i).mergeSort fun x y=> !(ltOf cfF) y x).map fun s=>AV.agg s.1.cells)=(JM l).map fun s=>AV.agg s.cells:=by
  have m:=List.map_mergeSort (l:=l.attachWith okFl i) (f:=Subtype.val) (r:=fun x y=> !(ltOf cfF) y x) (s:=fun x y=> !decide (flC y x<0)) (fun a _ b _=>rfl);rw[z6y]at m;unfold JM;rw[<-m,z4e];rfl
 rw[n,e2]at h;simpa using h
open Classical in
noncomputable def comC(n:Nat)(steps:List (Int×Int))(at_:List Nat):List (List Int):=(List.range n).map fun c=>((List.range at_.length).filter fun f=>decide (SolP (QE n steps).1 ((gnC n at_ at_.length).map (PN (at_.length/64+1))) ((klC n at_ at_.length).map (PN (at_.length/64+1))) f (c:Nat))).map Int.ofNat
theorem ComR.eq{n:Nat}{steps:List (Int×Int)}{at_:List Nat}{r:AV}(h:ComR n steps at_ r):r=eMat (comC n steps at_):=by
 obtain⟨O,l,m,rfl⟩:=h;congr 1;unfold comC;refine z8x (by simp[m]) fun c q v=>?_;have u:c<O.length:=by simpa using q
 rw[z4b,z4b,z7b];unfold KF;congr 1;refine List.filter_congr fun f i=>?_;have i:=z2h.1 i;have:=l (c:Nat) (by omega) (by omega) f (Nat.lt_succ_of_le (Nat.div_le_div_right (by omega)));rw[z3y,z0a,z0c u,z2l]at this;rw[z4z,this];simp
def Mk(n:Nat)(steps:List (Int×Int))(at_:List Nat):(comC n steps at_).length=n:=by unfold comC;simp
def Wl{n:Nat}{steps:List (Int×Int)}{at_:List Nat}{r:List Int}(h:r∈comC n steps at_):r.length<=at_.length/\∀f∈r,0<=f/\f<at_.length:=by
 unfold comC at h;obtain⟨c,_,rfl⟩:=z1z.1 h;refine⟨by rw[z0s];exact z2g (z2s _ _) (by simp),fun f i=>?_⟩;obtain⟨x,k,rfl⟩:=z1z.1 i;have:=z2h.1 (z2u.1 k).1;exact⟨z6r _,by show(x:Int)<_;omega⟩
def S8{l l':List Fl}(h:l.Perm l')(n:∀s∈l,okFl s):JM l=JM l':=by
 have r:∀m:List Fl,(JM m).Pairwise fun x y=>¬ltF y x:=fun m=>by
  unfold JM;refine(List.pairwise_mergeSort ?_ ?_ m).imp fun h=>?_
  .intro a b c i k;simp only[z4w,z4h]at i k⊢;rw[Hb]at i k⊢;exact ltF.neg k i
  .intro a b;simp only[z4f,z4w,z4h];rw[Hb,Hb];by_cases i:ltF b a
   .exact .inr fun k=>ltF.irr a (ltF.trans a b a k i)
   .exact .inl i
  .rw [<-Hb];simpa using h
 have v:(JM l).Perm (JM l'):=(z4i l _).trans (h.trans (z4i l' _).symm);refine v.eq_of_pairwise (fun a b ha u i k=>?_) (r l) (r l');have p:a∈l:=(z4i l _).mem_iff.1 ha;have q:b∈l:=h.mem_iff.2 ((z4i l' _).mem_iff.1 u);exact ltF.total (n a p) (n b q) k i
def El(p:Pg)(i:Nat)(f:Pr)(D:List (List Str))(I:List Str)(a:Nat):List Str:=
 if a=0 then QA (I++f.B.map Param.name)else if a=QY f.body+1 then []else bif (QQ p i f).live.getD a false then D.getD (QL p.A i+a-1) []else []
def q9q(p:Pg)(i:Nat)(f:Pr)(U:List (List Str))(O:List Str)(a:Nat):List Str:=
 if a=QY f.body+1 then QA (O++[EI])else if a=0 then []else bif (QQ p i f).live.getD a false then U.getD (QL p.A i+a-1) []else []
def CY(l:List Str)(h:l.length<=1000000):SpecH prog 144 ([eStrs l].map .p) [] (OneRow (Kh l) (l=[])):=VB l h
def S9(l:List Str)(h:l.length<=1000000):aH 69 [.hd 1000 0 l.length] [(1000,.own 9 1 (l.map .str))] (.hd 1000 0 (QA l).length) [(1000,.own 9 1 ((QA l).map .str))]:=Fu l (by omega)
def Fq(b:Book)(p:Pg)(hp:b.s=sheetOf p)(h:QM p=true)(i:Nat)(f:Pr)(z:p.A[i]?=some f)(V:b.ways[i]?=some (QQ p i f))(I:List Str)(Q:b.ins[i]?=some I)(R:I.length<=1000)(hD:b.N.length=(sheetOf p).l.length)(a:Nat)(ha:a<QY f.body+2):aP 146 [.ip b.cells,.int .i64 i,.int .i64 a] (eStrs (El p i f b.N I a)):=by
 refine sC Ur func146 ?_;conv=>whnf
 have C:b.s.p=p:=by rw[hp];exact(QK p).1
 obtain⟨hsp,_,_,O,hs⟩:=QK p;obtain⟨_,_,Z,_⟩:=hs i f z;have Y:=(XF h).2.2;have hT:=x2e h z;have D:(b.s.p.A.map fun f=>AV.agg f.cells)[i]?=some (.agg f.cells):=by rw[C,z1u,z];rfl
 have r:(b.ways.map fun w=>AV.ip w.cells)[i]?=some (.ip (QQ p i f).cells):=by rw[z1u,V];rfl
 have E:(b.ins.map eStrs)[i]?=some (eStrs I):=by rw[z1u,Q];rfl
 have u:=JU (QQ p i f) f hT.hj hT.hc (by have:=hT.hn2;have:=hT.hn;have:=hT.hw;omega) a (by omega);have c:=CY I (by omega);have hll:(QQ p i f).live.length=QY f.body+2:=by show(FN _ (List.replicate (QY f.body+2) false)).length=_;rw[Yc];simp
 have hwn:(QQ p i f).n=(QY f.body+2:Nat):=rfl;have G:((QQ p i f).live.map bv)[a]?=some (bv ((QQ p i f).live.getD a false)):=by
  rw[z1u,z0a,z0c (by omega)];rfl
 have y:f.B.length<=8:=((KD (QV h).1).pr f (z1d z)).1;unfold El;by_cases L:a=0
 .subst L;rw[if_pos rfl];repeat' ((first|refine iT r ?_|refine iT E ?_|(apply bD<;>intro _<;>try omega))<;>conv=>whnf)
  have hpm:(f.B.map fun x=>AV.agg x.cells).length=f.B.length:=z0s _;refine ZV 0 rfl c (.cons (.p (Sub.refl _)) .nil) (fun v=>?_) (fun q e sz es U=>?_);rotate_left;obtain⟨rfl,rfl,rfl⟩:=U
  rotate_right
  all_goals
   conv=>whnf
   repeat' ((first|(refine iM fun _=>?_)|refine iT D ?_)<;>conv=>whnf)
  all_goals
   refine lJ (fun k:Nat=>⟨[(8,.hd 0 0 (I++(f.B.take k).map Param.name).length),(40,.p (.sl (f.B.map fun a=>AV.agg a.cells))),(41,.p (.int .i64 (f.B.map fun a=>AV.agg a.cells).length)),(42,.j k)],[(0,.own 9 1 ((I++(f.B.take k).map Param.name).map .str))]⟩) (fun k=>k<=f.B.length) (fun k=>f.B.length-k) 0 (by first
     |exact Le.of_eq (by simp;rfl)
     | (rw[v]
        exact lM [(0,.own 9 1 [])])
     |trace_state) (z1q _) ?_
   intro k hk;have hpl:f.B.length<=8:=y;have g:(I++(f.B.take k).map Param.name).length<=1100:=by rw[z0e,z0s,z1r];omega
   rcases z1w k f.B.length with m|m
   .have J:I++(f.B.take (k+1)).map Param.name=(I++(f.B.take k).map Param.name)++[f.B[k].name]:=by rw[z1y m,z1v,z1m];rfl
    generalize I++(f.B.take k).map Param.name=acc at*
    conv=>whnf
    repeat' ((first|(refine gX ?_;intros)|refine XK (by simp) (by rw[z0s];omega) ?_|(apply bD<;>intro _<;>try omega))<;>conv=>whnf)
    all_goals first
     |exact⟨k+1,m,by omega,Le.of_eq (by rw[J];simp only[z0e,z1v];rfl)⟩
   .rw [z1f m]at g⊢;have d:=S9 (I++f.B.map Param.name) (by omega);generalize I++f.B.map Param.name=acc at*
    conv=>whnf
    repeat' ((first|(apply bD<;>intro _<;>try omega)|(refine cH rH1 0 d ?_))<;>conv=>whnf)
    all_goals first
     |exact⟨_,.hd rfl (by simp),rfl⟩
 .rw [if_neg L];by_cases M:a=QY f.body+1
  .rw [if_pos M];repeat' ((first|refine wI ?_|refine iT r ?_|(apply bD<;>intro _<;>try omega))<;>conv=>whnf)
   all_goals first
    |(exfalso;omega)
    |exact⟨_,.p Sub.nils,rfl⟩
  .rw [if_neg M];have H:QH (QQ p i f).p (QQ p i f).j (QQ p i f).n a=((QL p.A i+a:Nat):Int):=by
    show QH p i (QY f.body+2:Nat) a=_;unfold QH loI;rw[if_neg (by omega),if_neg (by omega)];omega
   rw[H]at u;have F:(b.N.map eStrs)[QL p.A i+a-1]?=some (eStrs (b.N.getD (QL p.A i+a-1) [])):=by
    rw[z1u,z0a,z0c (by omega)];rfl
   generalize(QQ p i f).live.getD a false=lv at*
   cases lv;all_goals
    repeat' ((first|refine dA ?_|refine wI ?_|refine iT r ?_|refine iT G ?_|refine cP u ?_|refine iT F ?_|(apply bD<;>intro _<;>try omega))<;>conv=>whnf)
    all_goals first
     |(exfalso;omega)
     |contradiction
     |exact⟨_,.p Sub.nils,rfl⟩
     |exact⟨_,.p (Sub.refl _),rfl⟩
def Fx(b:Book)(p:Pg)(Z:b.s=sheetOf p)(h:QM p=true)(i:Nat)(f:Pr)(B:p.A[i]?=some f)(I:b.ways[i]?=some (QQ p i f))(O:List Str)(D:b.F[i]?=some O)(E:O.length<=900000)(Y:b.Q.length=(sheetOf p).l.length)(a:Nat)(ha:a<QY f.body+2):aP 88 [.ip b.cells,.int .i64 i,.int .i64 a] (eStrs (q9q p i f b.Q O a)):=by
 refine sC Ut func88 ?_;conv=>whnf
 obtain⟨U,_,_,C,R⟩:=QK p;obtain⟨_,_,L,_⟩:=R i f B;have J:=(XF h).2.2;have hT:=x2e h B;have k:(b.ways.map fun w=>AV.ip w.cells)[i]?=some (.ip (QQ p i f).cells):=by rw[z1u,I];rfl
 have x:(b.F.map eStrs)[i]?=some (eStrs O):=by rw[z1u,D];rfl
 have m:=JU (QQ p i f) f hT.hj hT.hc (by have:=hT.hn2;have:=hT.hn;have:=hT.hw;omega) a (by omega);have v:=CY O (by omega);have M:(QQ p i f).live.length=QY f.body+2:=by show(FN _ (List.replicate (QY f.body+2) false)).length=_;rw[Yc];simp
 have V:(QQ p i f).n=(QY f.body+2:Nat):=rfl;have z:((QQ p i f).live.map bv)[a]?=some (bv ((QQ p i f).live.getD a false)):=by
  rw[z1u,z0a,z0c (by omega)];rfl
 unfold q9q;by_cases d:a=QY f.body+1
 .rw [if_pos d];have r:=S9 (O++[EI]) (by simp;omega);have G:(O.map AV.str).length=O.length:=z0s _;repeat' ((first|refine wI ?_|refine iT k ?_|refine iT x ?_|(apply bD<;>intro _<;>try omega))<;>conv=>whnf)
  all_goals try (exfalso;omega)
  refine ZV 0 rfl v (.cons (.p (Sub.refl _)) .nil) (fun u=>?_) (fun q e sz es H=>?_);rotate_left;obtain⟨rfl,rfl,rfl⟩:=H
  rotate_right
  subst u;all_goals
   conv=>whnf
   repeat' ((first|refine gX ?_|refine XK (es:=[]) rfl (by simp) ?_|refine pS ?_|(refine cH rH1 0 r ?_)|(refine cH rH1 0 r ?_ (ha:=(z1e (z6m (by simp;rfl)) z3a)) (hH:=z1i (j:=0) rfl rfl (CSub.of_eq (by simp;rfl)) z4x)))<;>conv=>whnf)
   all_goals first
    |exact⟨_,.hd rfl (by simp),rfl⟩
 .rw [if_neg d];by_cases g:a=0
  .rw [if_pos g];repeat' ((first|refine wI ?_|refine iT k ?_|(apply bD<;>intro _<;>try omega))<;>conv=>whnf)
   all_goals first
    |(exfalso;omega)
    |exact⟨_,.p Sub.nils,rfl⟩
  .rw [if_neg g];have c:QH (QQ p i f).p (QQ p i f).j (QQ p i f).n a=((QL p.A i+a:Nat):Int):=by
    show QH p i (QY f.body+2:Nat) a=_;unfold QH loI;rw[if_neg (by omega),if_neg (by omega)];omega
   rw[c]at m;have y:(b.Q.map eStrs)[QL p.A i+a-1]?=some (eStrs (b.Q.getD (QL p.A i+a-1) [])):=by
    rw[z1u,z0a,z0c (by omega)];rfl
   generalize(QQ p i f).live.getD a false=lv at*
   cases lv;all_goals
    repeat' ((first|refine dA ?_|refine wI ?_|refine iT k ?_|refine iT z ?_|refine cP m ?_|refine iT y ?_|(apply bD<;>intro _<;>try omega))<;>conv=>whnf)
    all_goals first
     |(exfalso;omega)
     |contradiction
     |exact⟨_,.p Sub.nils,rfl⟩
     |exact⟨_,.p (Sub.refl _),rfl⟩
section
variable {P:Program}{T:Tab}{N:Nat}
def Rb(l:List (List UInt8×List AV))(k:List UInt8):List AV:=(Sb l k).getD []
def I7{s':St}{β:Lab}{ac:Act}{w:World}(Q:Rel N σ β s ac w){k q:Nat}(hu:WD q s=true){i i':BInfo}{o2:Option BInfo}(hi:β k=some i){c0:Chunk}(hg:getH s.H k=some c0)(D:i'.blk=i.blk/\i'.cap=i.cap/\i'.sz=i.sz)(hhas:∀b,i'.has b->i.has b)(f:∀I,o2=some I->∀b,I.has b->i.has b/\¬i'.has b)(hpin:WV k=false){c c2:Chunk}(h:DU s k q c c2 fun s2=>s2=s')(hc:∀β':Lab,β' k=some i'->β' q=o2->c.holds σ β' w k/\c2.holds σ β' w q):
  ∃β',Rel N σ β' s' ac w/\Later σ β s.H w σ β' s'.H w/\β' q=o2/\β' k=some i'/\∀l v,l.xfree k=true->l.free q=true->RepL σ β l v->RepL σ β' l v:=by
 obtain⟨sl,h,hsl⟩:=VT (by rfl) h;obtain⟨H2,rfl,R,O⟩:=VS h;obtain⟨hu1,hu2⟩:=ZZ hu;have hu3:=KR hu;have hk1:=QT hg;have hne:k≠q:=fun he=>(hu1 k _ (QD hg)).1 he;have hnm:q∉s.H.map (·.1):=fun hk=>by
  obtain⟨⟨j,c⟩,F,rfl⟩:=z1z.1 hk;exact(hu1 j c F).1 rfl
 have M:∀j∈H2.map (·.1),j∈s.H.map (·.1)/\j≠q:=fun j z=>by
  refine⟨R.subset z,fun he=>?_⟩;obtain⟨⟨j',c⟩,F,rfl⟩:=z1z.1 z;exact(O j' c F).1 he
 let β':Lab:=(β.set k (some i')).set q o2;have a:∀j,j≠k->j≠q->β' j=β j:=fun j p x=>by simp[β',Lab.set,p,x]
 have r:β' k=some i':=by simp[β',Lab.set,hne]
 have n:β' q=o2:=by simp[β',Lab.set]
 have hlv:∀l v,l.xfree k=true->l.free q=true->RepL σ β l v->RepL σ β' l v:=fun l v p x hl=>(hl.subs (i':=i') hi D p).set o2 x;have hkf:∀l:LV,l.free q=true->(l.xkill k).free q=true:=fun l h=>by
  unfold LV.xkill;cases l.xfree k
  .rfl
  .exact h
 have A:∀j J,β' j=some J->(j=k\/j=q\/j∈s.H.map (·.1))->∀b,J.has b->∃C U,C∈s.H.map (·.1)/\β C=some U/\U.has b/\(j≠k->j≠q->C=j)/\(j=k\/j=q->C=k):=fun j J y z b D=>by
  by_cases p:j=k
  .subst p;rw[r]at y;cases y;exact⟨_,i,hk1,hi,hhas b D,fun h=>absurd rfl h,fun _=>rfl⟩
  .by_cases x:j=q
   .subst x;rw[n]at y;exact⟨k,i,hk1,hi,(f J y b D).1,fun _ h=>absurd rfl h,fun _=>rfl⟩
   .rw [a j p x]at y;exact⟨j,J,(z.resolve_left p).resolve_left x,y,D,fun _ _=>rfl,fun h=>absurd h (by simp[p,x])⟩
 have e:∀j∈((q,c2)::H2).map (·.1),j=k\/j=q\/j∈s.H.map (·.1):=fun j z=>by
  simp only[z1t,z1g]at z;rcases z with z|z
  .exact .inr (.inl z)
  .exact .inr (.inr (M j z).1)
 obtain⟨hck,hck2⟩:=hc β' r n;refine⟨β',⟨Q.size,Q.defers,fun j=>?_,⟨Q.heap.mem,fun j c z=>?_,?_,fun j z J y b D=>?_,fun j z j' hj' i1 I p x b Z hb2=>?_⟩⟩,⟨Mem.le_refl σ,Frm.refl _ _,fun _ h0 p=>absurd h0 p,fun b ⟨j,z,J,y,D⟩=>?_,fun j h0 p=>a j (Sk hpin j h0 p) (by omega)⟩,n,r,hlv⟩
 .show RepL σ β' (getS sl j) _;rw[hsl];exact hlv _ _ (WS k _) (hkf _ (hu2 j)) ((Q.G j).xkill k)
 .rcases z1g.1 z with he|z
  .cases he;exact hck2
  .obtain ⟨E,⟨rfl,rfl⟩|⟨p,c0,x,rfl⟩⟩:=O j c z
   .exact hck
   .have hfr:=(hu1 j c0 x);have g:=Q.heap.chunks j c0 x;cases c0 with
    | obj e' cs=>
      obtain⟨I,vs2,hi2,hh2,hn2,hc2⟩:=g;refine⟨I,vs2,(a j p E).trans hi2,hh2,by simpa using hn2,fun m l F=>?_⟩;rw[z1u]at F;cases hq:cs[m]?with
      |none=>rw[hq]at F;cases F
      | some l'=>
        rw[hq]at F;cases F;obtain⟨u,h5,Y⟩:=hc2 m l' hq;exact⟨u,h5,hlv _ _ (WS k _) (hkf _ (XA hfr.2 m l' hq)) (Y.xkill k)⟩
    | own e' sz' es'=>
      rcases g with⟨h5,Y⟩|⟨I,vs2,hi2,rest⟩
      .exact .inl ⟨(a j p E).trans h5,Y⟩
      .exact .inr ⟨I,vs2,(a j p E).trans hi2,rest⟩
    | ext d=>
      show d.holds σ (β' j) w;rw[a j p E];exact g
 .simp only[z1t,z2i];exact⟨fun hk=>(M q hk).2 rfl,R.nodup Q.heap.nodup⟩
 .obtain ⟨C,U,p,x,h3,_⟩:=A j J y (e j z) b D;exact Q.heap.apart C p U x b h3
 .obtain ⟨C,U,h3,h4,h5,Y,h7⟩:=A j i1 p (e j z) b Z;obtain⟨j1,i3,h8,h9,h10,V,h12⟩:=A j' I x (e j' hj') b hb2;have hj01:=Q.heap.inj C h3 j1 h8 U i3 h4 h9 b h5 h10;by_cases L:j=k<;>by_cases e2:j'=k
  .rw [L,e2]
  .by_cases B:j'=q
   .subst L B;rw[r]at p;cases p;rw[n]at x;exact absurd Z (f I x b hb2).2
   .have:=h7 (.inl L);have:=V e2 B;exact absurd (by omega) e2
  .by_cases B:j=q
   .subst e2 B;rw[r]at x;cases x;rw[n]at p;exact absurd hb2 (f i1 p b Z).2
   .have:=h12 (.inl e2);have:=Y L B;exact absurd (by omega) L
  .by_cases B:j=q<;>by_cases e4:j'=q
   .rw [B,e4]
   .have:=h7 (.inr B);have:=V e2 e4;exact absurd (by omega) e2
   .have:=h12 (.inr e4);have:=Y L B;exact absurd (by omega) L
   .have:=Y L B;have:=V e2 e4;omega
 .obtain ⟨C,U,p,x,h3,_⟩:=A j J y (e j z) b D;exact .inl ⟨C,p,U,x,h3⟩
def RU(e sz:Nat)(m:o.op=.makeMap t none)(h:NX 60 0 s fun k=>setD N s.sl o.dst (.ext k .map) fun sl=>K ⟨sl,(k,.ext (.mapr e sz [] none))::s.H⟩):OpK P N s o K:=by
 refine⟨fun σ β a w y Q=>?_⟩;obtain⟨k,q,h⟩:=JO h;have i:(Chunk.ext (.mapr e sz [] none)).holds σ (β.set k (some ⟨w.heap.size,0,0,[],z1q _⟩)) (w.alloc (.map #[] 0)) k:=
  ⟨⟨w.heap.size,0,0,[],z1q _⟩,#[],0,by simp[Lab.set],heap_alloc_new w _,⟨.nil,fun x z=>by cases z⟩,rfl,rfl,.nil,fun a b c h=>by simp at h,fun a x h=>by simp at h⟩
 obtain⟨n,r⟩:=y.new q rfl rfl i;obtain⟨sl,p,l⟩:=n.setD (v:=.ext k .map) (u:=.map (some w.heap.size)) (.ext k .map ⟨w.heap.size,0,0,[],z1q _⟩ _ (by simp[Lab.set]) rfl) h;exact ZP (w':=w.alloc (.map #[] 0)) (by simp[execOp,m,Instr.makeMap]) ⟨σ,_,_,p,l,r⟩
def OZ{l:List (List UInt8×α)}{es:Array MapEntry}(q:es.size=l.length)(k:∀(m:Nat)(x:List UInt8×α),l[m]?=some x->∃e:MapEntry,es[m]?=some e/\e.key=GV x.1):es.toList.map (·.key)=l.map (fun x=>GV x.1):=by
 apply z7t;intro m;rw[z1u,z1u];cases i:l[m]?with
 | none=>
   have:es.toList[m]?=none:=by
    rw[List.getElem?_eq_none_iff]at i⊢;simp;omega
   rw[this];rfl
 | some x=>
   obtain⟨e,n,p⟩:=k m x i;have h:es.toList[m]?=some e:=by simpa using n
   rw[h];simp[p]
def Ou{l:List (List UInt8×α)}{k:List UInt8}(h:(l.findIdx? fun x=>decide (k=x.1))=none):Sb l k=none:=by
 unfold Sb;rw[List.findIdx?_eq_none_iff]at h;rw[z3l.2 fun x i=>by simpa using h x i];rfl
def Tf{l:List (List UInt8×α)}{k:List UInt8}(h:(l.findIdx? fun x=>decide (k=x.1))=some j):∃x,l[j]?=some x/\x.1=k/\Sb l k=some x.2:=by
 obtain⟨m,n,p⟩:=List.findIdx?_eq_some_iff_getElem.1 h;refine⟨l[j],z0c m,(by simpa using n:k=l[j].1).symm,?_⟩;unfold Sb;have:l.find? (fun x=>decide (k=x.1))=some l[j]:=List.find?_eq_some_iff_getElem.2 ⟨n,j,m,rfl,fun i q=>by simpa using p i q⟩;rw[this];rfl
def A7{l:List (List UInt8×α)}(h:(l.map (·.1)).Nodup){i:Nat}{x y:List UInt8×α}(p:l[i]?=some x)(q:l[j]?=some y)(n:x.1=y.1):i=j:=by
 have k:=(z1k.1 p);have m:=(z1k.1 q);obtain⟨k,rfl⟩:=k;obtain⟨m,rfl⟩:=m;refine(List.getElem_inj (h₀:=by simpa using k) (h₁:=by simpa using m) h).1 ?_;simpa using n
def Ir(hT:TabOK P T){x ix:Operand}(J:Nat)(hop:o.op=.lookup t x ix false){k:Nat}(hx:QR s.sl x=.ext k .map){e sz:Nat}{l:List (List UInt8×List AV)}(hg:getH s.H k=some (.ext (.mapr e sz l none))){z:List UInt8}(hk:QR s.sl ix=.p (.str z)){i ik ie:TyI}{kt et:TypeId}(ht:T.get t=some i)(hd:i.desc=.map kt et)(htk:T.get kt=some ik)(hdk:ik.desc=.string)(hte:T.get et=some ie)(hze:ie.zero=.slice none 0 0)(hu:WD J s=true)(hpin:WV k=false)(h:DU s k J (.ext (.mapr e sz l (some z))) (.own e sz (Rb l z)) fun s2=>setD N s2.sl o.dst (.hd J 0 (Rb l z).length) fun sl=>K ⟨sl,s2.H⟩):OpK P N s o K:=by
 obtain⟨s2,h,he⟩:=Pk h;refine⟨fun σ β a w hr Q=>?_⟩;have hx':=QU hr.G x;have hk':=QU hr.G ix;rw[hx]at hx';rw[hk]at hk';have hkv:=AF hk';generalize hxe:a.eval x=xv at hx';cases hx' with
 | ext _ _ f _ hbi hd'=>
   obtain rfl:xv=.map (some f.blk):=hd';obtain⟨bi',es,R,M,hh,hbo,h1,h2,h3,h4,h5⟩:=hr.heap.chunks k _ (QD hg);rw[hbi]at M;cases M;have V:=OZ h1 fun m x hm=>let ⟨U,g1,g2,_⟩:=h5 m x hm;⟨U,g1,g2⟩;have hu':=hT.of ht;have F:=hT.of htk;rw[hd]at hu';rw[hdk]at F;have n:=MN z es.toList l 0 V;let i':BInfo:=⟨f.blk,f.cap,f.sz,List.zipWith (fun(x:List UInt8×List AV) o=>if x.1=z then none else o) l f.subs,f.ok⟩;have d:∀(p:Nat)(x:List UInt8×List AV),l[p]?=some x->i'.subs[p]?=if x.1=z then some none else f.subs[p]?:=fun p x g=>by
    show(List.zipWith _ l f.subs)[p]?=_;have E:p<f.subs.length:=by rw[h2];exact(z1k.1 g).1
    rw[List.getElem?_zipWith,g,z0c E];simp only;split<;>rfl
   have u:∀(p b c:Nat),i'.subs[p]?=some (some (b,c))->f.subs[p]?=some (some (b,c))/\∃x,l[p]?=some x/\x.1≠z:=fun p b c g=>by
    have E:p<l.length:=by
     have:=(z1k.1 g).1;simp only[i',z8j]at this;omega
    have D:=d p _ (z0c E);rw[g]at D;split at D
    .cases D
    .rename_i h7;exact⟨D.symm,_,z0c E,h7⟩
   have hhas:∀b,i'.has b->f.has b:=fun b A=>by
    rcases A with A|⟨c,A⟩
    .exact .inl A
    .obtain ⟨p,g⟩:=z3s.1 A;exact .inr ⟨c,z1d (u p b c g).1⟩
   have Y:∀β':Lab,β' k=some i'->(Chunk.ext (.mapr e sz l (some z))).holds σ β' w k:=fun β' I=>by
    refine⟨i',es,R,I,hh,hbo,h1,by show(List.zipWith _ l f.subs).length=_;rw[z8j,h2];omega,h3,fun p b c g=>?_,fun p x g=>?_⟩
    .obtain ⟨D,_⟩:=u p b c g;exact⟨(h4 p b c D).1,fun p' c' Z=>(h4 p b c D).2 p' c' (u p' b c' Z).1⟩
    .obtain ⟨U,g1,g2,_,g4⟩:=h5 p x g;refine⟨U,g1,g2,fun hq=>?_,fun hq=>?_⟩
     .rw [d p x g,if_pos (z3q hq).symm]
     .obtain ⟨b,c,ws,q1,q2⟩:=g4 (by simp);refine⟨b,c,ws,?_,q2⟩;rw[d p x g,if_neg (fun hh=>hq (by rw[hh]))];exact q1
   obtain⟨o2,L,ho2,hrun,hown,hrep⟩ : ∃(o2:Option BInfo) (L:Value),(∀O,o2=some O->O.subs=[]/\∃(p c:Nat) (x:List UInt8×List AV),l[p]?=some x/\x.1=z/\f.subs[p]?=some (some (O.blk,c)))/\(execOp a.eval o).run P w=.ok (.value L) w/\
     (∀β':Lab,β' J=o2->(Chunk.own e sz (Rb l z)).holds σ β' w J)/\∀β':Lab,β' J=o2->RepL σ β' (.hd J 0 (Rb l z).length) L:=by
    have C:∀(L:Value)(r:Option (Nat×Value)),(Instr.findKey kt (GV z) es.toList).run P w=.ok r w->(r=none->L=.slice none 0 0)->(∀q,r=some q->L=q.2)->(execOp a.eval o).run P w=.ok (.value L) w:=fun L r hfk hn hs=>by
     have hlk:(Instr.lookup t (.map (some f.blk)) (GV z) false).run P w=.ok L w:=by
      unfold Instr.lookup;rw[Sem.run_bind,run_underlying hu',Result.andThen_ok];simp only[Sem.run_bind,KQ hh,Result.andThen_ok,Sem.run_pure,GI F,hfk];cases r with
      | none=>
        rw[hn rfl];simp only[Sem.run_bind,TyOK.zeroValue (hT _ _ hte),hze,Result.andThen_ok,Sem.run_pure];rfl
      | some q=>
        rw[hs q rfl];rfl
     simp only[execOp,hop,hxe,hkv,Sem.run_bind,hlk,Result.andThen_ok];rfl
    cases hj:l.findIdx? fun x=>decide (z=x.1)with
    | none=>
      rw[hj]at n;have v:Rb l z=[]:=by unfold Rb;rw[Ou hj];rfl
      refine⟨none,.slice none 0 0,fun O h=>(by cases h),C _ none ?_ (fun _=>rfl) (fun q h=>by cases h),fun β' I=>.inl ⟨I,v⟩,fun β' I=>?_⟩
      .unfold Instr.findKey;rw[Sem.run_bind,run_underlying F,Result.andThen_ok,n];rfl
      .rw [v];exact .hdn J I
    | some j=>
      rw[hj]at n;obtain⟨y,hy1,hy2,hy3⟩:=Tf hj;have v:Rb l z=y.2:=by unfold Rb;rw[hy3];rfl
      obtain⟨U,g1,g2,_,g4⟩:=h5 j y hy1;obtain⟨b,c,ws,q1,q2,q3,q4,q5,q6,q7⟩:=g4 (by simp);have g1':es.toList[j]?=some U:=by simpa using g1
      simp only[g1',z3i,z2l]at n;refine⟨some ⟨b,c,sz,[],q6⟩,U.val,fun O h=>?_,C _ (some (0+j,U.val)) ?_ (fun h=>by cases h) (fun q h=>by cases h;rfl),fun β' I=>?_,fun β' I=>?_⟩
      .cases h;exact⟨rfl,j,c,y,hy1,hy2,q1⟩
      .unfold Instr.findKey;rw[Sem.run_bind,run_underlying F,Result.andThen_ok,n];rfl
      .rw [v];exact .inr ⟨⟨b,c,sz,[],q6⟩,ws,I,rfl,q3,q4,q5,q6,q7⟩
      .rw [v,q2];have:=z8f (σ:=σ) (β:=β') J 0 y.2.length ⟨b,c,sz,[],q6⟩ 0 I (by simpa using q5) (.inl (by simp));simpa using this
   obtain⟨β',hr',hl,hb2,_,_⟩:=I7 (i':=i') (o2:=o2) hr hu hbi hg ⟨rfl,rfl,rfl⟩ hhas (fun O h b A=>by
    obtain⟨D,p,c,x,h7,h8,h9⟩:=ho2 O h;have he:O.blk=b:=by
     rcases A with A|⟨c,A⟩
     .exact A
     .rw [D]at A;cases A
    subst he;refine⟨.inr ⟨c,z1d h9⟩,fun B=>?_⟩;rcases B with B|⟨c',B⟩
    .exact (h4 p _ c h9).1 B
    .obtain ⟨p',Z⟩:=z3s.1 B;obtain⟨h10,x',h11,h12⟩:=u p' _ c' Z;obtain rfl:=(h4 p _ c h9).2 p' c' h10;rw[h7]at h11;cases h11;exact h12 h8) hpin he fun β' g1 g2=>⟨Y β' g1,hown β' g2⟩
   obtain⟨sl,hK,hr''⟩:=hr'.setD (hrep β' hb2) h;exact ZP hrun ⟨σ,β',_,hK,hr'',hl⟩
def q2a(hT:TabOK P T){x ix vx:Operand}(hop:o.op=.mapUpdate t x ix vx)(hdst:o.dst=none){k:Nat}(hx:QR s.sl x=.ext k .map){e sz:Nat}{l:List (List UInt8×List AV)}{q:List UInt8}(hg:getH s.H k=some (.ext (.mapr e sz l (some q))))(hk:QR s.sl ix=.p (.str q)){V n:Nat}(hvx:QR s.sl vx=.hd V 0 n){g:List AV}(hg2:getH s.H V=some (.own e sz g))(hn:n=g.length)(hpos:0<n){i ik:TyI}{kt et:TypeId}(ht:T.get t=some i)(hd:i.desc=.map kt et)(htk:T.get kt=some ik)(hdk:ik.desc=.string)(hpin:(WV k||WV V)=false)(hne:k≠V)(h:OD s k V (.ext (.mapr e sz (Xu l q g) none)) K):OpK P N s o K:=by
 refine⟨fun σ β a w M Q=>?_⟩;obtain⟨sl,h,hsl⟩:=VT (by rfl) h;obtain⟨H2,hK,hsub,hmem⟩:=VS h;simp only[z6j]at hpin;have hx':=QU M.G x;have hk':=QU M.G ix;have hv':=QU M.G vx;rw[hx]at hx';rw[hk]at hk';rw[hvx]at hv';have hkv:=AF hk';have hk1:=QT hg;have hk2:=QT hg2;generalize hxe:a.eval x=xv at hx';generalize hve:a.eval vx=vv at hv';cases hx' with
 |ext _ _ f _ hbi hd'=>
 obtain rfl:xv=.map (some f.blk):=hd';obtain⟨bi',es,O,hbi',hh,hbo,F,h2,h3,h4,h5⟩:=M.heap.chunks k _ (QD hg);rw[hbi]at hbi';cases hbi';obtain⟨B,ws,R,hvv,r1,r2,r3,r4,r5⟩ : ∃B ws,β V=some B/\vv=.slice (some ⟨B.blk,0,none⟩) g.length B.cap/\w.heap[B.blk]?=some (.cells ws e (0,0))/\ws.size=B.cap*sz/\g.length<=B.cap/\B.cap<=maxLen/\
   ∀(m:Nat)(x:AV),g[m]?=some x->x.cells.length=sz/\∀(j:Nat)(c':AV),x.cells[j]?=some c'->∃u:Value,ws[m*sz+j]?=some u/\Rep σ c' u:=by
  rcases M.heap.chunks V _ (QD hg2)with⟨_,hes⟩|⟨B,ws,R,g1,g2,g3,g4,g5,g6⟩
  .rw [hes]at hn;simp at hn;omega
  .rcases hv'.hdI with⟨hk,_⟩|⟨i3,oo,hk,hl,ho,d⟩
   .rw [R]at hk;cases hk
   .rw [R]at hk;cases hk;have hoo:oo=0:=by
     rcases ho with ho|ho
     .simpa using ho
     .omega
    subst hoo;exact⟨B,ws,R,by rw[d,hn];simp,g2,by rw[g3],g4,g5,g6⟩
 have hkeys:=OZ F fun m x hm=>let ⟨Y,g1,g2,_⟩:=h5 m x hm;⟨Y,g1,g2⟩;have hu':=hT.of ht;have huk:=hT.of htk;rw[hd]at hu';rw[hdk]at huk;have E:=MN q es.toList l 0 hkeys;have hlt:=(M.heap.apart k hk1 f hbi f.blk f.has_blk).2;obtain⟨es',r,C,hrun,hbo',hsz,hsl',hnd',hent⟩ : ∃(es':Array MapEntry) (r:Nat) (C:List (Option (Nat×Nat))),(Instr.mapUpdate t (.map (some f.blk)) (GV q) vv).run P w=.ok () {w with heap:=w.heap.setIfInBounds f.blk (.map es' r)}/\Jg es' r/\es'.size=(Xu l q g).length/\C.length=(Xu l q g).length/\((Xu l q g).map (·.1)).Nodup/\
   ∀(m:Nat)(x:List UInt8×List AV),(Xu l q g)[m]?=some x->∃Y:MapEntry,es'[m]?=some Y/\Y.key=GV x.1/\(x.1=q->Y.val=vv/\C[m]?=some (some (B.blk,B.cap))/\x.2=g)/\(x.1≠q->l[m]?=some x/\es[m]?=some Y/\C[m]?=f.subs[m]?):=by
  cases L:l.findIdx? fun x=>decide (q=x.1)with
  | none=>
    rw[L]at E;rw[Do L];refine⟨es.push {key:=GV q,val:=vv,born:=O},O+1,f.subs++[some (B.blk,B.cap)],?_,Hw hbo rfl,by simpa using F,by simp[h2],?_,fun m y hy=>?_⟩
    .have hfk:(Instr.findKey kt (GV q) es.toList).run P w=.ok none w:=by
      unfold Instr.findKey;rw[Sem.run_bind,run_underlying huk,Result.andThen_ok,E];rfl
     unfold Instr.mapUpdate;rw[Sem.run_bind,run_underlying hu',Result.andThen_ok];simp only[Sem.run_bind,KQ hh,Result.andThen_ok,Sem.run_pure,GI huk,hfk,Q6 _ hh]
    .rw [z1v,z3v];refine⟨h3,by simp,fun u hu v hv=>?_⟩;simp only[z1t,z5h,z0i]at hv;obtain⟨z,hz,rfl⟩:=z1z.1 hu;have:=List.findIdx?_eq_none_iff.1 L z hz;intro d;rw[d,hv]at this;simp at this
    .rw [z5w]at hy;split at hy
     .rename_i hm;obtain⟨Y,g1,g2,_⟩:=h5 m y hy;have hyk:y.1≠q:=fun d=>by
       have:=List.findIdx?_eq_none_iff.1 L y (z1d hy);rw[d]at this;simp at this
      have hms:m<es.size:=by omega
      exact⟨Y,by rw[z7j,if_neg (by omega)];exact g1,g2,fun d=>absurd d hyk,fun _=>⟨hy,g1,by rw[z2a (by omega)]⟩⟩
     .rename_i hm;have hm0:m-l.length=0:=by
       have:=(z1k.1 hy).1;simp at this;omega
      rw[hm0]at hy;simp at hy;subst hy;exact⟨{key:=GV q,val:=vv,born:=O},by rw[z7j,if_pos (by omega)],rfl,fun _=>⟨rfl,by rw[z2f (by omega),h2,hm0];rfl,rfl⟩,fun d=>absurd rfl d⟩
  | some j=>
    rw[L]at E;obtain⟨y,hy1,hy2⟩:=Sg (v:=g) L;obtain⟨y',hy3,hy4,_⟩:=Tf L;rw[hy1]at hy3;cases hy3;rw[hy2];obtain⟨Y,g1,g2,g3,_⟩:=h5 j y hy1;have g1':es.toList[j]?=some Y:=by simpa using g1
    have hjlt:j<es.size:=(z1a.1 g1).1;simp only[g1',z3i,z2l,z3m]at E;have hek:Y.key=GV q:=by rw[g2,hy4];rfl
    refine⟨es.modify j fun e=>{e with key:=GV q,val:=vv},O,f.subs.set j (some (B.blk,B.cap)),?_,Wb hbo j fun _=>rfl,by simpa using F,by simp[h2],?_,fun m z hz=>?_⟩
    .have hfk:(Instr.findKey kt (GV q) es.toList).run P w=.ok (some (j,Y.val)) w:=by
      unfold Instr.findKey;rw[Sem.run_bind,run_underlying huk,Result.andThen_ok,E];rfl
     have hkt:(Instr.keyThatStays (((es[j]?).map (·.key)).getD (GV q)) (GV q)).run P w=.ok (GV q) w:=by
      rw[g1];simp only[z3i,z2l,hek];unfold Instr.keyThatStays;have:Instr.sameBits 10000 (GV q) (GV q)=true:=by
       unfold GV;show((⟨q.toArray⟩:ByteArray)==⟨q.toArray⟩)=true;rw[Hv];simp
      rw[if_pos this];rfl
     unfold Instr.mapUpdate;rw[Sem.run_bind,run_underlying hu',Result.andThen_ok];simp only[Sem.run_bind,KQ hh,Result.andThen_ok,Sem.run_pure,GI huk,hfk,hkt,Q6 _ hh]
    .rw [z3w];have:(l.map (·.1)).set j y.1=l.map (·.1):=by
      apply z7t;intro m;by_cases hm:m=j
      .subst hm;have hml:m<l.length:=(z1k.1 hy1).1;rw[z3j (by simpa using hml),z1u,hy1];rfl
      .rw [z3p (z5q hm)]
     rw[this];exact h3
    .by_cases hm:m=j
     .subst hm;rw[z3j (by omega)]at hz;cases hz;exact⟨{Y with key:=GV q,val:=vv},by simp[z5u,g1],by rw[hy4],fun _=>⟨rfl,by rw[z3j (by omega)],rfl⟩,fun d=>absurd hy4 d⟩
     .rw [z3p (z5q hm)]at hz;obtain⟨e'',g4,g5,_⟩:=h5 m z hz;have hzk:z.1≠q:=fun d=>hm (A7 h3 hz hy1 (by rw[d,hy4]));exact⟨e'',by rw[z5u,if_neg (z5q hm)];exact g4,g5,fun d=>absurd d hzk,fun _=>⟨hz,g4,by rw[z3p (z5q hm)]⟩⟩
 have hrun':(execOp a.eval o).run P w=.ok .skip {w with heap:=w.heap.setIfInBounds f.blk (.map es' r)}:=by
  simp only[execOp,hop,hxe,hkv,hve,Sem.run_bind,hrun,Result.andThen_ok];rfl
 let w':World:={w with heap:=w.heap.setIfInBounds f.blk (.map es' r)};let i':BInfo:=⟨f.blk,f.cap,f.sz,C,f.ok⟩;let β':Lab:=(β.set V none).set k (some i');have hset:∀j,j≠k->j≠V->β' j=β j:=fun j F h2=>by simp[β',Lab.set,F,h2]
 have hsetk:β' k=some i':=by simp[β',Lab.set]
 have A:∀b,b≠f.blk->w'.heap[b]?=w.heap[b]?:=fun b J=>z5z (z5q J);have U:∀(p b c:Nat),C[p]?=some (some (b,c))->(b=B.blk/\∃x,(Xu l q g)[p]?=some x/\x.1=q)\/(f.subs[p]?=some (some (b,c))/\∃x,(Xu l q g)[p]?=some x/\x.1≠q):=fun p b c hp=>by
  have hlt:p<(Xu l q g).length:=by
   have:=(z1k.1 hp).1;omega
  have hq:=z0c hlt;obtain⟨Y,_,_,g3,g4⟩:=hent p _ hq;by_cases d:((Xu l q g)[p]).1=q
  .obtain ⟨_,g5,_⟩:=g3 d;rw[hp]at g5;cases g5;exact .inl ⟨rfl,_,hq,d⟩
  .obtain ⟨_,_,g5⟩:=g4 d;rw[hp]at g5;exact .inr ⟨g5.symm,_,hq,d⟩
 have hhas:∀b,i'.has b->f.has b\/B.has b:=fun b J=>by
  rcases J with J|⟨c,J⟩
  .exact .inl (.inl J)
  .obtain ⟨p,hp⟩:=z3s.1 J;rcases U p b c hp with⟨Z,_⟩|⟨Z,_⟩
   .exact .inr (.inl Z.symm)
   .exact .inl (.inr ⟨c,z1d Z⟩)
 have D:∀b,f.has b->¬B.has b:=fun b Z h7=>hne (M.heap.inj k hk1 V hk2 f B hbi R b Z h7);have hlab:∀j∈H2.map (·.1),j∈s.H.map (·.1)/\j≠V:=fun j L=>by
  refine⟨hsub.subset L,fun d=>?_⟩;obtain⟨⟨j',c⟩,hm,rfl⟩:=z1z.1 L;exact(hmem j' c hm).1 d
 have hwas:∀j,j≠V->∀ij,β' j=some ij->∀b,ij.has b->(∃i0,β j=some i0/\i0.has b)\/(j=k/\B.has b):=fun j L ij I b J=>by
  by_cases hjk:j=k
  .subst hjk;rw[hsetk]at I;cases I;rcases hhas b J with F|F
   .exact .inl ⟨f,hbi,F⟩
   .exact .inr ⟨rfl,F⟩
  .rw [hset j hjk L]at I;exact .inl ⟨ij,I,J⟩
 have hlv:∀l v,RepL σ β l v->RepL σ β' ((l.kill V).xkill k) v:=fun l v hl=>by
  have F:=((hl.kill V).set none (LV.kill_free V l)).xkill k;exact F.subs (i:=f) (by simp[Lab.set,hne,hbi]) ⟨rfl,rfl,rfl⟩ (WS k _)
 have hheap:HRel σ β' H2 w':=by
  refine⟨fun b c J=>?_,fun j c L=>?_,hsub.nodup M.heap.nodup,fun j L ij I b J=>?_,fun j L j' hj' i1 i2' F h2 b hb1 hb2=>?_⟩
  .obtain ⟨Y,fr,Z⟩:=M.heap.mem b c J;exact⟨Y,fr,(A b fun d=>by rw[d,(M.heap.apart k hk1 f hbi f.blk f.has_blk).1]at J;cases J).trans Z⟩
  .obtain ⟨hj2,⟨rfl,rfl⟩|⟨hjk,c0,hm0,rfl⟩⟩:=hmem j c L
   .refine ⟨i',es',r,hsetk,by show(w.heap.setIfInBounds f.blk _)[f.blk]?=_;simp[hlt],hbo',hsz,hsl',hnd',fun p b c hp=>?_,fun p x hp=>?_⟩
    .rcases U p b c hp with⟨Z,x,h7,h8⟩|⟨Z,x,h7,h8⟩
     .refine ⟨fun d=>D f.blk f.has_blk (.inl (by rw[<-Z];exact d.symm)),fun p' c' hp'=>?_⟩;rcases U p' b c' hp' with⟨_,x',h9,h10⟩|⟨h9,_⟩
      .exact A7 hnd' h9 h7 (by rw[h10,h8])
      .exact absurd (.inl Z.symm) (D b (.inr ⟨c',z1d h9⟩))
     .refine ⟨(h4 p b c Z).1,fun p' c' hp'=>?_⟩;rcases U p' b c' hp' with⟨h9,_⟩|⟨h9,_⟩
      .exact absurd (.inl h9.symm) (D b (.inr ⟨c,z1d Z⟩))
      .exact (h4 p b c Z).2 p' c' h9
    .obtain ⟨Y,g1,g2,g3,g4⟩:=hent p x hp;refine⟨Y,g1,g2,fun hh=>(by cases hh),fun _=>?_⟩;by_cases d:x.1=q
     .obtain ⟨g5,g6,g7⟩:=g3 d;refine⟨B.blk,B.cap,ws,g6,by rw[g5,hvv,g7],(A _ fun hh=>D f.blk f.has_blk (.inl hh)).trans r1,r2,by rw[g7];exact r3,r4,by rw[g7];exact r5⟩
     .obtain ⟨g5,g6,g7⟩:=g4 d;obtain⟨e'',q1,_,_,q4⟩:=h5 p x g5;rw[g6]at q1;cases q1;obtain⟨b,c,ws',q5,q6,q7,q8⟩:=q4 fun hh=>d (z3q hh).symm;exact⟨b,c,ws',by rw[g7];exact q5,q6,(A b fun hh=>(h4 p b c q5).1 hh.symm).trans q7,q8⟩
   .have hjl:j∈s.H.map (·.1):=z1z.2 ⟨_,hm0,rfl⟩;refine(M.heap.chunks j c0 hm0).mapL (Mem.le_refl σ) hlv (hset j hjk hj2) fun ij I b J=>A b fun d=>hjk ?_;exact M.heap.inj j hjl k hk1 ij f I hbi b J (.inl d.symm)
  .obtain ⟨F,h2⟩:=hlab j L;have hsz':w'.heap.size=w.heap.size:=by simp[w']
   rw[hsz'];rcases hwas j h2 ij I b J with⟨i0,h3,h4⟩|⟨_,h4⟩
   .exact M.heap.apart j F i0 h3 b h4
   .exact M.heap.apart V hk2 B R b h4
  .obtain ⟨h3,h4⟩:=hlab j L;obtain⟨h5,Z⟩:=hlab j' hj';rcases hwas j h4 i1 F b hb1 with⟨i3,h7,h8⟩|⟨e1,h8⟩<;>rcases hwas j' Z i2' h2 b hb2 with⟨i4,h9,h10⟩|⟨e2,h10⟩
   .exact M.heap.inj j h3 j' h5 i3 i4 h7 h9 b h8 h10
   .exact absurd (M.heap.inj j h3 V hk2 i3 B h7 R b h8 h10) h4
   .exact absurd (M.heap.inj j' h5 V hk2 i4 B h9 R b h10 h8) Z
   .rw [e1,e2]
 refine Gp hrun' ⟨σ,β',⟨sl,H2⟩,hK,⟨?_,?_,?_,hheap⟩,Mem.le_refl σ,⟨rfl,rfl,rfl,z1l _,by simp,fun b _ hn=>A b fun d=>hn ⟨k,hk1,f,hbi,.inl d.symm⟩⟩,fun b h0 F=>absurd h0 F,fun b ⟨j,L,ij,I,J⟩=>?_,fun j h0 F=>hset j (Sk hpin.1 j h0 F) (Sk hpin.2 j h0 F)⟩
 .rw [hdst];exact M.size
 .rw [hdst];exact M.defers
 .rw [hdst];exact fun j=>by show RepL σ β' (getS sl j) _;rw[hsl];exact hlv _ _ (M.G j)
 .obtain ⟨F,h2⟩:=hlab j L;rcases hwas j h2 ij I b J with⟨i0,h3,h4⟩|⟨_,h4⟩
  .exact .inl ⟨j,F,i0,h3,h4⟩
  .exact .inl ⟨V,hk2,B,R,h4⟩
end
def Lk(l:List (Str×List AV))(x:Str×Nat):List (Str×List AV):=Xu l x.1 (Rb l x.1++[.int .i64 x.2])
def prsG(G:Nat->List Str)(n:Nat):List (Str×Nat):=(List.range n).flatMap fun a=>(G a).map fun s=>(s,a)
def mapG(l:List (Str×Nat)):List (Str×List AV):=l.foldl Lk []
def BK(l:List (Str×Nat))(x:Str×Nat):mapG (l++[x])=Lk (mapG l) x:=by unfold mapG;rw[z7q];rfl
def LU(G:Nat->List Str)(n:Nat):prsG G (n+1)=prsG G n++(G n).map fun s=>(s,n):=by
 unfold prsG;rw[z5m,z3g];simp
def Oy{l:List (Str×List AV)}{k j:Str}{v:List AV}:Sb (Xu l k v) j=if j=k then some v else Sb l j:=by
 induction l with
 |nil=>rw[Xu];unfold Sb;by_cases h:j=k<;>simp[h]
 | cons x r m=>
   rw[Xu];by_cases h:k=x.1
   .rw [if_pos h];unfold Sb;by_cases i:j=k
    .simp [i,<-h]
    .have:¬j=x.1:=fun e=>i (e.trans h.symm);simp[i,this]
   .rw [if_neg h];unfold Sb at m⊢;rw[z6k,z6k];by_cases i:j=x.1
    .have:¬j=k:=fun e=>h (e.symm.trans i);simp[i,this];intro e;exact absurd e.symm h
    .rw [z2r i];exact m
def q5m(l:List (Str×List AV))(x:Str×Nat)(j:Str):Rb (Lk l x) j=if j=x.1 then Rb l x.1++[.int .i64 x.2]else Rb l j:=by
 unfold Lk Rb;rw[Oy];split<;>rfl
def Au(l:List (Str×Nat))(j:Str):Rb (mapG l) j=(l.filter fun x=>decide (x.1=j)).map fun x=>.int .i64 x.2:=by
 have key:∀l:List (Str×Nat),Rb (mapG l.reverse) j=(l.reverse.filter fun x=>decide (x.1=j)).map fun x=>AV.int .i64 x.2:=fun l=>by
  induction l with
  |nil=>rfl
  | cons x r i=>
    rw[z7x,BK,q5m,z2j,z1v,<-i];by_cases h:j=x.1
    .subst h;simp
    .have:¬x.1=j:=fun e=>h e.symm;simp[h,this]
 have:=key l.reverse
 rwa[z7w]at this
def q5p(l:List (Str×Nat))(j:Str):(Rb (mapG l) j).length<=l.length:=by
 rw[Au,z0s];exact z2s _ _
theorem Ar{G:Nat->List Str}(h:∀a,(G a).length<=1000):∀n,(prsG G n).length<=1000*n
 |0=>z1q _
 | n+1=>by
   have:=Ar h n;have:=h n;rw[LU,z0e,z0s];omega
def Fw(b:Book)(p:Pg)(i:Nat)(f:Pr)(n:Nat)(D:n<=5000)(c:b.ways[i]?=some (QQ p i f))(y:(QQ p i f).n=n)(G:Nat->List Str)(z:∀a,a<n->aP 146 [.ip b.cells,.int .i64 i,.int .i64 a] (eStrs (G a)))(k:∀a,(G a).length<=1000):aH 77 [.p (.ip b.cells),.j i] [] (.tup [.ext 0 .map,.p (.int .i64 (prsG G n).length)]) [(0,.ext (.mapr 3 1 (mapG (prsG G n)) none))]:=by
 refine sK Uc func77 ?_;conv=>whnf
 have u:(b.ways.map fun w=>AV.ip w.cells)[i]?=some (.ip (QQ p i f).cells):=by rw[z1u,c];rfl
 repeat' ((first|refine RU 3 1 rfl ?_|refine iT u ?_)<;>conv=>whnf)
 refine lJ (fun a:Nat=>⟨[(0,.p (.ip b.cells)),(1,.j i),(4,.ext 0 .map),(5,.p (.int .i64 (prsG G a).length)),(19,.j n),(20,.j a)],[(0,.ext (.mapr 3 1 (mapG (prsG G a)) none))]⟩) (fun a=>a<=n) (fun a=>n-a) 0 (Le.of_eq (by rw[y];rfl)) (z1q _) ?_;intro a ha;have d:(prsG G a).length<=1000*a:=Ar k a;rcases z1w a n with q|q
 .have r:=z a q;have e:=k a;have x:=LU G a;generalize prsG G a=acc at*
  generalize G a=L at*
  have A:(L.map AV.str).length=L.length:=z0s _;conv=>whnf
  repeat' ((first|(refine iM fun _=>?_)|refine cP r ?_|(apply bD<;>intro _<;>try omega))<;>conv=>whnf)
  refine lJ (fun j:Nat=>⟨[(0,.p (.ip b.cells)),(1,.j i),(4,.ext 0 .map),(5,.p (.int .i64 (acc++(L.take j).map fun s=>(s,a)).length)),(6,.j a),(19,.j n),(20,.j a),(26,.p (eStrs L)),(27,.p (.int .i64 (L.map AV.str).length)),(28,.j j)],[(0,.ext (.mapr 3 1 (mapG (acc++(L.take j).map fun s=>(s,a))) none))]⟩) (fun j=>j<=L.length) (fun j=>L.length-j) 0 (Le.of_eq (by simp;rfl)) (z1q _) ?_;intro j C;rcases z1w j L.length with l|l
  .have v:acc++(L.take (j+1)).map (fun s=>(s,a))=(acc++(L.take j).map fun s=>(s,a))++[(L[j],a)]:=by rw[z1y l,z1v,z1m];rfl
   have g:(acc++(L.take j).map fun s=>(s,a)).length<=5002000:=by rw[z0e,z0s,z1r];omega
   generalize(acc++(L.take j).map fun s=>(s,a))=o at*
   have h:=BK o (L[j],a);unfold Lk at h;have B:=q5p o L[j];simp only at h;generalize mapG o=m at*
   conv=>whnf
   repeat' ((first|(refine gX ?_;intros)|refine Ir ZI 1 rfl rfl rfl rfl rfl rfl rfl rfl rfl rfl rfl rfl ?_|refine DN rfl (by omega) ?_|refine q2a ZI rfl rfl rfl rfl rfl rfl rfl (by simp) (Nat.succ_pos _) rfl rfl rfl rfl rfl (by decide) ?_|(apply bD<;>intro _<;>try omega))<;>conv=>whnf)
   all_goals first
    |exact⟨j+1,l,by omega,Le.of_eq (by rw[v,h,z0e];rfl)⟩
  .rw [z1f l,<-x];conv=>whnf
   repeat' ((first|refine wI ?_|(apply bD<;>intro _<;>try omega))<;>conv=>whnf)
   all_goals first
    |exact nX (a+1) q
 .obtain rfl:a=n:=by omega
  conv=>whnf
  repeat' (apply bD<;>intro _<;>first|omega|conv=>whnf)
  all_goals first
   |exact z4g _ (z2x _) ⟨rfl,rfl⟩
end Go.Ab
