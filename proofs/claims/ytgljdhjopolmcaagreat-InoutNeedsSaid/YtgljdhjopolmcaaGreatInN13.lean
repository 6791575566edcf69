/- The library's contracts at this seat's program, in plain words (printed by the kit's lay-plain.mjs). Conditions: none. -/
import Derived.Shelf.SlSortCmp.NoneTotal
import Derived.Ground.SlsfProg
import Derived.Test.YtgljdhjopolmcaaGreatInN12
set_option linter.all false
set_option maxRecDepth 100000
set_option maxHeartbeats 16000000
namespace Go.Proofs
open Go.Shelf
def Tryz.laysF_ren:Go.Shelf.Ren:=⟨fun|6=>204|15=>162|14=>266|28=>221|29=>222|20=>295|21=>296|22=>297|23=>298|24=>299|25=>300|26=>301|27=>302|46=>320|47=>274|48=>275|49=>321|50=>322|57=>325|n=>n,fun|22=>141|24=>217|25=>251|3=>3|39=>227|0=>0|53=>267|55=>269|4=>4|46=>261|45=>260|50=>178|5=>5|9=>9|66=>296|70=>300|76=>318|77=>30|n=>n,fun|n=>n⟩
theorem kT12{α:Type}{x:Option α}{a b:α}(h:x=some a)(e:a=b:=by kernel_rfl):x=some b:=e▸h
def Ha:Go.Proofs.SlLaysF0.n6 Tryz.prog Tryz.laysF_ren:={
 mixed:=by kernel_rfl
 f6:=⟨Tryz.f204.name,by decide,kT12 Tryz.func204⟩
 f14:=⟨Tryz.f266.name,by decide,kT12 Tryz.func266⟩
 f15:=kT12 Tryz.func162
 f20:=⟨Tryz.f295.name,by decide,kT12 Tryz.func295⟩
 f21:=⟨Tryz.f296.name,by decide,kT12 Tryz.func296⟩
 f22:=⟨Tryz.f297.name,by decide,kT12 Tryz.func297⟩
 f23:=⟨Tryz.f298.name,by decide,kT12 Tryz.func298⟩
 f24:=⟨Tryz.f299.name,by decide,kT12 Tryz.func299⟩
 f25:=⟨Tryz.f300.name,by decide,kT12 Tryz.func300⟩
 f26:=⟨Tryz.f301.name,by decide,kT12 Tryz.func301⟩
 f27:=⟨Tryz.f302.name,by decide,kT12 Tryz.func302⟩
 f28:=kT12 Tryz.func221
 f29:=kT12 Tryz.func222
 f46:=⟨Tryz.f320.name,by decide,kT12 Tryz.func320⟩
 f47:=kT12 Tryz.func274
 f48:=kT12 Tryz.func275
 f49:=⟨Tryz.f321.name,by decide,kT12 Tryz.func321⟩
 f50:=⟨Tryz.f322.name,by decide,kT12 Tryz.func322⟩
 f57:=⟨Tryz.f325.name,by decide,kT12 Tryz.func325⟩
 t0:=Tryz.underlying0
 a0:=Tryz.isAgg0
 z0:=Tryz.sizeOf0
 v0:=Tryz.zeroValue0
 t3:=Tryz.underlying3
 a3:=Tryz.isAgg3
 z3:=Tryz.sizeOf3
 v3:=Tryz.zeroValue3
 t4:=Tryz.underlying4
 a4:=Tryz.isAgg4
 z4:=Tryz.sizeOf4
 v4:=Tryz.zeroValue4
 t5:=Tryz.underlying5
 a5:=Tryz.isAgg5
 z5:=Tryz.sizeOf5
 v5:=Tryz.zeroValue5
 t9:=Tryz.underlying9
 a9:=Tryz.isAgg9
 z9:=Tryz.sizeOf9
 v9:=Tryz.zeroValue9
 t22:=Tryz.underlying141
 a22:=Tryz.isAgg141
 z22:=Tryz.sizeOf141
 v22:=Tryz.zeroValue141
 t25:=Tryz.underlying251
 a25:=Tryz.isAgg251
 z25:=Tryz.sizeOf251
 v25:=Tryz.zeroValue251
 t39:=Tryz.underlying227
 a39:=Tryz.isAgg227
 z39:=Tryz.sizeOf227
 v39:=Tryz.zeroValue227
 t45:=Tryz.underlying260
 a45:=Tryz.isAgg260
 z45:=Tryz.sizeOf260
 v45:=Tryz.zeroValue260
 t46:=Tryz.underlying261
 a46:=Tryz.isAgg261
 z46:=Tryz.sizeOf261
 v46:=Tryz.zeroValue261
 t50:=Tryz.underlying178
 a50:=Tryz.isAgg178
 z50:=Tryz.sizeOf178
 v50:=Tryz.zeroValue178
 t53:=Tryz.underlying267
 a53:=Tryz.isAgg267
 z53:=Tryz.sizeOf267
 v53:=Tryz.zeroValue267
 t55:=Tryz.underlying269
 a55:=Tryz.isAgg269
 z55:=Tryz.sizeOf269
 v55:=Tryz.zeroValue269
 t66:=Tryz.underlying296
 a66:=Tryz.isAgg296
 z66:=Tryz.sizeOf296
 v66:=Tryz.zeroValue296
 t70:=Tryz.underlying300
 a70:=Tryz.isAgg300
 z70:=Tryz.sizeOf300
 v70:=Tryz.zeroValue300
 t76:=Tryz.underlying318
 a76:=Tryz.isAgg318
 z76:=Tryz.sizeOf318
 v76:=Tryz.zeroValue318
 t77:=Tryz.underlying30
 a77:=Tryz.isAgg30
 z77:=Tryz.sizeOf30
 v77:=Tryz.zeroValue30}
end Go.Proofs
namespace Go.Ab
open Go.Proofs.Tryz
open Go.Proofs Go.Sort Go.RowKit Go.Lib
variable {N:List (List Int)}{m:Nat}{σ:Mem}
theorem Frm.grown{w w':World}(h:Frm (fun _=>False) w w'):∃q os,w'=grow (w.drewN q) os:=by
 obtain⟨v,D,o,B,C⟩:=w;obtain⟨l,u,j,r,t⟩:=w';obtain⟨z,a,b,f,g,c⟩:=h;simp only at z a b f g c;refine⟨j-o,l.extract v.size l.size,?_⟩;subst z a b;have e:o+(j-o)=j:=by omega
 show World.mk l u j r t=World.mk (v++l.extract v.size l.size) u (o+(j-o)) r t;rw[e];congr 1;apply Array.ext
 ·simp;omega
 ·intro i y A;by_cases x:i<v.size
  ·have:=c i x id;rw[z1y y,z1y x]at this;rw[Array.getElem_append_left x];exact z0y this
  ·rw[Array.getElem_append_right (by omega)];simp;congr 1;omega
def BK(a b:Step):Bool:=decide (TF a b<0)
def q7a(a b c:Int):orI [a,b,c]<0↔a<0\/a=0/\(b<0\/b=0/\c<0):=by
 by_cases h:a=0<;>by_cases i:b=0<;>by_cases j:c=0<;>simp[orI,h,i,j]
theorem NA(x y:Int):Sv x y<0↔x<y:=by
 unfold Sv;split
 ·omega
 ·split<;>omega
theorem KR(x y:Int):Sv x y=0↔x=y:=by
 unfold Sv;split
 ·omega
 ·split<;>omega
def Cd(a b:Step):TF a b<0↔ZB a.src<ZB b.src\/ZB a.src=ZB b.src/\(ZB a.dst<ZB b.dst\/ZB a.dst=ZB b.dst/\a.kind<b.kind):=by
 unfold TF;rw[q7a,NA,NA,NA,KR,KR]
def okSt(s:Step):Prop:=s.src≠9223372036854775807/\s.dst≠9223372036854775807
abbrev OSt:={s:Step // okSt s}
instance:Inhabited OSt:=⟨⟨⟨0,0,0⟩,by constructor<;>decide⟩⟩
def cfO(a b:OSt):Int:=TF a.1 b.1
theorem FQ{x y:Int}(i:x≠9223372036854775807)(j:y≠9223372036854775807)(h:ZB x=ZB y):x=y:=by
 unfold ZB at h;split at h<;>split at h<;>omega
theorem q6q:SWO (ltOf cfO):=by
 refine⟨fun x=>?_,fun x y z h i=>?_,fun x y z h i=>?_⟩;all_goals
  unfold ltOf cfO at*
  simp only[x9o,z1u,Cd]at*
  omega
theorem q6x(x y:OSt)(k:ltOf cfO x y=false)(l:ltOf cfO y x=false):x=y:=by
 unfold ltOf cfO at*
 simp only[z1u,Cd]at k l;obtain⟨⟨a,b,c⟩,n,o⟩:=x;obtain⟨⟨d,e,f⟩,p,q⟩:=y;simp only at*
 have h:=FQ (x:=a) (y:=d) n p (by omega);have i:=FQ (x:=b) (y:=e) o q (by omega);have j:c=f:=by omega
 subst h i j;rfl
def Nj(s:OSt):List Value:=[.int .i64 s.1.src,.int .i64 s.1.dst,.int .i64 s.1.kind]
def Jl(s:OSt):Rep σ (.agg s.1.cells) (.agg (Nj s).toArray):=by
 refine .agg _ _ (fun j=>(Nj s).toArray.getD j undef) rfl (fun j c h=>?_) (fun j c h=>?_)
 .match j,h with
  |0,_=>rfl
  |1,_=>rfl
  |2,_=>rfl
 .match j,h with
  |0,h=>cases h;exact .int _ _
  |1,h=>cases h;exact .int _ _
  |2,h=>cases h;exact .int _ _
def q0d(W:World)(x y:OSt):Calls prog 205 (#[.agg (Nj x).toArray,.agg (Nj y).toArray] ++ #[]) W fun e w'=>e=.returned (.int .i64 (cfO x y))/\∃q k,w'=grow (W.drewN q) k:=by
 refine((Tv x.1 y.1).ok (fun _=>none) W #[.agg (Nj x).toArray,.agg (Nj y).toArray] rfl (fun j c i=>?_) (fun b c h=>by cases h)).mono ?_
 .match j,i with
  |0,i=>cases i;exact Jl x
  |1,i=>cases i;exact Jl y
 .rintro e w' ⟨c,u,σ',rfl,rfl,n,_,_,l,_⟩;cases n;exact⟨rfl,l.grown⟩
def Of{l:List OSt}{vs:Array Value}(h:∀(m:Nat)(x:AV),(l.map fun s=>AV.agg s.1.cells)[m]?=some x->x.cells.length=3/\∀(j:Nat)(c:AV),x.cells[j]?=some c->∃u:Value,vs[m*3+j]?=some u/\Rep σ c u){j:Nat}(p:m<l.length)(o:j<3):
  vs[m*3+j]?=(Nj l[m])[j]?:=by
 have n:=(h m (.agg l[m].1.cells) (by simp[p])).2
 match j,o with
 | 0,_=>
   obtain⟨u,i,k⟩:=n 0 (.int .i64 l[m].1.src) rfl;cases k;exact i
 | 1,_=>
   obtain⟨u,i,k⟩:=n 1 (.int .i64 l[m].1.dst) rfl;cases k;exact i
 | 2,_=>
   obtain⟨u,i,k⟩:=n 2 (.int .i64 l[m].1.kind) rfl;cases k;exact i
theorem Od{l:List OSt}{vs:Array Value}(h:∀(m:Nat)(n:m<l.length)(j:Nat),j<3->vs[m*3+j]?=(Nj l[m])[j]?):∀(m:Nat)(x:AV),(l.map fun s=>AV.agg s.1.cells)[m]?=some x->x.cells.length=3/\∀(j:Nat)(c:AV),x.cells[j]?=some c->∃u:Value,vs[m*3+j]?=some u/\Rep σ c u:=by
 intro m x k;rw[x9x]at k;cases o:l[m]?with
 |none=>rw[o]at k;cases k
 | some s=>
   rw[o]at k;cases k;obtain⟨n,rfl⟩:=x8t.1 o;refine⟨rfl,fun j c i=>?_⟩
   match j,i with
   |0,i=>cases i;exact⟨_,h m n 0 (by omega),.int _ _⟩
   |1,i=>cases i;exact⟨_,h m n 1 (by omega),.int _ _⟩
   |2,i=>cases i;exact⟨_,h m n 2 (by omega),.int _ _⟩
theorem Ms{d:Array OSt}{t:Nat}(h:t<d.size*3):(flatK Nj 3 d)[t]?=(Nj (d[t/3]'(by omega)))[t%3]?:=by
 have i:=get_flatK Nj 3 d t h;rw[z5z _ t (by simpa using h),z5z d (t/3) (by omega)]at i;rw[z1y (by simpa using h),i];have j:t%3<(Nj (d[t/3]'(by omega))).length:=by simp[Nj];omega
 rw[x8p j,z5z (Nj (d[t/3]'(by omega))) (t%3) j]
def JS(l:List Step):List Step:=l.mergeSort fun x y=> !BK y x
def U2{l:List Step}:(JS l).length=l.length:=by unfold JS;simp
def Gt(l:List Step):(JS l).Perm l:=List.mergeSort_perm _ _
theorem LY(l:List OSt)(Q:l.length<=1000000000):
  aH 204 [.hd 1000 0 l.length,.p (.fn 205 [])] [(1000,.own 217 3 (l.map fun s=>.agg s.1.cells))] (.p (.tup [])) [(1000,.own 217 3 ((l.mergeSort fun x y=> !(ltOf cfO) y x).map fun s=>.agg s.1.cells))]:=by
 refine⟨call204,fun σ β w U hn f hH=>?_⟩;obtain⟨v,u,rfl⟩:=x2v hn;have g:RepL σ β (.hd 1000 0 l.length) v:=by simpa using f 0 _ rfl
 have K:RepL σ β (.p (.fn 205 [])) u:=by simpa using f 1 _ rfl
 obtain rfl:u=.func (.func 205) #[] #[]:=by
  cases K with
  | p h=>cases h with
    | fn _ _ vs u I q hr=>
      obtain rfl:vs=#[]:=Array.size_eq_zero_iff.1 I;rfl
 have E:=hH.chunks 1000 _ x8l;rcases E with⟨D,F⟩|⟨i,vs,B,J,G,M,V,Y,Z⟩
 ·have H:l=[]:=List.map_eq_nil_iff.1 F;subst H;obtain⟨rfl,_⟩:=Sl g D;have q:=AnyF.slices_SortFunc_none Ha none 0 (.func (.func 205) #[] #[]) w;change Calls prog 204 _ _ _ at q;refine q.mono ?_;rintro e w' ⟨rfl,rfl⟩;exact⟨.p (.tup []),.tuple #[],σ,β,_,rfl,⟨rfl,rfl⟩,.p (.tup [] #[] (fun _=>undef) rfl (by simp) (by simp)),by simpa using hH,by simpa using Later.refl _ _ _ _⟩
 ·have L:=Lu g B;subst L;have c:=(hH.apart 1000 (by simp) i B i.blk i.has_blk).2;have a:l.length<=i.cap:=by simpa using V
  have hle:l.length*3<=vs.size:=by rw[M];omega
  have b:=fun m j R O=>Of (σ:=σ) (l:=l) Z (m:=m) (j:=j) R O;have q:=AnyQ.slices_SortFunc_total Ha 3 Tryz.isAgg217 Tryz.sizeOf217 Nj (fun _=>rfl) (fun x v f=>by simp[Nj]at f;rcases f with rfl|rfl|rfl<;>rfl) cfO q6q 205 #[] i.blk 0 i.cap l.toArray w
   call205 (fun m os dk _ x y=>q0d _ x y) (fun t ht=>by
    have o:t<l.toArray.size*3:=by simpa using ht
    refine⟨?_,YH G _⟩;have A:=Ms o;have r:=b (t/3) (t%3) (by simp at o;omega) (by omega);rw[Nat.div_add_mod']at r;rw[DQ G,z0t,r,z5z _ t (by simpa using o)];rw[z1y (by simpa using o)]at A;simpa using A.symm) c (by simp;omega) q6x
  simp only[z3j]at q;change Calls prog 204 _ _ _ at q;refine q.mono ?_;rintro e w' ⟨rfl,n,os,rfl⟩;generalize hS:(l.mergeSort fun x y=> !(ltOf cfO) y x)=S;have z:S.length=l.length:=by rw[<-hS];simp
  obtain⟨hf,hb⟩:=Uy (enc:=id) (n:=n) (os:=os) (d:=flatK Nj 3 S.toArray) G c;obtain⟨C,hL⟩:=Pm (c':=.own 217 3 (S.map fun s=>.agg s.1.cells)) hH B hf (.inr ⟨i,_,B,J,hb,by rw[Ze];exact M,by simp[z];exact a,Y,Od fun m R j O=>by
   have A:=NJ (enc:=id) (d:=flatK Nj 3 S.toArray) (vs:=vs) (by simp[z];omega) (k:=m*3+j) (by simp;omega);have r:=Ms (d:=S.toArray) (t:=m*3+j) (by simp;omega);rw[z1y (by simp;omega)]at r;rw[A];simp only[id];rw[r];simp[show(m*3+j)/3=m by omega,show(m*3+j)%3=j by omega]⟩)
  exact⟨.p (.tup []),.tuple #[],σ,β,_,rfl,⟨rfl,rfl⟩,.p (.tup [] #[] (fun _=>undef) rfl (by simp) (by simp)),C,hL⟩
def Gl(l:List Step)(i:∀s∈l,okSt s)(j:l.length<=1000000000):
  aH 204 [.hd 1000 0 l.length,.p (.fn 205 [])] [(1000,.own 217 3 (l.map fun s=>.agg s.cells))] (.p (.tup [])) [(1000,.own 217 3 ((JS l).map fun s=>.agg s.cells))]:=by
 have h:=LY (l.attachWith okSt i) (by simpa using j);have n:((l.attachWith okSt i).map fun s=>AV.agg s.1.cells)=l.map fun s=>AV.agg s.cells:=by
  have:=z0l (List.map fun s:Step=>AV.agg s.cells) (List.attachWith_map_subtype_val (l:=l) (p:=okSt) i);simp
 have o:(((l.attachWith okSt i).mergeSort fun x y=> !(ltOf cfO) y x).map fun s=>AV.agg s.1.cells)=(JS l).map fun s=>AV.agg s.cells:=by
  have k:=List.map_mergeSort (l:=l.attachWith okSt i) (f:=Subtype.val) (r:=fun x y=> !(ltOf cfO) y x) (s:=fun x y=> !BK y x) (fun a _ b _=>rfl);rw[List.attachWith_map_subtype_val]at k;unfold JS;rw[<-k,z4u];rfl
 rw[n,o]at h;simpa using h
section
variable {P:Program}{T:Tab}{N:Nat}
def q6c{β:Lab}{k:Nat}{H H':Heap}{d:Chunk}{w w':World}{i:BInfo}(h:HRel σ β H w)(a:k∈H.map (·.1))(y:β k=some i)(n:Frm (fun b=>b=i.blk) w w')(s:H'.map (·.1)=H.map (·.1))(D:∀j c,(j,c)∈H'->j≠k->(j,c)∈H)(E:∀c,(k,c)∈H'->c=d)(v:d.holds σ β w' k):HRel σ β H' w'/\Later σ β H w σ β H' w':=by
 have x:=h.apart k a i y;refine⟨⟨fun b cs l=>?_,fun j c p=>?_,by rw[s];exact h.nodup,fun j p i' o b l=>?_,fun j p G z=>h.inj j (s▸p) G (s▸z)⟩,Mem.le_refl σ,⟨n.os,n.tape,n.output,n.drawn,n.size,fun b l F=>n.block b l fun t=>F ⟨k,a,i,y,.inl t.symm⟩⟩,
  fun b B C=>absurd B C,fun b ⟨j,p,r⟩=>.inl ⟨j,s▸p,r⟩,fun _ _ _=>rfl⟩
 .obtain ⟨e,A,f⟩:=h.mem b cs l;exact⟨e,A,(n.block b (x9r.1 f).1 fun t=>by rw[t,(x _ i.has_blk).1]at l;cases l).trans f⟩
 .by_cases q:j=k
  .subst q;rw[E c p];exact v
  .have g:=D j c p q;have u:j∈H.map (·.1):=x8c.2 ⟨_,g,rfl⟩;exact(h.chunks j c g).mono (Mem.le_refl σ) fun i' o b l=>n.block b (h.apart j u i' o b l).2 fun t=>q (h.inj j u k a i' i o y b l (.inl t.symm))
 .have:=h.apart j (s▸p) i' o b l;exact⟨this.1,z2j this.2 n.size⟩
theorem OpK.clear(hT:TabOK P T){s:St}{o:Oper}{K:St->Prop}{t:TypeId}{x:Operand}(hop:o.op=.call {callee:=.builtin .clear,args:=#[x],argTypes:=#[t]}){k off len:Nat}(A:QR s.sl x=.hd k off len){e sz:Nat}{es:List AV}(hg:getH s.H k=some (.own e sz es)){i E:TyI}(ht:T.get t=some i)(hd:i.desc=.slice e)(hte:T.get e=some E)(hz:E.zero.cells.size=sz)(hone:E.zero.cells.all (·.oneCell')=true)(hpos:0<sz)(h:Pc s.H k (.own e sz (es.take off)) fun H=>setD N s.sl o.dst (.p (.tup [])) fun sl=>K ⟨sl,H⟩):OpK P N s o K:=by
 refine⟨fun σ β a w l Q=>?_⟩;have Y:=QW l.G x;rw[A]at Y;generalize hxe:a.eval x=v at Y;obtain⟨H',hK,h3,h4,h5⟩:=FV l.heap.nodup h;have hlab:=XU hg;have hu:=hT.of ht;rw[hd]at hu;have hue:=hT _ _ hte;have F:RepL σ β (.p (.tup [])) (.tuple #[]):=.p (.tup [] #[] (fun _=>undef) rfl (by simp) (by simp));have hbc:∀{w'} ,(Builtin.clear_ #[t] o.type #[v]).run P w=.ok (.tuple #[]) w'->(execOp a.eval o).run P w=.ok (.value (.tuple #[])) w':=fun {w'} hc=>by
  simp[execOp,hop,resolve,invoke,builtin,hxe,hc]
 have hch:=l.heap.chunks k _ (QF hg);have B:len=0->(Builtin.clear_ #[t] o.type #[v]).run P w=.ok (.tuple #[]) w->(o.wp P a w (fun a' w'=>∃σ' β' s',K s'/\Rel N σ' β' s' a' w'/\Later σ β s.H w σ' β' s'.H w') Q):=fun _ g=>by
  have z:HRel σ β H' w/\Later σ β s.H w σ β H' w:=by
   refine⟨⟨l.heap.mem,fun j c y=>?_,by rw[h3];exact l.heap.nodup,fun j y=>l.heap.apart j (h3▸y),fun j y j' hj'=>l.heap.inj j (h3▸y) j' (h3▸hj')⟩,Mem.le_refl σ,Frm.refl _ w,fun b h0 h1=>absurd h0 h1,fun b ⟨j,y,r⟩=>.inl ⟨j,h3▸y,r⟩,fun _ _ _=>rfl⟩;by_cases hjk:j=k
   ·subst hjk;rw[h5 c y];rcases hch with⟨C,h7⟩|⟨J,vs,C,h7,h8,h9,h10,L,M⟩
    ·exact .inl ⟨C,by rw[h7];simp⟩
    ·exact .inr ⟨J,vs,C,h7,h8,h9,by simp;omega,L,fun m x A=>M m x (by rw[z0z]at A;split at A;exact A;cases A)⟩
   ·exact l.heap.chunks j c (h4 j c y hjk)
  have U:Rel N σ β ⟨s.sl,H'⟩ a w:=⟨l.size,l.defers,l.G,z.1⟩;obtain⟨sl,hK,V⟩:=U.setD F hK;exact VT (hbc g) ⟨σ,β,_,hK,V,z.2⟩
 rcases Y.hdI with⟨hk0,hoff,hlen,I⟩|⟨J,oo,hk,hfit,D,I⟩
 ·subst I;refine B hlen ?_;simp[Builtin.clear_,run_underlying hu]
 by_cases hl0:len=0
 ·subst hl0 I;refine B rfl ?_;simp[Builtin.clear_,run_underlying hu]
 rcases hch with⟨C,_⟩|⟨bi',vs,C,h7,h8,h9,h10,L,M⟩
 ·rw[hk]at C;cases C
 rw[hk]at C;cases C;have D:oo=off*sz:=by
  rcases D with D|⟨O,_⟩
  ·rw[D,h7]
  ·omega
 obtain⟨zs,Z⟩ : ∃zs,zs=(Builtin.zeroCells E.zero.cells len).toList:=⟨_,rfl⟩;have hzl:zs.length=len*sz:=by rw[Z];simp[Builtin.zeroCells,hz]
 have hz1:∀v∈zs,v.oneCell'=true:=fun v I=>by
  rw[Z]at I;simp only[Builtin.zeroCells,Array.toList_map,x8c]at I;obtain⟨q,hq,rfl⟩:=I;have R:q%E.zero.cells.size<E.zero.cells.size:=Nat.mod_lt _ (by omega);rw[z5z E.zero.cells (q%E.zero.cells.size) R];exact Array.all_eq_true.1 hone _ R
 have hend:off*sz+len*sz<=vs.size:=by
  rw[h9,<-z1l];exact z0m _ hfit
 have hst:=run_storeCells_cells (P:=P) J.blk oo zs 0 w (fun j y=>by
   have:oo+0+j<vs.size:=by omega
   simp only[World.cell?,h8];rw[z1y this];rfl) (fun j y=>by simp[World.frozen?,h8]) hz1
 have g:(Builtin.clear_ #[t] o.type #[v]).run P w=.ok (.tuple #[]) (w.setCells J.blk oo zs):=by
  subst I;have hzv:(zeroValue e).run P w=.ok E.zero w:=by
   have:=hue.info;cases hq:P.info? e with
   |none=>rw[hq]at this;cases this
   | some f=>
     rw[hq]at this;simp at this;simp[zeroValue,typeInfo,hq,this]
  obtain⟨len',rfl⟩ : ∃l',len=l'+1:=⟨len-1,by omega⟩;simp only[z2o]at hst;simp[Builtin.clear_,Sem.run_bind,run_underlying hu,hzv,<-Z,hst]
 obtain⟨s1,s2⟩:=WM zs oo h8;have hnew:(Chunk.own e sz (es.take off)).holds σ β (w.setCells J.blk oo zs) k:=by
  refine .inr ⟨J,_,hk,h7,s1,by rw[UM];exact h9,by simp;omega,L,fun m x A=>?_⟩;rw[z0z]at A;split at A
  ·rename_i hm;obtain⟨O,h14⟩:=M m x A;refine⟨O,fun j c y=>?_⟩;obtain⟨u,h15,h16⟩:=h14 j c y;have hjl:j<sz:=by rw[<-O];exact(x8t.1 y).1
   have R:m*sz+j<off*sz:=by
    have:(m+1)*sz<=off*sz:=z0m _ hm;rw[z1l]at this;omega
   exact⟨u,by rw[DL _ _ _ _ (by omega),if_neg (by omega)];exact h15,h16⟩
  ·cases A
 obtain⟨hh,hl⟩:=q6c l.heap hlab hk s2 h3 h4 h5 hnew;have U:Rel N σ β ⟨s.sl,H'⟩ a (w.setCells J.blk oo zs):=⟨l.size,l.defers,l.G,hh⟩;obtain⟨sl,hK,V⟩:=U.setD F hK;exact VT (hbc g) ⟨σ,β,_,hK,V,hl⟩
end
def XJ(p:Step):List Step->List Step
 |[]=>[]
 |b::r=>bif ZL b p then XJ b r else b::XJ b r
def Qh:List Step->List Step
 |[]=>[]
 |a::r=>a::XJ a r
def T4{l:List Step}(h:l.length<2):Qh l=l:=by
 match l,h with
 |[],_=>rfl
 |[a],_=>rfl
def avS(l:List Step):List AV:=l.map fun s=>.agg s.cells
theorem W3(l:List Step)(g:l.length<=1000000000):
  aH 206 [.hd 1000 0 l.length,.p (.fn 207 [])] [(1000,.own 217 3 (avS l))] (.hd 1000 0 (Qh l).length) [(1000,.own 217 3 (avS (Qh l)))]:=by
 refine sK WP func206 ?_;conv=>whnf
 repeat' ((first|(refine iM fun _=>?_)|(apply bD<;>intro _<;>try omega))<;>conv=>whnf)
 ·have e:Qh l=l:=T4 (by omega);rw[e];exact⟨_,x9b _,rfl,rfl⟩
 refine lI (fun k:Nat=>⟨[(0,.hd 1000 0 l.length),(1,.p (.fn 207 [])),(5,.j k)],[(1000,.own 217 3 (avS l))]⟩) (fun k=>1<=k/\k<=l.length/\∃a,l[k-1]?=some a/\l.take k++XJ a (l.drop k)=Qh l) (fun k=>l.length-k) 1 ⟨x9h _,by omega,?_⟩ ?_
 ·cases l with
  |nil=>simp at*
  |cons a r=>exact⟨a,rfl,rfl⟩
 rintro k ⟨J,K,a,ha,t⟩;rcases x8o k l.length with u|u;rotate_left 1
 ·rw[x9j u,x9u u]at t;conv=>whnf
  repeat' ((first|(refine iM fun _=>?_)|(apply bD<;>intro _<;>try omega))<;>conv=>whnf)
  rw[<-t,XJ,z0k];exact⟨_,x9b _,rfl,rfl⟩
 rw[x9i u,XJ]at t;have c:k-1<l.length:=by omega
 obtain⟨_,b⟩:=x8t.1 ha;have w:(avS l)[k]?=some (.agg l[k].cells):=by simp[avS,u]
 have n:(avS l)[k-1]?=some (.agg a.cells):=by simp[avS,ha]
 conv=>whnf
 repeat' ((first|(refine gX ?_;intros)|refine cP (K9 _ _) ?_|refine dA ?_|refine iO k ?_|refine iO (k-1) ?_|refine lO w ?_|refine lO n ?_|refine z4i k l.length rfl rfl (by omega) (by omega) ?_|((first|apply bD|apply bB)<;>intro _<;>try omega))<;>conv=>whnf)
 rotate_left 1
 ·have h:ZL l[k] a=false:=by assumption
  rw[h,x9k]at t;exact nX (k+1) ⟨by omega,by omega,l[k],by simp[u],by rw[<-t,x9v u,x9l];rfl⟩
 have h:ZL l[k] a=true:=by assumption
 rw[h,x9z]at t;clear ha b w n c h;refine lI (fun x:Nat×Nat×List Step=>⟨[(0,.hd 1000 0 l.length),(1,.p (.fn 207 [])),(5,.j x.2.1),(6,.hd 1000 (0+k) (l.length-k)),(7,.j x.1)],[(1000,.own 217 3 (avS x.2.2))]⟩) (fun x=>1<=x.1/\x.1<=l.length-k/\x.2.1<=k+x.1-1/\x.2.2.length=l.length/\x.2.2.drop (k+x.1-1)=l.drop (k+x.1-1)/\∃a,l[k+x.1-1]?=some a/\x.2.2.take x.2.1++XJ a (l.drop (k+x.1))=Qh l) (fun x=>l.length-k-x.1) (1,k,l) ⟨x9h _,by simp only;omega,by simp only;omega,rfl,rfl,l[k],by simp[u],t⟩ ?_;rintro⟨q,i,es⟩ ⟨C,D,E,y,v,a,ha,o⟩;clear t;simp only at C D E y v ha o⊢;have F:(avS es).length=l.length:=by simp[avS,y]
 rcases x8o q (l.length-k)with I|I
 ·have s:k+q<l.length:=by omega
  have f:es[k+q]?=l[k+q]?:=by
   have:=z0l (fun x=>x[1]?) v;simp only[z1v]at this
   rwa[show k+q-1+1=k+q by omega]at this
  have A:es[k+q-1]?=some a:=by
   have:=z0l (fun x=>x[0]?) v;simp only[z1v,z2o]at this;rw[this,ha]
  rw[x8p s]at f;have w:(avS es)[k+q]?=some (.agg l[k+q].cells):=by simp[avS,f]
  have n:(avS es)[k+q-1]?=some (.agg a.cells):=by simp[avS,A]
  have G:i<es.length:=by omega
  have B:(avS es)[i]?=some (.agg es[i].cells):=by simp[avS,G]
  rw[x9i s,XJ]at o;conv=>whnf
  repeat' ((first|(refine gX ?_;intros)|refine cP (K9 _ _) ?_|refine dA ?_|refine iO q ?_|refine iO (q-1) ?_|refine iO i ?_|refine lO w ?_|refine lO n ?_|refine z3h i 0 (.agg es[i].cells) (.agg l[k+q].cells) (by omega) B (show 3<=3 from x9h 3) rfl ?_|((first|apply bD|apply bN)<;>intro _<;>try omega))<;>conv=>whnf)
  ·have h:ZL l[k+q] a=true:=by assumption
   rw[h,x9z]at o;exact nX (q+1,i,es) ⟨by simp only;omega,by simp only;omega,by simp only;omega,y,by
    have:=z0l (List.drop 1) v;simp only[List.drop_drop]at this;simpa only[show k+(q+1)-1=k+q-1+1 by omega]using this,l[k+q],by simp[s],o⟩
  ·have h:ZL l[k+q] a=false:=by assumption
   rw[h,x9k]at o;have z:(es.set i l[k+q]).drop (k+q)=l.drop (k+q):=by
    rw[List.drop_set_of_lt (by omega)];have:=z0l (List.drop 1) v;simp only[List.drop_drop]at this
    rwa[show k+q-1+1=k+q by omega]at this
   exact⟨(q+1,i+1,es.set i l[k+q]),⟨by simp only;omega,by simp only;omega,by simp only;omega,by simp only[z0h];exact y,z,l[k+q],by simp[s],by
    simp only;rw[<-o,x9v (by simp;omega),List.take_set_of_le (by omega),List.getElem_set_self,x9l];rfl⟩,by simp only;omega,Le.of_eq (by simp only[avS,z0o];rfl)⟩
 ·have d:k+q=l.length:=by omega
  rw[d,List.drop_length,XJ,z0k]at o;conv=>whnf
  repeat' ((first|(refine gX ?_;intros)|refine z4i i l.length rfl rfl (by omega) (by omega) ?_|(apply bD<;>intro _<;>try omega))<;>conv=>whnf)
  refine OpK.clear ZP rfl rfl rfl rfl rfl rfl rfl (by kernel_rfl) (by decide) ?_;conv=>whnf
  repeat' ((first|refine x9p rfl ?_|refine z4i 0 i rfl rfl (by omega) (by omega) ?_)<;>conv=>whnf)
  have H:i=(Qh l).length:=by rw[<-o];simp;omega
  exact⟨_,z4q (by rw[<-H];rfl),rfl,by rw[z0t,<-o];simp[avS,List.map_take]⟩
def WC(l:List Step):List Step:=Qh (JS l)
def Ma(l:List Step)(i:∀s∈l,okSt s)(h:l.length<=1000000000):
  aH 157 [.hd 1000 0 l.length] [(1000,.own 217 3 (avS l))] (.hd 1000 0 (WC l).length) [(1000,.own 217 3 (avS (WC l)))]:=by
 refine sK RY func157 ?_;conv=>whnf
 repeat' ((first|(refine cH [(1000,1000)] 0 (Gl l i h) ?_)|(refine cH [(1000,1000)] 0 (W3 (JS l) (by rw[U2];exact h)) ?_ (ha:=(x9t (z4q (by rw[U2];rfl)) (x9t (x9b _) z1w)))))<;>conv=>whnf)
 exact⟨_,x9b _,rfl,rfl⟩
def UU(h:Sheet)(f:Pr)(it:Item):List Int:=
 if it.s.kind=5 then [GU it.s.I it.next,GU it.s.L it.next]
 else if it.s.kind=6 then [GU it.s.I it.s.id,it.next]
 else if it.s.kind=7 then [((h.l[(it.loop-1).toNat]?).map Item.next).getD 0]
 else if it.s.kind=8 then [it.loop]
 else if it.s.kind=9 then [-1]
 else if it.s.kind=10 then [(atB f it.s.name).1]
 else [it.next]
def Ff(l:List S)(o:Int):aP 250 [eSs l,.int .i64 o] (.int .i64 (GU l o)):=by
 unfold eSs;rw[S.avs_eq];exact ER l o
theorem K8(p:Pg)(j:Nat)(f:Pr)(v:p.A[j]?=some f)(t:cntP p.A<=1000)(it:Item)(w:it.D=j)(q:it.s.kind=7->1<=it.loop/\it.loop<=(sheetOf p).l.length):aP 190 [.ip (sheetOf p).cells,.agg it.cells] (XZ (UU (sheetOf p) f it)):=by
 refine sC Wc func190 ?_;conv=>whnf
 have r:=(QY p).2.2.2.1;have x:it.s.kind=7->∃u,(sheetOf p).l[(it.loop-1).toNat]?=some u/\((sheetOf p).l.map fun i=>AV.agg i.cells)[(it.loop-1).toNat]?=some (.agg u.cells):=fun h=>by
  have:=q h;have k:(it.loop-1).toNat<(sheetOf p).l.length:=by omega
  exact⟨_,x8p k,by rw[x9x,x8p k];rfl⟩
 repeat' ((first|refine dA ?_|refine x9p rfl ?_|refine aD ?_|refine bP ?_|refine wI ?_|refine cP (DJ p j f v t it.s.name) ?_ (ha:=.cons (Sub.refl _) (.cons (Sub.int w) (.cons (Sub.refl _) .nil)))|refine BsK.pureL rfl rfl ?_|refine cP (Ff it.s.I _) ?_|refine cP (Ff it.s.L _) ?_|(obtain⟨u,n,o⟩:=x (by assumption);refine IdxK.at (by have:=q (by assumption);omega) o rfl ?_)|(apply bD<;>intro _<;>try omega))<;>conv=>whnf)
 all_goals first
  |exact RetK.p (by unfold UU;rw[if_neg (by assumption),if_neg (by assumption),if_pos (by assumption),n];rfl)
  |exact RetK.p (by unfold UU;rw[if_pos (by assumption)];rfl)
  |exact RetK.p (by unfold UU;rw[if_neg (by assumption),if_pos (by assumption)];rfl)
  |exact RetK.p (by unfold UU;rw[if_neg (by assumption),if_neg (by assumption),if_neg (by assumption),if_pos (by assumption)];rfl)
  |exact RetK.p (by unfold UU;rw[if_neg (by assumption),if_neg (by assumption),if_neg (by assumption),if_neg (by assumption),if_pos (by assumption)];rfl)
  |exact RetK.p (by unfold UU;rw[if_neg (by assumption),if_neg (by assumption),if_neg (by assumption),if_neg (by assumption),if_neg (by assumption),if_pos (by assumption)];rfl)
  |exact RetK.p (by unfold UU;rw[if_neg (by assumption),if_neg (by assumption),if_neg (by assumption),if_neg (by assumption),if_neg (by assumption),if_neg (by assumption)];rfl)
def QK(p:Pg)(j:Nat)(f:Pr):List Step:=
 ⟨0,if offN p.A j<offN p.A j+cntL f.body then((offN p.A j:Nat)+1:Int)else -1,1⟩::(itL j 0 (-1) 0 (offN p.A j) f.body).flatMap fun it=>(UU (sheetOf p) f it).map (Step.mk it.s.id · 1)
def itsOf(p:Pg)(j:Nat)(f:Pr):List Item:=itL j 0 (-1) 0 (offN p.A j) f.body
theorem Yj(p:Pg)(j:Nat)(f:Pr)(e:p.A[j]?=some f)(E:cntP p.A<=1000)(G:∀it∈itsOf p j f,it.s.kind=7->1<=it.loop/\it.loop<=(sheetOf p).l.length)(y:∀s∈QK p j f,okSt s):aP 132 [.ip (sheetOf p).cells,.int .i64 j] (DO (WC (QK p j f))):=by
 refine sC Xp func132 ?_;conv=>whnf
 obtain⟨_,_,_,H,C⟩:=QY p;obtain⟨g,c,Q,_⟩:=C j f e;repeat' ((first|(refine iM fun _=>?_)|refine x9p rfl ?_|refine aD ?_|refine cP (BQ (sheetOf p) j _ _ g c) ?_|refine cP (CY p e E) ?_|refine z4w (fun x R=>by rcases x9q.1 R with rfl;rfl) rfl ?_)<;>conv=>whnf)
 have r:QK p j f=⟨0,if offN p.A j<offN p.A j+cntL f.body then((offN p.A j:Nat)+1:Int)else -1,1⟩::(itsOf p j f).flatMap fun it=>(UU (sheetOf p) f it).map (Step.mk it.s.id · 1):=rfl;have o:itL j 0 (-1) 0 (offN p.A j) f.body=itsOf p j f:=rfl;have z:∀it∈itsOf p j f,it.D=j:=fun it h=>MX _ _ _ _ _ _ it h;have d:(itsOf p j f).length<=1000:=by rw[<-o,ZC];omega
 rw[o];generalize itsOf p j f=its at G r z d⊢;have O:=UQ its;refine lI (fun i:Nat×List Step=>⟨[(0,.p (.ip (sheetOf p).cells)),(5,.hd 0 0 i.2.length),(17,.p (UD its)),(18,.p (.int .i64 (its.map fun i=>AV.agg i.cells).length)),(19,.j i.1)],[(0,.own 217 3 (avS i.2))]⟩) (fun i=>i.1<=its.length/\i.2.length<=1+2*i.1/\i.2++(its.drop i.1).flatMap (fun it=>(UU (sheetOf p) f it).map (Step.mk it.s.id · 1))=QK p j f) (fun i=>its.length-i.1) (0,[⟨0,if offN p.A j<offN p.A j+cntL f.body then((offN p.A j:Nat)+1:Int)else -1,1⟩]) ⟨x8i _,by simp,by rw[r];rfl⟩ ?_;rintro⟨m,k⟩ ⟨I,J,t⟩;simp only at I J t⊢;rcases x8o m its.length with a|a;rotate_left 1
 ·have v:k=QK p j f:=by
   rw[x9j a]at t;simpa using t
  rw[<-v]at y⊢;conv=>whnf
  repeat' ((first|(apply bD<;>intro _<;>try omega)|(refine cH rH2 0 (Ma k y (by omega)) ?_))<;>conv=>whnf)
  exact⟨_,.hd rfl (by simp[avS]),rfl⟩
 have b:(UU (sheetOf p) f its[m]).length<=2:=by unfold UU;split<;>(try split)<;>(try split)<;>(try split)<;>(try split)<;>(try split)<;>simp
 rw[YO a]at t;have w:=x9w a;conv=>whnf
 repeat' ((first|(refine gX ?_;intros)|refine cP (K8 p j f e E its[m] (z _ w) (G _ w)) ?_|(apply bD<;>intro _<;>try omega))<;>conv=>whnf)
 generalize M:UU (sheetOf p) f its[m]=gs at b t⊢;have F:(gs.map (AV.int .i64)).length=gs.length:=x8b _;refine lI (fun i:Nat×List Step=>⟨[(0,.p (.ip (sheetOf p).cells)),(5,.hd 0 0 i.2.length),(7,.p (.ip its[m].cells)),(17,.p (UD its)),(18,.p (.int .i64 (its.map fun i=>AV.agg i.cells).length)),(19,.j m),(25,.p (XZ gs)),(26,.p (.int .i64 (gs.map (AV.int .i64)).length)),(27,.j i.1)],[(0,.own 217 3 (avS i.2))]⟩) (fun i=>i.1<=gs.length/\i.2.length<=k.length+i.1/\i.2++((gs.drop i.1).map (Step.mk its[m].s.id · 1)++(its.drop (m+1)).flatMap (fun it=>(UU (sheetOf p) f it).map (Step.mk it.s.id · 1)))=QK p j f) (fun i=>gs.length-i.1) (0,k) ⟨x8i _,by simp,t⟩ ?_;rintro⟨q,n⟩ ⟨K,L,u⟩;simp only at K L u⊢;rcases x8o q gs.length with B|B;rotate_left 1
 ·rw[x9j B]at u;conv=>whnf
  repeat' ((first|refine wI ?_|(apply bD<;>intro _<;>try omega))<;>conv=>whnf)
  exact nX (m+1,n) ⟨by simp only;omega,by simp only;omega,by simpa using u⟩
 rw[x9i B,x9c]at u;conv=>whnf
 repeat' ((first|(refine gX ?_;intros)|refine pA 1 24 (by simp[avS]) ?_|(apply bD<;>intro _<;>try omega))<;>conv=>whnf)
 exact⟨(q+1,n++[⟨its[m].s.id,gs[q],1⟩]),⟨by simp only;omega,by simp;omega,by simpa using u⟩,by simp only;omega,Le.of_eq (by simp only[avS,x8m,x8a];rfl)⟩
def bv:Bool->AV
 |true=>.tt
 |false=>.ff
structure Way where
 p:Pg
 j:Nat
 n:Int
 real:List Step
 live:List Bool
def Way.cells(w:Way):List AV:=[.ip (sheetOf w.p).cells,.int .i64 w.j,.int .i64 w.n,DO w.real,.sl (w.live.map bv)]
def q3a(p:Pg)(j:Nat)(n:Int)(h:AV)(i:List AV):Heap:=[(1000,.obj 144 [.p (.ip (sheetOf p).cells),.p (.int .i64 j),.p (.int .i64 n),.p h,.hd 2000 0 i.length]),(2000,.own 4 1 i)]
def YW(h i n x:Int):Int:=if x=0 then 0 else if x = -1 then n-1 else if h<=x/\x<i then x-h+1 else -1
def loI(p:Pg)(j:Nat):Int:=(offN p.A j:Nat)+1
def hiI(p:Pg)(j:Nat)(f:Pr):Int:=(offN p.A j+cntL f.body:Nat)+1
theorem Wz(w:Way)(f:Pr)(o:w.p.A[w.j]?=some f)(r:cntP w.p.A<=1000)(s:0<=w.n/\w.n<=5000)(x:Int):aP 156 [.ip w.cells,.int .i64 x] (.int .i64 (YW (loI w.p w.j) (hiI w.p w.j f) w.n x)):=by
 refine sC BT func156 ?_;conv=>whnf
 obtain⟨_,_,_,l,k⟩:=QY w.p;obtain⟨i,h,q,_⟩:=k w.j f o;repeat' ((first|refine dA ?_|refine wI ?_|refine IdxK.at rfl (UF i) rfl ?_|refine IdxK.at rfl (UF h) rfl ?_|(apply bD<;>intro _<;>try omega))<;>conv=>whnf)
 all_goals exact RetK.int (by unfold YW loI hiI;(repeat' split)<;>omega)
theorem N8(p:Pg)(j:Nat)(f:Pr)(n:Int)(h:AV)(q:List AV)(r:p.A[j]?=some f)(t:cntP p.A<=1000)(u:0<=n/\n<=5000)(x:Int):
  aH 156 [.ptr 1000 0,.j x] (q3a p j n h q) (.p (.int .i64 (YW (loI p j) (hiI p j f) n x))) (q3a p j n h q):=by
 obtain⟨_,_,_,o,l⟩:=QY p;obtain⟨k,i,s,_⟩:=l j f r;refine sK BT func156 ?_;conv=>whnf
 repeat' ((first|refine dA ?_|refine wI ?_|refine IdxK.at rfl (UF k) rfl ?_|refine IdxK.at rfl (UF i) rfl ?_|(apply bD<;>intro _<;>try omega))<;>conv=>whnf)
 all_goals exact⟨_,z2v (Sub.int (by unfold YW loI hiI;(repeat' split)<;>omega)),rfl,rfl⟩
def avP(l:List (Int×Int)):List AV:=l.map fun x=>.agg [.int .i64 x.1,.int .i64 x.2]
def ixP(p:Pg)(j:Nat)(f:Pr)(n:Int)(s:Step):Int×Int:=(YW (loI p j) (hiI p j f) n s.src,YW (loI p j) (hiI p j f) n s.dst)
theorem DA(w:Way)(f:Pr)(v:w.p.A[w.j]?=some f)(u:cntP w.p.A<=1000)(x:0<=w.n/\w.n<=5000)(l:List Step)(r:l.length<=1000000):aP 86 [.ip w.cells,DO l] (.sl (avP (l.map (ixP w.p w.j f w.n)))):=by
 refine sC BS func86 ?_;conv=>whnf
 repeat' ((refine iM fun _=>?_)<;>conv=>whnf)
 have y:(l.map fun s=>AV.agg s.cells).length=l.length:=x8b _;refine lJ (fun i:Nat×List (Int×Int)=>⟨[(0,.p (.ip w.cells)),(5,.hd 0 0 i.2.length),(8,.p (DO l)),(9,.p (.int .i64 (l.map fun s=>AV.agg s.cells).length)),(10,.j i.1)],[(0,.own 218 2 (avP i.2))]⟩) (fun i=>i.1<=l.length/\i.2=(l.take i.1).map (ixP w.p w.j f w.n)) (fun i=>l.length-i.1) (0,[]) (lM [(0,.own 218 2 [])]) ⟨x8i _,rfl⟩ ?_;rintro⟨m,h⟩ ⟨t,k⟩;simp only at t k⊢;rcases x8o m l.length with o|o;rotate_left 1
 ·rw[x9u o]at k;subst k;conv=>whnf
  repeat' (apply bD<;>intro _<;>first|omega|conv=>whnf)
  exact⟨_,.hd rfl (by simp[avP]),rfl⟩
 have q:h.length=m:=by rw[k];simp;omega
 conv=>whnf
 repeat' ((first|refine dA ?_|(refine gX ?_;intros)|refine cP (Wz w f v u x _) ?_|refine pA 1 16 (by simp[avP]) ?_|(apply bD<;>intro _<;>try omega))<;>conv=>whnf)
 exact⟨(m+1,h++[ixP w.p w.j f w.n l[m]]),⟨by simp only;omega,by simp only;rw[k,x9v o,x8a];rfl⟩,by simp only;omega,Le.of_eq (by simp only[avP,x8m,x8a];rfl)⟩
def Ug{P:Program}{f:FuncId}{args:List LV}{H n:Heap}{e:TypeId}{sz:Nat}{Q:List AV->Prop}(z:LU 0 n fun H=>H=n)(h:SpecH P f args H (fun r H'=>∃es,r=.hd 0 0 es.length/\H'=(0,.own e sz es)::n/\Q es)):SpecH P f args H (fun r H'=>∃es,r=.p (.sl es)/\H'=n/\Q es):=by
 refine⟨h.go,fun σ β w a D E F=>(h.ok σ β w a D E F).mono fun M w' L=>?_⟩;obtain⟨l,u,σ',β',H',J,⟨es,rfl,rfl,I⟩,y,v,q⟩:=L;obtain⟨s',rfl,B⟩:=Le.row (N:=1) (s:=⟨[(0,.hd 0 0 es.length)],(0,.own e sz es)::n⟩) (k:=0) (e:=e) (sz:=sz) (es:=es) (zs:=[0]) rfl (K:=fun s=>s=⟨[(0,.p (.sl es))],n⟩) (by
  show LenK es.length es _;refine⟨rfl,?_⟩;show LU 0 n fun H=>(⟨[(0,.p (.sl es))],H⟩:St)=⟨[(0,.p (.sl es))],n⟩;have key:∀{b:Heap}{K d:Heap->Prop},(∀H,K H->d H)->LU 0 b K->LU 0 b d:=fun {b}=>by
   induction b with
   |nil=>intro K d o h;exact o _ h
   | cons x r g=>
     intro K d o h;obtain⟨j,c⟩:=x;simp only[LU]at h⊢;cases C:j==0 with
     | true=>
       simp only[C,x9z]at h⊢;exact g o h
     | false=>
       simp only[C,x9k]at h⊢;cases c with
       |obj e ls=>simp only[VH]at h⊢;exact g (fun H hH=>o _ hH) h
       |own e sz es=>exact g (fun H hH=>o _ hH) h
       |ext x=>exact g (fun H hH=>o _ hH) h
  exact key (fun H hH=>by rw[hH]) z)
 obtain⟨σ2,β2,t,A⟩:=B σ' β' {tmps:=#[u],defers:=[]} w' ⟨rfl,rfl,fun i=>by
  match i with
  |0=>simpa[getS]using y
  |i+1=>exact .p (by simpa[getS]using Rep.any _),v⟩
 exact⟨.p (.sl es),u,σ2,β2,n,J,⟨es,rfl,rfl,I⟩,by simpa[getS]using t.G 0,t.heap,q.trans A⟩
theorem N9(p:Pg)(j:Nat)(f:Pr)(n:Int)(h:AV)(q:List AV)(y:p.A[j]?=some f)(x:cntP p.A<=1000)(z:0<=n/\n<=5000)(l:List Step)(v:l.length<=1000000):
  SpecH prog 86 [.ptr 1000 0,.p (DO l)] (q3a p j n h q) (fun r H=>∃es,r=.p (.sl es)/\H=q3a p j n h q/\es=avP (l.map (ixP p j f n))):=by
 refine Ug (e:=218) (sz:=2) rfl ?_;refine sK BS func86 ?_;conv=>whnf
 repeat' ((refine iM fun _=>?_)<;>conv=>whnf)
 have a:(l.map fun s=>AV.agg s.cells).length=l.length:=x8b _;refine lJ (fun i:Nat×List (Int×Int)=>⟨[(0,.ptr 1000 0),(5,.hd 0 0 i.2.length),(8,.p (DO l)),(9,.p (.int .i64 (l.map fun s=>AV.agg s.cells).length)),(10,.j i.1)],(0,.own 218 2 (avP i.2))::q3a p j n h q⟩) (fun i=>i.1<=l.length/\i.2=(l.take i.1).map (ixP p j f n)) (fun i=>l.length-i.1) (0,[]) (lM [(0,.own 218 2 [])] (hnd:=by simp[q3a])) ⟨x8i _,rfl⟩ ?_;rintro⟨m,k⟩ ⟨w,o⟩;simp only at w o⊢;rcases x8o m l.length with t|t;rotate_left 1
 ·rw[x9u t]at o;subst o;conv=>whnf
  repeat' (apply bD<;>intro _<;>first|omega|conv=>whnf)
  exact⟨_,x9b _,avP (l.map (ixP p j f n)),by simp[avP],rfl,rfl⟩
 have u:k.length=m:=by rw[o];simp;omega
 conv=>whnf
 repeat' ((first|refine dA ?_|(refine gX ?_;intros)|refine pA 1 16 (by simp[avP]) ?_|(apply bD<;>intro _<;>try omega)|(refine cH [(1000,1000),(2000,2000)] 0 (N8 p j f n h q y x z _) ?_))<;>conv=>whnf)
 exact⟨(m+1,k++[ixP p j f n l[m]]),⟨by simp only;omega,by simp only;rw[o,x9v t,x8a];rfl⟩,by simp only;omega,lE (hnd:=by simp[q3a]) (hsl:=.r (.cons (.of_eq (by simp only[x8m];rfl)) (.r (.r (.cons (.of_eq rfl) .nil))))) (hH:=.cons rfl (.of_eq (by simp only[avP,x8a];rfl)) (.cons rfl (.refl _) (.cons rfl (.refl _) .nil)))⟩
theorem Th{l:List Int}{x:Int}(h:l.Pairwise (· <= ·)):(Uo l (l.countP (· < x)) x).Pairwise (· <= ·):=by
 induction l with
 |nil=>simp[Uo]
 | cons a r o=>
   obtain⟨j,n⟩:=z2y.1 h;by_cases ha:a<x
   ·have e:Uo (a::r) ((a::r).countP (· < x)) x=a::Uo r (r.countP (· < x)) x:=by
     unfold Uo;rw[List.countP_cons_of_pos (by simpa using ha)];rfl
    rw[e,z2y];refine⟨fun b i=>?_,o n⟩;unfold Uo at i;rcases x8e.1 i with i|i
    ·exact j b (z4e i)
    ·rcases x8s.1 i with rfl|i
     ·omega
     ·exact j b (List.mem_of_mem_drop i)
   ·have k:(a::r).countP (· < x)=0:=by
     rw[List.countP_eq_zero];intro b i;rcases x8s.1 i with rfl|i
     ·simpa using ha
     ·have:=j b i;simp;omega
    rw[k];show(x::a::r).Pairwise (· <= ·);refine z2y.2 ⟨fun b i=>?_,h⟩;rcases x8s.1 i with rfl|i
    ·omega
    ·have:=j b i;omega
def Kw(n m:Nat)(N:List (List Int)):Prop:=N.length=n/\∀r∈N,r.Pairwise (· <= ·)/\r.length<=m
theorem L9{n:Nat}(h:Kw n m N)(a:Nat)(b:Int):Kw n (m+1) (D9 N a b):=by
 unfold D9;refine⟨by rw[z0h];exact h.1,fun r j=>?_⟩;rcases z4z j with j|rfl
 ·obtain⟨i,k⟩:=h.2 r j;exact⟨i,by omega⟩
 ·rcases x8o a N.length with ha|ha
  ·have l:N.getD a []∈N:=by
    rw[x8n,x8p ha];exact x9w ha
   obtain⟨i,k⟩:=h.2 _ l;exact⟨Th i,by rw[Yi z4r];omega⟩
  ·have:N.getD a []=[]:=by simp[z0x ha]
   rw[this];exact⟨by simp[Uo],by simp[Uo]⟩
def Fr{n j:Nat}(h:Kw n m N)(k:m<=j):Kw n j N:=⟨h.1,fun r i=>⟨(h.2 r i).1,z1q (h.2 r i).2 k⟩⟩
def Ny(n:Nat)(g:List (List Int)×List (List Int))(e:Int×Int):List (List Int)×List (List Int):=
 bif WY n e.1&&WY n e.2 && !(g.1.getD e.1.toNat []).contains e.2 then(D9 g.1 e.1.toNat e.2,D9 g.2 e.2.toNat e.1)else g
def QI(n:Nat)(l:List (Int×Int)):List (List Int)×List (List Int):=l.foldl (Ny n) (List.replicate n [],List.replicate n [])
def H6(m:List (List Int)):AV:=.sl ((avI m).map .sl)
def HL(g:List (List Int)×List (List Int)):AV:=.ip [H6 g.1,H6 g.2]
def Jm(n:Nat)(g:List (List Int)×List (List Int))(e:Int×Int):(Ny n g e).1=bif WY n e.1&&WY n e.2 && !(g.1.getD e.1.toNat []).contains e.2 then D9 g.1 e.1.toNat e.2 else g.1:=by
 unfold Ny;cases WY n e.1&&WY n e.2 && !(g.1.getD e.1.toNat []).contains e.2<;>rfl
def He(n:Nat)(g:List (List Int)×List (List Int))(e:Int×Int):(Ny n g e).2=bif WY n e.1&&WY n e.2 && !(g.1.getD e.1.toNat []).contains e.2 then D9 g.2 e.2.toNat e.1 else g.2:=by
 unfold Ny;cases WY n e.1&&WY n e.2 && !(g.1.getD e.1.toNat []).contains e.2<;>rfl
theorem q0z{n:Nat}{g:List (List Int)×List (List Int)}(h:Kw n m g.1/\Kw n m g.2)(e:Int×Int):Kw n (m+1) (Ny n g e).1/\Kw n (m+1) (Ny n g e).2:=by
 rw[Jm,He];cases WY n e.1&&WY n e.2 && !(g.1.getD e.1.toNat []).contains e.2
 ·exact⟨Fr h.1 (by omega),Fr h.2 (by omega)⟩
 ·exact⟨L9 h.1 _ _,L9 h.2 _ _⟩
def Qm{n:Nat}{l:List (Int×Int)}(h:m<l.length):QI n (l.take (m+1))=Ny n (QI n (l.take m)) l[m]:=by
 unfold QI;rw[x9v h,List.foldl_append];rfl
theorem Vj{n:Nat}{l:List (Int×Int)}:∀{m:Nat},m<=l.length->Kw n m (QI n (l.take m)).1/\Kw n m (QI n (l.take m)).2
 | 0,_=>by
   have:Kw n 0 (List.replicate n []):=⟨by simp,fun r i=>by rw[z2g i];simp⟩;exact⟨this,this⟩
 | m+1,h=>by
   rw[Qm h];exact q0z (Vj (by omega)) _
def D3{h:Nat}{sl:List (Nat×LV)}(n a b:Nat)(k:(sl.all fun x=>x.2.xfree 0)=true)(l:(sl.all fun x=>x.2.xfree 1)=true):
  Le h ⟨sl,[(2,.obj 242 [.hd a 0 n,.hd b 0 n]),(1,.own 54 1 (List.replicate n .nils)),(0,.own 54 1 (List.replicate n .nils))]⟩
   ⟨sl,[(2,.obj 242 [.hd a 0 n,.hd b 0 n]),(1,.ext (.mat 54 3 1 (List.replicate n []) [])),(0,.ext (.mat 54 3 1 (List.replicate n []) []))]⟩:=by
 have o:=B8 (N:=h) (sl:=sl) (H:=[(2,.obj 242 [.hd a 0 n,.hd b 0 n]),(1,.own 54 1 (List.replicate n .nils)),(0,.own 54 1 (List.replicate n .nils))])
  (H':=[(2,.obj 242 [.hd a 0 n,.hd b 0 n]),(1,.own 54 1 (List.replicate n .nils)),(0,.ext (.mat 54 3 1 (List.replicate (List.replicate n AV.nils).length []) []))])
  0 3 1 (e:=54) (es:=List.replicate n .nils) rfl (fun x j=>z2g j) rfl k rfl rfl (by simp[HA])
 have i:=B8 (N:=h) (sl:=sl) (H:=[(2,.obj 242 [.hd a 0 n,.hd b 0 n]),(1,.own 54 1 (List.replicate n .nils)),(0,.ext (.mat 54 3 1 (List.replicate (List.replicate n AV.nils).length []) []))])
  (H':=[(2,.obj 242 [.hd a 0 n,.hd b 0 n]),(1,.ext (.mat 54 3 1 (List.replicate (List.replicate n AV.nils).length []) [])),(0,.ext (.mat 54 3 1 (List.replicate (List.replicate n AV.nils).length []) []))])
  1 3 1 (e:=54) (es:=List.replicate n .nils) rfl (fun x j=>z2g j) rfl l rfl rfl (by simp[HA])
 have:=o.trans i;simpa using this
theorem Lx(n:Nat)(y:n<=5000)(l:List (Int×Int))(w:l.length<=1000000):aP 191 [.int .i64 n,.sl (avP l)] (HL (QI n l)):=by
 refine sC RG func191 ?_;conv=>whnf
 repeat' ((first|(refine gX ?_;intros)|refine dA ?_|refine MkK.mk n rfl (by show 24*n<=140737488355328;omega) (by unfold maxLen;omega) ?_|(apply bD<;>intro _<;>try omega)|refine x9p ?_ ?_)<;>conv=>whnf)
 all_goals have z:(avP l).length=l.length:=x8b _
 ·refine lJ (fun m:Nat=>⟨[(5,.ptr (0+1+1) 0),(20,.p (.sl (avP l))),(21,.p (.int .i64 (avP l).length)),(22,.j m)],[(0+1+1,.obj 242 [.hd 0 0 n,.hd (0+1) 0 n]),(0,.ext (.mat 54 3 1 (avI (QI n (l.take m)).1) [])),(0+1,.ext (.mat 54 3 1 (avI (QI n (l.take m)).2) []))]⟩) (fun m=>m<=l.length) (fun m=>l.length-m) 0 (by
    refine Le.trans (D3 n _ _ rfl rfl) ?_;exact lE (hH:=.cons rfl (.refl _) (.cons rfl (.of_eq (by simp[avI,QI])) (.cons rfl (.of_eq (by simp[avI,QI])) .nil)))) (x8i _) ?_
  rintro m v;obtain⟨g1,h⟩:=Vj (n:=n) v;rcases x8o m l.length with q|q
  ·have u:(avP l)[m]?=some (.agg [.int .i64 l[m].1,.int .i64 l[m].2]):=by simp[avP,q]
   conv=>whnf
   repeat' ((first|refine x9p rfl ?_|refine wI ?_|refine iT u ?_|refine z2b 0 rfl (by decide) ?_|refine z2b 1 rfl (by decide) ?_|(apply bD<;>intro _<;>try omega)|(refine cJ [(1000,0+1+1),(2001,0),(2002,1)] 0 (Lq n _ _ l[m].1 l[m].2 g1.1 h.1 y (fun r s=>⟨(g1.2 r s).1,by have:=(g1.2 r s).2;omega⟩) (fun r s=>⟨(h.2 r s).1,by have:=(h.2 r s).2;omega⟩)) ?_;rintro l' H' ⟨t,rfl,rfl⟩))<;>conv=>whnf)
   exact⟨m+1,q,by omega,Le.of_eq (by rw[Qm q,Jm,He];rfl)⟩
  ·rw[x9u q]at g1 h⊢;conv=>whnf
   repeat' (apply bD<;>intro _<;>first|omega|conv=>whnf)
   exact⟨_,.ptr (cs:=[H6 (QI n l).1,H6 (QI n l).2]) rfl rfl (fun i x c k o=>by
    match i,k,o with
    |0,k,o=>cases k;cases o;exact .mat rfl (by rw[avI,x8b,g1.1])
    |1,k,o=>cases k;cases o;exact .mat rfl (by rw[avI,x8b,h.1])),rfl⟩
 ·refine lJ (fun m:Nat=>⟨[(5,.ptr (0+1+1) 0),(20,.p (.sl (avP l))),(21,.p (.int .i64 (avP l).length)),(22,.j m)],[(0+1+1,.obj 242 [.hd (0+1) 0 n,.hd 0 0 n]),(0+1,.ext (.mat 54 3 1 (avI (QI n (l.take m)).1) [])),(0,.ext (.mat 54 3 1 (avI (QI n (l.take m)).2) []))]⟩) (fun m=>m<=l.length) (fun m=>l.length-m) 0 (by
    refine Le.trans (D3 n _ _ rfl rfl) ?_;exact lE (hH:=.cons rfl (.refl _) (.cons rfl (.of_eq (by simp[avI,QI])) (.cons rfl (.of_eq (by simp[avI,QI])) .nil)))) (x8i _) ?_
  rintro m v;obtain⟨g1,h⟩:=Vj (n:=n) v;rcases x8o m l.length with q|q
  ·have u:(avP l)[m]?=some (.agg [.int .i64 l[m].1,.int .i64 l[m].2]):=by simp[avP,q]
   conv=>whnf
   repeat' ((first|refine x9p rfl ?_|refine wI ?_|refine iT u ?_|refine z2b 0 rfl (by decide) ?_|refine z2b 1 rfl (by decide) ?_|(apply bD<;>intro _<;>try omega)|(refine cJ [(1000,0+1+1),(2001,1),(2002,0)] 0 (Lq n _ _ l[m].1 l[m].2 g1.1 h.1 y (fun r s=>⟨(g1.2 r s).1,by have:=(g1.2 r s).2;omega⟩) (fun r s=>⟨(h.2 r s).1,by have:=(h.2 r s).2;omega⟩)) ?_;rintro l' H' ⟨t,rfl,rfl⟩))<;>conv=>whnf)
   exact⟨m+1,q,by omega,Le.of_eq (by rw[Qm q,Jm,He];rfl)⟩
  ·rw[x9u q]at g1 h⊢;conv=>whnf
   repeat' (apply bD<;>intro _<;>first|omega|conv=>whnf)
   exact⟨_,.ptr (cs:=[H6 (QI n l).1,H6 (QI n l).2]) rfl rfl (fun i x c k o=>by
    match i,k,o with
    |0,k,o=>cases k;cases o;exact .mat rfl (by rw[avI,x8b,g1.1])
    |1,k,o=>cases k;cases o;exact .mat rfl (by rw[avI,x8b,h.1])),rfl⟩
def GN(st:List Bool×List Int)(b:Int):List Bool×List Int:=bif st.1.getD b.toNat false then st else(st.1.set b.toNat true,st.2++[b])
def ZH(h:List (List Int)):Nat->Nat->List Bool×List Int->List Bool×List Int
 |0,_,st=>st
 | k+1,i,st=>match st.2[i]?with
   |some a=>ZH h k (i+1) ((h.getD a.toNat []).foldl GN st)
   |none=>st
def wkInv(n:Nat)(st:List Bool×List Int):Prop:=st.1.length=n/\st.2.length<=st.1.count true/\∀x∈st.2,0<=x/\x<n
theorem W0{n:Nat}{st:List Bool×List Int}(h:wkInv n st){b:Int}(p:0<=b/\b<n):wkInv n (GN st b):=by
 unfold GN;obtain⟨k,o,l⟩:=h;have i:b.toNat<st.1.length:=by omega
 cases r:st.1.getD b.toNat false with
 |true=>exact⟨k,o,l⟩
 | false=>
   have q:st.1[b.toNat]=false:=by simpa[i]using r
   refine⟨by simpa using k,?_,fun x j=>?_⟩
   ·simp only[x9k,x8m,x9a];rw[List.count_set i,q];simp;omega
   ·rcases x8e.1 j with j|j
    ·exact l x j
    ·rw[x9q.1 j];exact p
def EC{n:Nat}{l:List Int}:∀{st:List Bool×List Int},wkInv n st->(∀b∈l,0<=b/\b<n)->wkInv n (l.foldl GN st):=by
 induction l with
 |nil=>intro st h _;exact h
 |cons b r k=>intro st h i;exact k (W0 h (i b x8l)) fun c j=>i c (x8r _ j)
def NR{n:Nat}{st:List Bool×List Int}(h:wkInv n st):st.2.length<=n:=by
 refine z1q h.2.1 ?_;rw[<-h.1];exact List.count_le_length
def XB(n:Nat)(h:List (List Int)):Prop:=h.length=n/\∀r∈h,∀b∈r,0<=b/\b<n
def OD(st:List Bool×List Int):Heap:=[(1000,.own 4 1 (st.1.map bv)),(2000,.own 3 1 (st.2.map (.int .i64)))]
theorem Ft(n:Nat)(J:n<=5000)(h:List (List Int))(D:XB n h)(st:List Bool×List Int)(I:wkInv n st):
  aH 193 [.p (H6 h),.hd 1000 0 n,.hd 2000 0 st.2.length] (OD st) (.hd 2000 0 (ZH h (n+1) 0 st).2.length) (OD (ZH h (n+1) 0 st)):=by
 refine sK Nd func193 ?_;conv=>whnf
 skip
 refine lI (fun x:Nat×List Bool×List Int=>⟨[(0,.p (H6 h)),(1,.hd 1000 0 n),(2,.hd 2000 0 x.2.2.length),(7,.j x.1)],OD x.2⟩) (fun x=>wkInv n x.2/\x.1<=x.2.2.length/\ZH h (n+1-x.1) x.1 x.2=ZH h (n+1) 0 st) (fun x=>n-x.1) (0,st) ⟨I,x8i _,rfl⟩ ?_;rintro⟨i,seen,k⟩ ⟨c,E,o⟩;simp only at c E o⊢;have g:=NR c;simp only at g;rw[show n+1-i=n-i+1 by omega,ZH]at o;rcases x8o i k.length with y|y;rotate_left 1
 ·simp only[z0x y]at o;conv=>whnf
  repeat' ((first|(refine iM fun _=>?_)|(apply bD<;>intro _<;>try omega))<;>conv=>whnf)
  exact⟨_,z4q (by rw[<-o]),rfl,by rw[<-o];rfl⟩
 simp only[x8p y]at o;have K:=c.2.2 _ (x9w y);have w:k[i].toNat<h.length:=by rw[D.1];omega
 have a:((avI h).map AV.sl)[k[i].toNat]?=some (.sl (h[k[i].toNat].map (.int .i64))):=by simp[avI,w]
 have f:h.getD k[i].toNat []=h[k[i].toNat]:=by simp[w]
 rw[f]at o;have v:=D.2 _ (x9w w);conv=>whnf
 repeat' ((first|(refine iM fun _=>?_)|refine x9p rfl ?_|refine iO i ?_|refine z4b i 0 (.int .i64 k[i]) (by omega) (by simp[y]) ?_|refine iT a ?_|(apply bD<;>intro _<;>try omega))<;>conv=>whnf)
 have A:(h[k[i].toNat].map (AV.int .i64)).length<=9223372036854775807:=by assumption
 generalize h[k[i].toNat]=row at v o A⊢;have H:(row.map (AV.int .i64)).length=row.length:=x8b _;refine lI (fun x:Nat×List Bool×List Int=>⟨[(0,.p (H6 h)),(1,.hd 1000 0 n),(2,.hd 2000 0 x.2.2.length),(7,.j i),(22,.p (.sl (row.map (.int .i64)))),(23,.p (.int .i64 (row.map (AV.int .i64)).length)),(24,.j x.1)],OD x.2⟩) (fun x=>wkInv n x.2/\k.length<=x.2.2.length/\x.1<=row.length/\ZH h (n-i) (i+1) ((row.drop x.1).foldl GN x.2)=ZH h (n+1) 0 st) (fun x=>row.length-x.1) (0,seen,k) ⟨c,x9h _,x8i _,o⟩ ?_;rintro⟨q,l,t2⟩ ⟨t,B,F,u⟩;simp only at t B F u⊢;have z:=NR t;simp only at z;rcases x8o q row.length with d|d;rotate_left 1
 ·rw[x9j d]at u;conv=>whnf
  repeat' ((first|refine wI ?_|(apply bD<;>intro _<;>try omega))<;>conv=>whnf)
  exact nX (i+1,l,t2) ⟨t,by simp only;omega,by simp only;rw[show n+1-(i+1)=n-i by omega];exact u⟩
 rw[x9i d,z1c]at u;have G:=v _ (x9w d);have C:=W0 t G;have r:row[q].toNat<l.length:=by have:=t.1;simp only at this;omega
 cases s:l.getD row[q].toNat false with
 | true=>
   have e:GN (l,t2) row[q]=(l,t2):=by unfold GN;simp only[s,x9z]
   have b:(l.map bv)[row[q].toNat]?=some .tt:=by
    have:l[row[q].toNat]=true:=by simpa[r]using s
    simp[r,this,bv]
   rw[e]at u;conv=>whnf
   repeat' ((first|(refine gX ?_;intros)|refine z2b row[q].toNat (by omega) (by have:=t.1;simp only at this;omega) ?_|refine z4b row[q].toNat 0 .tt (by omega) b ?_|(apply bD<;>intro _<;>try omega))<;>conv=>whnf)
   all_goals exact nX (q+1,l,t2) ⟨t,B,by simp only;omega,u⟩
 | false=>
   have e:GN (l,t2) row[q]=(l.set row[q].toNat true,t2++[row[q]]):=by unfold GN;simp only[s,x9k]
   have b:(l.map bv)[row[q].toNat]?=some .ff:=by
    have:l[row[q].toNat]=false:=by simpa[r]using s
    simp[r,this,bv]
   rw[e]at u C;conv=>whnf
   repeat' ((first|(refine gX ?_;intros)|refine z2b row[q].toNat (by omega) (by have:=t.1;simp only at this;omega) ?_|refine z4b row[q].toNat 0 .ff (by omega) b ?_|refine z3h row[q].toNat 0 .ff .tt (by omega) b (x9h 1) rfl ?_|refine pI ?_|(apply bD<;>intro _<;>try omega))<;>conv=>whnf)
   all_goals exact⟨(q+1,l.set row[q].toNat true,t2++[row[q]]),⟨C,by simp;omega,by simp only;omega,u⟩,by simp only;omega,Le.of_eq (by simp only[OD,x8m,x8a,z0o];rfl)⟩
def BV:Nat->List Bool->List Int
 |_,[]=>[]
 |i,b::r=>bif b then(i:Int)::BV (i+1) r else BV (i+1) r
theorem Lz(seen:List Bool)(t:seen.length<=1000000):
  SpecH prog 194 [.hd 1000 0 seen.length] [(1000,.own 4 1 (seen.map bv))] (fun r H=>∃es,r=.p (.sl es)/\H=[(1000,.own 4 1 (seen.map bv))]/\es=(BV 0 seen).map (.int .i64)):=by
 refine Ug (e:=3) (sz:=1) rfl ?_;refine sK Hx func194 ?_;conv=>whnf
 repeat' ((refine iM fun _=>?_)<;>conv=>whnf)
 refine lJ (fun i:Nat×List Int=>⟨[(3,.hd 0 0 i.2.length),(6,.hd 1000 0 seen.length),(7,.j seen.length),(8,.j i.1)],[(0,.own 3 1 (i.2.map (.int .i64))),(1000,.own 4 1 (seen.map bv))]⟩) (fun i=>i.1<=seen.length/\i.2.length<=i.1/\i.2++BV i.1 (seen.drop i.1)=BV 0 seen) (fun i=>seen.length-i.1) (0,[]) (lM [(0,.own 3 1 [])]) ⟨x8i _,x9h _,rfl⟩ ?_;rintro⟨m,n⟩ ⟨q,s,k⟩;simp only at q s k⊢;rcases x8o m seen.length with l|l;rotate_left 1
 ·rw[x9j l,BV,z0k]at k;subst k;conv=>whnf
  repeat' (apply bD<;>intro _<;>first|omega|conv=>whnf)
  exact⟨_,x9b _,(BV 0 seen).map (.int .i64),by simp,rfl,rfl⟩
 rw[x9i l,BV]at k;cases h:seen[m]with
 | true=>
   rw[h,x9z]at k;have o:(seen.map bv)[m]?=some .tt:=by simp[l,h,bv]
   conv=>whnf
   repeat' ((first|refine gX ?_|refine z2b m rfl l ?_|refine lO o ?_|refine pI ?_|(apply bD<;>intro _<;>try omega))<;>conv=>whnf)
   exact⟨(m+1,n++[(m:Int)]),⟨by simp only;omega,by simp;omega,by simpa using k⟩,by simp only;omega,Le.of_eq (by simp only[x8m,x8a];rfl)⟩
 | false=>
   rw[h,x9k]at k;have o:(seen.map bv)[m]?=some .ff:=by simp[l,h,bv]
   conv=>whnf
   repeat' ((first|refine gX ?_|refine z2b m rfl l ?_|refine lO o ?_|(apply bD<;>intro _<;>try omega))<;>conv=>whnf)
   exact nX (m+1,n) ⟨by simp only;omega,by simp only;omega,k⟩
theorem Kv(g:List (List Int)×List (List Int))(a:Int):aP 192 [HL g,.int .i64 a] (.bool (WY g.1.length a)):=by
 refine sC HY func192 ?_;conv=>whnf
 repeat' ((first|(refine iM fun _=>?_)|(apply bD<;>intro _<;>try omega))<;>conv=>whnf)
 all_goals have h:((avI g.1).map AV.sl).length=g.1.length:=by simp[avI]
 all_goals first
  |exact RetK.bool (by unfold WY;simp[*];done)
  |exact RetK.ff (by unfold WY;simp;omega)
 all_goals trace_state
def ND(n:Nat)(l:List Int):List Bool×List Int:=l.foldl (fun st a=>bif WY n a then GN st a else st) (List.replicate n false,[])
def WX(h:List (List Int))(l:List Int):List Bool:=(ZH h (h.length+1) 0 (ND h.length l)).1
def Xy(n:Nat):wkInv n (List.replicate n false,[]):=⟨by simp,by simp[List.count_replicate],by simp⟩
theorem NP{n:Nat}{j:List (List Int)}(o:XB n j):∀(k i:Nat){st:List Bool×List Int},wkInv n st->wkInv n (ZH j k i st)
 |0,_,_,h=>h
 | k+1,i,st,h=>by
   rw[ZH];split
   ·rename_i a ha;have p:=h.2.2 a (x9y ha);refine NP o k (i+1) (EC h ?_);have l:a.toNat<j.length:=by rw[o.1];omega
    rw[x8n,x8p l];exact o.2 _ (x9w l)
   ·exact h
def ZY{n:Nat}{a:Int}(h:WY n a=true):0<=a/\a<n:=by
 unfold WY at h;simpa using h
theorem Vg(n:Nat)(C:n<=5000)(g:List (List Int)×List (List Int))(u:XB n g.1)(l:List Int)(c:l.length<=1000000):aP 134 [HL g,XZ l] (XZ (BV 0 (WX g.1 l))):=by
 refine sC LE func134 ?_;conv=>whnf
 have A:((avI g.1).map AV.sl).length=n:=by simp[avI,u.1]
 repeat' ((first|(refine gX ?_;intros)|refine MkK.mk n (by rw[A]) (by show 1*n<=140737488355328;omega) (by unfold maxLen;omega) ?_)<;>conv=>whnf)
 have B:(l.map (AV.int .i64)).length=l.length:=x8b _;refine lJ (fun x:Nat×List Bool×List Int=>⟨[(0,.p (HL g)),(5,.hd 0 0 n),(6,.hd 1 0 x.2.2.length),(17,.p (XZ l)),(18,.p (.int .i64 (l.map (AV.int .i64)).length)),(19,.j x.1)],[(0,.own 4 1 (x.2.1.map bv)),(1,.own 3 1 (x.2.2.map (.int .i64)))]⟩) (fun x=>x.1<=l.length/\wkInv n x.2/\(l.drop x.1).foldl (fun st a=>bif WY n a then GN st a else st) x.2=ND n l) (fun x=>l.length-x.1) (0,List.replicate n false,[]) (lM [(1,.own 3 1 [])] (hH:=.cons rfl (.of_eq (by rw[z2u];rfl)) (.new x8l .nil))) ⟨x8i _,Xy n,rfl⟩ ?_;rintro⟨m,seen,i⟩ ⟨e,r,q⟩;simp only at e r q⊢;have hsl:seen.length=n:=r.1;have D:i.length<=n:=NR r;rcases x8o m l.length with y|y;rotate_left 1
 ·rw[x9j y,List.foldl_nil]at q;conv=>whnf
  repeat' ((first|(apply bD<;>intro _<;>try omega)|(refine cH [(1000,0),(2000,1)] 0 (Ft n C g.1 u (seen,i) r) ?_))<;>conv=>whnf)
  have z:(ZH g.1 (n+1) 0 (seen,i)).1.length=n:=(NP u _ _ r).1;refine cJ rH2 0 (Lz (ZH g.1 (n+1) 0 (seen,i)).1 (by omega)) ?_ (ha:=(x9t (z4q (by rw[z];rfl)) z1w));rintro l' H' ⟨es,rfl,rfl,rfl⟩;conv=>whnf
  skip
  exact RetK.p (by unfold XZ WX;rw[u.1,<-q])
 rw[x9i y,z1c]at q;have s:aP 192 [HL g,.int .i64 l[m]] (.bool (WY n l[m])):=by
  have:=Kv g l[m]
  rwa[u.1]at this
 cases o:seen.getD l[m].toNat false with
 | true=>
   have t:(bif WY n l[m]then GN (seen,i) l[m]else(seen,i))=(seen,i):=by unfold GN;simp only[o,x9z];cases WY n l[m]<;>rfl
   have v:WY n l[m]=true->(seen.map bv)[l[m].toNat]?=some .tt:=fun h=>by
    have f:=ZY h;have k:l[m].toNat<seen.length:=by omega
    have:seen[l[m].toNat]=true:=by simpa[k]using o
    simp[k,this,bv]
   rw[t]at q;conv=>whnf
   repeat' ((first|(refine gX ?_;intros)|refine cP s ?_|refine z2b l[m].toNat (by have:=ZY (by assumption);omega) (by have:=ZY (by assumption);omega) ?_|refine z4b l[m].toNat 0 .tt (by omega) (v (by assumption)) ?_|((first|apply bD|apply bB)<;>intro _<;>try omega))<;>conv=>whnf)
   all_goals exact nX (m+1,seen,i) ⟨by simp only;omega,r,q⟩
 | false=>
   have v:WY n l[m]=true->(seen.map bv)[l[m].toNat]?=some .ff:=fun h=>by
    have f:=ZY h;have k:l[m].toNat<seen.length:=by omega
    have:seen[l[m].toNat]=false:=by simpa[k]using o
    simp[k,this,bv]
   conv=>whnf
   repeat' ((first|(refine gX ?_;intros)|refine cP s ?_|refine z2b l[m].toNat (by have:=ZY (by assumption);omega) (by have:=ZY (by assumption);omega) ?_|refine z4b l[m].toNat 0 .ff (by omega) (v (by assumption)) ?_|refine z3h l[m].toNat 0 .ff .tt (by omega) (v (by assumption)) (x9h 1) rfl ?_|refine pI ?_|((first|apply bD|apply bB)<;>intro _<;>try omega))<;>conv=>whnf)
   ·have w:WY n l[m]=true:=by assumption
    have t:(bif WY n l[m]then GN (seen,i) l[m]else(seen,i))=(seen.set l[m].toNat true,i++[l[m]]):=by unfold GN;simp only[o,w,x9z,x9k]
    have b:=W0 r (ZY w);rw[t]at q;have d:GN (seen,i) l[m]=(seen.set l[m].toNat true,i++[l[m]]):=by unfold GN;simp only[o,x9k]
    rw[d]at b;exact⟨(m+1,seen.set l[m].toNat true,i++[l[m]]),⟨by simp only;omega,b,q⟩,by simp only;omega,Le.of_eq (by simp only[x8m,x8a,z0o];rfl)⟩
   ·have w:WY n l[m]=false:=by assumption
    have t:(bif WY n l[m]then GN (seen,i) l[m]else(seen,i))=(seen,i):=by rw[w];rfl
    rw[t]at q;exact nX (m+1,seen,i) ⟨by simp only;omega,r,q⟩
theorem Nz(w:Way)(f:Pr)(n:Nat)(q:w.n=n)(k:w.p.A[w.j]?=some f)(i:cntP w.p.A<=1000)(o:n<=5000)(l:List Step)(h:l.length<=1000000):aP 133 [.ip w.cells,DO l] (HL (QI n (l.map (ixP w.p w.j f w.n)))):=by
 refine sC BC func133 ?_;conv=>whnf
 repeat' ((first|refine dA ?_|refine cP (DA w f k i (by omega) l h) ?_ (ha:=.cons (Sub.refl _) (.cons (Sub.refl _) .nil))|refine cP (Lx n o (l.map (ixP w.p w.j f w.n)) (by rw[x8b];exact h)) ?_ (ha:=.cons (Sub.int q) (.cons (Sub.refl _) .nil)))<;>conv=>whnf)
 exact RetK.p rfl
theorem Nw(p:Pg)(j:Nat)(f:Pr)(n:Nat)(h:AV)(k:List AV)(q:p.A[j]?=some f)(o:cntP p.A<=1000)(r:n<=5000)(l:List Step)(i:l.length<=1000000):
  aH 133 [.ptr 1000 0,.p (DO l)] (q3a p j n h k) (.p (HL (QI n (l.map (ixP p j f n))))) (q3a p j n h k):=by
 refine sK BC func133 ?_;conv=>whnf
 refine DrawK.of ZP mixed (.cons 0 false (.cons 1 false (.cons 2 false (.cons 4 false (.cons 5 false (.fork 3 (.cons 6 true (.cons 7 true (.cons 8 true .nil))) 6 (.cons 3 true (.cons 7 true (.cons 8 true .nil))))))))) (by kernel_rfl) ?_;conv=>whnf
 repeat' ((first|refine cP (Lx n r (l.map (ixP p j f n)) (by rw[x8b];exact i)) ?_ (ha:=.cons (Sub.refl _) (.cons (Sub.refl _) .nil))|refine x9p ?_ ?_|(refine cJ [(1000,1000),(2000,2000)] 0 (N9 p j f n h k q o (by omega) l i) ?_;rintro l' H' ⟨es,rfl,rfl,rfl⟩))<;>conv=>whnf)
 all_goals exact⟨_,x9b _,rfl,rfl⟩
def Du{n:Nat}(h:XB n N){a:Nat}{b:Int}(o:0<=b/\b<n):XB n (D9 N a b):=by
 unfold D9;refine⟨by rw[z0h];exact h.1,fun r k x i=>?_⟩;rcases z4z k with k|rfl
 .exact h.2 r k x i
 .unfold Uo at i;have l:∀y∈N.getD a [],0<=y/\y<n:=fun y j=>by
   rcases x8o a N.length with ha|ha
   .rw [x8n,x8p ha]at j;exact h.2 _ (x9w ha) y j
   .rw [x8n,z0x ha]at j;cases j
  rcases x8e.1 i with i|i
  .exact l x (z4e i)
  .rcases x8s.1 i with rfl|i
   .exact o
   .exact l x (List.mem_of_mem_drop i)
def q5a{n:Nat}{g:List (List Int)×List (List Int)}(h:XB n g.1/\XB n g.2)(e:Int×Int):XB n (Ny n g e).1/\XB n (Ny n g e).2:=by
 rw[Jm,He];cases i:WY n e.1&&WY n e.2 && !(g.1.getD e.1.toNat []).contains e.2
 .exact h
 .simp only[x9g]at i;exact⟨Du h.1 (ZY i.1.2),Du h.2 (ZY i.1.1)⟩
def q1v{n:Nat}(l:List (Int×Int)):∀{g:List (List Int)×List (List Int)},XB n g.1/\XB n g.2->XB n (l.foldl (Ny n) g).1/\XB n (l.foldl (Ny n) g).2:=by
 induction l with
 |nil=>intro g h;exact h
 |cons e r i=>intro g h;exact i (q5a h e)
def HS(n:Nat)(l:List (Int×Int)):XB n (QI n l).1/\XB n (QI n l).2:=by
 have h:XB n (List.replicate n []):=⟨by simp,fun r i=>by rw[z2g i];simp⟩;exact q1v l ⟨h,h⟩
theorem Wr.eq{n m:Int}{K:Int->Prop}(h:n=m)(i : -9223372036854775808<=m)(j:m<=9223372036854775807)(l:K m):Wr .i64 n K:=by
 subst h;exact Wr.i64 i j l
theorem Ul:∀(a:Step)(l:List Step),(XJ a l).length<=l.length
 |_,[]=>x9h _
 | a,b::r=>by
   have:=Ul b r;rw[XJ];cases ZL b a<;>simp<;>omega
theorem Lc(l:List Step):(WC l).length<=l.length:=by
 unfold WC;rw[<-U2 (l:=l)];cases JS l with
 |nil=>exact x9h _
 | cons a r=>
   have:=Ul a r;simp[Qh];omega
def I0(h:Sheet)(f:Pr)(it:Item):(UU h f it).length<=2:=by
 unfold UU;split<;>(try split)<;>(try split)<;>(try split)<;>(try split)<;>(try split)<;>simp
theorem Ue{α β:Type}{g:α->List β}(h:∀x,(g x).length<=2):∀l:List α,(l.flatMap g).length<=2*l.length
 |[]=>by simp
 | a::r=>by
   have:=Ue h r;have:=h a;rw[z0e,x8m,x9f];omega
theorem Y5(p:Pg)(j:Nat)(f:Pr):(QK p j f).length<=1+2*cntL f.body:=by
 unfold QK;have:=Ue (g:=fun it=>(UU (sheetOf p) f it).map (Step.mk it.s.id · 1)) (fun it=>by rw[x8b];exact I0 _ _ _) (itL j 0 (-1) 0 (offN p.A j) f.body);rw[ZC]at this;rw[x9f];omega
theorem Pq:∀(i:Nat)(l:List Bool)(a:Int),a∈BV i l->(i:Int)<=a/\a<i+l.length
 |_,[],_,h=>by rw[BV]at h;cases h
 | i,b::r,a,h=>by
   rw[BV]at h;have key:a∈BV (i+1) r->(i:Int)<=a/\a<i+(b::r).length:=fun h=>by
    have:=Pq (i+1) r a h;simp only[x9f];omega
   cases b with
   |false=>exact key h
   | true=>
     rcases x8s.1 h with rfl|h
     ·simp only[x9f];omega
     ·exact key h
def AK(n:Nat)(l:List Int):wkInv n (ND n l):=by
 unfold ND;have:∀(l:List Int)(st:List Bool×List Int),wkInv n st->wkInv n (l.foldl (fun st a=>bif WY n a then GN st a else st) st):=fun l=>by
  induction l with
  |nil=>intro st h;exact h
  | cons a r j=>
    intro st h;refine j _ ?_;show wkInv n (bif WY n a then GN st a else st);cases i:WY n a with
    |true=>exact W0 h (ZY i)
    |false=>exact h
 exact this l _ (Xy n)
def As{n:Nat}{i:List (List Int)}(h:XB n i)(l:List Int):(WX i l).length=n:=by
 unfold WX;rw[h.1];exact(NP h _ _ (AK n l)).1
def BJ(l:List Int)(b:List Bool):List Bool:=l.foldl (fun b a=>b.set a.toNat true) b
def QQ(p:Pg)(j:Nat)(f:Pr):Way:=
 let h:=WC (QK p j f);let n:=cntL f.body+2
 ⟨p,j,n,h,BJ (BV 0 (WX (QI n (h.map (ixP p j f n))).1 [0])) (List.replicate n false)⟩
theorem q8i(p:Pg)(j:Nat)(f:Pr)(y:p.A[j]?=some f)(D:cntP p.A<=1000)(G:∀it∈itsOf p j f,it.s.kind=7->1<=it.loop/\it.loop<=(sheetOf p).l.length)(g:∀s∈QK p j f,okSt s):aP 68 [.ip (sheetOf p).cells,.int .i64 j] (.ip (QQ p j f).cells):=by
 refine sC AO func68 ?_;conv=>whnf
 obtain⟨_,_,_,E,C⟩:=QY p;obtain⟨d,w,H,_⟩:=C j f y;repeat' ((first|refine dA ?_|refine x9p rfl ?_|refine aR ?_|refine IdxK.at rfl (UF d) rfl ?_|refine IdxK.at rfl (UF w) rfl ?_|refine cP (Yj p j f y D G g) ?_|refine Wr.eq (m:=cntL f.body) (by omega) (by omega) (by omega) ?_|refine Wr.eq (m:=(cntL f.body+2:Nat)) (by omega) (by omega) (by omega) ?_|refine MkK.mk (cntL f.body+2) rfl (by show 1*_<=140737488355328;omega) (by unfold maxLen;omega) ?_)<;>conv=>whnf)
 have B:(WC (QK p j f)).length<=1000000:=by have:=Lc (QK p j f);have:=Y5 p j f;omega
 refine cJ [(1000,0),(2000,1)] 0 (Nw p j f (cntL f.body+2) (DO (WC (QK p j f))) (List.replicate (cntL f.body+2) .ff) y D (by omega) (WC (QK p j f)) B) ?_ (hH:=x9m (j:=0) rfl rfl (CSub.of_eq (by rw[z0b];rfl)) (x9m (j:=1) rfl rfl (CSub.refl _) z1x));rintro l' H' ⟨rfl,rfl⟩;conv=>whnf
 obtain⟨o,_⟩:=HS (cntL f.body+2) ((WC (QK p j f)).map (ixP p j f (cntL f.body+2:Nat)));repeat' ((first|(refine gX ?_;intros)|refine cP (Vg (cntL f.body+2) (by omega) _ o [0] (by simp)) ?_ (ha:=.cons (Sub.refl _) (.cons (Sub.refl _) .nil)))<;>conv=>whnf)
 have q:∀a∈BV 0 (WX (QI (cntL f.body+2) ((WC (QK p j f)).map (ixP p j f (cntL f.body+2:Nat)))).1 [0]),0<=a/\a<(cntL f.body+2:Nat):=fun a ha=>by
  have:=Pq _ _ _ ha;rw[As o]at this;omega
 have e:QQ p j f=⟨p,j,(cntL f.body+2:Nat),WC (QK p j f),BJ (BV 0 (WX (QI (cntL f.body+2) ((WC (QK p j f)).map (ixP p j f (cntL f.body+2:Nat)))).1 [0])) (List.replicate (cntL f.body+2) false)⟩:=rfl;rw[e];have z:((BV 0 (WX (QI (cntL f.body+2) ((WC (QK p j f)).map (ixP p j f (cntL f.body+2:Nat)))).1 [0])).map (AV.int .i64)).length<=9223372036854775807:=by assumption
 generalize BV 0 (WX (QI (cntL f.body+2) ((WC (QK p j f)).map (ixP p j f (cntL f.body+2:Nat)))).1 [0])=lst at q z⊢;have I:(lst.map (AV.int .i64)).length=lst.length:=x8b _;refine lJ (fun x:Nat×List Bool=>⟨[(5,.ptr 0 0),(46,.p (XZ lst)),(47,.p (.int .i64 (lst.map (AV.int .i64)).length)),(48,.j x.1)],[(0,.obj 144 [.p (.ip (sheetOf p).cells),.j j,.j (cntL f.body+2:Nat),.p (DO (WC (QK p j f))),.hd 1 0 (cntL f.body+2)]),(1,.own 4 1 (x.2.map bv))]⟩) (fun x=>x.1<=lst.length/\x.2.length=cntL f.body+2/\BJ (lst.drop x.1) x.2=BJ lst (List.replicate (cntL f.body+2) false)) (fun x=>lst.length-x.1) (0,List.replicate (cntL f.body+2) false) (Le.of_eq (by simp only[z2u,z0b];rfl)) ⟨x8i _,by simp,rfl⟩ ?_;rintro⟨m,b⟩ ⟨F,t,n⟩;simp only at F t n⊢;rcases x8o m lst.length with r|r;rotate_left 1
 ·rw[x9j r]at n;rw[<-n];conv=>whnf
  repeat' (apply bD<;>intro _<;>first|omega|conv=>whnf)
  exact⟨_,.ptr (cs:=[.ip (sheetOf p).cells,.int .i64 j,.int .i64 (cntL f.body+2:Nat),DO (WC (QK p j f)),.sl (b.map bv)]) rfl rfl (fun i x c h k=>by
   match i,h,k with
   |0,h,k=>cases h;cases k;exact .p (Sub.refl _)
   |1,h,k=>cases h;cases k;exact .p (Sub.refl _)
   |2,h,k=>cases h;cases k;exact .p (Sub.refl _)
   |3,h,k=>cases h;cases k;exact .p (Sub.refl _)
   |4,h,k=>cases h;cases k;exact .hd rfl (by rw[x8b,t])),rfl⟩
 rw[x9i r]at n;have ha:=q _ (x9w r);have u:lst[m].toNat<b.length:=by omega
 have v:(b.map bv)[lst[m].toNat]?=some (bv b[lst[m].toNat]):=by simp[u]
 conv=>whnf
 repeat' ((first|(refine gX ?_;intros)|refine z2b lst[m].toNat (by omega) (by omega) ?_|refine z3h lst[m].toNat 0 (bv b[lst[m].toNat]) .tt (by omega) v (x9h 1) (by cases b[lst[m].toNat]<;>rfl) ?_|(apply bD<;>intro _<;>try omega))<;>conv=>whnf)
 exact⟨(m+1,b.set lst[m].toNat true),⟨by simp only;omega,by simp only[z0h];exact t,n⟩,by simp only;omega,Le.of_eq (by simp only[z0o];rfl)⟩
end Go.Ab
