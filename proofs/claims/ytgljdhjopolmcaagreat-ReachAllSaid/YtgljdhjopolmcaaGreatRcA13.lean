/- The library's contracts at this seat's program, in plain words (printed by the kit's lay-plain.mjs). Conditions: none. -/
import Derived.Shelf.SlSortCmp.NoneTotal
import Derived.Ground.SlsfProg
import Derived.Test.YtgljdhjopolmcaaGreatRcA12
set_option linter.all false
set_option maxRecDepth 100000
set_option maxHeartbeats 16000000
namespace Go.Proofs
open Go.Shelf Tryz
def Tryz.laysF_ren:Go.Shelf.Ren:=⟨fun|6=>204|15=>162|14=>266|28=>221|29=>222|20=>295|21=>296|22=>297|23=>298|24=>299|25=>300|26=>301|27=>302|46=>320|47=>274|48=>275|49=>321|50=>322|57=>325|n=>n,fun|22=>141|24=>217|25=>251|3=>3|39=>227|0=>0|53=>267|55=>269|4=>4|46=>261|45=>260|50=>178|5=>5|9=>9|66=>296|70=>300|76=>318|77=>30|n=>n,fun|n=>n⟩
theorem kT12{α:Type}{x:Option α}{a b:α}(h:x=some a)(e:a=b:=by kernel_rfl):x=some b:=e▸h
def Bt:Go.Proofs.SlLaysF0.n6 Tryz.prog Tryz.laysF_ren:=⟨by kernel_rfl,⟨f204.name,by decide,kT12 func204⟩,⟨f266.name,by decide,kT12 func266⟩,kT12 func162,⟨f295.name,by decide,kT12 func295⟩,⟨f296.name,by decide,kT12 func296⟩,⟨f297.name,by decide,kT12 func297⟩,⟨f298.name,by decide,kT12 func298⟩,⟨f299.name,by decide,kT12 func299⟩,⟨f300.name,by decide,kT12 func300⟩,⟨f301.name,by decide,kT12 func301⟩,⟨f302.name,by decide,kT12 func302⟩,kT12 func221,kT12 func222,⟨f320.name,by decide,kT12 func320⟩,kT12 func274,kT12 func275,⟨f321.name,by decide,kT12 func321⟩,⟨f322.name,by decide,kT12 func322⟩,⟨f325.name,by decide,kT12 func325⟩,underlying0,isAgg0,sizeOf0,zeroValue0,underlying3,isAgg3,sizeOf3,zeroValue3,underlying4,isAgg4,sizeOf4,zeroValue4,underlying5,isAgg5,sizeOf5,zeroValue5,underlying9,isAgg9,sizeOf9,zeroValue9,underlying141,isAgg141,sizeOf141,zeroValue141,underlying251,isAgg251,sizeOf251,zeroValue251,underlying227,isAgg227,sizeOf227,zeroValue227,underlying260,isAgg260,sizeOf260,zeroValue260,underlying261,isAgg261,sizeOf261,zeroValue261,underlying178,isAgg178,sizeOf178,zeroValue178,underlying267,isAgg267,sizeOf267,zeroValue267,underlying269,isAgg269,sizeOf269,zeroValue269,underlying296,isAgg296,sizeOf296,zeroValue296,underlying300,isAgg300,sizeOf300,zeroValue300,underlying318,isAgg318,sizeOf318,zeroValue318,underlying30,isAgg30,sizeOf30,zeroValue30⟩
end Go.Proofs
namespace Go.Ab
open Go.Proofs.Tryz
open Go.Proofs Go.Sort Go.RowKit Go.Lib
variable {N:List (List Int)}{m:Nat}{σ:Mem}
theorem Frm.grown{w w':World}(h:Frm (fun _=>False) w w'):∃q os,w'=grow (w.drewN q) os:=by
 obtain⟨v,D,o,B,C⟩:=w;obtain⟨l,u,j,r,t⟩:=w';obtain⟨z,a,b,f,g,c⟩:=h;simp only at z a b f g c;refine⟨j-o,l.extract v.size l.size,?_⟩;subst z a b;have e:o+(j-o)=j:=by omega
 show World.mk l u j r t=World.mk (v++l.extract v.size l.size) u (o+(j-o)) r t;rw[e];congr 1;apply Array.ext
 ·simp;omega
 ·intro i y A;by_cases x:i<v.size
  ·have:=c i x id;rw[z3k y,z3k x]at this;rw[Array.getElem_append_left x];exact z3q this
  ·rw[Array.getElem_append_right (by omega)];simp;congr 1;omega
def NY(a b:Step):Bool:=decide (Cd a b<0)
def OA(a b c:Int):orI [a,b,c]<0↔a<0\/a=0/\(b<0\/b=0/\c<0):=by
 by_cases h:a=0<;>by_cases i:b=0<;>by_cases j:c=0<;>simp[orI,h,i,j]
theorem FJ(x y:Int):Rk x y<0↔x<y:=by
 unfold Rk;split
 ·omega
 ·split<;>omega
theorem YR(x y:Int):Rk x y=0↔x=y:=by
 unfold Rk;split
 ·omega
 ·split<;>omega
def AH(a b:Step):Cd a b<0↔QS a.src<QS b.src\/QS a.src=QS b.src/\(QS a.dst<QS b.dst\/QS a.dst=QS b.dst/\a.kind<b.kind):=by
 unfold Cd;rw[OA,FJ,FJ,FJ,YR,YR]
def okSt(s:Step):Prop:=s.src≠9223372036854775807/\s.dst≠9223372036854775807
abbrev OSt:={s:Step // okSt s}
instance:Inhabited OSt:=⟨⟨⟨0,0,0⟩,by constructor<;>decide⟩⟩
def cfO(a b:OSt):Int:=Cd a.1 b.1
theorem KN{x y:Int}(i:x≠9223372036854775807)(j:y≠9223372036854775807)(h:QS x=QS y):x=y:=by
 unfold QS at h;split at h<;>split at h<;>omega
theorem q9t:SWO (ltOf cfO):=by
 refine⟨fun x=>?_,fun x y z h i=>?_,fun x y z h i=>?_⟩;all_goals
  unfold ltOf cfO at*
  simp only[z2z,z4h,AH]at*
  omega
theorem q9s(x y:OSt)(j:ltOf cfO x y=false)(k:ltOf cfO y x=false):x=y:=by
 unfold ltOf cfO at*
 simp only[z4h,AH]at j k;obtain⟨⟨a,b,c⟩,l,n⟩:=x;obtain⟨⟨d,e,f⟩,o,p⟩:=y;simp only at*
 have h:=KN (x:=a) (y:=d) l o (by omega);have e2:=KN (x:=b) (y:=e) n p (by omega);have i:c=f:=by omega
 subst h e2 i;rfl
def Rh(s:OSt):List Value:=[.int .i64 s.1.src,.int .i64 s.1.dst,.int .i64 s.1.kind]
def H7(s:OSt):Rep σ (.agg s.1.cells) (.agg (Rh s).toArray):=by
 refine .agg _ _ (fun j=>(Rh s).toArray.getD j undef) rfl (fun j c h=>?_) (fun j c h=>?_)
 .match j,h with
  |0,_=>rfl
  |1,_=>rfl
  |2,_=>rfl
 .match j,h with
  |0,h=>cases h;exact .int _ _
  |1,h=>cases h;exact .int _ _
  |2,h=>cases h;exact .int _ _
def q3n(W:World)(x y:OSt):Calls prog 205 (#[.agg (Rh x).toArray,.agg (Rh y).toArray] ++ #[]) W fun e w'=>e=.returned (.int .i64 (cfO x y))/\∃q k,w'=grow (W.drewN q) k:=by
 refine((SF x.1 y.1).ok (fun _=>none) W #[.agg (Rh x).toArray,.agg (Rh y).toArray] rfl (fun j c i=>?_) (fun b c h=>by cases h)).mono ?_
 .match j,i with
  |0,i=>cases i;exact H7 x
  |1,i=>cases i;exact H7 y
 .rintro e w' ⟨c,u,σ',rfl,rfl,n,_,_,l,_⟩;cases n;exact⟨rfl,l.grown⟩
def q1d{l:List OSt}{vs:Array Value}(h:∀(m:Nat)(x:AV),(l.map fun s=>AV.agg s.1.cells)[m]?=some x->x.cells.length=3/\∀(j:Nat)(c:AV),x.cells[j]?=some c->∃u:Value,vs[m*3+j]?=some u/\Rep σ c u){j:Nat}(p:m<l.length)(o:j<3):
  vs[m*3+j]?=(Rh l[m])[j]?:=by
 have n:=(h m (.agg l[m].1.cells) (by simp[p])).2
 match j,o with
 | 0,_=>
   obtain⟨u,i,k⟩:=n 0 (.int .i64 l[m].1.src) rfl;cases k;exact i
 | 1,_=>
   obtain⟨u,i,k⟩:=n 1 (.int .i64 l[m].1.dst) rfl;cases k;exact i
 | 2,_=>
   obtain⟨u,i,k⟩:=n 2 (.int .i64 l[m].1.kind) rfl;cases k;exact i
theorem q1b{l:List OSt}{vs:Array Value}(h:∀(m:Nat)(n:m<l.length)(j:Nat),j<3->vs[m*3+j]?=(Rh l[m])[j]?):∀(m:Nat)(x:AV),(l.map fun s=>AV.agg s.1.cells)[m]?=some x->x.cells.length=3/\∀(j:Nat)(c:AV),x.cells[j]?=some c->∃u:Value,vs[m*3+j]?=some u/\Rep σ c u:=by
 intro m x k;rw[z1u]at k;cases o:l[m]?with
 |none=>rw[o]at k;cases k
 | some s=>
   rw[o]at k;cases k;obtain⟨n,rfl⟩:=z1k.1 o;refine⟨rfl,fun j c i=>?_⟩
   match j,i with
   |0,i=>cases i;exact⟨_,h m n 0 (by omega),.int _ _⟩
   |1,i=>cases i;exact⟨_,h m n 1 (by omega),.int _ _⟩
   |2,i=>cases i;exact⟨_,h m n 2 (by omega),.int _ _⟩
theorem Tq{d:Array OSt}{t:Nat}(h:t<d.size*3):(flatK Rh 3 d)[t]?=(Rh (d[t/3]'(by omega)))[t%3]?:=by
 have i:=get_flatK Rh 3 d t h;rw[z6h _ t (by simpa using h),z6h d (t/3) (by omega)]at i;rw[z3k (by simpa using h),i];have j:t%3<(Rh (d[t/3]'(by omega))).length:=by simp[Rh];omega
 rw[z0c j,z6h (Rh (d[t/3]'(by omega))) (t%3) j]
def GH(l:List Step):List Step:=l.mergeSort fun x y=> !NY y x
def Ye{l:List Step}:(GH l).length=l.length:=by unfold GH;simp
def Ds(l:List Step):(GH l).Perm l:=z4i _ _
theorem X5(l:List OSt)(Q:l.length<=1000000000):
  aH 204 [.hd 1000 0 l.length,.p (.fn 205 [])] [(1000,.own 217 3 (l.map fun s=>.agg s.1.cells))] (.p (.tup [])) [(1000,.own 217 3 ((l.mergeSort fun x y=> !(ltOf cfO) y x).map fun s=>.agg s.1.cells))]:=by
 refine⟨call204,fun σ β w U hn f hH=>?_⟩;obtain⟨v,u,rfl⟩:=x2c hn;have g:RepL σ β (.hd 1000 0 l.length) v:=by simpa using f 0 _ rfl
 have K:RepL σ β (.p (.fn 205 [])) u:=by simpa using f 1 _ rfl
 obtain rfl:u=.func (.func 205) #[] #[]:=by
  cases K with
  | p h=>cases h with
    | fn _ _ vs u I q hr=>
      obtain rfl:vs=#[]:=Array.size_eq_zero_iff.1 I;rfl
 have E:=hH.chunks 1000 _ z1j;rcases E with⟨D,F⟩|⟨i,vs,B,J,G,M,V,Y,Z⟩
 ·have H:l=[]:=z7g.1 F;subst H;obtain⟨rfl,_⟩:=Tc g D;have q:=AnyF.slices_SortFunc_none Bt none 0 (.func (.func 205) #[] #[]) w;change Calls prog 204 _ _ _ at q;refine q.mono ?_;rintro e w' ⟨rfl,rfl⟩;exact⟨.p (.tup []),.tuple #[],σ,β,_,rfl,⟨rfl,rfl⟩,.p (.tup [] #[] (fun _=>undef) rfl (by simp) (by simp)),by simpa using hH,by simpa using Later.refl _ _ _ _⟩
 ·have L:=Pt g B;subst L;have c:=(hH.apart 1000 (by simp) i B i.blk i.has_blk).2;have a:l.length<=i.cap:=by simpa using V
  have hle:l.length*3<=vs.size:=by rw[M];omega
  have b:=fun m j R O=>q1d (σ:=σ) (l:=l) Z (m:=m) (j:=j) R O;have q:=AnyQ.slices_SortFunc_total Bt 3 Tryz.isAgg217 Tryz.sizeOf217 Rh (fun _=>rfl) (fun x v f=>by simp[Rh]at f;rcases f with rfl|rfl|rfl<;>rfl) cfO q9t 205 #[] i.blk 0 i.cap l.toArray w
   call205 (fun m os dk _ x y=>q3n _ x y) (fun t ht=>by
    have o:t<l.toArray.size*3:=by simpa using ht
    refine⟨?_,YK G _⟩;have A:=Tq o;have r:=b (t/3) (t%3) (by simp at o;omega) (by omega);rw[Nat.div_add_mod']at r;rw[FY G,z3m,r,z6h _ t (by simpa using o)];rw[z3k (by simpa using o)]at A;simpa using A.symm) c (by simp;omega) q9s
  simp only[z5x]at q;change Calls prog 204 _ _ _ at q;refine q.mono ?_;rintro e w' ⟨rfl,n,os,rfl⟩;generalize hS:(l.mergeSort fun x y=> !(ltOf cfO) y x)=S;have z:S.length=l.length:=by rw[<-hS];simp
  obtain⟨hf,hb⟩:=Q8 (enc:=id) (n:=n) (os:=os) (d:=flatK Rh 3 S.toArray) G c;obtain⟨C,hL⟩:=Gb (c':=.own 217 3 (S.map fun s=>.agg s.1.cells)) hH B hf (.inr ⟨i,_,B,J,hb,by rw[PP];exact M,by simp[z];exact a,Y,q1b fun m R j O=>by
   have A:=FD (enc:=id) (d:=flatK Rh 3 S.toArray) (vs:=vs) (by simp[z];omega) (k:=m*3+j) (by simp;omega);have r:=Tq (d:=S.toArray) (t:=m*3+j) (by simp;omega);rw[z3k (by simp;omega)]at r;rw[A];simp only[id];rw[r];simp[show(m*3+j)/3=m by omega,show(m*3+j)%3=j by omega]⟩)
  exact⟨.p (.tup []),.tuple #[],σ,β,_,rfl,⟨rfl,rfl⟩,.p (.tup [] #[] (fun _=>undef) rfl (by simp) (by simp)),C,hL⟩
def Dm(l:List Step)(i:∀s∈l,okSt s)(j:l.length<=1000000000):
  aH 204 [.hd 1000 0 l.length,.p (.fn 205 [])] [(1000,.own 217 3 (l.map fun s=>.agg s.cells))] (.p (.tup [])) [(1000,.own 217 3 ((GH l).map fun s=>.agg s.cells))]:=by
 have h:=X5 (l.attachWith okSt i) (by simpa using j);have n:((l.attachWith okSt i).map fun s=>AV.agg s.1.cells)=l.map fun s=>AV.agg s.cells:=by
  have:=z2b (List.map fun s:Step=>AV.agg s.cells) (z6y (l:=l) (p:=okSt) i);simp
 have e2:(((l.attachWith okSt i).mergeSort fun x y=> !(ltOf cfO) y x).map fun s=>AV.agg s.1.cells)=(GH l).map fun s=>AV.agg s.cells:=by
  have k:=List.map_mergeSort (l:=l.attachWith okSt i) (f:=Subtype.val) (r:=fun x y=> !(ltOf cfO) y x) (s:=fun x y=> !NY y x) (fun a _ b _=>rfl);rw[z6y]at k;unfold GH;rw[<-k,z4e];rfl
 rw[n,e2]at h;simpa using h
section
variable {P:Program}{T:Tab}{N:Nat}
def x0d{β:Lab}{k:Nat}{H H':Heap}{d:Chunk}{w w':World}{i:BInfo}(h:HRel σ β H w)(a:k∈H.map (·.1))(y:β k=some i)(n:Frm (fun b=>b=i.blk) w w')(s:H'.map (·.1)=H.map (·.1))(D:∀j c,(j,c)∈H'->j≠k->(j,c)∈H)(E:∀c,(k,c)∈H'->c=d)(v:d.holds σ β w' k):HRel σ β H' w'/\Later σ β H w σ β H' w':=by
 have x:=h.apart k a i y;refine⟨⟨fun b cs l=>?_,fun j c p=>?_,by rw[s];exact h.nodup,fun j p i' o b l=>?_,fun j p G z=>h.inj j (s▸p) G (s▸z)⟩,Mem.le_refl σ,⟨n.os,n.tape,n.output,n.drawn,n.size,fun b l F=>n.block b l fun t=>F ⟨k,a,i,y,.inl t.symm⟩⟩,
  fun b B C=>absurd B C,fun b ⟨j,p,r⟩=>.inl ⟨j,s▸p,r⟩,fun _ _ _=>rfl⟩
 .obtain ⟨e,A,f⟩:=h.mem b cs l;exact⟨e,A,(n.block b (z1a.1 f).1 fun t=>by rw[t,(x _ i.has_blk).1]at l;cases l).trans f⟩
 .by_cases q:j=k
  .subst q;rw[E c p];exact v
  .have g:=D j c p q;have u:j∈H.map (·.1):=z1z.2 ⟨_,g,rfl⟩;exact(h.chunks j c g).mono (Mem.le_refl σ) fun i' o b l=>n.block b (h.apart j u i' o b l).2 fun t=>q (h.inj j u k a i' i o y b l (.inl t.symm))
 .have:=h.apart j (s▸p) i' o b l;exact⟨this.1,z4c this.2 n.size⟩
theorem OpK.clear(hT:TabOK P T){s:St}{o:Oper}{K:St->Prop}{t:TypeId}{x:Operand}(hop:o.op=.call {callee:=.builtin .clear,args:=#[x],argTypes:=#[t]}){k off len:Nat}(A:QR s.sl x=.hd k off len){e sz:Nat}{es:List AV}(hg:getH s.H k=some (.own e sz es)){i E:TyI}(ht:T.get t=some i)(hd:i.desc=.slice e)(hte:T.get e=some E)(hz:E.zero.cells.size=sz)(hone:E.zero.cells.all (·.oneCell')=true)(hpos:0<sz)(h:Bd s.H k (.own e sz (es.take off)) fun H=>setD N s.sl o.dst (.p (.tup [])) fun sl=>K ⟨sl,H⟩):OpK P N s o K:=by
 refine⟨fun σ β a w l Q=>?_⟩;have Y:=QU l.G x;rw[A]at Y;generalize hxe:a.eval x=v at Y;obtain⟨H',hK,h3,h4,h5⟩:=GO l.heap.nodup h;have hlab:=QT hg;have hu:=hT.of ht;rw[hd]at hu;have hue:=hT _ _ hte;have F:RepL σ β (.p (.tup [])) (.tuple #[]):=.p (.tup [] #[] (fun _=>undef) rfl (by simp) (by simp));have hbc:∀{w'} ,(Builtin.clear_ #[t] o.type #[v]).run P w=.ok (.tuple #[]) w'->(execOp a.eval o).run P w=.ok (.value (.tuple #[])) w':=fun {w'} hc=>by
  simp[execOp,hop,resolve,invoke,builtin,hxe,hc]
 have hch:=l.heap.chunks k _ (QD hg);have B:len=0->(Builtin.clear_ #[t] o.type #[v]).run P w=.ok (.tuple #[]) w->(o.wp P a w (fun a' w'=>∃σ' β' s',K s'/\Rel N σ' β' s' a' w'/\Later σ β s.H w σ' β' s'.H w') Q):=fun _ g=>by
  have z:HRel σ β H' w/\Later σ β s.H w σ β H' w:=by
   refine⟨⟨l.heap.mem,fun j c y=>?_,by rw[h3];exact l.heap.nodup,fun j y=>l.heap.apart j (h3▸y),fun j y j' hj'=>l.heap.inj j (h3▸y) j' (h3▸hj')⟩,Mem.le_refl σ,Frm.refl _ w,fun b h0 h1=>absurd h0 h1,fun b ⟨j,y,r⟩=>.inl ⟨j,h3▸y,r⟩,fun _ _ _=>rfl⟩;by_cases hjk:j=k
   ·subst hjk;rw[h5 c y];rcases hch with⟨C,h7⟩|⟨J,vs,C,h7,h8,h9,h10,L,M⟩
    ·exact .inl ⟨C,by rw[h7];simp⟩
    ·exact .inr ⟨J,vs,C,h7,h8,h9,by simp;omega,L,fun m x A=>M m x (by rw[z2p]at A;split at A;exact A;cases A)⟩
   ·exact l.heap.chunks j c (h4 j c y hjk)
  have U:Rel N σ β ⟨s.sl,H'⟩ a w:=⟨l.size,l.defers,l.G,z.1⟩;obtain⟨sl,hK,V⟩:=U.setD F hK;exact ZP (hbc g) ⟨σ,β,_,hK,V,z.2⟩
 rcases Y.hdI with⟨hk0,hoff,hlen,I⟩|⟨J,oo,hk,hfit,D,I⟩
 ·subst I;refine B hlen ?_;simp[Builtin.clear_,run_underlying hu]
 by_cases hl0:len=0
 ·subst hl0 I;refine B rfl ?_;simp[Builtin.clear_,run_underlying hu]
 rcases hch with⟨C,_⟩|⟨bi',vs,C,h7,h8,h9,h10,L,M⟩
 ·rw[hk]at C;cases C
 rw[hk]at C;cases C;have D:oo=off*sz:=by
  rcases D with D|⟨O,_⟩
  ·rw[D,h7]
  ·omega
 obtain⟨zs,Z⟩ : ∃zs,zs=(Builtin.zeroCells E.zero.cells len).toList:=⟨_,rfl⟩;have hzl:zs.length=len*sz:=by rw[Z];simp[Builtin.zeroCells,hz]
 have hz1:∀v∈zs,v.oneCell'=true:=fun v I=>by
  rw[Z]at I;simp only[Builtin.zeroCells,Array.toList_map,z1z]at I;obtain⟨q,hq,rfl⟩:=I;have R:q%E.zero.cells.size<E.zero.cells.size:=Nat.mod_lt _ (by omega);rw[z6h E.zero.cells (q%E.zero.cells.size) R];exact Array.all_eq_true.1 hone _ R
 have hend:off*sz+len*sz<=vs.size:=by
  rw[h9,<-z3d];exact z2c _ hfit
 have hst:=run_storeCells_cells (P:=P) J.blk oo zs 0 w (fun j y=>by
   have:oo+0+j<vs.size:=by omega
   simp only[World.cell?,h8];rw[z3k this];rfl) (fun j y=>by simp[World.frozen?,h8]) hz1
 have g:(Builtin.clear_ #[t] o.type #[v]).run P w=.ok (.tuple #[]) (w.setCells J.blk oo zs):=by
  subst I;have hzv:(zeroValue e).run P w=.ok E.zero w:=by
   have:=hue.info;cases hq:P.info? e with
   |none=>rw[hq]at this;cases this
   | some f=>
     rw[hq]at this;simp at this;simp[zeroValue,typeInfo,hq,this]
  obtain⟨len',rfl⟩ : ∃l',len=l'+1:=⟨len-1,by omega⟩;simp only[z6s]at hst;simp[Builtin.clear_,Sem.run_bind,run_underlying hu,hzv,<-Z,hst]
 obtain⟨s1,s2⟩:=VD zs oo h8;have hnew:(Chunk.own e sz (es.take off)).holds σ β (w.setCells J.blk oo zs) k:=by
  refine .inr ⟨J,_,hk,h7,s1,by rw[JQ];exact h9,by simp;omega,L,fun m x A=>?_⟩;rw[z2p]at A;split at A
  ·rename_i hm;obtain⟨O,h14⟩:=M m x A;refine⟨O,fun j c y=>?_⟩;obtain⟨u,h15,h16⟩:=h14 j c y;have hjl:j<sz:=by rw[<-O];exact(z1k.1 y).1
   have R:m*sz+j<off*sz:=by
    have:(m+1)*sz<=off*sz:=z2c _ hm;rw[z3d]at this;omega
   exact⟨u,by rw[PM _ _ _ _ (by omega),if_neg (by omega)];exact h15,h16⟩
  ·cases A
 obtain⟨hh,hl⟩:=x0d l.heap hlab hk s2 h3 h4 h5 hnew;have U:Rel N σ β ⟨s.sl,H'⟩ a (w.setCells J.blk oo zs):=⟨l.size,l.defers,l.G,hh⟩;obtain⟨sl,hK,V⟩:=U.setD F hK;exact ZP (hbc g) ⟨σ,β,_,hK,V,hl⟩
end
def XN(p:Step):List Step->List Step
 |[]=>[]
 |b::r=>bif WX b p then XN b r else b::XN b r
def Z3:List Step->List Step
 |[]=>[]
 |a::r=>a::XN a r
def SJ{l:List Step}(h:l.length<2):Z3 l=l:=by
 match l,h with
 |[],_=>rfl
 |[a],_=>rfl
def avS(l:List Step):List AV:=l.map fun s=>.agg s.cells
theorem Vs(l:List Step)(g:l.length<=1000000000):
  aH 206 [.hd 1000 0 l.length,.p (.fn 207 [])] [(1000,.own 217 3 (avS l))] (.hd 1000 0 (Z3 l).length) [(1000,.own 217 3 (avS (Z3 l)))]:=by
 refine sK VV func206 ?_;conv=>whnf
 repeat' ((first|(refine iM fun _=>?_)|(apply bD<;>intro _<;>try omega))<;>conv=>whnf)
 ·have e:Z3 l=l:=SJ (by omega);rw[e];exact⟨_,z2x _,rfl,rfl⟩
 refine lI (fun k:Nat=>⟨[(0,.hd 1000 0 l.length),(1,.p (.fn 207 [])),(5,.j k)],[(1000,.own 217 3 (avS l))]⟩) (fun k=>1<=k/\k<=l.length/\∃a,l[k-1]?=some a/\l.take k++XN a (l.drop k)=Z3 l) (fun k=>l.length-k) 1 ⟨z1l _,by omega,?_⟩ ?_
 ·cases l with
  |nil=>simp at*
  |cons a r=>exact⟨a,rfl,rfl⟩
 rintro k ⟨I,J,a,ha,t⟩;rcases z1w k l.length with u|u;rotate_left 1
 ·rw[z1b u,z1f u]at t;conv=>whnf
  repeat' ((first|(refine iM fun _=>?_)|(apply bD<;>intro _<;>try omega))<;>conv=>whnf)
  rw[<-t,XN,z2y];exact⟨_,z2x _,rfl,rfl⟩
 rw[z2v u,XN]at t;have c:k-1<l.length:=by omega
 obtain⟨_,b⟩:=z1k.1 ha;have w:(avS l)[k]?=some (.agg l[k].cells):=by simp[avS,u]
 have n:(avS l)[k-1]?=some (.agg a.cells):=by simp[avS,ha]
 conv=>whnf
 repeat' ((first|(refine gX ?_;intros)|refine cP (Hr _ _) ?_|refine dA ?_|refine iO k ?_|refine iO (k-1) ?_|refine lO w ?_|refine lO n ?_|refine SlK.mk k l.length rfl rfl (by omega) (by omega) ?_|((first|apply bD|apply bB)<;>intro _<;>try omega))<;>conv=>whnf)
 rotate_left 1
 ·have h:WX l[k] a=false:=by assumption
  rw[h,z1o]at t;exact nX (k+1) ⟨by omega,by omega,l[k],by simp[u],by rw[<-t,z1y u,z1m];rfl⟩
 have h:WX l[k] a=true:=by assumption
 rw[h,z1n]at t;clear ha b w n c h;refine lI (fun x:Nat×Nat×List Step=>⟨[(0,.hd 1000 0 l.length),(1,.p (.fn 207 [])),(5,.j x.2.1),(6,.hd 1000 (0+k) (l.length-k)),(7,.j x.1)],[(1000,.own 217 3 (avS x.2.2))]⟩) (fun x=>1<=x.1/\x.1<=l.length-k/\x.2.1<=k+x.1-1/\x.2.2.length=l.length/\x.2.2.drop (k+x.1-1)=l.drop (k+x.1-1)/\∃a,l[k+x.1-1]?=some a/\x.2.2.take x.2.1++XN a (l.drop (k+x.1))=Z3 l) (fun x=>l.length-k-x.1) (1,k,l) ⟨z1l _,by simp only;omega,by simp only;omega,rfl,rfl,l[k],by simp[u],t⟩ ?_;rintro⟨q,i,es⟩ ⟨B,C,D,y,v,a,ha,o⟩;clear t;simp only at B C D y v ha o⊢;have E:(avS es).length=l.length:=by simp[avS,y]
 rcases z1w q (l.length-k)with H|H
 ·have s:k+q<l.length:=by omega
  have f:es[k+q]?=l[k+q]?:=by
   have:=z2b (fun x=>x[1]?) v;simp only[z3h]at this
   rwa[show k+q-1+1=k+q by omega]at this
  have e2:es[k+q-1]?=some a:=by
   have:=z2b (fun x=>x[0]?) v;simp only[z3h,z6s]at this;rw[this,ha]
  rw[z0c s]at f;have w:(avS es)[k+q]?=some (.agg l[k+q].cells):=by simp[avS,f]
  have n:(avS es)[k+q-1]?=some (.agg a.cells):=by simp[avS,e2]
  have F:i<es.length:=by omega
  have A:(avS es)[i]?=some (.agg es[i].cells):=by simp[avS,F]
  rw[z2v s,XN]at o;conv=>whnf
  repeat' ((first|(refine gX ?_;intros)|refine cP (Hr _ _) ?_|refine dA ?_|refine iO q ?_|refine iO (q-1) ?_|refine iO i ?_|refine lO w ?_|refine lO n ?_|refine z6g i 0 (.agg es[i].cells) (.agg l[k+q].cells) (by omega) A (show 3<=3 from z1l 3) rfl ?_|((first|apply bD|apply bN)<;>intro _<;>try omega))<;>conv=>whnf)
  ·have h:WX l[k+q] a=true:=by assumption
   rw[h,z1n]at o;exact nX (q+1,i,es) ⟨by simp only;omega,by simp only;omega,by simp only;omega,y,by
    have:=z2b (List.drop 1) v;simp only[List.drop_drop]at this;simpa only[show k+(q+1)-1=k+q-1+1 by omega]using this,l[k+q],by simp[s],o⟩
  ·have h:WX l[k+q] a=false:=by assumption
   rw[h,z1o]at o;have z:(es.set i l[k+q]).drop (k+q)=l.drop (k+q):=by
    rw[List.drop_set_of_lt (by omega)];have:=z2b (List.drop 1) v;simp only[List.drop_drop]at this
    rwa[show k+q-1+1=k+q by omega]at this
   exact⟨(q+1,i+1,es.set i l[k+q]),⟨by simp only;omega,by simp only;omega,by simp only;omega,by simp only[z3e];exact y,z,l[k+q],by simp[s],by
    simp only;rw[<-o,z1y (by simp;omega),List.take_set_of_le (by omega),List.getElem_set_self,z1m];rfl⟩,by simp only;omega,Le.of_eq (by simp only[avS,z3w];rfl)⟩
 ·have d:k+q=l.length:=by omega
  rw[d,List.drop_length,XN,z2y]at o;conv=>whnf
  repeat' ((first|(refine gX ?_;intros)|refine SlK.mk i l.length rfl rfl (by omega) (by omega) ?_|(apply bD<;>intro _<;>try omega))<;>conv=>whnf)
  refine OpK.clear ZI rfl rfl rfl rfl rfl rfl rfl (by kernel_rfl) (by decide) ?_;conv=>whnf
  repeat' ((first|refine z1s rfl ?_|refine SlK.mk 0 i rfl rfl (by omega) (by omega) ?_)<;>conv=>whnf)
  have G:i=(Z3 l).length:=by rw[<-o];simp;omega
  exact⟨_,z6m (by rw[<-G];rfl),rfl,by rw[z3m,<-o];simp[avS,List.map_take]⟩
def WB(l:List Step):List Step:=Z3 (GH l)
def Tz(l:List Step)(i:∀s∈l,okSt s)(h:l.length<=1000000000):
  aH 157 [.hd 1000 0 l.length] [(1000,.own 217 3 (avS l))] (.hd 1000 0 (WB l).length) [(1000,.own 217 3 (avS (WB l)))]:=by
 refine sK Sr func157 ?_;conv=>whnf
 repeat' ((first|(refine cH [(1000,1000)] 0 (Dm l i h) ?_)|(refine cH [(1000,1000)] 0 (Vs (GH l) (by rw[Ye];exact h)) ?_ (ha:=(z1e (z6m (by rw[Ye];rfl)) (z1e (z2x _) z3a)))))<;>conv=>whnf)
 exact⟨_,z2x _,rfl,rfl⟩
def VG(h:Sheet)(f:Pr)(it:Item):List Int:=
 if it.s.kind=5 then [Bj it.s.L it.next,Bj it.s.M it.next]
 else if it.s.kind=6 then [Bj it.s.L it.s.id,it.next]
 else if it.s.kind=7 then [((h.l[(it.loop-1).toNat]?).map Item.next).getD 0]
 else if it.s.kind=8 then [it.loop]
 else if it.s.kind=9 then [-1]
 else if it.s.kind=10 then [(atB f it.s.name).1]
 else [it.next]
def Pu(l:List S)(o:Int):aP 250 [eSs l,.int .i64 o] (.int .i64 (Bj l o)):=by
 unfold eSs;rw[S.avs_eq];exact O0 l o
theorem Hl(p:Pg)(j:Nat)(f:Pr)(v:p.A[j]?=some f)(t:cntP p.A<=1000)(it:Item)(w:it.D=j)(q:it.s.kind=7->1<=it.loop/\it.loop<=(sheetOf p).l.length):aP 190 [.ip (sheetOf p).cells,.agg it.cells] (QG (VG (sheetOf p) f it)):=by
 refine sC Un func190 ?_;conv=>whnf
 have r:=(QK p).2.2.2.1;have x:it.s.kind=7->∃u,(sheetOf p).l[(it.loop-1).toNat]?=some u/\((sheetOf p).l.map fun i=>AV.agg i.cells)[(it.loop-1).toNat]?=some (.agg u.cells):=fun h=>by
  have:=q h;have k:(it.loop-1).toNat<(sheetOf p).l.length:=by omega
  exact⟨_,z0c k,by rw[z1u,z0c k];rfl⟩
 repeat' ((first|refine dA ?_|refine z1s rfl ?_|refine aD ?_|refine bP ?_|refine wI ?_|refine cP (We p j f v t it.s.name) ?_ (ha:=.cons (Sub.refl _) (.cons (Sub.int w) (.cons (Sub.refl _) .nil)))|refine BsK.pureL rfl rfl ?_|refine cP (Pu it.s.L _) ?_|refine cP (Pu it.s.M _) ?_|(obtain⟨u,n,o⟩:=x (by assumption);refine IdxK.at (by have:=q (by assumption);omega) o rfl ?_)|(apply bD<;>intro _<;>try omega))<;>conv=>whnf)
 all_goals first
  |exact RetK.p (by unfold VG;rw[if_neg (by assumption),if_neg (by assumption),if_pos (by assumption),n];rfl)
  |exact RetK.p (by unfold VG;rw[if_pos (by assumption)];rfl)
  |exact RetK.p (by unfold VG;rw[if_neg (by assumption),if_pos (by assumption)];rfl)
  |exact RetK.p (by unfold VG;rw[if_neg (by assumption),if_neg (by assumption),if_neg (by assumption),if_pos (by assumption)];rfl)
  |exact RetK.p (by unfold VG;rw[if_neg (by assumption),if_neg (by assumption),if_neg (by assumption),if_neg (by assumption),if_pos (by assumption)];rfl)
  |exact RetK.p (by unfold VG;rw[if_neg (by assumption),if_neg (by assumption),if_neg (by assumption),if_neg (by assumption),if_neg (by assumption),if_pos (by assumption)];rfl)
  |exact RetK.p (by unfold VG;rw[if_neg (by assumption),if_neg (by assumption),if_neg (by assumption),if_neg (by assumption),if_neg (by assumption),if_neg (by assumption)];rfl)
def QN(p:Pg)(j:Nat)(f:Pr):List Step:=
 ⟨0,if QL p.A j<QL p.A j+QY f.body then((QL p.A j:Nat)+1:Int)else -1,1⟩::(itL j 0 (-1) 0 (QL p.A j) f.body).flatMap fun it=>(VG (sheetOf p) f it).map (Step.mk it.s.id · 1)
def itsOf(p:Pg)(j:Nat)(f:Pr):List Item:=itL j 0 (-1) 0 (QL p.A j) f.body
theorem Kv(p:Pg)(j:Nat)(f:Pr)(e:p.A[j]?=some f)(E:cntP p.A<=1000)(G:∀it∈itsOf p j f,it.s.kind=7->1<=it.loop/\it.loop<=(sheetOf p).l.length)(y:∀s∈QN p j f,okSt s):aP 132 [.ip (sheetOf p).cells,.int .i64 j] (eSteps (WB (QN p j f))):=by
 refine sC W0 func132 ?_;conv=>whnf
 obtain⟨_,_,_,H,C⟩:=QK p;obtain⟨g,c,Q,_⟩:=C j f e;repeat' ((first|(refine iM fun _=>?_)|refine z1s rfl ?_|refine aD ?_|refine cP (Kw (sheetOf p) j _ _ g c) ?_|refine cP (E4 p e E) ?_|refine z5l (fun x R=>by rcases z0i.1 R with rfl;rfl) rfl ?_)<;>conv=>whnf)
 have r:QN p j f=⟨0,if QL p.A j<QL p.A j+QY f.body then((QL p.A j:Nat)+1:Int)else -1,1⟩::(itsOf p j f).flatMap fun it=>(VG (sheetOf p) f it).map (Step.mk it.s.id · 1):=rfl;have o:itL j 0 (-1) 0 (QL p.A j) f.body=itsOf p j f:=rfl;have z:∀it∈itsOf p j f,it.D=j:=fun it h=>LO _ _ _ _ _ _ it h;have d:(itsOf p j f).length<=1000:=by rw[<-o,WA];omega
 rw[o];generalize itsOf p j f=its at G r z d⊢;have O:=YV its;refine lI (fun i:Nat×List Step=>⟨[(0,.p (.ip (sheetOf p).cells)),(5,.hd 0 0 i.2.length),(17,.p (YC its)),(18,.p (.int .i64 (its.map fun i=>AV.agg i.cells).length)),(19,.j i.1)],[(0,.own 217 3 (avS i.2))]⟩) (fun i=>i.1<=its.length/\i.2.length<=1+2*i.1/\i.2++(its.drop i.1).flatMap (fun it=>(VG (sheetOf p) f it).map (Step.mk it.s.id · 1))=QN p j f) (fun i=>its.length-i.1) (0,[⟨0,if QL p.A j<QL p.A j+QY f.body then((QL p.A j:Nat)+1:Int)else -1,1⟩]) ⟨z1q _,by simp,by rw[r];rfl⟩ ?_;rintro⟨m,k⟩ ⟨I,J,t⟩;simp only at I J t⊢;rcases z1w m its.length with a|a;rotate_left 1
 ·have v:k=QN p j f:=by
   rw[z1b a]at t;simpa using t
  rw[<-v]at y⊢;conv=>whnf
  repeat' ((first|(apply bD<;>intro _<;>try omega)|(refine cH rH1 0 (Tz k y (by omega)) ?_))<;>conv=>whnf)
  exact⟨_,.hd rfl (by simp[avS]),rfl⟩
 have b:(VG (sheetOf p) f its[m]).length<=2:=by unfold VG;split<;>(try split)<;>(try split)<;>(try split)<;>(try split)<;>(try split)<;>simp
 rw[KG a]at t;have w:=z1h a;conv=>whnf
 repeat' ((first|(refine gX ?_;intros)|refine cP (Hl p j f e E its[m] (z _ w) (G _ w)) ?_|(apply bD<;>intro _<;>try omega))<;>conv=>whnf)
 generalize M:VG (sheetOf p) f its[m]=gs at b t⊢;have F:(gs.map (AV.int .i64)).length=gs.length:=z0s _;refine lI (fun i:Nat×List Step=>⟨[(0,.p (.ip (sheetOf p).cells)),(5,.hd 0 0 i.2.length),(7,.p (.ip its[m].cells)),(17,.p (YC its)),(18,.p (.int .i64 (its.map fun i=>AV.agg i.cells).length)),(19,.j m),(25,.p (QG gs)),(26,.p (.int .i64 (gs.map (AV.int .i64)).length)),(27,.j i.1)],[(0,.own 217 3 (avS i.2))]⟩) (fun i=>i.1<=gs.length/\i.2.length<=k.length+i.1/\i.2++((gs.drop i.1).map (Step.mk its[m].s.id · 1)++(its.drop (m+1)).flatMap (fun it=>(VG (sheetOf p) f it).map (Step.mk it.s.id · 1)))=QN p j f) (fun i=>gs.length-i.1) (0,k) ⟨z1q _,by simp,t⟩ ?_;rintro⟨q,n⟩ ⟨K,L,u⟩;simp only at K L u⊢;rcases z1w q gs.length with B|B;rotate_left 1
 ·rw[z1b B]at u;conv=>whnf
  repeat' ((first|refine wI ?_|(apply bD<;>intro _<;>try omega))<;>conv=>whnf)
  exact nX (m+1,n) ⟨by simp only;omega,by simp only;omega,by simpa using u⟩
 rw[z2v B,z1t]at u;conv=>whnf
 repeat' ((first|(refine gX ?_;intros)|refine pA 1 24 (by simp[avS]) ?_|(apply bD<;>intro _<;>try omega))<;>conv=>whnf)
 exact⟨(q+1,n++[⟨its[m].s.id,gs[q],1⟩]),⟨by simp only;omega,by simp;omega,by simpa using u⟩,by simp only;omega,Le.of_eq (by simp only[avS,z0e,z1v];rfl)⟩
def bv:Bool->AV
 |true=>.tt
 |false=>.ff
structure Way where
 p:Pg
 j:Nat
 n:Int
 real:List Step
 live:List Bool
def Way.cells(w:Way):List AV:=[.ip (sheetOf w.p).cells,.int .i64 w.j,.int .i64 w.n,eSteps w.real,.sl (w.live.map bv)]
def q7f(p:Pg)(j:Nat)(n:Int)(h:AV)(i:List AV):Heap:=[(1000,.obj 144 [.p (.ip (sheetOf p).cells),.p (.int .i64 j),.p (.int .i64 n),.p h,.hd 2000 0 i.length]),(2000,.own 4 1 i)]
def VO(h i n x:Int):Int:=if x=0 then 0 else if x = -1 then n-1 else if h<=x/\x<i then x-h+1 else -1
def loI(p:Pg)(j:Nat):Int:=(QL p.A j:Nat)+1
def hiI(p:Pg)(j:Nat)(f:Pr):Int:=(QL p.A j+QY f.body:Nat)+1
theorem U5(w:Way)(f:Pr)(o:w.p.A[w.j]?=some f)(r:cntP w.p.A<=1000)(s:0<=w.n/\w.n<=5000)(x:Int):aP 156 [.ip w.cells,.int .i64 x] (.int .i64 (VO (loI w.p w.j) (hiI w.p w.j f) w.n x)):=by
 refine sC NS func156 ?_;conv=>whnf
 obtain⟨_,_,_,l,k⟩:=QK w.p;obtain⟨i,h,q,_⟩:=k w.j f o;repeat' ((first|refine dA ?_|refine wI ?_|refine IdxK.at rfl (YS i) rfl ?_|refine IdxK.at rfl (YS h) rfl ?_|(apply bD<;>intro _<;>try omega))<;>conv=>whnf)
 all_goals exact RetK.int (by unfold VO loI hiI;(repeat' split)<;>omega)
theorem R9(p:Pg)(j:Nat)(f:Pr)(n:Int)(h:AV)(q:List AV)(r:p.A[j]?=some f)(t:cntP p.A<=1000)(u:0<=n/\n<=5000)(x:Int):
  aH 156 [.ptr 1000 0,.j x] (q7f p j n h q) (.p (.int .i64 (VO (loI p j) (hiI p j f) n x))) (q7f p j n h q):=by
 obtain⟨_,_,_,o,l⟩:=QK p;obtain⟨k,i,s,_⟩:=l j f r;refine sK NS func156 ?_;conv=>whnf
 repeat' ((first|refine dA ?_|refine wI ?_|refine IdxK.at rfl (YS k) rfl ?_|refine IdxK.at rfl (YS i) rfl ?_|(apply bD<;>intro _<;>try omega))<;>conv=>whnf)
 all_goals exact⟨_,z5y (Sub.int (by unfold VO loI hiI;(repeat' split)<;>omega)),rfl,rfl⟩
def avP(l:List (Int×Int)):List AV:=l.map fun x=>.agg [.int .i64 x.1,.int .i64 x.2]
def ixP(p:Pg)(j:Nat)(f:Pr)(n:Int)(s:Step):Int×Int:=(VO (loI p j) (hiI p j f) n s.src,VO (loI p j) (hiI p j f) n s.dst)
theorem GA(w:Way)(f:Pr)(v:w.p.A[w.j]?=some f)(u:cntP w.p.A<=1000)(x:0<=w.n/\w.n<=5000)(l:List Step)(r:l.length<=1000000):aP 86 [.ip w.cells,eSteps l] (.sl (avP (l.map (ixP w.p w.j f w.n)))):=by
 refine sC NC func86 ?_;conv=>whnf
 repeat' ((refine iM fun _=>?_)<;>conv=>whnf)
 have y:(l.map fun s=>AV.agg s.cells).length=l.length:=z0s _;refine lJ (fun i:Nat×List (Int×Int)=>⟨[(0,.p (.ip w.cells)),(5,.hd 0 0 i.2.length),(8,.p (eSteps l)),(9,.p (.int .i64 (l.map fun s=>AV.agg s.cells).length)),(10,.j i.1)],[(0,.own 218 2 (avP i.2))]⟩) (fun i=>i.1<=l.length/\i.2=(l.take i.1).map (ixP w.p w.j f w.n)) (fun i=>l.length-i.1) (0,[]) (lM [(0,.own 218 2 [])]) ⟨z1q _,rfl⟩ ?_;rintro⟨m,h⟩ ⟨t,k⟩;simp only at t k⊢;rcases z1w m l.length with o|o;rotate_left 1
 ·rw[z1f o]at k;subst k;conv=>whnf
  repeat' (apply bD<;>intro _<;>first|omega|conv=>whnf)
  exact⟨_,.hd rfl (by simp[avP]),rfl⟩
 have q:h.length=m:=by rw[k];simp;omega
 conv=>whnf
 repeat' ((first|refine dA ?_|(refine gX ?_;intros)|refine cP (U5 w f v u x _) ?_|refine pA 1 16 (by simp[avP]) ?_|(apply bD<;>intro _<;>try omega))<;>conv=>whnf)
 exact⟨(m+1,h++[ixP w.p w.j f w.n l[m]]),⟨by simp only;omega,by simp only;rw[k,z1y o,z1v];rfl⟩,by simp only;omega,Le.of_eq (by simp only[avP,z0e,z1v];rfl)⟩
def Jv{P:Program}{f:FuncId}{args:List LV}{H n:Heap}{e:TypeId}{sz:Nat}{Q:List AV->Prop}(z:Vn 0 n fun H=>H=n)(h:SpecH P f args H (fun r H'=>∃es,r=.hd 0 0 es.length/\H'=(0,.own e sz es)::n/\Q es)):SpecH P f args H (fun r H'=>∃es,r=.p (.sl es)/\H'=n/\Q es):=by
 refine⟨h.go,fun σ β w a D E F=>(h.ok σ β w a D E F).mono fun M w' L=>?_⟩;obtain⟨l,u,σ',β',H',J,⟨es,rfl,rfl,I⟩,y,v,q⟩:=L;obtain⟨s',rfl,B⟩:=Le.row (N:=1) (s:=⟨[(0,.hd 0 0 es.length)],(0,.own e sz es)::n⟩) (k:=0) (e:=e) (sz:=sz) (es:=es) (zs:=[0]) rfl (K:=fun s=>s=⟨[(0,.p (.sl es))],n⟩) (by
  show LenK es.length es _;refine⟨rfl,?_⟩;show Vn 0 n fun H=>(⟨[(0,.p (.sl es))],H⟩:St)=⟨[(0,.p (.sl es))],n⟩;have key:∀{b:Heap}{K d:Heap->Prop},(∀H,K H->d H)->Vn 0 b K->Vn 0 b d:=fun {b}=>by
   induction b with
   |nil=>intro K d o h;exact o _ h
   | cons x r g=>
     intro K d o h;obtain⟨j,c⟩:=x;simp only[Vn]at h⊢;cases C:j==0 with
     | true=>
       simp only[C,z1n]at h⊢;exact g o h
     | false=>
       simp only[C,z1o]at h⊢;cases c with
       |obj e ls=>simp only[UB]at h⊢;exact g (fun H hH=>o _ hH) h
       |own e sz es=>exact g (fun H hH=>o _ hH) h
       |ext x=>exact g (fun H hH=>o _ hH) h
  exact key (fun H hH=>by rw[hH]) z)
 obtain⟨σ2,β2,t,A⟩:=B σ' β' {tmps:=#[u],defers:=[]} w' ⟨rfl,rfl,fun i=>by
  match i with
  |0=>simpa[getS]using y
  |i+1=>exact .p (by simpa[getS]using Rep.any _),v⟩
 exact⟨.p (.sl es),u,σ2,β2,n,J,⟨es,rfl,rfl,I⟩,by simpa[getS]using t.G 0,t.heap,q.trans A⟩
theorem Rq(p:Pg)(j:Nat)(f:Pr)(n:Int)(h:AV)(q:List AV)(y:p.A[j]?=some f)(x:cntP p.A<=1000)(z:0<=n/\n<=5000)(l:List Step)(v:l.length<=1000000):
  SpecH prog 86 [.ptr 1000 0,.p (eSteps l)] (q7f p j n h q) (fun r H=>∃es,r=.p (.sl es)/\H=q7f p j n h q/\es=avP (l.map (ixP p j f n))):=by
 refine Jv (e:=218) (sz:=2) rfl ?_;refine sK NC func86 ?_;conv=>whnf
 repeat' ((refine iM fun _=>?_)<;>conv=>whnf)
 have a:(l.map fun s=>AV.agg s.cells).length=l.length:=z0s _;refine lJ (fun i:Nat×List (Int×Int)=>⟨[(0,.ptr 1000 0),(5,.hd 0 0 i.2.length),(8,.p (eSteps l)),(9,.p (.int .i64 (l.map fun s=>AV.agg s.cells).length)),(10,.j i.1)],(0,.own 218 2 (avP i.2))::q7f p j n h q⟩) (fun i=>i.1<=l.length/\i.2=(l.take i.1).map (ixP p j f n)) (fun i=>l.length-i.1) (0,[]) (lM [(0,.own 218 2 [])] (hnd:=by simp[q7f])) ⟨z1q _,rfl⟩ ?_;rintro⟨m,k⟩ ⟨w,o⟩;simp only at w o⊢;rcases z1w m l.length with t|t;rotate_left 1
 ·rw[z1f t]at o;subst o;conv=>whnf
  repeat' (apply bD<;>intro _<;>first|omega|conv=>whnf)
  exact⟨_,z2x _,avP (l.map (ixP p j f n)),by simp[avP],rfl,rfl⟩
 have u:k.length=m:=by rw[o];simp;omega
 conv=>whnf
 repeat' ((first|refine dA ?_|(refine gX ?_;intros)|refine pA 1 16 (by simp[avP]) ?_|(apply bD<;>intro _<;>try omega)|(refine cH [(1000,1000),(2000,2000)] 0 (R9 p j f n h q y x z _) ?_))<;>conv=>whnf)
 exact⟨(m+1,k++[ixP p j f n l[m]]),⟨by simp only;omega,by simp only;rw[o,z1y t,z1v];rfl⟩,by simp only;omega,lE (hnd:=by simp[q7f]) (hsl:=.r (.cons (.of_eq (by simp only[z0e];rfl)) (.r (.r (.cons (.of_eq rfl) .nil))))) (hH:=.cons rfl (.of_eq (by simp only[avP,z1v];rfl)) (.cons rfl (.refl _) (.cons rfl (.refl _) .nil)))⟩
theorem SL{l:List Int}{x:Int}(h:l.Pairwise (· <= ·)):(Jt l (l.countP (· < x)) x).Pairwise (· <= ·):=by
 induction l with
 |nil=>simp[Jt]
 | cons a r o=>
   obtain⟨j,n⟩:=z4s.1 h;by_cases ha:a<x
   ·have e:Jt (a::r) ((a::r).countP (· < x)) x=a::Jt r (r.countP (· < x)) x:=by
     unfold Jt;rw[List.countP_cons_of_pos (by simpa using ha)];rfl
    rw[e,z4s];refine⟨fun b i=>?_,o n⟩;unfold Jt at i;rcases z0o.1 i with i|i
    ·exact j b (z7z i)
    ·rcases z1g.1 i with rfl|i
     ·omega
     ·exact j b (List.mem_of_mem_drop i)
   ·have k:(a::r).countP (· < x)=0:=by
     rw[List.countP_eq_zero];intro b i;rcases z1g.1 i with rfl|i
     ·simpa using ha
     ·have:=j b i;simp;omega
    rw[k];show(x::a::r).Pairwise (· <= ·);refine z4s.2 ⟨fun b i=>?_,h⟩;rcases z1g.1 i with rfl|i
    ·omega
    ·have:=j b i;omega
def Fj(n m:Nat)(N:List (List Int)):Prop:=N.length=n/\∀r∈N,r.Pairwise (· <= ·)/\r.length<=m
theorem Tn{n:Nat}(h:Fj n m N)(a:Nat)(b:Int):Fj n (m+1) (N9 N a b):=by
 unfold N9;refine⟨by rw[z3e];exact h.1,fun r j=>?_⟩;rcases z4t j with j|rfl
 ·obtain⟨i,k⟩:=h.2 r j;exact⟨i,by omega⟩
 ·rcases z1w a N.length with ha|ha
  ·have l:N.getD a []∈N:=by
    rw[z0a,z0c ha];exact z1h ha
   obtain⟨i,k⟩:=h.2 _ l;exact⟨SL i,by rw[G9 z7a];omega⟩
  ·have:N.getD a []=[]:=by simp[z3u ha]
   rw[this];exact⟨by simp[Jt],by simp[Jt]⟩
def Pm{n j:Nat}(h:Fj n m N)(k:m<=j):Fj n j N:=⟨h.1,fun r i=>⟨(h.2 r i).1,z2g (h.2 r i).2 k⟩⟩
def Rj(n:Nat)(g:List (List Int)×List (List Int))(e:Int×Int):List (List Int)×List (List Int):=
 bif WH n e.1&&WH n e.2 && !(g.1.getD e.1.toNat []).contains e.2 then(N9 g.1 e.1.toNat e.2,N9 g.2 e.2.toNat e.1)else g
def QE(n:Nat)(l:List (Int×Int)):List (List Int)×List (List Int):=l.foldl (Rj n) (List.replicate n [],List.replicate n [])
def eMat(m:List (List Int)):AV:=.sl ((avI m).map .sl)
def YW(g:List (List Int)×List (List Int)):AV:=.ip [eMat g.1,eMat g.2]
def H6(n:Nat)(g:List (List Int)×List (List Int))(e:Int×Int):(Rj n g e).1=bif WH n e.1&&WH n e.2 && !(g.1.getD e.1.toNat []).contains e.2 then N9 g.1 e.1.toNat e.2 else g.1:=by
 unfold Rj;cases WH n e.1&&WH n e.2 && !(g.1.getD e.1.toNat []).contains e.2<;>rfl
def Ba(n:Nat)(g:List (List Int)×List (List Int))(e:Int×Int):(Rj n g e).2=bif WH n e.1&&WH n e.2 && !(g.1.getD e.1.toNat []).contains e.2 then N9 g.2 e.2.toNat e.1 else g.2:=by
 unfold Rj;cases WH n e.1&&WH n e.2 && !(g.1.getD e.1.toNat []).contains e.2<;>rfl
theorem q3q{n:Nat}{g:List (List Int)×List (List Int)}(h:Fj n m g.1/\Fj n m g.2)(e:Int×Int):Fj n (m+1) (Rj n g e).1/\Fj n (m+1) (Rj n g e).2:=by
 rw[H6,Ba];cases WH n e.1&&WH n e.2 && !(g.1.getD e.1.toNat []).contains e.2
 ·exact⟨Pm h.1 (by omega),Pm h.2 (by omega)⟩
 ·exact⟨Tn h.1 _ _,Tn h.2 _ _⟩
def Z9{n:Nat}{l:List (Int×Int)}(h:m<l.length):QE n (l.take (m+1))=Rj n (QE n (l.take m)) l[m]:=by
 unfold QE;rw[z1y h,z7q];rfl
theorem LE{n:Nat}{l:List (Int×Int)}:∀{m:Nat},m<=l.length->Fj n m (QE n (l.take m)).1/\Fj n m (QE n (l.take m)).2
 | 0,_=>by
   have:Fj n 0 (List.replicate n []):=⟨by simp,fun r i=>by rw[z4j i];simp⟩;exact⟨this,this⟩
 | m+1,h=>by
   rw[Z9 h];exact q3q (LE (by omega)) _
def N1{h:Nat}{sl:List (Nat×LV)}(n a b:Nat)(k:(sl.all fun x=>x.2.xfree 0)=true)(l:(sl.all fun x=>x.2.xfree 1)=true):
  Le h ⟨sl,[(2,.obj 242 [.hd a 0 n,.hd b 0 n]),(1,.own 54 1 (List.replicate n .nils)),(0,.own 54 1 (List.replicate n .nils))]⟩
   ⟨sl,[(2,.obj 242 [.hd a 0 n,.hd b 0 n]),(1,.ext (.mat 54 3 1 (List.replicate n []) [])),(0,.ext (.mat 54 3 1 (List.replicate n []) []))]⟩:=by
 have o:=Wy (N:=h) (sl:=sl) (H:=[(2,.obj 242 [.hd a 0 n,.hd b 0 n]),(1,.own 54 1 (List.replicate n .nils)),(0,.own 54 1 (List.replicate n .nils))])
  (H':=[(2,.obj 242 [.hd a 0 n,.hd b 0 n]),(1,.own 54 1 (List.replicate n .nils)),(0,.ext (.mat 54 3 1 (List.replicate (List.replicate n AV.nils).length []) []))])
  0 3 1 (e:=54) (es:=List.replicate n .nils) rfl (fun x j=>z4j j) rfl k rfl rfl (by simp[DK])
 have i:=Wy (N:=h) (sl:=sl) (H:=[(2,.obj 242 [.hd a 0 n,.hd b 0 n]),(1,.own 54 1 (List.replicate n .nils)),(0,.ext (.mat 54 3 1 (List.replicate (List.replicate n AV.nils).length []) []))])
  (H':=[(2,.obj 242 [.hd a 0 n,.hd b 0 n]),(1,.ext (.mat 54 3 1 (List.replicate (List.replicate n AV.nils).length []) [])),(0,.ext (.mat 54 3 1 (List.replicate (List.replicate n AV.nils).length []) []))])
  1 3 1 (e:=54) (es:=List.replicate n .nils) rfl (fun x j=>z4j j) rfl l rfl rfl (by simp[DK])
 have:=o.trans i;simpa using this
theorem Fg(n:Nat)(y:n<=5000)(l:List (Int×Int))(w:l.length<=1000000):aP 191 [.int .i64 n,.sl (avP l)] (YW (QE n l)):=by
 refine sC Sa func191 ?_;conv=>whnf
 repeat' ((first|(refine gX ?_;intros)|refine dA ?_|refine z6t n rfl (by show 24*n<=140737488355328;omega) (by unfold maxLen;omega) ?_|(apply bD<;>intro _<;>try omega)|refine z1s ?_ ?_)<;>conv=>whnf)
 all_goals have z:(avP l).length=l.length:=z0s _
 ·refine lJ (fun m:Nat=>⟨[(5,.ptr (0+1+1) 0),(20,.p (.sl (avP l))),(21,.p (.int .i64 (avP l).length)),(22,.j m)],[(0+1+1,.obj 242 [.hd 0 0 n,.hd (0+1) 0 n]),(0,.ext (.mat 54 3 1 (avI (QE n (l.take m)).1) [])),(0+1,.ext (.mat 54 3 1 (avI (QE n (l.take m)).2) []))]⟩) (fun m=>m<=l.length) (fun m=>l.length-m) 0 (by
    refine Le.trans (N1 n _ _ rfl rfl) ?_;exact lE (hH:=.cons rfl (.refl _) (.cons rfl (.of_eq (by simp[avI,QE])) (.cons rfl (.of_eq (by simp[avI,QE])) .nil)))) (z1q _) ?_
  rintro m v;obtain⟨g1,h⟩:=LE (n:=n) v;rcases z1w m l.length with q|q
  ·have u:(avP l)[m]?=some (.agg [.int .i64 l[m].1,.int .i64 l[m].2]):=by simp[avP,q]
   conv=>whnf
   repeat' ((first|refine z1s rfl ?_|refine wI ?_|refine iT u ?_|refine z4u 0 rfl (by decide) ?_|refine z4u 1 rfl (by decide) ?_|(apply bD<;>intro _<;>try omega)|(refine cJ [(1000,0+1+1),(2001,0),(2002,1)] 0 (Tm n _ _ l[m].1 l[m].2 g1.1 h.1 y (fun r s=>⟨(g1.2 r s).1,by have:=(g1.2 r s).2;omega⟩) (fun r s=>⟨(h.2 r s).1,by have:=(h.2 r s).2;omega⟩)) ?_;rintro l' H' ⟨t,rfl,rfl⟩))<;>conv=>whnf)
   exact⟨m+1,q,by omega,Le.of_eq (by rw[Z9 q,H6,Ba];rfl)⟩
  ·rw[z1f q]at g1 h⊢;conv=>whnf
   repeat' (apply bD<;>intro _<;>first|omega|conv=>whnf)
   exact⟨_,.ptr (cs:=[eMat (QE n l).1,eMat (QE n l).2]) rfl rfl (fun i x c k o=>by
    match i,k,o with
    |0,k,o=>cases k;cases o;exact .mat rfl (by rw[avI,z0s,g1.1])
    |1,k,o=>cases k;cases o;exact .mat rfl (by rw[avI,z0s,h.1])),rfl⟩
 ·refine lJ (fun m:Nat=>⟨[(5,.ptr (0+1+1) 0),(20,.p (.sl (avP l))),(21,.p (.int .i64 (avP l).length)),(22,.j m)],[(0+1+1,.obj 242 [.hd (0+1) 0 n,.hd 0 0 n]),(0+1,.ext (.mat 54 3 1 (avI (QE n (l.take m)).1) [])),(0,.ext (.mat 54 3 1 (avI (QE n (l.take m)).2) []))]⟩) (fun m=>m<=l.length) (fun m=>l.length-m) 0 (by
    refine Le.trans (N1 n _ _ rfl rfl) ?_;exact lE (hH:=.cons rfl (.refl _) (.cons rfl (.of_eq (by simp[avI,QE])) (.cons rfl (.of_eq (by simp[avI,QE])) .nil)))) (z1q _) ?_
  rintro m v;obtain⟨g1,h⟩:=LE (n:=n) v;rcases z1w m l.length with q|q
  ·have u:(avP l)[m]?=some (.agg [.int .i64 l[m].1,.int .i64 l[m].2]):=by simp[avP,q]
   conv=>whnf
   repeat' ((first|refine z1s rfl ?_|refine wI ?_|refine iT u ?_|refine z4u 0 rfl (by decide) ?_|refine z4u 1 rfl (by decide) ?_|(apply bD<;>intro _<;>try omega)|(refine cJ [(1000,0+1+1),(2001,1),(2002,0)] 0 (Tm n _ _ l[m].1 l[m].2 g1.1 h.1 y (fun r s=>⟨(g1.2 r s).1,by have:=(g1.2 r s).2;omega⟩) (fun r s=>⟨(h.2 r s).1,by have:=(h.2 r s).2;omega⟩)) ?_;rintro l' H' ⟨t,rfl,rfl⟩))<;>conv=>whnf)
   exact⟨m+1,q,by omega,Le.of_eq (by rw[Z9 q,H6,Ba];rfl)⟩
  ·rw[z1f q]at g1 h⊢;conv=>whnf
   repeat' (apply bD<;>intro _<;>first|omega|conv=>whnf)
   exact⟨_,.ptr (cs:=[eMat (QE n l).1,eMat (QE n l).2]) rfl rfl (fun i x c k o=>by
    match i,k,o with
    |0,k,o=>cases k;cases o;exact .mat rfl (by rw[avI,z0s,g1.1])
    |1,k,o=>cases k;cases o;exact .mat rfl (by rw[avI,z0s,h.1])),rfl⟩
def FP(st:List Bool×List Int)(b:Int):List Bool×List Int:=bif st.1.getD b.toNat false then st else(st.1.set b.toNat true,st.2++[b])
def ZC(rows:List (List Int)):Nat->Nat->List Bool×List Int->List Bool×List Int
 |0,_,st=>st
 | k+1,i,st=>match st.2[i]?with
   |some a=>ZC rows k (i+1) ((rows.getD a.toNat []).foldl FP st)
   |none=>st
def wkInv(n:Nat)(st:List Bool×List Int):Prop:=st.1.length=n/\st.2.length<=st.1.count true/\∀x∈st.2,0<=x/\x<n
theorem Vr{n:Nat}{st:List Bool×List Int}(h:wkInv n st){b:Int}(p:0<=b/\b<n):wkInv n (FP st b):=by
 unfold FP;obtain⟨k,o,l⟩:=h;have i:b.toNat<st.1.length:=by omega
 cases r:st.1.getD b.toNat false with
 |true=>exact⟨k,o,l⟩
 | false=>
   have q:st.1[b.toNat]=false:=by simpa[i]using r
   refine⟨by simpa using k,?_,fun x j=>?_⟩
   ·simp only[z1o,z0e,z2w];rw[List.count_set i,q];simp;omega
   ·rcases z0o.1 j with j|j
    ·exact l x j
    ·rw[z0i.1 j];exact p
def O6{n:Nat}{l:List Int}:∀{st:List Bool×List Int},wkInv n st->(∀b∈l,0<=b/\b<n)->wkInv n (l.foldl FP st):=by
 induction l with
 |nil=>intro st h _;exact h
 |cons b r k=>intro st h i;exact k (Vr h (i b z1j)) fun c j=>i c (z1x _ j)
def LM{n:Nat}{st:List Bool×List Int}(h:wkInv n st):st.2.length<=n:=by
 refine z2g h.2.1 ?_;rw[<-h.1];exact List.count_le_length
def XT(n:Nat)(rows:List (List Int)):Prop:=rows.length=n/\∀r∈rows,∀b∈r,0<=b/\b<n
def q2f(st:List Bool×List Int):Heap:=[(1000,.own 4 1 (st.1.map bv)),(2000,.own 3 1 (st.2.map (.int .i64)))]
theorem Pl(n:Nat)(H:n<=5000)(rows:List (List Int))(B:XT n rows)(st:List Bool×List Int)(G:wkInv n st):
  aH 193 [.p (eMat rows),.hd 1000 0 n,.hd 2000 0 st.2.length] (q2f st) (.hd 2000 0 (ZC rows (n+1) 0 st).2.length) (q2f (ZC rows (n+1) 0 st)):=by
 refine sK Rr func193 ?_;conv=>whnf
 skip
 refine lI (fun x:Nat×List Bool×List Int=>⟨[(0,.p (eMat rows)),(1,.hd 1000 0 n),(2,.hd 2000 0 x.2.2.length),(7,.j x.1)],q2f x.2⟩) (fun x=>wkInv n x.2/\x.1<=x.2.2.length/\ZC rows (n+1-x.1) x.1 x.2=ZC rows (n+1) 0 st) (fun x=>n-x.1) (0,st) ⟨G,z1q _,rfl⟩ ?_;rintro⟨i,seen,h⟩ ⟨a,C,l⟩;simp only at a C l⊢;have e:=LM a;simp only at e;rw[show n+1-i=n-i+1 by omega,ZC]at l;rcases z1w i h.length with w|w;rotate_left 1
 ·simp only[z3u w]at l;conv=>whnf
  repeat' ((first|(refine iM fun _=>?_)|(apply bD<;>intro _<;>try omega))<;>conv=>whnf)
  exact⟨_,z6m (by rw[<-l]),rfl,by rw[<-l];rfl⟩
 simp only[z0c w]at l;have I:=a.2.2 _ (z1h w);have v:h[i].toNat<rows.length:=by rw[B.1];omega
 have z:((avI rows).map AV.sl)[h[i].toNat]?=some (.sl (rows[h[i].toNat].map (.int .i64))):=by simp[avI,v]
 have d:rows.getD h[i].toNat []=rows[h[i].toNat]:=by simp[v]
 rw[d]at l;have u:=B.2 _ (z1h v);conv=>whnf
 repeat' ((first|(refine iM fun _=>?_)|refine z1s rfl ?_|refine iO i ?_|refine z5r i 0 (.int .i64 h[i]) (by omega) (by simp[w]) ?_|refine iT z ?_|(apply bD<;>intro _<;>try omega))<;>conv=>whnf)
 have f:(rows[h[i].toNat].map (AV.int .i64)).length<=9223372036854775807:=by assumption
 generalize rows[h[i].toNat]=row at u l f⊢;have F:(row.map (AV.int .i64)).length=row.length:=z0s _;refine lI (fun x:Nat×List Bool×List Int=>⟨[(0,.p (eMat rows)),(1,.hd 1000 0 n),(2,.hd 2000 0 x.2.2.length),(7,.j i),(22,.p (.sl (row.map (.int .i64)))),(23,.p (.int .i64 (row.map (AV.int .i64)).length)),(24,.j x.1)],q2f x.2⟩) (fun x=>wkInv n x.2/\h.length<=x.2.2.length/\x.1<=row.length/\ZC rows (n-i) (i+1) ((row.drop x.1).foldl FP x.2)=ZC rows (n+1) 0 st) (fun x=>row.length-x.1) (0,seen,h) ⟨a,z1l _,z1q _,l⟩ ?_;rintro⟨q,k,t2⟩ ⟨s,g,D,t⟩;simp only at s g D t⊢;have y:=LM s;simp only at y;rcases z1w q row.length with b|b;rotate_left 1
 ·rw[z1b b]at t;conv=>whnf
  repeat' ((first|refine wI ?_|(apply bD<;>intro _<;>try omega))<;>conv=>whnf)
  exact nX (i+1,k,t2) ⟨s,by simp only;omega,by simp only;rw[show n+1-(i+1)=n-i by omega];exact t⟩
 rw[z2v b,z4d]at t;have E:=u _ (z1h b);have A:=Vr s E;have o:row[q].toNat<k.length:=by have:=s.1;simp only at this;omega
 cases r:k.getD row[q].toNat false with
 | true=>
   have c:FP (k,t2) row[q]=(k,t2):=by unfold FP;simp only[r,z1n]
   have e2:(k.map bv)[row[q].toNat]?=some .tt:=by
    have:k[row[q].toNat]=true:=by simpa[o]using r
    simp[o,this,bv]
   rw[c]at t;conv=>whnf
   repeat' ((first|(refine gX ?_;intros)|refine z4u row[q].toNat (by omega) (by have:=s.1;simp only at this;omega) ?_|refine z5r row[q].toNat 0 .tt (by omega) e2 ?_|(apply bD<;>intro _<;>try omega))<;>conv=>whnf)
   all_goals exact nX (q+1,k,t2) ⟨s,g,by simp only;omega,t⟩
 | false=>
   have c:FP (k,t2) row[q]=(k.set row[q].toNat true,t2++[row[q]]):=by unfold FP;simp only[r,z1o]
   have e2:(k.map bv)[row[q].toNat]?=some .ff:=by
    have:k[row[q].toNat]=false:=by simpa[o]using r
    simp[o,this,bv]
   rw[c]at t A;conv=>whnf
   repeat' ((first|(refine gX ?_;intros)|refine z4u row[q].toNat (by omega) (by have:=s.1;simp only at this;omega) ?_|refine z5r row[q].toNat 0 .ff (by omega) e2 ?_|refine z6g row[q].toNat 0 .ff .tt (by omega) e2 (z1l 1) rfl ?_|refine pI ?_|(apply bD<;>intro _<;>try omega))<;>conv=>whnf)
   all_goals exact⟨(q+1,k.set row[q].toNat true,t2++[row[q]]),⟨A,by simp;omega,by simp only;omega,t⟩,by simp only;omega,Le.of_eq (by simp only[q2f,z0e,z1v,z3w];rfl)⟩
def NM:Nat->List Bool->List Int
 |_,[]=>[]
 |i,b::r=>bif b then(i:Int)::NM (i+1) r else NM (i+1) r
theorem Tl(seen:List Bool)(s:seen.length<=1000000):
  SpecH prog 194 [.hd 1000 0 seen.length] [(1000,.own 4 1 (seen.map bv))] (fun r H=>∃es,r=.p (.sl es)/\H=[(1000,.own 4 1 (seen.map bv))]/\es=(NM 0 seen).map (.int .i64)):=by
 refine Jv (e:=3) (sz:=1) rfl ?_;refine sK B7 func194 ?_;conv=>whnf
 repeat' ((refine iM fun _=>?_)<;>conv=>whnf)
 refine lJ (fun i:Nat×List Int=>⟨[(3,.hd 0 0 i.2.length),(6,.hd 1000 0 seen.length),(7,.j seen.length),(8,.j i.1)],[(0,.own 3 1 (i.2.map (.int .i64))),(1000,.own 4 1 (seen.map bv))]⟩) (fun i=>i.1<=seen.length/\i.2.length<=i.1/\i.2++NM i.1 (seen.drop i.1)=NM 0 seen) (fun i=>seen.length-i.1) (0,[]) (lM [(0,.own 3 1 [])]) ⟨z1q _,z1l _,rfl⟩ ?_;rintro⟨m,n⟩ ⟨o,q,k⟩;simp only at o q k⊢;rcases z1w m seen.length with l|l;rotate_left 1
 ·rw[z1b l,NM,z2y]at k;subst k;conv=>whnf
  repeat' (apply bD<;>intro _<;>first|omega|conv=>whnf)
  exact⟨_,z2x _,(NM 0 seen).map (.int .i64),by simp,rfl,rfl⟩
 rw[z2v l,NM]at k;cases h:seen[m]with
 | true=>
   rw[h,z1n]at k;have e2:(seen.map bv)[m]?=some .tt:=by simp[l,h,bv]
   conv=>whnf
   repeat' ((first|refine gX ?_|refine z4u m rfl l ?_|refine lO e2 ?_|refine pI ?_|(apply bD<;>intro _<;>try omega))<;>conv=>whnf)
   exact⟨(m+1,n++[(m:Int)]),⟨by simp only;omega,by simp;omega,by simpa using k⟩,by simp only;omega,Le.of_eq (by simp only[z0e,z1v];rfl)⟩
 | false=>
   rw[h,z1o]at k;have e2:(seen.map bv)[m]?=some .ff:=by simp[l,h,bv]
   conv=>whnf
   repeat' ((first|refine gX ?_|refine z4u m rfl l ?_|refine lO e2 ?_|(apply bD<;>intro _<;>try omega))<;>conv=>whnf)
   exact nX (m+1,n) ⟨by simp only;omega,by simp only;omega,k⟩
theorem MC(g:List (List Int)×List (List Int))(a:Int):aP 192 [YW g,.int .i64 a] (.bool (WH g.1.length a)):=by
 refine sC DM func192 ?_;conv=>whnf
 repeat' ((first|(refine iM fun _=>?_)|(apply bD<;>intro _<;>try omega))<;>conv=>whnf)
 all_goals have h:((avI g.1).map AV.sl).length=g.1.length:=by simp[avI]
 all_goals first
  |exact RetK.bool (by unfold WH;simp[*];done)
  |exact RetK.ff (by unfold WH;simp;omega)
 all_goals trace_state
def LH(n:Nat)(l:List Int):List Bool×List Int:=l.foldl (fun st a=>bif WH n a then FP st a else st) (List.replicate n false,[])
def WT(rows:List (List Int))(l:List Int):List Bool:=(ZC rows (rows.length+1) 0 (LH rows.length l)).1
def Zt(n:Nat):wkInv n (List.replicate n false,[]):=⟨by simp,by simp[List.count_replicate],by simp⟩
theorem LP{n:Nat}{rows:List (List Int)}(l:XT n rows):∀(k i:Nat){st:List Bool×List Int},wkInv n st->wkInv n (ZC rows k i st)
 |0,_,_,h=>h
 | k+1,i,st,h=>by
   rw[ZC];split
   ·rename_i a ha;have o:=h.2.2 a (z1d ha);refine LP l k (i+1) (O6 h ?_);have j:a.toNat<rows.length:=by rw[l.1];omega
    rw[z0a,z0c j];exact l.2 _ (z1h j)
   ·exact h
def ZL{n:Nat}{a:Int}(h:WH n a=true):0<=a/\a<n:=by
 unfold WH at h;simpa using h
theorem Yz(n:Nat)(B:n<=5000)(g:List (List Int)×List (List Int))(u:XT n g.1)(l:List Int)(b:l.length<=1000000):aP 134 [YW g,QG l] (QG (NM 0 (WT g.1 l))):=by
 refine sC Xh func134 ?_;conv=>whnf
 have f:((avI g.1).map AV.sl).length=n:=by simp[avI,u.1]
 repeat' ((first|(refine gX ?_;intros)|refine z6t n (by rw[f]) (by show 1*n<=140737488355328;omega) (by unfold maxLen;omega) ?_)<;>conv=>whnf)
 have A:(l.map (AV.int .i64)).length=l.length:=z0s _;refine lJ (fun x:Nat×List Bool×List Int=>⟨[(0,.p (YW g)),(5,.hd 0 0 n),(6,.hd 1 0 x.2.2.length),(17,.p (QG l)),(18,.p (.int .i64 (l.map (AV.int .i64)).length)),(19,.j x.1)],[(0,.own 4 1 (x.2.1.map bv)),(1,.own 3 1 (x.2.2.map (.int .i64)))]⟩) (fun x=>x.1<=l.length/\wkInv n x.2/\(l.drop x.1).foldl (fun st a=>bif WH n a then FP st a else st) x.2=LH n l) (fun x=>l.length-x.1) (0,List.replicate n false,[]) (lM [(1,.own 3 1 [])] (hH:=.cons rfl (.of_eq (by rw[z4y];rfl)) (.new z1j .nil))) ⟨z1q _,Zt n,rfl⟩ ?_;rintro⟨m,seen,i⟩ ⟨d,r,q⟩;simp only at d r q⊢;have hsl:seen.length=n:=r.1;have C:i.length<=n:=LM r;rcases z1w m l.length with w|w;rotate_left 1
 ·rw[z1b w,List.foldl_nil]at q;conv=>whnf
  repeat' ((first|(apply bD<;>intro _<;>try omega)|(refine cH [(1000,0),(2000,1)] 0 (Pl n B g.1 u (seen,i) r) ?_))<;>conv=>whnf)
  have y:(ZC g.1 (n+1) 0 (seen,i)).1.length=n:=(LP u _ _ r).1;refine cJ rH1 0 (Tl (ZC g.1 (n+1) 0 (seen,i)).1 (by omega)) ?_ (ha:=(z1e (z6m (by rw[y];rfl)) z3a));rintro l' H' ⟨es,rfl,rfl,rfl⟩;conv=>whnf
  skip
  exact RetK.p (by unfold QG WT;rw[u.1,<-q])
 rw[z2v w,z4d]at q;have s:aP 192 [YW g,.int .i64 l[m]] (.bool (WH n l[m])):=by
  have:=MC g l[m]
  rwa[u.1]at this
 cases o:seen.getD l[m].toNat false with
 | true=>
   have t:(bif WH n l[m]then FP (seen,i) l[m]else(seen,i))=(seen,i):=by unfold FP;simp only[o,z1n];cases WH n l[m]<;>rfl
   have e2:WH n l[m]=true->(seen.map bv)[l[m].toNat]?=some .tt:=fun h=>by
    have e:=ZL h;have k:l[m].toNat<seen.length:=by omega
    have:seen[l[m].toNat]=true:=by simpa[k]using o
    simp[k,this,bv]
   rw[t]at q;conv=>whnf
   repeat' ((first|(refine gX ?_;intros)|refine cP s ?_|refine z4u l[m].toNat (by have:=ZL (by assumption);omega) (by have:=ZL (by assumption);omega) ?_|refine z5r l[m].toNat 0 .tt (by omega) (e2 (by assumption)) ?_|((first|apply bD|apply bB)<;>intro _<;>try omega))<;>conv=>whnf)
   all_goals exact nX (m+1,seen,i) ⟨by simp only;omega,r,q⟩
 | false=>
   have e2:WH n l[m]=true->(seen.map bv)[l[m].toNat]?=some .ff:=fun h=>by
    have e:=ZL h;have k:l[m].toNat<seen.length:=by omega
    have:seen[l[m].toNat]=false:=by simpa[k]using o
    simp[k,this,bv]
   conv=>whnf
   repeat' ((first|(refine gX ?_;intros)|refine cP s ?_|refine z4u l[m].toNat (by have:=ZL (by assumption);omega) (by have:=ZL (by assumption);omega) ?_|refine z5r l[m].toNat 0 .ff (by omega) (e2 (by assumption)) ?_|refine z6g l[m].toNat 0 .ff .tt (by omega) (e2 (by assumption)) (z1l 1) rfl ?_|refine pI ?_|((first|apply bD|apply bB)<;>intro _<;>try omega))<;>conv=>whnf)
   ·have v:WH n l[m]=true:=by assumption
    have t:(bif WH n l[m]then FP (seen,i) l[m]else(seen,i))=(seen.set l[m].toNat true,i++[l[m]]):=by unfold FP;simp only[o,v,z1n,z1o]
    have z:=Vr r (ZL v);rw[t]at q;have c:FP (seen,i) l[m]=(seen.set l[m].toNat true,i++[l[m]]):=by unfold FP;simp only[o,z1o]
    rw[c]at z;exact⟨(m+1,seen.set l[m].toNat true,i++[l[m]]),⟨by simp only;omega,z,q⟩,by simp only;omega,Le.of_eq (by simp only[z0e,z1v,z3w];rfl)⟩
   ·have v:WH n l[m]=false:=by assumption
    have t:(bif WH n l[m]then FP (seen,i) l[m]else(seen,i))=(seen,i):=by rw[v];rfl
    rw[t]at q;exact nX (m+1,seen,i) ⟨by simp only;omega,r,q⟩
theorem Rw(w:Way)(f:Pr)(n:Nat)(q:w.n=n)(k:w.p.A[w.j]?=some f)(i:cntP w.p.A<=1000)(o:n<=5000)(l:List Step)(h:l.length<=1000000):aP 133 [.ip w.cells,eSteps l] (YW (QE n (l.map (ixP w.p w.j f w.n)))):=by
 refine sC NA func133 ?_;conv=>whnf
 repeat' ((first|refine dA ?_|refine cP (GA w f k i (by omega) l h) ?_ (ha:=.cons (Sub.refl _) (.cons (Sub.refl _) .nil))|refine cP (Fg n o (l.map (ixP w.p w.j f w.n)) (by rw[z0s];exact h)) ?_ (ha:=.cons (Sub.int q) (.cons (Sub.refl _) .nil)))<;>conv=>whnf)
 exact RetK.p rfl
theorem Rv(p:Pg)(j:Nat)(f:Pr)(n:Nat)(h:AV)(k:List AV)(q:p.A[j]?=some f)(o:cntP p.A<=1000)(r:n<=5000)(l:List Step)(i:l.length<=1000000):
  aH 133 [.ptr 1000 0,.p (eSteps l)] (q7f p j n h k) (.p (YW (QE n (l.map (ixP p j f n))))) (q7f p j n h k):=by
 refine sK NA func133 ?_;conv=>whnf
 refine DrawK.of ZI mixed (.cons 0 false (.cons 1 false (.cons 2 false (.cons 4 false (.cons 5 false (.fork 3 (.cons 6 true (.cons 7 true (.cons 8 true .nil))) 6 (.cons 3 true (.cons 7 true (.cons 8 true .nil))))))))) (by kernel_rfl) ?_;conv=>whnf
 repeat' ((first|refine cP (Fg n r (l.map (ixP p j f n)) (by rw[z0s];exact i)) ?_ (ha:=.cons (Sub.refl _) (.cons (Sub.refl _) .nil))|refine z1s ?_ ?_|(refine cJ [(1000,1000),(2000,2000)] 0 (Rq p j f n h k q o (by omega) l i) ?_;rintro l' H' ⟨es,rfl,rfl,rfl⟩))<;>conv=>whnf)
 all_goals exact⟨_,z2x _,rfl,rfl⟩
def Nv{n:Nat}(h:XT n N){a:Nat}{b:Int}(o:0<=b/\b<n):XT n (N9 N a b):=by
 unfold N9;refine⟨by rw[z3e];exact h.1,fun r k x i=>?_⟩;rcases z4t k with k|rfl
 .exact h.2 r k x i
 .unfold Jt at i;have l:∀y∈N.getD a [],0<=y/\y<n:=fun y j=>by
   rcases z1w a N.length with ha|ha
   .rw [z0a,z0c ha]at j;exact h.2 _ (z1h ha) y j
   .rw [z0a,z3u ha]at j;cases j
  rcases z0o.1 i with i|i
  .exact l x (z7z i)
  .rcases z1g.1 i with rfl|i
   .exact o
   .exact l x (List.mem_of_mem_drop i)
def q9f{n:Nat}{g:List (List Int)×List (List Int)}(h:XT n g.1/\XT n g.2)(e:Int×Int):XT n (Rj n g e).1/\XT n (Rj n g e).2:=by
 rw[H6,Ba];cases i:WH n e.1&&WH n e.2 && !(g.1.getD e.1.toNat []).contains e.2
 .exact h
 .simp only[z1p]at i;exact⟨Nv h.1 (ZL i.1.2),Nv h.2 (ZL i.1.1)⟩
def q4w{n:Nat}(l:List (Int×Int)):∀{g:List (List Int)×List (List Int)},XT n g.1/\XT n g.2->XT n (l.foldl (Rj n) g).1/\XT n (l.foldl (Rj n) g).2:=by
 induction l with
 |nil=>intro g h;exact h
 |cons e r i=>intro g h;exact i (q9f h e)
def HH(n:Nat)(l:List (Int×Int)):XT n (QE n l).1/\XT n (QE n l).2:=by
 have h:XT n (List.replicate n []):=⟨by simp,fun r i=>by rw[z4j i];simp⟩;exact q4w l ⟨h,h⟩
theorem Wr.eq{n m:Int}{K:Int->Prop}(h:n=m)(i : -9223372036854775808<=m)(j:m<=9223372036854775807)(l:K m):Wr .i64 n K:=by
 subst h;exact Wr.i64 i j l
theorem Jd:∀(a:Step)(l:List Step),(XN a l).length<=l.length
 |_,[]=>z1l _
 | a,b::r=>by
   have:=Jd b r;rw[XN];cases WX b a<;>simp<;>omega
theorem TF(l:List Step):(WB l).length<=l.length:=by
 unfold WB;rw[<-Ye (l:=l)];cases GH l with
 |nil=>exact z1l _
 | cons a r=>
   have:=Jd a r;simp[Z3];omega
def Og(h:Sheet)(f:Pr)(it:Item):(VG h f it).length<=2:=by
 unfold VG;split<;>(try split)<;>(try split)<;>(try split)<;>(try split)<;>(try split)<;>simp
theorem Jm{α β:Type}{g:α->List β}(h:∀x,(g x).length<=2):∀l:List α,(l.flatMap g).length<=2*l.length
 |[]=>by simp
 | a::r=>by
   have:=Jm h r;have:=h a;rw[z2d,z0e,z2k];omega
theorem LF(p:Pg)(j:Nat)(f:Pr):(QN p j f).length<=1+2*QY f.body:=by
 unfold QN;have:=Jm (g:=fun it=>(VG (sheetOf p) f it).map (Step.mk it.s.id · 1)) (fun it=>by rw[z0s];exact Og _ _ _) (itL j 0 (-1) 0 (QL p.A j) f.body);rw[WA]at this;rw[z2k];omega
theorem L8:∀(i:Nat)(l:List Bool)(a:Int),a∈NM i l->(i:Int)<=a/\a<i+l.length
 |_,[],_,h=>by rw[NM]at h;cases h
 | i,b::r,a,h=>by
   rw[NM]at h;have key:a∈NM (i+1) r->(i:Int)<=a/\a<i+(b::r).length:=fun h=>by
    have:=L8 (i+1) r a h;simp only[z2k];omega
   cases b with
   |false=>exact key h
   | true=>
     rcases z1g.1 h with rfl|h
     ·simp only[z2k];omega
     ·exact key h
def I8(n:Nat)(l:List Int):wkInv n (LH n l):=by
 unfold LH;have:∀(l:List Int)(st:List Bool×List Int),wkInv n st->wkInv n (l.foldl (fun st a=>bif WH n a then FP st a else st) st):=fun l=>by
  induction l with
  |nil=>intro st h;exact h
  | cons a r j=>
    intro st h;refine j _ ?_;show wkInv n (bif WH n a then FP st a else st);cases i:WH n a with
    |true=>exact Vr h (ZL i)
    |false=>exact h
 exact this l _ (Zt n)
def EA{n:Nat}{rows:List (List Int)}(h:XT n rows)(l:List Int):(WT rows l).length=n:=by
 unfold WT;rw[h.1];exact(LP h _ _ (I8 n l)).1
def FN(l:List Int)(b:List Bool):List Bool:=l.foldl (fun b a=>b.set a.toNat true) b
def QQ(p:Pg)(j:Nat)(f:Pr):Way:=
 let h:=WB (QN p j f);let n:=QY f.body+2
 ⟨p,j,n,h,FN (NM 0 (WT (QE n (h.map (ixP p j f n))).1 [0])) (List.replicate n false)⟩
theorem x2i(p:Pg)(j:Nat)(f:Pr)(y:p.A[j]?=some f)(D:cntP p.A<=1000)(G:∀it∈itsOf p j f,it.s.kind=7->1<=it.loop/\it.loop<=(sheetOf p).l.length)(g:∀s∈QN p j f,okSt s):aP 68 [.ip (sheetOf p).cells,.int .i64 j] (.ip (QQ p j f).cells):=by
 refine sC Ip func68 ?_;conv=>whnf
 obtain⟨_,_,_,E,C⟩:=QK p;obtain⟨d,w,H,_⟩:=C j f y;repeat' ((first|refine dA ?_|refine z1s rfl ?_|refine aR ?_|refine IdxK.at rfl (YS d) rfl ?_|refine IdxK.at rfl (YS w) rfl ?_|refine cP (Kv p j f y D G g) ?_|refine Wr.eq (m:=QY f.body) (by omega) (by omega) (by omega) ?_|refine Wr.eq (m:=(QY f.body+2:Nat)) (by omega) (by omega) (by omega) ?_|refine z6t (QY f.body+2) rfl (by show 1*_<=140737488355328;omega) (by unfold maxLen;omega) ?_)<;>conv=>whnf)
 have B:(WB (QN p j f)).length<=1000000:=by have:=TF (QN p j f);have:=LF p j f;omega
 refine cJ [(1000,0),(2000,1)] 0 (Rv p j f (QY f.body+2) (eSteps (WB (QN p j f))) (List.replicate (QY f.body+2) .ff) y D (by omega) (WB (QN p j f)) B) ?_ (hH:=z1i (j:=0) rfl rfl (CSub.of_eq (by rw[z2o];rfl)) (z1i (j:=1) rfl rfl (CSub.refl _) z4x));rintro l' H' ⟨rfl,rfl⟩;conv=>whnf
 obtain⟨o,_⟩:=HH (QY f.body+2) ((WB (QN p j f)).map (ixP p j f (QY f.body+2:Nat)));repeat' ((first|(refine gX ?_;intros)|refine cP (Yz (QY f.body+2) (by omega) _ o [0] (by simp)) ?_ (ha:=.cons (Sub.refl _) (.cons (Sub.refl _) .nil)))<;>conv=>whnf)
 have q:∀a∈NM 0 (WT (QE (QY f.body+2) ((WB (QN p j f)).map (ixP p j f (QY f.body+2:Nat)))).1 [0]),0<=a/\a<(QY f.body+2:Nat):=fun a ha=>by
  have:=L8 _ _ _ ha;rw[EA o]at this;omega
 have e:QQ p j f=⟨p,j,(QY f.body+2:Nat),WB (QN p j f),FN (NM 0 (WT (QE (QY f.body+2) ((WB (QN p j f)).map (ixP p j f (QY f.body+2:Nat)))).1 [0])) (List.replicate (QY f.body+2) false)⟩:=rfl;rw[e];have z:((NM 0 (WT (QE (QY f.body+2) ((WB (QN p j f)).map (ixP p j f (QY f.body+2:Nat)))).1 [0])).map (AV.int .i64)).length<=9223372036854775807:=by assumption
 generalize NM 0 (WT (QE (QY f.body+2) ((WB (QN p j f)).map (ixP p j f (QY f.body+2:Nat)))).1 [0])=lst at q z⊢;have I:(lst.map (AV.int .i64)).length=lst.length:=z0s _;refine lJ (fun x:Nat×List Bool=>⟨[(5,.ptr 0 0),(46,.p (QG lst)),(47,.p (.int .i64 (lst.map (AV.int .i64)).length)),(48,.j x.1)],[(0,.obj 144 [.p (.ip (sheetOf p).cells),.j j,.j (QY f.body+2:Nat),.p (eSteps (WB (QN p j f))),.hd 1 0 (QY f.body+2)]),(1,.own 4 1 (x.2.map bv))]⟩) (fun x=>x.1<=lst.length/\x.2.length=QY f.body+2/\FN (lst.drop x.1) x.2=FN lst (List.replicate (QY f.body+2) false)) (fun x=>lst.length-x.1) (0,List.replicate (QY f.body+2) false) (Le.of_eq (by simp only[z4y,z2o];rfl)) ⟨z1q _,by simp,rfl⟩ ?_;rintro⟨m,b⟩ ⟨F,t,n⟩;simp only at F t n⊢;rcases z1w m lst.length with r|r;rotate_left 1
 ·rw[z1b r]at n;rw[<-n];conv=>whnf
  repeat' (apply bD<;>intro _<;>first|omega|conv=>whnf)
  exact⟨_,.ptr (cs:=[.ip (sheetOf p).cells,.int .i64 j,.int .i64 (QY f.body+2:Nat),eSteps (WB (QN p j f)),.sl (b.map bv)]) rfl rfl (fun i x c h k=>by
   match i,h,k with
   |0,h,k=>cases h;cases k;exact .p (Sub.refl _)
   |1,h,k=>cases h;cases k;exact .p (Sub.refl _)
   |2,h,k=>cases h;cases k;exact .p (Sub.refl _)
   |3,h,k=>cases h;cases k;exact .p (Sub.refl _)
   |4,h,k=>cases h;cases k;exact .hd rfl (by rw[z0s,t])),rfl⟩
 rw[z2v r]at n;have ha:=q _ (z1h r);have u:lst[m].toNat<b.length:=by omega
 have v:(b.map bv)[lst[m].toNat]?=some (bv b[lst[m].toNat]):=by simp[u]
 conv=>whnf
 repeat' ((first|(refine gX ?_;intros)|refine z4u lst[m].toNat (by omega) (by omega) ?_|refine z6g lst[m].toNat 0 (bv b[lst[m].toNat]) .tt (by omega) v (z1l 1) (by cases b[lst[m].toNat]<;>rfl) ?_|(apply bD<;>intro _<;>try omega))<;>conv=>whnf)
 exact⟨(m+1,b.set lst[m].toNat true),⟨by simp only;omega,by simp only[z3e];exact t,n⟩,by simp only;omega,Le.of_eq (by simp only[z3w];rfl)⟩
end Go.Ab
