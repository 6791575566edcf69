/- The library's contracts at this seat's program, in plain words (printed by the kit's lay-plain.mjs). Conditions: none. -/
import Derived.Shelf.Sort.Plain
import Derived.Shelf.Slices.In.SortNone
import Derived.Shelf.Slices.CompactS
import Derived.Ground.Names2Prog
import Derived.Shelf.Slices.SearchI
import Derived.Shelf.Slices.Empties
import Derived.Shelf.Spec.SlicesInsert
import Derived.Shelf.Spec.SlicesInsertGrow
import Derived.Shelf.SlSortCmp.NoneTotal
import Derived.Ground.SlsfProg
import Derived.Test.YtonbdgcjnecapaaGreatProg
import Derived.Test.YtonbdgcjnecapaaGreatRchC11
import Derived.Test.YtonbdgcjnecapaaGreatRchC12
set_option linter.all false
set_option maxRecDepth 100000
set_option maxHeartbeats 16000000
namespace Go.Proofs
open Go.Shelf
def Tryz.laysF_ren:Go.Shelf.Ren:=⟨fun|6=>228|15=>187|14=>286|28=>245|29=>246|20=>313|21=>314|22=>315|23=>316|24=>317|25=>318|26=>319|27=>320|46=>337|47=>294|48=>295|49=>338|50=>339|57=>342|n=>n,fun|22=>124|24=>232|25=>264|3=>3|39=>242|0=>0|53=>280|55=>282|4=>4|46=>274|45=>273|50=>201|5=>5|9=>9|66=>307|70=>311|76=>328|77=>30|n=>n,fun|n=>n⟩
def K1:Go.Proofs.SlLaysF0.n6 Tryz.prog Tryz.laysF_ren:={
 mixed:=by kernel_rfl
 f6:=⟨Tryz.f228.name,by decide,Tryz.func228.trans (congrArg some (by kernel_rfl))⟩
 f14:=⟨Tryz.f286.name,by decide,Tryz.func286.trans (congrArg some (by kernel_rfl))⟩
 f15:=Tryz.func187.trans (congrArg some (by kernel_rfl))
 f20:=⟨Tryz.f313.name,by decide,Tryz.func313.trans (congrArg some (by kernel_rfl))⟩
 f21:=⟨Tryz.f314.name,by decide,Tryz.func314.trans (congrArg some (by kernel_rfl))⟩
 f22:=⟨Tryz.f315.name,by decide,Tryz.func315.trans (congrArg some (by kernel_rfl))⟩
 f23:=⟨Tryz.f316.name,by decide,Tryz.func316.trans (congrArg some (by kernel_rfl))⟩
 f24:=⟨Tryz.f317.name,by decide,Tryz.func317.trans (congrArg some (by kernel_rfl))⟩
 f25:=⟨Tryz.f318.name,by decide,Tryz.func318.trans (congrArg some (by kernel_rfl))⟩
 f26:=⟨Tryz.f319.name,by decide,Tryz.func319.trans (congrArg some (by kernel_rfl))⟩
 f27:=⟨Tryz.f320.name,by decide,Tryz.func320.trans (congrArg some (by kernel_rfl))⟩
 f28:=Tryz.func245.trans (congrArg some (by kernel_rfl))
 f29:=Tryz.func246.trans (congrArg some (by kernel_rfl))
 f46:=⟨Tryz.f337.name,by decide,Tryz.func337.trans (congrArg some (by kernel_rfl))⟩
 f47:=Tryz.func294.trans (congrArg some (by kernel_rfl))
 f48:=Tryz.func295.trans (congrArg some (by kernel_rfl))
 f49:=⟨Tryz.f338.name,by decide,Tryz.func338.trans (congrArg some (by kernel_rfl))⟩
 f50:=⟨Tryz.f339.name,by decide,Tryz.func339.trans (congrArg some (by kernel_rfl))⟩
 f57:=⟨Tryz.f342.name,by decide,Tryz.func342.trans (congrArg some (by kernel_rfl))⟩
 t0:=Tryz.underlying0
 a0:=Tryz.isAgg0
 z0:=Tryz.sizeOf0
 v0:=Tryz.zeroValue0
 t3:=Tryz.underlying3
 a3:=Tryz.isAgg3
 z3:=Tryz.sizeOf3
 v3:=Tryz.zeroValue3
 t4:=Tryz.underlying4
 a4:=Tryz.isAgg4
 z4:=Tryz.sizeOf4
 v4:=Tryz.zeroValue4
 t5:=Tryz.underlying5
 a5:=Tryz.isAgg5
 z5:=Tryz.sizeOf5
 v5:=Tryz.zeroValue5
 t9:=Tryz.underlying9
 a9:=Tryz.isAgg9
 z9:=Tryz.sizeOf9
 v9:=Tryz.zeroValue9
 t22:=Tryz.underlying124
 a22:=Tryz.isAgg124
 z22:=Tryz.sizeOf124
 v22:=Tryz.zeroValue124
 t25:=Tryz.underlying264
 a25:=Tryz.isAgg264
 z25:=Tryz.sizeOf264
 v25:=Tryz.zeroValue264
 t39:=Tryz.underlying242
 a39:=Tryz.isAgg242
 z39:=Tryz.sizeOf242
 v39:=Tryz.zeroValue242
 t45:=Tryz.underlying273
 a45:=Tryz.isAgg273
 z45:=Tryz.sizeOf273
 v45:=Tryz.zeroValue273
 t46:=Tryz.underlying274
 a46:=Tryz.isAgg274
 z46:=Tryz.sizeOf274
 v46:=Tryz.zeroValue274
 t50:=Tryz.underlying201
 a50:=Tryz.isAgg201
 z50:=Tryz.sizeOf201
 v50:=Tryz.zeroValue201
 t53:=Tryz.underlying280
 a53:=Tryz.isAgg280
 z53:=Tryz.sizeOf280
 v53:=Tryz.zeroValue280
 t55:=Tryz.underlying282
 a55:=Tryz.isAgg282
 z55:=Tryz.sizeOf282
 v55:=Tryz.zeroValue282
 t66:=Tryz.underlying307
 a66:=Tryz.isAgg307
 z66:=Tryz.sizeOf307
 v66:=Tryz.zeroValue307
 t70:=Tryz.underlying311
 a70:=Tryz.isAgg311
 z70:=Tryz.sizeOf311
 v70:=Tryz.zeroValue311
 t76:=Tryz.underlying328
 a76:=Tryz.isAgg328
 z76:=Tryz.sizeOf328
 v76:=Tryz.zeroValue328
 t77:=Tryz.underlying30
 a77:=Tryz.isAgg30
 z77:=Tryz.sizeOf30
 v77:=Tryz.zeroValue30}
end Go.Proofs
namespace Go.Ab
open Go.Proofs.Tryz
open Go.Proofs Go.Sort Go.RowKit Go.Lib
variable {m:Nat}{σ:Mem}
theorem Frm.grown{w w':World}(h:Frm (fun _=>False) w w'):∃q os,w'=grow (w.drewN q) os:=by
 obtain⟨v,D,o,B,C⟩:=w;obtain⟨l,u,j,r,t⟩:=w';obtain⟨z,a,b,f,g,c⟩:=h;simp only at z a b f g c;refine⟨j-o,l.extract v.size l.size,?_⟩;subst z a b;have e:o+(j-o)=j:=by omega
 show World.mk l u j r t=World.mk (v++l.extract v.size l.size) u (o+(j-o)) r t;rw[e];congr 1;apply Array.ext
 .simp;omega
 .intro i y A;by_cases x:i<v.size
  .have:=c i x id;rw[x2n y,x2n x]at this;rw[Array.getElem_append_left x];exact x3h this
  .rw [Array.getElem_append_right (by omega)];simp;congr 1;omega
def HS(a b:Step):Bool:=decide (Ll a b<0)
def A6(a b c:Int):orI [a,b,c]<0↔a<0\/a=0/\(b<0\/b=0/\c<0):=by
 by_cases h:a=0<;>by_cases i:b=0<;>by_cases j:c=0<;>simp[orI,h,i,j]
def JC(x y:Int):Da x y<0↔x<y:=by
 unfold Da;split
 .omega
 .split<;>omega
def VR(x y:Int):Da x y=0↔x=y:=by
 unfold Da;split
 .omega
 .split<;>omega
def Tw(a b:Step):Ll a b<0↔QT a.src<QT b.src\/QT a.src=QT b.src/\(QT a.dst<QT b.dst\/QT a.dst=QT b.dst/\a.kind<b.kind):=by
 unfold Ll;rw[A6,JC,JC,JC,VR,VR]
def okSt(s:Step):Prop:=s.src≠9223372036854775807/\s.dst≠9223372036854775807
abbrev OSt:={s:Step // okSt s}
instance:Inhabited OSt:=⟨⟨⟨0,0,0⟩,by constructor<;>decide⟩⟩
def cfO(a b:OSt):Int:=Ll a.1 b.1
def UE{x y:Int}(i:x≠9223372036854775807)(j:y≠9223372036854775807)(h:QT x=QT y):x=y:=by
 unfold QT at h;split at h<;>split at h<;>omega
def q0n:SWO (ltOf cfO):=by
 refine⟨fun x=>?_,fun x y z h i=>?_,fun x y z h i=>?_⟩;all_goals
  unfold ltOf cfO at*
  simp only[x1n,x2c,Tw]at*
  omega
def q0m(x y:OSt)(j:ltOf cfO x y=false)(k:ltOf cfO y x=false):x=y:=by
 unfold ltOf cfO at*
 simp only[x2c,Tw]at j k;obtain⟨⟨a,b,c⟩,l,n⟩:=x;obtain⟨⟨d,e,f⟩,o,p⟩:=y;simp only at*
 have h:=UE (x:=a) (y:=d) l o (by omega);have e2:=UE (x:=b) (y:=e) n p (by omega);have i:c=f:=by omega
 subst h e2 i;rfl
def Di(s:OSt):List Value:=[.int .i64 s.1.src,.int .i64 s.1.dst,.int .i64 s.1.kind]
def Ve(s:OSt):Rep σ (.agg s.1.cells) (.agg (Di s).toArray):=by
 refine .agg _ _ (fun j=>(Di s).toArray.getD j undef) rfl (fun j c h=>?_) (fun j c h=>?_)
 .match j,h with
  |0,_=>rfl
  |1,_=>rfl
  |2,_=>rfl
 .match j,h with
  |0,h=>cases h;exact .int _ _
  |1,h=>cases h;exact .int _ _
  |2,h=>cases h;exact .int _ _
def EC(W:World)(x y:OSt):Calls prog 229 (#[.agg (Di x).toArray,.agg (Di y).toArray] ++ #[]) W fun e w'=>e=.returned (.int .i64 (cfO x y))/\∃q k,w'=grow (W.drewN q) k:=by
 refine((Mt x.1 y.1).ok (fun _=>none) W #[.agg (Di x).toArray,.agg (Di y).toArray] rfl (fun j c i=>?_) (fun b c h=>by cases h)).mono ?_
 .match j,i with
  |0,i=>cases i;exact Ve x
  |1,i=>cases i;exact Ve y
 .rintro e w' ⟨c,u,σ',rfl,rfl,n,_,_,l,_⟩;cases n;exact⟨rfl,l.grown⟩
def AP{l:List OSt}{vs:Array Value}(h:∀(m:Nat)(x:AV),(l.map fun s=>AV.agg s.1.cells)[m]?=some x->x.cells.length=3/\∀(j:Nat)(c:AV),x.cells[j]?=some c->∃u:Value,vs[m*3+j]?=some u/\Rep σ c u){j:Nat}(p:m<l.length)(o:j<3):
  vs[m*3+j]?=(Di l[m])[j]?:=by
 have n:=(h m (.agg l[m].1.cells) (by simp[p])).2
 match j,o with
 | 0,_=>
   obtain⟨u,i,k⟩:=n 0 (.int .i64 l[m].1.src) rfl;cases k;exact i
 | 1,_=>
   obtain⟨u,i,k⟩:=n 1 (.int .i64 l[m].1.dst) rfl;cases k;exact i
 | 2,_=>
   obtain⟨u,i,k⟩:=n 2 (.int .i64 l[m].1.kind) rfl;cases k;exact i
def AN{l:List OSt}{vs:Array Value}(h:∀(m:Nat)(n:m<l.length)(j:Nat),j<3->vs[m*3+j]?=(Di l[m])[j]?):∀(m:Nat)(x:AV),(l.map fun s=>AV.agg s.1.cells)[m]?=some x->x.cells.length=3/\∀(j:Nat)(c:AV),x.cells[j]?=some c->∃u:Value,vs[m*3+j]?=some u/\Rep σ c u:=by
 intro m x k;rw[x0d]at k;cases o:l[m]?with
 |none=>rw[o]at k;cases k
 | some s=>
   rw[o]at k;cases k;obtain⟨n,rfl⟩:=x0m.1 o;refine⟨rfl,fun j c i=>?_⟩
   match j,i with
   |0,i=>cases i;exact⟨_,h m n 0 (by omega),.int _ _⟩
   |1,i=>cases i;exact⟨_,h m n 1 (by omega),.int _ _⟩
   |2,i=>cases i;exact⟨_,h m n 2 (by omega),.int _ _⟩
def P8{d:Array OSt}{t:Nat}(h:t<d.size*3):(flatK Di 3 d)[t]?=(Di (d[t/3]'(by omega)))[t%3]?:=by
 have i:=get_flatK Di 3 d t h;rw[x5g _ t (by simpa using h),x5g d (t/3) (by omega)]at i;rw[x2n (by simpa using h),i];have j:t%3<(Di (d[t/3]'(by omega))).length:=by simp[Di];omega
 rw[x0u j,x5g (Di (d[t/3]'(by omega))) (t%3) j]
def YB(l:List Step):List Step:=l.mergeSort fun x y=> !HS y x
def Z9{l:List Step}:(YB l).length=l.length:=by unfold YB;simp
def J7(l:List Step):(YB l).Perm l:=x4r _ _
def PJ(l:List OSt)(V:l.length<=1000000000):
  SpecH prog 228 [.hd 1000 0 l.length,.p (.fn 229 [])] [(1000,.own 232 3 (l.map fun s=>.agg s.1.cells))]
   (fun r H=>r=.p (.tup [])/\H=[(1000,.own 232 3 ((l.mergeSort fun x y=> !(ltOf cfO) y x).map fun s=>.agg s.1.cells))]):=by
 refine⟨call228,fun σ β w Z hn g C=>?_⟩;obtain⟨v,u,rfl⟩:=q3w hn;have A:RepL σ β (.hd 1000 0 l.length) v:=by simpa using g 0 _ rfl
 have O:RepL σ β (.p (.fn 229 [])) u:=by simpa using g 1 _ rfl
 obtain rfl:u=.func (.func 229) #[] #[]:=by
  cases O with
  | p h=>cases h with
    | fn _ _ vs u L q hr=>
      obtain rfl:vs=#[]:=Array.size_eq_zero_iff.1 L;rfl
 have G:=C.chunks 1000 _ x0k;rcases G with⟨F,I⟩|⟨i,vs,D,M,J,R,h3,h4,h5⟩
 .have K:l=[]:=x6z.1 I;subst K;obtain⟨rfl,_⟩:=Pt A F;have q:=AnyF.slices_SortFunc_none K1 none 0 (.func (.func 229) #[] #[]) w;change Calls prog 228 _ _ _ at q;refine q.mono ?_;rintro e w' ⟨rfl,rfl⟩;exact⟨.p (.tup []),.tuple #[],σ,β,_,rfl,⟨rfl,rfl⟩,.p (.tup [] #[] (fun _=>undef) rfl (by simp) (by simp)),by simpa using C,by simpa using Later.refl _ _ _ _⟩
 .have Q:=Ks A D;subst Q;have f:=(C.apart 1000 (by simp) i D i.blk i.has_blk).2;have b:l.length<=i.cap:=by simpa using h3
  have hle:l.length*3<=vs.size:=by rw[R];omega
  have c:=fun m j Y U=>AP (σ:=σ) (l:=l) h5 (m:=m) (j:=j) Y U;have q:=AnyQ.slices_SortFunc_total K1 3 Tryz.isAgg232 Tryz.sizeOf232 Di (fun _=>rfl) (fun x v g=>by simp[Di]at g;rcases g with rfl|rfl|rfl<;>rfl) cfO q0n 229 #[] i.blk 0 i.cap l.toArray w
   call229 (fun m os dk _ x y=>EC _ x y) (fun t ht=>by
    have o:t<l.toArray.size*3:=by simpa using ht
    refine⟨?_,VK J _⟩;have B:=P8 o;have z:=c (t/3) (t%3) (by simp at o;omega) (by omega);rw[Nat.div_add_mod']at z;rw[JS J,x3v,z,x5g _ t (by simpa using o)];rw[x2n (by simpa using o)]at B;simpa using B.symm) f (by simp;omega) q0m
  simp only[x4x]at q;change Calls prog 228 _ _ _ at q;refine q.mono ?_;rintro e w' ⟨rfl,n,os,rfl⟩;generalize hS:(l.mergeSort fun x y=> !(ltOf cfO) y x)=S;have a:S.length=l.length:=by rw[<-hS];simp
  obtain⟨hf,hb⟩:=BS (enc:=id) (n:=n) (os:=os) (d:=flatK Di 3 S.toArray) J f;obtain⟨E,hL⟩:=Vk (c':=.own 232 3 (S.map fun s=>.agg s.1.cells)) C D hf (.inr ⟨i,_,D,M,hb,by rw[HJ];exact R,by simp[a];exact b,h4,AN fun m Y j U=>by
   have B:=KZ (enc:=id) (d:=flatK Di 3 S.toArray) (vs:=vs) (by simp[a];omega) (k:=m*3+j) (by simp;omega);have z:=P8 (d:=S.toArray) (t:=m*3+j) (by simp;omega);rw[x2n (by simp;omega)]at z;rw[B];simp only[id];rw[z];simp[show(m*3+j)/3=m by omega,show(m*3+j)%3=j by omega]⟩)
  exact⟨.p (.tup []),.tuple #[],σ,β,_,rfl,⟨rfl,rfl⟩,.p (.tup [] #[] (fun _=>undef) rfl (by simp) (by simp)),E,hL⟩
def J0(l:List Step)(i:∀s∈l,okSt s)(j:l.length<=1000000000):
  SpecH prog 228 [.hd 1000 0 l.length,.p (.fn 229 [])] [(1000,.own 232 3 (l.map fun s=>.agg s.cells))]
   (fun r H=>r=.p (.tup [])/\H=[(1000,.own 232 3 ((YB l).map fun s=>.agg s.cells))]):=by
 have h:=PJ (l.attachWith okSt i) (by simpa using j);have n:((l.attachWith okSt i).map fun s=>AV.agg s.1.cells)=l.map fun s=>AV.agg s.cells:=by
  have:=x2o (List.map fun s:Step=>AV.agg s.cells) (x5v (l:=l) (p:=okSt) i);simp
 have e2:(((l.attachWith okSt i).mergeSort fun x y=> !(ltOf cfO) y x).map fun s=>AV.agg s.1.cells)=(YB l).map fun s=>AV.agg s.cells:=by
  have k:=List.map_mergeSort (l:=l.attachWith okSt i) (f:=Subtype.val) (r:=fun x y=> !(ltOf cfO) y x) (s:=fun x y=> !HS y x) (fun a _ b _=>rfl);rw[x5v]at k;unfold YB;rw[<-k,x4i];rfl
 rw[n,e2]at h;simpa using h
section
variable {P:Program}{T:Tab}{N:Nat}
def q1u{β:Lab}{k:Nat}{H H':Heap}{d:Chunk}{w w':World}{i:BInfo}(h:HRel σ β H w)(a:k∈H.map (·.1))(y:β k=some i)(n:Frm (fun b=>b=i.blk) w w')(s:H'.map (·.1)=H.map (·.1))(D:∀j c,(j,c)∈H'->j≠k->(j,c)∈H)(E:∀c,(k,c)∈H'->c=d)(v:d.holds σ β w' k):HRel σ β H' w'/\Later σ β H w σ β H' w':=by
 have x:=h.apart k a i y;refine⟨⟨fun b cs l=>?_,fun j c p=>?_,by rw[s];exact h.nodup,fun j p i' o b l=>?_,fun j p G z=>h.inj j (s▸p) G (s▸z)⟩,Mem.le_refl σ,⟨n.os,n.tape,n.output,n.drawn,n.size,fun b l F=>n.block b l fun t=>F ⟨k,a,i,y,.inl t.symm⟩⟩,
  fun b B C=>absurd B C,fun b ⟨j,p,r⟩=>.inl ⟨j,s▸p,r⟩,fun _ _ _=>rfl⟩
 .obtain ⟨e,A,f⟩:=h.mem b cs l;exact⟨e,A,(n.block b (x1y.1 f).1 fun t=>by rw[t,(x _ i.has_blk).1]at l;cases l).trans f⟩
 .by_cases q:j=k
  .subst q;rw[E c p];exact v
  .have g:=D j c p q;have u:j∈H.map (·.1):=x0n.2 ⟨_,g,rfl⟩;exact(h.chunks j c g).mono (Mem.le_refl σ) fun i' o b l=>n.block b (h.apart j u i' o b l).2 fun t=>q (h.inj j u k a i' i o y b l (.inl t.symm))
 .have:=h.apart j (s▸p) i' o b l;exact⟨this.1,x4u this.2 n.size⟩
theorem OpK.clear(hT:TabOK P T){s:St}{o:Oper}{K:St->Prop}{t:TypeId}{x:Operand}(hop:o.op=.call {callee:=.builtin .clear,args:=#[x],argTypes:=#[t]}){k off len:Nat}(A:QL s.sl x=.hd k off len){e sz:Nat}{es:List AV}(hg:getH s.H k=some (.own e sz es)){i F:TyI}(ht:T.get t=some i)(hd:i.desc=.slice e)(hte:T.get e=some F)(hz:F.zero.cells.size=sz)(hone:F.zero.cells.all (·.oneCell')=true)(hpos:0<sz)(h:Ja s.H k (.own e sz (es.take off)) fun H=>setD N s.sl o.dst (.p (.tup [])) fun sl=>K ⟨sl,H⟩):OpK P N s o K:=by
 refine⟨fun σ β a w l Q=>?_⟩;have Y:=QZ l.E x;rw[A]at Y;generalize hxe:a.eval x=v at Y;obtain⟨H',hK,h3,h4,h5⟩:=YA l.heap.nodup h;have hlab:=QM hg;have hu:=hT.of ht;rw[hd]at hu;have hue:=hT _ _ hte;have G:RepL σ β (.p (.tup [])) (.tuple #[]):=.p (.tup [] #[] (fun _=>undef) rfl (by simp) (by simp));have hbc:∀{w'} ,(Builtin.clear_ #[t] o.type #[v]).run P w=.ok (.tuple #[]) w'->(execOp a.eval o).run P w=.ok (.value (.tuple #[])) w':=fun {w'} hc=>by
  simp[execOp,hop,resolve,invoke,builtin,hxe,hc]
 have hch:=l.heap.chunks k _ (QD hg);have B:len=0->(Builtin.clear_ #[t] o.type #[v]).run P w=.ok (.tuple #[]) w->(o.wp P a w (fun a' w'=>∃σ' β' s',K s'/\Rel N σ' β' s' a' w'/\Later σ β s.H w σ' β' s'.H w') Q):=fun _ g=>by
  have z:HRel σ β H' w/\Later σ β s.H w σ β H' w:=by
   refine⟨⟨l.heap.mem,fun j c y=>?_,by rw[h3];exact l.heap.nodup,fun j y=>l.heap.apart j (h3▸y),fun j y j' hj'=>l.heap.inj j (h3▸y) j' (h3▸hj')⟩,Mem.le_refl σ,Frm.refl _ w,fun b h0 h1=>absurd h0 h1,fun b ⟨j,y,r⟩=>.inl ⟨j,h3▸y,r⟩,fun _ _ _=>rfl⟩;by_cases hjk:j=k
   .subst hjk;rw[h5 c y];rcases hch with⟨C,h7⟩|⟨J,vs,C,h7,h8,h9,h10,L,M⟩
    .exact .inl ⟨C,by rw[h7];simp⟩
    .exact .inr ⟨J,vs,C,h7,h8,h9,by simp;omega,L,fun m x A=>M m x (by rw[x1e]at A;split at A;exact A;cases A)⟩
   .exact l.heap.chunks j c (h4 j c y hjk)
  have U:Rel N σ β ⟨s.sl,H'⟩ a w:=⟨l.size,l.defers,l.E,z.1⟩;obtain⟨sl,hK,V⟩:=U.setD G hK;exact XI (hbc g) ⟨σ,β,_,hK,V,z.2⟩
 rcases Y.hdI with⟨hk0,hoff,hlen,I⟩|⟨J,oo,hk,hfit,D,I⟩
 .subst I;refine B hlen ?_;simp[Builtin.clear_,run_underlying hu]
 by_cases hl0:len=0
 .subst hl0 I;refine B rfl ?_;simp[Builtin.clear_,run_underlying hu]
 rcases hch with⟨C,_⟩|⟨bi',vs,C,h7,h8,h9,h10,L,M⟩
 .rw [hk]at C;cases C
 rw[hk]at C;cases C;have D:oo=off*sz:=by
  rcases D with D|⟨O,_⟩
  .rw [D,h7]
  .omega
 obtain⟨zs,Z⟩ : ∃zs,zs=(Builtin.zeroCells F.zero.cells len).toList:=⟨_,rfl⟩;have hzl:zs.length=len*sz:=by rw[Z];simp[Builtin.zeroCells,hz]
 have hz1:∀v∈zs,v.oneCell'=true:=fun v I=>by
  rw[Z]at I;simp only[Builtin.zeroCells,Array.toList_map,x0n]at I;obtain⟨q,hq,rfl⟩:=I;have R:q%F.zero.cells.size<F.zero.cells.size:=Nat.mod_lt _ (by omega);rw[x5g F.zero.cells (q%F.zero.cells.size) R];exact Array.all_eq_true.1 hone _ R
 have hend:off*sz+len*sz<=vs.size:=by
  rw[h9,<-x3q];exact x2z _ hfit
 have hst:=run_storeCells_cells (P:=P) J.blk oo zs 0 w (fun j y=>by
   have:oo+0+j<vs.size:=by omega
   simp only[World.cell?,h8];rw[x2n this];rfl) (fun j y=>by simp[World.frozen?,h8]) hz1
 have g:(Builtin.clear_ #[t] o.type #[v]).run P w=.ok (.tuple #[]) (w.setCells J.blk oo zs):=by
  subst I;have hzv:(zeroValue e).run P w=.ok F.zero w:=by
   have:=hue.info;cases hq:P.info? e with
   |none=>rw[hq]at this;cases this
   | some f=>
     rw[hq]at this;simp at this;simp[zeroValue,typeInfo,hq,this]
  obtain⟨len',rfl⟩ : ∃l',len=l'+1:=⟨len-1,by omega⟩;simp only[x5t]at hst;simp[Builtin.clear_,Sem.run_bind,run_underlying hu,hzv,<-Z,hst]
 obtain⟨s1,s2⟩:=ZO zs oo h8;have hnew:(Chunk.own e sz (es.take off)).holds σ β (w.setCells J.blk oo zs) k:=by
  refine .inr ⟨J,_,hk,h7,s1,by rw[VO];exact h9,by simp;omega,L,fun m x A=>?_⟩;rw[x1e]at A;split at A
  .rename_i hm;obtain⟨O,h14⟩:=M m x A;refine⟨O,fun j c y=>?_⟩;obtain⟨u,h15,h16⟩:=h14 j c y;have hjl:j<sz:=by rw[<-O];exact(x0m.1 y).1
   have R:m*sz+j<off*sz:=by
    have:(m+1)*sz<=off*sz:=x2z _ hm;rw[x3q]at this;omega
   exact⟨u,by rw[HG _ _ _ _ (by omega),if_neg (by omega)];exact h15,h16⟩
  .cases A
 obtain⟨hh,hl⟩:=q1u l.heap hlab hk s2 h3 h4 h5 hnew;have U:Rel N σ β ⟨s.sl,H'⟩ a (w.setCells J.blk oo zs):=⟨l.size,l.defers,l.E,hh⟩;obtain⟨sl,hK,V⟩:=U.setD G hK;exact XI (hbc g) ⟨σ,β,_,hK,V,hl⟩
end
def XW(p:Step):List Step->List Step
 |[]=>[]
 |b::r=>bif ZU b p then XW b r else b::XW b r
def NB:List Step->List Step
 |[]=>[]
 |a::r=>a::XW a r
def Mn{l:List Step}(h:l.length<2):NB l=l:=by
 match l,h with
 |[],_=>rfl
 |[a],_=>rfl
def avS(l:List Step):List AV:=l.map fun s=>.agg s.cells
def Qd(l:List Step)(g:l.length<=1000000000):
  SpecH prog 230 [.hd 1000 0 l.length,.p (.fn 231 [])] [(1000,.own 232 3 (avS l))]
   (fun r H=>r=.hd 1000 0 (NB l).length/\H=[(1000,.own 232 3 (avS (NB l)))]):=by
 refine sH ZS func230 rfl call230 ?_;conv=>whnf
 repeat' (first|(refine iM fun _=>?_;conv=>whnf)|(apply bD<;>intro _<;>first|omega|conv=>whnf))
 .have e:NB l=l:=Mn (by omega);rw[e];exact⟨_,x1v _,rfl,rfl⟩
 refine LoopK.inv QK (fun k:Nat=>⟨[(0,.hd 1000 0 l.length),(1,.p (.fn 231 [])),(5,.p (.int .i64 k))],[(1000,.own 232 3 (avS l))]⟩)
  (fun k=>1<=k/\k<=l.length/\∃a,l[k-1]?=some a/\l.take k++XW a (l.drop k)=NB l) (fun k=>l.length-k) 1 (Le.of_eq rfl) ⟨x0o _,by omega,?_⟩ ?_
 .cases l with
  |nil=>simp at*
  |cons a r=>exact⟨a,rfl,rfl⟩
 rintro k ⟨J,K,a,u,s⟩;rcases x0t k l.length with t|t;rotate_left 1
 .rw [x1q t,x1w t]at s;conv=>whnf
  repeat' (first|(refine iM fun _=>?_;conv=>whnf)|(apply bD<;>intro _<;>first|omega|conv=>whnf))
  rw[<-s,XW,x2v];exact⟨_,x1v _,rfl,rfl⟩
 rw[x1c t,XW]at s;have c:k-1<l.length:=by omega
 obtain⟨_,b⟩:=x0m.1 u;have w:(avS l)[k]?=some (.agg l[k].cells):=by simp[avS,t]
 have j:(avS l)[k-1]?=some (.agg a.cells):=by simp[avS,u]
 conv=>whnf
 repeat' (first|((first|(refine iM fun _=>?_)|refine cP (Uy _ _) ?_|refine dA ?_|refine x0h rfl ?_|refine wI ?_|refine x1i k (by omega) (by omega) ?_|refine x1i (k-1) (by omega) (by omega) ?_|refine x2t k 0 (.agg l[k].cells) (by omega) w ?_|refine x2t (k-1) 0 (.agg a.cells) (by omega) j ?_|refine SlK.mk k l.length rfl rfl (by omega) (by omega) ?_);conv=>whnf)|(apply bD<;>intro _<;>first|omega|conv=>whnf)|(apply bB<;>intro _<;>conv=>whnf))
 rotate_left 1
 .have h:ZU l[k] a=false:=by assumption
  rw[h,x1g]at s;exact⟨k+1,⟨by omega,by omega,l[k],by simp[t],by rw[<-s,x0a t,x1k];rfl⟩,by omega,Le.of_eq rfl⟩
 have h:ZU l[k] a=true:=by assumption
 rw[h,x1u]at s;clear u b w j c h;refine LoopK.inv QK (fun x:Nat×Nat×List Step=>⟨[(0,.hd 1000 0 l.length),(1,.p (.fn 231 [])),(5,.p (.int .i64 x.2.1)),(6,.hd 1000 (0+k) (l.length-k)),(7,.p (.int .i64 x.1))],[(1000,.own 232 3 (avS x.2.2))]⟩)
  (fun x=>1<=x.1/\x.1<=l.length-k/\x.2.1<=k+x.1-1/\x.2.2.length=l.length/\x.2.2.drop (k+x.1-1)=l.drop (k+x.1-1)/\∃a,l[k+x.1-1]?=some a/\x.2.2.take x.2.1++XW a (l.drop (k+x.1))=NB l) (fun x=>l.length-k-x.1) (1,k,l) (Le.of_eq rfl) ⟨x0o _,by simp only;omega,by simp only;omega,rfl,rfl,l[k],by simp[t],s⟩ ?_
 rintro⟨q,i,es⟩ ⟨B,C,D,y,v,a,u,n⟩;clear s;simp only at B C D y v u n⊢;have E:(avS es).length=l.length:=by simp[avS,y]
 rcases x0t q (l.length-k)with I|I
 .have o:k+q<l.length:=by omega
  have f:es[k+q]?=l[k+q]?:=by
   have:=x2o (fun x=>x[1]?) v;simp only[x2g]at this
   rwa[show k+q-1+1=k+q by omega]at this
  have e2:es[k+q-1]?=some a:=by
   have:=x2o (fun x=>x[0]?) v;simp only[x2g,x5t]at this;rw[this,u]
  rw[x0u o]at f;have w:(avS es)[k+q]?=some (.agg l[k+q].cells):=by simp[avS,f]
  have j:(avS es)[k+q-1]?=some (.agg a.cells):=by simp[avS,e2]
  have F:i<es.length:=by omega
  have A:(avS es)[i]?=some (.agg es[i].cells):=by simp[avS,F]
  rw[x1c o,XW]at n;conv=>whnf
  repeat' (first|((first|(refine iM fun _=>?_)|refine cP (Uy _ _) ?_|refine dA ?_|refine x0h rfl ?_|refine wI ?_|refine x1i q (by omega) (by omega) ?_|refine x1i (q-1) (by omega) (by omega) ?_|refine x1i i (by omega) (by omega) ?_|refine x2t (k+q) 0 (.agg l[k+q].cells) (by omega) w ?_|refine x2t (k+q-1) 0 (.agg a.cells) (by omega) j ?_|refine x3p i 0 (.agg es[i].cells) (.agg l[k+q].cells) (by omega) A (show 3<=3 from x0o 3) rfl ?_);conv=>whnf)|(apply bD<;>intro _<;>first|omega|conv=>whnf)|(apply bN<;>intro _<;>conv=>whnf))
  .have h:ZU l[k+q] a=true:=by assumption
   rw[h,x1u]at n;exact⟨(q+1,i,es),⟨by simp only;omega,by simp only;omega,by simp only;omega,y,by
    have:=x2o (List.drop 1) v;simp only[List.drop_drop]at this;simpa only[show k+(q+1)-1=k+q-1+1 by omega]using this,l[k+q],by simp[o],n⟩,by simp only;omega,Le.of_eq rfl⟩
  .have h:ZU l[k+q] a=false:=by assumption
   rw[h,x1g]at n;have z:(es.set i l[k+q]).drop (k+q)=l.drop (k+q):=by
    rw[List.drop_set_of_lt (by omega)];have:=x2o (List.drop 1) v;simp only[List.drop_drop]at this
    rwa[show k+q-1+1=k+q by omega]at this
   exact⟨(q+1,i+1,es.set i l[k+q]),⟨by simp only;omega,by simp only;omega,by simp only;omega,by simp only[x3g];exact y,z,l[k+q],by simp[o],by
    simp only;rw[<-n,x0a (by simp;omega),List.take_set_of_le (by omega),List.getElem_set_self,x1k];rfl⟩,by simp only;omega,Le.of_eq (by simp only[avS,x2y];rfl)⟩
 .have d:k+q=l.length:=by omega
  rw[d,List.drop_length,XW,x2v]at n;conv=>whnf
  repeat' (first|((first|(refine iM fun _=>?_)|refine x0h rfl ?_|refine SlK.mk i l.length rfl rfl (by omega) (by omega) ?_);conv=>whnf)|(apply bD<;>intro _<;>first|omega|conv=>whnf))
  refine OpK.clear QK rfl rfl rfl rfl rfl rfl rfl (by kernel_rfl) (by decide) ?_;conv=>whnf
  repeat' ((first|refine x0h rfl ?_|refine SlK.mk 0 i rfl rfl (by omega) (by omega) ?_);conv=>whnf)
  have G:i=(NB l).length:=by rw[<-n];simp;omega
  exact⟨_,x5n (by rw[<-G];rfl),rfl,by rw[x3v,<-n];simp[avS,List.map_take]⟩
def WC(l:List Step):List Step:=NB (YB l)
def Pq(l:List Step)(i:∀s∈l,okSt s)(h:l.length<=1000000000):
  SpecH prog 182 [.hd 1000 0 l.length] [(1000,.own 232 3 (avS l))] (fun r H=>r=.hd 1000 0 (WC l).length/\H=[(1000,.own 232 3 (avS (WC l)))]):=by
 refine sH Mx func182 rfl call182 ?_;conv=>whnf
 repeat' (first|(refine CallK.heap [(1000,1000)] 0 (by repeat' (first|exact x1m|refine x1x ?_ ?_|exact x1v _|exact x1d Sub.nils|exact x1d (Sub.tt rfl)|exact x1d (Sub.ff rfl)|exact x1d (Sub.int (by omega)))) (by refine x0e (j:=1000) rfl rfl ?_ ?_;exact CSub.refl _;exact x1l) (J0 l i h) rfl rfl ?_;rintro l' H' ⟨rfl,rfl⟩;conv=>whnf)|(refine CallK.heap [(1000,1000)] 0 (x1x (x5n (by rw[Z9];rfl)) (x1x (x1v _) x1m)) (by refine x0e (j:=1000) rfl rfl ?_ ?_;exact CSub.refl _;exact x1l) (Qd (YB l) (by rw[Z9];exact h)) rfl rfl ?_;rintro l' H' ⟨rfl,rfl⟩;conv=>whnf))
 exact⟨_,x1v _,rfl,rfl⟩
def goesI(i:Sheet)(f:Pr)(h:Item):List Int:=
 if h.s.kind=5 then [Ps h.s.F h.next,Ps h.s.L h.next]
 else if h.s.kind=6 then [Ps h.s.F h.s.id,h.next]
 else if h.s.kind=7 then [((i.l[(h.loop-1).toNat]?).map Item.next).getD 0]
 else if h.s.kind=8 then [h.loop]
 else if h.s.kind=9 then [-1]
 else if h.s.kind=10 then [(atB f h.s.name).1]
 else [h.next]
def Kh(l:List S)(o:Int):SpecP prog 270 [eSs l,.int .i64 o] (fun r=>r=.int .i64 (Ps l o)):=by
 unfold eSs;rw[S.avs_eq];exact Cy l o
def Uu(p:Pg)(j:Nat)(f:Pr)(x:p.A[j]?=some f)(w:cntP p.A<=1000)(k:Item)(y:k.C=j)(t:k.s.kind=7->1<=k.loop/\k.loop<=(sheetOf p).l.length):SpecP prog 215 [.ip (sheetOf p).cells,.agg k.cells] (fun r=>r=QI (goesI (sheetOf p) f k)):=by
 refine sB X3 func215 rfl call215 ?_;conv=>whnf
 have v:=(QJ p).2.2.2.1;have z:k.s.kind=7->∃u,(sheetOf p).l[(k.loop-1).toNat]?=some u/\((sheetOf p).l.map fun i=>AV.agg i.cells)[(k.loop-1).toNat]?=some (.agg u.cells):=fun h=>by
  have:=t h;have n:(k.loop-1).toNat<(sheetOf p).l.length:=by omega
  exact⟨_,x0u n,by rw[x0d,x0u n];rfl⟩
 repeat' (first|((first|refine dA ?_|refine x0h rfl ?_|refine aD ?_|refine bP ?_|refine wI ?_|(refine CallK.pure (LC p j f x w k.s.name) (.cons (Sub.refl _) (.cons (Sub.int y) (.cons (Sub.refl _) .nil))) ?_;rintro _ rfl)|refine BsK.pureL rfl rfl ?_|refine cP (Kh k.s.F _) ?_|refine cP (Kh k.s.L _) ?_|(obtain⟨u,o,q⟩:=z (by assumption);refine IdxK.at (by have:=t (by assumption);omega) q rfl ?_));conv=>whnf)|(apply bD<;>intro _<;>first|omega|conv=>whnf))
 all_goals first
  |exact RetK.p (by unfold goesI;rw[if_neg (by assumption),if_neg (by assumption),if_pos (by assumption),o];rfl)
  |exact RetK.p (by unfold goesI;rw[if_pos (by assumption)];rfl)
  |exact RetK.p (by unfold goesI;rw[if_neg (by assumption),if_pos (by assumption)];rfl)
  |exact RetK.p (by unfold goesI;rw[if_neg (by assumption),if_neg (by assumption),if_neg (by assumption),if_pos (by assumption)];rfl)
  |exact RetK.p (by unfold goesI;rw[if_neg (by assumption),if_neg (by assumption),if_neg (by assumption),if_neg (by assumption),if_pos (by assumption)];rfl)
  |exact RetK.p (by unfold goesI;rw[if_neg (by assumption),if_neg (by assumption),if_neg (by assumption),if_neg (by assumption),if_neg (by assumption),if_pos (by assumption)];rfl)
  |exact RetK.p (by unfold goesI;rw[if_neg (by assumption),if_neg (by assumption),if_neg (by assumption),if_neg (by assumption),if_neg (by assumption),if_neg (by assumption)];rfl)
def QP(p:Pg)(j:Nat)(f:Pr):List Step:=
 ⟨0,if QR p.A j<QR p.A j+QW f.body then((QR p.A j:Nat)+1:Int)else -1,1⟩::(itL j 0 (-1) 0 (QR p.A j) f.body).flatMap fun h=>(goesI (sheetOf p) f h).map (Step.mk h.s.id · 1)
def itsOf(p:Pg)(j:Nat)(f:Pr):List Item:=itL j 0 (-1) 0 (QR p.A j) f.body
def Wt(p:Pg)(j:Nat)(f:Pr)(B:p.A[j]?=some f)(H:cntP p.A<=1000)(J:∀k∈itsOf p j f,k.s.kind=7->1<=k.loop/\k.loop<=(sheetOf p).l.length)(a:∀s∈QP p j f,okSt s):SpecP prog 158 [.ip (sheetOf p).cells,.int .i64 j] (fun r=>r=eSteps (WC (QP p j f))):=by
 refine sB MM func158 rfl call158 ?_;conv=>whnf
 obtain⟨_,_,_,K,F⟩:=QJ p;obtain⟨D,e,V,_⟩:=F j f B;repeat' ((first|(refine iM fun _=>?_)|refine x0h rfl ?_|refine aD ?_|refine cP (Wl (sheetOf p) j _ _ D e) ?_|refine cP (Ti p B H) ?_|refine x6n (fun x G=>by rcases x0b.1 G with rfl;rfl) rfl ?_);conv=>whnf)
 have u:QP p j f=⟨0,if QR p.A j<QR p.A j+QW f.body then((QR p.A j:Nat)+1:Int)else -1,1⟩::(itsOf p j f).flatMap fun k=>(goesI (sheetOf p) f k).map (Step.mk k.s.id · 1):=rfl;have t:itL j 0 (-1) 0 (QR p.A j) f.body=itsOf p j f:=rfl;have b:∀k∈itsOf p j f,k.C=j:=fun k h=>BK _ _ _ _ _ _ k h;have g:(itsOf p j f).length<=1000:=by rw[<-t,ZH];omega
 rw[t];generalize itsOf p j f=its at J u b g⊢;have U:=VU its;refine LoopK.inv QK (fun i:Nat×List Step=>⟨[(0,.p (.ip (sheetOf p).cells)),(5,.hd 0 0 i.2.length),(17,.p (VC its)),(18,.p (.int .i64 (its.map fun i=>AV.agg i.cells).length)),(19,.p (.int .i64 i.1))],[(0,.own 232 3 (avS i.2))]⟩)
  (fun i=>i.1<=its.length/\i.2.length<=1+2*i.1/\i.2++(its.drop i.1).flatMap (fun k=>(goesI (sheetOf p) f k).map (Step.mk k.s.id · 1))=QP p j f) (fun i=>its.length-i.1) (0,[⟨0,if QR p.A j<QR p.A j+QW f.body then((QR p.A j:Nat)+1:Int)else -1,1⟩]) (Le.of_eq rfl) ⟨x0l _,by simp,by rw[u];rfl⟩ ?_
 rintro⟨m,o⟩ ⟨L,M,v⟩;simp only at L M v⊢;rcases x0t m its.length with c|c;rotate_left 1
 .have y:o=QP p j f:=by
   rw[x1q c]at v;simpa using v
  rw[<-y]at a⊢;conv=>whnf
  repeat' (first|(apply bD<;>intro _<;>first|omega|conv=>whnf)|(refine CallK.heap [(1000,0)] 0 (by repeat' (first|exact x1m|refine x1x ?_ ?_|exact x1v _|exact x1d Sub.nils|exact x1d (Sub.tt rfl)|exact x1d (Sub.ff rfl)|exact x1d (Sub.int (by omega)))) (by refine x0e (j:=0) rfl rfl ?_ ?_;exact CSub.refl _;exact x1l) (Pq o a (by omega)) rfl rfl ?_;rintro l' H' ⟨rfl,rfl⟩;conv=>whnf))
  exact⟨_,.hd rfl (by simp[avS]),rfl⟩
 have d:(goesI (sheetOf p) f its[m]).length<=2:=by unfold goesI;split<;>(try split)<;>(try split)<;>(try split)<;>(try split)<;>(try split)<;>simp
 rw[JE c]at v;have z:=x0s c;conv=>whnf
 repeat' (first|((first|(refine iM fun _=>?_)|refine x0h rfl ?_|(refine iA fun _=>?_)|refine cP (Uu p j f B H its[m] (b _ z) (J _ z)) ?_);conv=>whnf)|(apply bD<;>intro _<;>first|omega|conv=>whnf))
 generalize R:goesI (sheetOf p) f its[m]=gs at d v⊢;have I:(gs.map (AV.int .i64)).length=gs.length:=x0j _;refine LoopK.inv QK (fun i:Nat×List Step=>⟨[(0,.p (.ip (sheetOf p).cells)),(5,.hd 0 0 i.2.length),(7,.p (.ip its[m].cells)),(17,.p (VC its)),(18,.p (.int .i64 (its.map fun i=>AV.agg i.cells).length)),(19,.p (.int .i64 m)),(25,.p (QI gs)),(26,.p (.int .i64 (gs.map (AV.int .i64)).length)),(27,.p (.int .i64 i.1))],[(0,.own 232 3 (avS i.2))]⟩)
  (fun i=>i.1<=gs.length/\i.2.length<=o.length+i.1/\i.2++((gs.drop i.1).map (Step.mk its[m].s.id · 1)++(its.drop (m+1)).flatMap (fun k=>(goesI (sheetOf p) f k).map (Step.mk k.s.id · 1)))=QP p j f) (fun i=>gs.length-i.1) (0,o) (Le.of_eq rfl) ⟨x0l _,by simp,v⟩ ?_
 rintro⟨q,n⟩ ⟨O,Q,w⟩;simp only at O Q w⊢;rcases x0t q gs.length with E|E;rotate_left 1
 .rw [x1q E]at w;conv=>whnf
  repeat' (first|(refine wI ?_;conv=>whnf)|(apply bD<;>intro _<;>first|omega|conv=>whnf))
  exact⟨(m+1,n),⟨by simp only;omega,by simp only;omega,by simpa using w⟩,by simp only;omega,Le.of_eq rfl⟩
 rw[x1c E,x1j]at w;conv=>whnf
 repeat' (first|((first|refine x0h rfl ?_|refine aD ?_|refine bP ?_|(refine iA fun _=>?_)|refine wI ?_|refine x4n (by simp[avS]) rfl (by show(n.length+1)*24<=140737488355328;omega) (by show n.length+1<=9223372036854775807;omega) (fun x G=>by rcases x0b.1 G with rfl;exact⟨rfl,rfl⟩) ?_);conv=>whnf)|(apply bD<;>intro _<;>first|omega|conv=>whnf))
 exact⟨(q+1,n++[⟨its[m].s.id,gs[q],1⟩]),⟨by simp only;omega,by simp;omega,by simpa using w⟩,by simp only;omega,Le.of_eq (by simp only[avS,x0g,x0c];rfl)⟩
def bv:Bool->AV
 |true=>.tt
 |false=>.ff
structure Way where
 p:Pg
 j:Nat
 n:Int
 real:List Step
 live:List Bool
def Way.cells(w:Way):List AV:=[.ip (sheetOf w.p).cells,.int .i64 w.j,.int .i64 w.n,eSteps w.real,.sl (w.live.map bv)]
def Om(p:Pg)(j:Nat)(n:Int)(h:AV)(i:List AV):Heap:=[(1000,.obj 127 [.p (.ip (sheetOf p).cells),.p (.int .i64 j),.p (.int .i64 n),.p h,.hd 2000 0 i.length]),(2000,.own 4 1 i)]
def UJ(h i n x:Int):Int:=if x=0 then 0 else if x = -1 then n-1 else if h<=x/\x<i then x-h+1 else -1
def loI(p:Pg)(j:Nat):Int:=(QR p.A j:Nat)+1
def hiI(p:Pg)(j:Nat)(f:Pr):Int:=(QR p.A j+QW f.body:Nat)+1
def Qs(w:Way)(f:Pr)(o:w.p.A[w.j]?=some f)(s:cntP w.p.A<=1000)(t:0<=w.n/\w.n<=5000)(x:Int):SpecP prog 181 [.ip w.cells,.int .i64 x] (fun r=>r=.int .i64 (UJ (loI w.p w.j) (hiI w.p w.j f) w.n x)):=by
 refine sB FJ func181 rfl call181 ?_;conv=>whnf
 obtain⟨_,_,_,l,k⟩:=QJ w.p;obtain⟨i,h,q,_⟩:=k w.j f o;repeat' (first|((first|refine dA ?_|refine wI ?_|(refine IdxK.at rfl (VS i) rfl ?_)|(refine IdxK.at rfl (VS h) rfl ?_));conv=>whnf)|(apply bD<;>intro _<;>first|omega|conv=>whnf))
 all_goals exact RetK.int (by unfold UJ loI hiI;(repeat' split)<;>omega)
def Dd(p:Pg)(j:Nat)(f:Pr)(n:Int)(h:AV)(q:List AV)(s:p.A[j]?=some f)(u:cntP p.A<=1000)(v:0<=n/\n<=5000)(x:Int):
  SpecH prog 181 [.ptr 1000 0,.p (.int .i64 x)] (Om p j n h q) (fun r H=>r=.p (.int .i64 (UJ (loI p j) (hiI p j f) n x))/\H=Om p j n h q):=by
 obtain⟨_,_,_,o,l⟩:=QJ p;obtain⟨k,i,t,_⟩:=l j f s;refine sH FJ func181 rfl call181 ?_;conv=>whnf
 repeat' (first|((first|refine dA ?_|refine wI ?_|(refine IdxK.at rfl (VS k) rfl ?_)|(refine IdxK.at rfl (VS i) rfl ?_));conv=>whnf)|(apply bD<;>intro _<;>first|omega|conv=>whnf))
 all_goals exact⟨_,x1d (Sub.int (by unfold UJ loI hiI;(repeat' split)<;>omega)),rfl,rfl⟩
def avP(l:List (Int×Int)):List AV:=l.map fun x=>.agg [.int .i64 x.1,.int .i64 x.2]
def ixP(p:Pg)(j:Nat)(f:Pr)(n:Int)(s:Step):Int×Int:=(UJ (loI p j) (hiI p j f) n s.src,UJ (loI p j) (hiI p j f) n s.dst)
def YR(w:Way)(f:Pr)(y:w.p.A[w.j]?=some f)(v:cntP w.p.A<=1000)(z:0<=w.n/\w.n<=5000)(l:List Step)(t:l.length<=1000000):SpecP prog 110 [.ip w.cells,eSteps l] (fun r=>r=.sl (avP (l.map (ixP w.p w.j f w.n)))):=by
 refine sB FK func110 rfl call110 ?_;conv=>whnf
 repeat' (refine iM fun _=>?_;conv=>whnf)
 have b:(l.map fun s=>AV.agg s.cells).length=l.length:=x0j _;refine LoopK.inv QK (fun i:Nat×List (Int×Int)=>⟨[(0,.p (.ip w.cells)),(5,.hd 0 0 i.2.length),(8,.p (eSteps l)),(9,.p (.int .i64 (l.map fun s=>AV.agg s.cells).length)),(10,.p (.int .i64 i.1))],[(0,.own 233 2 (avP i.2))]⟩)
  (fun i=>i.1<=l.length/\i.2=(l.take i.1).map (ixP w.p w.j f w.n)) (fun i=>l.length-i.1) (0,[])
  (Le.mk [(0,.own 233 2 [])] (by simp[Chunk.new0];rfl) (by simp) (by simp) (.r (.cons (.nil x0k) (.r (.r (.r .nil))))) (.new x0k .nil))
  ⟨x0l _,rfl⟩ ?_
 rintro⟨m,h⟩ ⟨u,k⟩;simp only at u k⊢;rcases x0t m l.length with o|o;rotate_left 1
 .rw [x1w o]at k;subst k;conv=>whnf
  repeat' (apply bD<;>intro _<;>first|omega|conv=>whnf)
  exact⟨_,.hd rfl (by simp[avP]),rfl⟩
 have q:h.length=m:=by rw[k];simp;omega
 conv=>whnf
 repeat' (first|((first|refine dA ?_|refine x0h rfl ?_|refine aD ?_|refine bP ?_|(refine iA fun _=>?_)|refine wI ?_|refine cP (Qs w f y v z _) ?_|refine x4n (by simp[avP]) rfl (by show(h.length+1)*16<=140737488355328;omega) (by show h.length+1<=9223372036854775807;omega) (fun x a=>by rcases x0b.1 a with rfl;exact⟨rfl,rfl⟩) ?_);conv=>whnf)|(apply bD<;>intro _<;>first|omega|conv=>whnf))
 exact⟨(m+1,h++[ixP w.p w.j f w.n l[m]]),⟨by simp only;omega,by simp only;rw[k,x0a o,x0c];rfl⟩,by simp only;omega,Le.of_eq (by simp only[avP,x0g,x0c];rfl)⟩
def Zt{P:Program}{f:FuncId}{args:List LV}{H n:Heap}{e:TypeId}{sz:Nat}{Q:List AV->Prop}(a:Qy 0 n fun H=>H=n)(h:SpecH P f args H (fun r H'=>∃es,r=.hd 0 0 es.length/\H'=(0,.own e sz es)::n/\Q es)):SpecH P f args H (fun r H'=>∃es,r=.p (.sl es)/\H'=n/\Q es):=by
 refine⟨h.go,fun σ β w b F G I=>(h.ok σ β w b F G I).mono fun O w' M=>?_⟩;obtain⟨l,u,σ',β',H',L,⟨es,rfl,rfl,J⟩,z,y,t⟩:=M;obtain⟨s',rfl,C⟩:=Le.row (N:=1) (s:=⟨[(0,.hd 0 0 es.length)],(0,.own e sz es)::n⟩) (k:=0) (e:=e) (sz:=sz) (es:=es) (zs:=[0]) rfl (K:=fun s=>s=⟨[(0,.p (.sl es))],n⟩) (by
  show LenK es.length es _;refine⟨rfl,?_⟩;show Qy 0 n fun H=>(⟨[(0,.p (.sl es))],H⟩:St)=⟨[(0,.p (.sl es))],n⟩;have key:∀{d:Heap}{K g:Heap->Prop},(∀H,K H->g H)->Qy 0 d K->Qy 0 d g:=fun {d}=>by
   induction d with
   |nil=>intro K g q h;exact q _ h
   | cons x r A=>
     intro K g q h;obtain⟨j,c⟩:=x;simp only[Qy]at h⊢;cases D:j==0 with
     | true=>
       simp only[D,x1u]at h⊢;exact A q h
     | false=>
       simp only[D,x1g]at h⊢;cases c with
       |obj e ls=>simp only[WT]at h⊢;exact A (fun H o=>q _ o) h
       |own e sz es=>exact A (fun H o=>q _ o) h
       |ext x=>exact A (fun H o=>q _ o) h
  exact key (fun H o=>by rw[o]) a)
 obtain⟨σ2,β2,v,B⟩:=C σ' β' {tmps:=#[u],defers:=[]} w' ⟨rfl,rfl,fun i=>by
  match i with
  |0=>simpa[getS]using z
  |i+1=>exact .p (by simpa[getS]using Rep.any _),y⟩
 exact⟨.p (.sl es),u,σ2,β2,n,L,⟨es,rfl,rfl,J⟩,by simpa[getS]using v.E 0,v.heap,t.trans B⟩
def Db(p:Pg)(j:Nat)(f:Pr)(n:Int)(h:AV)(q:List AV)(z:p.A[j]?=some f)(y:cntP p.A<=1000)(a:0<=n/\n<=5000)(l:List Step)(v:l.length<=1000000):
  SpecH prog 110 [.ptr 1000 0,.p (eSteps l)] (Om p j n h q) (fun r H=>∃es,r=.p (.sl es)/\H=Om p j n h q/\es=avP (l.map (ixP p j f n))):=by
 refine Zt (e:=233) (sz:=2) rfl ?_;refine sH FK func110 rfl call110 ?_;conv=>whnf
 repeat' (refine iM fun _=>?_;conv=>whnf)
 have c:(l.map fun s=>AV.agg s.cells).length=l.length:=x0j _;refine LoopK.inv QK (fun i:Nat×List (Int×Int)=>⟨[(0,.ptr 1000 0),(5,.hd 0 0 i.2.length),(8,.p (eSteps l)),(9,.p (.int .i64 (l.map fun s=>AV.agg s.cells).length)),(10,.p (.int .i64 i.1))],(0,.own 233 2 (avP i.2))::Om p j n h q⟩)
  (fun i=>i.1<=l.length/\i.2=(l.take i.1).map (ixP p j f n)) (fun i=>l.length-i.1) (0,[])
  (Le.mk [(0,.own 233 2 [])] (by simp[Chunk.new0];rfl) (by simp) (by simp[Om]) (.r (.cons (.nil x0k) (.r (.r (.r .nil))))) (.new x0k (.cons rfl (.refl _) (.cons rfl (.refl _) .nil))))
  ⟨x0l _,rfl⟩ ?_
 rintro⟨m,k⟩ ⟨w,o⟩;simp only at w o⊢;rcases x0t m l.length with t|t;rotate_left 1
 .rw [x1w t]at o;subst o;conv=>whnf
  repeat' (apply bD<;>intro _<;>first|omega|conv=>whnf)
  exact⟨_,x1v _,avP (l.map (ixP p j f n)),by simp[avP],rfl,rfl⟩
 have u:k.length=m:=by rw[o];simp;omega
 conv=>whnf
 repeat' (first|((first|refine dA ?_|refine x0h rfl ?_|refine aD ?_|refine bP ?_|(refine iA fun _=>?_)|refine wI ?_|refine x4n (by simp[avP]) rfl (by show(k.length+1)*16<=140737488355328;omega) (by show k.length+1<=9223372036854775807;omega) (fun x b=>by rcases x0b.1 b with rfl;exact⟨rfl,rfl⟩) ?_);conv=>whnf)|(apply bD<;>intro _<;>first|omega|conv=>whnf)|(refine CallK.heap [(1000,1000),(2000,2000)] 0 (by repeat' (first|exact x1m|refine x1x ?_ ?_|exact x1v _|exact x1d Sub.nils|exact x1d (Sub.tt rfl)|exact x1d (Sub.ff rfl)|exact x1d (Sub.int (by omega)))) (by refine x0e (j:=1000) rfl rfl ?_ ?_;exact CSub.refl _;refine x0e (j:=2000) rfl rfl ?_ ?_;exact CSub.refl _;exact x1l) (Dd p j f n h q z y a _) rfl rfl ?_;rintro l' H' ⟨rfl,rfl⟩;conv=>whnf))
 exact⟨(m+1,k++[ixP p j f n l[m]]),⟨by simp only;omega,by simp only;rw[o,x0a t,x0c];rfl⟩,by simp only;omega,Le.mk [] (by simp) (by simp) (by simp[Om]) (.r (.cons (.of_eq (by simp only[x0g];rfl)) (.r (.r (.cons (.of_eq rfl) .nil))))) (.cons rfl (.of_eq (by simp only[avP,x0c];rfl)) (.cons rfl (.refl _) (.cons rfl (.refl _) .nil)))⟩
def L1{l:List Int}{x:Int}(h:l.Pairwise (· <= ·)):(W7 l (l.countP (· < x)) x).Pairwise (· <= ·):=by
 induction l with
 |nil=>simp[W7]
 | cons a r p=>
   obtain⟨j,o⟩:=x3e.1 h;by_cases k:a<x
   .have e:W7 (a::r) ((a::r).countP (· < x)) x=a::W7 r (r.countP (· < x)) x:=by
     unfold W7;rw[List.countP_cons_of_pos (by simpa using k)];rfl
    rw[e,x3e];refine⟨fun b i=>?_,p o⟩;unfold W7 at i;rcases x0r.1 i with i|i
    .exact j b (x6c i)
    .rcases x0p.1 i with rfl|i
     .omega
     .exact j b (List.mem_of_mem_drop i)
   .have n:(a::r).countP (· < x)=0:=by
     rw[List.countP_eq_zero];intro b i;rcases x0p.1 i with rfl|i
     .simpa using k
     .have:=j b i;simp;omega
    rw[n];show(x::a::r).Pairwise (· <= ·);refine x3e.2 ⟨fun b i=>?_,h⟩;rcases x0p.1 i with rfl|i
    .omega
    .have:=j b i;omega
def Us(n m:Nat)(N:List (List Int)):Prop:=N.length=n/\∀r∈N,r.Pairwise (· <= ·)/\r.length<=m
def Pb{n:Nat}{N:List (List Int)}(h:Us n m N)(a:Nat)(b:Int):Us n (m+1) (Gk N a b):=by
 unfold Gk;refine⟨by rw[x3g];exact h.1,fun r k=>?_⟩;rcases x4j k with k|rfl
 .obtain ⟨j,l⟩:=h.2 r k;exact⟨j,by omega⟩
 .rcases x0t a N.length with i|i
  .have o:N.getD a []∈N:=by
    rw[x0y,x0u i];exact x0s i
   obtain⟨j,l⟩:=h.2 _ o;exact⟨L1 j,by rw[V9 x6m];omega⟩
  .have:N.getD a []=[]:=by simp[x2f i]
   rw[this];exact⟨by simp[W7],by simp[W7]⟩
def Kl{n j:Nat}{N:List (List Int)}(h:Us n m N)(k:m<=j):Us n j N:=⟨h.1,fun r i=>⟨(h.2 r i).1,x1t (h.2 r i).2 k⟩⟩
def Dc(n:Nat)(g:List (List Int)×List (List Int))(e:Int×Int):List (List Int)×List (List Int):=
 bif ZK n e.1&&ZK n e.2 && !(g.1.getD e.1.toNat []).contains e.2 then(Gk g.1 e.1.toNat e.2,Gk g.2 e.2.toNat e.1)else g
def QS(n:Nat)(l:List (Int×Int)):List (List Int)×List (List Int):=l.foldl (Dc n) (List.replicate n [],List.replicate n [])
def eMat(m:List (List Int)):AV:=.sl ((avI m).map .sl)
def VV(g:List (List Int)×List (List Int)):AV:=.ip [eMat g.1,eMat g.2]
def Va(n:Nat)(g:List (List Int)×List (List Int))(e:Int×Int):(Dc n g e).1=bif ZK n e.1&&ZK n e.2 && !(g.1.getD e.1.toNat []).contains e.2 then Gk g.1 e.1.toNat e.2 else g.1:=by
 unfold Dc;cases ZK n e.1&&ZK n e.2 && !(g.1.getD e.1.toNat []).contains e.2<;>rfl
def K4(n:Nat)(g:List (List Int)×List (List Int))(e:Int×Int):(Dc n g e).2=bif ZK n e.1&&ZK n e.2 && !(g.1.getD e.1.toNat []).contains e.2 then Gk g.2 e.2.toNat e.1 else g.2:=by
 unfold Dc;cases ZK n e.1&&ZK n e.2 && !(g.1.getD e.1.toNat []).contains e.2<;>rfl
def EU{n:Nat}{g:List (List Int)×List (List Int)}(h:Us n m g.1/\Us n m g.2)(e:Int×Int):Us n (m+1) (Dc n g e).1/\Us n (m+1) (Dc n g e).2:=by
 rw[Va,K4];cases ZK n e.1&&ZK n e.2 && !(g.1.getD e.1.toNat []).contains e.2
 .exact ⟨Kl h.1 (by omega),Kl h.2 (by omega)⟩
 .exact ⟨Pb h.1 _ _,Pb h.2 _ _⟩
def NC{n:Nat}{l:List (Int×Int)}(h:m<l.length):QS n (l.take (m+1))=Dc n (QS n (l.take m)) l[m]:=by
 unfold QS;rw[x0a h,x5e];rfl
theorem BY{n:Nat}{l:List (Int×Int)}:∀{m:Nat},m<=l.length->Us n m (QS n (l.take m)).1/\Us n m (QS n (l.take m)).2
 | 0,_=>by
   have:Us n 0 (List.replicate n []):=⟨by simp,fun r i=>by rw[x3r i];simp⟩;exact⟨this,this⟩
 | m+1,h=>by
   rw[NC h];exact EU (BY (by omega)) _
def Gx{h:Nat}{sl:List (Nat×LV)}(n a b:Nat)(k:(sl.all fun x=>x.2.xfree 0)=true)(l:(sl.all fun x=>x.2.xfree 1)=true):
  Le h ⟨sl,[(2,.obj 256 [.hd a 0 n,.hd b 0 n]),(1,.own 54 1 (List.replicate n .nils)),(0,.own 54 1 (List.replicate n .nils))]⟩
   ⟨sl,[(2,.obj 256 [.hd a 0 n,.hd b 0 n]),(1,.ext (.mat 54 3 1 (List.replicate n []) [])),(0,.ext (.mat 54 3 1 (List.replicate n []) []))]⟩:=by
 have o:=LU (N:=h) (sl:=sl) (H:=[(2,.obj 256 [.hd a 0 n,.hd b 0 n]),(1,.own 54 1 (List.replicate n .nils)),(0,.own 54 1 (List.replicate n .nils))])
  (H':=[(2,.obj 256 [.hd a 0 n,.hd b 0 n]),(1,.own 54 1 (List.replicate n .nils)),(0,.ext (.mat 54 3 1 (List.replicate (List.replicate n AV.nils).length []) []))])
  0 3 1 (e:=54) (es:=List.replicate n .nils) rfl (fun x j=>x3r j) rfl k rfl rfl (by simp[GJ])
 have i:=LU (N:=h) (sl:=sl) (H:=[(2,.obj 256 [.hd a 0 n,.hd b 0 n]),(1,.own 54 1 (List.replicate n .nils)),(0,.ext (.mat 54 3 1 (List.replicate (List.replicate n AV.nils).length []) []))])
  (H':=[(2,.obj 256 [.hd a 0 n,.hd b 0 n]),(1,.ext (.mat 54 3 1 (List.replicate (List.replicate n AV.nils).length []) [])),(0,.ext (.mat 54 3 1 (List.replicate (List.replicate n AV.nils).length []) []))])
  1 3 1 (e:=54) (es:=List.replicate n .nils) rfl (fun x j=>x3r j) rfl l rfl rfl (by simp[GJ])
 have:=o.trans i;simpa using this
def Ua(n:Nat)(y:n<=5000)(l:List (Int×Int))(w:l.length<=1000000):SpecP prog 216 [.int .i64 n,.sl (avP l)] (fun r=>r=VV (QS n l)):=by
 refine sB Mv func216 rfl call216 ?_;conv=>whnf
 repeat' (first|((first|(refine iM fun _=>?_)|refine dA ?_|refine x0h rfl ?_|refine aR ?_|refine x5r n rfl (by show 24*n<=140737488355328;omega) (by unfold maxLen;omega) ?_);conv=>whnf)|(apply bD<;>intro _<;>first|omega|conv=>whnf)|(refine x0h ?_ ?_<;>conv=>whnf))
 all_goals have z:(avP l).length=l.length:=x0j _
 .refine LoopK.inv QK (fun m:Nat=>⟨[(5,.ptr (0+1+1) 0),(20,.p (.sl (avP l))),(21,.p (.int .i64 (avP l).length)),(22,.p (.int .i64 m))],[(0+1+1,.obj 256 [.hd 0 0 n,.hd (0+1) 0 n]),(0,.ext (.mat 54 3 1 (avI (QS n (l.take m)).1) [])),(0+1,.ext (.mat 54 3 1 (avI (QS n (l.take m)).2) []))]⟩)
   (fun m=>m<=l.length) (fun m=>l.length-m) 0 (by
     refine Le.trans (Gx n _ _ rfl rfl) ?_;exact Le.mk [] (by simp) (by simp) (by simp) (.r (.r (.r (.r .nil)))) (.cons rfl (.refl _) (.cons rfl (.of_eq (by simp[avI,QS])) (.cons rfl (.of_eq (by simp[avI,QS])) .nil)))) (x0l _) ?_
  rintro m v;obtain⟨g1,h⟩:=BY (n:=n) v;rcases x0t m l.length with q|q
  .have u:(avP l)[m]?=some (.agg [.int .i64 l[m].1,.int .i64 l[m].2]):=by simp[avP,q]
   conv=>whnf
   repeat' (first|((first|refine x0h rfl ?_|refine wI ?_|(refine IdxK.at rfl u rfl ?_)|refine x1i 0 rfl (by decide) ?_|refine x1i 1 rfl (by decide) ?_);conv=>whnf)|(apply bD<;>intro _<;>first|omega|conv=>whnf)|(refine CallK.heap [(1000,0+1+1),(2001,0),(2002,1)] 0 (by repeat' (first|exact x1m|refine x1x ?_ ?_|exact x1v _|exact x1d Sub.nils|exact x1d (Sub.tt rfl)|exact x1d (Sub.ff rfl)|exact x1d (Sub.int (by omega)))) (by refine x0e (j:=2) rfl rfl ?_ ?_;exact CSub.refl _;refine x0e (j:=0) rfl rfl ?_ ?_;exact CSub.refl _;refine x0e (j:=1) rfl rfl ?_ ?_;exact CSub.refl _;exact x1l) (Pp n _ _ l[m].1 l[m].2 g1.1 h.1 y (fun r s=>⟨(g1.2 r s).1,by have:=(g1.2 r s).2;omega⟩) (fun r s=>⟨(h.2 r s).1,by have:=(h.2 r s).2;omega⟩)) rfl rfl ?_;rintro l' H' ⟨t,rfl,rfl⟩;conv=>whnf))
   exact⟨m+1,q,by omega,Le.of_eq (by rw[NC q,Va,K4];rfl)⟩
  .rw [x1w q]at g1 h⊢;conv=>whnf
   repeat' (apply bD<;>intro _<;>first|omega|conv=>whnf)
   exact⟨_,.ptr (cs:=[eMat (QS n l).1,eMat (QS n l).2]) rfl rfl (fun i x c k o=>by
    match i,k,o with
    |0,k,o=>cases k;cases o;exact .mat rfl (by rw[avI,x0j,g1.1])
    |1,k,o=>cases k;cases o;exact .mat rfl (by rw[avI,x0j,h.1])),rfl⟩
 .refine LoopK.inv QK (fun m:Nat=>⟨[(5,.ptr (0+1+1) 0),(20,.p (.sl (avP l))),(21,.p (.int .i64 (avP l).length)),(22,.p (.int .i64 m))],[(0+1+1,.obj 256 [.hd (0+1) 0 n,.hd 0 0 n]),(0+1,.ext (.mat 54 3 1 (avI (QS n (l.take m)).1) [])),(0,.ext (.mat 54 3 1 (avI (QS n (l.take m)).2) []))]⟩)
   (fun m=>m<=l.length) (fun m=>l.length-m) 0 (by
     refine Le.trans (Gx n _ _ rfl rfl) ?_;exact Le.mk [] (by simp) (by simp) (by simp) (.r (.r (.r (.r .nil)))) (.cons rfl (.refl _) (.cons rfl (.of_eq (by simp[avI,QS])) (.cons rfl (.of_eq (by simp[avI,QS])) .nil)))) (x0l _) ?_
  rintro m v;obtain⟨g1,h⟩:=BY (n:=n) v;rcases x0t m l.length with q|q
  .have u:(avP l)[m]?=some (.agg [.int .i64 l[m].1,.int .i64 l[m].2]):=by simp[avP,q]
   conv=>whnf
   repeat' (first|((first|refine x0h rfl ?_|refine wI ?_|(refine IdxK.at rfl u rfl ?_)|refine x1i 0 rfl (by decide) ?_|refine x1i 1 rfl (by decide) ?_);conv=>whnf)|(apply bD<;>intro _<;>first|omega|conv=>whnf)|(refine CallK.heap [(1000,0+1+1),(2001,1),(2002,0)] 0 (by repeat' (first|exact x1m|refine x1x ?_ ?_|exact x1v _|exact x1d Sub.nils|exact x1d (Sub.tt rfl)|exact x1d (Sub.ff rfl)|exact x1d (Sub.int (by omega)))) (by refine x0e (j:=2) rfl rfl ?_ ?_;exact CSub.refl _;refine x0e (j:=1) rfl rfl ?_ ?_;exact CSub.refl _;refine x0e (j:=0) rfl rfl ?_ ?_;exact CSub.refl _;exact x1l) (Pp n _ _ l[m].1 l[m].2 g1.1 h.1 y (fun r s=>⟨(g1.2 r s).1,by have:=(g1.2 r s).2;omega⟩) (fun r s=>⟨(h.2 r s).1,by have:=(h.2 r s).2;omega⟩)) rfl rfl ?_;rintro l' H' ⟨t,rfl,rfl⟩;conv=>whnf))
   exact⟨m+1,q,by omega,Le.of_eq (by rw[NC q,Va,K4];rfl)⟩
  .rw [x1w q]at g1 h⊢;conv=>whnf
   repeat' (apply bD<;>intro _<;>first|omega|conv=>whnf)
   exact⟨_,.ptr (cs:=[eMat (QS n l).1,eMat (QS n l).2]) rfl rfl (fun i x c k o=>by
    match i,k,o with
    |0,k,o=>cases k;cases o;exact .mat rfl (by rw[avI,x0j,g1.1])
    |1,k,o=>cases k;cases o;exact .mat rfl (by rw[avI,x0j,h.1])),rfl⟩
def KU(st:List Bool×List Int)(b:Int):List Bool×List Int:=bif st.1.getD b.toNat false then st else(st.1.set b.toNat true,st.2++[b])
def ZZ(rows:List (List Int)):Nat->Nat->List Bool×List Int->List Bool×List Int
 |0,_,st=>st
 | k+1,i,st=>match st.2[i]?with
   |some a=>ZZ rows k (i+1) ((rows.getD a.toNat []).foldl KU st)
   |none=>st
def wkInv(n:Nat)(st:List Bool×List Int):Prop:=st.1.length=n/\st.2.length<=st.1.count true/\∀x∈st.2,0<=x/\x<n
def Qh{n:Nat}{st:List Bool×List Int}(h:wkInv n st){b:Int}(p:0<=b/\b<n):wkInv n (KU st b):=by
 unfold KU;obtain⟨k,o,l⟩:=h;have i:b.toNat<st.1.length:=by omega
 cases r:st.1.getD b.toNat false with
 |true=>exact⟨k,o,l⟩
 | false=>
   have q:st.1[b.toNat]=false:=by simpa[i]using r
   refine⟨by simpa using k,?_,fun x j=>?_⟩
   .simp only[x1g,x0g,x1h];rw[List.count_set i,q];simp;omega
   .rcases x0r.1 j with j|j
    .exact l x j
    .rw [x0b.1 j];exact p
def Ch{n:Nat}{l:List Int}:∀{st:List Bool×List Int},wkInv n st->(∀b∈l,0<=b/\b<n)->wkInv n (l.foldl KU st):=by
 induction l with
 |nil=>intro st h _;exact h
 |cons b r k=>intro st h i;exact k (Qh h (i b x0k)) fun c j=>i c (x0f _ j)
def DC{n:Nat}{st:List Bool×List Int}(h:wkInv n st):st.2.length<=n:=by
 refine x1t h.2.1 ?_;rw[<-h.1];exact List.count_le_length
def XK(n:Nat)(rows:List (List Int)):Prop:=rows.length=n/\∀r∈rows,∀b∈r,0<=b/\b<n
def Ed(st:List Bool×List Int):Heap:=[(1000,.own 4 1 (st.1.map bv)),(2000,.own 3 1 (st.2.map (.int .i64)))]
def Kt(n:Nat)(I:n<=5000)(rows:List (List Int))(B:XK n rows)(st:List Bool×List Int)(G:wkInv n st):
  SpecH prog 218 [.p (eMat rows),.hd 1000 0 n,.hd 2000 0 st.2.length] (Ed st) (fun r H=>r=.hd 2000 0 (ZZ rows (n+1) 0 st).2.length/\H=Ed (ZZ rows (n+1) 0 st)):=by
 refine sH B5 func218 rfl call218 ?_;conv=>whnf
 skip
 refine LoopK.inv QK (fun x:Nat×List Bool×List Int=>⟨[(0,.p (eMat rows)),(1,.hd 1000 0 n),(2,.hd 2000 0 x.2.2.length),(7,.p (.int .i64 x.1))],Ed x.2⟩)
  (fun x=>wkInv n x.2/\x.1<=x.2.2.length/\ZZ rows (n+1-x.1) x.1 x.2=ZZ rows (n+1) 0 st) (fun x=>n-x.1) (0,st) (Le.of_eq rfl) ⟨G,x0l _,rfl⟩ ?_
 rintro⟨i,seen,h⟩ ⟨a,C,k⟩;simp only at a C k⊢;have e:=DC a;simp only at e;rw[show n+1-i=n-i+1 by omega,ZZ]at k;rcases x0t i h.length with w|w;rotate_left 1
 .simp only[x2f w]at k;conv=>whnf
  repeat' (first|(refine iM fun _=>?_;conv=>whnf)|(apply bD<;>intro _<;>first|omega|conv=>whnf))
  exact⟨_,x5n (by rw[<-k]),rfl,by rw[<-k];rfl⟩
 simp only[x0u w]at k;have J:=a.2.2 _ (x0s w);have v:h[i].toNat<rows.length:=by rw[B.1];omega
 have z:((avI rows).map AV.sl)[h[i].toNat]?=some (.sl (rows[h[i].toNat].map (.int .i64))):=by simp[avI,v]
 have d:rows.getD h[i].toNat []=rows[h[i].toNat]:=by simp[v]
 rw[d]at k;have u:=B.2 _ (x0s v);conv=>whnf
 repeat' (first|((first|(refine iM fun _=>?_)|refine x0h rfl ?_|refine x1i i (by omega) (by omega) ?_|refine x2t i 0 (.int .i64 h[i]) (by omega) (by simp[w]) ?_|(refine IdxK.at (by omega) z rfl ?_));conv=>whnf)|(apply bD<;>intro _<;>first|omega|conv=>whnf))
 have f:(rows[h[i].toNat].map (AV.int .i64)).length<=9223372036854775807:=by assumption
 generalize rows[h[i].toNat]=row at u k f⊢;have F:(row.map (AV.int .i64)).length=row.length:=x0j _;refine LoopK.inv QK (fun x:Nat×List Bool×List Int=>⟨[(0,.p (eMat rows)),(1,.hd 1000 0 n),(2,.hd 2000 0 x.2.2.length),(7,.p (.int .i64 i)),(22,.p (.sl (row.map (.int .i64)))),(23,.p (.int .i64 (row.map (AV.int .i64)).length)),(24,.p (.int .i64 x.1))],Ed x.2⟩)
  (fun x=>wkInv n x.2/\h.length<=x.2.2.length/\x.1<=row.length/\ZZ rows (n-i) (i+1) ((row.drop x.1).foldl KU x.2)=ZZ rows (n+1) 0 st) (fun x=>row.length-x.1) (0,seen,h) (Le.of_eq rfl) ⟨a,x0o _,x0l _,k⟩ ?_
 rintro⟨q,j,t2⟩ ⟨s,g,D,t⟩;simp only at s g D t⊢;have y:=DC s;simp only at y;rcases x0t q row.length with b|b;rotate_left 1
 .rw [x1q b]at t;conv=>whnf
  repeat' (first|(refine wI ?_;conv=>whnf)|(apply bD<;>intro _<;>first|omega|conv=>whnf))
  exact⟨(i+1,j,t2),⟨s,by simp only;omega,by simp only;rw[show n+1-(i+1)=n-i by omega];exact t⟩,by simp only;omega,Le.of_eq rfl⟩
 rw[x1c b,x3m]at t;have E:=u _ (x0s b);have A:=Qh s E;have l:row[q].toNat<j.length:=by have:=s.1;simp only at this;omega
 cases o:j.getD row[q].toNat false with
 | true=>
   have c:KU (j,t2) row[q]=(j,t2):=by unfold KU;simp only[o,x1u]
   have e2:(j.map bv)[row[q].toNat]?=some .tt:=by
    have:j[row[q].toNat]=true:=by simpa[l]using o
    simp[l,this,bv]
   rw[c]at t;conv=>whnf
   repeat' (first|((first|refine x0h rfl ?_|(refine iA fun _=>?_)|refine wI ?_|refine x1i row[q].toNat (by omega) (by have:=s.1;simp only at this;omega) ?_|refine x2t row[q].toNat 0 .tt (by omega) e2 ?_);conv=>whnf)|(apply bD<;>intro _<;>first|omega|conv=>whnf))
   all_goals exact⟨(q+1,j,t2),⟨s,g,by simp only;omega,t⟩,by simp only;omega,Le.of_eq rfl⟩
 | false=>
   have c:KU (j,t2) row[q]=(j.set row[q].toNat true,t2++[row[q]]):=by unfold KU;simp only[o,x1g]
   have e2:(j.map bv)[row[q].toNat]?=some .ff:=by
    have:j[row[q].toNat]=false:=by simpa[l]using o
    simp[l,this,bv]
   rw[c]at t A;conv=>whnf
   repeat' (first|((first|refine x0h rfl ?_|refine aD ?_|refine bP ?_|(refine iA fun _=>?_)|refine wI ?_|refine x1i row[q].toNat (by omega) (by have:=s.1;simp only at this;omega) ?_|refine x2t row[q].toNat 0 .ff (by omega) e2 ?_|refine x3p row[q].toNat 0 .ff .tt (by omega) e2 (x0o 1) rfl ?_|refine XU (by simp) (by simp;omega) ?_);conv=>whnf)|(apply bD<;>intro _<;>first|omega|conv=>whnf))
   all_goals exact⟨(q+1,j.set row[q].toNat true,t2++[row[q]]),⟨A,by simp;omega,by simp only;omega,t⟩,by simp only;omega,Le.of_eq (by simp only[Ed,x0g,x0c,x2y];rfl)⟩
def FW:Nat->List Bool->List Int
 |_,[]=>[]
 |i,b::r=>bif b then(i:Int)::FW (i+1) r else FW (i+1) r
def Pn(seen:List Bool)(q:seen.length<=1000000):
  SpecH prog 219 [.hd 1000 0 seen.length] [(1000,.own 4 1 (seen.map bv))] (fun r H=>∃es,r=.p (.sl es)/\H=[(1000,.own 4 1 (seen.map bv))]/\es=(FW 0 seen).map (.int .i64)):=by
 refine Zt (e:=3) (sz:=1) rfl ?_;refine sH Jg func219 rfl call219 ?_;conv=>whnf
 repeat' (refine iM fun _=>?_;conv=>whnf)
 refine LoopK.inv QK (fun i:Nat×List Int=>⟨[(3,.hd 0 0 i.2.length),(6,.hd 1000 0 seen.length),(7,.p (.int .i64 seen.length)),(8,.p (.int .i64 i.1))],[(0,.own 3 1 (i.2.map (.int .i64))),(1000,.own 4 1 (seen.map bv))]⟩)
  (fun i=>i.1<=seen.length/\i.2.length<=i.1/\i.2++FW i.1 (seen.drop i.1)=FW 0 seen) (fun i=>seen.length-i.1) (0,[])
  (Le.mk [(0,.own 3 1 [])] (by simp[Chunk.new0];rfl) (by simp) (by simp) (.cons (.nil x0k) (.r (.r (.r .nil)))) (.new x0k (.cons rfl (.refl _) .nil)))
  ⟨x0l _,x0o _,rfl⟩ ?_
 rintro⟨m,l⟩ ⟨n,o,j⟩;simp only at n o j⊢;rcases x0t m seen.length with k|k;rotate_left 1
 .rw [x1q k,FW,x2v]at j;subst j;conv=>whnf
  repeat' (apply bD<;>intro _<;>first|omega|conv=>whnf)
  exact⟨_,x1v _,(FW 0 seen).map (.int .i64),by simp,rfl,rfl⟩
 rw[x1c k,FW]at j;cases h:seen[m]with
 | true=>
   rw[h,x1u]at j;have e2:(seen.map bv)[m]?=some .tt:=by simp[k,h,bv]
   conv=>whnf
   repeat' (first|((first|refine x0h rfl ?_|refine aD ?_|refine bP ?_|refine wI ?_|refine x1i m rfl k ?_|refine x2t m 0 .tt (by omega) e2 ?_|refine XU (by simp) (by simp;omega) ?_);conv=>whnf)|(apply bD<;>intro _<;>first|omega|conv=>whnf))
   exact⟨(m+1,l++[(m:Int)]),⟨by simp only;omega,by simp;omega,by simpa using j⟩,by simp only;omega,Le.of_eq (by simp only[x0g,x0c];rfl)⟩
 | false=>
   rw[h,x1g]at j;have e2:(seen.map bv)[m]?=some .ff:=by simp[k,h,bv]
   conv=>whnf
   repeat' (first|((first|refine x0h rfl ?_|refine wI ?_|refine x1i m rfl k ?_|refine x2t m 0 .ff (by omega) e2 ?_);conv=>whnf)|(apply bD<;>intro _<;>first|omega|conv=>whnf))
   exact⟨(m+1,l),⟨by simp only;omega,by simp only;omega,j⟩,by simp only;omega,Le.of_eq rfl⟩
def DW(g:List (List Int)×List (List Int))(a:Int):SpecP prog 217 [VV g,.int .i64 a] (fun r=>r=.bool (ZK g.1.length a)):=by
 refine sB KA func217 rfl call217 ?_;conv=>whnf
 repeat' (first|(refine iM fun _=>?_;conv=>whnf)|(apply bD<;>intro _<;>first|omega|conv=>whnf))
 all_goals have h:((avI g.1).map AV.sl).length=g.1.length:=by simp[avI]
 all_goals first
  |exact RetK.bool (by unfold ZK;simp[*];done)
  |exact RetK.ff (by unfold ZK;simp;omega)
 all_goals trace_state
def DL(n:Nat)(l:List Int):List Bool×List Int:=l.foldl (fun st a=>bif ZK n a then KU st a else st) (List.replicate n false,[])
def ZN(rows:List (List Int))(l:List Int):List Bool:=(ZZ rows (rows.length+1) 0 (DL rows.length l)).1
def MH(n:Nat):wkInv n (List.replicate n false,[]):=⟨by simp,by simp[List.count_replicate],by simp⟩
theorem DS{n:Nat}{rows:List (List Int)}(l:XK n rows):∀(k i:Nat){st:List Bool×List Int},wkInv n st->wkInv n (ZZ rows k i st)
 |0,_,_,h=>h
 | k+1,i,st,h=>by
   rw[ZZ];split
   .rename_i a o;have p:=h.2.2 a (x0i o);refine DS l k (i+1) (Ch h ?_);have j:a.toNat<rows.length:=by rw[l.1];omega
    rw[x0y,x0u j];exact l.2 _ (x0s j)
   .exact h
def XO{n:Nat}{a:Int}(h:ZK n a=true):0<=a/\a<n:=by
 unfold ZK at h;simpa using h
def Xm(n:Nat)(C:n<=5000)(g:List (List Int)×List (List Int))(v:XK n g.1)(l:List Int)(c:l.length<=1000000):SpecP prog 160 [VV g,QI l] (fun r=>r=QI (FW 0 (ZN g.1 l))):=by
 refine sB PC func160 rfl call160 ?_;conv=>whnf
 have A:((avI g.1).map AV.sl).length=n:=by simp[avI,v.1]
 repeat' ((first|(refine iM fun _=>?_)|refine aR ?_|refine x5r n (by rw[A]) (by show 1*n<=140737488355328;omega) (by unfold maxLen;omega) ?_);conv=>whnf)
 have B:(l.map (AV.int .i64)).length=l.length:=x0j _;refine LoopK.inv QK (fun x:Nat×List Bool×List Int=>⟨[(0,.p (VV g)),(5,.hd 0 0 n),(6,.hd 1 0 x.2.2.length),(17,.p (QI l)),(18,.p (.int .i64 (l.map (AV.int .i64)).length)),(19,.p (.int .i64 x.1))],[(0,.own 4 1 (x.2.1.map bv)),(1,.own 3 1 (x.2.2.map (.int .i64)))]⟩)
  (fun x=>x.1<=l.length/\wkInv n x.2/\(l.drop x.1).foldl (fun st a=>bif ZK n a then KU st a else st) x.2=DL n l) (fun x=>l.length-x.1) (0,List.replicate n false,[])
  (Le.mk [(1,.own 3 1 [])] (by simp[Chunk.new0];rfl) (by simp) (by simp) (.r (.r (.cons (.nil x0k) (.r (.r (.r .nil)))))) (.cons rfl (.of_eq (by rw[x3b];rfl)) (.new x0k .nil)))
  ⟨x0l _,MH n,rfl⟩ ?_
 rintro⟨m,seen,i⟩ ⟨e,s,q⟩;simp only at e s q⊢;have D:seen.length=n:=s.1;have E:i.length<=n:=DC s;rcases x0t m l.length with y|y;rotate_left 1
 .rw [x1q y,List.foldl_nil]at q;conv=>whnf
  repeat' (first|(apply bD<;>intro _<;>first|omega|conv=>whnf)|(refine CallK.heap [(1000,0),(2000,1)] 0 (by repeat' (first|exact x1m|refine x1x ?_ ?_|exact x1v _|exact x1d Sub.nils|exact x1d (Sub.tt rfl)|exact x1d (Sub.ff rfl)|exact x1d (Sub.int (by omega)))) (by refine x0e (j:=0) rfl rfl ?_ ?_;exact CSub.refl _;refine x0e (j:=1) rfl rfl ?_ ?_;exact CSub.refl _;exact x1l) (Kt n C g.1 v (seen,i) s) rfl rfl ?_;rintro l' H' ⟨rfl,rfl⟩;conv=>whnf))
  have z:(ZZ g.1 (n+1) 0 (seen,i)).1.length=n:=(DS v _ _ s).1;refine CallK.heap [(1000,0)] 0 (x1x (x5n (by rw[z];rfl)) x1m) (by refine x0e (j:=0) rfl rfl ?_ ?_;exact CSub.refl _;exact x1l) (Pn (ZZ g.1 (n+1) 0 (seen,i)).1 (by omega)) rfl rfl ?_;rintro l' H' ⟨es,rfl,rfl,rfl⟩;conv=>whnf
  skip
  exact RetK.p (by unfold QI ZN;rw[v.1,<-q])
 rw[x1c y,x3m]at q;have t:SpecP prog 217 [VV g,.int .i64 l[m]] (fun r=>r=.bool (ZK n l[m])):=by
  have:=DW g l[m]
  rwa[v.1]at this
 cases o:seen.getD l[m].toNat false with
 | true=>
   have u:(bif ZK n l[m]then KU (seen,i) l[m]else(seen,i))=(seen,i):=by unfold KU;simp only[o,x1u];cases ZK n l[m]<;>rfl
   have e2:ZK n l[m]=true->(seen.map bv)[l[m].toNat]?=some .tt:=fun h=>by
    have f:=XO h;have k:l[m].toNat<seen.length:=by omega
    have:seen[l[m].toNat]=true:=by simpa[k]using o
    simp[k,this,bv]
   rw[u]at q;conv=>whnf
   repeat' (first|((first|refine x0h rfl ?_|(refine iA fun _=>?_)|refine wI ?_|refine cP t ?_|refine x1i l[m].toNat (by have:=XO (by assumption);omega) (by have:=XO (by assumption);omega) ?_|refine x2t l[m].toNat 0 .tt (by omega) (e2 (by assumption)) ?_);conv=>whnf)|(apply bD<;>intro _<;>first|omega|conv=>whnf)|(apply bB<;>intro _<;>conv=>whnf))
   all_goals exact⟨(m+1,seen,i),⟨by simp only;omega,s,q⟩,by simp only;omega,Le.of_eq rfl⟩
 | false=>
   have e2:ZK n l[m]=true->(seen.map bv)[l[m].toNat]?=some .ff:=fun h=>by
    have f:=XO h;have k:l[m].toNat<seen.length:=by omega
    have:seen[l[m].toNat]=false:=by simpa[k]using o
    simp[k,this,bv]
   conv=>whnf
   repeat' (first|((first|refine x0h rfl ?_|refine aD ?_|refine bP ?_|(refine iA fun _=>?_)|refine wI ?_|refine cP t ?_|refine x1i l[m].toNat (by have:=XO (by assumption);omega) (by have:=XO (by assumption);omega) ?_|refine x2t l[m].toNat 0 .ff (by omega) (e2 (by assumption)) ?_|refine x3p l[m].toNat 0 .ff .tt (by omega) (e2 (by assumption)) (x0o 1) rfl ?_|refine XU (by simp) (by simp;omega) ?_);conv=>whnf)|(apply bD<;>intro _<;>first|omega|conv=>whnf)|(apply bB<;>intro _<;>conv=>whnf))
   .have w:ZK n l[m]=true:=by assumption
    have u:(bif ZK n l[m]then KU (seen,i) l[m]else(seen,i))=(seen.set l[m].toNat true,i++[l[m]]):=by unfold KU;simp only[o,w,x1u,x1g]
    have b:=Qh s (XO w);rw[u]at q;have d:KU (seen,i) l[m]=(seen.set l[m].toNat true,i++[l[m]]):=by unfold KU;simp only[o,x1g]
    rw[d]at b;exact⟨(m+1,seen.set l[m].toNat true,i++[l[m]]),⟨by simp only;omega,b,q⟩,by simp only;omega,Le.of_eq (by simp only[x0g,x0c,x2y];rfl)⟩
   .have w:ZK n l[m]=false:=by assumption
    have u:(bif ZK n l[m]then KU (seen,i) l[m]else(seen,i))=(seen,i):=by rw[w];rfl
    rw[u]at q;exact⟨(m+1,seen,i),⟨by simp only;omega,s,q⟩,by simp only;omega,Le.of_eq rfl⟩
end Go.Ab
