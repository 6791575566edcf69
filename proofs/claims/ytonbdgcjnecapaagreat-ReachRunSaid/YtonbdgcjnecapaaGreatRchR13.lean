/- The library's contracts at this seat's program, in plain words (printed by the kit's lay-plain.mjs). Conditions: none. -/
import Derived.Shelf.Sort.Plain
import Derived.Shelf.Slices.In.SortNone
import Derived.Shelf.Slices.CompactS
import Derived.Ground.Names2Prog
import Derived.Shelf.Slices.SearchI
import Derived.Shelf.Slices.Empties
import Derived.Shelf.Spec.SlicesInsert
import Derived.Shelf.Spec.SlicesInsertGrow
import Derived.Shelf.SlSortCmp.NoneTotal
import Derived.Ground.SlsfProg
import Derived.Test.YtonbdgcjnecapaaGreatProg
import Derived.Test.YtonbdgcjnecapaaGreatRchR9
import Derived.Test.YtonbdgcjnecapaaGreatRchR11
import Derived.Test.YtonbdgcjnecapaaGreatRchR12
set_option linter.all false
set_option maxRecDepth 100000
set_option maxHeartbeats 16000000
namespace Go.Proofs
open Go.Shelf
def Tryz.laysF_ren:Go.Shelf.Ren:=⟨fun|6=>228|15=>187|14=>286|28=>245|29=>246|20=>313|21=>314|22=>315|23=>316|24=>317|25=>318|26=>319|27=>320|46=>337|47=>294|48=>295|49=>338|50=>339|57=>342|n=>n,fun|22=>124|24=>232|25=>264|3=>3|39=>242|0=>0|53=>280|55=>282|4=>4|46=>274|45=>273|50=>201|5=>5|9=>9|66=>307|70=>311|76=>328|77=>30|n=>n,fun|n=>n⟩
def Kv:Go.Proofs.SlLaysF0.n6 Tryz.prog Tryz.laysF_ren:={
 mixed:=by kernel_rfl
 f6:=⟨Tryz.f228.name,by decide,Tryz.func228.trans (congrArg some (by kernel_rfl))⟩
 f14:=⟨Tryz.f286.name,by decide,Tryz.func286.trans (congrArg some (by kernel_rfl))⟩
 f15:=Tryz.func187.trans (congrArg some (by kernel_rfl))
 f20:=⟨Tryz.f313.name,by decide,Tryz.func313.trans (congrArg some (by kernel_rfl))⟩
 f21:=⟨Tryz.f314.name,by decide,Tryz.func314.trans (congrArg some (by kernel_rfl))⟩
 f22:=⟨Tryz.f315.name,by decide,Tryz.func315.trans (congrArg some (by kernel_rfl))⟩
 f23:=⟨Tryz.f316.name,by decide,Tryz.func316.trans (congrArg some (by kernel_rfl))⟩
 f24:=⟨Tryz.f317.name,by decide,Tryz.func317.trans (congrArg some (by kernel_rfl))⟩
 f25:=⟨Tryz.f318.name,by decide,Tryz.func318.trans (congrArg some (by kernel_rfl))⟩
 f26:=⟨Tryz.f319.name,by decide,Tryz.func319.trans (congrArg some (by kernel_rfl))⟩
 f27:=⟨Tryz.f320.name,by decide,Tryz.func320.trans (congrArg some (by kernel_rfl))⟩
 f28:=Tryz.func245.trans (congrArg some (by kernel_rfl))
 f29:=Tryz.func246.trans (congrArg some (by kernel_rfl))
 f46:=⟨Tryz.f337.name,by decide,Tryz.func337.trans (congrArg some (by kernel_rfl))⟩
 f47:=Tryz.func294.trans (congrArg some (by kernel_rfl))
 f48:=Tryz.func295.trans (congrArg some (by kernel_rfl))
 f49:=⟨Tryz.f338.name,by decide,Tryz.func338.trans (congrArg some (by kernel_rfl))⟩
 f50:=⟨Tryz.f339.name,by decide,Tryz.func339.trans (congrArg some (by kernel_rfl))⟩
 f57:=⟨Tryz.f342.name,by decide,Tryz.func342.trans (congrArg some (by kernel_rfl))⟩
 t0:=Tryz.underlying0
 a0:=Tryz.isAgg0
 z0:=Tryz.sizeOf0
 v0:=Tryz.zeroValue0
 t3:=Tryz.underlying3
 a3:=Tryz.isAgg3
 z3:=Tryz.sizeOf3
 v3:=Tryz.zeroValue3
 t4:=Tryz.underlying4
 a4:=Tryz.isAgg4
 z4:=Tryz.sizeOf4
 v4:=Tryz.zeroValue4
 t5:=Tryz.underlying5
 a5:=Tryz.isAgg5
 z5:=Tryz.sizeOf5
 v5:=Tryz.zeroValue5
 t9:=Tryz.underlying9
 a9:=Tryz.isAgg9
 z9:=Tryz.sizeOf9
 v9:=Tryz.zeroValue9
 t22:=Tryz.underlying124
 a22:=Tryz.isAgg124
 z22:=Tryz.sizeOf124
 v22:=Tryz.zeroValue124
 t25:=Tryz.underlying264
 a25:=Tryz.isAgg264
 z25:=Tryz.sizeOf264
 v25:=Tryz.zeroValue264
 t39:=Tryz.underlying242
 a39:=Tryz.isAgg242
 z39:=Tryz.sizeOf242
 v39:=Tryz.zeroValue242
 t45:=Tryz.underlying273
 a45:=Tryz.isAgg273
 z45:=Tryz.sizeOf273
 v45:=Tryz.zeroValue273
 t46:=Tryz.underlying274
 a46:=Tryz.isAgg274
 z46:=Tryz.sizeOf274
 v46:=Tryz.zeroValue274
 t50:=Tryz.underlying201
 a50:=Tryz.isAgg201
 z50:=Tryz.sizeOf201
 v50:=Tryz.zeroValue201
 t53:=Tryz.underlying280
 a53:=Tryz.isAgg280
 z53:=Tryz.sizeOf280
 v53:=Tryz.zeroValue280
 t55:=Tryz.underlying282
 a55:=Tryz.isAgg282
 z55:=Tryz.sizeOf282
 v55:=Tryz.zeroValue282
 t66:=Tryz.underlying307
 a66:=Tryz.isAgg307
 z66:=Tryz.sizeOf307
 v66:=Tryz.zeroValue307
 t70:=Tryz.underlying311
 a70:=Tryz.isAgg311
 z70:=Tryz.sizeOf311
 v70:=Tryz.zeroValue311
 t76:=Tryz.underlying328
 a76:=Tryz.isAgg328
 z76:=Tryz.sizeOf328
 v76:=Tryz.zeroValue328
 t77:=Tryz.underlying30
 a77:=Tryz.isAgg30
 z77:=Tryz.sizeOf30
 v77:=Tryz.zeroValue30}
end Go.Proofs
namespace Go.Ab
open Go.Proofs.Tryz
open Go.Proofs Go.Sort Go.RowKit Go.Lib
variable {m:Nat}{σ:Mem}
theorem Frm.grown{w w':World}(h:Frm (fun _=>False) w w'):∃q os,w'=grow (w.drewN q) os:=by
 obtain⟨v,D,o,B,C⟩:=w;obtain⟨l,u,j,r,t⟩:=w';obtain⟨z,a,b,f,g,c⟩:=h;simp only at z a b f g c;refine⟨j-o,l.extract v.size l.size,?_⟩;subst z a b;have e:o+(j-o)=j:=by omega
 show World.mk l u j r t=World.mk (v++l.extract v.size l.size) u (o+(j-o)) r t;rw[e];congr 1;apply Array.ext
 .simp;omega
 .intro i y A;by_cases x:i<v.size
  .have:=c i x id;rw[x9b y,x9b x]at this;rw[Array.getElem_append_left x];exact z0m this
  .rw [Array.getElem_append_right (by omega)];simp;congr 1;omega
def FX(a b:Step):Bool:=decide (RX a b<0)
def EQ(a b c:Int):orI [a,b,c]<0↔a<0\/a=0/\(b<0\/b=0/\c<0):=by
 by_cases h:a=0<;>by_cases i:b=0<;>by_cases j:c=0<;>simp[orI,h,i,j]
def KX(x y:Int):Bq x y<0↔x<y:=by
 unfold Bq;split
 .omega
 .split<;>omega
def VP(x y:Int):Bq x y=0↔x=y:=by
 unfold Bq;split
 .omega
 .split<;>omega
def TI(a b:Step):RX a b<0↔QR a.src<QR b.src\/QR a.src=QR b.src/\(QR a.dst<QR b.dst\/QR a.dst=QR b.dst/\a.kind<b.kind):=by
 unfold RX;rw[EQ,KX,KX,KX,VP,VP]
def okSt(s:Step):Prop:=s.src≠9223372036854775807/\s.dst≠9223372036854775807
abbrev OSt:={s:Step // okSt s}
instance:Inhabited OSt:=⟨⟨⟨0,0,0⟩,by constructor<;>decide⟩⟩
def cfO(a b:OSt):Int:=RX a.1 b.1
def YU{x y:Int}(i:x≠9223372036854775807)(j:y≠9223372036854775807)(h:QR x=QR y):x=y:=by
 unfold QR at h;split at h<;>split at h<;>omega
def q4r:SWO (ltOf cfO):=by
 refine⟨fun x=>?_,fun x y z h i=>?_,fun x y z h i=>?_⟩;all_goals
  unfold ltOf cfO at*
  simp only[x8l,z0k,TI]at*
  omega
def q4t(x y:OSt)(j:ltOf cfO x y=false)(k:ltOf cfO y x=false):x=y:=by
 unfold ltOf cfO at*
 simp only[z0k,TI]at j k;obtain⟨⟨a,b,c⟩,l,n⟩:=x;obtain⟨⟨d,e,f⟩,o,p⟩:=y;simp only at*
 have h:=YU (x:=a) (y:=d) l o (by omega);have e2:=YU (x:=b) (y:=e) n p (by omega);have i:c=f:=by omega
 subst h e2 i;rfl
def Bz(s:OSt):List Value:=[.int .i64 s.1.src,.int .i64 s.1.dst,.int .i64 s.1.kind]
def U2(s:OSt):Rep σ (.agg s.1.cells) (.agg (Bz s).toArray):=by
 refine .agg _ _ (fun j=>(Bz s).toArray.getD j undef) rfl (fun j c h=>?_) (fun j c h=>?_)
 .match j,h with
  |0,_=>rfl
  |1,_=>rfl
  |2,_=>rfl
 .match j,h with
  |0,h=>cases h;exact .int _ _
  |1,h=>cases h;exact .int _ _
  |2,h=>cases h;exact .int _ _
def Og(W:World)(x y:OSt):Calls prog 229 (#[.agg (Bz x).toArray,.agg (Bz y).toArray] ++ #[]) W fun e w'=>e=.returned (.int .i64 (cfO x y))/\∃q k,w'=grow (W.drewN q) k:=by
 refine((R3 x.1 y.1).ok (fun _=>none) W #[.agg (Bz x).toArray,.agg (Bz y).toArray] rfl (fun j c i=>?_) (fun b c h=>by cases h)).mono ?_
 .match j,i with
  |0,i=>cases i;exact U2 x
  |1,i=>cases i;exact U2 y
 .rintro e w' ⟨c,u,σ',rfl,rfl,n,_,_,l,_⟩;cases n;exact⟨rfl,l.grown⟩
def Ij{l:List OSt}{vs:Array Value}(h:∀(m:Nat)(x:AV),(l.map fun s=>AV.agg s.1.cells)[m]?=some x->x.cells.length=3/\∀(j:Nat)(c:AV),x.cells[j]?=some c->∃u:Value,vs[m*3+j]?=some u/\Rep σ c u){j:Nat}(p:m<l.length)(o:j<3):
  vs[m*3+j]?=(Bz l[m])[j]?:=by
 have n:=(h m (.agg l[m].1.cells) (by simp[p])).2
 match j,o with
 | 0,_=>
   obtain⟨u,i,k⟩:=n 0 (.int .i64 l[m].1.src) rfl;cases k;exact i
 | 1,_=>
   obtain⟨u,i,k⟩:=n 1 (.int .i64 l[m].1.dst) rfl;cases k;exact i
 | 2,_=>
   obtain⟨u,i,k⟩:=n 2 (.int .i64 l[m].1.kind) rfl;cases k;exact i
def Ik{l:List OSt}{vs:Array Value}(h:∀(m:Nat)(n:m<l.length)(j:Nat),j<3->vs[m*3+j]?=(Bz l[m])[j]?):∀(m:Nat)(x:AV),(l.map fun s=>AV.agg s.1.cells)[m]?=some x->x.cells.length=3/\∀(j:Nat)(c:AV),x.cells[j]?=some c->∃u:Value,vs[m*3+j]?=some u/\Rep σ c u:=by
 intro m x k;rw[x7k]at k;cases o:l[m]?with
 |none=>rw[o]at k;cases k
 | some s=>
   rw[o]at k;cases k;obtain⟨n,rfl⟩:=x7h.1 o;refine⟨rfl,fun j c i=>?_⟩
   match j,i with
   |0,i=>cases i;exact⟨_,h m n 0 (by omega),.int _ _⟩
   |1,i=>cases i;exact⟨_,h m n 1 (by omega),.int _ _⟩
   |2,i=>cases i;exact⟨_,h m n 2 (by omega),.int _ _⟩
def Ps{d:Array OSt}{t:Nat}(h:t<d.size*3):(flatK Bz 3 d)[t]?=(Bz (d[t/3]'(by omega)))[t%3]?:=by
 have i:=get_flatK Bz 3 d t h;rw[z2j _ t (by simpa using h),z2j d (t/3) (by omega)]at i;rw[x9b (by simpa using h),i];have j:t%3<(Bz (d[t/3]'(by omega))).length:=by simp[Bz];omega
 rw[x7x j,z2j (Bz (d[t/3]'(by omega))) (t%3) j]
def JZ(l:List Step):List Step:=l.mergeSort fun x y=> !FX y x
def Z6{l:List Step}:(JZ l).length=l.length:=by unfold JZ;simp
def Jj(l:List Step):(JZ l).Perm l:=z2d _ _
def PZ(l:List OSt)(U:l.length<=1000000000):
  SpecH prog 228 [.hd 1000 0 l.length,.p (.fn 229 [])] [(1000,.own 232 3 (l.map fun s=>.agg s.1.cells))]
   (fun r H=>r=.p (.tup [])/\H=[(1000,.own 232 3 ((l.mergeSort fun x y=> !(ltOf cfO) y x).map fun s=>.agg s.1.cells))]):=by
 refine⟨call228,fun σ β w Y hn g hH=>?_⟩;obtain⟨v,u,rfl⟩:=q7a hn;have A:RepL σ β (.hd 1000 0 l.length) v:=by simpa using g 0 _ rfl
 have M:RepL σ β (.p (.fn 229 [])) u:=by simpa using g 1 _ rfl
 obtain rfl:u=.func (.func 229) #[] #[]:=by
  cases M with
  | p h=>cases h with
    | fn _ _ vs u K q hr=>
      obtain rfl:vs=#[]:=Array.size_eq_zero_iff.1 K;rfl
 have F:=hH.chunks 1000 _ x7v;rcases F with⟨E,G⟩|⟨i,vs,C,L,I,Q,Z,h4,h5⟩
 .have J:l=[]:=z3z.1 G;subst J;obtain⟨rfl,_⟩:=Nu A E;have q:=AnyF.slices_SortFunc_none Kv none 0 (.func (.func 229) #[] #[]) w;change Calls prog 228 _ _ _ at q;refine q.mono ?_;rintro e w' ⟨rfl,rfl⟩;exact⟨.p (.tup []),.tuple #[],σ,β,_,rfl,⟨rfl,rfl⟩,.p (.tup [] #[] (fun _=>undef) rfl (by simp) (by simp)),by simpa using hH,by simpa using Later.refl _ _ _ _⟩
 .have O:=Gq A C;subst O;have f:=(hH.apart 1000 (by simp) i C i.blk i.has_blk).2;have b:l.length<=i.cap:=by simpa using Z
  have hle:l.length*3<=vs.size:=by rw[Q];omega
  have c:=fun m j V R=>Ij (σ:=σ) (l:=l) h5 (m:=m) (j:=j) V R;have q:=AnyQ.slices_SortFunc_total Kv 3 Tryz.isAgg232 Tryz.sizeOf232 Bz (fun _=>rfl) (fun x v g=>by simp[Bz]at g;rcases g with rfl|rfl|rfl<;>rfl) cfO q4r 229 #[] i.blk 0 i.cap l.toArray w
   call229 (fun m os dk _ x y=>Og _ x y) (fun t ht=>by
    have o:t<l.toArray.size*3:=by simpa using ht
    refine⟨?_,VJ I _⟩;have B:=Ps o;have z:=c (t/3) (t%3) (by simp at o;omega) (by omega);rw[Nat.div_add_mod']at z;rw[KQ I,z0q,z,z2j _ t (by simpa using o)];rw[x9b (by simpa using o)]at B;simpa using B.symm) f (by simp;omega) q4t
  simp only[z1z]at q;change Calls prog 228 _ _ _ at q;refine q.mono ?_;rintro e w' ⟨rfl,n,os,rfl⟩;generalize hS:(l.mergeSort fun x y=> !(ltOf cfO) y x)=S;have a:S.length=l.length:=by rw[<-hS];simp
  obtain⟨hf,hb⟩:=BC (enc:=id) (n:=n) (os:=os) (d:=flatK Bz 3 S.toArray) I f;obtain⟨D,hL⟩:=Vf (c':=.own 232 3 (S.map fun s=>.agg s.1.cells)) hH C hf (.inr ⟨i,_,C,L,hb,by rw[HB];exact Q,by simp[a];exact b,h4,Ik fun m V j R=>by
   have B:=KY (enc:=id) (d:=flatK Bz 3 S.toArray) (vs:=vs) (by simp[a];omega) (k:=m*3+j) (by simp;omega);have z:=Ps (d:=S.toArray) (t:=m*3+j) (by simp;omega);rw[x9b (by simp;omega)]at z;rw[B];simp only[id];rw[z];simp[show(m*3+j)/3=m by omega,show(m*3+j)%3=j by omega]⟩)
  exact⟨.p (.tup []),.tuple #[],σ,β,_,rfl,⟨rfl,rfl⟩,.p (.tup [] #[] (fun _=>undef) rfl (by simp) (by simp)),D,hL⟩
def Jw(l:List Step)(i:∀s∈l,okSt s)(j:l.length<=1000000000):
  SpecH prog 228 [.hd 1000 0 l.length,.p (.fn 229 [])] [(1000,.own 232 3 (l.map fun s=>.agg s.cells))]
   (fun r H=>r=.p (.tup [])/\H=[(1000,.own 232 3 ((JZ l).map fun s=>.agg s.cells))]):=by
 have h:=PZ (l.attachWith okSt i) (by simpa using j);have n:((l.attachWith okSt i).map fun s=>AV.agg s.1.cells)=l.map fun s=>AV.agg s.cells:=by
  have:=x9l (List.map fun s:Step=>AV.agg s.cells) (z2u (l:=l) (p:=okSt) i);simp
 have e2:(((l.attachWith okSt i).mergeSort fun x y=> !(ltOf cfO) y x).map fun s=>AV.agg s.1.cells)=(JZ l).map fun s=>AV.agg s.cells:=by
  have k:=List.map_mergeSort (l:=l.attachWith okSt i) (f:=Subtype.val) (r:=fun x y=> !(ltOf cfO) y x) (s:=fun x y=> !FX y x) (fun a _ b _=>rfl);rw[z2u]at k;unfold JZ;rw[<-k,z1s];rfl
 rw[n,e2]at h;simpa using h
section
variable {P:Program}{T:Tab}{N:Nat}
def q5m{β:Lab}{k:Nat}{H H':Heap}{d:Chunk}{w w':World}{i:BInfo}(h:HRel σ β H w)(a:k∈H.map (·.1))(y:β k=some i)(n:Frm (fun b=>b=i.blk) w w')(s:H'.map (·.1)=H.map (·.1))(D:∀j c,(j,c)∈H'->j≠k->(j,c)∈H)(E:∀c,(k,c)∈H'->c=d)(v:d.holds σ β w' k):HRel σ β H' w'/\Later σ β H w σ β H' w':=by
 have x:=h.apart k a i y;refine⟨⟨fun b cs l=>?_,fun j c p=>?_,by rw[s];exact h.nodup,fun j p i' o b l=>?_,fun j p G z=>h.inj j (s▸p) G (s▸z)⟩,Mem.le_refl σ,⟨n.os,n.tape,n.output,n.drawn,n.size,fun b l F=>n.block b l fun t=>F ⟨k,a,i,y,.inl t.symm⟩⟩,
  fun b B C=>absurd B C,fun b ⟨j,p,r⟩=>.inl ⟨j,s▸p,r⟩,fun _ _ _=>rfl⟩
 .obtain ⟨e,A,f⟩:=h.mem b cs l;exact⟨e,A,(n.block b (x8x.1 f).1 fun t=>by rw[t,(x _ i.has_blk).1]at l;cases l).trans f⟩
 .by_cases q:j=k
  .subst q;rw[E c p];exact v
  .have g:=D j c p q;have u:j∈H.map (·.1):=x7d.2 ⟨_,g,rfl⟩;exact(h.chunks j c g).mono (Mem.le_refl σ) fun i' o b l=>n.block b (h.apart j u i' o b l).2 fun t=>q (h.inj j u k a i' i o y b l (.inl t.symm))
 .have:=h.apart j (s▸p) i' o b l;exact⟨this.1,z0e this.2 n.size⟩
theorem OpK.clear(hT:TabOK P T){s:St}{o:Oper}{K:St->Prop}{t:TypeId}{x:Operand}(hop:o.op=.call {callee:=.builtin .clear,args:=#[x],argTypes:=#[t]}){k off len:Nat}(A:QN s.sl x=.hd k off len){e sz:Nat}{es:List AV}(hg:getH s.H k=some (.own e sz es)){i F:TyI}(ht:T.get t=some i)(hd:i.desc=.slice e)(hte:T.get e=some F)(hz:F.zero.cells.size=sz)(hone:F.zero.cells.all (·.oneCell')=true)(hpos:0<sz)(h:Jq s.H k (.own e sz (es.take off)) fun H=>setD N s.sl o.dst (.p (.tup [])) fun sl=>K ⟨sl,H⟩):OpK P N s o K:=by
 refine⟨fun σ β a w l Q=>?_⟩;have Y:=QQ l.E x;rw[A]at Y;generalize hxe:a.eval x=v at Y;obtain⟨H',hK,h3,h4,h5⟩:=US l.heap.nodup h;have hlab:=QD hg;have hu:=hT.of ht;rw[hd]at hu;have hue:=hT _ _ hte;have G:RepL σ β (.p (.tup [])) (.tuple #[]):=.p (.tup [] #[] (fun _=>undef) rfl (by simp) (by simp));have hbc:∀{w'} ,(Builtin.clear_ #[t] o.type #[v]).run P w=.ok (.tuple #[]) w'->(execOp a.eval o).run P w=.ok (.value (.tuple #[])) w':=fun {w'} hc=>by
  simp[execOp,hop,resolve,invoke,builtin,hxe,hc]
 have hch:=l.heap.chunks k _ (QJ hg);have B:len=0->(Builtin.clear_ #[t] o.type #[v]).run P w=.ok (.tuple #[]) w->(o.wp P a w (fun a' w'=>∃σ' β' s',K s'/\Rel N σ' β' s' a' w'/\Later σ β s.H w σ' β' s'.H w') Q):=fun _ g=>by
  have z:HRel σ β H' w/\Later σ β s.H w σ β H' w:=by
   refine⟨⟨l.heap.mem,fun j c y=>?_,by rw[h3];exact l.heap.nodup,fun j y=>l.heap.apart j (h3▸y),fun j y j' hj'=>l.heap.inj j (h3▸y) j' (h3▸hj')⟩,Mem.le_refl σ,Frm.refl _ w,fun b h0 h1=>absurd h0 h1,fun b ⟨j,y,r⟩=>.inl ⟨j,h3▸y,r⟩,fun _ _ _=>rfl⟩;by_cases hjk:j=k
   .subst hjk;rw[h5 c y];rcases hch with⟨C,h7⟩|⟨J,vs,C,h7,h8,h9,h10,L,M⟩
    .exact .inl ⟨C,by rw[h7];simp⟩
    .exact .inr ⟨J,vs,C,h7,h8,h9,by simp;omega,L,fun m x A=>M m x (by rw[x8r]at A;split at A;exact A;cases A)⟩
   .exact l.heap.chunks j c (h4 j c y hjk)
  have U:Rel N σ β ⟨s.sl,H'⟩ a w:=⟨l.size,l.defers,l.E,z.1⟩;obtain⟨sl,hK,V⟩:=U.setD G hK;exact XE (hbc g) ⟨σ,β,_,hK,V,z.2⟩
 rcases Y.hdI with⟨hk0,hoff,hlen,I⟩|⟨J,oo,hk,hfit,D,I⟩
 .subst I;refine B hlen ?_;simp[Builtin.clear_,run_underlying hu]
 by_cases hl0:len=0
 .subst hl0 I;refine B rfl ?_;simp[Builtin.clear_,run_underlying hu]
 rcases hch with⟨C,_⟩|⟨bi',vs,C,h7,h8,h9,h10,L,M⟩
 .rw [hk]at C;cases C
 rw[hk]at C;cases C;have D:oo=off*sz:=by
  rcases D with D|⟨O,_⟩
  .rw [D,h7]
  .omega
 obtain⟨zs,Z⟩ : ∃zs,zs=(Builtin.zeroCells F.zero.cells len).toList:=⟨_,rfl⟩;have hzl:zs.length=len*sz:=by rw[Z];simp[Builtin.zeroCells,hz]
 have hz1:∀v∈zs,v.oneCell'=true:=fun v I=>by
  rw[Z]at I;simp only[Builtin.zeroCells,Array.toList_map,x7d]at I;obtain⟨q,hq,rfl⟩:=I;have R:q%F.zero.cells.size<F.zero.cells.size:=Nat.mod_lt _ (by omega);rw[z2j F.zero.cells (q%F.zero.cells.size) R];exact Array.all_eq_true.1 hone _ R
 have hend:off*sz+len*sz<=vs.size:=by
  rw[h9,<-x9a];exact x9x _ hfit
 have hst:=run_storeCells_cells (P:=P) J.blk oo zs 0 w (fun j y=>by
   have:oo+0+j<vs.size:=by omega
   simp only[World.cell?,h8];rw[x9b this];rfl) (fun j y=>by simp[World.frozen?,h8]) hz1
 have g:(Builtin.clear_ #[t] o.type #[v]).run P w=.ok (.tuple #[]) (w.setCells J.blk oo zs):=by
  subst I;have hzv:(zeroValue e).run P w=.ok F.zero w:=by
   have:=hue.info;cases hq:P.info? e with
   |none=>rw[hq]at this;cases this
   | some f=>
     rw[hq]at this;simp at this;simp[zeroValue,typeInfo,hq,this]
  obtain⟨len',rfl⟩ : ∃l',len=l'+1:=⟨len-1,by omega⟩;simp only[z2x]at hst;simp[Builtin.clear_,Sem.run_bind,run_underlying hu,hzv,<-Z,hst]
 obtain⟨s1,s2⟩:=WX zs oo h8;have hnew:(Chunk.own e sz (es.take off)).holds σ β (w.setCells J.blk oo zs) k:=by
  refine .inr ⟨J,_,hk,h7,s1,by rw[VE];exact h9,by simp;omega,L,fun m x A=>?_⟩;rw[x8r]at A;split at A
  .rename_i hm;obtain⟨O,h14⟩:=M m x A;refine⟨O,fun j c y=>?_⟩;obtain⟨u,h15,h16⟩:=h14 j c y;have hjl:j<sz:=by rw[<-O];exact(x7h.1 y).1
   have R:m*sz+j<off*sz:=by
    have:(m+1)*sz<=off*sz:=x9x _ hm;rw[x9a]at this;omega
   exact⟨u,by rw[HN _ _ _ _ (by omega),if_neg (by omega)];exact h15,h16⟩
  .cases A
 obtain⟨hh,hl⟩:=q5m l.heap hlab hk s2 h3 h4 h5 hnew;have U:Rel N σ β ⟨s.sl,H'⟩ a (w.setCells J.blk oo zs):=⟨l.size,l.defers,l.E,hh⟩;obtain⟨sl,hK,V⟩:=U.setD G hK;exact XE (hbc g) ⟨σ,β,_,hK,V,hl⟩
end
def XU(p:Step):List Step->List Step
 |[]=>[]
 |b::r=>bif ZK b p then XU b r else b::XU b r
def NH:List Step->List Step
 |[]=>[]
 |a::r=>a::XU a r
def La{l:List Step}(h:l.length<2):NH l=l:=by
 match l,h with
 |[],_=>rfl
 |[a],_=>rfl
def avS(l:List Step):List AV:=l.map fun s=>.agg s.cells
def Qx(l:List Step)(g:l.length<=1000000000):
  SpecH prog 230 [.hd 1000 0 l.length,.p (.fn 231 [])] [(1000,.own 232 3 (avS l))]
   (fun r H=>r=.hd 1000 0 (NH l).length/\H=[(1000,.own 232 3 (avS (NH l)))]):=by
 refine sH ZO func230 rfl call230 ?_;conv=>whnf
 repeat' (first|(refine iM fun _=>?_;conv=>whnf)|(apply bD<;>intro _<;>first|omega|conv=>whnf))
 .have e:NH l=l:=La (by omega);rw[e];exact⟨_,x8z _,rfl,rfl⟩
 refine LoopK.inv QV (fun k:Nat=>⟨[(0,.hd 1000 0 l.length),(1,.p (.fn 231 [])),(5,.j k)],[(1000,.own 232 3 (avS l))]⟩)
  (fun k=>1<=k/\k<=l.length/\∃a,l[k-1]?=some a/\l.take k++XU a (l.drop k)=NH l) (fun k=>l.length-k) 1 (Le.of_eq rfl) ⟨x7s _,by omega,?_⟩ ?_
 .cases l with
  |nil=>simp at*
  |cons a r=>exact⟨a,rfl,rfl⟩
 rintro k ⟨J,K,a,ha,t⟩;rcases x7m k l.length with u|u;rotate_left 1
 .rw [x7e u,x7a u]at t;conv=>whnf
  repeat' (first|(refine iM fun _=>?_;conv=>whnf)|(apply bD<;>intro _<;>first|omega|conv=>whnf))
  rw[<-t,XU,x9q];exact⟨_,x8z _,rfl,rfl⟩
 rw[x8b u,XU]at t;have c:k-1<l.length:=by omega
 obtain⟨_,b⟩:=x7h.1 ha;have w:(avS l)[k]?=some (.agg l[k].cells):=by simp[avS,u]
 have n:(avS l)[k-1]?=some (.agg a.cells):=by simp[avS,ha]
 conv=>whnf
 repeat' (first|((first|(refine iM fun _=>?_)|refine cP (Ul _ _) ?_|refine dA ?_|refine x7g rfl ?_|refine wI ?_|refine x8p k (by omega) (by omega) ?_|refine x8p (k-1) (by omega) (by omega) ?_|refine x9g k 0 (.agg l[k].cells) (by omega) w ?_|refine x9g (k-1) 0 (.agg a.cells) (by omega) n ?_|refine z3d k l.length rfl rfl (by omega) (by omega) ?_);conv=>whnf)|(apply bD<;>intro _<;>first|omega|conv=>whnf)|(apply bB<;>intro _<;>conv=>whnf))
 rotate_left 1
 .have h:ZK l[k] a=false:=by assumption
  rw[h,x7o]at t;exact⟨k+1,⟨by omega,by omega,l[k],by simp[u],by rw[<-t,x7r u,x8w];rfl⟩,by omega,Le.of_eq rfl⟩
 have h:ZK l[k] a=true:=by assumption
 rw[h,x7c]at t;clear ha b w n c h;refine LoopK.inv QV (fun x:Nat×Nat×List Step=>⟨[(0,.hd 1000 0 l.length),(1,.p (.fn 231 [])),(5,.j x.2.1),(6,.hd 1000 (0+k) (l.length-k)),(7,.j x.1)],[(1000,.own 232 3 (avS x.2.2))]⟩)
  (fun x=>1<=x.1/\x.1<=l.length-k/\x.2.1<=k+x.1-1/\x.2.2.length=l.length/\x.2.2.drop (k+x.1-1)=l.drop (k+x.1-1)/\∃a,l[k+x.1-1]?=some a/\x.2.2.take x.2.1++XU a (l.drop (k+x.1))=NH l) (fun x=>l.length-k-x.1) (1,k,l) (Le.of_eq rfl) ⟨x7s _,by simp only;omega,by simp only;omega,rfl,rfl,l[k],by simp[u],t⟩ ?_
 rintro⟨q,i,es⟩ ⟨B,C,D,y,v,a,ha,o⟩;clear t;simp only at B C D y v ha o⊢;have E:(avS es).length=l.length:=by simp[avS,y]
 rcases x7m q (l.length-k)with I|I
 .have s:k+q<l.length:=by omega
  have f:es[k+q]?=l[k+q]?:=by
   have:=x9l (fun x=>x[1]?) v;simp only[x9f]at this
   rwa[show k+q-1+1=k+q by omega]at this
  have e2:es[k+q-1]?=some a:=by
   have:=x9l (fun x=>x[0]?) v;simp only[x9f,z2x]at this;rw[this,ha]
  rw[x7x s]at f;have w:(avS es)[k+q]?=some (.agg l[k+q].cells):=by simp[avS,f]
  have n:(avS es)[k+q-1]?=some (.agg a.cells):=by simp[avS,e2]
  have F:i<es.length:=by omega
  have A:(avS es)[i]?=some (.agg es[i].cells):=by simp[avS,F]
  rw[x8b s,XU]at o;conv=>whnf
  repeat' (first|((first|(refine iM fun _=>?_)|refine cP (Ul _ _) ?_|refine dA ?_|refine x7g rfl ?_|refine wI ?_|refine x8p q (by omega) (by omega) ?_|refine x8p (q-1) (by omega) (by omega) ?_|refine x8p i (by omega) (by omega) ?_|refine x9g (k+q) 0 (.agg l[k+q].cells) (by omega) w ?_|refine x9g (k+q-1) 0 (.agg a.cells) (by omega) n ?_|refine z0d i 0 (.agg es[i].cells) (.agg l[k+q].cells) (by omega) A (show 3<=3 from x7s 3) rfl ?_);conv=>whnf)|(apply bD<;>intro _<;>first|omega|conv=>whnf)|(apply bN<;>intro _<;>conv=>whnf))
  .have h:ZK l[k+q] a=true:=by assumption
   rw[h,x7c]at o;exact⟨(q+1,i,es),⟨by simp only;omega,by simp only;omega,by simp only;omega,y,by
    have:=x9l (List.drop 1) v;simp only[List.drop_drop]at this;simpa only[show k+(q+1)-1=k+q-1+1 by omega]using this,l[k+q],by simp[s],o⟩,by simp only;omega,Le.of_eq rfl⟩
  .have h:ZK l[k+q] a=false:=by assumption
   rw[h,x7o]at o;have z:(es.set i l[k+q]).drop (k+q)=l.drop (k+q):=by
    rw[List.drop_set_of_lt (by omega)];have:=x9l (List.drop 1) v;simp only[List.drop_drop]at this
    rwa[show k+q-1+1=k+q by omega]at this
   exact⟨(q+1,i+1,es.set i l[k+q]),⟨by simp only;omega,by simp only;omega,by simp only;omega,by simp only[x9d];exact y,z,l[k+q],by simp[s],by
    simp only;rw[<-o,x7r (by simp;omega),List.take_set_of_le (by omega),List.getElem_set_self,x8w];rfl⟩,by simp only;omega,Le.of_eq (by simp only[avS,x8o];rfl)⟩
 .have d:k+q=l.length:=by omega
  rw[d,List.drop_length,XU,x9q]at o;conv=>whnf
  repeat' (first|((first|(refine iM fun _=>?_)|refine x7g rfl ?_|refine z3d i l.length rfl rfl (by omega) (by omega) ?_);conv=>whnf)|(apply bD<;>intro _<;>first|omega|conv=>whnf))
  refine OpK.clear QV rfl rfl rfl rfl rfl rfl rfl (by kernel_rfl) (by decide) ?_;conv=>whnf
  repeat' ((first|refine x7g rfl ?_|refine z3d 0 i rfl rfl (by omega) (by omega) ?_);conv=>whnf)
  have G:i=(NH l).length:=by rw[<-o];simp;omega
  exact⟨_,z2r (by rw[<-G];rfl),rfl,by rw[z0q,<-o];simp[avS,List.map_take]⟩
def WC(l:List Step):List Step:=NH (JZ l)
def Pa(l:List Step)(i:∀s∈l,okSt s)(h:l.length<=1000000000):
  SpecH prog 182 [.hd 1000 0 l.length] [(1000,.own 232 3 (avS l))] (fun r H=>r=.hd 1000 0 (WC l).length/\H=[(1000,.own 232 3 (avS (WC l)))]):=by
 refine sH Lx func182 rfl call182 ?_;conv=>whnf
 repeat' (first|(refine cH [(1000,1000)] 0 (Jw l i h) ?_;conv=>whnf)|(refine cH [(1000,1000)] 0 (Qx (JZ l) (by rw[Z6];exact h)) ?_ (ha:=(x8y (z2r (by rw[Z6];rfl)) (x8y (x8z _) z0v)));conv=>whnf))
 exact⟨_,x8z _,rfl,rfl⟩
def VR(h:Sheet)(f:Pr)(it:Item):List Int:=
 if it.s.kind=5 then [LR it.s.L it.next,LR it.s.M it.next]
 else if it.s.kind=6 then [LR it.s.L it.s.id,it.next]
 else if it.s.kind=7 then [((h.l[(it.loop-1).toNat]?).map Item.next).getD 0]
 else if it.s.kind=8 then [it.loop]
 else if it.s.kind=9 then [-1]
 else if it.s.kind=10 then [(atB f it.s.name).1]
 else [it.next]
def G4(l:List S)(o:Int):SpecP prog 270 [eSs l,.int .i64 o] (fun r=>r=.int .i64 (LR l o)):=by
 unfold eSs;rw[S.avs_eq];exact Ai l o
def Um(p:Pg)(j:Nat)(f:Pr)(w:p.A[j]?=some f)(v:cntP p.A<=1000)(it:Item)(x:it.D=j)(q:it.s.kind=7->1<=it.loop/\it.loop<=(sheetOf p).l.length):SpecP prog 215 [.ip (sheetOf p).cells,.agg it.cells] (fun r=>r=QB (VR (sheetOf p) f it)):=by
 refine sB Ql func215 rfl call215 ?_;conv=>whnf
 have t:=(QU p).2.2.2.1;have y:it.s.kind=7->∃u,(sheetOf p).l[(it.loop-1).toNat]?=some u/\((sheetOf p).l.map fun i=>AV.agg i.cells)[(it.loop-1).toNat]?=some (.agg u.cells):=fun h=>by
  have:=q h;have k:(it.loop-1).toNat<(sheetOf p).l.length:=by omega
  exact⟨_,x7x k,by rw[x7k,x7x k];rfl⟩
 repeat' (first|((first|refine dA ?_|refine x7g rfl ?_|refine aD ?_|refine bP ?_|refine wI ?_|(refine CallK.pure (HV p j f w v it.s.name) (.cons (Sub.refl _) (.cons (Sub.int x) (.cons (Sub.refl _) .nil))) ?_;rintro _ rfl)|refine BsK.pureL rfl rfl ?_|refine cP (G4 it.s.L _) ?_|refine cP (G4 it.s.M _) ?_|(obtain⟨u,n,o⟩:=y (by assumption);refine IdxK.at (by have:=q (by assumption);omega) o rfl ?_));conv=>whnf)|(apply bD<;>intro _<;>first|omega|conv=>whnf))
 all_goals first
  |exact RetK.p (by unfold VR;rw[if_neg (by assumption),if_neg (by assumption),if_pos (by assumption),n];rfl)
  |exact RetK.p (by unfold VR;rw[if_pos (by assumption)];rfl)
  |exact RetK.p (by unfold VR;rw[if_neg (by assumption),if_pos (by assumption)];rfl)
  |exact RetK.p (by unfold VR;rw[if_neg (by assumption),if_neg (by assumption),if_neg (by assumption),if_pos (by assumption)];rfl)
  |exact RetK.p (by unfold VR;rw[if_neg (by assumption),if_neg (by assumption),if_neg (by assumption),if_neg (by assumption),if_pos (by assumption)];rfl)
  |exact RetK.p (by unfold VR;rw[if_neg (by assumption),if_neg (by assumption),if_neg (by assumption),if_neg (by assumption),if_neg (by assumption),if_pos (by assumption)];rfl)
  |exact RetK.p (by unfold VR;rw[if_neg (by assumption),if_neg (by assumption),if_neg (by assumption),if_neg (by assumption),if_neg (by assumption),if_neg (by assumption)];rfl)
def QF(p:Pg)(j:Nat)(f:Pr):List Step:=
 ⟨0,if QP p.A j<QP p.A j+cntL f.body then((QP p.A j:Nat)+1:Int)else -1,1⟩::(itL j 0 (-1) 0 (QP p.A j) f.body).flatMap fun it=>(VR (sheetOf p) f it).map (Step.mk it.s.id · 1)
def itsOf(p:Pg)(j:Nat)(f:Pr):List Item:=itL j 0 (-1) 0 (QP p.A j) f.body
def Wg(p:Pg)(j:Nat)(f:Pr)(g:p.A[j]?=some f)(G:cntP p.A<=1000)(I:∀it∈itsOf p j f,it.s.kind=7->1<=it.loop/\it.loop<=(sheetOf p).l.length)(z:∀s∈QF p j f,okSt s):SpecP prog 158 [.ip (sheetOf p).cells,.int .i64 j] (fun r=>r=eSteps (WC (QF p j f))):=by
 refine sB MH func158 rfl call158 ?_;conv=>whnf
 obtain⟨_,_,_,J,E⟩:=QU p;obtain⟨B,d,U,_⟩:=E j f g;repeat' ((first|(refine iM fun _=>?_)|refine x7g rfl ?_|refine aD ?_|refine cP (HS (sheetOf p) j _ _ B d) ?_|refine cP (Sd p g G) ?_|refine z3o (fun x F=>by rcases x7y.1 F with rfl;rfl) rfl ?_);conv=>whnf)
 have t:QF p j f=⟨0,if QP p.A j<QP p.A j+cntL f.body then((QP p.A j:Nat)+1:Int)else -1,1⟩::(itsOf p j f).flatMap fun it=>(VR (sheetOf p) f it).map (Step.mk it.s.id · 1):=rfl;have o:itL j 0 (-1) 0 (QP p.A j) f.body=itsOf p j f:=rfl;have a:∀it∈itsOf p j f,it.D=j:=fun it h=>HJ _ _ _ _ _ _ it h;have e:(itsOf p j f).length<=1000:=by rw[<-o,ZC];omega
 rw[o];generalize itsOf p j f=its at I t a e⊢;have R:=VV its;refine LoopK.inv QV (fun i:Nat×List Step=>⟨[(0,.p (.ip (sheetOf p).cells)),(5,.hd 0 0 i.2.length),(17,.p (VL its)),(18,.p (.int .i64 (its.map fun i=>AV.agg i.cells).length)),(19,.j i.1)],[(0,.own 232 3 (avS i.2))]⟩)
  (fun i=>i.1<=its.length/\i.2.length<=1+2*i.1/\i.2++(its.drop i.1).flatMap (fun it=>(VR (sheetOf p) f it).map (Step.mk it.s.id · 1))=QF p j f) (fun i=>its.length-i.1) (0,[⟨0,if QP p.A j<QP p.A j+cntL f.body then((QP p.A j:Nat)+1:Int)else -1,1⟩]) (Le.of_eq rfl) ⟨x7p _,by simp,by rw[t];rfl⟩ ?_
 rintro⟨m,n⟩ ⟨K,L,u⟩;simp only at K L u⊢;rcases x7m m its.length with b|b;rotate_left 1
 .have w:n=QF p j f:=by
   rw[x7e b]at u;simpa using u
  rw[<-w]at z⊢;conv=>whnf
  repeat' (first|(apply bD<;>intro _<;>first|omega|conv=>whnf)|(refine cH rH2 0 (Pa n z (by omega)) ?_;conv=>whnf))
  exact⟨_,.hd rfl (by simp[avS]),rfl⟩
 have c:(VR (sheetOf p) f its[m]).length<=2:=by unfold VR;split<;>(try split)<;>(try split)<;>(try split)<;>(try split)<;>(try split)<;>simp
 rw[KW b]at u;have y:=x7l b;conv=>whnf
 repeat' (first|((first|(refine iM fun _=>?_)|refine x7g rfl ?_|(refine iA fun _=>?_)|refine cP (Um p j f g G its[m] (a _ y) (I _ y)) ?_);conv=>whnf)|(apply bD<;>intro _<;>first|omega|conv=>whnf))
 generalize Q:VR (sheetOf p) f its[m]=gs at c u⊢;have H:(gs.map (AV.int .i64)).length=gs.length:=x7z _;refine LoopK.inv QV (fun i:Nat×List Step=>⟨[(0,.p (.ip (sheetOf p).cells)),(5,.hd 0 0 i.2.length),(7,.p (.ip its[m].cells)),(17,.p (VL its)),(18,.p (.int .i64 (its.map fun i=>AV.agg i.cells).length)),(19,.j m),(25,.p (QB gs)),(26,.p (.int .i64 (gs.map (AV.int .i64)).length)),(27,.j i.1)],[(0,.own 232 3 (avS i.2))]⟩)
  (fun i=>i.1<=gs.length/\i.2.length<=n.length+i.1/\i.2++((gs.drop i.1).map (Step.mk its[m].s.id · 1)++(its.drop (m+1)).flatMap (fun it=>(VR (sheetOf p) f it).map (Step.mk it.s.id · 1)))=QF p j f) (fun i=>gs.length-i.1) (0,n) (Le.of_eq rfl) ⟨x7p _,by simp,u⟩ ?_
 rintro⟨q,k⟩ ⟨M,O,v⟩;simp only at M O v⊢;rcases x7m q gs.length with C|C;rotate_left 1
 .rw [x7e C]at v;conv=>whnf
  repeat' (first|(refine wI ?_;conv=>whnf)|(apply bD<;>intro _<;>first|omega|conv=>whnf))
  exact⟨(m+1,k),⟨by simp only;omega,by simp only;omega,by simpa using v⟩,by simp only;omega,Le.of_eq rfl⟩
 rw[x8b C,x8v]at v;conv=>whnf
 repeat' (first|((first|refine x7g rfl ?_|refine aD ?_|refine bP ?_|(refine iA fun _=>?_)|refine wI ?_|refine z0w (by simp[avS]) rfl (by show(k.length+1)*24<=140737488355328;omega) (by show k.length+1<=9223372036854775807;omega) (fun x F=>by rcases x7y.1 F with rfl;exact⟨rfl,rfl⟩) ?_);conv=>whnf)|(apply bD<;>intro _<;>first|omega|conv=>whnf))
 exact⟨(q+1,k++[⟨its[m].s.id,gs[q],1⟩]),⟨by simp only;omega,by simp;omega,by simpa using v⟩,by simp only;omega,Le.of_eq (by simp only[avS,x7u,x7n];rfl)⟩
def bv:Bool->AV
 |true=>.tt
 |false=>.ff
structure Way where
 p:Pg
 j:Nat
 n:Int
 real:List Step
 live:List Bool
def Way.cells(w:Way):List AV:=[.ip (sheetOf w.p).cells,.int .i64 w.j,.int .i64 w.n,eSteps w.real,.sl (w.live.map bv)]
def q2g(p:Pg)(j:Nat)(n:Int)(h:AV)(i:List AV):Heap:=[(1000,.obj 127 [.p (.ip (sheetOf p).cells),.p (.int .i64 j),.p (.int .i64 n),.p h,.hd 2000 0 i.length]),(2000,.own 4 1 i)]
def UV(h i n x:Int):Int:=if x=0 then 0 else if x = -1 then n-1 else if h<=x/\x<i then x-h+1 else -1
def loI(p:Pg)(j:Nat):Int:=(QP p.A j:Nat)+1
def hiI(p:Pg)(j:Nat)(f:Pr):Int:=(QP p.A j+cntL f.body:Nat)+1
def Qh(w:Way)(f:Pr)(o:w.p.A[w.j]?=some f)(s:cntP w.p.A<=1000)(t:0<=w.n/\w.n<=5000)(x:Int):SpecP prog 181 [.ip w.cells,.int .i64 x] (fun r=>r=.int .i64 (UV (loI w.p w.j) (hiI w.p w.j f) w.n x)):=by
 refine sB FD func181 rfl call181 ?_;conv=>whnf
 obtain⟨_,_,_,l,k⟩:=QU w.p;obtain⟨i,h,q,_⟩:=k w.j f o;repeat' (first|((first|refine dA ?_|refine wI ?_|(refine IdxK.at rfl (VM i) rfl ?_)|(refine IdxK.at rfl (VM h) rfl ?_));conv=>whnf)|(apply bD<;>intro _<;>first|omega|conv=>whnf))
 all_goals exact RetK.int (by unfold UV loI hiI;(repeat' split)<;>omega)
def B1(p:Pg)(j:Nat)(f:Pr)(n:Int)(h:AV)(q:List AV)(s:p.A[j]?=some f)(u:cntP p.A<=1000)(v:0<=n/\n<=5000)(x:Int):
  SpecH prog 181 [.ptr 1000 0,.j x] (q2g p j n h q) (fun r H=>r=.p (.int .i64 (UV (loI p j) (hiI p j f) n x))/\H=q2g p j n h q):=by
 obtain⟨_,_,_,o,l⟩:=QU p;obtain⟨k,i,t,_⟩:=l j f s;refine sH FD func181 rfl call181 ?_;conv=>whnf
 repeat' (first|((first|refine dA ?_|refine wI ?_|(refine IdxK.at rfl (VM k) rfl ?_)|(refine IdxK.at rfl (VM i) rfl ?_));conv=>whnf)|(apply bD<;>intro _<;>first|omega|conv=>whnf))
 all_goals exact⟨_,z1u (Sub.int (by unfold UV loI hiI;(repeat' split)<;>omega)),rfl,rfl⟩
def avP(l:List (Int×Int)):List AV:=l.map fun x=>.agg [.int .i64 x.1,.int .i64 x.2]
def ixP(p:Pg)(j:Nat)(f:Pr)(n:Int)(s:Step):Int×Int:=(UV (loI p j) (hiI p j f) n s.src,UV (loI p j) (hiI p j f) n s.dst)
def JU(w:Way)(f:Pr)(y:w.p.A[w.j]?=some f)(v:cntP w.p.A<=1000)(z:0<=w.n/\w.n<=5000)(l:List Step)(t:l.length<=1000000):SpecP prog 110 [.ip w.cells,eSteps l] (fun r=>r=.sl (avP (l.map (ixP w.p w.j f w.n)))):=by
 refine sB FB func110 rfl call110 ?_;conv=>whnf
 repeat' (refine iM fun _=>?_;conv=>whnf)
 have b:(l.map fun s=>AV.agg s.cells).length=l.length:=x7z _;refine LoopK.inv QV (fun i:Nat×List (Int×Int)=>⟨[(0,.p (.ip w.cells)),(5,.hd 0 0 i.2.length),(8,.p (eSteps l)),(9,.p (.int .i64 (l.map fun s=>AV.agg s.cells).length)),(10,.j i.1)],[(0,.own 233 2 (avP i.2))]⟩)
  (fun i=>i.1<=l.length/\i.2=(l.take i.1).map (ixP w.p w.j f w.n)) (fun i=>l.length-i.1) (0,[])
  (Le.mk [(0,.own 233 2 [])] (by simp[Chunk.new0];rfl) (by simp) (by simp) (.r (.cons (.nil x7v) (.r (.r (.r .nil))))) (.new x7v .nil))
  ⟨x7p _,rfl⟩ ?_
 rintro⟨m,h⟩ ⟨u,k⟩;simp only at u k⊢;rcases x7m m l.length with o|o;rotate_left 1
 .rw [x7a o]at k;subst k;conv=>whnf
  repeat' (apply bD<;>intro _<;>first|omega|conv=>whnf)
  exact⟨_,.hd rfl (by simp[avP]),rfl⟩
 have q:h.length=m:=by rw[k];simp;omega
 conv=>whnf
 repeat' (first|((first|refine dA ?_|refine x7g rfl ?_|refine aD ?_|refine bP ?_|(refine iA fun _=>?_)|refine wI ?_|refine cP (Qh w f y v z _) ?_|refine z0w (by simp[avP]) rfl (by show(h.length+1)*16<=140737488355328;omega) (by show h.length+1<=9223372036854775807;omega) (fun x a=>by rcases x7y.1 a with rfl;exact⟨rfl,rfl⟩) ?_);conv=>whnf)|(apply bD<;>intro _<;>first|omega|conv=>whnf))
 exact⟨(m+1,h++[ixP w.p w.j f w.n l[m]]),⟨by simp only;omega,by simp only;rw[k,x7r o,x7n];rfl⟩,by simp only;omega,Le.of_eq (by simp only[avP,x7u,x7n];rfl)⟩
def Zf{P:Program}{f:FuncId}{args:List LV}{H n:Heap}{e:TypeId}{sz:Nat}{Q:List AV->Prop}(z:PQ 0 n fun H=>H=n)(h:SpecH P f args H (fun r H'=>∃es,r=.hd 0 0 es.length/\H'=(0,.own e sz es)::n/\Q es)):SpecH P f args H (fun r H'=>∃es,r=.p (.sl es)/\H'=n/\Q es):=by
 refine⟨h.go,fun σ β w a D F G=>(h.ok σ β w a D F G).mono fun M w' L=>?_⟩;obtain⟨l,u,σ',β',H',J,⟨es,rfl,rfl,I⟩,y,v,q⟩:=L;obtain⟨s',rfl,B⟩:=Le.row (N:=1) (s:=⟨[(0,.hd 0 0 es.length)],(0,.own e sz es)::n⟩) (k:=0) (e:=e) (sz:=sz) (es:=es) (zs:=[0]) rfl (K:=fun s=>s=⟨[(0,.p (.sl es))],n⟩) (by
  show LenK es.length es _;refine⟨rfl,?_⟩;show PQ 0 n fun H=>(⟨[(0,.p (.sl es))],H⟩:St)=⟨[(0,.p (.sl es))],n⟩;have key:∀{b:Heap}{K d:Heap->Prop},(∀H,K H->d H)->PQ 0 b K->PQ 0 b d:=fun {b}=>by
   induction b with
   |nil=>intro K d o h;exact o _ h
   | cons x r g=>
     intro K d o h;obtain⟨j,c⟩:=x;simp only[PQ]at h⊢;cases C:j==0 with
     | true=>
       simp only[C,x7c]at h⊢;exact g o h
     | false=>
       simp only[C,x7o]at h⊢;cases c with
       |obj e ls=>simp only[WT]at h⊢;exact g (fun H hH=>o _ hH) h
       |own e sz es=>exact g (fun H hH=>o _ hH) h
       |ext x=>exact g (fun H hH=>o _ hH) h
  exact key (fun H hH=>by rw[hH]) z)
 obtain⟨σ2,β2,t,A⟩:=B σ' β' {tmps:=#[u],defers:=[]} w' ⟨rfl,rfl,fun i=>by
  match i with
  |0=>simpa[getS]using y
  |i+1=>exact .p (by simpa[getS]using Rep.any _),v⟩
 exact⟨.p (.sl es),u,σ2,β2,n,J,⟨es,rfl,rfl,I⟩,by simpa[getS]using t.E 0,t.heap,q.trans A⟩
def B2(p:Pg)(j:Nat)(f:Pr)(n:Int)(h:AV)(q:List AV)(z:p.A[j]?=some f)(y:cntP p.A<=1000)(a:0<=n/\n<=5000)(l:List Step)(v:l.length<=1000000):
  SpecH prog 110 [.ptr 1000 0,.p (eSteps l)] (q2g p j n h q) (fun r H=>∃es,r=.p (.sl es)/\H=q2g p j n h q/\es=avP (l.map (ixP p j f n))):=by
 refine Zf (e:=233) (sz:=2) rfl ?_;refine sH FB func110 rfl call110 ?_;conv=>whnf
 repeat' (refine iM fun _=>?_;conv=>whnf)
 have c:(l.map fun s=>AV.agg s.cells).length=l.length:=x7z _;refine LoopK.inv QV (fun i:Nat×List (Int×Int)=>⟨[(0,.ptr 1000 0),(5,.hd 0 0 i.2.length),(8,.p (eSteps l)),(9,.p (.int .i64 (l.map fun s=>AV.agg s.cells).length)),(10,.j i.1)],(0,.own 233 2 (avP i.2))::q2g p j n h q⟩)
  (fun i=>i.1<=l.length/\i.2=(l.take i.1).map (ixP p j f n)) (fun i=>l.length-i.1) (0,[])
  (Le.mk [(0,.own 233 2 [])] (by simp[Chunk.new0];rfl) (by simp) (by simp[q2g]) (.r (.cons (.nil x7v) (.r (.r (.r .nil))))) (.new x7v (.cons rfl (.refl _) (.cons rfl (.refl _) .nil))))
  ⟨x7p _,rfl⟩ ?_
 rintro⟨m,k⟩ ⟨w,o⟩;simp only at w o⊢;rcases x7m m l.length with t|t;rotate_left 1
 .rw [x7a t]at o;subst o;conv=>whnf
  repeat' (apply bD<;>intro _<;>first|omega|conv=>whnf)
  exact⟨_,x8z _,avP (l.map (ixP p j f n)),by simp[avP],rfl,rfl⟩
 have u:k.length=m:=by rw[o];simp;omega
 conv=>whnf
 repeat' (first|((first|refine dA ?_|refine x7g rfl ?_|refine aD ?_|refine bP ?_|(refine iA fun _=>?_)|refine wI ?_|refine z0w (by simp[avP]) rfl (by show(k.length+1)*16<=140737488355328;omega) (by show k.length+1<=9223372036854775807;omega) (fun x b=>by rcases x7y.1 b with rfl;exact⟨rfl,rfl⟩) ?_);conv=>whnf)|(apply bD<;>intro _<;>first|omega|conv=>whnf)|(refine cH [(1000,1000),(2000,2000)] 0 (B1 p j f n h q z y a _) ?_;conv=>whnf))
 exact⟨(m+1,k++[ixP p j f n l[m]]),⟨by simp only;omega,by simp only;rw[o,x7r t,x7n];rfl⟩,by simp only;omega,Le.mk [] (by simp) (by simp) (by simp[q2g]) (.r (.cons (.of_eq (by simp only[x7u];rfl)) (.r (.r (.cons (.of_eq rfl) .nil))))) (.cons rfl (.of_eq (by simp only[avP,x7n];rfl)) (.cons rfl (.refl _) (.cons rfl (.refl _) .nil)))⟩
def Rq{l:List Int}{x:Int}(h:l.Pairwise (· <= ·)):(W0 l (l.countP (· < x)) x).Pairwise (· <= ·):=by
 induction l with
 |nil=>simp[W0]
 | cons a r o=>
   obtain⟨j,n⟩:=z0a.1 h;by_cases ha:a<x
   .have e:W0 (a::r) ((a::r).countP (· < x)) x=a::W0 r (r.countP (· < x)) x:=by
     unfold W0;rw[List.countP_cons_of_pos (by simpa using ha)];rfl
    rw[e,z0a];refine⟨fun b i=>?_,o n⟩;unfold W0 at i;rcases x7b.1 i with i|i
    .exact j b (z2i i)
    .rcases x7f.1 i with rfl|i
     .omega
     .exact j b (List.mem_of_mem_drop i)
   .have k:(a::r).countP (· < x)=0:=by
     rw[List.countP_eq_zero];intro b i;rcases x7f.1 i with rfl|i
     .simpa using ha
     .have:=j b i;simp;omega
    rw[k];show(x::a::r).Pairwise (· <= ·);refine z0a.2 ⟨fun b i=>?_,h⟩;rcases x7f.1 i with rfl|i
    .omega
    .have:=j b i;omega
def Y4(n m:Nat)(N:List (List Int)):Prop:=N.length=n/\∀r∈N,r.Pairwise (· <= ·)/\r.length<=m
def Nq{n:Nat}{N:List (List Int)}(h:Y4 n m N)(a:Nat)(b:Int):Y4 n (m+1) (Gs N a b):=by
 unfold Gs;refine⟨by rw[x9d];exact h.1,fun r j=>?_⟩;rcases z1f j with j|rfl
 .obtain ⟨i,k⟩:=h.2 r j;exact⟨i,by omega⟩
 .rcases x7m a N.length with ha|ha
  .have l:N.getD a []∈N:=by
    rw[x7w,x7x ha];exact x7l ha
   obtain⟨i,k⟩:=h.2 _ l;exact⟨Rq i,by rw[Vq z2c];omega⟩
  .have:N.getD a []=[]:=by simp[x9z ha]
   rw[this];exact⟨by simp[W0],by simp[W0]⟩
def G8{n j:Nat}{N:List (List Int)}(h:Y4 n m N)(k:m<=j):Y4 n j N:=⟨h.1,fun r i=>⟨(h.2 r i).1,x8m (h.2 r i).2 k⟩⟩
def B9(n:Nat)(g:List (List Int)×List (List Int))(e:Int×Int):List (List Int)×List (List Int):=
 bif ZB n e.1&&ZB n e.2 && !(g.1.getD e.1.toNat []).contains e.2 then(Gs g.1 e.1.toNat e.2,Gs g.2 e.2.toNat e.1)else g
def QL(n:Nat)(l:List (Int×Int)):List (List Int)×List (List Int):=l.foldl (B9 n) (List.replicate n [],List.replicate n [])
def eMat(m:List (List Int)):AV:=.sl ((avI m).map .sl)
def VW(g:List (List Int)×List (List Int)):AV:=.ip [eMat g.1,eMat g.2]
def U1(n:Nat)(g:List (List Int)×List (List Int))(e:Int×Int):(B9 n g e).1=bif ZB n e.1&&ZB n e.2 && !(g.1.getD e.1.toNat []).contains e.2 then Gs g.1 e.1.toNat e.2 else g.1:=by
 unfold B9;cases ZB n e.1&&ZB n e.2 && !(g.1.getD e.1.toNat []).contains e.2<;>rfl
def Kj(n:Nat)(g:List (List Int)×List (List Int))(e:Int×Int):(B9 n g e).2=bif ZB n e.1&&ZB n e.2 && !(g.1.getD e.1.toNat []).contains e.2 then Gs g.2 e.2.toNat e.1 else g.2:=by
 unfold B9;cases ZB n e.1&&ZB n e.2 && !(g.1.getD e.1.toNat []).contains e.2<;>rfl
def O3{n:Nat}{g:List (List Int)×List (List Int)}(h:Y4 n m g.1/\Y4 n m g.2)(e:Int×Int):Y4 n (m+1) (B9 n g e).1/\Y4 n (m+1) (B9 n g e).2:=by
 rw[U1,Kj];cases ZB n e.1&&ZB n e.2 && !(g.1.getD e.1.toNat []).contains e.2
 .exact ⟨G8 h.1 (by omega),G8 h.2 (by omega)⟩
 .exact ⟨Nq h.1 _ _,Nq h.2 _ _⟩
def NN{n:Nat}{l:List (Int×Int)}(h:m<l.length):QL n (l.take (m+1))=B9 n (QL n (l.take m)) l[m]:=by
 unfold QL;rw[x7r h,z2h];rfl
theorem BG{n:Nat}{l:List (Int×Int)}:∀{m:Nat},m<=l.length->Y4 n m (QL n (l.take m)).1/\Y4 n m (QL n (l.take m)).2
 | 0,_=>by
   have:Y4 n 0 (List.replicate n []):=⟨by simp,fun r i=>by rw[z0r i];simp⟩;exact⟨this,this⟩
 | m+1,h=>by
   rw[NN h];exact O3 (BG (by omega)) _
def Gd{h:Nat}{sl:List (Nat×LV)}(n a b:Nat)(k:(sl.all fun x=>x.2.xfree 0)=true)(l:(sl.all fun x=>x.2.xfree 1)=true):
  Le h ⟨sl,[(2,.obj 256 [.hd a 0 n,.hd b 0 n]),(1,.own 54 1 (List.replicate n .nils)),(0,.own 54 1 (List.replicate n .nils))]⟩
   ⟨sl,[(2,.obj 256 [.hd a 0 n,.hd b 0 n]),(1,.ext (.mat 54 3 1 (List.replicate n []) [])),(0,.ext (.mat 54 3 1 (List.replicate n []) []))]⟩:=by
 have o:=ME (N:=h) (sl:=sl) (H:=[(2,.obj 256 [.hd a 0 n,.hd b 0 n]),(1,.own 54 1 (List.replicate n .nils)),(0,.own 54 1 (List.replicate n .nils))])
  (H':=[(2,.obj 256 [.hd a 0 n,.hd b 0 n]),(1,.own 54 1 (List.replicate n .nils)),(0,.ext (.mat 54 3 1 (List.replicate (List.replicate n AV.nils).length []) []))])
  0 3 1 (e:=54) (es:=List.replicate n .nils) rfl (fun x j=>z0r j) rfl k rfl rfl (by simp[KL])
 have i:=ME (N:=h) (sl:=sl) (H:=[(2,.obj 256 [.hd a 0 n,.hd b 0 n]),(1,.own 54 1 (List.replicate n .nils)),(0,.ext (.mat 54 3 1 (List.replicate (List.replicate n AV.nils).length []) []))])
  (H':=[(2,.obj 256 [.hd a 0 n,.hd b 0 n]),(1,.ext (.mat 54 3 1 (List.replicate (List.replicate n AV.nils).length []) [])),(0,.ext (.mat 54 3 1 (List.replicate (List.replicate n AV.nils).length []) []))])
  1 3 1 (e:=54) (es:=List.replicate n .nils) rfl (fun x j=>z0r j) rfl l rfl rfl (by simp[KL])
 have:=o.trans i;simpa using this
def Y6(n:Nat)(y:n<=5000)(l:List (Int×Int))(w:l.length<=1000000):SpecP prog 216 [.int .i64 n,.sl (avP l)] (fun r=>r=VW (QL n l)):=by
 refine sB Lv func216 rfl call216 ?_;conv=>whnf
 repeat' (first|((first|(refine iM fun _=>?_)|refine dA ?_|refine x7g rfl ?_|refine aR ?_|refine z2b n rfl (by show 24*n<=140737488355328;omega) (by unfold maxLen;omega) ?_);conv=>whnf)|(apply bD<;>intro _<;>first|omega|conv=>whnf)|(refine x7g ?_ ?_<;>conv=>whnf))
 all_goals have z:(avP l).length=l.length:=x7z _
 .refine LoopK.inv QV (fun m:Nat=>⟨[(5,.ptr (0+1+1) 0),(20,.p (.sl (avP l))),(21,.p (.int .i64 (avP l).length)),(22,.j m)],[(0+1+1,.obj 256 [.hd 0 0 n,.hd (0+1) 0 n]),(0,.ext (.mat 54 3 1 (avI (QL n (l.take m)).1) [])),(0+1,.ext (.mat 54 3 1 (avI (QL n (l.take m)).2) []))]⟩)
   (fun m=>m<=l.length) (fun m=>l.length-m) 0 (by
     refine Le.trans (Gd n _ _ rfl rfl) ?_;exact Le.mk [] (by simp) (by simp) (by simp) (.r (.r (.r (.r .nil)))) (.cons rfl (.refl _) (.cons rfl (.of_eq (by simp[avI,QL])) (.cons rfl (.of_eq (by simp[avI,QL])) .nil)))) (x7p _) ?_
  rintro m v;obtain⟨g1,h⟩:=BG (n:=n) v;rcases x7m m l.length with q|q
  .have u:(avP l)[m]?=some (.agg [.int .i64 l[m].1,.int .i64 l[m].2]):=by simp[avP,q]
   conv=>whnf
   repeat' (first|((first|refine x7g rfl ?_|refine wI ?_|(refine IdxK.at rfl u rfl ?_)|refine x8p 0 rfl (by decide) ?_|refine x8p 1 rfl (by decide) ?_);conv=>whnf)|(apply bD<;>intro _<;>first|omega|conv=>whnf)|(refine cJ [(1000,0+1+1),(2001,0),(2002,1)] 0 (Nx n _ _ l[m].1 l[m].2 g1.1 h.1 y (fun r s=>⟨(g1.2 r s).1,by have:=(g1.2 r s).2;omega⟩) (fun r s=>⟨(h.2 r s).1,by have:=(h.2 r s).2;omega⟩)) ?_;rintro l' H' ⟨t,rfl,rfl⟩;conv=>whnf))
   exact⟨m+1,q,by omega,Le.of_eq (by rw[NN q,U1,Kj];rfl)⟩
  .rw [x7a q]at g1 h⊢;conv=>whnf
   repeat' (apply bD<;>intro _<;>first|omega|conv=>whnf)
   exact⟨_,.ptr (cs:=[eMat (QL n l).1,eMat (QL n l).2]) rfl rfl (fun i x c k o=>by
    match i,k,o with
    |0,k,o=>cases k;cases o;exact .mat rfl (by rw[avI,x7z,g1.1])
    |1,k,o=>cases k;cases o;exact .mat rfl (by rw[avI,x7z,h.1])),rfl⟩
 .refine LoopK.inv QV (fun m:Nat=>⟨[(5,.ptr (0+1+1) 0),(20,.p (.sl (avP l))),(21,.p (.int .i64 (avP l).length)),(22,.j m)],[(0+1+1,.obj 256 [.hd (0+1) 0 n,.hd 0 0 n]),(0+1,.ext (.mat 54 3 1 (avI (QL n (l.take m)).1) [])),(0,.ext (.mat 54 3 1 (avI (QL n (l.take m)).2) []))]⟩)
   (fun m=>m<=l.length) (fun m=>l.length-m) 0 (by
     refine Le.trans (Gd n _ _ rfl rfl) ?_;exact Le.mk [] (by simp) (by simp) (by simp) (.r (.r (.r (.r .nil)))) (.cons rfl (.refl _) (.cons rfl (.of_eq (by simp[avI,QL])) (.cons rfl (.of_eq (by simp[avI,QL])) .nil)))) (x7p _) ?_
  rintro m v;obtain⟨g1,h⟩:=BG (n:=n) v;rcases x7m m l.length with q|q
  .have u:(avP l)[m]?=some (.agg [.int .i64 l[m].1,.int .i64 l[m].2]):=by simp[avP,q]
   conv=>whnf
   repeat' (first|((first|refine x7g rfl ?_|refine wI ?_|(refine IdxK.at rfl u rfl ?_)|refine x8p 0 rfl (by decide) ?_|refine x8p 1 rfl (by decide) ?_);conv=>whnf)|(apply bD<;>intro _<;>first|omega|conv=>whnf)|(refine cJ [(1000,0+1+1),(2001,1),(2002,0)] 0 (Nx n _ _ l[m].1 l[m].2 g1.1 h.1 y (fun r s=>⟨(g1.2 r s).1,by have:=(g1.2 r s).2;omega⟩) (fun r s=>⟨(h.2 r s).1,by have:=(h.2 r s).2;omega⟩)) ?_;rintro l' H' ⟨t,rfl,rfl⟩;conv=>whnf))
   exact⟨m+1,q,by omega,Le.of_eq (by rw[NN q,U1,Kj];rfl)⟩
  .rw [x7a q]at g1 h⊢;conv=>whnf
   repeat' (apply bD<;>intro _<;>first|omega|conv=>whnf)
   exact⟨_,.ptr (cs:=[eMat (QL n l).1,eMat (QL n l).2]) rfl rfl (fun i x c k o=>by
    match i,k,o with
    |0,k,o=>cases k;cases o;exact .mat rfl (by rw[avI,x7z,g1.1])
    |1,k,o=>cases k;cases o;exact .mat rfl (by rw[avI,x7z,h.1])),rfl⟩
def KG(st:List Bool×List Int)(b:Int):List Bool×List Int:=bif st.1.getD b.toNat false then st else(st.1.set b.toNat true,st.2++[b])
def ZW(rows:List (List Int)):Nat->Nat->List Bool×List Int->List Bool×List Int
 |0,_,st=>st
 | k+1,i,st=>match st.2[i]?with
   |some a=>ZW rows k (i+1) ((rows.getD a.toNat []).foldl KG st)
   |none=>st
def wkInv(n:Nat)(st:List Bool×List Int):Prop:=st.1.length=n/\st.2.length<=st.1.count true/\∀x∈st.2,0<=x/\x<n
def Q9{n:Nat}{st:List Bool×List Int}(h:wkInv n st){b:Int}(p:0<=b/\b<n):wkInv n (KG st b):=by
 unfold KG;obtain⟨k,o,l⟩:=h;have i:b.toNat<st.1.length:=by omega
 cases r:st.1.getD b.toNat false with
 |true=>exact⟨k,o,l⟩
 | false=>
   have q:st.1[b.toNat]=false:=by simpa[i]using r
   refine⟨by simpa using k,?_,fun x j=>?_⟩
   .simp only[x7o,x7u,x8k];rw[List.count_set i,q];simp;omega
   .rcases x7b.1 j with j|j
    .exact l x j
    .rw [x7y.1 j];exact p
def AZ{n:Nat}{l:List Int}:∀{st:List Bool×List Int},wkInv n st->(∀b∈l,0<=b/\b<n)->wkInv n (l.foldl KG st):=by
 induction l with
 |nil=>intro st h _;exact h
 |cons b r k=>intro st h i;exact k (Q9 h (i b x7v)) fun c j=>i c (x7j _ j)
def DI{n:Nat}{st:List Bool×List Int}(h:wkInv n st):st.2.length<=n:=by
 refine x8m h.2.1 ?_;rw[<-h.1];exact List.count_le_length
def XG(n:Nat)(rows:List (List Int)):Prop:=rows.length=n/\∀r∈rows,∀b∈r,0<=b/\b<n
def IH(st:List Bool×List Int):Heap:=[(1000,.own 4 1 (st.1.map bv)),(2000,.own 3 1 (st.2.map (.int .i64)))]
def G9(n:Nat)(J:n<=5000)(rows:List (List Int))(C:XG n rows)(st:List Bool×List Int)(I:wkInv n st):
  SpecH prog 218 [.p (eMat rows),.hd 1000 0 n,.hd 2000 0 st.2.length] (IH st) (fun r H=>r=.hd 2000 0 (ZW rows (n+1) 0 st).2.length/\H=IH (ZW rows (n+1) 0 st)):=by
 refine sH Bk func218 rfl call218 ?_;conv=>whnf
 skip
 refine LoopK.inv QV (fun x:Nat×List Bool×List Int=>⟨[(0,.p (eMat rows)),(1,.hd 1000 0 n),(2,.hd 2000 0 x.2.2.length),(7,.j x.1)],IH x.2⟩)
  (fun x=>wkInv n x.2/\x.1<=x.2.2.length/\ZW rows (n+1-x.1) x.1 x.2=ZW rows (n+1) 0 st) (fun x=>n-x.1) (0,st) (Le.of_eq rfl) ⟨I,x7p _,rfl⟩ ?_
 rintro⟨i,seen,h⟩ ⟨b,D,l⟩;simp only at b D l⊢;have f:=DI b;simp only at f;rw[show n+1-i=n-i+1 by omega,ZW]at l;rcases x7m i h.length with y|y;rotate_left 1
 .simp only[x9z y]at l;conv=>whnf
  repeat' (first|(refine iM fun _=>?_;conv=>whnf)|(apply bD<;>intro _<;>first|omega|conv=>whnf))
  exact⟨_,z2r (by rw[<-l]),rfl,by rw[<-l];rfl⟩
 simp only[x7x y]at l;have K:=b.2.2 _ (x7l y);have w:h[i].toNat<rows.length:=by rw[C.1];omega
 have a:((avI rows).map AV.sl)[h[i].toNat]?=some (.sl (rows[h[i].toNat].map (.int .i64))):=by simp[avI,w]
 have e:rows.getD h[i].toNat []=rows[h[i].toNat]:=by simp[w]
 rw[e]at l;have v:=C.2 _ (x7l w);conv=>whnf
 repeat' (first|((first|(refine iM fun _=>?_)|refine x7g rfl ?_|refine x8p i (by omega) (by omega) ?_|refine x9g i 0 (.int .i64 h[i]) (by omega) (by simp[y]) ?_|(refine IdxK.at (by omega) a rfl ?_));conv=>whnf)|(apply bD<;>intro _<;>first|omega|conv=>whnf))
 have g:(rows[h[i].toNat].map (AV.int .i64)).length<=9223372036854775807:=by assumption
 generalize rows[h[i].toNat]=row at v l g⊢;have G:(row.map (AV.int .i64)).length=row.length:=x7z _;refine LoopK.inv QV (fun x:Nat×List Bool×List Int=>⟨[(0,.p (eMat rows)),(1,.hd 1000 0 n),(2,.hd 2000 0 x.2.2.length),(7,.j i),(22,.p (.sl (row.map (.int .i64)))),(23,.p (.int .i64 (row.map (AV.int .i64)).length)),(24,.j x.1)],IH x.2⟩)
  (fun x=>wkInv n x.2/\h.length<=x.2.2.length/\x.1<=row.length/\ZW rows (n-i) (i+1) ((row.drop x.1).foldl KG x.2)=ZW rows (n+1) 0 st) (fun x=>row.length-x.1) (0,seen,h) (Le.of_eq rfl) ⟨b,x7s _,x7p _,l⟩ ?_
 rintro⟨q,k,t2⟩ ⟨t,A,E,u⟩;simp only at t A E u⊢;have z:=DI t;simp only at z;rcases x7m q row.length with c|c;rotate_left 1
 .rw [x7e c]at u;conv=>whnf
  repeat' (first|(refine wI ?_;conv=>whnf)|(apply bD<;>intro _<;>first|omega|conv=>whnf))
  exact⟨(i+1,k,t2),⟨t,by simp only;omega,by simp only;rw[show n+1-(i+1)=n-i by omega];exact u⟩,by simp only;omega,Le.of_eq rfl⟩
 rw[x8b c,z0b]at u;have F:=v _ (x7l c);have B:=Q9 t F;have o:row[q].toNat<k.length:=by have:=t.1;simp only at this;omega
 cases s:k.getD row[q].toNat false with
 | true=>
   have d:KG (k,t2) row[q]=(k,t2):=by unfold KG;simp only[s,x7c]
   have e2:(k.map bv)[row[q].toNat]?=some .tt:=by
    have:k[row[q].toNat]=true:=by simpa[o]using s
    simp[o,this,bv]
   rw[d]at u;conv=>whnf
   repeat' (first|((first|refine x7g rfl ?_|(refine iA fun _=>?_)|refine wI ?_|refine x8p row[q].toNat (by omega) (by have:=t.1;simp only at this;omega) ?_|refine x9g row[q].toNat 0 .tt (by omega) e2 ?_);conv=>whnf)|(apply bD<;>intro _<;>first|omega|conv=>whnf))
   all_goals exact⟨(q+1,k,t2),⟨t,A,by simp only;omega,u⟩,by simp only;omega,Le.of_eq rfl⟩
 | false=>
   have d:KG (k,t2) row[q]=(k.set row[q].toNat true,t2++[row[q]]):=by unfold KG;simp only[s,x7o]
   have e2:(k.map bv)[row[q].toNat]?=some .ff:=by
    have:k[row[q].toNat]=false:=by simpa[o]using s
    simp[o,this,bv]
   rw[d]at u B;conv=>whnf
   repeat' (first|((first|refine x7g rfl ?_|refine aD ?_|refine bP ?_|(refine iA fun _=>?_)|refine wI ?_|refine x8p row[q].toNat (by omega) (by have:=t.1;simp only at this;omega) ?_|refine x9g row[q].toNat 0 .ff (by omega) e2 ?_|refine z0d row[q].toNat 0 .ff .tt (by omega) e2 (x7s 1) rfl ?_|refine XX (by simp) (by simp;omega) ?_);conv=>whnf)|(apply bD<;>intro _<;>first|omega|conv=>whnf))
   all_goals exact⟨(q+1,k.set row[q].toNat true,t2++[row[q]]),⟨B,by simp;omega,by simp only;omega,u⟩,by simp only;omega,Le.of_eq (by simp only[IH,x7u,x7n,x8o];rfl)⟩
def HI:Nat->List Bool->List Int
 |_,[]=>[]
 |i,b::r=>bif b then(i:Int)::HI (i+1) r else HI (i+1) r
def Nz(seen:List Bool)(s:seen.length<=1000000):
  SpecH prog 219 [.hd 1000 0 seen.length] [(1000,.own 4 1 (seen.map bv))] (fun r H=>∃es,r=.p (.sl es)/\H=[(1000,.own 4 1 (seen.map bv))]/\es=(HI 0 seen).map (.int .i64)):=by
 refine Zf (e:=3) (sz:=1) rfl ?_;refine sH Js func219 rfl call219 ?_;conv=>whnf
 repeat' (refine iM fun _=>?_;conv=>whnf)
 refine LoopK.inv QV (fun i:Nat×List Int=>⟨[(3,.hd 0 0 i.2.length),(6,.hd 1000 0 seen.length),(7,.j seen.length),(8,.j i.1)],[(0,.own 3 1 (i.2.map (.int .i64))),(1000,.own 4 1 (seen.map bv))]⟩)
  (fun i=>i.1<=seen.length/\i.2.length<=i.1/\i.2++HI i.1 (seen.drop i.1)=HI 0 seen) (fun i=>seen.length-i.1) (0,[])
  (Le.mk [(0,.own 3 1 [])] (by simp[Chunk.new0];rfl) (by simp) (by simp) (.cons (.nil x7v) (.r (.r (.r .nil)))) (.new x7v (.cons rfl (.refl _) .nil)))
  ⟨x7p _,x7s _,rfl⟩ ?_
 rintro⟨m,n⟩ ⟨o,q,k⟩;simp only at o q k⊢;rcases x7m m seen.length with l|l;rotate_left 1
 .rw [x7e l,HI,x9q]at k;subst k;conv=>whnf
  repeat' (apply bD<;>intro _<;>first|omega|conv=>whnf)
  exact⟨_,x8z _,(HI 0 seen).map (.int .i64),by simp,rfl,rfl⟩
 rw[x8b l,HI]at k;cases h:seen[m]with
 | true=>
   rw[h,x7c]at k;have e2:(seen.map bv)[m]?=some .tt:=by simp[l,h,bv]
   conv=>whnf
   repeat' (first|((first|refine x7g rfl ?_|refine aD ?_|refine bP ?_|refine wI ?_|refine x8p m rfl l ?_|refine x9g m 0 .tt (by omega) e2 ?_|refine XX (by simp) (by simp;omega) ?_);conv=>whnf)|(apply bD<;>intro _<;>first|omega|conv=>whnf))
   exact⟨(m+1,n++[(m:Int)]),⟨by simp only;omega,by simp;omega,by simpa using k⟩,by simp only;omega,Le.of_eq (by simp only[x7u,x7n];rfl)⟩
 | false=>
   rw[h,x7o]at k;have e2:(seen.map bv)[m]?=some .ff:=by simp[l,h,bv]
   conv=>whnf
   repeat' (first|((first|refine x7g rfl ?_|refine wI ?_|refine x8p m rfl l ?_|refine x9g m 0 .ff (by omega) e2 ?_);conv=>whnf)|(apply bD<;>intro _<;>first|omega|conv=>whnf))
   exact⟨(m+1,n),⟨by simp only;omega,by simp only;omega,k⟩,by simp only;omega,Le.of_eq rfl⟩
def DX(g:List (List Int)×List (List Int))(a:Int):SpecP prog 217 [VW g,.int .i64 a] (fun r=>r=.bool (ZB g.1.length a)):=by
 refine sB KC func217 rfl call217 ?_;conv=>whnf
 repeat' (first|(refine iM fun _=>?_;conv=>whnf)|(apply bD<;>intro _<;>first|omega|conv=>whnf))
 all_goals have h:((avI g.1).map AV.sl).length=g.1.length:=by simp[avI]
 all_goals first
  |exact RetK.bool (by unfold ZB;simp[*];done)
  |exact RetK.ff (by unfold ZB;simp;omega)
 all_goals trace_state
def DL(n:Nat)(l:List Int):List Bool×List Int:=l.foldl (fun st a=>bif ZB n a then KG st a else st) (List.replicate n false,[])
def ZN(rows:List (List Int))(l:List Int):List Bool:=(ZW rows (rows.length+1) 0 (DL rows.length l)).1
def MU(n:Nat):wkInv n (List.replicate n false,[]):=⟨by simp,by simp[List.count_replicate],by simp⟩
theorem DC{n:Nat}{rows:List (List Int)}(l:XG n rows):∀(k i:Nat){st:List Bool×List Int},wkInv n st->wkInv n (ZW rows k i st)
 |0,_,_,h=>h
 | k+1,i,st,h=>by
   rw[ZW];split
   .rename_i a ha;have o:=h.2.2 a (x7t ha);refine DC l k (i+1) (AZ h ?_);have j:a.toNat<rows.length:=by rw[l.1];omega
    rw[x7w,x7x j];exact l.2 _ (x7l j)
   .exact h
def XO{n:Nat}{a:Int}(h:ZB n a=true):0<=a/\a<n:=by
 unfold ZB at h;simpa using h
def Xg(n:Nat)(C:n<=5000)(g:List (List Int)×List (List Int))(v:XG n g.1)(l:List Int)(c:l.length<=1000000):SpecP prog 160 [VW g,QB l] (fun r=>r=QB (HI 0 (ZN g.1 l))):=by
 refine sB PT func160 rfl call160 ?_;conv=>whnf
 have A:((avI g.1).map AV.sl).length=n:=by simp[avI,v.1]
 repeat' ((first|(refine iM fun _=>?_)|refine aR ?_|refine z2b n (by rw[A]) (by show 1*n<=140737488355328;omega) (by unfold maxLen;omega) ?_);conv=>whnf)
 have B:(l.map (AV.int .i64)).length=l.length:=x7z _;refine LoopK.inv QV (fun x:Nat×List Bool×List Int=>⟨[(0,.p (VW g)),(5,.hd 0 0 n),(6,.hd 1 0 x.2.2.length),(17,.p (QB l)),(18,.p (.int .i64 (l.map (AV.int .i64)).length)),(19,.j x.1)],[(0,.own 4 1 (x.2.1.map bv)),(1,.own 3 1 (x.2.2.map (.int .i64)))]⟩)
  (fun x=>x.1<=l.length/\wkInv n x.2/\(l.drop x.1).foldl (fun st a=>bif ZB n a then KG st a else st) x.2=DL n l) (fun x=>l.length-x.1) (0,List.replicate n false,[])
  (Le.mk [(1,.own 3 1 [])] (by simp[Chunk.new0];rfl) (by simp) (by simp) (.r (.r (.cons (.nil x7v) (.r (.r (.r .nil)))))) (.cons rfl (.of_eq (by rw[z0n];rfl)) (.new x7v .nil)))
  ⟨x7p _,MU n,rfl⟩ ?_
 rintro⟨m,seen,i⟩ ⟨e,s,q⟩;simp only at e s q⊢;have D:seen.length=n:=s.1;have E:i.length<=n:=DI s;rcases x7m m l.length with y|y;rotate_left 1
 .rw [x7e y,List.foldl_nil]at q;conv=>whnf
  repeat' (first|(apply bD<;>intro _<;>first|omega|conv=>whnf)|(refine cH [(1000,0),(2000,1)] 0 (G9 n C g.1 v (seen,i) s) ?_;conv=>whnf))
  have z:(ZW g.1 (n+1) 0 (seen,i)).1.length=n:=(DC v _ _ s).1;refine cJ rH2 0 (Nz (ZW g.1 (n+1) 0 (seen,i)).1 (by omega)) ?_ (ha:=(x8y (z2r (by rw[z];rfl)) z0v));rintro l' H' ⟨es,rfl,rfl,rfl⟩;conv=>whnf
  skip
  exact RetK.p (by unfold QB ZN;rw[v.1,<-q])
 rw[x8b y,z0b]at q;have t:SpecP prog 217 [VW g,.int .i64 l[m]] (fun r=>r=.bool (ZB n l[m])):=by
  have:=DX g l[m]
  rwa[v.1]at this
 cases o:seen.getD l[m].toNat false with
 | true=>
   have u:(bif ZB n l[m]then KG (seen,i) l[m]else(seen,i))=(seen,i):=by unfold KG;simp only[o,x7c];cases ZB n l[m]<;>rfl
   have e2:ZB n l[m]=true->(seen.map bv)[l[m].toNat]?=some .tt:=fun h=>by
    have f:=XO h;have k:l[m].toNat<seen.length:=by omega
    have:seen[l[m].toNat]=true:=by simpa[k]using o
    simp[k,this,bv]
   rw[u]at q;conv=>whnf
   repeat' (first|((first|refine x7g rfl ?_|(refine iA fun _=>?_)|refine wI ?_|refine cP t ?_|refine x8p l[m].toNat (by have:=XO (by assumption);omega) (by have:=XO (by assumption);omega) ?_|refine x9g l[m].toNat 0 .tt (by omega) (e2 (by assumption)) ?_);conv=>whnf)|(apply bD<;>intro _<;>first|omega|conv=>whnf)|(apply bB<;>intro _<;>conv=>whnf))
   all_goals exact⟨(m+1,seen,i),⟨by simp only;omega,s,q⟩,by simp only;omega,Le.of_eq rfl⟩
 | false=>
   have e2:ZB n l[m]=true->(seen.map bv)[l[m].toNat]?=some .ff:=fun h=>by
    have f:=XO h;have k:l[m].toNat<seen.length:=by omega
    have:seen[l[m].toNat]=false:=by simpa[k]using o
    simp[k,this,bv]
   conv=>whnf
   repeat' (first|((first|refine x7g rfl ?_|refine aD ?_|refine bP ?_|(refine iA fun _=>?_)|refine wI ?_|refine cP t ?_|refine x8p l[m].toNat (by have:=XO (by assumption);omega) (by have:=XO (by assumption);omega) ?_|refine x9g l[m].toNat 0 .ff (by omega) (e2 (by assumption)) ?_|refine z0d l[m].toNat 0 .ff .tt (by omega) (e2 (by assumption)) (x7s 1) rfl ?_|refine XX (by simp) (by simp;omega) ?_);conv=>whnf)|(apply bD<;>intro _<;>first|omega|conv=>whnf)|(apply bB<;>intro _<;>conv=>whnf))
   .have w:ZB n l[m]=true:=by assumption
    have u:(bif ZB n l[m]then KG (seen,i) l[m]else(seen,i))=(seen.set l[m].toNat true,i++[l[m]]):=by unfold KG;simp only[o,w,x7c,x7o]
    have b:=Q9 s (XO w);rw[u]at q;have d:KG (seen,i) l[m]=(seen.set l[m].toNat true,i++[l[m]]):=by unfold KG;simp only[o,x7o]
    rw[d]at b;exact⟨(m+1,seen.set l[m].toNat true,i++[l[m]]),⟨by simp only;omega,b,q⟩,by simp only;omega,Le.of_eq (by simp only[x7u,x7n,x8o];rfl)⟩
   .have w:ZB n l[m]=false:=by assumption
    have u:(bif ZB n l[m]then KG (seen,i) l[m]else(seen,i))=(seen,i):=by rw[w];rfl
    rw[u]at q;exact⟨(m+1,seen,i),⟨by simp only;omega,s,q⟩,by simp only;omega,Le.of_eq rfl⟩
def Y5(g:List (List Int)×List (List Int)):SpecP prog 289 [VW g] (fun r=>r=.int .i64 g.1.length):=by
 refine sB X1 func289 rfl call289 ?_;conv=>whnf
 have h:((avI g.1).map AV.sl).length=g.1.length:=by unfold avI;rw[x7z,x7z]
 repeat' (refine iM fun _=>?_;conv=>whnf)
 all_goals first
  |exact RetK.int (by rw[h])
def DN(l:List Int)(k:l.length<=1000000):SpecP prog 323 [QB l] (fun r=>r=QB l):=by
 refine sB GS func323 rfl call323 ?_;conv=>whnf
 have i:(l.map (AV.int .i64)).length=l.length:=x7z _;repeat' (first|((first|refine x7g rfl ?_|refine aD ?_|refine Ky QV rfl rfl rfl rfl (fun q j=>?_)|refine z3o (fun x h=>by cases h) rfl ?_|refine z0w (n:=0) rfl rfl (by show _*8<=140737488355328;omega) (by show _<=9223372036854775807;omega) (fun x h=>by obtain⟨y,_,rfl⟩:=x7d.1 h;exact⟨rfl,rfl⟩) ?_);conv=>whnf)|(apply bB<;>intro _<;>conv=>whnf))
 all_goals first
  |exact⟨_,.p Sub.nils,by rw[z3z.1 (j (by assumption))];rfl⟩
  |exact⟨_,.hd rfl (by simp),rfl⟩
def Wb(g:List (List Int)×List (List Int))(a:Int)(n:∀r∈g.1,r.length<=1000000):SpecP prog 290 [VW g,.int .i64 a] (fun r=>r=QB (if ZB g.1.length a=true then g.1.getD a.toNat []else [])):=by
 refine sB MP func290 rfl call290 ?_;conv=>whnf
 have hH:=DX g a;cases i:ZB g.1.length a with
 | false=>
   rw[i]at hH;repeat' (first|(refine cP hH ?_;conv=>whnf)|(apply bN<;>intro _<;>conv=>whnf))
   all_goals first
    |contradiction
    |exact⟨_,.p Sub.nils,rfl⟩
 | true=>
   rw[i]at hH;have o:0<=a/\a<g.1.length:=by
    unfold ZB at i;simpa using i
   have h:a.toNat<g.1.length:=by omega
   have l:((avI g.1).map AV.sl)[a.toNat]?=some (QB (g.1.getD a.toNat [])):=by
    unfold avI;rw[x7k,x7k,x7w,x7x h];rfl
   have j:=DN (g.1.getD a.toNat []) (by rw[x7w,x7x h];exact n _ (x7l h));rw[if_pos rfl];generalize g.1.getD a.toNat []=row at*
   repeat' (first|((first|refine cP hH ?_|(refine IdxK.at (k:=a.toNat) (by omega) l rfl ?_)|refine cP j ?_);conv=>whnf)|(apply bN<;>intro _<;>conv=>whnf))
   all_goals first
    |contradiction
    |exact⟨_,.p (Sub.refl _),rfl⟩
def eWm(m:List (List Wd)):List (List AV):=m.map fun r=>r.map eW
def LG(m:List (List Wd)):AV:=.sl ((eWm m).map .sl)
def IL(w:Nat)(l:List (List Int))(i:Nat):List (List Wd):=(l.take i).map (HP w)++List.replicate (l.length-i) []
def q1m(w:Nat)(l:List (List Int)){i:Nat}(h:i<=l.length):(IL w l i).length=l.length:=by
 unfold IL;rw[x7u,x7z,x8q,x9w];omega
def q1l(w:Nat)(l:List (List Int)){i:Nat}(h:i<l.length):(IL w l i).set i (HP w l[i])=IL w l (i+1):=by
 unfold IL;have j:((l.take i).map (HP w)).length=i:=by rw[x7z,x8q];omega
 rw[z1x _ _ (by omega),j,z1a,show l.length-i=(l.length-(i+1))+1 by omega,z1i,z1g,x7r h,x7n,x8w];rfl
def SE{h:Nat}{sl:List (Nat×LV)}(n:Nat)(i:(sl.all fun x=>x.2.xfree 0)=true):
  Le h ⟨sl,[(0,.own 303 1 (List.replicate n .nils))]⟩ ⟨sl,[(0,.ext (.mat 303 282 1 (List.replicate n []) []))]⟩:=by
 have j:=ME (N:=h) (sl:=sl) (H:=[(0,.own 303 1 (List.replicate n .nils))])
  (H':=[(0,.ext (.mat 303 282 1 (List.replicate (List.replicate n AV.nils).length []) []))])
  0 282 1 (e:=303) (es:=List.replicate n .nils) rfl (fun x k=>z0r k) rfl i rfl rfl (by simp[KL])
 simpa using j
def Hx(l:List (List Int))(hl:l.length<=5000)(hr:∀r∈l,r.length<=5000)(k:Nat)(hm:k<=5000)(V:∀r∈l,∀f∈r,0<=f/\f<k):SpecP prog 233 [eMat l,.int .i64 k] (fun r=>r=.tup [LG (l.map (HP (k/64+1))),.tt]):=by
 refine sB Bs func233 rfl call233 ?_;conv=>whnf
 have E:((avI l).map AV.sl).length=l.length:=by unfold avI;rw[x7z,x7z]
 obtain⟨w,L⟩ : ∃w,w=k/64+1:=⟨_,rfl⟩;rw[<-L];have B:=Od k;repeat' ((first|(refine iM fun _=>?_)|refine aR ?_|refine z2b l.length (by omega) (by show 24*_<=140737488355328;omega) (by unfold maxLen;omega) ?_);conv=>whnf)
 refine LoopK.inv QV (fun i:Nat=>⟨[(1,.j k),(6,.hd 0 0 l.length),(14,.p (eMat l)),(15,.j l.length),(16,.j i)],[(0,.ext (.mat 303 282 1 (eWm (IL w l i)) []))]⟩) (fun i=>i<=l.length) (fun i=>l.length-i) 0
  (by
    refine Le.trans (SE l.length rfl) ?_;exact Le.mk [] (by simp) (by simp) (by simp) (.r (.r (.r (.cons (.of_eq (by rw[E];rfl)) (.r .nil))))) (.cons rfl (.of_eq (by simp[eWm,IL])) .nil)) (x7p _) ?_
 intro i hi;rcases x7m i l.length with s|s
 .have A:=q1m w l hi;have z:=q1l w l s;have I:=hr _ (x7l s);have d:=V _ (x7l s);have e:((avI l).map AV.sl)[i]?=some (QB l[i]):=by unfold avI;rw[x7k,x7k,x7x s];rfl
  generalize IL w l i=rows at A z⊢;generalize l[i]=fs at z I d e;have U:(eWm rows).length=l.length:=by unfold eWm;rw[x7z,A]
  have hfl:(fs.map (AV.int .i64)).length=fs.length:=x7z _;conv=>whnf
  repeat' (first|((first|(refine iM fun _=>?_)|refine x7g rfl ?_|refine aR ?_|(refine iA fun _=>?_)|refine x7g (by decide) ?_|refine Wr.i64 (by first|omega|(rw[B];omega)) (by first|omega|(rw[B];omega)) ?_|refine z2b w (by rw[L,B];omega) (by show 8*_<=140737488355328;omega) (by unfold maxLen;omega) ?_|refine x8p i rfl s ?_|(refine FR QV rfl rfl rfl rfl rfl rfl rfl rfl rfl (by decide) i [] (by omega) (by omega) (by simp) ⟨by simp,by simp,by simp⟩ ?_));conv=>whnf)|(apply bD<;>intro _<;>first|omega|conv=>whnf))
  have C:∀h,(avI l)[i]'h=fs.map (.int .i64):=fun h=>by
   have o:=e;rw[x7k,x7x h]at o;have Q:AV.sl (avI l)[i]=.sl (fs.map (.int .i64)):=z0m o;exact(AV.sl.inj Q)
  simp only[C];refine LoopK.inv QV (fun j:Nat=>⟨[(1,.j k),(6,.hd 0 0 l.length),(7,.j i),(14,.p (eMat l)),(15,.j l.length),(16,.j i),(28,.p (QB fs)),(29,.p (.int .i64 (fs.map (AV.int .i64)).length)),(30,.j j)],[(0,.ext (.mat 303 282 1 ((eWm rows).set i ((HP w (fs.take j)).map eW)) []))]⟩) (fun j=>j<=fs.length) (fun j=>fs.length-j) 0
   (Le.of_eq (by simp[HP];exact⟨⟨rfl,rfl⟩,rfl⟩)) (x7p _) ?_
  intro j hj;rcases x7m j fs.length with o|o
  .obtain ⟨Y,Z⟩:=d _ (x7l o);have K:=EM w fs o;have g:=Vh w (fs.take j);have D:fs[j]=((fs[j].toNat:Nat):Int):=by omega
   have hg2:(fs.map (AV.int .i64))[j]?=some (.int .i64 fs[j]):=by rw[x7k,x7x o];rfl
   generalize HP w (fs.take j)=ws at*
   have t:=Kq ws fs[j].toNat (by rw[g,L];omega) (by omega);rw[<-D,<-K]at t;have G:(HP w (fs.take (j+1))).length=ws.length:=by rw[Vh,g]
   generalize O:HP w (fs.take (j+1))=ws' at*
   have M:(ws.map eW).length=ws.length:=x7z _;have x:SpecH prog 288 [.hd 1000 0 (ws.map eW).length,.p (.int .i64 fs[j])] ((1000,.own 282 1 (ws.map eW))::bif false then [(1001,.own 0 0 [])]else []) (fun r H=>(∃b,r=.p (.bool b))/\H=[wsH 1000 ws']):=by rw[M];exact t
   have v:((eWm rows).set i (ws.map eW))[i]?=some (ws.map eW):=x9j (by omega);have J:((eWm rows).set i (ws.map eW)).set i (ws'.map eW)=(eWm rows).set i (ws'.map eW):=List.set_set _;conv=>whnf
   repeat' (first|((first|refine x7g rfl ?_|(refine iA fun _=>?_)|refine wI ?_|refine x8p i rfl s ?_|refine RowK.mk i (ws.map eW) (by omega) v (by simp) ?_|(refine Zk 0 i 0 false (ws'.map eW) (S:=fun c=>∃b,c=.bool b) (.row (.p (Sub.refl _) .nil)) x rfl v (by omega) (fun h=>by cases h) (fun l' H' hh=>by obtain⟨⟨b,R⟩,hH⟩:=hh;exact⟨_,R,⟨b,rfl⟩,hH⟩) (by rw[x7z,x7z,G]) ?_;rintro _ ⟨b,rfl⟩));conv=>whnf)|(apply bD<;>intro _<;>first|omega|conv=>whnf))
   all_goals first
    |(exfalso;omega)
    |exact⟨j+1,o,by omega,Le.of_eq (by rw[J,O];rfl)⟩
  .have n:fs.take j=fs:=x7a o;rw[n];have F:(eWm rows).set i ((HP w fs).map eW)=eWm (rows.set i (HP w fs)):=by unfold eWm;rw[x8o]
   rw[F,z];conv=>whnf
   repeat' (first|(refine wI ?_;conv=>whnf)|(apply bD<;>intro _<;>first|omega|conv=>whnf))
   all_goals first
    |(exfalso;omega)
    |exact⟨i+1,s,by omega,Le.of_eq rfl⟩
 .obtain rfl:i=l.length:=by omega
  have n:IL w l l.length=l.map (HP w):=by unfold IL;rw[z3q,z1a];simp
  rw[n];conv=>whnf
  repeat' (apply bD<;>intro _<;>first|omega|conv=>whnf)
  all_goals exact⟨_,.tup (cs:=[LG (l.map (HP w)),.tt]) rfl (fun q u c y a=>by
   match q,y,a with
   |0,y,a=>cases y;cases a;exact .mat rfl (by unfold eWm;simp)
   |1,y,a=>cases y;cases a;exact .p (Sub.refl _)
   |q+2,y,_=>simp at y),rfl⟩
end Go.Ab
