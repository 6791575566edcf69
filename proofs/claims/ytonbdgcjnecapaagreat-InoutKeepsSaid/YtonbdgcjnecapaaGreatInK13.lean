/- The library's contracts at this seat's program, in plain words (printed by the kit's lay-plain.mjs). Conditions: none. -/
import Derived.Shelf.Sort.Plain
import Derived.Shelf.Slices.In.SortNone
import Derived.Shelf.Slices.CompactS
import Derived.Ground.Names2Prog
import Derived.Shelf.Slices.SearchI
import Derived.Shelf.Slices.Empties
import Derived.Shelf.Spec.SlicesInsert
import Derived.Shelf.Spec.SlicesInsertGrow
import Derived.Shelf.SlSortCmp.NoneTotal
import Derived.Ground.SlsfProg
import Derived.Test.YtonbdgcjnecapaaGreatProg
import Derived.Test.YtonbdgcjnecapaaGreatInK11
import Derived.Test.YtonbdgcjnecapaaGreatInK12
set_option linter.all false
set_option maxRecDepth 100000
set_option maxHeartbeats 16000000
namespace Go.Proofs
open Go.Shelf
def Tryz.laysF_ren:Go.Shelf.Ren:=⟨fun|6=>228|15=>187|14=>286|28=>245|29=>246|20=>313|21=>314|22=>315|23=>316|24=>317|25=>318|26=>319|27=>320|46=>337|47=>294|48=>295|49=>338|50=>339|57=>342|n=>n,fun|22=>124|24=>232|25=>264|3=>3|39=>242|0=>0|53=>280|55=>282|4=>4|46=>274|45=>273|50=>201|5=>5|9=>9|66=>307|70=>311|76=>328|77=>30|n=>n,fun|n=>n⟩
def H7:Go.Proofs.SlLaysF0.n6 Tryz.prog Tryz.laysF_ren:={
 mixed:=by kernel_rfl
 f6:=⟨Tryz.f228.name,by decide,Tryz.func228.trans (congrArg some (by kernel_rfl))⟩
 f14:=⟨Tryz.f286.name,by decide,Tryz.func286.trans (congrArg some (by kernel_rfl))⟩
 f15:=Tryz.func187.trans (congrArg some (by kernel_rfl))
 f20:=⟨Tryz.f313.name,by decide,Tryz.func313.trans (congrArg some (by kernel_rfl))⟩
 f21:=⟨Tryz.f314.name,by decide,Tryz.func314.trans (congrArg some (by kernel_rfl))⟩
 f22:=⟨Tryz.f315.name,by decide,Tryz.func315.trans (congrArg some (by kernel_rfl))⟩
 f23:=⟨Tryz.f316.name,by decide,Tryz.func316.trans (congrArg some (by kernel_rfl))⟩
 f24:=⟨Tryz.f317.name,by decide,Tryz.func317.trans (congrArg some (by kernel_rfl))⟩
 f25:=⟨Tryz.f318.name,by decide,Tryz.func318.trans (congrArg some (by kernel_rfl))⟩
 f26:=⟨Tryz.f319.name,by decide,Tryz.func319.trans (congrArg some (by kernel_rfl))⟩
 f27:=⟨Tryz.f320.name,by decide,Tryz.func320.trans (congrArg some (by kernel_rfl))⟩
 f28:=Tryz.func245.trans (congrArg some (by kernel_rfl))
 f29:=Tryz.func246.trans (congrArg some (by kernel_rfl))
 f46:=⟨Tryz.f337.name,by decide,Tryz.func337.trans (congrArg some (by kernel_rfl))⟩
 f47:=Tryz.func294.trans (congrArg some (by kernel_rfl))
 f48:=Tryz.func295.trans (congrArg some (by kernel_rfl))
 f49:=⟨Tryz.f338.name,by decide,Tryz.func338.trans (congrArg some (by kernel_rfl))⟩
 f50:=⟨Tryz.f339.name,by decide,Tryz.func339.trans (congrArg some (by kernel_rfl))⟩
 f57:=⟨Tryz.f342.name,by decide,Tryz.func342.trans (congrArg some (by kernel_rfl))⟩
 t0:=Tryz.underlying0
 a0:=Tryz.isAgg0
 z0:=Tryz.sizeOf0
 v0:=Tryz.zeroValue0
 t3:=Tryz.underlying3
 a3:=Tryz.isAgg3
 z3:=Tryz.sizeOf3
 v3:=Tryz.zeroValue3
 t4:=Tryz.underlying4
 a4:=Tryz.isAgg4
 z4:=Tryz.sizeOf4
 v4:=Tryz.zeroValue4
 t5:=Tryz.underlying5
 a5:=Tryz.isAgg5
 z5:=Tryz.sizeOf5
 v5:=Tryz.zeroValue5
 t9:=Tryz.underlying9
 a9:=Tryz.isAgg9
 z9:=Tryz.sizeOf9
 v9:=Tryz.zeroValue9
 t22:=Tryz.underlying124
 a22:=Tryz.isAgg124
 z22:=Tryz.sizeOf124
 v22:=Tryz.zeroValue124
 t25:=Tryz.underlying264
 a25:=Tryz.isAgg264
 z25:=Tryz.sizeOf264
 v25:=Tryz.zeroValue264
 t39:=Tryz.underlying242
 a39:=Tryz.isAgg242
 z39:=Tryz.sizeOf242
 v39:=Tryz.zeroValue242
 t45:=Tryz.underlying273
 a45:=Tryz.isAgg273
 z45:=Tryz.sizeOf273
 v45:=Tryz.zeroValue273
 t46:=Tryz.underlying274
 a46:=Tryz.isAgg274
 z46:=Tryz.sizeOf274
 v46:=Tryz.zeroValue274
 t50:=Tryz.underlying201
 a50:=Tryz.isAgg201
 z50:=Tryz.sizeOf201
 v50:=Tryz.zeroValue201
 t53:=Tryz.underlying280
 a53:=Tryz.isAgg280
 z53:=Tryz.sizeOf280
 v53:=Tryz.zeroValue280
 t55:=Tryz.underlying282
 a55:=Tryz.isAgg282
 z55:=Tryz.sizeOf282
 v55:=Tryz.zeroValue282
 t66:=Tryz.underlying307
 a66:=Tryz.isAgg307
 z66:=Tryz.sizeOf307
 v66:=Tryz.zeroValue307
 t70:=Tryz.underlying311
 a70:=Tryz.isAgg311
 z70:=Tryz.sizeOf311
 v70:=Tryz.zeroValue311
 t76:=Tryz.underlying328
 a76:=Tryz.isAgg328
 z76:=Tryz.sizeOf328
 v76:=Tryz.zeroValue328
 t77:=Tryz.underlying30
 a77:=Tryz.isAgg30
 z77:=Tryz.sizeOf30
 v77:=Tryz.zeroValue30}
end Go.Proofs
namespace Go.Ab
open Go.Proofs.Tryz
open Go.Proofs Go.Sort Go.RowKit Go.Lib
variable {N:List (List Int)}{m:Nat}{σ:Mem}
theorem Frm.grown{w w':World}(h:Frm (fun _=>False) w w'):∃q os,w'=grow (w.drewN q) os:=by
 obtain⟨v,D,o,B,C⟩:=w;obtain⟨l,u,j,r,t⟩:=w';obtain⟨z,a,b,f,g,c⟩:=h;simp only at z a b f g c;refine⟨j-o,l.extract v.size l.size,?_⟩;subst z a b;have e:o+(j-o)=j:=by omega
 show World.mk l u j r t=World.mk (v++l.extract v.size l.size) u (o+(j-o)) r t;rw[e];congr 1;apply Array.ext
 .simp;omega
 .intro i y A;by_cases x:i<v.size
  .have:=c i x id;rw[x9q y,x9q x]at this;rw[Array.getElem_append_left x];exact x8l this
  .rw [Array.getElem_append_right (by omega)];simp;congr 1;omega
def DI(a b:Step):Bool:=decide (Tw a b<0)
def q5m(a b c:Int):orI [a,b,c]<0↔a<0\/a=0/\(b<0\/b=0/\c<0):=by
 by_cases h:a=0<;>by_cases i:b=0<;>by_cases j:c=0<;>simp[orI,h,i,j]
def NY(x y:Int):TV x y<0↔x<y:=by
 unfold TV;split
 .omega
 .split<;>omega
def KY(x y:Int):TV x y=0↔x=y:=by
 unfold TV;split
 .omega
 .split<;>omega
def SW(a b:Step):Tw a b<0↔ZN a.src<ZN b.src\/ZN a.src=ZN b.src/\(ZN a.dst<ZN b.dst\/ZN a.dst=ZN b.dst/\a.kind<b.kind):=by
 unfold Tw;rw[q5m,NY,NY,NY,KY,KY]
def okSt(s:Step):Prop:=s.src≠9223372036854775807/\s.dst≠9223372036854775807
abbrev OSt:={s:Step // okSt s}
instance:Inhabited OSt:=⟨⟨⟨0,0,0⟩,by constructor<;>decide⟩⟩
def cfO(a b:OSt):Int:=Tw a.1 b.1
def HT{x y:Int}(i:x≠9223372036854775807)(j:y≠9223372036854775807)(h:ZN x=ZN y):x=y:=by
 unfold ZN at h;split at h<;>split at h<;>omega
def q3e:SWO (ltOf cfO):=by
 refine⟨fun x=>?_,fun x y z h i=>?_,fun x y z h i=>?_⟩;all_goals
  unfold ltOf cfO at*
  simp only[x7s,x8o,SW]at*
  omega
def q3i(x y:OSt)(k:ltOf cfO x y=false)(l:ltOf cfO y x=false):x=y:=by
 unfold ltOf cfO at*
 simp only[x8o,SW]at k l;obtain⟨⟨a,b,c⟩,n,o⟩:=x;obtain⟨⟨d,e,f⟩,p,q⟩:=y;simp only at*
 have h:=HT (x:=a) (y:=d) n p (by omega);have i:=HT (x:=b) (y:=e) o q (by omega);have j:c=f:=by omega
 subst h i j;rfl
def Pb(s:OSt):List Value:=[.int .i64 s.1.src,.int .i64 s.1.dst,.int .i64 s.1.kind]
def J0(s:OSt):Rep σ (.agg s.1.cells) (.agg (Pb s).toArray):=by
 refine .agg _ _ (fun j=>(Pb s).toArray.getD j undef) rfl (fun j c h=>?_) (fun j c h=>?_)
 .match j,h with
  |0,_=>rfl
  |1,_=>rfl
  |2,_=>rfl
 .match j,h with
  |0,h=>cases h;exact .int _ _
  |1,h=>cases h;exact .int _ _
  |2,h=>cases h;exact .int _ _
def Ou(W:World)(x y:OSt):Calls prog 229 (#[.agg (Pb x).toArray,.agg (Pb y).toArray] ++ #[]) W fun e w'=>e=.returned (.int .i64 (cfO x y))/\∃q k,w'=grow (W.drewN q) k:=by
 refine((RY x.1 y.1).ok (fun _=>none) W #[.agg (Pb x).toArray,.agg (Pb y).toArray] rfl (fun j c i=>?_) (fun b c h=>by cases h)).mono ?_
 .match j,i with
  |0,i=>cases i;exact J0 x
  |1,i=>cases i;exact J0 y
 .rintro e w' ⟨c,u,σ',rfl,rfl,n,_,_,l,_⟩;cases n;exact⟨rfl,l.grown⟩
def It{l:List OSt}{vs:Array Value}(h:∀(m:Nat)(x:AV),(l.map fun s=>AV.agg s.1.cells)[m]?=some x->x.cells.length=3/\∀(j:Nat)(c:AV),x.cells[j]?=some c->∃u:Value,vs[m*3+j]?=some u/\Rep σ c u){j:Nat}(p:m<l.length)(o:j<3):
  vs[m*3+j]?=(Pb l[m])[j]?:=by
 have n:=(h m (.agg l[m].1.cells) (by simp[p])).2
 match j,o with
 | 0,_=>
   obtain⟨u,i,k⟩:=n 0 (.int .i64 l[m].1.src) rfl;cases k;exact i
 | 1,_=>
   obtain⟨u,i,k⟩:=n 1 (.int .i64 l[m].1.dst) rfl;cases k;exact i
 | 2,_=>
   obtain⟨u,i,k⟩:=n 2 (.int .i64 l[m].1.kind) rfl;cases k;exact i
def Ic{l:List OSt}{vs:Array Value}(h:∀(m:Nat)(n:m<l.length)(j:Nat),j<3->vs[m*3+j]?=(Pb l[m])[j]?):∀(m:Nat)(x:AV),(l.map fun s=>AV.agg s.1.cells)[m]?=some x->x.cells.length=3/\∀(j:Nat)(c:AV),x.cells[j]?=some c->∃u:Value,vs[m*3+j]?=some u/\Rep σ c u:=by
 intro m x k;rw[x6a]at k;cases o:l[m]?with
 |none=>rw[o]at k;cases k
 | some s=>
   rw[o]at k;cases k;obtain⟨n,rfl⟩:=x6n.1 o;refine⟨rfl,fun j c i=>?_⟩
   match j,i with
   |0,i=>cases i;exact⟨_,h m n 0 (by omega),.int _ _⟩
   |1,i=>cases i;exact⟨_,h m n 1 (by omega),.int _ _⟩
   |2,i=>cases i;exact⟨_,h m n 2 (by omega),.int _ _⟩
def M3{d:Array OSt}{t:Nat}(h:t<d.size*3):(flatK Pb 3 d)[t]?=(Pb (d[t/3]'(by omega)))[t%3]?:=by
 have i:=get_flatK Pb 3 d t h;rw[z2l _ t (by simpa using h),z2l d (t/3) (by omega)]at i;rw[x9q (by simpa using h),i];have j:t%3<(Pb (d[t/3]'(by omega))).length:=by simp[Pb];omega
 rw[x6k j,z2l (Pb (d[t/3]'(by omega))) (t%3) j]
def JM(l:List Step):List Step:=l.mergeSort fun x y=> !DI y x
def Vw{l:List Step}:(JM l).length=l.length:=by unfold JM;simp
def Ka(l:List Step):(JM l).Perm l:=List.mergeSort_perm _ _
def MD(l:List OSt)(V:l.length<=1000000000):
  SpecH prog 228 [.hd 1000 0 l.length,.p (.fn 229 [])] [(1000,.own 232 3 (l.map fun s=>.agg s.1.cells))]
   (fun r H=>r=.p (.tup [])/\H=[(1000,.own 232 3 ((l.mergeSort fun x y=> !(ltOf cfO) y x).map fun s=>.agg s.1.cells))]):=by
 refine⟨call228,fun σ β w Z hn g C=>?_⟩;obtain⟨v,u,rfl⟩:=q9e hn;have A:RepL σ β (.hd 1000 0 l.length) v:=by simpa using g 0 _ rfl
 have O:RepL σ β (.p (.fn 229 [])) u:=by simpa using g 1 _ rfl
 obtain rfl:u=.func (.func 229) #[] #[]:=by
  cases O with
  | p h=>cases h with
    | fn _ _ vs u L q hr=>
      obtain rfl:vs=#[]:=Array.size_eq_zero_iff.1 L;rfl
 have G:=C.chunks 1000 _ x6g;rcases G with⟨F,I⟩|⟨i,vs,D,M,J,R,h3,h4,h5⟩
 .have K:l=[]:=List.map_eq_nil_iff.1 I;subst K;obtain⟨rfl,_⟩:=TL A F;have q:=AnyF.slices_SortFunc_none H7 none 0 (.func (.func 229) #[] #[]) w;change Calls prog 228 _ _ _ at q;refine q.mono ?_;rintro e w' ⟨rfl,rfl⟩;exact⟨.p (.tup []),.tuple #[],σ,β,_,rfl,⟨rfl,rfl⟩,.p (.tup [] #[] (fun _=>undef) rfl (by simp) (by simp)),by simpa using C,by simpa using Later.refl _ _ _ _⟩
 .have Q:=Mf A D;subst Q;have f:=(C.apart 1000 (by simp) i D i.blk i.has_blk).2;have b:l.length<=i.cap:=by simpa using h3
  have hle:l.length*3<=vs.size:=by rw[R];omega
  have c:=fun m j Y U=>It (σ:=σ) (l:=l) h5 (m:=m) (j:=j) Y U;have q:=AnyQ.slices_SortFunc_total H7 3 Tryz.isAgg232 Tryz.sizeOf232 Pb (fun _=>rfl) (fun x v g=>by simp[Pb]at g;rcases g with rfl|rfl|rfl<;>rfl) cfO q3e 229 #[] i.blk 0 i.cap l.toArray w
   call229 (fun m os dk _ x y=>Ou _ x y) (fun t ht=>by
    have o:t<l.toArray.size*3:=by simpa using ht
    refine⟨?_,YY J _⟩;have B:=M3 o;have z:=c (t/3) (t%3) (by simp at o;omega) (by omega);rw[Nat.div_add_mod']at z;rw[FR J,x8d,z,z2l _ t (by simpa using o)];rw[x9q (by simpa using o)]at B;simpa using B.symm) f (by simp;omega) q3i
  simp only[z0o]at q;change Calls prog 228 _ _ _ at q;refine q.mono ?_;rintro e w' ⟨rfl,n,os,rfl⟩;generalize hS:(l.mergeSort fun x y=> !(ltOf cfO) y x)=S;have a:S.length=l.length:=by rw[<-hS];simp
  obtain⟨hf,hb⟩:=Vl (enc:=id) (n:=n) (os:=os) (d:=flatK Pb 3 S.toArray) J f;obtain⟨E,hL⟩:=Bi (c':=.own 232 3 (S.map fun s=>.agg s.1.cells)) C D hf (.inr ⟨i,_,D,M,hb,by rw[Z9];exact R,by simp[a];exact b,h4,Ic fun m Y j U=>by
   have B:=PL (enc:=id) (d:=flatK Pb 3 S.toArray) (vs:=vs) (by simp[a];omega) (k:=m*3+j) (by simp;omega);have z:=M3 (d:=S.toArray) (t:=m*3+j) (by simp;omega);rw[x9q (by simp;omega)]at z;rw[B];simp only[id];rw[z];simp[show(m*3+j)/3=m by omega,show(m*3+j)%3=j by omega]⟩)
  exact⟨.p (.tup []),.tuple #[],σ,β,_,rfl,⟨rfl,rfl⟩,.p (.tup [] #[] (fun _=>undef) rfl (by simp) (by simp)),E,hL⟩
def Ks(l:List Step)(i:∀s∈l,okSt s)(j:l.length<=1000000000):
  SpecH prog 228 [.hd 1000 0 l.length,.p (.fn 229 [])] [(1000,.own 232 3 (l.map fun s=>.agg s.cells))]
   (fun r H=>r=.p (.tup [])/\H=[(1000,.own 232 3 ((JM l).map fun s=>.agg s.cells))]):=by
 have h:=MD (l.attachWith okSt i) (by simpa using j);have n:((l.attachWith okSt i).map fun s=>AV.agg s.1.cells)=l.map fun s=>AV.agg s.cells:=by
  have:=x8m (List.map fun s:Step=>AV.agg s.cells) (List.attachWith_map_subtype_val (l:=l) (p:=okSt) i);simp
 have o:(((l.attachWith okSt i).mergeSort fun x y=> !(ltOf cfO) y x).map fun s=>AV.agg s.1.cells)=(JM l).map fun s=>AV.agg s.cells:=by
  have k:=List.map_mergeSort (l:=l.attachWith okSt i) (f:=Subtype.val) (r:=fun x y=> !(ltOf cfO) y x) (s:=fun x y=> !DI y x) (fun a _ b _=>rfl);rw[List.attachWith_map_subtype_val]at k;unfold JM;rw[<-k,z1s];rfl
 rw[n,o]at h;simpa using h
section
variable {P:Program}{T:Tab}{N:Nat}
def q4r{β:Lab}{k:Nat}{H H':Heap}{d:Chunk}{w w':World}{i:BInfo}(h:HRel σ β H w)(a:k∈H.map (·.1))(y:β k=some i)(n:Frm (fun b=>b=i.blk) w w')(s:H'.map (·.1)=H.map (·.1))(D:∀j c,(j,c)∈H'->j≠k->(j,c)∈H)(E:∀c,(k,c)∈H'->c=d)(v:d.holds σ β w' k):HRel σ β H' w'/\Later σ β H w σ β H' w':=by
 have x:=h.apart k a i y;refine⟨⟨fun b cs l=>?_,fun j c p=>?_,by rw[s];exact h.nodup,fun j p i' o b l=>?_,fun j p G z=>h.inj j (s▸p) G (s▸z)⟩,Mem.le_refl σ,⟨n.os,n.tape,n.output,n.drawn,n.size,fun b l F=>n.block b l fun t=>F ⟨k,a,i,y,.inl t.symm⟩⟩,
  fun b B C=>absurd B C,fun b ⟨j,p,r⟩=>.inl ⟨j,s▸p,r⟩,fun _ _ _=>rfl⟩
 .obtain ⟨e,A,f⟩:=h.mem b cs l;exact⟨e,A,(n.block b (x7p.1 f).1 fun t=>by rw[t,(x _ i.has_blk).1]at l;cases l).trans f⟩
 .by_cases q:j=k
  .subst q;rw[E c p];exact v
  .have g:=D j c p q;have u:j∈H.map (·.1):=x6r.2 ⟨_,g,rfl⟩;exact(h.chunks j c g).mono (Mem.le_refl σ) fun i' o b l=>n.block b (h.apart j u i' o b l).2 fun t=>q (h.inj j u k a i' i o y b l (.inl t.symm))
 .have:=h.apart j (s▸p) i' o b l;exact⟨this.1,x9o this.2 n.size⟩
theorem OpK.clear(hT:TabOK P T){s:St}{o:Oper}{K:St->Prop}{t:TypeId}{x:Operand}(hop:o.op=.call {callee:=.builtin .clear,args:=#[x],argTypes:=#[t]}){k off len:Nat}(A:QR s.sl x=.hd k off len){e sz:Nat}{es:List AV}(hg:getH s.H k=some (.own e sz es)){i E:TyI}(ht:T.get t=some i)(hd:i.desc=.slice e)(hte:T.get e=some E)(hz:E.zero.cells.size=sz)(hone:E.zero.cells.all (·.oneCell')=true)(hpos:0<sz)(h:P2 s.H k (.own e sz (es.take off)) fun H=>setD N s.sl o.dst (.p (.tup [])) fun sl=>K ⟨sl,H⟩):OpK P N s o K:=by
 refine⟨fun σ β a w l Q=>?_⟩;have Y:=QV l.G x;rw[A]at Y;generalize hxe:a.eval x=v at Y;obtain⟨H',hK,h3,h4,h5⟩:=HE l.heap.nodup h;have hlab:=XY hg;have hu:=hT.of ht;rw[hd]at hu;have hue:=hT _ _ hte;have F:RepL σ β (.p (.tup [])) (.tuple #[]):=.p (.tup [] #[] (fun _=>undef) rfl (by simp) (by simp));have hbc:∀{w'} ,(Builtin.clear_ #[t] o.type #[v]).run P w=.ok (.tuple #[]) w'->(execOp a.eval o).run P w=.ok (.value (.tuple #[])) w':=fun {w'} hc=>by
  simp[execOp,hop,resolve,invoke,builtin,hxe,hc]
 have hch:=l.heap.chunks k _ (QD hg);have B:len=0->(Builtin.clear_ #[t] o.type #[v]).run P w=.ok (.tuple #[]) w->(o.wp P a w (fun a' w'=>∃σ' β' s',K s'/\Rel N σ' β' s' a' w'/\Later σ β s.H w σ' β' s'.H w') Q):=fun _ g=>by
  have z:HRel σ β H' w/\Later σ β s.H w σ β H' w:=by
   refine⟨⟨l.heap.mem,fun j c y=>?_,by rw[h3];exact l.heap.nodup,fun j y=>l.heap.apart j (h3▸y),fun j y j' hj'=>l.heap.inj j (h3▸y) j' (h3▸hj')⟩,Mem.le_refl σ,Frm.refl _ w,fun b h0 h1=>absurd h0 h1,fun b ⟨j,y,r⟩=>.inl ⟨j,h3▸y,r⟩,fun _ _ _=>rfl⟩;by_cases hjk:j=k
   .subst hjk;rw[h5 c y];rcases hch with⟨C,h7⟩|⟨J,vs,C,h7,h8,h9,h10,L,M⟩
    .exact .inl ⟨C,by rw[h7];simp⟩
    .exact .inr ⟨J,vs,C,h7,h8,h9,by simp;omega,L,fun m x A=>M m x (by rw[x7i]at A;split at A;exact A;cases A)⟩
   .exact l.heap.chunks j c (h4 j c y hjk)
  have U:Rel N σ β ⟨s.sl,H'⟩ a w:=⟨l.size,l.defers,l.G,z.1⟩;obtain⟨sl,hK,V⟩:=U.setD F hK;exact VR (hbc g) ⟨σ,β,_,hK,V,z.2⟩
 rcases Y.hdI with⟨hk0,hoff,hlen,I⟩|⟨J,oo,hk,hfit,D,I⟩
 .subst I;refine B hlen ?_;simp[Builtin.clear_,run_underlying hu]
 by_cases hl0:len=0
 .subst hl0 I;refine B rfl ?_;simp[Builtin.clear_,run_underlying hu]
 rcases hch with⟨C,_⟩|⟨bi',vs,C,h7,h8,h9,h10,L,M⟩
 .rw [hk]at C;cases C
 rw[hk]at C;cases C;have D:oo=off*sz:=by
  rcases D with D|⟨O,_⟩
  .rw [D,h7]
  .omega
 obtain⟨zs,Z⟩ : ∃zs,zs=(Builtin.zeroCells E.zero.cells len).toList:=⟨_,rfl⟩;have hzl:zs.length=len*sz:=by rw[Z];simp[Builtin.zeroCells,hz]
 have hz1:∀v∈zs,v.oneCell'=true:=fun v I=>by
  rw[Z]at I;simp only[Builtin.zeroCells,Array.toList_map,x6r]at I;obtain⟨q,hq,rfl⟩:=I;have R:q%E.zero.cells.size<E.zero.cells.size:=Nat.mod_lt _ (by omega);rw[z2l E.zero.cells (q%E.zero.cells.size) R];exact Array.all_eq_true.1 hone _ R
 have hend:off*sz+len*sz<=vs.size:=by
  rw[h9,<-x9g];exact x8g _ hfit
 have hst:=run_storeCells_cells (P:=P) J.blk oo zs 0 w (fun j y=>by
   have:oo+0+j<vs.size:=by omega
   simp only[World.cell?,h8];rw[x9q this];rfl) (fun j y=>by simp[World.frozen?,h8]) hz1
 have g:(Builtin.clear_ #[t] o.type #[v]).run P w=.ok (.tuple #[]) (w.setCells J.blk oo zs):=by
  subst I;have hzv:(zeroValue e).run P w=.ok E.zero w:=by
   have:=hue.info;cases hq:P.info? e with
   |none=>rw[hq]at this;cases this
   | some f=>
     rw[hq]at this;simp at this;simp[zeroValue,typeInfo,hq,this]
  obtain⟨len',rfl⟩ : ∃l',len=l'+1:=⟨len-1,by omega⟩;simp only[z0r]at hst;simp[Builtin.clear_,Sem.run_bind,run_underlying hu,hzv,<-Z,hst]
 obtain⟨s1,s2⟩:=WL zs oo h8;have hnew:(Chunk.own e sz (es.take off)).holds σ β (w.setCells J.blk oo zs) k:=by
  refine .inr ⟨J,_,hk,h7,s1,by rw[UD];exact h9,by simp;omega,L,fun m x A=>?_⟩;rw[x7i]at A;split at A
  .rename_i hm;obtain⟨O,h14⟩:=M m x A;refine⟨O,fun j c y=>?_⟩;obtain⟨u,h15,h16⟩:=h14 j c y;have hjl:j<sz:=by rw[<-O];exact(x6n.1 y).1
   have R:m*sz+j<off*sz:=by
    have:(m+1)*sz<=off*sz:=x8g _ hm;rw[x9g]at this;omega
   exact⟨u,by rw[DJ _ _ _ _ (by omega),if_neg (by omega)];exact h15,h16⟩
  .cases A
 obtain⟨hh,hl⟩:=q4r l.heap hlab hk s2 h3 h4 h5 hnew;have U:Rel N σ β ⟨s.sl,H'⟩ a (w.setCells J.blk oo zs):=⟨l.size,l.defers,l.G,hh⟩;obtain⟨sl,hK,V⟩:=U.setD F hK;exact VR (hbc g) ⟨σ,β,_,hK,V,hl⟩
end
def XJ(p:Step):List Step->List Step
 |[]=>[]
 |b::r=>bif ZR b p then XJ b r else b::XJ b r
def LO:List Step->List Step
 |[]=>[]
 |a::r=>a::XJ a r
def Re{l:List Step}(h:l.length<2):LO l=l:=by
 match l,h with
 |[],_=>rfl
 |[a],_=>rfl
def avS(l:List Step):List AV:=l.map fun s=>.agg s.cells
def Zy(l:List Step)(g:l.length<=1000000000):
  SpecH prog 230 [.hd 1000 0 l.length,.p (.fn 231 [])] [(1000,.own 232 3 (avS l))]
   (fun r H=>r=.hd 1000 0 (LO l).length/\H=[(1000,.own 232 3 (avS (LO l)))]):=by
 refine sH WF func230 rfl call230 ?_;conv=>whnf
 repeat' (first|(refine iM fun _=>?_;conv=>whnf)|(apply bD<;>intro _<;>first|omega|conv=>whnf))
 .have e:LO l=l:=Re (by omega);rw[e];exact⟨_,x6e _,rfl,rfl⟩
 refine LoopK.inv QW (fun k:Nat=>⟨[(0,.hd 1000 0 l.length),(1,.p (.fn 231 [])),(5,.p (.int .i64 k))],[(1000,.own 232 3 (avS l))]⟩)
  (fun k=>1<=k/\k<=l.length/\∃a,l[k-1]?=some a/\l.take k++XJ a (l.drop k)=LO l) (fun k=>l.length-k) 1 (Le.of_eq rfl) ⟨x7u _,by omega,?_⟩ ?_
 .cases l with
  |nil=>simp at*
  |cons a r=>exact⟨a,rfl,rfl⟩
 rintro k ⟨K,L,a,u,s⟩;rcases x6c k l.length with t|t;rotate_left 1
 .rw [x7v t,x7w t]at s;conv=>whnf
  repeat' (first|(refine iM fun _=>?_;conv=>whnf)|(apply bD<;>intro _<;>first|omega|conv=>whnf))
  rw[<-s,XJ,x8x];exact⟨_,x6e _,rfl,rfl⟩
 rw[x7t t,XJ]at s;have c:k-1<l.length:=by omega
 obtain⟨_,b⟩:=x6n.1 u;have w:(avS l)[k]?=some (.agg l[k].cells):=by simp[avS,t]
 have j:(avS l)[k-1]?=some (.agg a.cells):=by simp[avS,u]
 conv=>whnf
 repeat' (first|((first|(refine iM fun _=>?_)|refine cP (Jk _ _) ?_|refine dA ?_|refine x6d rfl ?_|refine wI ?_|refine x8q k (by omega) (by omega) ?_|refine x8q (k-1) (by omega) (by omega) ?_|refine x8p k 0 (.agg l[k].cells) (by omega) w ?_|refine x8p (k-1) 0 (.agg a.cells) (by omega) j ?_|refine z2f k l.length rfl rfl (by omega) (by omega) ?_);conv=>whnf)|(apply bD<;>intro _<;>first|omega|conv=>whnf)|(apply bB<;>intro _<;>conv=>whnf))
 rotate_left 1
 .have h:ZR l[k] a=false:=by assumption
  rw[h,x7k]at s;exact⟨k+1,⟨by omega,by omega,l[k],by simp[t],by rw[<-s,x7x t,x7n];rfl⟩,by omega,Le.of_eq rfl⟩
 have h:ZR l[k] a=true:=by assumption
 rw[h,x7z]at s;clear u b w j c h;refine LoopK.inv QW (fun x:Nat×Nat×List Step=>⟨[(0,.hd 1000 0 l.length),(1,.p (.fn 231 [])),(5,.p (.int .i64 x.2.1)),(6,.hd 1000 (0+k) (l.length-k)),(7,.p (.int .i64 x.1))],[(1000,.own 232 3 (avS x.2.2))]⟩)
  (fun x=>1<=x.1/\x.1<=l.length-k/\x.2.1<=k+x.1-1/\x.2.2.length=l.length/\x.2.2.drop (k+x.1-1)=l.drop (k+x.1-1)/\∃a,l[k+x.1-1]?=some a/\x.2.2.take x.2.1++XJ a (l.drop (k+x.1))=LO l) (fun x=>l.length-k-x.1) (1,k,l) (Le.of_eq rfl) ⟨x7u _,by simp only;omega,by simp only;omega,rfl,rfl,l[k],by simp[t],s⟩ ?_
 rintro⟨q,i,es⟩ ⟨C,D,E,y,v,a,u,n⟩;clear s;simp only at C D E y v u n⊢;have F:(avS es).length=l.length:=by simp[avS,y]
 rcases x6c q (l.length-k)with J|J
 .have o:k+q<l.length:=by omega
  have f:es[k+q]?=l[k+q]?:=by
   have:=x8m (fun x=>x[1]?) v;simp only[x8t]at this
   rwa[show k+q-1+1=k+q by omega]at this
  have A:es[k+q-1]?=some a:=by
   have:=x8m (fun x=>x[0]?) v;simp only[x8t,z0r]at this;rw[this,u]
  rw[x6k o]at f;have w:(avS es)[k+q]?=some (.agg l[k+q].cells):=by simp[avS,f]
  have j:(avS es)[k+q-1]?=some (.agg a.cells):=by simp[avS,A]
  have G:i<es.length:=by omega
  have B:(avS es)[i]?=some (.agg es[i].cells):=by simp[avS,G]
  rw[x7t o,XJ]at n;conv=>whnf
  repeat' (first|((first|(refine iM fun _=>?_)|refine cP (Jk _ _) ?_|refine dA ?_|refine x6d rfl ?_|refine wI ?_|refine x8q q (by omega) (by omega) ?_|refine x8q (q-1) (by omega) (by omega) ?_|refine x8q i (by omega) (by omega) ?_|refine x8p (k+q) 0 (.agg l[k+q].cells) (by omega) w ?_|refine x8p (k+q-1) 0 (.agg a.cells) (by omega) j ?_|refine z0j i 0 (.agg es[i].cells) (.agg l[k+q].cells) (by omega) B (show 3<=3 from x7u 3) rfl ?_);conv=>whnf)|(apply bD<;>intro _<;>first|omega|conv=>whnf)|(apply bN<;>intro _<;>conv=>whnf))
  .have h:ZR l[k+q] a=true:=by assumption
   rw[h,x7z]at n;exact⟨(q+1,i,es),⟨by simp only;omega,by simp only;omega,by simp only;omega,y,by
    have:=x8m (List.drop 1) v;simp only[List.drop_drop]at this;simpa only[show k+(q+1)-1=k+q-1+1 by omega]using this,l[k+q],by simp[o],n⟩,by simp only;omega,Le.of_eq rfl⟩
  .have h:ZR l[k+q] a=false:=by assumption
   rw[h,x7k]at n;have z:(es.set i l[k+q]).drop (k+q)=l.drop (k+q):=by
    rw[List.drop_set_of_lt (by omega)];have:=x8m (List.drop 1) v;simp only[List.drop_drop]at this
    rwa[show k+q-1+1=k+q by omega]at this
   exact⟨(q+1,i+1,es.set i l[k+q]),⟨by simp only;omega,by simp only;omega,by simp only;omega,by simp only[x8i];exact y,z,l[k+q],by simp[o],by
    simp only;rw[<-n,x7x (by simp;omega),List.take_set_of_le (by omega),List.getElem_set_self,x7n];rfl⟩,by simp only;omega,Le.of_eq (by simp only[avS,x9w];rfl)⟩
 .have d:k+q=l.length:=by omega
  rw[d,List.drop_length,XJ,x8x]at n;conv=>whnf
  repeat' (first|((first|(refine iM fun _=>?_)|refine x6d rfl ?_|refine z2f i l.length rfl rfl (by omega) (by omega) ?_);conv=>whnf)|(apply bD<;>intro _<;>first|omega|conv=>whnf))
  refine OpK.clear QW rfl rfl rfl rfl rfl rfl rfl (by kernel_rfl) (by decide) ?_;conv=>whnf
  repeat' ((first|refine x6d rfl ?_|refine z2f 0 i rfl rfl (by omega) (by omega) ?_);conv=>whnf)
  have I:i=(LO l).length:=by rw[<-n];simp;omega
  exact⟨_,z1m (by rw[<-I];rfl),rfl,by rw[x8d,<-n];simp[avS,List.map_take]⟩
def WA(l:List Step):List Step:=LO (JM l)
def M4(l:List Step)(i:∀s∈l,okSt s)(h:l.length<=1000000000):
  SpecH prog 182 [.hd 1000 0 l.length] [(1000,.own 232 3 (avS l))] (fun r H=>r=.hd 1000 0 (WA l).length/\H=[(1000,.own 232 3 (avS (WA l)))]):=by
 refine sH Rw func182 rfl call182 ?_;conv=>whnf
 repeat' (first|(refine CallK.heap [(1000,1000)] 0 (by repeat' (first|exact x7h|refine x6i ?_ ?_|exact x6e _|exact x7q Sub.nils|exact x7q (Sub.tt rfl)|exact x7q (Sub.ff rfl)|exact x7q (Sub.int (by omega)))) (by refine x6y (j:=1000) rfl rfl ?_ ?_;exact CSub.refl _;exact x7f) (Ks l i h) rfl rfl ?_;rintro l' H' ⟨rfl,rfl⟩;conv=>whnf)|(refine CallK.heap [(1000,1000)] 0 (x6i (z1m (by rw[Vw];rfl)) (x6i (x6e _) x7h)) (by refine x6y (j:=1000) rfl rfl ?_ ?_;exact CSub.refl _;exact x7f) (Zy (JM l) (by rw[Vw];exact h)) rfl rfl ?_;rintro l' H' ⟨rfl,rfl⟩;conv=>whnf))
 exact⟨_,x6e _,rfl,rfl⟩
def UC(h:Sheet)(f:Pr)(it:Item):List Int:=
 if it.s.kind=5 then [KE it.s.I it.next,KE it.s.L it.next]
 else if it.s.kind=6 then [KE it.s.I it.s.id,it.next]
 else if it.s.kind=7 then [((h.l[(it.loop-1).toNat]?).map Item.next).getD 0]
 else if it.s.kind=8 then [it.loop]
 else if it.s.kind=9 then [-1]
 else if it.s.kind=10 then [(atB f it.s.name).1]
 else [it.next]
def Hn(l:List S)(o:Int):SpecP prog 270 [eSs l,.int .i64 o] (fun r=>r=.int .i64 (KE l o)):=by
 unfold eSs;rw[S.avs_eq];exact E7 l o
def Jj(p:Pg)(j:Nat)(f:Pr)(w:p.A[j]?=some f)(v:cntP p.A<=1000)(it:Item)(x:it.D=j)(q:it.s.kind=7->1<=it.loop/\it.loop<=(sheetOf p).l.length):SpecP prog 215 [.ip (sheetOf p).cells,.agg it.cells] (fun r=>r=XL (UC (sheetOf p) f it)):=by
 refine sB W5 func215 rfl call215 ?_;conv=>whnf
 have t:=(QY p).2.2.2.1;have y:it.s.kind=7->∃u,(sheetOf p).l[(it.loop-1).toNat]?=some u/\((sheetOf p).l.map fun i=>AV.agg i.cells)[(it.loop-1).toNat]?=some (.agg u.cells):=fun h=>by
  have:=q h;have k:(it.loop-1).toNat<(sheetOf p).l.length:=by omega
  exact⟨_,x6k k,by rw[x6a,x6k k];rfl⟩
 repeat' (first|((first|refine dA ?_|refine x6d rfl ?_|refine aD ?_|refine bP ?_|refine wI ?_|(refine CallK.pure (FI p j f w v it.s.name) (.cons (Sub.refl _) (.cons (Sub.int x) (.cons (Sub.refl _) .nil))) ?_;rintro _ rfl)|refine BsK.pureL rfl rfl ?_|refine cP (Hn it.s.I _) ?_|refine cP (Hn it.s.L _) ?_|(obtain⟨u,n,o⟩:=y (by assumption);refine IdxK.at (by have:=q (by assumption);omega) o rfl ?_));conv=>whnf)|(apply bD<;>intro _<;>first|omega|conv=>whnf))
 all_goals first
  |exact RetK.p (by unfold UC;rw[if_neg (by assumption),if_neg (by assumption),if_pos (by assumption),n];rfl)
  |exact RetK.p (by unfold UC;rw[if_pos (by assumption)];rfl)
  |exact RetK.p (by unfold UC;rw[if_neg (by assumption),if_pos (by assumption)];rfl)
  |exact RetK.p (by unfold UC;rw[if_neg (by assumption),if_neg (by assumption),if_neg (by assumption),if_pos (by assumption)];rfl)
  |exact RetK.p (by unfold UC;rw[if_neg (by assumption),if_neg (by assumption),if_neg (by assumption),if_neg (by assumption),if_pos (by assumption)];rfl)
  |exact RetK.p (by unfold UC;rw[if_neg (by assumption),if_neg (by assumption),if_neg (by assumption),if_neg (by assumption),if_neg (by assumption),if_pos (by assumption)];rfl)
  |exact RetK.p (by unfold UC;rw[if_neg (by assumption),if_neg (by assumption),if_neg (by assumption),if_neg (by assumption),if_neg (by assumption),if_neg (by assumption)];rfl)
def QG(p:Pg)(j:Nat)(f:Pr):List Step:=
 ⟨0,if QH p.A j<QH p.A j+cntL f.body then((QH p.A j:Nat)+1:Int)else -1,1⟩::(itL j 0 (-1) 0 (QH p.A j) f.body).flatMap fun it=>(UC (sheetOf p) f it).map (Step.mk it.s.id · 1)
def itsOf(p:Pg)(j:Nat)(f:Pr):List Item:=itL j 0 (-1) 0 (QH p.A j) f.body
def Un(p:Pg)(j:Nat)(f:Pr)(g:p.A[j]?=some f)(G:cntP p.A<=1000)(I:∀it∈itsOf p j f,it.s.kind=7->1<=it.loop/\it.loop<=(sheetOf p).l.length)(z:∀s∈QG p j f,okSt s):SpecP prog 158 [.ip (sheetOf p).cells,.int .i64 j] (fun r=>r=DN (WA (QG p j f))):=by
 refine sB Qe func158 rfl call158 ?_;conv=>whnf
 obtain⟨_,_,_,J,E⟩:=QY p;obtain⟨B,d,U,_⟩:=E j f g;repeat' ((first|(refine iM fun _=>?_)|refine x6d rfl ?_|refine aD ?_|refine cP (DM (sheetOf p) j _ _ B d) ?_|refine cP (SA p g G) ?_|refine z1c (fun x F=>by rcases x6p.1 F with rfl;rfl) rfl ?_);conv=>whnf)
 have t:QG p j f=⟨0,if QH p.A j<QH p.A j+cntL f.body then((QH p.A j:Nat)+1:Int)else -1,1⟩::(itsOf p j f).flatMap fun it=>(UC (sheetOf p) f it).map (Step.mk it.s.id · 1):=rfl;have o:itL j 0 (-1) 0 (QH p.A j) f.body=itsOf p j f:=rfl;have a:∀it∈itsOf p j f,it.D=j:=fun it h=>NF _ _ _ _ _ _ it h;have e:(itsOf p j f).length<=1000:=by rw[<-o,ZC];omega
 rw[o];generalize itsOf p j f=its at I t a e⊢;have R:=UQ its;refine LoopK.inv QW (fun i:Nat×List Step=>⟨[(0,.p (.ip (sheetOf p).cells)),(5,.hd 0 0 i.2.length),(17,.p (UH its)),(18,.p (.int .i64 (its.map fun i=>AV.agg i.cells).length)),(19,.p (.int .i64 i.1))],[(0,.own 232 3 (avS i.2))]⟩)
  (fun i=>i.1<=its.length/\i.2.length<=1+2*i.1/\i.2++(its.drop i.1).flatMap (fun it=>(UC (sheetOf p) f it).map (Step.mk it.s.id · 1))=QG p j f) (fun i=>its.length-i.1) (0,[⟨0,if QH p.A j<QH p.A j+cntL f.body then((QH p.A j:Nat)+1:Int)else -1,1⟩]) (Le.of_eq rfl) ⟨x6t _,by simp,by rw[t];rfl⟩ ?_
 rintro⟨m,n⟩ ⟨K,L,u⟩;simp only at K L u⊢;rcases x6c m its.length with b|b;rotate_left 1
 .have w:n=QG p j f:=by
   rw[x7v b]at u;simpa using u
  rw[<-w]at z⊢;conv=>whnf
  repeat' (first|(apply bD<;>intro _<;>first|omega|conv=>whnf)|(refine CallK.heap [(1000,0)] 0 (by repeat' (first|exact x7h|refine x6i ?_ ?_|exact x6e _|exact x7q Sub.nils|exact x7q (Sub.tt rfl)|exact x7q (Sub.ff rfl)|exact x7q (Sub.int (by omega)))) (by refine x6y (j:=0) rfl rfl ?_ ?_;exact CSub.refl _;exact x7f) (M4 n z (by omega)) rfl rfl ?_;rintro l' H' ⟨rfl,rfl⟩;conv=>whnf))
  exact⟨_,.hd rfl (by simp[avS]),rfl⟩
 have c:(UC (sheetOf p) f its[m]).length<=2:=by unfold UC;split<;>(try split)<;>(try split)<;>(try split)<;>(try split)<;>(try split)<;>simp
 rw[YS b]at u;have y:=x6o b;conv=>whnf
 repeat' (first|((first|(refine iM fun _=>?_)|refine x6d rfl ?_|(refine iA fun _=>?_)|refine cP (Jj p j f g G its[m] (a _ y) (I _ y)) ?_);conv=>whnf)|(apply bD<;>intro _<;>first|omega|conv=>whnf))
 generalize Q:UC (sheetOf p) f its[m]=gs at c u⊢;have H:(gs.map (AV.int .i64)).length=gs.length:=x6j _;refine LoopK.inv QW (fun i:Nat×List Step=>⟨[(0,.p (.ip (sheetOf p).cells)),(5,.hd 0 0 i.2.length),(7,.p (.ip its[m].cells)),(17,.p (UH its)),(18,.p (.int .i64 (its.map fun i=>AV.agg i.cells).length)),(19,.p (.int .i64 m)),(25,.p (XL gs)),(26,.p (.int .i64 (gs.map (AV.int .i64)).length)),(27,.p (.int .i64 i.1))],[(0,.own 232 3 (avS i.2))]⟩)
  (fun i=>i.1<=gs.length/\i.2.length<=n.length+i.1/\i.2++((gs.drop i.1).map (Step.mk its[m].s.id · 1)++(its.drop (m+1)).flatMap (fun it=>(UC (sheetOf p) f it).map (Step.mk it.s.id · 1)))=QG p j f) (fun i=>gs.length-i.1) (0,n) (Le.of_eq rfl) ⟨x6t _,by simp,u⟩ ?_
 rintro⟨q,k⟩ ⟨M,O,v⟩;simp only at M O v⊢;rcases x6c q gs.length with C|C;rotate_left 1
 .rw [x7v C]at v;conv=>whnf
  repeat' (first|(refine wI ?_;conv=>whnf)|(apply bD<;>intro _<;>first|omega|conv=>whnf))
  exact⟨(m+1,k),⟨by simp only;omega,by simp only;omega,by simpa using v⟩,by simp only;omega,Le.of_eq rfl⟩
 rw[x7t C,x7l]at v;conv=>whnf
 repeat' (first|((first|refine x6d rfl ?_|refine aD ?_|refine bP ?_|(refine iA fun _=>?_)|refine wI ?_|refine x8e (by simp[avS]) rfl (by show(k.length+1)*24<=140737488355328;omega) (by show k.length+1<=9223372036854775807;omega) (fun x F=>by rcases x6p.1 F with rfl;exact⟨rfl,rfl⟩) ?_);conv=>whnf)|(apply bD<;>intro _<;>first|omega|conv=>whnf))
 exact⟨(q+1,k++[⟨its[m].s.id,gs[q],1⟩]),⟨by simp only;omega,by simp;omega,by simpa using v⟩,by simp only;omega,Le.of_eq (by simp only[avS,x6f,x6l];rfl)⟩
def bv:Bool->AV
 |true=>.tt
 |false=>.ff
structure Way where
 p:Pg
 j:Nat
 n:Int
 real:List Step
 live:List Bool
def Way.cells(w:Way):List AV:=[.ip (sheetOf w.p).cells,.int .i64 w.j,.int .i64 w.n,DN w.real,.sl (w.live.map bv)]
def q1m(p:Pg)(j:Nat)(n:Int)(h:AV)(i:List AV):Heap:=[(1000,.obj 127 [.p (.ip (sheetOf p).cells),.p (.int .i64 j),.p (.int .i64 n),.p h,.hd 2000 0 i.length]),(2000,.own 4 1 i)]
def KJ(h i n x:Int):Int:=if x=0 then 0 else if x = -1 then n-1 else if h<=x/\x<i then x-h+1 else -1
def loI(p:Pg)(j:Nat):Int:=(QH p.A j:Nat)+1
def hiI(p:Pg)(j:Nat)(f:Pr):Int:=(QH p.A j+cntL f.body:Nat)+1
def Zn(w:Way)(f:Pr)(o:w.p.A[w.j]?=some f)(s:cntP w.p.A<=1000)(t:0<=w.n/\w.n<=5000)(x:Int):SpecP prog 181 [.ip w.cells,.int .i64 x] (fun r=>r=.int .i64 (KJ (loI w.p w.j) (hiI w.p w.j f) w.n x)):=by
 refine sB BJ func181 rfl call181 ?_;conv=>whnf
 obtain⟨_,_,_,l,k⟩:=QY w.p;obtain⟨i,h,q,_⟩:=k w.j f o;repeat' (first|((first|refine dA ?_|refine wI ?_|(refine IdxK.at rfl (UG i) rfl ?_)|(refine IdxK.at rfl (UG h) rfl ?_));conv=>whnf)|(apply bD<;>intro _<;>first|omega|conv=>whnf))
 all_goals exact RetK.int (by unfold KJ loI hiI;(repeat' split)<;>omega)
def Pu(p:Pg)(j:Nat)(f:Pr)(n:Int)(h:AV)(q:List AV)(s:p.A[j]?=some f)(u:cntP p.A<=1000)(v:0<=n/\n<=5000)(x:Int):
  SpecH prog 181 [.ptr 1000 0,.p (.int .i64 x)] (q1m p j n h q) (fun r H=>r=.p (.int .i64 (KJ (loI p j) (hiI p j f) n x))/\H=q1m p j n h q):=by
 obtain⟨_,_,_,o,l⟩:=QY p;obtain⟨k,i,t,_⟩:=l j f s;refine sH BJ func181 rfl call181 ?_;conv=>whnf
 repeat' (first|((first|refine dA ?_|refine wI ?_|(refine IdxK.at rfl (UG k) rfl ?_)|(refine IdxK.at rfl (UG i) rfl ?_));conv=>whnf)|(apply bD<;>intro _<;>first|omega|conv=>whnf))
 all_goals exact⟨_,x7q (Sub.int (by unfold KJ loI hiI;(repeat' split)<;>omega)),rfl,rfl⟩
def avP(l:List (Int×Int)):List AV:=l.map fun x=>.agg [.int .i64 x.1,.int .i64 x.2]
def ixP(p:Pg)(j:Nat)(f:Pr)(n:Int)(s:Step):Int×Int:=(KJ (loI p j) (hiI p j f) n s.src,KJ (loI p j) (hiI p j f) n s.dst)
def DD(w:Way)(f:Pr)(y:w.p.A[w.j]?=some f)(v:cntP w.p.A<=1000)(z:0<=w.n/\w.n<=5000)(l:List Step)(t:l.length<=1000000):SpecP prog 110 [.ip w.cells,DN l] (fun r=>r=.sl (avP (l.map (ixP w.p w.j f w.n)))):=by
 refine sB BK func110 rfl call110 ?_;conv=>whnf
 repeat' (refine iM fun _=>?_;conv=>whnf)
 have b:(l.map fun s=>AV.agg s.cells).length=l.length:=x6j _;refine LoopK.inv QW (fun i:Nat×List (Int×Int)=>⟨[(0,.p (.ip w.cells)),(5,.hd 0 0 i.2.length),(8,.p (DN l)),(9,.p (.int .i64 (l.map fun s=>AV.agg s.cells).length)),(10,.p (.int .i64 i.1))],[(0,.own 233 2 (avP i.2))]⟩)
  (fun i=>i.1<=l.length/\i.2=(l.take i.1).map (ixP w.p w.j f w.n)) (fun i=>l.length-i.1) (0,[])
  (Le.mk [(0,.own 233 2 [])] (by simp[Chunk.new0];rfl) (by simp) (by simp) (.r (.cons (.nil x6g) (.r (.r (.r .nil))))) (.new x6g .nil))
  ⟨x6t _,rfl⟩ ?_
 rintro⟨m,h⟩ ⟨u,k⟩;simp only at u k⊢;rcases x6c m l.length with o|o;rotate_left 1
 .rw [x7w o]at k;subst k;conv=>whnf
  repeat' (apply bD<;>intro _<;>first|omega|conv=>whnf)
  exact⟨_,.hd rfl (by simp[avP]),rfl⟩
 have q:h.length=m:=by rw[k];simp;omega
 conv=>whnf
 repeat' (first|((first|refine dA ?_|refine x6d rfl ?_|refine aD ?_|refine bP ?_|(refine iA fun _=>?_)|refine wI ?_|refine cP (Zn w f y v z _) ?_|refine x8e (by simp[avP]) rfl (by show(h.length+1)*16<=140737488355328;omega) (by show h.length+1<=9223372036854775807;omega) (fun x a=>by rcases x6p.1 a with rfl;exact⟨rfl,rfl⟩) ?_);conv=>whnf)|(apply bD<;>intro _<;>first|omega|conv=>whnf))
 exact⟨(m+1,h++[ixP w.p w.j f w.n l[m]]),⟨by simp only;omega,by simp only;rw[k,x7x o,x6l];rfl⟩,by simp only;omega,Le.of_eq (by simp only[avP,x6f,x6l];rfl)⟩
def Vs{P:Program}{f:FuncId}{args:List LV}{H n:Heap}{e:TypeId}{sz:Nat}{Q:List AV->Prop}(a:MF 0 n fun H=>H=n)(h:SpecH P f args H (fun r H'=>∃es,r=.hd 0 0 es.length/\H'=(0,.own e sz es)::n/\Q es)):SpecH P f args H (fun r H'=>∃es,r=.p (.sl es)/\H'=n/\Q es):=by
 refine⟨h.go,fun σ β w b E F I=>(h.ok σ β w b E F I).mono fun O w' M=>?_⟩;obtain⟨l,u,σ',β',H',L,⟨es,rfl,rfl,J⟩,z,y,t⟩:=M;obtain⟨s',rfl,C⟩:=Le.row (N:=1) (s:=⟨[(0,.hd 0 0 es.length)],(0,.own e sz es)::n⟩) (k:=0) (e:=e) (sz:=sz) (es:=es) (zs:=[0]) rfl (K:=fun s=>s=⟨[(0,.p (.sl es))],n⟩) (by
  show LenK es.length es _;refine⟨rfl,?_⟩;show MF 0 n fun H=>(⟨[(0,.p (.sl es))],H⟩:St)=⟨[(0,.p (.sl es))],n⟩;have key:∀{d:Heap}{K g:Heap->Prop},(∀H,K H->g H)->MF 0 d K->MF 0 d g:=fun {d}=>by
   induction d with
   |nil=>intro K g q h;exact q _ h
   | cons x r A=>
     intro K g q h;obtain⟨j,c⟩:=x;simp only[MF]at h⊢;cases D:j==0 with
     | true=>
       simp only[D,x7z]at h⊢;exact A q h
     | false=>
       simp only[D,x7k]at h⊢;cases c with
       |obj e ls=>simp only[VF]at h⊢;exact A (fun H o=>q _ o) h
       |own e sz es=>exact A (fun H o=>q _ o) h
       |ext x=>exact A (fun H o=>q _ o) h
  exact key (fun H o=>by rw[o]) a)
 obtain⟨σ2,β2,v,B⟩:=C σ' β' {tmps:=#[u],defers:=[]} w' ⟨rfl,rfl,fun i=>by
  match i with
  |0=>simpa[getS]using z
  |i+1=>exact .p (by simpa[getS]using Rep.any _),y⟩
 exact⟨.p (.sl es),u,σ2,β2,n,L,⟨es,rfl,rfl,J⟩,by simpa[getS]using v.G 0,v.heap,t.trans B⟩
def Py(p:Pg)(j:Nat)(f:Pr)(n:Int)(h:AV)(q:List AV)(z:p.A[j]?=some f)(y:cntP p.A<=1000)(a:0<=n/\n<=5000)(l:List Step)(v:l.length<=1000000):
  SpecH prog 110 [.ptr 1000 0,.p (DN l)] (q1m p j n h q) (fun r H=>∃es,r=.p (.sl es)/\H=q1m p j n h q/\es=avP (l.map (ixP p j f n))):=by
 refine Vs (e:=233) (sz:=2) rfl ?_;refine sH BK func110 rfl call110 ?_;conv=>whnf
 repeat' (refine iM fun _=>?_;conv=>whnf)
 have c:(l.map fun s=>AV.agg s.cells).length=l.length:=x6j _;refine LoopK.inv QW (fun i:Nat×List (Int×Int)=>⟨[(0,.ptr 1000 0),(5,.hd 0 0 i.2.length),(8,.p (DN l)),(9,.p (.int .i64 (l.map fun s=>AV.agg s.cells).length)),(10,.p (.int .i64 i.1))],(0,.own 233 2 (avP i.2))::q1m p j n h q⟩)
  (fun i=>i.1<=l.length/\i.2=(l.take i.1).map (ixP p j f n)) (fun i=>l.length-i.1) (0,[])
  (Le.mk [(0,.own 233 2 [])] (by simp[Chunk.new0];rfl) (by simp) (by simp[q1m]) (.r (.cons (.nil x6g) (.r (.r (.r .nil))))) (.new x6g (.cons rfl (.refl _) (.cons rfl (.refl _) .nil))))
  ⟨x6t _,rfl⟩ ?_
 rintro⟨m,k⟩ ⟨w,o⟩;simp only at w o⊢;rcases x6c m l.length with t|t;rotate_left 1
 .rw [x7w t]at o;subst o;conv=>whnf
  repeat' (apply bD<;>intro _<;>first|omega|conv=>whnf)
  exact⟨_,x6e _,avP (l.map (ixP p j f n)),by simp[avP],rfl,rfl⟩
 have u:k.length=m:=by rw[o];simp;omega
 conv=>whnf
 repeat' (first|((first|refine dA ?_|refine x6d rfl ?_|refine aD ?_|refine bP ?_|(refine iA fun _=>?_)|refine wI ?_|refine x8e (by simp[avP]) rfl (by show(k.length+1)*16<=140737488355328;omega) (by show k.length+1<=9223372036854775807;omega) (fun x b=>by rcases x6p.1 b with rfl;exact⟨rfl,rfl⟩) ?_);conv=>whnf)|(apply bD<;>intro _<;>first|omega|conv=>whnf)|(refine CallK.heap [(1000,1000),(2000,2000)] 0 (by repeat' (first|exact x7h|refine x6i ?_ ?_|exact x6e _|exact x7q Sub.nils|exact x7q (Sub.tt rfl)|exact x7q (Sub.ff rfl)|exact x7q (Sub.int (by omega)))) (by refine x6y (j:=1000) rfl rfl ?_ ?_;exact CSub.refl _;refine x6y (j:=2000) rfl rfl ?_ ?_;exact CSub.refl _;exact x7f) (Pu p j f n h q z y a _) rfl rfl ?_;rintro l' H' ⟨rfl,rfl⟩;conv=>whnf))
 exact⟨(m+1,k++[ixP p j f n l[m]]),⟨by simp only;omega,by simp only;rw[o,x7x t,x6l];rfl⟩,by simp only;omega,Le.mk [] (by simp) (by simp) (by simp[q1m]) (.r (.cons (.of_eq (by simp only[x6f];rfl)) (.r (.r (.cons (.of_eq rfl) .nil))))) (.cons rfl (.of_eq (by simp only[avP,x6l];rfl)) (.cons rfl (.refl _) (.cons rfl (.refl _) .nil)))⟩
def RD{l:List Int}{x:Int}(h:l.Pairwise (· <= ·)):(U6 l (l.countP (· < x)) x).Pairwise (· <= ·):=by
 induction l with
 |nil=>simp[U6]
 | cons a r p=>
   obtain⟨j,o⟩:=x9i.1 h;by_cases k:a<x
   .have e:U6 (a::r) ((a::r).countP (· < x)) x=a::U6 r (r.countP (· < x)) x:=by
     unfold U6;rw[List.countP_cons_of_pos (by simpa using k)];rfl
    rw[e,x9i];refine⟨fun b i=>?_,p o⟩;unfold U6 at i;rcases x6s.1 i with i|i
    .exact j b (List.mem_of_mem_take i)
    .rcases x6m.1 i with rfl|i
     .omega
     .exact j b (List.mem_of_mem_drop i)
   .have n:(a::r).countP (· < x)=0:=by
     rw[List.countP_eq_zero];intro b i;rcases x6m.1 i with rfl|i
     .simpa using k
     .have:=j b i;simp;omega
    rw[n];show(x::a::r).Pairwise (· <= ·);refine x9i.2 ⟨fun b i=>?_,h⟩;rcases x6m.1 i with rfl|i
    .omega
    .have:=j b i;omega
def Jf(n m:Nat)(N:List (List Int)):Prop:=N.length=n/\∀r∈N,r.Pairwise (· <= ·)/\r.length<=m
def Mu{n:Nat}(h:Jf n m N)(a:Nat)(b:Int):Jf n (m+1) (Fk N a b):=by
 unfold Fk;refine⟨by rw[x8i];exact h.1,fun r k=>?_⟩;rcases z1r k with k|rfl
 .obtain ⟨j,l⟩:=h.2 r k;exact⟨j,by omega⟩
 .rcases x6c a N.length with i|i
  .have o:N.getD a []∈N:=by
    rw[x6h,x6k i];exact x6o i
   obtain⟨j,l⟩:=h.2 _ o;exact⟨RD j,by rw[Yx z2j];omega⟩
  .have:N.getD a []=[]:=by simp[x7a i]
   rw[this];exact⟨by simp[U6],by simp[U6]⟩
def Hs{n j:Nat}(h:Jf n m N)(k:m<=j):Jf n j N:=⟨h.1,fun r i=>⟨(h.2 r i).1,x8s (h.2 r i).2 k⟩⟩
def Pd(n:Nat)(g:List (List Int)×List (List Int))(e:Int×Int):List (List Int)×List (List Int):=
 bif WV n e.1&&WV n e.2 && !(g.1.getD e.1.toNat []).contains e.2 then(Fk g.1 e.1.toNat e.2,Fk g.2 e.2.toNat e.1)else g
def QO(n:Nat)(l:List (Int×Int)):List (List Int)×List (List Int):=l.foldl (Pd n) (List.replicate n [],List.replicate n [])
def Gz(m:List (List Int)):AV:=.sl ((avI m).map .sl)
def HG(g:List (List Int)×List (List Int)):AV:=.ip [Gz g.1,Gz g.2]
def Yo(n:Nat)(g:List (List Int)×List (List Int))(e:Int×Int):(Pd n g e).1=bif WV n e.1&&WV n e.2 && !(g.1.getD e.1.toNat []).contains e.2 then Fk g.1 e.1.toNat e.2 else g.1:=by
 unfold Pd;cases WV n e.1&&WV n e.2 && !(g.1.getD e.1.toNat []).contains e.2<;>rfl
def H8(n:Nat)(g:List (List Int)×List (List Int))(e:Int×Int):(Pd n g e).2=bif WV n e.1&&WV n e.2 && !(g.1.getD e.1.toNat []).contains e.2 then Fk g.2 e.2.toNat e.1 else g.2:=by
 unfold Pd;cases WV n e.1&&WV n e.2 && !(g.1.getD e.1.toNat []).contains e.2<;>rfl
def O7{n:Nat}{g:List (List Int)×List (List Int)}(h:Jf n m g.1/\Jf n m g.2)(e:Int×Int):Jf n (m+1) (Pd n g e).1/\Jf n (m+1) (Pd n g e).2:=by
 rw[Yo,H8];cases WV n e.1&&WV n e.2 && !(g.1.getD e.1.toNat []).contains e.2
 .exact ⟨Hs h.1 (by omega),Hs h.2 (by omega)⟩
 .exact ⟨Mu h.1 _ _,Mu h.2 _ _⟩
def Q4{n:Nat}{l:List (Int×Int)}(h:m<l.length):QO n (l.take (m+1))=Pd n (QO n (l.take m)) l[m]:=by
 unfold QO;rw[x7x h,List.foldl_append];rfl
theorem Wm{n:Nat}{l:List (Int×Int)}:∀{m:Nat},m<=l.length->Jf n m (QO n (l.take m)).1/\Jf n m (QO n (l.take m)).2
 | 0,_=>by
   have:Jf n 0 (List.replicate n []):=⟨by simp,fun r i=>by rw[z0q i];simp⟩;exact⟨this,this⟩
 | m+1,h=>by
   rw[Q4 h];exact O7 (Wm (by omega)) _
def Fz{h:Nat}{sl:List (Nat×LV)}(n a b:Nat)(k:(sl.all fun x=>x.2.xfree 0)=true)(l:(sl.all fun x=>x.2.xfree 1)=true):
  Le h ⟨sl,[(2,.obj 256 [.hd a 0 n,.hd b 0 n]),(1,.own 54 1 (List.replicate n .nils)),(0,.own 54 1 (List.replicate n .nils))]⟩
   ⟨sl,[(2,.obj 256 [.hd a 0 n,.hd b 0 n]),(1,.ext (.mat 54 3 1 (List.replicate n []) [])),(0,.ext (.mat 54 3 1 (List.replicate n []) []))]⟩:=by
 have o:=Dg (N:=h) (sl:=sl) (H:=[(2,.obj 256 [.hd a 0 n,.hd b 0 n]),(1,.own 54 1 (List.replicate n .nils)),(0,.own 54 1 (List.replicate n .nils))])
  (H':=[(2,.obj 256 [.hd a 0 n,.hd b 0 n]),(1,.own 54 1 (List.replicate n .nils)),(0,.ext (.mat 54 3 1 (List.replicate (List.replicate n AV.nils).length []) []))])
  0 3 1 (e:=54) (es:=List.replicate n .nils) rfl (fun x j=>z0q j) rfl k rfl rfl (by simp[DW])
 have i:=Dg (N:=h) (sl:=sl) (H:=[(2,.obj 256 [.hd a 0 n,.hd b 0 n]),(1,.own 54 1 (List.replicate n .nils)),(0,.ext (.mat 54 3 1 (List.replicate (List.replicate n AV.nils).length []) []))])
  (H':=[(2,.obj 256 [.hd a 0 n,.hd b 0 n]),(1,.ext (.mat 54 3 1 (List.replicate (List.replicate n AV.nils).length []) [])),(0,.ext (.mat 54 3 1 (List.replicate (List.replicate n AV.nils).length []) []))])
  1 3 1 (e:=54) (es:=List.replicate n .nils) rfl (fun x j=>z0q j) rfl l rfl rfl (by simp[DW])
 have:=o.trans i;simpa using this
def Mj(n:Nat)(y:n<=5000)(l:List (Int×Int))(w:l.length<=1000000):SpecP prog 216 [.int .i64 n,.sl (avP l)] (fun r=>r=HG (QO n l)):=by
 refine sB Ry func216 rfl call216 ?_;conv=>whnf
 repeat' (first|((first|(refine iM fun _=>?_)|refine dA ?_|refine x6d rfl ?_|refine aR ?_|refine MkK.mk n rfl (by show 24*n<=140737488355328;omega) (by unfold maxLen;omega) ?_);conv=>whnf)|(apply bD<;>intro _<;>first|omega|conv=>whnf)|(refine x6d ?_ ?_<;>conv=>whnf))
 all_goals have z:(avP l).length=l.length:=x6j _
 .refine LoopK.inv QW (fun m:Nat=>⟨[(5,.ptr (0+1+1) 0),(20,.p (.sl (avP l))),(21,.p (.int .i64 (avP l).length)),(22,.p (.int .i64 m))],[(0+1+1,.obj 256 [.hd 0 0 n,.hd (0+1) 0 n]),(0,.ext (.mat 54 3 1 (avI (QO n (l.take m)).1) [])),(0+1,.ext (.mat 54 3 1 (avI (QO n (l.take m)).2) []))]⟩)
   (fun m=>m<=l.length) (fun m=>l.length-m) 0 (by
     refine Le.trans (Fz n _ _ rfl rfl) ?_;exact Le.mk [] (by simp) (by simp) (by simp) (.r (.r (.r (.r .nil)))) (.cons rfl (.refl _) (.cons rfl (.of_eq (by simp[avI,QO])) (.cons rfl (.of_eq (by simp[avI,QO])) .nil)))) (x6t _) ?_
  rintro m v;obtain⟨g1,h⟩:=Wm (n:=n) v;rcases x6c m l.length with q|q
  .have u:(avP l)[m]?=some (.agg [.int .i64 l[m].1,.int .i64 l[m].2]):=by simp[avP,q]
   conv=>whnf
   repeat' (first|((first|refine x6d rfl ?_|refine wI ?_|(refine IdxK.at rfl u rfl ?_)|refine x8q 0 rfl (by decide) ?_|refine x8q 1 rfl (by decide) ?_);conv=>whnf)|(apply bD<;>intro _<;>first|omega|conv=>whnf)|(refine CallK.heap [(1000,0+1+1),(2001,0),(2002,1)] 0 (by repeat' (first|exact x7h|refine x6i ?_ ?_|exact x6e _|exact x7q Sub.nils|exact x7q (Sub.tt rfl)|exact x7q (Sub.ff rfl)|exact x7q (Sub.int (by omega)))) (by refine x6y (j:=2) rfl rfl ?_ ?_;exact CSub.refl _;refine x6y (j:=0) rfl rfl ?_ ?_;exact CSub.refl _;refine x6y (j:=1) rfl rfl ?_ ?_;exact CSub.refl _;exact x7f) (My n _ _ l[m].1 l[m].2 g1.1 h.1 y (fun r s=>⟨(g1.2 r s).1,by have:=(g1.2 r s).2;omega⟩) (fun r s=>⟨(h.2 r s).1,by have:=(h.2 r s).2;omega⟩)) rfl rfl ?_;rintro l' H' ⟨t,rfl,rfl⟩;conv=>whnf))
   exact⟨m+1,q,by omega,Le.of_eq (by rw[Q4 q,Yo,H8];rfl)⟩
  .rw [x7w q]at g1 h⊢;conv=>whnf
   repeat' (apply bD<;>intro _<;>first|omega|conv=>whnf)
   exact⟨_,.ptr (cs:=[Gz (QO n l).1,Gz (QO n l).2]) rfl rfl (fun i x c k o=>by
    match i,k,o with
    |0,k,o=>cases k;cases o;exact .mat rfl (by rw[avI,x6j,g1.1])
    |1,k,o=>cases k;cases o;exact .mat rfl (by rw[avI,x6j,h.1])),rfl⟩
 .refine LoopK.inv QW (fun m:Nat=>⟨[(5,.ptr (0+1+1) 0),(20,.p (.sl (avP l))),(21,.p (.int .i64 (avP l).length)),(22,.p (.int .i64 m))],[(0+1+1,.obj 256 [.hd (0+1) 0 n,.hd 0 0 n]),(0+1,.ext (.mat 54 3 1 (avI (QO n (l.take m)).1) [])),(0,.ext (.mat 54 3 1 (avI (QO n (l.take m)).2) []))]⟩)
   (fun m=>m<=l.length) (fun m=>l.length-m) 0 (by
     refine Le.trans (Fz n _ _ rfl rfl) ?_;exact Le.mk [] (by simp) (by simp) (by simp) (.r (.r (.r (.r .nil)))) (.cons rfl (.refl _) (.cons rfl (.of_eq (by simp[avI,QO])) (.cons rfl (.of_eq (by simp[avI,QO])) .nil)))) (x6t _) ?_
  rintro m v;obtain⟨g1,h⟩:=Wm (n:=n) v;rcases x6c m l.length with q|q
  .have u:(avP l)[m]?=some (.agg [.int .i64 l[m].1,.int .i64 l[m].2]):=by simp[avP,q]
   conv=>whnf
   repeat' (first|((first|refine x6d rfl ?_|refine wI ?_|(refine IdxK.at rfl u rfl ?_)|refine x8q 0 rfl (by decide) ?_|refine x8q 1 rfl (by decide) ?_);conv=>whnf)|(apply bD<;>intro _<;>first|omega|conv=>whnf)|(refine CallK.heap [(1000,0+1+1),(2001,1),(2002,0)] 0 (by repeat' (first|exact x7h|refine x6i ?_ ?_|exact x6e _|exact x7q Sub.nils|exact x7q (Sub.tt rfl)|exact x7q (Sub.ff rfl)|exact x7q (Sub.int (by omega)))) (by refine x6y (j:=2) rfl rfl ?_ ?_;exact CSub.refl _;refine x6y (j:=1) rfl rfl ?_ ?_;exact CSub.refl _;refine x6y (j:=0) rfl rfl ?_ ?_;exact CSub.refl _;exact x7f) (My n _ _ l[m].1 l[m].2 g1.1 h.1 y (fun r s=>⟨(g1.2 r s).1,by have:=(g1.2 r s).2;omega⟩) (fun r s=>⟨(h.2 r s).1,by have:=(h.2 r s).2;omega⟩)) rfl rfl ?_;rintro l' H' ⟨t,rfl,rfl⟩;conv=>whnf))
   exact⟨m+1,q,by omega,Le.of_eq (by rw[Q4 q,Yo,H8];rfl)⟩
  .rw [x7w q]at g1 h⊢;conv=>whnf
   repeat' (apply bD<;>intro _<;>first|omega|conv=>whnf)
   exact⟨_,.ptr (cs:=[Gz (QO n l).1,Gz (QO n l).2]) rfl rfl (fun i x c k o=>by
    match i,k,o with
    |0,k,o=>cases k;cases o;exact .mat rfl (by rw[avI,x6j,g1.1])
    |1,k,o=>cases k;cases o;exact .mat rfl (by rw[avI,x6j,h.1])),rfl⟩
def GU(st:List Bool×List Int)(b:Int):List Bool×List Int:=bif st.1.getD b.toNat false then st else(st.1.set b.toNat true,st.2++[b])
def ZD(h:List (List Int)):Nat->Nat->List Bool×List Int->List Bool×List Int
 |0,_,st=>st
 | k+1,i,st=>match st.2[i]?with
   |some a=>ZD h k (i+1) ((h.getD a.toNat []).foldl GU st)
   |none=>st
def wkInv(n:Nat)(st:List Bool×List Int):Prop:=st.1.length=n/\st.2.length<=st.1.count true/\∀x∈st.2,0<=x/\x<n
def Zw{n:Nat}{st:List Bool×List Int}(h:wkInv n st){b:Int}(p:0<=b/\b<n):wkInv n (GU st b):=by
 unfold GU;obtain⟨k,o,l⟩:=h;have i:b.toNat<st.1.length:=by omega
 cases r:st.1.getD b.toNat false with
 |true=>exact⟨k,o,l⟩
 | false=>
   have q:st.1[b.toNat]=false:=by simpa[i]using r
   refine⟨by simpa using k,?_,fun x j=>?_⟩
   .simp only[x7k,x6f,x7r];rw[List.count_set i,q];simp;omega
   .rcases x6s.1 j with j|j
    .exact l x j
    .rw [x6p.1 j];exact p
def Ex{n:Nat}{l:List Int}:∀{st:List Bool×List Int},wkInv n st->(∀b∈l,0<=b/\b<n)->wkInv n (l.foldl GU st):=by
 induction l with
 |nil=>intro st h _;exact h
 |cons b r k=>intro st h i;exact k (Zw h (i b x6g)) fun c j=>i c (x6b _ j)
def NZ{n:Nat}{st:List Bool×List Int}(h:wkInv n st):st.2.length<=n:=by
 refine x8s h.2.1 ?_;rw[<-h.1];exact List.count_le_length
def XD(n:Nat)(h:List (List Int)):Prop:=h.length=n/\∀r∈h,∀b∈r,0<=b/\b<n
def IL(st:List Bool×List Int):Heap:=[(1000,.own 4 1 (st.1.map bv)),(2000,.own 3 1 (st.2.map (.int .i64)))]
def Hc(n:Nat)(K:n<=5000)(h:List (List Int))(D:XD n h)(st:List Bool×List Int)(J:wkInv n st):
  SpecH prog 218 [.p (Gz h),.hd 1000 0 n,.hd 2000 0 st.2.length] (IL st) (fun r H=>r=.hd 2000 0 (ZD h (n+1) 0 st).2.length/\H=IL (ZD h (n+1) 0 st)):=by
 refine sH Ps func218 rfl call218 ?_;conv=>whnf
 skip
 refine LoopK.inv QW (fun x:Nat×List Bool×List Int=>⟨[(0,.p (Gz h)),(1,.hd 1000 0 n),(2,.hd 2000 0 x.2.2.length),(7,.p (.int .i64 x.1))],IL x.2⟩)
  (fun x=>wkInv n x.2/\x.1<=x.2.2.length/\ZD h (n+1-x.1) x.1 x.2=ZD h (n+1) 0 st) (fun x=>n-x.1) (0,st) (Le.of_eq rfl) ⟨J,x6t _,rfl⟩ ?_
 rintro⟨i,seen,j⟩ ⟨c,E,l⟩;simp only at c E l⊢;have g:=NZ c;simp only at g;rw[show n+1-i=n-i+1 by omega,ZD]at l;rcases x6c i j.length with y|y;rotate_left 1
 .simp only[x7a y]at l;conv=>whnf
  repeat' (first|(refine iM fun _=>?_;conv=>whnf)|(apply bD<;>intro _<;>first|omega|conv=>whnf))
  exact⟨_,z1m (by rw[<-l]),rfl,by rw[<-l];rfl⟩
 simp only[x6k y]at l;have L:=c.2.2 _ (x6o y);have w:j[i].toNat<h.length:=by rw[D.1];omega
 have a:((avI h).map AV.sl)[j[i].toNat]?=some (.sl (h[j[i].toNat].map (.int .i64))):=by simp[avI,w]
 have f:h.getD j[i].toNat []=h[j[i].toNat]:=by simp[w]
 rw[f]at l;have v:=D.2 _ (x6o w);conv=>whnf
 repeat' (first|((first|(refine iM fun _=>?_)|refine x6d rfl ?_|refine x8q i (by omega) (by omega) ?_|refine x8p i 0 (.int .i64 j[i]) (by omega) (by simp[y]) ?_|(refine IdxK.at (by omega) a rfl ?_));conv=>whnf)|(apply bD<;>intro _<;>first|omega|conv=>whnf))
 have A:(h[j[i].toNat].map (AV.int .i64)).length<=9223372036854775807:=by assumption
 generalize h[j[i].toNat]=row at v l A⊢;have I:(row.map (AV.int .i64)).length=row.length:=x6j _;refine LoopK.inv QW (fun x:Nat×List Bool×List Int=>⟨[(0,.p (Gz h)),(1,.hd 1000 0 n),(2,.hd 2000 0 x.2.2.length),(7,.p (.int .i64 i)),(22,.p (.sl (row.map (.int .i64)))),(23,.p (.int .i64 (row.map (AV.int .i64)).length)),(24,.p (.int .i64 x.1))],IL x.2⟩)
  (fun x=>wkInv n x.2/\j.length<=x.2.2.length/\x.1<=row.length/\ZD h (n-i) (i+1) ((row.drop x.1).foldl GU x.2)=ZD h (n+1) 0 st) (fun x=>row.length-x.1) (0,seen,j) (Le.of_eq rfl) ⟨c,x7u _,x6t _,l⟩ ?_
 rintro⟨q,k,t2⟩ ⟨t,B,F,u⟩;simp only at t B F u⊢;have z:=NZ t;simp only at z;rcases x6c q row.length with d|d;rotate_left 1
 .rw [x7v d]at u;conv=>whnf
  repeat' (first|(refine wI ?_;conv=>whnf)|(apply bD<;>intro _<;>first|omega|conv=>whnf))
  exact⟨(i+1,k,t2),⟨t,by simp only;omega,by simp only;rw[show n+1-(i+1)=n-i by omega];exact u⟩,by simp only;omega,Le.of_eq rfl⟩
 rw[x7t d,x9p]at u;have G:=v _ (x6o d);have C:=Zw t G;have o:row[q].toNat<k.length:=by have:=t.1;simp only at this;omega
 cases s:k.getD row[q].toNat false with
 | true=>
   have e:GU (k,t2) row[q]=(k,t2):=by unfold GU;simp only[s,x7z]
   have b:(k.map bv)[row[q].toNat]?=some .tt:=by
    have:k[row[q].toNat]=true:=by simpa[o]using s
    simp[o,this,bv]
   rw[e]at u;conv=>whnf
   repeat' (first|((first|refine x6d rfl ?_|(refine iA fun _=>?_)|refine wI ?_|refine x8q row[q].toNat (by omega) (by have:=t.1;simp only at this;omega) ?_|refine x8p row[q].toNat 0 .tt (by omega) b ?_);conv=>whnf)|(apply bD<;>intro _<;>first|omega|conv=>whnf))
   all_goals exact⟨(q+1,k,t2),⟨t,B,by simp only;omega,u⟩,by simp only;omega,Le.of_eq rfl⟩
 | false=>
   have e:GU (k,t2) row[q]=(k.set row[q].toNat true,t2++[row[q]]):=by unfold GU;simp only[s,x7k]
   have b:(k.map bv)[row[q].toNat]?=some .ff:=by
    have:k[row[q].toNat]=false:=by simpa[o]using s
    simp[o,this,bv]
   rw[e]at u C;conv=>whnf
   repeat' (first|((first|refine x6d rfl ?_|refine aD ?_|refine bP ?_|(refine iA fun _=>?_)|refine wI ?_|refine x8q row[q].toNat (by omega) (by have:=t.1;simp only at this;omega) ?_|refine x8p row[q].toNat 0 .ff (by omega) b ?_|refine z0j row[q].toNat 0 .ff .tt (by omega) b (x7u 1) rfl ?_|refine WZ (by simp) (by simp;omega) ?_);conv=>whnf)|(apply bD<;>intro _<;>first|omega|conv=>whnf))
   all_goals exact⟨(q+1,k.set row[q].toNat true,t2++[row[q]]),⟨C,by simp;omega,by simp only;omega,u⟩,by simp only;omega,Le.of_eq (by simp only[IL,x6f,x6l,x9w];rfl)⟩
def DS:Nat->List Bool->List Int
 |_,[]=>[]
 |i,b::r=>bif b then(i:Int)::DS (i+1) r else DS (i+1) r
def Mk(seen:List Bool)(s:seen.length<=1000000):
  SpecH prog 219 [.hd 1000 0 seen.length] [(1000,.own 4 1 (seen.map bv))] (fun r H=>∃es,r=.p (.sl es)/\H=[(1000,.own 4 1 (seen.map bv))]/\es=(DS 0 seen).map (.int .i64)):=by
 refine Vs (e:=3) (sz:=1) rfl ?_;refine sH Gk func219 rfl call219 ?_;conv=>whnf
 repeat' (refine iM fun _=>?_;conv=>whnf)
 refine LoopK.inv QW (fun i:Nat×List Int=>⟨[(3,.hd 0 0 i.2.length),(6,.hd 1000 0 seen.length),(7,.p (.int .i64 seen.length)),(8,.p (.int .i64 i.1))],[(0,.own 3 1 (i.2.map (.int .i64))),(1000,.own 4 1 (seen.map bv))]⟩)
  (fun i=>i.1<=seen.length/\i.2.length<=i.1/\i.2++DS i.1 (seen.drop i.1)=DS 0 seen) (fun i=>seen.length-i.1) (0,[])
  (Le.mk [(0,.own 3 1 [])] (by simp[Chunk.new0];rfl) (by simp) (by simp) (.cons (.nil x6g) (.r (.r (.r .nil)))) (.new x6g (.cons rfl (.refl _) .nil)))
  ⟨x6t _,x7u _,rfl⟩ ?_
 rintro⟨m,l⟩ ⟨o,q,j⟩;simp only at o q j⊢;rcases x6c m seen.length with k|k;rotate_left 1
 .rw [x7v k,DS,x8x]at j;subst j;conv=>whnf
  repeat' (apply bD<;>intro _<;>first|omega|conv=>whnf)
  exact⟨_,x6e _,(DS 0 seen).map (.int .i64),by simp,rfl,rfl⟩
 rw[x7t k,DS]at j;cases h:seen[m]with
 | true=>
   rw[h,x7z]at j;have n:(seen.map bv)[m]?=some .tt:=by simp[k,h,bv]
   conv=>whnf
   repeat' (first|((first|refine x6d rfl ?_|refine aD ?_|refine bP ?_|refine wI ?_|refine x8q m rfl k ?_|refine x8p m 0 .tt (by omega) n ?_|refine WZ (by simp) (by simp;omega) ?_);conv=>whnf)|(apply bD<;>intro _<;>first|omega|conv=>whnf))
   exact⟨(m+1,l++[(m:Int)]),⟨by simp only;omega,by simp;omega,by simpa using j⟩,by simp only;omega,Le.of_eq (by simp only[x6f,x6l];rfl)⟩
 | false=>
   rw[h,x7k]at j;have n:(seen.map bv)[m]?=some .ff:=by simp[k,h,bv]
   conv=>whnf
   repeat' (first|((first|refine x6d rfl ?_|refine wI ?_|refine x8q m rfl k ?_|refine x8p m 0 .ff (by omega) n ?_);conv=>whnf)|(apply bD<;>intro _<;>first|omega|conv=>whnf))
   exact⟨(m+1,l),⟨by simp only;omega,by simp only;omega,j⟩,by simp only;omega,Le.of_eq rfl⟩
def Jd(g:List (List Int)×List (List Int))(a:Int):SpecP prog 217 [HG g,.int .i64 a] (fun r=>r=.bool (WV g.1.length a)):=by
 refine sB GA func217 rfl call217 ?_;conv=>whnf
 repeat' (first|(refine iM fun _=>?_;conv=>whnf)|(apply bD<;>intro _<;>first|omega|conv=>whnf))
 all_goals have h:((avI g.1).map AV.sl).length=g.1.length:=by simp[avI]
 all_goals first
  |exact RetK.bool (by unfold WV;simp[*];done)
  |exact RetK.ff (by unfold WV;simp;omega)
 all_goals trace_state
def PE(n:Nat)(l:List Int):List Bool×List Int:=l.foldl (fun st a=>bif WV n a then GU st a else st) (List.replicate n false,[])
def ZO(h:List (List Int))(l:List Int):List Bool:=(ZD h (h.length+1) 0 (PE h.length l)).1
def Ql(n:Nat):wkInv n (List.replicate n false,[]):=⟨by simp,by simp[List.count_replicate],by simp⟩
theorem PO{n:Nat}{j:List (List Int)}(o:XD n j):∀(k i:Nat){st:List Bool×List Int},wkInv n st->wkInv n (ZD j k i st)
 |0,_,_,h=>h
 | k+1,i,st,h=>by
   rw[ZD];split
   .rename_i a p;have q:=h.2.2 a (x7j p);refine PO o k (i+1) (Ex h ?_);have l:a.toNat<j.length:=by rw[o.1];omega
    rw[x6h,x6k l];exact o.2 _ (x6o l)
   .exact h
def ZK{n:Nat}{a:Int}(h:WV n a=true):0<=a/\a<n:=by
 unfold WV at h;simpa using h
def Wt(n:Nat)(D:n<=5000)(g:List (List Int)×List (List Int))(v:XD n g.1)(l:List Int)(d:l.length<=1000000):SpecP prog 160 [HG g,XL l] (fun r=>r=XL (DS 0 (ZO g.1 l))):=by
 refine sB LX func160 rfl call160 ?_;conv=>whnf
 have B:((avI g.1).map AV.sl).length=n:=by simp[avI,v.1]
 repeat' ((first|(refine iM fun _=>?_)|refine aR ?_|refine MkK.mk n (by rw[B]) (by show 1*n<=140737488355328;omega) (by unfold maxLen;omega) ?_);conv=>whnf)
 have C:(l.map (AV.int .i64)).length=l.length:=x6j _;refine LoopK.inv QW (fun x:Nat×List Bool×List Int=>⟨[(0,.p (HG g)),(5,.hd 0 0 n),(6,.hd 1 0 x.2.2.length),(17,.p (XL l)),(18,.p (.int .i64 (l.map (AV.int .i64)).length)),(19,.p (.int .i64 x.1))],[(0,.own 4 1 (x.2.1.map bv)),(1,.own 3 1 (x.2.2.map (.int .i64)))]⟩)
  (fun x=>x.1<=l.length/\wkInv n x.2/\(l.drop x.1).foldl (fun st a=>bif WV n a then GU st a else st) x.2=PE n l) (fun x=>l.length-x.1) (0,List.replicate n false,[])
  (Le.mk [(1,.own 3 1 [])] (by simp[Chunk.new0];rfl) (by simp) (by simp) (.r (.r (.cons (.nil x6g) (.r (.r (.r .nil)))))) (.cons rfl (.of_eq (by rw[x9e];rfl)) (.new x6g .nil)))
  ⟨x6t _,Ql n,rfl⟩ ?_
 rintro⟨m,seen,i⟩ ⟨f,s,q⟩;simp only at f s q⊢;have E:seen.length=n:=s.1;have F:i.length<=n:=NZ s;rcases x6c m l.length with z|z;rotate_left 1
 .rw [x7v z,List.foldl_nil]at q;conv=>whnf
  repeat' (first|(apply bD<;>intro _<;>first|omega|conv=>whnf)|(refine CallK.heap [(1000,0),(2000,1)] 0 (by repeat' (first|exact x7h|refine x6i ?_ ?_|exact x6e _|exact x7q Sub.nils|exact x7q (Sub.tt rfl)|exact x7q (Sub.ff rfl)|exact x7q (Sub.int (by omega)))) (by refine x6y (j:=0) rfl rfl ?_ ?_;exact CSub.refl _;refine x6y (j:=1) rfl rfl ?_ ?_;exact CSub.refl _;exact x7f) (Hc n D g.1 v (seen,i) s) rfl rfl ?_;rintro l' H' ⟨rfl,rfl⟩;conv=>whnf))
  have b:(ZD g.1 (n+1) 0 (seen,i)).1.length=n:=(PO v _ _ s).1;refine CallK.heap [(1000,0)] 0 (x6i (z1m (by rw[b];rfl)) x7h) (by refine x6y (j:=0) rfl rfl ?_ ?_;exact CSub.refl _;exact x7f) (Mk (ZD g.1 (n+1) 0 (seen,i)).1 (by omega)) rfl rfl ?_;rintro l' H' ⟨es,rfl,rfl,rfl⟩;conv=>whnf
  skip
  exact RetK.p (by unfold XL ZO;rw[v.1,<-q])
 rw[x7t z,x9p]at q;have t:SpecP prog 217 [HG g,.int .i64 l[m]] (fun r=>r=.bool (WV n l[m])):=by
  have:=Jd g l[m]
  rwa[v.1]at this
 cases o:seen.getD l[m].toNat false with
 | true=>
   have u:(bif WV n l[m]then GU (seen,i) l[m]else(seen,i))=(seen,i):=by unfold GU;simp only[o,x7z];cases WV n l[m]<;>rfl
   have w:WV n l[m]=true->(seen.map bv)[l[m].toNat]?=some .tt:=fun h=>by
    have A:=ZK h;have k:l[m].toNat<seen.length:=by omega
    have:seen[l[m].toNat]=true:=by simpa[k]using o
    simp[k,this,bv]
   rw[u]at q;conv=>whnf
   repeat' (first|((first|refine x6d rfl ?_|(refine iA fun _=>?_)|refine wI ?_|refine cP t ?_|refine x8q l[m].toNat (by have:=ZK (by assumption);omega) (by have:=ZK (by assumption);omega) ?_|refine x8p l[m].toNat 0 .tt (by omega) (w (by assumption)) ?_);conv=>whnf)|(apply bD<;>intro _<;>first|omega|conv=>whnf)|(apply bB<;>intro _<;>conv=>whnf))
   all_goals exact⟨(m+1,seen,i),⟨by simp only;omega,s,q⟩,by simp only;omega,Le.of_eq rfl⟩
 | false=>
   have w:WV n l[m]=true->(seen.map bv)[l[m].toNat]?=some .ff:=fun h=>by
    have A:=ZK h;have k:l[m].toNat<seen.length:=by omega
    have:seen[l[m].toNat]=false:=by simpa[k]using o
    simp[k,this,bv]
   conv=>whnf
   repeat' (first|((first|refine x6d rfl ?_|refine aD ?_|refine bP ?_|(refine iA fun _=>?_)|refine wI ?_|refine cP t ?_|refine x8q l[m].toNat (by have:=ZK (by assumption);omega) (by have:=ZK (by assumption);omega) ?_|refine x8p l[m].toNat 0 .ff (by omega) (w (by assumption)) ?_|refine z0j l[m].toNat 0 .ff .tt (by omega) (w (by assumption)) (x7u 1) rfl ?_|refine WZ (by simp) (by simp;omega) ?_);conv=>whnf)|(apply bD<;>intro _<;>first|omega|conv=>whnf)|(apply bB<;>intro _<;>conv=>whnf))
   .have y:WV n l[m]=true:=by assumption
    have u:(bif WV n l[m]then GU (seen,i) l[m]else(seen,i))=(seen.set l[m].toNat true,i++[l[m]]):=by unfold GU;simp only[o,y,x7z,x7k]
    have c:=Zw s (ZK y);rw[u]at q;have e:GU (seen,i) l[m]=(seen.set l[m].toNat true,i++[l[m]]):=by unfold GU;simp only[o,x7k]
    rw[e]at c;exact⟨(m+1,seen.set l[m].toNat true,i++[l[m]]),⟨by simp only;omega,c,q⟩,by simp only;omega,Le.of_eq (by simp only[x6f,x6l,x9w];rfl)⟩
   .have y:WV n l[m]=false:=by assumption
    have u:(bif WV n l[m]then GU (seen,i) l[m]else(seen,i))=(seen,i):=by rw[y];rfl
    rw[u]at q;exact⟨(m+1,seen,i),⟨by simp only;omega,s,q⟩,by simp only;omega,Le.of_eq rfl⟩
def Ph(w:Way)(f:Pr)(n:Nat)(q:w.n=n)(k:w.p.A[w.j]?=some f)(i:cntP w.p.A<=1000)(o:n<=5000)(l:List Step)(h:l.length<=1000000):SpecP prog 159 [.ip w.cells,DN l] (fun r=>r=HG (QO n (l.map (ixP w.p w.j f w.n)))):=by
 refine sB BG func159 rfl call159 ?_;conv=>whnf
 repeat' ((first|refine dA ?_|(refine CallK.pure (DD w f k i (by omega) l h) (.cons (Sub.refl _) (.cons (Sub.refl _) .nil)) ?_;rintro _ rfl)|(refine CallK.pure (Mj n o (l.map (ixP w.p w.j f w.n)) (by rw[x6j];exact h)) (.cons (Sub.int q) (.cons (Sub.refl _) .nil)) ?_;rintro _ rfl));conv=>whnf)
 exact RetK.p rfl
def Pf(p:Pg)(j:Nat)(f:Pr)(n:Nat)(h:AV)(k:List AV)(q:p.A[j]?=some f)(o:cntP p.A<=1000)(s:n<=5000)(l:List Step)(i:l.length<=1000000):
  SpecH prog 159 [.ptr 1000 0,.p (DN l)] (q1m p j n h k) (fun r H=>r=.p (HG (QO n (l.map (ixP p j f n))))/\H=q1m p j n h k):=by
 refine sH BG func159 rfl call159 ?_;conv=>whnf
 refine DrawK.of QW mixed (.cons 0 false (.cons 1 false (.cons 2 false (.cons 4 false (.cons 5 false (.fork 3 (.cons 6 true (.cons 7 true (.cons 8 true .nil))) 6 (.cons 3 true (.cons 7 true (.cons 8 true .nil))))))))) (by kernel_rfl) ?_;conv=>whnf
 repeat' (first|(refine CallK.pure (Mj n s (l.map (ixP p j f n)) (by rw[x6j];exact i)) (.cons (Sub.refl _) (.cons (Sub.refl _) .nil)) ?_;rintro _ rfl;conv=>whnf)|(refine x6d ?_ ?_<;>conv=>whnf)|(refine CallK.heap [(1000,1000),(2000,2000)] 0 (by repeat' (first|exact x7h|refine x6i ?_ ?_|exact x6e _|exact x7q Sub.nils|exact x7q (Sub.tt rfl)|exact x7q (Sub.ff rfl)|exact x7q (Sub.int (by omega)))) (by refine x6y (j:=1000) rfl rfl ?_ ?_;exact CSub.refl _;refine x6y (j:=2000) rfl rfl ?_ ?_;exact CSub.refl _;exact x7f) (Py p j f n h k q o (by omega) l i) rfl rfl ?_;rintro l' H' ⟨es,rfl,rfl,rfl⟩;conv=>whnf))
 all_goals exact⟨_,x6e _,rfl,rfl⟩
def Fp{n:Nat}(h:XD n N){a:Nat}{b:Int}(p:0<=b/\b<n):XD n (Fk N a b):=by
 unfold Fk;refine⟨by rw[x8i];exact h.1,fun r l x i=>?_⟩;rcases z1r l with l|rfl
 .exact h.2 r l x i
 .unfold U6 at i;have o:∀y∈N.getD a [],0<=y/\y<n:=fun y k=>by
   rcases x6c a N.length with j|j
   .rw [x6h,x6k j]at k;exact h.2 _ (x6o j) y k
   .rw [x6h,x7a j]at k;cases k
  rcases x6s.1 i with i|i
  .exact o x (List.mem_of_mem_take i)
  .rcases x6m.1 i with rfl|i
   .exact p
   .exact o x (List.mem_of_mem_drop i)
def q3t{n:Nat}{g:List (List Int)×List (List Int)}(h:XD n g.1/\XD n g.2)(e:Int×Int):XD n (Pd n g e).1/\XD n (Pd n g e).2:=by
 rw[Yo,H8];cases i:WV n e.1&&WV n e.2 && !(g.1.getD e.1.toNat []).contains e.2
 .exact h
 .simp only[x7y]at i;exact⟨Fp h.1 (ZK i.1.2),Fp h.2 (ZK i.1.1)⟩
def Oe{n:Nat}(l:List (Int×Int)):∀{g:List (List Int)×List (List Int)},XD n g.1/\XD n g.2->XD n (l.foldl (Pd n) g).1/\XD n (l.foldl (Pd n) g).2:=by
 induction l with
 |nil=>intro g h;exact h
 |cons e r i=>intro g h;exact i (q3t h e)
def HB(n:Nat)(l:List (Int×Int)):XD n (QO n l).1/\XD n (QO n l).2:=by
 have h:XD n (List.replicate n []):=⟨by simp,fun r i=>by rw[z0q i];simp⟩;exact Oe l ⟨h,h⟩
theorem Wr.eq{n m:Int}{K:Int->Prop}(h:n=m)(i : -9223372036854775808<=m)(j:m<=9223372036854775807)(l:K m):Wr .i64 n K:=by
 subst h;exact Wr.i64 i j l
theorem U1:∀(a:Step)(l:List Step),(XJ a l).length<=l.length
 |_,[]=>x7u _
 | a,b::r=>by
   have:=U1 b r;rw[XJ];cases ZR b a<;>simp<;>omega
def L2(l:List Step):(WA l).length<=l.length:=by
 unfold WA;rw[<-Vw (l:=l)];cases JM l with
 |nil=>exact x7u _
 | cons a r=>
   have:=U1 a r;simp[LO];omega
def Ey(h:Sheet)(f:Pr)(it:Item):(UC h f it).length<=2:=by
 unfold UC;split<;>(try split)<;>(try split)<;>(try split)<;>(try split)<;>(try split)<;>simp
theorem U4{α β:Type}{g:α->List β}(h:∀x,(g x).length<=2):∀l:List α,(l.flatMap g).length<=2*l.length
 |[]=>by simp
 | a::r=>by
   have:=U4 h r;have:=h a;rw[x8n,x6f,x7g];omega
def Uz(p:Pg)(j:Nat)(f:Pr):(QG p j f).length<=1+2*cntL f.body:=by
 unfold QG;have:=U4 (g:=fun it=>(UC (sheetOf p) f it).map (Step.mk it.s.id · 1)) (fun it=>by rw[x6j];exact Ey _ _ _) (itL j 0 (-1) 0 (QH p.A j) f.body);rw[ZC]at this;rw[x7g];omega
theorem Bk:∀(i:Nat)(l:List Bool)(a:Int),a∈DS i l->(i:Int)<=a/\a<i+l.length
 |_,[],_,h=>by rw[DS]at h;cases h
 | i,b::r,a,h=>by
   rw[DS]at h;have key:a∈DS (i+1) r->(i:Int)<=a/\a<i+(b::r).length:=fun h=>by
    have:=Bk (i+1) r a h;simp only[x7g];omega
   cases b with
   |false=>exact key h
   | true=>
     rcases x6m.1 h with rfl|h
     .simp only[x7g];omega
     .exact key h
def CE(n:Nat)(l:List Int):wkInv n (PE n l):=by
 unfold PE;have:∀(l:List Int)(st:List Bool×List Int),wkInv n st->wkInv n (l.foldl (fun st a=>bif WV n a then GU st a else st) st):=fun l=>by
  induction l with
  |nil=>intro st h;exact h
  | cons a r j=>
    intro st h;refine j _ ?_;show wkInv n (bif WV n a then GU st a else st);cases i:WV n a with
    |true=>exact Zw h (ZK i)
    |false=>exact h
 exact this l _ (Ql n)
def CH{n:Nat}{i:List (List Int)}(h:XD n i)(l:List Int):(ZO i l).length=n:=by
 unfold ZO;rw[h.1];exact(PO h _ _ (CE n l)).1
def DE(l:List Int)(b:List Bool):List Bool:=l.foldl (fun b a=>b.set a.toNat true) b
def QQ(p:Pg)(j:Nat)(f:Pr):Way:=
 let h:=WA (QG p j f);let n:=cntL f.body+2
 ⟨p,j,n,h,DE (DS 0 (ZO (QO n (h.map (ixP p j f n))).1 [0])) (List.replicate n false)⟩
def q6a(p:Pg)(j:Nat)(f:Pr)(z:p.A[j]?=some f)(F:cntP p.A<=1000)(I:∀it∈itsOf p j f,it.s.kind=7->1<=it.loop/\it.loop<=(sheetOf p).l.length)(B:∀s∈QG p j f,okSt s):SpecP prog 93 [.ip (sheetOf p).cells,.int .i64 j] (fun r=>r=.ip (QQ p j f).cells):=by
 refine sB Aw func93 rfl call93 ?_;conv=>whnf
 obtain⟨_,_,_,G,D⟩:=QY p;obtain⟨e,y,J,_⟩:=D j f z;repeat' ((first|refine dA ?_|refine x6d rfl ?_|refine aR ?_|(refine IdxK.at rfl (UG e) rfl ?_)|(refine IdxK.at rfl (UG y) rfl ?_)|refine cP (Un p j f z F I B) ?_|refine Wr.eq (m:=cntL f.body) (by omega) (by omega) (by omega) ?_|refine Wr.eq (m:=(cntL f.body+2:Nat)) (by omega) (by omega) (by omega) ?_|refine MkK.mk (cntL f.body+2) rfl (by show 1*_<=140737488355328;omega) (by unfold maxLen;omega) ?_);conv=>whnf)
 have C:(WA (QG p j f)).length<=1000000:=by have:=L2 (QG p j f);have:=Uz p j f;omega
 refine CallK.heap [(1000,0),(2000,1)] 0 (by repeat' (first|exact x7h|refine x6i ?_ ?_|exact x6e _|exact x7q Sub.nils|exact x7q (Sub.tt rfl)|exact x7q (Sub.ff rfl)|exact x7q (Sub.int (by omega)))) (x6y (j:=0) rfl rfl (CSub.of_eq (by rw[x8j];rfl)) (x6y (j:=1) rfl rfl (CSub.refl _) x7f)) (Pf p j f (cntL f.body+2) (DN (WA (QG p j f))) (List.replicate (cntL f.body+2) .ff) z F (by omega) (WA (QG p j f)) C) rfl rfl ?_;rintro l' H' ⟨rfl,rfl⟩;conv=>whnf
 obtain⟨o,_⟩:=HB (cntL f.body+2) ((WA (QG p j f)).map (ixP p j f (cntL f.body+2:Nat)));repeat' ((first|(refine iM fun _=>?_)|refine x6d rfl ?_|refine aD ?_|refine bP ?_|(refine CallK.pure (Wt (cntL f.body+2) (by omega) _ o [0] (by simp)) (.cons (Sub.refl _) (.cons (Sub.refl _) .nil)) ?_;rintro _ rfl));conv=>whnf)
 have q:∀a∈DS 0 (ZO (QO (cntL f.body+2) ((WA (QG p j f)).map (ixP p j f (cntL f.body+2:Nat)))).1 [0]),0<=a/\a<(cntL f.body+2:Nat):=fun a E=>by
  have:=Bk _ _ _ E;rw[CH o]at this;omega
 have g:QQ p j f=⟨p,j,(cntL f.body+2:Nat),WA (QG p j f),DE (DS 0 (ZO (QO (cntL f.body+2) ((WA (QG p j f)).map (ixP p j f (cntL f.body+2:Nat)))).1 [0])) (List.replicate (cntL f.body+2) false)⟩:=rfl;rw[g];have d:((DS 0 (ZO (QO (cntL f.body+2) ((WA (QG p j f)).map (ixP p j f (cntL f.body+2:Nat)))).1 [0])).map (AV.int .i64)).length<=9223372036854775807:=by assumption
 generalize DS 0 (ZO (QO (cntL f.body+2) ((WA (QG p j f)).map (ixP p j f (cntL f.body+2:Nat)))).1 [0])=lst at q d⊢;have K:(lst.map (AV.int .i64)).length=lst.length:=x6j _;refine LoopK.inv QW (fun x:Nat×List Bool=>⟨[(5,.ptr 0 0),(46,.p (XL lst)),(47,.p (.int .i64 (lst.map (AV.int .i64)).length)),(48,.p (.int .i64 x.1))],[(0,.obj 127 [.p (.ip (sheetOf p).cells),.p (.int .i64 j),.p (.int .i64 (cntL f.body+2:Nat)),.p (DN (WA (QG p j f))),.hd 1 0 (cntL f.body+2)]),(1,.own 4 1 (x.2.map bv))]⟩)
  (fun x=>x.1<=lst.length/\x.2.length=cntL f.body+2/\DE (lst.drop x.1) x.2=DE lst (List.replicate (cntL f.body+2) false)) (fun x=>lst.length-x.1) (0,List.replicate (cntL f.body+2) false)
  (Le.of_eq (by simp only[x9e,x8j];rfl)) ⟨x6t _,by simp,rfl⟩ ?_
 rintro⟨m,b⟩ ⟨H,u,n⟩;simp only at H u n⊢;rcases x6c m lst.length with t|t;rotate_left 1
 .rw [x7v t]at n;rw[<-n];conv=>whnf
  repeat' (apply bD<;>intro _<;>first|omega|conv=>whnf)
  exact⟨_,.ptr (cs:=[.ip (sheetOf p).cells,.int .i64 j,.int .i64 (cntL f.body+2:Nat),DN (WA (QG p j f)),.sl (b.map bv)]) rfl rfl (fun i x c h k=>by
   match i,h,k with
   |0,h,k=>cases h;cases k;exact .p (Sub.refl _)
   |1,h,k=>cases h;cases k;exact .p (Sub.refl _)
   |2,h,k=>cases h;cases k;exact .p (Sub.refl _)
   |3,h,k=>cases h;cases k;exact .p (Sub.refl _)
   |4,h,k=>cases h;cases k;exact .hd rfl (by rw[x6j,u])),rfl⟩
 rw[x7t t]at n;have E:=q _ (x6o t);have v:lst[m].toNat<b.length:=by omega
 have w:(b.map bv)[lst[m].toNat]?=some (bv b[lst[m].toNat]):=by simp[v]
 conv=>whnf
 repeat' (first|((first|refine x6d rfl ?_|(refine iA fun _=>?_)|refine wI ?_|refine x8q lst[m].toNat (by omega) (by omega) ?_|refine z0j lst[m].toNat 0 (bv b[lst[m].toNat]) .tt (by omega) w (x7u 1) (by cases b[lst[m].toNat]<;>rfl) ?_);conv=>whnf)|(apply bD<;>intro _<;>first|omega|conv=>whnf))
 exact⟨(m+1,b.set lst[m].toNat true),⟨by simp only;omega,by simp only[x8i];exact u,n⟩,by simp only;omega,Le.of_eq (by simp only[x9w];rfl)⟩
end Go.Ab
