/- The library's contracts at this seat's program, in plain words (printed by the kit's lay-plain.mjs). Conditions: none. -/
import Derived.Shelf.Sort.Plain
import Derived.Shelf.Slices.In.SortNone
import Derived.Shelf.Slices.CompactS
import Derived.Ground.Names2Prog
import Derived.Shelf.Slices.SearchI
import Derived.Shelf.Slices.Empties
import Derived.Shelf.Spec.SlicesInsert
import Derived.Shelf.Spec.SlicesInsertGrow
import Derived.Shelf.SlSortCmp.NoneTotal
import Derived.Ground.SlsfProg
import Derived.Test.YtmfnbgbblkhneaaGreatProg
import Derived.Test.YtmfnbgbblkhneaaGreatRchL11
import Derived.Test.YtmfnbgbblkhneaaGreatRchL12
set_option linter.unusedSimpArgs false
set_option linter.unusedVariables false
set_option maxRecDepth 100000
set_option maxHeartbeats 16000000
namespace Go.Proofs
open Go.Shelf
def Tryz.laysF_ren:Go.Shelf.Ren:=⟨fun|6=>192|15=>160|14=>234|28=>209|29=>210|20=>257|21=>258|22=>259|23=>260|24=>261|25=>262|26=>263|27=>264|46=>277|47=>242|48=>243|49=>278|50=>279|57=>281|n=>n,fun|22=>117|24=>206|25=>237|3=>3|39=>216|0=>0|53=>253|55=>255|4=>4|46=>247|45=>246|50=>181|5=>5|9=>9|66=>274|70=>278|76=>293|77=>60|n=>n,fun|n=>n⟩
theorem K6:Go.Proofs.SlLaysF0.n6 Tryz.prog Tryz.laysF_ren:={
 mixed:=by kernel_rfl
 f6:=⟨Tryz.f192.name,by decide,Tryz.func192.trans (congrArg some (by kernel_rfl))⟩
 f14:=⟨Tryz.f234.name,by decide,Tryz.func234.trans (congrArg some (by kernel_rfl))⟩
 f15:=Tryz.func160.trans (congrArg some (by kernel_rfl))
 f20:=⟨Tryz.f257.name,by decide,Tryz.func257.trans (congrArg some (by kernel_rfl))⟩
 f21:=⟨Tryz.f258.name,by decide,Tryz.func258.trans (congrArg some (by kernel_rfl))⟩
 f22:=⟨Tryz.f259.name,by decide,Tryz.func259.trans (congrArg some (by kernel_rfl))⟩
 f23:=⟨Tryz.f260.name,by decide,Tryz.func260.trans (congrArg some (by kernel_rfl))⟩
 f24:=⟨Tryz.f261.name,by decide,Tryz.func261.trans (congrArg some (by kernel_rfl))⟩
 f25:=⟨Tryz.f262.name,by decide,Tryz.func262.trans (congrArg some (by kernel_rfl))⟩
 f26:=⟨Tryz.f263.name,by decide,Tryz.func263.trans (congrArg some (by kernel_rfl))⟩
 f27:=⟨Tryz.f264.name,by decide,Tryz.func264.trans (congrArg some (by kernel_rfl))⟩
 f28:=Tryz.func209.trans (congrArg some (by kernel_rfl))
 f29:=Tryz.func210.trans (congrArg some (by kernel_rfl))
 f46:=⟨Tryz.f277.name,by decide,Tryz.func277.trans (congrArg some (by kernel_rfl))⟩
 f47:=Tryz.func242.trans (congrArg some (by kernel_rfl))
 f48:=Tryz.func243.trans (congrArg some (by kernel_rfl))
 f49:=⟨Tryz.f278.name,by decide,Tryz.func278.trans (congrArg some (by kernel_rfl))⟩
 f50:=⟨Tryz.f279.name,by decide,Tryz.func279.trans (congrArg some (by kernel_rfl))⟩
 f57:=⟨Tryz.f281.name,by decide,Tryz.func281.trans (congrArg some (by kernel_rfl))⟩
 t0:=Tryz.underlying0
 a0:=Tryz.isAgg0
 z0:=Tryz.sizeOf0
 v0:=Tryz.zeroValue0
 t3:=Tryz.underlying3
 a3:=Tryz.isAgg3
 z3:=Tryz.sizeOf3
 v3:=Tryz.zeroValue3
 t4:=Tryz.underlying4
 a4:=Tryz.isAgg4
 z4:=Tryz.sizeOf4
 v4:=Tryz.zeroValue4
 t5:=Tryz.underlying5
 a5:=Tryz.isAgg5
 z5:=Tryz.sizeOf5
 v5:=Tryz.zeroValue5
 t9:=Tryz.underlying9
 a9:=Tryz.isAgg9
 z9:=Tryz.sizeOf9
 v9:=Tryz.zeroValue9
 t22:=Tryz.underlying117
 a22:=Tryz.isAgg117
 z22:=Tryz.sizeOf117
 v22:=Tryz.zeroValue117
 t25:=Tryz.underlying237
 a25:=Tryz.isAgg237
 z25:=Tryz.sizeOf237
 v25:=Tryz.zeroValue237
 t39:=Tryz.underlying216
 a39:=Tryz.isAgg216
 z39:=Tryz.sizeOf216
 v39:=Tryz.zeroValue216
 t45:=Tryz.underlying246
 a45:=Tryz.isAgg246
 z45:=Tryz.sizeOf246
 v45:=Tryz.zeroValue246
 t46:=Tryz.underlying247
 a46:=Tryz.isAgg247
 z46:=Tryz.sizeOf247
 v46:=Tryz.zeroValue247
 t50:=Tryz.underlying181
 a50:=Tryz.isAgg181
 z50:=Tryz.sizeOf181
 v50:=Tryz.zeroValue181
 t53:=Tryz.underlying253
 a53:=Tryz.isAgg253
 z53:=Tryz.sizeOf253
 v53:=Tryz.zeroValue253
 t55:=Tryz.underlying255
 a55:=Tryz.isAgg255
 z55:=Tryz.sizeOf255
 v55:=Tryz.zeroValue255
 t66:=Tryz.underlying274
 a66:=Tryz.isAgg274
 z66:=Tryz.sizeOf274
 v66:=Tryz.zeroValue274
 t70:=Tryz.underlying278
 a70:=Tryz.isAgg278
 z70:=Tryz.sizeOf278
 v70:=Tryz.zeroValue278
 t76:=Tryz.underlying293
 a76:=Tryz.isAgg293
 z76:=Tryz.sizeOf293
 v76:=Tryz.zeroValue293
 t77:=Tryz.underlying60
 a77:=Tryz.isAgg60
 z77:=Tryz.sizeOf60
 v77:=Tryz.zeroValue60}
end Go.Proofs
namespace Go.Ab
open Go.Proofs.Tryz
open Go.Proofs Go.Sort Go.RowKit Go.Lib
variable {m:Nat}{σ:Mem}
theorem Frm.grown{w w':World}(h:Frm (fun _=>False) w w'):∃q os,w'=grow (w.drewN q) os:=by
 obtain⟨hh,ht,hd,ho,hp⟩:=w;obtain⟨hh',ht',hd',ho',hp'⟩:=w';obtain⟨h1,h2,h3,h4,h5,h6⟩:=h;simp only at h1 h2 h3 h4 h5 h6;refine⟨hd'-hd,hh'.extract hh.size hh'.size,?_⟩;subst h1 h2 h3;have e:hd+(hd'-hd)=hd':=by omega
 show World.mk hh' ht' hd' ho' hp'=World.mk (hh++hh'.extract hh.size hh'.size) ht' (hd+(hd'-hd)) ho' hp';rw[e];congr 1;apply Array.ext
 ·simp;omega
 ·intro i hi1 hi2;by_cases hi:i<hh.size
  ·have:=h6 i hi id;rw[x5v hi1,x5v hi]at this;rw[Array.getElem_append_left hi];exact x5j this
  ·rw[Array.getElem_append_right (by omega)];simp;congr 1;omega
def FU(a b:Step):Bool:=decide (Rg a b<0)
theorem AP(a b c:Int):orI [a,b,c]<0↔a<0\/a=0/\(b<0\/b=0/\c<0):=by
 by_cases h1:a=0<;>by_cases h2:b=0<;>by_cases h3:c=0<;>simp[orI,h1,h2,h3]
theorem KV(x y:Int):Bq x y<0↔x<y:=by
 unfold Bq;split
 ·omega
 ·split<;>omega
theorem VL(x y:Int):Bq x y=0↔x=y:=by
 unfold Bq;split
 ·omega
 ·split<;>omega
theorem Te(a b:Step):Rg a b<0↔QT a.src<QT b.src\/QT a.src=QT b.src/\(QT a.dst<QT b.dst\/QT a.dst=QT b.dst/\a.kind<b.kind):=by
 unfold Rg;rw[AP,KV,KV,KV,VL,VL]
def okSt(s:Step):Prop:=s.src≠9223372036854775807/\s.dst≠9223372036854775807
abbrev OSt:={s:Step // okSt s}
instance:Inhabited OSt:=⟨⟨⟨0,0,0⟩,by constructor<;>decide⟩⟩
def cfO(a b:OSt):Int:=Rg a.1 b.1
theorem YX{x y:Int}(hx:x≠9223372036854775807)(hy:y≠9223372036854775807)(h:QT x=QT y):x=y:=by
 unfold QT at h;split at h<;>split at h<;>omega
theorem q2g:SWO (ltOf cfO):=by
 refine⟨fun x=>?_,fun x y z h1 h2=>?_,fun x y z h1 h2=>?_⟩;all_goals
  unfold ltOf cfO at*
  simp only[x3i,x5k,Te]at*
  omega
theorem q2h(x y:OSt)(h1:ltOf cfO x y=false)(h2:ltOf cfO y x=false):x=y:=by
 unfold ltOf cfO at*
 simp only[x5k,Te]at h1 h2;obtain⟨⟨a,b,c⟩,h3,h4⟩:=x;obtain⟨⟨d,e,f⟩,h5,h6⟩:=y;simp only at*
 have e1:=YX (x:=a) (y:=d) h3 h5 (by omega);have e2:=YX (x:=b) (y:=e) h4 h6 (by omega);have e3:c=f:=by omega
 subst e1 e2 e3;rfl
def Bz(s:OSt):List Value:=[.int .i64 s.1.src,.int .i64 s.1.dst,.int .i64 s.1.kind]
theorem U0(s:OSt):Rep σ (.agg s.1.cells) (.agg (Bz s).toArray):=by
 refine .agg _ _ (fun j=>(Bz s).toArray.getD j undef) rfl (fun j c hj=>?_) (fun j c hj=>?_)
 ·match j,hj with
  |0,_=>rfl
  |1,_=>rfl
  |2,_=>rfl
 ·match j,hj with
  |0,hj=>cases hj;exact .int _ _
  |1,hj=>cases hj;exact .int _ _
  |2,hj=>cases hj;exact .int _ _
theorem Ia(W:World)(x y:OSt):Calls prog 193 (#[.agg (Bz x).toArray,.agg (Bz y).toArray] ++ #[]) W fun e w'=>e=.returned (.int .i64 (cfO x y))/\∃q os',w'=grow (W.drewN q) os':=by
 refine((Lk x.1 y.1).ok (fun _=>none) W #[.agg (Bz x).toArray,.agg (Bz y).toArray] rfl (fun j c hj=>?_) (fun b c h=>by cases h)).mono ?_
 ·match j,hj with
  |0,hj=>cases hj;exact U0 x
  |1,hj=>cases hj;exact U0 y
 ·rintro e w' ⟨c,u,σ',rfl,rfl,hr,_,_,hf,_⟩;cases hr;exact⟨rfl,hf.grown⟩
theorem Ea{l:List OSt}{vs:Array Value}(h:∀(m:Nat)(x:AV),(l.map fun s=>AV.agg s.1.cells)[m]?=some x->x.cells.length=3/\∀(j:Nat)(c:AV),x.cells[j]?=some c->∃u:Value,vs[m*3+j]?=some u/\Rep σ c u){j:Nat}(hm:m<l.length)(hj:j<3):
  vs[m*3+j]?=(Bz l[m])[j]?:=by
 have h1:=(h m (.agg l[m].1.cells) (by simp[hm])).2
 match j,hj with
 | 0,_=>
   obtain⟨u,h2,h3⟩:=h1 0 (.int .i64 l[m].1.src) rfl;cases h3;exact h2
 | 1,_=>
   obtain⟨u,h2,h3⟩:=h1 1 (.int .i64 l[m].1.dst) rfl;cases h3;exact h2
 | 2,_=>
   obtain⟨u,h2,h3⟩:=h1 2 (.int .i64 l[m].1.kind) rfl;cases h3;exact h2
theorem Ee{l:List OSt}{vs:Array Value}(h:∀(m:Nat)(hm:m<l.length)(j:Nat),j<3->vs[m*3+j]?=(Bz l[m])[j]?):∀(m:Nat)(x:AV),(l.map fun s=>AV.agg s.1.cells)[m]?=some x->x.cells.length=3/\∀(j:Nat)(c:AV),x.cells[j]?=some c->∃u:Value,vs[m*3+j]?=some u/\Rep σ c u:=by
 intro m x hx;rw[x2e]at hx;cases hq:l[m]?with
 |none=>rw[hq]at hx;cases hx
 | some s=>
   rw[hq]at hx;cases hx;obtain⟨hm,rfl⟩:=x2o.1 hq;refine⟨rfl,fun j c hj=>?_⟩
   match j,hj with
   |0,hj=>cases hj;exact⟨_,h m hm 0 (by omega),.int _ _⟩
   |1,hj=>cases hj;exact⟨_,h m hm 1 (by omega),.int _ _⟩
   |2,hj=>cases hj;exact⟨_,h m hm 2 (by omega),.int _ _⟩
theorem Pm{d:Array OSt}{t:Nat}(h:t<d.size*3):(flatK Bz 3 d)[t]?=(Bz (d[t/3]'(by omega)))[t%3]?:=by
 have h1:=get_flatK Bz 3 d t h;rw[x7e _ t (by simpa using h),x7e d (t/3) (by omega)]at h1;rw[x5v (by simpa using h),h1];have h3:t%3<(Bz (d[t/3]'(by omega))).length:=by simp[Bz];omega
 rw[x2n h3,x7e (Bz (d[t/3]'(by omega))) (t%3) h3]
def YC(l:List Step):List Step:=l.mergeSort fun x y=> !FU y x
theorem Z9{l:List Step}:(YC l).length=l.length:=by unfold YC;simp
theorem Jq(l:List Step):(YC l).Perm l:=x7y _ _
theorem PD(l:List OSt)(hlen:l.length<=1000000000):
  SpecH prog 192 [.hd 1000 0 l.length,.p (.fn 193 [])] [(1000,.own 206 3 (l.map fun s=>.agg s.1.cells))]
   (fun r H=>r=.p (.tup [])/\H=[(1000,.own 206 3 ((l.mergeSort fun x y=> !(ltOf cfO) y x).map fun s=>.agg s.1.cells))]):=by
 refine⟨call192,fun σ β w vals hn hv hH=>?_⟩;obtain⟨v,u,rfl⟩:=q4i hn;have hv1:RepL σ β (.hd 1000 0 l.length) v:=by simpa using hv 0 _ rfl
 have hv2:RepL σ β (.p (.fn 193 [])) u:=by simpa using hv 1 _ rfl
 obtain rfl:u=.func (.func 193) #[] #[]:=by
  cases hv2 with
  | p h=>cases h with
    | fn _ _ vs u hn' hc hr=>
      obtain rfl:vs=#[]:=Array.size_eq_zero_iff.1 hn';rfl
 have hch:=hH.chunks 1000 _ x2r;rcases hch with⟨hb0,hes⟩|⟨i,vs,hi,hsz,hh,h2,h3,h4,h5⟩
 ·have hl0:l=[]:=x8b.1 hes;subst hl0;obtain⟨rfl,_⟩:=Nw hv1 hb0;have hc:=AnyF.slices_SortFunc_none K6 none 0 (.func (.func 193) #[] #[]) w;change Calls prog 192 _ _ _ at hc;refine hc.mono ?_;rintro e w' ⟨rfl,rfl⟩;exact⟨.p (.tup []),.tuple #[],σ,β,_,rfl,⟨rfl,rfl⟩,.p (.tup [] #[] (fun _=>undef) rfl (by simp) (by simp)),by simpa using hH,by simpa using Later.refl _ _ _ _⟩
 ·have hve:=G8 hv1 hi;subst hve;have hlt:=(hH.apart 1000 (by simp) i hi i.blk i.has_blk).2;have hcap:l.length<=i.cap:=by simpa using h3
  have hle:l.length*3<=vs.size:=by rw[h2];omega
  have hget:=fun m j hm hj=>Ea (σ:=σ) (l:=l) h5 (m:=m) (j:=j) hm hj;have hc:=AnyQ.slices_SortFunc_total K6 3 Tryz.isAgg206 Tryz.sizeOf206 Bz (fun _=>rfl) (fun x v hv=>by simp[Bz]at hv;rcases hv with rfl|rfl|rfl<;>rfl) cfO q2g 193 #[] i.blk 0 i.cap l.toArray w
   call193 (fun m os dk _ x y=>Ia _ x y) (fun t ht=>by
    have ht':t<l.toArray.size*3:=by simpa using ht
    refine⟨?_,VJ hh _⟩;have h6:=Pm ht';have h7:=hget (t/3) (t%3) (by simp at ht';omega) (by omega);rw[Nat.div_add_mod']at h7;rw[KW hh,x5m,h7,x7e _ t (by simpa using ht')];rw[x5v (by simpa using ht')]at h6;simpa using h6.symm) hlt (by simp;omega) q2h
  simp only[x6l]at hc;change Calls prog 192 _ _ _ at hc;refine hc.mono ?_;rintro e w' ⟨rfl,n,os,rfl⟩;generalize hS:(l.mergeSort fun x y=> !(ltOf cfO) y x)=S;have hSl:S.length=l.length:=by rw[<-hS];simp
  obtain⟨hf,hb⟩:=PQ (enc:=id) (n:=n) (os:=os) (d:=flatK Bz 3 S.toArray) hh hlt;obtain⟨hH',hL⟩:=Vf (c':=.own 206 3 (S.map fun s=>.agg s.1.cells)) hH hi hf (.inr ⟨i,_,hi,hsz,hb,by rw[HM];exact h2,by simp[hSl];exact hcap,h4,Ee fun m hm j hj=>by
   have h6:=KH (enc:=id) (d:=flatK Bz 3 S.toArray) (vs:=vs) (by simp[hSl];omega) (k:=m*3+j) (by simp;omega);have h7:=Pm (d:=S.toArray) (t:=m*3+j) (by simp;omega);rw[x5v (by simp;omega)]at h7;rw[h6];simp only[id];rw[h7];simp[show(m*3+j)/3=m by omega,show(m*3+j)%3=j by omega]⟩)
  exact⟨.p (.tup []),.tuple #[],σ,β,_,rfl,⟨rfl,rfl⟩,.p (.tup [] #[] (fun _=>undef) rfl (by simp) (by simp)),hH',hL⟩
theorem J6(l:List Step)(hok:∀s∈l,okSt s)(hlen:l.length<=1000000000):
  SpecH prog 192 [.hd 1000 0 l.length,.p (.fn 193 [])] [(1000,.own 206 3 (l.map fun s=>.agg s.cells))]
   (fun r H=>r=.p (.tup [])/\H=[(1000,.own 206 3 ((YC l).map fun s=>.agg s.cells))]):=by
 have h:=PD (l.attachWith okSt hok) (by simpa using hlen);have e1:((l.attachWith okSt hok).map fun s=>AV.agg s.1.cells)=l.map fun s=>AV.agg s.cells:=by
  have:=x5u (List.map fun s:Step=>AV.agg s.cells) (x7a (l:=l) (p:=okSt) hok);simp
 have e2:(((l.attachWith okSt hok).mergeSort fun x y=> !(ltOf cfO) y x).map fun s=>AV.agg s.1.cells)=(YC l).map fun s=>AV.agg s.cells:=by
  have h1:=List.map_mergeSort (l:=l.attachWith okSt hok) (f:=Subtype.val) (r:=fun x y=> !(ltOf cfO) y x) (s:=fun x y=> !FU y x) (fun a _ b _=>rfl);rw[x7a]at h1;unfold YC;rw[<-h1,x7p];rfl
 rw[e1,e2]at h;simpa using h
section
variable {P:Program}{T:Tab}{N:Nat}
theorem q3q{β:Lab}{k:Nat}{H H':Heap}{d:Chunk}{w w':World}{i:BInfo}(h:HRel σ β H w)(hk:k∈H.map (·.1))(hi:β k=some i)(hf:Frm (fun b=>b=i.blk) w w')(h3:H'.map (·.1)=H.map (·.1))(h4:∀j c,(j,c)∈H'->j≠k->(j,c)∈H)(h5:∀c,(k,c)∈H'->c=d)(hnew:d.holds σ β w' k):HRel σ β H' w'/\Later σ β H w σ β H' w':=by
 have hap:=h.apart k hk i hi;refine⟨⟨fun b cs hb=>?_,fun j c hj=>?_,by rw[h3];exact h.nodup,fun j hj i' hi' b hb=>?_,fun j hj j' hj'=>h.inj j (h3▸hj) j' (h3▸hj')⟩,Mem.le_refl σ,⟨hf.os,hf.tape,hf.output,hf.drawn,hf.size,fun b hb hn=>hf.block b hb fun he=>hn ⟨k,hk,i,hi,.inl he.symm⟩⟩,
  fun b h0 h1=>absurd h0 h1,fun b ⟨j,hj,r⟩=>.inl ⟨j,h3▸hj,r⟩,fun _ _ _=>rfl⟩
 ·obtain⟨e,fr,hh⟩:=h.mem b cs hb;exact⟨e,fr,(hf.block b (x3r.1 hh).1 fun he=>by rw[he,(hap _ i.has_blk).1]at hb;cases hb).trans hh⟩
 ·by_cases hjk:j=k
  ·subst hjk;rw[h5 c hj];exact hnew
  ·have hm:=h4 j c hj hjk;have hjm:j∈H.map (·.1):=x3q.2 ⟨_,hm,rfl⟩;exact(h.chunks j c hm).mono (Mem.le_refl σ) fun i' hi' b hb=>hf.block b (h.apart j hjm i' hi' b hb).2 fun he=>hjk (h.inj j hjm k hk i' i hi' hi b hb (.inl he.symm))
 ·have:=h.apart j (h3▸hj) i' hi' b hb;exact⟨this.1,x6a this.2 hf.size⟩
theorem OpK.clear(hT:TabOK P T){s:St}{o:Oper}{K:St->Prop}{t:TypeId}{x:Operand}(hop:o.op=.call {callee:=.builtin .clear,args:=#[x],argTypes:=#[t]}){k off len:Nat}(hx:QM s.sl x=.hd k off len){e sz:Nat}{es:List AV}(hg:getH s.H k=some (.own e sz es)){i ie:TyI}(ht:T.get t=some i)(hd:i.desc=.slice e)(hte:T.get e=some ie)(hz:ie.zero.cells.size=sz)(hone:ie.zero.cells.all (·.oneCell')=true)(hpos:0<sz)(h:K1 s.H k (.own e sz (es.take off)) fun H=>setD N s.sl o.dst (.p (.tup [])) fun sl=>K ⟨sl,H⟩):OpK P N s o K:=by
 refine⟨fun σ β a w hr Q=>?_⟩;have hx':=QZ hr.slots x;rw[hx]at hx';generalize hxe:a.eval x=v at hx';obtain⟨H',hK,h3,h4,h5⟩:=JG hr.heap.nodup h;have hlab:=QN hg;have hu:=hT.of ht;rw[hd]at hu;have hue:=hT _ _ hte;have htup:RepL σ β (.p (.tup [])) (.tuple #[]):=.p (.tup [] #[] (fun _=>undef) rfl (by simp) (by simp));have hbc:∀{w'} ,(Builtin.clear_ #[t] o.type #[v]).run P w=.ok (.tuple #[]) w'->(execOp a.eval o).run P w=.ok (.value (.tuple #[])) w':=fun {w'} hc=>by
  simp[execOp,hop,resolve,invoke,builtin,hxe,hc]
 have hch:=hr.heap.chunks k _ (QG hg);have none':len=0->(Builtin.clear_ #[t] o.type #[v]).run P w=.ok (.tuple #[]) w->(o.wp P a w (fun a' w'=>∃σ' β' s',K s'/\Rel N σ' β' s' a' w'/\Later σ β s.H w σ' β' s'.H w') Q):=fun _ hrun=>by
  have hheap:HRel σ β H' w/\Later σ β s.H w σ β H' w:=by
   refine⟨⟨hr.heap.mem,fun j c hj=>?_,by rw[h3];exact hr.heap.nodup,fun j hj=>hr.heap.apart j (h3▸hj),fun j hj j' hj'=>hr.heap.inj j (h3▸hj) j' (h3▸hj')⟩,Mem.le_refl σ,Frm.refl _ w,fun b h0 h1=>absurd h0 h1,fun b ⟨j,hj,r⟩=>.inl ⟨j,h3▸hj,r⟩,fun _ _ _=>rfl⟩;by_cases hjk:j=k
   ·subst hjk;rw[h5 c hj];rcases hch with⟨h6,h7⟩|⟨bi,vs,h6,h7,h8,h9,h10,h11,h12⟩
    ·exact .inl ⟨h6,by rw[h7];simp⟩
    ·exact .inr ⟨bi,vs,h6,h7,h8,h9,by simp;omega,h11,fun m x hx=>h12 m x (by rw[x4g]at hx;split at hx;exact hx;cases hx)⟩
   ·exact hr.heap.chunks j c (h4 j c hj hjk)
  have hr1:Rel N σ β ⟨s.sl,H'⟩ a w:=⟨hr.size,hr.defers,hr.slots,hheap.1⟩;obtain⟨sl,hK,hr2⟩:=hr1.setD htup hK;exact XS (hbc hrun) ⟨σ,β,_,hK,hr2,hheap.2⟩
 rcases hx'.hdI with⟨hk0,hoff,hlen,hv⟩|⟨bi,oo,hk,hfit,hoo,hv⟩
 ·subst hv;refine none' hlen ?_;simp[Builtin.clear_,run_underlying hu]
 by_cases hl0:len=0
 ·subst hl0 hv;refine none' rfl ?_;simp[Builtin.clear_,run_underlying hu]
 rcases hch with⟨h6,_⟩|⟨bi',vs,h6,h7,h8,h9,h10,h11,h12⟩
 ·rw[hk]at h6;cases h6
 rw[hk]at h6;cases h6;have hoo:oo=off*sz:=by
  rcases hoo with hoo|⟨h13,_⟩
  ·rw[hoo,h7]
  ·omega
 obtain⟨zs,hzs⟩ : ∃zs,zs=(Builtin.zeroCells ie.zero.cells len).toList:=⟨_,rfl⟩;have hzl:zs.length=len*sz:=by rw[hzs];simp[Builtin.zeroCells,hz]
 have hz1:∀v∈zs,v.oneCell'=true:=fun v hv=>by
  rw[hzs]at hv;simp only[Builtin.zeroCells,Array.toList_map,x3q]at hv;obtain⟨q,hq,rfl⟩:=hv;have hlt:q%ie.zero.cells.size<ie.zero.cells.size:=Nat.mod_lt _ (by omega);rw[x7e ie.zero.cells (q%ie.zero.cells.size) hlt];exact Array.all_eq_true.1 hone _ hlt
 have hend:off*sz+len*sz<=vs.size:=by
  rw[h9,<-x5d];exact x4s _ hfit
 have hst:=run_storeCells_cells (P:=P) bi.blk oo zs 0 w (fun j hj=>by
   have:oo+0+j<vs.size:=by omega
   simp only[World.cell?,h8];rw[x5v this];rfl) (fun j hj=>by simp[World.frozen?,h8]) hz1
 have hrun:(Builtin.clear_ #[t] o.type #[v]).run P w=.ok (.tuple #[]) (w.setCells bi.blk oo zs):=by
  subst hv;have hzv:(zeroValue e).run P w=.ok ie.zero w:=by
   have:=hue.info;cases hq:P.info? e with
   |none=>rw[hq]at this;cases this
   | some f=>
     rw[hq]at this;simp at this;simp[zeroValue,typeInfo,hq,this]
  obtain⟨len',rfl⟩ : ∃l',len=l'+1:=⟨len-1,by omega⟩;simp only[x8u]at hst;simp[Builtin.clear_,Sem.run_bind,run_underlying hu,hzv,<-hzs,hst]
 obtain⟨s1,s2⟩:=WX zs oo h8;have hnew:(Chunk.own e sz (es.take off)).holds σ β (w.setCells bi.blk oo zs) k:=by
  refine .inr ⟨bi,_,hk,h7,s1,by rw[VO];exact h9,by simp;omega,h11,fun m x hx=>?_⟩;rw[x4g]at hx;split at hx
  ·rename_i hm;obtain⟨h13,h14⟩:=h12 m x hx;refine⟨h13,fun j c hj=>?_⟩;obtain⟨u,h15,h16⟩:=h14 j c hj;have hjl:j<sz:=by rw[<-h13];exact(x2o.1 hj).1
   have hlt:m*sz+j<off*sz:=by
    have:(m+1)*sz<=off*sz:=x4s _ hm;rw[x5d]at this;omega
   exact⟨u,by rw[HR _ _ _ _ (by omega),if_neg (by omega)];exact h15,h16⟩
  ·cases hx
 obtain⟨hh,hl⟩:=q3q hr.heap hlab hk s2 h3 h4 h5 hnew;have hr1:Rel N σ β ⟨s.sl,H'⟩ a (w.setCells bi.blk oo zs):=⟨hr.size,hr.defers,hr.slots,hh⟩;obtain⟨sl,hK,hr2⟩:=hr1.setD htup hK;exact XS (hbc hrun) ⟨σ,β,_,hK,hr2,hl⟩
end
def XQ(p:Step):List Step->List Step
 |[]=>[]
 |b::r=>bif ZH b p then XQ b r else b::XQ b r
def NB:List Step->List Step
 |[]=>[]
 |a::r=>a::XQ a r
theorem Lu{l:List Step}(h:l.length<2):NB l=l:=by
 match l,h with
 |[],_=>rfl
 |[a],_=>rfl
def avS(l:List Step):List AV:=l.map fun s=>.agg s.cells
theorem Ql(l:List Step)(hlen:l.length<=1000000000):
  SpecH prog 194 [.hd 1000 0 l.length,.p (.fn 195 [])] [(1000,.own 206 3 (avS l))]
   (fun r H=>r=.hd 1000 0 (NB l).length/\H=[(1000,.own 206 3 (avS (NB l)))]):=by
 refine sH ZA func194 rfl call194 ?_;conv=>whnf
 repeat' (first|(refine iM fun _=>?_;conv=>whnf)|(apply bD<;>intro _<;>first|omega|conv=>whnf))
 ·have e:NB l=l:=Lu (by omega);rw[e];exact⟨_,x3n _,rfl,rfl⟩
 refine LoopK.inv QY (fun k:Nat=>⟨[(0,.hd 1000 0 l.length),(1,.p (.fn 195 [])),(5,.p (.int .i64 k))],[(1000,.own 206 3 (avS l))]⟩)
  (fun k=>1<=k/\k<=l.length/\∃a,l[k-1]?=some a/\l.take k++XQ a (l.drop k)=NB l) (fun k=>l.length-k) 1 (Le.of_eq rfl) ⟨x3g _,by omega,?_⟩ ?_
 ·cases l with
  |nil=>simp at*
  |cons a r=>exact⟨a,rfl,rfl⟩
 rintro k ⟨h1,h2,a,ha,h3⟩;rcases x3v k l.length with hk|hk;rotate_left 1
 ·rw[x3b hk,x3f hk]at h3;conv=>whnf
  repeat' (first|(refine iM fun _=>?_;conv=>whnf)|(apply bD<;>intro _<;>first|omega|conv=>whnf))
  rw[<-h3,XQ,x4b];exact⟨_,x3n _,rfl,rfl⟩
 rw[x4v hk,XQ]at h3;have hk1:k-1<l.length:=by omega
 obtain⟨_,ha'⟩:=x2o.1 ha;have gk:(avS l)[k]?=some (.agg l[k].cells):=by simp[avS,hk]
 have gk1:(avS l)[k-1]?=some (.agg a.cells):=by simp[avS,ha]
 conv=>whnf
 repeat' (first|((first|(refine iM fun _=>?_)|refine cP (Uh _ _) ?_|refine dA ?_|refine x2t rfl ?_|refine wI ?_|refine x4j k (by omega) (by omega) ?_|refine x4j (k-1) (by omega) (by omega) ?_|refine x5z k 0 (.agg l[k].cells) (by omega) gk ?_|refine x5z (k-1) 0 (.agg a.cells) (by omega) gk1 ?_|refine SlK.mk k l.length rfl rfl (by omega) (by omega) ?_);conv=>whnf)|(apply bD<;>intro _<;>first|omega|conv=>whnf)|(apply bB<;>intro _<;>conv=>whnf))
 rotate_left 1
 ·have hsm:ZH l[k] a=false:=by assumption
  rw[hsm,x3t]at h3;exact⟨k+1,⟨by omega,by omega,l[k],by simp[hk],by rw[<-h3,x3u hk,x3s];rfl⟩,by omega,Le.of_eq rfl⟩
 have hsm:ZH l[k] a=true:=by assumption
 rw[hsm,x3p]at h3;clear ha ha' gk gk1 hk1 hsm;refine LoopK.inv QY (fun x:Nat×Nat×List Step=>⟨[(0,.hd 1000 0 l.length),(1,.p (.fn 195 [])),(5,.p (.int .i64 x.2.1)),(6,.hd 1000 (0+k) (l.length-k)),(7,.p (.int .i64 x.1))],[(1000,.own 206 3 (avS x.2.2))]⟩)
  (fun x=>1<=x.1/\x.1<=l.length-k/\x.2.1<=k+x.1-1/\x.2.2.length=l.length/\x.2.2.drop (k+x.1-1)=l.drop (k+x.1-1)/\∃a,l[k+x.1-1]?=some a/\x.2.2.take x.2.1++XQ a (l.drop (k+x.1))=NB l) (fun x=>l.length-k-x.1) (1,k,l) (Le.of_eq rfl) ⟨x3g _,by simp only;omega,by simp only;omega,rfl,rfl,l[k],by simp[hk],h3⟩ ?_
 rintro⟨q,i,es⟩ ⟨h4,h5,h6,h7,h8,a,ha,h9⟩;clear h3;simp only at h4 h5 h6 h7 h8 ha h9⊢;have hes:(avS es).length=l.length:=by simp[avS,h7]
 rcases x3v q (l.length-k)with hq|hq
 ·have hkq:k+q<l.length:=by omega
  have e1:es[k+q]?=l[k+q]?:=by
   have:=x5u (fun x=>x[1]?) h8;simp only[x4c]at this
   rwa[show k+q-1+1=k+q by omega]at this
  have e2:es[k+q-1]?=some a:=by
   have:=x5u (fun x=>x[0]?) h8;simp only[x4c,x8u]at this;rw[this,ha]
  rw[x2n hkq]at e1;have gk:(avS es)[k+q]?=some (.agg l[k+q].cells):=by simp[avS,e1]
  have gk1:(avS es)[k+q-1]?=some (.agg a.cells):=by simp[avS,e2]
  have hi:i<es.length:=by omega
  have gi:(avS es)[i]?=some (.agg es[i].cells):=by simp[avS,hi]
  rw[x4v hkq,XQ]at h9;conv=>whnf
  repeat' (first|((first|(refine iM fun _=>?_)|refine cP (Uh _ _) ?_|refine dA ?_|refine x2t rfl ?_|refine wI ?_|refine x4j q (by omega) (by omega) ?_|refine x4j (q-1) (by omega) (by omega) ?_|refine x4j i (by omega) (by omega) ?_|refine x5z (k+q) 0 (.agg l[k+q].cells) (by omega) gk ?_|refine x5z (k+q-1) 0 (.agg a.cells) (by omega) gk1 ?_|refine x5i i 0 (.agg es[i].cells) (.agg l[k+q].cells) (by omega) gi (show 3<=3 from x3g 3) rfl ?_);conv=>whnf)|(apply bD<;>intro _<;>first|omega|conv=>whnf)|(apply bN<;>intro _<;>conv=>whnf))
  ·have hsm:ZH l[k+q] a=true:=by assumption
   rw[hsm,x3p]at h9;exact⟨(q+1,i,es),⟨by simp only;omega,by simp only;omega,by simp only;omega,h7,by
    have:=x5u (List.drop 1) h8;simp only[List.drop_drop]at this;simpa only[show k+(q+1)-1=k+q-1+1 by omega]using this,l[k+q],by simp[hkq],h9⟩,by simp only;omega,Le.of_eq rfl⟩
  ·have hsm:ZH l[k+q] a=false:=by assumption
   rw[hsm,x3t]at h9;have h10:(es.set i l[k+q]).drop (k+q)=l.drop (k+q):=by
    rw[List.drop_set_of_lt (by omega)];have:=x5u (List.drop 1) h8;simp only[List.drop_drop]at this
    rwa[show k+q-1+1=k+q by omega]at this
   exact⟨(q+1,i+1,es.set i l[k+q]),⟨by simp only;omega,by simp only;omega,by simp only;omega,by simp only[x5e];exact h7,h10,l[k+q],by simp[hkq],by
    simp only;rw[<-h9,x3u (by simp;omega),List.take_set_of_le (by omega),List.getElem_set_self,x3s];rfl⟩,by simp only;omega,Le.of_eq (by simp only[avS,x4m];rfl)⟩
 ·have hqe:k+q=l.length:=by omega
  rw[hqe,List.drop_length,XQ,x4b]at h9;conv=>whnf
  repeat' (first|((first|(refine iM fun _=>?_)|refine x2t rfl ?_|refine SlK.mk i l.length rfl rfl (by omega) (by omega) ?_);conv=>whnf)|(apply bD<;>intro _<;>first|omega|conv=>whnf))
  refine OpK.clear QY rfl rfl rfl rfl rfl rfl rfl (by kernel_rfl) (by decide) ?_;conv=>whnf
  repeat' ((first|refine x2t rfl ?_|refine SlK.mk 0 i rfl rfl (by omega) (by omega) ?_);conv=>whnf)
  have hl:i=(NB l).length:=by rw[<-h9];simp;omega
  exact⟨_,x8z (by rw[<-hl];rfl),rfl,by rw[x5m,<-h9];simp[avS,List.map_take]⟩
def WA(l:List Step):List Step:=NB (YC l)
theorem Pt(l:List Step)(hok:∀s∈l,okSt s)(hlen:l.length<=1000000000):
  SpecH prog 154 [.hd 1000 0 l.length] [(1000,.own 206 3 (avS l))] (fun r H=>r=.hd 1000 0 (WA l).length/\H=[(1000,.own 206 3 (avS (WA l)))]):=by
 refine sH L1 func154 rfl call154 ?_;conv=>whnf
 repeat' (first|(refine CallK.heap [(1000,1000)] 0 (by repeat' (first|exact x4x|refine x3d ?_ ?_|exact x3n _|exact x3e Sub.nils|exact x3e (Sub.tt rfl)|exact x3e (Sub.ff rfl)|exact x3e (Sub.int (by omega)))) (by refine x3j (j:=1000) rfl rfl ?_ ?_;exact CSub.refl _;exact x4z) (J6 l hok hlen) rfl rfl ?_;rintro l' H' ⟨rfl,rfl⟩;conv=>whnf)|(refine CallK.heap [(1000,1000)] 0 (x3d (x8z (by rw[Z9];rfl)) (x3d (x3n _) x4x)) (by refine x3j (j:=1000) rfl rfl ?_ ?_;exact CSub.refl _;exact x4z) (Ql (YC l) (by rw[Z9];exact hlen)) rfl rfl ?_;rintro l' H' ⟨rfl,rfl⟩;conv=>whnf))
 exact⟨_,x3n _,rfl,rfl⟩
def YD(sh:Sheet)(f:Pr)(it:Item):List Int:=
 if it.s.kind=5 then [Sy it.s.thn it.next,Sy it.s.els it.next]
 else if it.s.kind=6 then [Sy it.s.thn it.s.id,it.next]
 else if it.s.kind=7 then [((sh.l[(it.loop-1).toNat]?).map Item.next).getD 0]
 else if it.s.kind=8 then [it.loop]
 else if it.s.kind=9 then [-1]
 else if it.s.kind=10 then [(atB f it.s.name).1]
 else [it.next]
theorem Km(l:List S)(o:Int):SpecP prog 223 [eSs l,.int .i64 o] (fun r=>r=.int .i64 (Sy l o)):=by
 unfold eSs;rw[S.avs_eq];exact CH l o
theorem Ug(p:Pg)(j:Nat)(f:Pr)(hj:p.procs[j]?=some f)(hc:cntP p.procs<=1000)(it:Item)(hp:it.proc=j)(hl:it.s.kind=7->1<=it.loop/\it.loop<=(sheetOf p).l.length):SpecP prog 183 [.ip (sheetOf p).cells,.agg it.cells] (fun r=>r=QO (YD (sheetOf p) f it)):=by
 refine sB X6 func183 rfl call183 ?_;conv=>whnf
 have hlen:=(QJ p).2.2.2.1;have hx:it.s.kind=7->∃u,(sheetOf p).l[(it.loop-1).toNat]?=some u/\((sheetOf p).l.map fun i=>AV.agg i.cells)[(it.loop-1).toNat]?=some (.agg u.cells):=fun h=>by
  have:=hl h;have hlt:(it.loop-1).toNat<(sheetOf p).l.length:=by omega
  exact⟨_,x2n hlt,by rw[x2e,x2n hlt];rfl⟩
 repeat' (first|((first|refine dA ?_|refine x2t rfl ?_|refine aD ?_|refine bP ?_|refine wI ?_|(refine CallK.pure (LO p j f hj hc it.s.name) (.cons (Sub.refl _) (.cons (Sub.int hp) (.cons (Sub.refl _) .nil))) ?_;rintro _ rfl)|refine BsK.pureL rfl rfl ?_|refine cP (Km it.s.thn _) ?_|refine cP (Km it.s.els _) ?_|(obtain⟨u,hu1,hu2⟩:=hx (by assumption);refine IdxK.at (by have:=hl (by assumption);omega) hu2 rfl ?_));conv=>whnf)|(apply bD<;>intro _<;>first|omega|conv=>whnf))
 all_goals first
  |exact RetK.p (by unfold YD;rw[if_neg (by assumption),if_neg (by assumption),if_pos (by assumption),hu1];rfl)
  |exact RetK.p (by unfold YD;rw[if_pos (by assumption)];rfl)
  |exact RetK.p (by unfold YD;rw[if_neg (by assumption),if_pos (by assumption)];rfl)
  |exact RetK.p (by unfold YD;rw[if_neg (by assumption),if_neg (by assumption),if_neg (by assumption),if_pos (by assumption)];rfl)
  |exact RetK.p (by unfold YD;rw[if_neg (by assumption),if_neg (by assumption),if_neg (by assumption),if_neg (by assumption),if_pos (by assumption)];rfl)
  |exact RetK.p (by unfold YD;rw[if_neg (by assumption),if_neg (by assumption),if_neg (by assumption),if_neg (by assumption),if_neg (by assumption),if_pos (by assumption)];rfl)
  |exact RetK.p (by unfold YD;rw[if_neg (by assumption),if_neg (by assumption),if_neg (by assumption),if_neg (by assumption),if_neg (by assumption),if_neg (by assumption)];rfl)
def QD(p:Pg)(j:Nat)(f:Pr):List Step:=
 ⟨0,if QB p.procs j<QB p.procs j+cntL f.body then((QB p.procs j:Nat)+1:Int)else -1,1⟩::(itL j 0 (-1) 0 (QB p.procs j) f.body).flatMap fun it=>(YD (sheetOf p) f it).map (Step.mk it.s.id · 1)
def itsOf(p:Pg)(j:Nat)(f:Pr):List Item:=itL j 0 (-1) 0 (QB p.procs j) f.body
theorem Wm(p:Pg)(j:Nat)(f:Pr)(hj:p.procs[j]?=some f)(hc:cntP p.procs<=1000)(hl:∀it∈itsOf p j f,it.s.kind=7->1<=it.loop/\it.loop<=(sheetOf p).l.length)(hok:∀s∈QD p j f,okSt s):SpecP prog 139 [.ip (sheetOf p).cells,.int .i64 j] (fun r=>r=eSteps (WA (QD p j f))):=by
 refine sB MS func139 rfl call139 ?_;conv=>whnf
 obtain⟨_,_,_,hlen,hsp⟩:=QJ p;obtain⟨hlo,hhi,hle,_⟩:=hsp j f hj;repeat' ((first|(refine iM fun _=>?_)|refine x2t rfl ?_|refine aD ?_|refine cP (Wn (sheetOf p) j _ _ hlo hhi) ?_|refine cP (TR p hj hc) ?_|refine x9b (fun x hx=>by rcases x2a.1 hx with rfl;rfl) rfl ?_);conv=>whnf)
 have hraw:QD p j f=⟨0,if QB p.procs j<QB p.procs j+cntL f.body then((QB p.procs j:Nat)+1:Int)else -1,1⟩::(itsOf p j f).flatMap fun it=>(YD (sheetOf p) f it).map (Step.mk it.s.id · 1):=rfl;have hits:itL j 0 (-1) 0 (QB p.procs j) f.body=itsOf p j f:=rfl;have hpr:∀it∈itsOf p j f,it.proc=j:=fun it h=>KK _ _ _ _ _ _ it h;have hib:(itsOf p j f).length<=1000:=by rw[<-hits,ZT];omega
 rw[hits];generalize itsOf p j f=its at hl hraw hpr hib⊢;have hil:=VV its;refine LoopK.inv QY (fun i:Nat×List Step=>⟨[(0,.p (.ip (sheetOf p).cells)),(5,.hd 0 0 i.2.length),(17,.p (VS its)),(18,.p (.int .i64 (its.map fun i=>AV.agg i.cells).length)),(19,.p (.int .i64 i.1))],[(0,.own 206 3 (avS i.2))]⟩)
  (fun i=>i.1<=its.length/\i.2.length<=1+2*i.1/\i.2++(its.drop i.1).flatMap (fun it=>(YD (sheetOf p) f it).map (Step.mk it.s.id · 1))=QD p j f) (fun i=>its.length-i.1) (0,[⟨0,if QB p.procs j<QB p.procs j+cntL f.body then((QB p.procs j:Nat)+1:Int)else -1,1⟩]) (Le.of_eq rfl) ⟨x3z _,by simp,by rw[hraw];rfl⟩ ?_
 rintro⟨m,acc⟩ ⟨h2,h3,h4⟩;simp only at h2 h3 h4⊢;rcases x3v m its.length with hm|hm;rotate_left 1
 ·have hacc:acc=QD p j f:=by
   rw[x3b hm]at h4;simpa using h4
  rw[<-hacc]at hok⊢;conv=>whnf
  repeat' (first|(apply bD<;>intro _<;>first|omega|conv=>whnf)|(refine CallK.heap [(1000,0)] 0 (by repeat' (first|exact x4x|refine x3d ?_ ?_|exact x3n _|exact x3e Sub.nils|exact x3e (Sub.tt rfl)|exact x3e (Sub.ff rfl)|exact x3e (Sub.int (by omega)))) (by refine x3j (j:=0) rfl rfl ?_ ?_;exact CSub.refl _;exact x4z) (Pt acc hok (by omega)) rfl rfl ?_;rintro l' H' ⟨rfl,rfl⟩;conv=>whnf))
  exact⟨_,.hd rfl (by simp[avS]),rfl⟩
 have hgl:(YD (sheetOf p) f its[m]).length<=2:=by unfold YD;split<;>(try split)<;>(try split)<;>(try split)<;>(try split)<;>(try split)<;>simp
 rw[KY hm]at h4;have him:=x3w hm;conv=>whnf
 repeat' (first|((first|(refine iM fun _=>?_)|refine x2t rfl ?_|(refine iA fun _=>?_)|refine cP (Ug p j f hj hc its[m] (hpr _ him) (hl _ him)) ?_);conv=>whnf)|(apply bD<;>intro _<;>first|omega|conv=>whnf))
 generalize hgs:YD (sheetOf p) f its[m]=gs at hgl h4⊢;have hgsl:(gs.map (AV.int .i64)).length=gs.length:=x2m _;refine LoopK.inv QY (fun i:Nat×List Step=>⟨[(0,.p (.ip (sheetOf p).cells)),(5,.hd 0 0 i.2.length),(7,.p (.ip its[m].cells)),(17,.p (VS its)),(18,.p (.int .i64 (its.map fun i=>AV.agg i.cells).length)),(19,.p (.int .i64 m)),(25,.p (QO gs)),(26,.p (.int .i64 (gs.map (AV.int .i64)).length)),(27,.p (.int .i64 i.1))],[(0,.own 206 3 (avS i.2))]⟩)
  (fun i=>i.1<=gs.length/\i.2.length<=acc.length+i.1/\i.2++((gs.drop i.1).map (Step.mk its[m].s.id · 1)++(its.drop (m+1)).flatMap (fun it=>(YD (sheetOf p) f it).map (Step.mk it.s.id · 1)))=QD p j f) (fun i=>gs.length-i.1) (0,acc) (Le.of_eq rfl) ⟨x3z _,by simp,h4⟩ ?_
 rintro⟨q,acc2⟩ ⟨h5,h6,h7⟩;simp only at h5 h6 h7⊢;rcases x3v q gs.length with hq|hq;rotate_left 1
 ·rw[x3b hq]at h7;conv=>whnf
  repeat' (first|(refine wI ?_;conv=>whnf)|(apply bD<;>intro _<;>first|omega|conv=>whnf))
  exact⟨(m+1,acc2),⟨by simp only;omega,by simp only;omega,by simpa using h7⟩,by simp only;omega,Le.of_eq rfl⟩
 rw[x4v hq,x3l]at h7;conv=>whnf
 repeat' (first|((first|refine x2t rfl ?_|refine aD ?_|refine bP ?_|(refine iA fun _=>?_)|refine wI ?_|refine x6y (by simp[avS]) rfl (by show(acc2.length+1)*24<=140737488355328;omega) (by show acc2.length+1<=9223372036854775807;omega) (fun x hx=>by rcases x2a.1 hx with rfl;exact⟨rfl,rfl⟩) ?_);conv=>whnf)|(apply bD<;>intro _<;>first|omega|conv=>whnf))
 exact⟨(q+1,acc2++[⟨its[m].s.id,gs[q],1⟩]),⟨by simp only;omega,by simp;omega,by simpa using h7⟩,by simp only;omega,Le.of_eq (by simp only[avS,x2s,x3y];rfl)⟩
def bv:Bool->AV
 |true=>.tt
 |false=>.ff
structure Way where
 p:Pg
 j:Nat
 n:Int
 real:List Step
 live:List Bool
def Way.cells(w:Way):List AV:=[.ip (sheetOf w.p).cells,.int .i64 w.j,.int .i64 w.n,eSteps w.real,.sl (w.live.map bv)]
def q0f(p:Pg)(j:Nat)(n:Int)(real:AV)(lv:List AV):Heap:=[(1000,.obj 120 [.p (.ip (sheetOf p).cells),.p (.int .i64 j),.p (.int .i64 n),.p real,.hd 2000 0 lv.length]),(2000,.own 4 1 lv)]
def UE(lo hi n x:Int):Int:=if x=0 then 0 else if x = -1 then n-1 else if lo<=x/\x<hi then x-lo+1 else -1
def loI(p:Pg)(j:Nat):Int:=(QB p.procs j:Nat)+1
def hiI(p:Pg)(j:Nat)(f:Pr):Int:=(QB p.procs j+cntL f.body:Nat)+1
theorem Qi(w:Way)(f:Pr)(hj:w.p.procs[w.j]?=some f)(hc:cntP w.p.procs<=1000)(hn:0<=w.n/\w.n<=5000)(x:Int):SpecP prog 153 [.ip w.cells,.int .i64 x] (fun r=>r=.int .i64 (UE (loI w.p w.j) (hiI w.p w.j f) w.n x)):=by
 refine sB FL func153 rfl call153 ?_;conv=>whnf
 obtain⟨_,_,_,hlen,hsp⟩:=QJ w.p;obtain⟨hlo,hhi,hle,_⟩:=hsp w.j f hj;repeat' (first|((first|refine dA ?_|refine wI ?_|(refine IdxK.at rfl (VT hlo) rfl ?_)|(refine IdxK.at rfl (VT hhi) rfl ?_));conv=>whnf)|(apply bD<;>intro _<;>first|omega|conv=>whnf))
 all_goals exact RetK.int (by unfold UE loI hiI;(repeat' split)<;>omega)
theorem B1(p:Pg)(j:Nat)(f:Pr)(n:Int)(real:AV)(lv:List AV)(hj:p.procs[j]?=some f)(hc:cntP p.procs<=1000)(hn:0<=n/\n<=5000)(x:Int):
  SpecH prog 153 [.ptr 1000 0,.p (.int .i64 x)] (q0f p j n real lv) (fun r H=>r=.p (.int .i64 (UE (loI p j) (hiI p j f) n x))/\H=q0f p j n real lv):=by
 obtain⟨_,_,_,hlen,hsp⟩:=QJ p;obtain⟨hlo,hhi,hle,_⟩:=hsp j f hj;refine sH FL func153 rfl call153 ?_;conv=>whnf
 repeat' (first|((first|refine dA ?_|refine wI ?_|(refine IdxK.at rfl (VT hlo) rfl ?_)|(refine IdxK.at rfl (VT hhi) rfl ?_));conv=>whnf)|(apply bD<;>intro _<;>first|omega|conv=>whnf))
 all_goals exact⟨_,x3e (Sub.int (by unfold UE loI hiI;(repeat' split)<;>omega)),rfl,rfl⟩
def avP(l:List (Int×Int)):List AV:=l.map fun x=>.agg [.int .i64 x.1,.int .i64 x.2]
def ixP(p:Pg)(j:Nat)(f:Pr)(n:Int)(s:Step):Int×Int:=(UE (loI p j) (hiI p j f) n s.src,UE (loI p j) (hiI p j f) n s.dst)
theorem JW(w:Way)(f:Pr)(hj:w.p.procs[w.j]?=some f)(hc:cntP w.p.procs<=1000)(hn:0<=w.n/\w.n<=5000)(l:List Step)(hlen:l.length<=1000000):SpecP prog 94 [.ip w.cells,eSteps l] (fun r=>r=.sl (avP (l.map (ixP w.p w.j f w.n)))):=by
 refine sB FR func94 rfl call94 ?_;conv=>whnf
 repeat' (refine iM fun _=>?_;conv=>whnf)
 have hl:(l.map fun s=>AV.agg s.cells).length=l.length:=x2m _;refine LoopK.inv QY (fun i:Nat×List (Int×Int)=>⟨[(0,.p (.ip w.cells)),(5,.hd 0 0 i.2.length),(8,.p (eSteps l)),(9,.p (.int .i64 (l.map fun s=>AV.agg s.cells).length)),(10,.p (.int .i64 i.1))],[(0,.own 207 2 (avP i.2))]⟩)
  (fun i=>i.1<=l.length/\i.2=(l.take i.1).map (ixP w.p w.j f w.n)) (fun i=>l.length-i.1) (0,[])
  (Le.mk [(0,.own 207 2 [])] (by simp[Chunk.new0];rfl) (by simp) (by simp) (.r (.cons (.nil x2r) (.r (.r (.r .nil))))) (.new x2r .nil))
  ⟨x3z _,rfl⟩ ?_
 rintro⟨m,acc⟩ ⟨h2,h3⟩;simp only at h2 h3⊢;rcases x3v m l.length with hm|hm;rotate_left 1
 ·rw[x3f hm]at h3;subst h3;conv=>whnf
  repeat' (apply bD<;>intro _<;>first|omega|conv=>whnf)
  exact⟨_,.hd rfl (by simp[avP]),rfl⟩
 have hacl:acc.length=m:=by rw[h3];simp;omega
 conv=>whnf
 repeat' (first|((first|refine dA ?_|refine x2t rfl ?_|refine aD ?_|refine bP ?_|(refine iA fun _=>?_)|refine wI ?_|refine cP (Qi w f hj hc hn _) ?_|refine x6y (by simp[avP]) rfl (by show(acc.length+1)*16<=140737488355328;omega) (by show acc.length+1<=9223372036854775807;omega) (fun x hx=>by rcases x2a.1 hx with rfl;exact⟨rfl,rfl⟩) ?_);conv=>whnf)|(apply bD<;>intro _<;>first|omega|conv=>whnf))
 exact⟨(m+1,acc++[ixP w.p w.j f w.n l[m]]),⟨by simp only;omega,by simp only;rw[h3,x3u hm,x3y];rfl⟩,by simp only;omega,Le.of_eq (by simp only[avP,x2s,x3y];rfl)⟩
theorem Zm{P:Program}{f:FuncId}{args:List LV}{H H0:Heap}{e:TypeId}{sz:Nat}{Q:List AV->Prop}(hrow:PH 0 H0 fun H=>H=H0)(h:SpecH P f args H (fun r H'=>∃es,r=.hd 0 0 es.length/\H'=(0,.own e sz es)::H0/\Q es)):SpecH P f args H (fun r H'=>∃es,r=.p (.sl es)/\H'=H0/\Q es):=by
 refine⟨h.go,fun σ β w vals h1 h2 h3=>(h.ok σ β w vals h1 h2 h3).mono fun ex w' hx=>?_⟩;obtain⟨l,u,σ',β',H',he,⟨es,rfl,rfl,hQ⟩,hrep,hrel,hlat⟩:=hx;obtain⟨s',rfl,hle⟩:=Le.row (N:=1) (s:=⟨[(0,.hd 0 0 es.length)],(0,.own e sz es)::H0⟩) (k:=0) (e:=e) (sz:=sz) (es:=es) (zs:=[0]) rfl (K:=fun s=>s=⟨[(0,.p (.sl es))],H0⟩) (by
  show LenK es.length es _;refine⟨rfl,?_⟩;show PH 0 H0 fun H=>(⟨[(0,.p (.sl es))],H⟩:St)=⟨[(0,.p (.sl es))],H0⟩;have key:∀{H1:Heap}{K K':Heap->Prop},(∀H,K H->K' H)->PH 0 H1 K->PH 0 H1 K':=fun {H1}=>by
   induction H1 with
   |nil=>intro K K' hK h;exact hK _ h
   | cons x r ih=>
     intro K K' hK h;obtain⟨j,c⟩:=x;simp only[PH]at h⊢;cases hb:j==0 with
     | true=>
       simp only[hb,x3p]at h⊢;exact ih hK h
     | false=>
       simp only[hb,x3t]at h⊢;cases c with
       |obj e ls=>simp only[WS]at h⊢;exact ih (fun H hH=>hK _ hH) h
       |own e sz es=>exact ih (fun H hH=>hK _ hH) h
       |ext x=>exact ih (fun H hH=>hK _ hH) h
  exact key (fun H hH=>by rw[hH]) hrow)
 obtain⟨σ2,β2,hr2,hl2⟩:=hle σ' β' {tmps:=#[u],defers:=[]} w' ⟨rfl,rfl,fun i=>by
  match i with
  |0=>simpa[getS]using hrep
  |i+1=>exact .p (by simpa[getS]using Rep.any _),hrel⟩
 exact⟨.p (.sl es),u,σ2,β2,H0,he,⟨es,rfl,rfl,hQ⟩,by simpa[getS]using hr2.slots 0,hr2.heap,hlat.trans hl2⟩
theorem B2(p:Pg)(j:Nat)(f:Pr)(n:Int)(real:AV)(lv:List AV)(hj:p.procs[j]?=some f)(hc:cntP p.procs<=1000)(hn:0<=n/\n<=5000)(l:List Step)(hlen:l.length<=1000000):
  SpecH prog 94 [.ptr 1000 0,.p (eSteps l)] (q0f p j n real lv) (fun r H=>∃es,r=.p (.sl es)/\H=q0f p j n real lv/\es=avP (l.map (ixP p j f n))):=by
 refine Zm (e:=207) (sz:=2) rfl ?_;refine sH FR func94 rfl call94 ?_;conv=>whnf
 repeat' (refine iM fun _=>?_;conv=>whnf)
 have hl:(l.map fun s=>AV.agg s.cells).length=l.length:=x2m _;refine LoopK.inv QY (fun i:Nat×List (Int×Int)=>⟨[(0,.ptr 1000 0),(5,.hd 0 0 i.2.length),(8,.p (eSteps l)),(9,.p (.int .i64 (l.map fun s=>AV.agg s.cells).length)),(10,.p (.int .i64 i.1))],(0,.own 207 2 (avP i.2))::q0f p j n real lv⟩)
  (fun i=>i.1<=l.length/\i.2=(l.take i.1).map (ixP p j f n)) (fun i=>l.length-i.1) (0,[])
  (Le.mk [(0,.own 207 2 [])] (by simp[Chunk.new0];rfl) (by simp) (by simp[q0f]) (.r (.cons (.nil x2r) (.r (.r (.r .nil))))) (.new x2r (.cons rfl (.refl _) (.cons rfl (.refl _) .nil))))
  ⟨x3z _,rfl⟩ ?_
 rintro⟨m,acc⟩ ⟨h2,h3⟩;simp only at h2 h3⊢;rcases x3v m l.length with hm|hm;rotate_left 1
 ·rw[x3f hm]at h3;subst h3;conv=>whnf
  repeat' (apply bD<;>intro _<;>first|omega|conv=>whnf)
  exact⟨_,x3n _,avP (l.map (ixP p j f n)),by simp[avP],rfl,rfl⟩
 have hacl:acc.length=m:=by rw[h3];simp;omega
 conv=>whnf
 repeat' (first|((first|refine dA ?_|refine x2t rfl ?_|refine aD ?_|refine bP ?_|(refine iA fun _=>?_)|refine wI ?_|refine x6y (by simp[avP]) rfl (by show(acc.length+1)*16<=140737488355328;omega) (by show acc.length+1<=9223372036854775807;omega) (fun x hx=>by rcases x2a.1 hx with rfl;exact⟨rfl,rfl⟩) ?_);conv=>whnf)|(apply bD<;>intro _<;>first|omega|conv=>whnf)|(refine CallK.heap [(1000,1000),(2000,2000)] 0 (by repeat' (first|exact x4x|refine x3d ?_ ?_|exact x3n _|exact x3e Sub.nils|exact x3e (Sub.tt rfl)|exact x3e (Sub.ff rfl)|exact x3e (Sub.int (by omega)))) (by refine x3j (j:=1000) rfl rfl ?_ ?_;exact CSub.refl _;refine x3j (j:=2000) rfl rfl ?_ ?_;exact CSub.refl _;exact x4z) (B1 p j f n real lv hj hc hn _) rfl rfl ?_;rintro l' H' ⟨rfl,rfl⟩;conv=>whnf))
 exact⟨(m+1,acc++[ixP p j f n l[m]]),⟨by simp only;omega,by simp only;rw[h3,x3u hm,x3y];rfl⟩,by simp only;omega,Le.mk [] (by simp) (by simp) (by simp[q0f]) (.r (.cons (.of_eq (by simp only[x2s];rfl)) (.r (.r (.cons (.of_eq rfl) .nil))))) (.cons rfl (.of_eq (by simp only[avP,x3y];rfl)) (.cons rfl (.refl _) (.cons rfl (.refl _) .nil)))⟩
theorem Lp{l:List Int}{x:Int}(h:l.Pairwise (· <= ·)):(W5 l (l.countP (· < x)) x).Pairwise (· <= ·):=by
 induction l with
 |nil=>simp[W5]
 | cons a r ih=>
   obtain⟨h1,h2⟩:=x6k.1 h;by_cases ha:a<x
   ·have e:W5 (a::r) ((a::r).countP (· < x)) x=a::W5 r (r.countP (· < x)) x:=by
     unfold W5;rw[List.countP_cons_of_pos (by simpa using ha)];rfl
    rw[e,x6k];refine⟨fun b hb=>?_,ih h2⟩;unfold W5 at hb;rcases x3x.1 hb with hb|hb
    ·exact h1 b (x9g hb)
    ·rcases x2i.1 hb with rfl|hb
     ·omega
     ·exact h1 b (List.mem_of_mem_drop hb)
   ·have e0:(a::r).countP (· < x)=0:=by
     rw[List.countP_eq_zero];intro b hb;rcases x2i.1 hb with rfl|hb
     ·simpa using ha
     ·have:=h1 b hb;simp;omega
    rw[e0];show(x::a::r).Pairwise (· <= ·);refine x6k.2 ⟨fun b hb=>?_,h⟩;rcases x2i.1 hb with rfl|hb
    ·omega
    ·have:=h1 b hb;omega
def Ui(n m:Nat)(N:List (List Int)):Prop:=N.length=n/\∀r∈N,r.Pairwise (· <= ·)/\r.length<=m
theorem N8{n:Nat}{N:List (List Int)}(h:Ui n m N)(a:Nat)(b:Int):Ui n (m+1) (Gl N a b):=by
 unfold Gl;refine⟨by rw[x5e];exact h.1,fun r hr=>?_⟩;rcases x6i hr with hr|rfl
 ·obtain⟨h1,h2⟩:=h.2 r hr;exact⟨h1,by omega⟩
 ·rcases x3v a N.length with ha|ha
  ·have hm:N.getD a []∈N:=by
    rw[x2l,x2n ha];exact x3w ha
   obtain⟨h1,h2⟩:=h.2 _ hm;exact⟨Lp h1,by rw[Vz x9w];omega⟩
  ·have:N.getD a []=[]:=by simp[x4a ha]
   rw[this];exact⟨by simp[W5],by simp[W5]⟩
theorem Ki{n m':Nat}{N:List (List Int)}(h:Ui n m N)(hm:m<=m'):Ui n m' N:=⟨h.1,fun r hr=>⟨(h.2 r hr).1,x4k (h.2 r hr).2 hm⟩⟩
def B9(n:Nat)(g:List (List Int)×List (List Int))(e:Int×Int):List (List Int)×List (List Int):=
 bif ZF n e.1&&ZF n e.2 && !(g.1.getD e.1.toNat []).contains e.2 then(Gl g.1 e.1.toNat e.2,Gl g.2 e.2.toNat e.1)else g
def QR(n:Nat)(l:List (Int×Int)):List (List Int)×List (List Int):=l.foldl (B9 n) (List.replicate n [],List.replicate n [])
def eMat(m:List (List Int)):AV:=.sl ((avI m).map .sl)
def VW(g:List (List Int)×List (List Int)):AV:=.ip [eMat g.1,eMat g.2]
theorem Vo(n:Nat)(g:List (List Int)×List (List Int))(e:Int×Int):(B9 n g e).1=bif ZF n e.1&&ZF n e.2 && !(g.1.getD e.1.toNat []).contains e.2 then Gl g.1 e.1.toNat e.2 else g.1:=by
 unfold B9;cases ZF n e.1&&ZF n e.2 && !(g.1.getD e.1.toNat []).contains e.2<;>rfl
theorem K9(n:Nat)(g:List (List Int)×List (List Int))(e:Int×Int):(B9 n g e).2=bif ZF n e.1&&ZF n e.2 && !(g.1.getD e.1.toNat []).contains e.2 then Gl g.2 e.2.toNat e.1 else g.2:=by
 unfold B9;cases ZF n e.1&&ZF n e.2 && !(g.1.getD e.1.toNat []).contains e.2<;>rfl
theorem Iz{n:Nat}{g:List (List Int)×List (List Int)}(h:Ui n m g.1/\Ui n m g.2)(e:Int×Int):Ui n (m+1) (B9 n g e).1/\Ui n (m+1) (B9 n g e).2:=by
 rw[Vo,K9];cases ZF n e.1&&ZF n e.2 && !(g.1.getD e.1.toNat []).contains e.2
 ·exact⟨Ki h.1 (by omega),Ki h.2 (by omega)⟩
 ·exact⟨N8 h.1 _ _,N8 h.2 _ _⟩
theorem NT{n:Nat}{l:List (Int×Int)}(hm:m<l.length):QR n (l.take (m+1))=B9 n (QR n (l.take m)) l[m]:=by
 unfold QR;rw[x3u hm,x7n];rfl
theorem BL{n:Nat}{l:List (Int×Int)}:∀{m:Nat},m<=l.length->Ui n m (QR n (l.take m)).1/\Ui n m (QR n (l.take m)).2
 | 0,_=>by
   have:Ui n 0 (List.replicate n []):=⟨by simp,fun r hr=>by rw[x6j hr];simp⟩;exact⟨this,this⟩
 | m+1,h=>by
   rw[NT h];exact Iz (BL (by omega)) _
theorem Gk{N':Nat}{sl:List (Nat×LV)}(n a b:Nat)(h0:(sl.all fun x=>x.2.xfree 0)=true)(h1:(sl.all fun x=>x.2.xfree 1)=true):
  Le N' ⟨sl,[(2,.obj 230 [.hd a 0 n,.hd b 0 n]),(1,.own 29 1 (List.replicate n .nils)),(0,.own 29 1 (List.replicate n .nils))]⟩
   ⟨sl,[(2,.obj 230 [.hd a 0 n,.hd b 0 n]),(1,.ext (.mat 29 3 1 (List.replicate n []) [])),(0,.ext (.mat 29 3 1 (List.replicate n []) []))]⟩:=by
 have hm:=LH (N:=N') (sl:=sl) (H:=[(2,.obj 230 [.hd a 0 n,.hd b 0 n]),(1,.own 29 1 (List.replicate n .nils)),(0,.own 29 1 (List.replicate n .nils))])
  (H':=[(2,.obj 230 [.hd a 0 n,.hd b 0 n]),(1,.own 29 1 (List.replicate n .nils)),(0,.ext (.mat 29 3 1 (List.replicate (List.replicate n AV.nils).length []) []))])
  0 3 1 (e:=29) (es:=List.replicate n .nils) rfl (fun x hx=>x6j hx) rfl h0 rfl rfl (by simp[GM])
 have hm2:=LH (N:=N') (sl:=sl) (H:=[(2,.obj 230 [.hd a 0 n,.hd b 0 n]),(1,.own 29 1 (List.replicate n .nils)),(0,.ext (.mat 29 3 1 (List.replicate (List.replicate n AV.nils).length []) []))])
  (H':=[(2,.obj 230 [.hd a 0 n,.hd b 0 n]),(1,.ext (.mat 29 3 1 (List.replicate (List.replicate n AV.nils).length []) [])),(0,.ext (.mat 29 3 1 (List.replicate (List.replicate n AV.nils).length []) []))])
  1 3 1 (e:=29) (es:=List.replicate n .nils) rfl (fun x hx=>x6j hx) rfl h1 rfl rfl (by simp[GM])
 have:=hm.trans hm2;simpa using this
theorem Y0(n:Nat)(hn:n<=5000)(l:List (Int×Int))(hlen:l.length<=1000000):SpecP prog 184 [.int .i64 n,.sl (avP l)] (fun r=>r=VW (QR n l)):=by
 refine sB L4 func184 rfl call184 ?_;conv=>whnf
 repeat' (first|((first|(refine iM fun _=>?_)|refine dA ?_|refine x2t rfl ?_|refine aR ?_|refine x8v n rfl (by show 24*n<=140737488355328;omega) (by unfold maxLen;omega) ?_);conv=>whnf)|(apply bD<;>intro _<;>first|omega|conv=>whnf)|(refine x2t ?_ ?_<;>conv=>whnf))
 all_goals have hl:(avP l).length=l.length:=x2m _
 ·refine LoopK.inv QY (fun m:Nat=>⟨[(5,.ptr (0+1+1) 0),(20,.p (.sl (avP l))),(21,.p (.int .i64 (avP l).length)),(22,.p (.int .i64 m))],[(0+1+1,.obj 230 [.hd 0 0 n,.hd (0+1) 0 n]),(0,.ext (.mat 29 3 1 (avI (QR n (l.take m)).1) [])),(0+1,.ext (.mat 29 3 1 (avI (QR n (l.take m)).2) []))]⟩)
   (fun m=>m<=l.length) (fun m=>l.length-m) 0 (by
     refine Le.trans (Gk n _ _ rfl rfl) ?_;exact Le.mk [] (by simp) (by simp) (by simp) (.r (.r (.r (.r .nil)))) (.cons rfl (.refl _) (.cons rfl (.of_eq (by simp[avI,QR])) (.cons rfl (.of_eq (by simp[avI,QR])) .nil)))) (x3z _) ?_
  rintro m h2;obtain⟨g1,g2⟩:=BL (n:=n) h2;rcases x3v m l.length with hm|hm
  ·have hme:(avP l)[m]?=some (.agg [.int .i64 l[m].1,.int .i64 l[m].2]):=by simp[avP,hm]
   conv=>whnf
   repeat' (first|((first|refine x2t rfl ?_|refine wI ?_|(refine IdxK.at rfl hme rfl ?_)|refine x4j 0 rfl (by decide) ?_|refine x4j 1 rfl (by decide) ?_);conv=>whnf)|(apply bD<;>intro _<;>first|omega|conv=>whnf)|(refine CallK.heap [(1000,0+1+1),(2001,0),(2002,1)] 0 (by repeat' (first|exact x4x|refine x3d ?_ ?_|exact x3n _|exact x3e Sub.nils|exact x3e (Sub.tt rfl)|exact x3e (Sub.ff rfl)|exact x3e (Sub.int (by omega)))) (by refine x3j (j:=2) rfl rfl ?_ ?_;exact CSub.refl _;refine x3j (j:=0) rfl rfl ?_ ?_;exact CSub.refl _;refine x3j (j:=1) rfl rfl ?_ ?_;exact CSub.refl _;exact x4z) (N9 n _ _ l[m].1 l[m].2 g1.1 g2.1 hn (fun r hr=>⟨(g1.2 r hr).1,by have:=(g1.2 r hr).2;omega⟩) (fun r hr=>⟨(g2.2 r hr).1,by have:=(g2.2 r hr).2;omega⟩)) rfl rfl ?_;rintro l' H' ⟨t,rfl,rfl⟩;conv=>whnf))
   exact⟨m+1,hm,by omega,Le.of_eq (by rw[NT hm,Vo,K9];rfl)⟩
  ·rw[x3f hm]at g1 g2⊢;conv=>whnf
   repeat' (apply bD<;>intro _<;>first|omega|conv=>whnf)
   exact⟨_,.ptr (cs:=[eMat (QR n l).1,eMat (QR n l).2]) rfl rfl (fun i x c h1 h3=>by
    match i,h1,h3 with
    |0,h1,h3=>cases h1;cases h3;exact .mat rfl (by rw[avI,x2m,g1.1])
    |1,h1,h3=>cases h1;cases h3;exact .mat rfl (by rw[avI,x2m,g2.1])),rfl⟩
 ·refine LoopK.inv QY (fun m:Nat=>⟨[(5,.ptr (0+1+1) 0),(20,.p (.sl (avP l))),(21,.p (.int .i64 (avP l).length)),(22,.p (.int .i64 m))],[(0+1+1,.obj 230 [.hd (0+1) 0 n,.hd 0 0 n]),(0+1,.ext (.mat 29 3 1 (avI (QR n (l.take m)).1) [])),(0,.ext (.mat 29 3 1 (avI (QR n (l.take m)).2) []))]⟩)
   (fun m=>m<=l.length) (fun m=>l.length-m) 0 (by
     refine Le.trans (Gk n _ _ rfl rfl) ?_;exact Le.mk [] (by simp) (by simp) (by simp) (.r (.r (.r (.r .nil)))) (.cons rfl (.refl _) (.cons rfl (.of_eq (by simp[avI,QR])) (.cons rfl (.of_eq (by simp[avI,QR])) .nil)))) (x3z _) ?_
  rintro m h2;obtain⟨g1,g2⟩:=BL (n:=n) h2;rcases x3v m l.length with hm|hm
  ·have hme:(avP l)[m]?=some (.agg [.int .i64 l[m].1,.int .i64 l[m].2]):=by simp[avP,hm]
   conv=>whnf
   repeat' (first|((first|refine x2t rfl ?_|refine wI ?_|(refine IdxK.at rfl hme rfl ?_)|refine x4j 0 rfl (by decide) ?_|refine x4j 1 rfl (by decide) ?_);conv=>whnf)|(apply bD<;>intro _<;>first|omega|conv=>whnf)|(refine CallK.heap [(1000,0+1+1),(2001,1),(2002,0)] 0 (by repeat' (first|exact x4x|refine x3d ?_ ?_|exact x3n _|exact x3e Sub.nils|exact x3e (Sub.tt rfl)|exact x3e (Sub.ff rfl)|exact x3e (Sub.int (by omega)))) (by refine x3j (j:=2) rfl rfl ?_ ?_;exact CSub.refl _;refine x3j (j:=1) rfl rfl ?_ ?_;exact CSub.refl _;refine x3j (j:=0) rfl rfl ?_ ?_;exact CSub.refl _;exact x4z) (N9 n _ _ l[m].1 l[m].2 g1.1 g2.1 hn (fun r hr=>⟨(g1.2 r hr).1,by have:=(g1.2 r hr).2;omega⟩) (fun r hr=>⟨(g2.2 r hr).1,by have:=(g2.2 r hr).2;omega⟩)) rfl rfl ?_;rintro l' H' ⟨t,rfl,rfl⟩;conv=>whnf))
   exact⟨m+1,hm,by omega,Le.of_eq (by rw[NT hm,Vo,K9];rfl)⟩
  ·rw[x3f hm]at g1 g2⊢;conv=>whnf
   repeat' (apply bD<;>intro _<;>first|omega|conv=>whnf)
   exact⟨_,.ptr (cs:=[eMat (QR n l).1,eMat (QR n l).2]) rfl rfl (fun i x c h1 h3=>by
    match i,h1,h3 with
    |0,h1,h3=>cases h1;cases h3;exact .mat rfl (by rw[avI,x2m,g1.1])
    |1,h1,h3=>cases h1;cases h3;exact .mat rfl (by rw[avI,x2m,g2.1])),rfl⟩
def KB(st:List Bool×List Int)(b:Int):List Bool×List Int:=bif st.1.getD b.toNat false then st else(st.1.set b.toNat true,st.2++[b])
def ZZ(rows:List (List Int)):Nat->Nat->List Bool×List Int->List Bool×List Int
 |0,_,st=>st
 | k+1,i,st=>match st.2[i]?with
   |some a=>ZZ rows k (i+1) ((rows.getD a.toNat []).foldl KB st)
   |none=>st
def wkInv(n:Nat)(st:List Bool×List Int):Prop:=st.1.length=n/\st.2.length<=st.1.count true/\∀x∈st.2,0<=x/\x<n
theorem Qn{n:Nat}{st:List Bool×List Int}(h:wkInv n st){b:Int}(hb:0<=b/\b<n):wkInv n (KB st b):=by
 unfold KB;obtain⟨h1,h2,h3⟩:=h;have hlt:b.toNat<st.1.length:=by omega
 cases hs:st.1.getD b.toNat false with
 |true=>exact⟨h1,h2,h3⟩
 | false=>
   have hg:st.1[b.toNat]=false:=by simpa[hlt]using hs
   refine⟨by simpa using h1,?_,fun x hx=>?_⟩
   ·simp only[x3t,x2s,x3a];rw[List.count_set hlt,hg];simp;omega
   ·rcases x3x.1 hx with hx|hx
    ·exact h3 x hx
    ·rw[x2a.1 hx];exact hb
theorem CN{n:Nat}{l:List Int}:∀{st:List Bool×List Int},wkInv n st->(∀b∈l,0<=b/\b<n)->wkInv n (l.foldl KB st):=by
 induction l with
 |nil=>intro st h _;exact h
 |cons b r ih=>intro st h hl;exact ih (Qn h (hl b x2r)) fun c hc=>hl c (x2c _ hc)
theorem BJ{n:Nat}{st:List Bool×List Int}(h:wkInv n st):st.2.length<=n:=by
 refine x4k h.2.1 ?_;rw[<-h.1];exact List.count_le_length
def XU(n:Nat)(rows:List (List Int)):Prop:=rows.length=n/\∀r∈rows,∀b∈r,0<=b/\b<n
def ES(st:List Bool×List Int):Heap:=[(1000,.own 4 1 (st.1.map bv)),(2000,.own 3 1 (st.2.map (.int .i64)))]
theorem G0(n:Nat)(hn:n<=5000)(rows:List (List Int))(hr:XU n rows)(st:List Bool×List Int)(hs:wkInv n st):
  SpecH prog 186 [.p (eMat rows),.hd 1000 0 n,.hd 2000 0 st.2.length] (ES st) (fun r H=>r=.hd 2000 0 (ZZ rows (n+1) 0 st).2.length/\H=ES (ZZ rows (n+1) 0 st)):=by
 refine sH Bg func186 rfl call186 ?_;conv=>whnf
 skip
 refine LoopK.inv QY (fun x:Nat×List Bool×List Int=>⟨[(0,.p (eMat rows)),(1,.hd 1000 0 n),(2,.hd 2000 0 x.2.2.length),(7,.p (.int .i64 x.1))],ES x.2⟩)
  (fun x=>wkInv n x.2/\x.1<=x.2.2.length/\ZZ rows (n+1-x.1) x.1 x.2=ZZ rows (n+1) 0 st) (fun x=>n-x.1) (0,st) (Le.of_eq rfl) ⟨hs,x3z _,rfl⟩ ?_
 rintro⟨i,seen,todo⟩ ⟨h1,h2,h3⟩;simp only at h1 h2 h3⊢;have hle:=BJ h1;simp only at hle;rw[show n+1-i=n-i+1 by omega,ZZ]at h3;rcases x3v i todo.length with hi|hi;rotate_left 1
 ·simp only[x4a hi]at h3;conv=>whnf
  repeat' (first|(refine iM fun _=>?_;conv=>whnf)|(apply bD<;>intro _<;>first|omega|conv=>whnf))
  exact⟨_,x8z (by rw[<-h3]),rfl,by rw[<-h3];rfl⟩
 simp only[x2n hi]at h3;have hx:=h1.2.2 _ (x3w hi);have hxr:todo[i].toNat<rows.length:=by rw[hr.1];omega
 have hrow:((avI rows).map AV.sl)[todo[i].toNat]?=some (.sl (rows[todo[i].toNat].map (.int .i64))):=by simp[avI,hxr]
 have hgd:rows.getD todo[i].toNat []=rows[todo[i].toNat]:=by simp[hxr]
 rw[hgd]at h3;have hrin:=hr.2 _ (x3w hxr);conv=>whnf
 repeat' (first|((first|(refine iM fun _=>?_)|refine x2t rfl ?_|refine x4j i (by omega) (by omega) ?_|refine x5z i 0 (.int .i64 todo[i]) (by omega) (by simp[hi]) ?_|(refine IdxK.at (by omega) hrow rfl ?_));conv=>whnf)|(apply bD<;>intro _<;>first|omega|conv=>whnf))
 have hrb:(rows[todo[i].toNat].map (AV.int .i64)).length<=9223372036854775807:=by assumption
 generalize rows[todo[i].toNat]=row at hrin h3 hrb⊢;have hrl:(row.map (AV.int .i64)).length=row.length:=x2m _;refine LoopK.inv QY (fun x:Nat×List Bool×List Int=>⟨[(0,.p (eMat rows)),(1,.hd 1000 0 n),(2,.hd 2000 0 x.2.2.length),(7,.p (.int .i64 i)),(22,.p (.sl (row.map (.int .i64)))),(23,.p (.int .i64 (row.map (AV.int .i64)).length)),(24,.p (.int .i64 x.1))],ES x.2⟩)
  (fun x=>wkInv n x.2/\todo.length<=x.2.2.length/\x.1<=row.length/\ZZ rows (n-i) (i+1) ((row.drop x.1).foldl KB x.2)=ZZ rows (n+1) 0 st) (fun x=>row.length-x.1) (0,seen,todo) (Le.of_eq rfl) ⟨h1,x3g _,x3z _,h3⟩ ?_
 rintro⟨q,s2,t2⟩ ⟨h4,h5,h6,h7⟩;simp only at h4 h5 h6 h7⊢;have hle2:=BJ h4;simp only at hle2;rcases x3v q row.length with hq|hq;rotate_left 1
 ·rw[x3b hq]at h7;conv=>whnf
  repeat' (first|(refine wI ?_;conv=>whnf)|(apply bD<;>intro _<;>first|omega|conv=>whnf))
  exact⟨(i+1,s2,t2),⟨h4,by simp only;omega,by simp only;rw[show n+1-(i+1)=n-i by omega];exact h7⟩,by simp only;omega,Le.of_eq rfl⟩
 rw[x4v hq,x6v]at h7;have hb:=hrin _ (x3w hq);have h8:=Qn h4 hb;have hbl:row[q].toNat<s2.length:=by have:=h4.1;simp only at this;omega
 cases hsb:s2.getD row[q].toNat false with
 | true=>
   have e1:KB (s2,t2) row[q]=(s2,t2):=by unfold KB;simp only[hsb,x3p]
   have e2:(s2.map bv)[row[q].toNat]?=some .tt:=by
    have:s2[row[q].toNat]=true:=by simpa[hbl]using hsb
    simp[hbl,this,bv]
   rw[e1]at h7;conv=>whnf
   repeat' (first|((first|refine x2t rfl ?_|(refine iA fun _=>?_)|refine wI ?_|refine x4j row[q].toNat (by omega) (by have:=h4.1;simp only at this;omega) ?_|refine x5z row[q].toNat 0 .tt (by omega) e2 ?_);conv=>whnf)|(apply bD<;>intro _<;>first|omega|conv=>whnf))
   all_goals exact⟨(q+1,s2,t2),⟨h4,h5,by simp only;omega,h7⟩,by simp only;omega,Le.of_eq rfl⟩
 | false=>
   have e1:KB (s2,t2) row[q]=(s2.set row[q].toNat true,t2++[row[q]]):=by unfold KB;simp only[hsb,x3t]
   have e2:(s2.map bv)[row[q].toNat]?=some .ff:=by
    have:s2[row[q].toNat]=false:=by simpa[hbl]using hsb
    simp[hbl,this,bv]
   rw[e1]at h7 h8;conv=>whnf
   repeat' (first|((first|refine x2t rfl ?_|refine aD ?_|refine bP ?_|(refine iA fun _=>?_)|refine wI ?_|refine x4j row[q].toNat (by omega) (by have:=h4.1;simp only at this;omega) ?_|refine x5z row[q].toNat 0 .ff (by omega) e2 ?_|refine x5i row[q].toNat 0 .ff .tt (by omega) e2 (x3g 1) rfl ?_|refine XH (by simp) (by simp;omega) ?_);conv=>whnf)|(apply bD<;>intro _<;>first|omega|conv=>whnf))
   all_goals exact⟨(q+1,s2.set row[q].toNat true,t2++[row[q]]),⟨h8,by simp;omega,by simp only;omega,h7⟩,by simp only;omega,Le.of_eq (by simp only[ES,x2s,x3y,x4m];rfl)⟩
def FZ:Nat->List Bool->List Int
 |_,[]=>[]
 |i,b::r=>bif b then(i:Int)::FZ (i+1) r else FZ (i+1) r
theorem Nq(seen:List Bool)(hn:seen.length<=1000000):
  SpecH prog 187 [.hd 1000 0 seen.length] [(1000,.own 4 1 (seen.map bv))] (fun r H=>∃es,r=.p (.sl es)/\H=[(1000,.own 4 1 (seen.map bv))]/\es=(FZ 0 seen).map (.int .i64)):=by
 refine Zm (e:=3) (sz:=1) rfl ?_;refine sH Jn func187 rfl call187 ?_;conv=>whnf
 repeat' (refine iM fun _=>?_;conv=>whnf)
 refine LoopK.inv QY (fun i:Nat×List Int=>⟨[(3,.hd 0 0 i.2.length),(6,.hd 1000 0 seen.length),(7,.p (.int .i64 seen.length)),(8,.p (.int .i64 i.1))],[(0,.own 3 1 (i.2.map (.int .i64))),(1000,.own 4 1 (seen.map bv))]⟩)
  (fun i=>i.1<=seen.length/\i.2.length<=i.1/\i.2++FZ i.1 (seen.drop i.1)=FZ 0 seen) (fun i=>seen.length-i.1) (0,[])
  (Le.mk [(0,.own 3 1 [])] (by simp[Chunk.new0];rfl) (by simp) (by simp) (.cons (.nil x2r) (.r (.r (.r .nil)))) (.new x2r (.cons rfl (.refl _) .nil)))
  ⟨x3z _,x3g _,rfl⟩ ?_
 rintro⟨m,acc⟩ ⟨h2,h3,h4⟩;simp only at h2 h3 h4⊢;rcases x3v m seen.length with hm|hm;rotate_left 1
 ·rw[x3b hm,FZ,x4b]at h4;subst h4;conv=>whnf
  repeat' (apply bD<;>intro _<;>first|omega|conv=>whnf)
  exact⟨_,x3n _,(FZ 0 seen).map (.int .i64),by simp,rfl,rfl⟩
 rw[x4v hm,FZ]at h4;cases hsb:seen[m]with
 | true=>
   rw[hsb,x3p]at h4;have e2:(seen.map bv)[m]?=some .tt:=by simp[hm,hsb,bv]
   conv=>whnf
   repeat' (first|((first|refine x2t rfl ?_|refine aD ?_|refine bP ?_|refine wI ?_|refine x4j m rfl hm ?_|refine x5z m 0 .tt (by omega) e2 ?_|refine XH (by simp) (by simp;omega) ?_);conv=>whnf)|(apply bD<;>intro _<;>first|omega|conv=>whnf))
   exact⟨(m+1,acc++[(m:Int)]),⟨by simp only;omega,by simp;omega,by simpa using h4⟩,by simp only;omega,Le.of_eq (by simp only[x2s,x3y];rfl)⟩
 | false=>
   rw[hsb,x3t]at h4;have e2:(seen.map bv)[m]?=some .ff:=by simp[hm,hsb,bv]
   conv=>whnf
   repeat' (first|((first|refine x2t rfl ?_|refine wI ?_|refine x4j m rfl hm ?_|refine x5z m 0 .ff (by omega) e2 ?_);conv=>whnf)|(apply bD<;>intro _<;>first|omega|conv=>whnf))
   exact⟨(m+1,acc),⟨by simp only;omega,by simp only;omega,h4⟩,by simp only;omega,Le.of_eq rfl⟩
theorem DG(g:List (List Int)×List (List Int))(a:Int):SpecP prog 185 [VW g,.int .i64 a] (fun r=>r=.bool (ZF g.1.length a)):=by
 refine sB GQ func185 rfl call185 ?_;conv=>whnf
 repeat' (first|(refine iM fun _=>?_;conv=>whnf)|(apply bD<;>intro _<;>first|omega|conv=>whnf))
 all_goals have hl:((avI g.1).map AV.sl).length=g.1.length:=by simp[avI]
 all_goals first
  |exact RetK.bool (by unfold ZF;simp[*];done)
  |exact RetK.ff (by unfold ZF;simp;omega)
 all_goals trace_state
def BQ(n:Nat)(l:List Int):List Bool×List Int:=l.foldl (fun st a=>bif ZF n a then KB st a else st) (List.replicate n false,[])
def ZP(rows:List (List Int))(l:List Int):List Bool:=(ZZ rows (rows.length+1) 0 (BQ rows.length l)).1
theorem MP(n:Nat):wkInv n (List.replicate n false,[]):=⟨by simp,by simp[List.count_replicate],by simp⟩
theorem BU{n:Nat}{rows:List (List Int)}(hr:XU n rows):∀(k i:Nat){st:List Bool×List Int},wkInv n st->wkInv n (ZZ rows k i st)
 |0,_,_,h=>h
 | k+1,i,st,h=>by
   rw[ZZ];split
   ·rename_i a ha;have hx:=h.2.2 a (x3k ha);refine BU hr k (i+1) (CN h ?_);have hlt:a.toNat<rows.length:=by rw[hr.1];omega
    rw[x2l,x2n hlt];exact hr.2 _ (x3w hlt)
   ·exact h
theorem XI{n:Nat}{a:Int}(h:ZF n a=true):0<=a/\a<n:=by
 unfold ZF at h;simpa using h
theorem Xs(n:Nat)(hn:n<=5000)(g:List (List Int)×List (List Int))(hg:XU n g.1)(l:List Int)(hlen:l.length<=1000000):SpecP prog 141 [VW g,QO l] (fun r=>r=QO (FZ 0 (ZP g.1 l))):=by
 refine sB PI func141 rfl call141 ?_;conv=>whnf
 have hl:((avI g.1).map AV.sl).length=n:=by simp[avI,hg.1]
 repeat' ((first|(refine iM fun _=>?_)|refine aR ?_|refine x8v n (by rw[hl]) (by show 1*n<=140737488355328;omega) (by unfold maxLen;omega) ?_);conv=>whnf)
 have hll:(l.map (AV.int .i64)).length=l.length:=x2m _;refine LoopK.inv QY (fun x:Nat×List Bool×List Int=>⟨[(0,.p (VW g)),(5,.hd 0 0 n),(6,.hd 1 0 x.2.2.length),(17,.p (QO l)),(18,.p (.int .i64 (l.map (AV.int .i64)).length)),(19,.p (.int .i64 x.1))],[(0,.own 4 1 (x.2.1.map bv)),(1,.own 3 1 (x.2.2.map (.int .i64)))]⟩)
  (fun x=>x.1<=l.length/\wkInv n x.2/\(l.drop x.1).foldl (fun st a=>bif ZF n a then KB st a else st) x.2=BQ n l) (fun x=>l.length-x.1) (0,List.replicate n false,[])
  (Le.mk [(1,.own 3 1 [])] (by simp[Chunk.new0];rfl) (by simp) (by simp) (.r (.r (.cons (.nil x2r) (.r (.r (.r .nil)))))) (.cons rfl (.of_eq (by rw[x6x];rfl)) (.new x2r .nil)))
  ⟨x3z _,MP n,rfl⟩ ?_
 rintro⟨m,seen,todo⟩ ⟨h2,h3,h4⟩;simp only at h2 h3 h4⊢;have hsl:seen.length=n:=h3.1;have htl:todo.length<=n:=BJ h3;rcases x3v m l.length with hm|hm;rotate_left 1
 ·rw[x3b hm,List.foldl_nil]at h4;conv=>whnf
  repeat' (first|(apply bD<;>intro _<;>first|omega|conv=>whnf)|(refine CallK.heap [(1000,0),(2000,1)] 0 (by repeat' (first|exact x4x|refine x3d ?_ ?_|exact x3n _|exact x3e Sub.nils|exact x3e (Sub.tt rfl)|exact x3e (Sub.ff rfl)|exact x3e (Sub.int (by omega)))) (by refine x3j (j:=0) rfl rfl ?_ ?_;exact CSub.refl _;refine x3j (j:=1) rfl rfl ?_ ?_;exact CSub.refl _;exact x4z) (G0 n hn g.1 hg (seen,todo) h3) rfl rfl ?_;rintro l' H' ⟨rfl,rfl⟩;conv=>whnf))
  have hwl:(ZZ g.1 (n+1) 0 (seen,todo)).1.length=n:=(BU hg _ _ h3).1;refine CallK.heap [(1000,0)] 0 (x3d (x8z (by rw[hwl];rfl)) x4x) (by refine x3j (j:=0) rfl rfl ?_ ?_;exact CSub.refl _;exact x4z) (Nq (ZZ g.1 (n+1) 0 (seen,todo)).1 (by omega)) rfl rfl ?_;rintro l' H' ⟨es,rfl,rfl,rfl⟩;conv=>whnf
  skip
  exact RetK.p (by unfold QO ZP;rw[hg.1,<-h4])
 rw[x4v hm,x6v]at h4;have hhas:SpecP prog 185 [VW g,.int .i64 l[m]] (fun r=>r=.bool (ZF n l[m])):=by
  have:=DG g l[m]
  rwa[hg.1]at this
 cases hsb:seen.getD l[m].toNat false with
 | true=>
   have e1:(bif ZF n l[m]then KB (seen,todo) l[m]else(seen,todo))=(seen,todo):=by unfold KB;simp only[hsb,x3p];cases ZF n l[m]<;>rfl
   have e2:ZF n l[m]=true->(seen.map bv)[l[m].toNat]?=some .tt:=fun h=>by
    have hb:=XI h;have hlt:l[m].toNat<seen.length:=by omega
    have:seen[l[m].toNat]=true:=by simpa[hlt]using hsb
    simp[hlt,this,bv]
   rw[e1]at h4;conv=>whnf
   repeat' (first|((first|refine x2t rfl ?_|(refine iA fun _=>?_)|refine wI ?_|refine cP hhas ?_|refine x4j l[m].toNat (by have:=XI (by assumption);omega) (by have:=XI (by assumption);omega) ?_|refine x5z l[m].toNat 0 .tt (by omega) (e2 (by assumption)) ?_);conv=>whnf)|(apply bD<;>intro _<;>first|omega|conv=>whnf)|(apply bB<;>intro _<;>conv=>whnf))
   all_goals exact⟨(m+1,seen,todo),⟨by simp only;omega,h3,h4⟩,by simp only;omega,Le.of_eq rfl⟩
 | false=>
   have e2:ZF n l[m]=true->(seen.map bv)[l[m].toNat]?=some .ff:=fun h=>by
    have hb:=XI h;have hlt:l[m].toNat<seen.length:=by omega
    have:seen[l[m].toNat]=false:=by simpa[hlt]using hsb
    simp[hlt,this,bv]
   conv=>whnf
   repeat' (first|((first|refine x2t rfl ?_|refine aD ?_|refine bP ?_|(refine iA fun _=>?_)|refine wI ?_|refine cP hhas ?_|refine x4j l[m].toNat (by have:=XI (by assumption);omega) (by have:=XI (by assumption);omega) ?_|refine x5z l[m].toNat 0 .ff (by omega) (e2 (by assumption)) ?_|refine x5i l[m].toNat 0 .ff .tt (by omega) (e2 (by assumption)) (x3g 1) rfl ?_|refine XH (by simp) (by simp;omega) ?_);conv=>whnf)|(apply bD<;>intro _<;>first|omega|conv=>whnf)|(apply bB<;>intro _<;>conv=>whnf))
   ·have hh:ZF n l[m]=true:=by assumption
    have e1:(bif ZF n l[m]then KB (seen,todo) l[m]else(seen,todo))=(seen.set l[m].toNat true,todo++[l[m]]):=by unfold KB;simp only[hsb,hh,x3p,x3t]
    have h8:=Qn h3 (XI hh);rw[e1]at h4;have e3:KB (seen,todo) l[m]=(seen.set l[m].toNat true,todo++[l[m]]):=by unfold KB;simp only[hsb,x3t]
    rw[e3]at h8;exact⟨(m+1,seen.set l[m].toNat true,todo++[l[m]]),⟨by simp only;omega,h8,h4⟩,by simp only;omega,Le.of_eq (by simp only[x2s,x3y,x4m];rfl)⟩
   ·have hh:ZF n l[m]=false:=by assumption
    have e1:(bif ZF n l[m]then KB (seen,todo) l[m]else(seen,todo))=(seen,todo):=by rw[hh];rfl
    rw[e1]at h4;exact⟨(m+1,seen,todo),⟨by simp only;omega,h3,h4⟩,by simp only;omega,Le.of_eq rfl⟩
end Go.Ab
