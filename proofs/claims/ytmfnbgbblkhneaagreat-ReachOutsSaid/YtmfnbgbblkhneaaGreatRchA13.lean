/- The library's contracts at this seat's program, in plain words (printed by the kit's lay-plain.mjs). Conditions: none. -/
import Derived.Shelf.Sort.Plain
import Derived.Shelf.Slices.In.SortNone
import Derived.Shelf.Slices.CompactS
import Derived.Ground.Names2Prog
import Derived.Shelf.Slices.SearchI
import Derived.Shelf.Slices.Empties
import Derived.Shelf.Spec.SlicesInsert
import Derived.Shelf.Spec.SlicesInsertGrow
import Derived.Shelf.SlSortCmp.NoneTotal
import Derived.Ground.SlsfProg
import Derived.Test.YtmfnbgbblkhneaaGreatProg
import Derived.Test.YtmfnbgbblkhneaaGreatRchA11
import Derived.Test.YtmfnbgbblkhneaaGreatRchA12
set_option linter.unusedSimpArgs false
set_option linter.unusedVariables false
set_option maxRecDepth 100000
set_option maxHeartbeats 16000000
namespace Go.Proofs
open Go.Shelf
def Tryz.laysF_ren:Go.Shelf.Ren:=⟨fun|6=>192|15=>160|14=>234|28=>209|29=>210|20=>257|21=>258|22=>259|23=>260|24=>261|25=>262|26=>263|27=>264|46=>277|47=>242|48=>243|49=>278|50=>279|57=>281|n=>n,fun|22=>117|24=>206|25=>237|3=>3|39=>216|0=>0|53=>253|55=>255|4=>4|46=>247|45=>246|50=>181|5=>5|9=>9|66=>274|70=>278|76=>293|77=>60|n=>n,fun|n=>n⟩
theorem Ym:Go.Proofs.SlLaysF0.n6 Tryz.prog Tryz.laysF_ren:={
 mixed:=by kernel_rfl
 f6:=⟨Tryz.f192.name,by decide,Tryz.func192.trans (congrArg some (by kernel_rfl))⟩
 f14:=⟨Tryz.f234.name,by decide,Tryz.func234.trans (congrArg some (by kernel_rfl))⟩
 f15:=Tryz.func160.trans (congrArg some (by kernel_rfl))
 f20:=⟨Tryz.f257.name,by decide,Tryz.func257.trans (congrArg some (by kernel_rfl))⟩
 f21:=⟨Tryz.f258.name,by decide,Tryz.func258.trans (congrArg some (by kernel_rfl))⟩
 f22:=⟨Tryz.f259.name,by decide,Tryz.func259.trans (congrArg some (by kernel_rfl))⟩
 f23:=⟨Tryz.f260.name,by decide,Tryz.func260.trans (congrArg some (by kernel_rfl))⟩
 f24:=⟨Tryz.f261.name,by decide,Tryz.func261.trans (congrArg some (by kernel_rfl))⟩
 f25:=⟨Tryz.f262.name,by decide,Tryz.func262.trans (congrArg some (by kernel_rfl))⟩
 f26:=⟨Tryz.f263.name,by decide,Tryz.func263.trans (congrArg some (by kernel_rfl))⟩
 f27:=⟨Tryz.f264.name,by decide,Tryz.func264.trans (congrArg some (by kernel_rfl))⟩
 f28:=Tryz.func209.trans (congrArg some (by kernel_rfl))
 f29:=Tryz.func210.trans (congrArg some (by kernel_rfl))
 f46:=⟨Tryz.f277.name,by decide,Tryz.func277.trans (congrArg some (by kernel_rfl))⟩
 f47:=Tryz.func242.trans (congrArg some (by kernel_rfl))
 f48:=Tryz.func243.trans (congrArg some (by kernel_rfl))
 f49:=⟨Tryz.f278.name,by decide,Tryz.func278.trans (congrArg some (by kernel_rfl))⟩
 f50:=⟨Tryz.f279.name,by decide,Tryz.func279.trans (congrArg some (by kernel_rfl))⟩
 f57:=⟨Tryz.f281.name,by decide,Tryz.func281.trans (congrArg some (by kernel_rfl))⟩
 t0:=Tryz.underlying0
 a0:=Tryz.isAgg0
 z0:=Tryz.sizeOf0
 v0:=Tryz.zeroValue0
 t3:=Tryz.underlying3
 a3:=Tryz.isAgg3
 z3:=Tryz.sizeOf3
 v3:=Tryz.zeroValue3
 t4:=Tryz.underlying4
 a4:=Tryz.isAgg4
 z4:=Tryz.sizeOf4
 v4:=Tryz.zeroValue4
 t5:=Tryz.underlying5
 a5:=Tryz.isAgg5
 z5:=Tryz.sizeOf5
 v5:=Tryz.zeroValue5
 t9:=Tryz.underlying9
 a9:=Tryz.isAgg9
 z9:=Tryz.sizeOf9
 v9:=Tryz.zeroValue9
 t22:=Tryz.underlying117
 a22:=Tryz.isAgg117
 z22:=Tryz.sizeOf117
 v22:=Tryz.zeroValue117
 t25:=Tryz.underlying237
 a25:=Tryz.isAgg237
 z25:=Tryz.sizeOf237
 v25:=Tryz.zeroValue237
 t39:=Tryz.underlying216
 a39:=Tryz.isAgg216
 z39:=Tryz.sizeOf216
 v39:=Tryz.zeroValue216
 t45:=Tryz.underlying246
 a45:=Tryz.isAgg246
 z45:=Tryz.sizeOf246
 v45:=Tryz.zeroValue246
 t46:=Tryz.underlying247
 a46:=Tryz.isAgg247
 z46:=Tryz.sizeOf247
 v46:=Tryz.zeroValue247
 t50:=Tryz.underlying181
 a50:=Tryz.isAgg181
 z50:=Tryz.sizeOf181
 v50:=Tryz.zeroValue181
 t53:=Tryz.underlying253
 a53:=Tryz.isAgg253
 z53:=Tryz.sizeOf253
 v53:=Tryz.zeroValue253
 t55:=Tryz.underlying255
 a55:=Tryz.isAgg255
 z55:=Tryz.sizeOf255
 v55:=Tryz.zeroValue255
 t66:=Tryz.underlying274
 a66:=Tryz.isAgg274
 z66:=Tryz.sizeOf274
 v66:=Tryz.zeroValue274
 t70:=Tryz.underlying278
 a70:=Tryz.isAgg278
 z70:=Tryz.sizeOf278
 v70:=Tryz.zeroValue278
 t76:=Tryz.underlying293
 a76:=Tryz.isAgg293
 z76:=Tryz.sizeOf293
 v76:=Tryz.zeroValue293
 t77:=Tryz.underlying60
 a77:=Tryz.isAgg60
 z77:=Tryz.sizeOf60
 v77:=Tryz.zeroValue60}
end Go.Proofs
namespace Go.Ab
open Go.Proofs.Tryz
open Go.Proofs Go.Sort Go.RowKit Go.Lib
variable {m:Nat}{σ:Mem}
theorem Frm.grown{w w':World}(h:Frm (fun _=>False) w w'):∃q os,w'=grow (w.drewN q) os:=by
 obtain⟨hh,ht,hd,ho,hp⟩:=w;obtain⟨hh',ht',hd',ho',hp'⟩:=w';obtain⟨h1,h2,h3,h4,h5,h6⟩:=h;simp only at h1 h2 h3 h4 h5 h6;refine⟨hd'-hd,hh'.extract hh.size hh'.size,?_⟩;subst h1 h2 h3;have e:hd+(hd'-hd)=hd':=by omega
 show World.mk hh' ht' hd' ho' hp'=World.mk (hh++hh'.extract hh.size hh'.size) ht' (hd+(hd'-hd)) ho' hp';rw[e];congr 1;apply Array.ext
 ·simp;omega
 ·intro i hi1 hi2;by_cases hi:i<hh.size
  ·have:=h6 i hi id;rw[q9n hi1,q9n hi]at this;rw[Array.getElem_append_left hi];exact x0m this
  ·rw[Array.getElem_append_right (by omega)];simp;congr 1;omega
def GI(a b:Step):Bool:=decide (No a b<0)
theorem SI(a b c:Int):orI [a,b,c]<0↔a<0\/a=0/\(b<0\/b=0/\c<0):=by
 by_cases h1:a=0<;>by_cases h2:b=0<;>by_cases h3:c=0<;>simp[orI,h1,h2,h3]
theorem JH(x y:Int):F5 x y<0↔x<y:=by
 unfold F5;split
 ·omega
 ·split<;>omega
theorem VB(x y:Int):F5 x y=0↔x=y:=by
 unfold F5;split
 ·omega
 ·split<;>omega
theorem R7(a b:Step):No a b<0↔QS a.src<QS b.src\/QS a.src=QS b.src/\(QS a.dst<QS b.dst\/QS a.dst=QS b.dst/\a.kind<b.kind):=by
 unfold No;rw[SI,JH,JH,JH,VB,VB]
def okSt(s:Step):Prop:=s.src≠9223372036854775807/\s.dst≠9223372036854775807
abbrev OSt:={s:Step // okSt s}
instance:Inhabited OSt:=⟨⟨⟨0,0,0⟩,by constructor<;>decide⟩⟩
def cfO(a b:OSt):Int:=No a.1 b.1
theorem US{x y:Int}(hx:x≠9223372036854775807)(hy:y≠9223372036854775807)(h:QS x=QS y):x=y:=by
 unfold QS at h;split at h<;>split at h<;>omega
theorem IC:SWO (ltOf cfO):=by
 refine⟨fun x=>?_,fun x y z h1 h2=>?_,fun x y z h1 h2=>?_⟩;all_goals
  unfold ltOf cfO at*
  simp only[q8e,q9s,R7]at*
  omega
theorem IA(x y:OSt)(h1:ltOf cfO x y=false)(h2:ltOf cfO y x=false):x=y:=by
 unfold ltOf cfO at*
 simp only[q9s,R7]at h1 h2;obtain⟨⟨a,b,c⟩,h3,h4⟩:=x;obtain⟨⟨d,e,f⟩,h5,h6⟩:=y;simp only at*
 have e1:=US (x:=a) (y:=d) h3 h5 (by omega);have e2:=US (x:=b) (y:=e) h4 h6 (by omega);have e3:c=f:=by omega
 subst e1 e2 e3;rfl
def F7(s:OSt):List Value:=[.int .i64 s.1.src,.int .i64 s.1.dst,.int .i64 s.1.kind]
theorem Wb(s:OSt):Rep σ (.agg s.1.cells) (.agg (F7 s).toArray):=by
 refine .agg _ _ (fun j=>(F7 s).toArray.getD j undef) rfl (fun j c hj=>?_) (fun j c hj=>?_)
 ·match j,hj with
  |0,_=>rfl
  |1,_=>rfl
  |2,_=>rfl
 ·match j,hj with
  |0,hj=>cases hj;exact .int _ _
  |1,hj=>cases hj;exact .int _ _
  |2,hj=>cases hj;exact .int _ _
theorem AW(W:World)(x y:OSt):Calls prog 193 (#[.agg (F7 x).toArray,.agg (F7 y).toArray] ++ #[]) W fun e w'=>e=.returned (.int .i64 (cfO x y))/\∃q os',w'=grow (W.drewN q) os':=by
 refine((N4 x.1 y.1).ok (fun _=>none) W #[.agg (F7 x).toArray,.agg (F7 y).toArray] rfl (fun j c hj=>?_) (fun b c h=>by cases h)).mono ?_
 ·match j,hj with
  |0,hj=>cases hj;exact Wb x
  |1,hj=>cases hj;exact Wb y
 ·rintro e w' ⟨c,u,σ',rfl,rfl,hr,_,_,hf,_⟩;cases hr;exact⟨rfl,hf.grown⟩
theorem CW{l:List OSt}{vs:Array Value}(h:∀(m:Nat)(x:AV),(l.map fun s=>AV.agg s.1.cells)[m]?=some x->x.cells.length=3/\∀(j:Nat)(c:AV),x.cells[j]?=some c->∃u:Value,vs[m*3+j]?=some u/\Rep σ c u){j:Nat}(hm:m<l.length)(hj:j<3):
  vs[m*3+j]?=(F7 l[m])[j]?:=by
 have h1:=(h m (.agg l[m].1.cells) (by simp[hm])).2
 match j,hj with
 | 0,_=>
   obtain⟨u,h2,h3⟩:=h1 0 (.int .i64 l[m].1.src) rfl;cases h3;exact h2
 | 1,_=>
   obtain⟨u,h2,h3⟩:=h1 1 (.int .i64 l[m].1.dst) rfl;cases h3;exact h2
 | 2,_=>
   obtain⟨u,h2,h3⟩:=h1 2 (.int .i64 l[m].1.kind) rfl;cases h3;exact h2
theorem CV{l:List OSt}{vs:Array Value}(h:∀(m:Nat)(hm:m<l.length)(j:Nat),j<3->vs[m*3+j]?=(F7 l[m])[j]?):∀(m:Nat)(x:AV),(l.map fun s=>AV.agg s.1.cells)[m]?=some x->x.cells.length=3/\∀(j:Nat)(c:AV),x.cells[j]?=some c->∃u:Value,vs[m*3+j]?=some u/\Rep σ c u:=by
 intro m x hx;rw[q7l]at hx;cases hq:l[m]?with
 |none=>rw[hq]at hx;cases hx
 | some s=>
   rw[hq]at hx;cases hx;obtain⟨hm,rfl⟩:=q7t.1 hq;refine⟨rfl,fun j c hj=>?_⟩
   match j,hj with
   |0,hj=>cases hj;exact⟨_,h m hm 0 (by omega),.int _ _⟩
   |1,hj=>cases hj;exact⟨_,h m hm 1 (by omega),.int _ _⟩
   |2,hj=>cases hj;exact⟨_,h m hm 2 (by omega),.int _ _⟩
theorem Dj{d:Array OSt}{t:Nat}(h:t<d.size*3):(flatK F7 3 d)[t]?=(F7 (d[t/3]'(by omega)))[t%3]?:=by
 have h1:=get_flatK F7 3 d t h;rw[x2k _ t (by simpa using h),x2k d (t/3) (by omega)]at h1;rw[q9n (by simpa using h),h1];have h3:t%3<(F7 (d[t/3]'(by omega))).length:=by simp[F7];omega
 rw[q7g h3,x2k (F7 (d[t/3]'(by omega))) (t%3) h3]
def YJ(l:List Step):List Step:=l.mergeSort fun x y=> !GI y x
theorem Qo{l:List Step}:(YJ l).length=l.length:=by unfold YJ;simp
theorem Ut(l:List Step):(YJ l).Perm l:=x1s _ _
theorem BX(l:List OSt)(hlen:l.length<=1000000000):
  SpecH prog 192 [.hd 1000 0 l.length,.p (.fn 193 [])] [(1000,.own 206 3 (l.map fun s=>.agg s.1.cells))]
   (fun r H=>r=.p (.tup [])/\H=[(1000,.own 206 3 ((l.mergeSort fun x y=> !(ltOf cfO) y x).map fun s=>.agg s.1.cells))]):=by
 refine⟨call192,fun σ β w vals hn hv hH=>?_⟩;obtain⟨v,u,rfl⟩:=q0x hn;have hv1:RepL σ β (.hd 1000 0 l.length) v:=by simpa using hv 0 _ rfl
 have hv2:RepL σ β (.p (.fn 193 [])) u:=by simpa using hv 1 _ rfl
 obtain rfl:u=.func (.func 193) #[] #[]:=by
  cases hv2 with
  | p h=>cases h with
    | fn _ _ vs u hn' hc hr=>
      obtain rfl:vs=#[]:=Array.size_eq_zero_iff.1 hn';rfl
 have hch:=hH.chunks 1000 _ q7d;rcases hch with⟨hb0,hes⟩|⟨i,vs,hi,hsz,hh,h2,h3,h4,h5⟩
 ·have hl0:l=[]:=x3z.1 hes;subst hl0;obtain⟨rfl,_⟩:=B0 hv1 hb0;have hc:=AnyF.slices_SortFunc_none Ym none 0 (.func (.func 193) #[] #[]) w;change Calls prog 192 _ _ _ at hc;refine hc.mono ?_;rintro e w' ⟨rfl,rfl⟩;exact⟨.p (.tup []),.tuple #[],σ,β,_,rfl,⟨rfl,rfl⟩,.p (.tup [] #[] (fun _=>undef) rfl (by simp) (by simp)),by simpa using hH,by simpa using Later.refl _ _ _ _⟩
 ·have hve:=Jh hv1 hi;subst hve;have hlt:=(hH.apart 1000 (by simp) i hi i.blk i.has_blk).2;have hcap:l.length<=i.cap:=by simpa using h3
  have hle:l.length*3<=vs.size:=by rw[h2];omega
  have hget:=fun m j hm hj=>CW (σ:=σ) (l:=l) h5 (m:=m) (j:=j) hm hj;have hc:=AnyQ.slices_SortFunc_total Ym 3 Tryz.isAgg206 Tryz.sizeOf206 F7 (fun _=>rfl) (fun x v hv=>by simp[F7]at hv;rcases hv with rfl|rfl|rfl<;>rfl) cfO IC 193 #[] i.blk 0 i.cap l.toArray w
   call193 (fun m os dk _ x y=>AW _ x y) (fun t ht=>by
    have ht':t<l.toArray.size*3:=by simpa using ht
    refine⟨?_,VV hh _⟩;have h6:=Dj ht';have h7:=hget (t/3) (t%3) (by simp at ht';omega) (by omega);rw[Nat.div_add_mod']at h7;rw[JG hh,x0j,h7,x2k _ t (by simpa using ht')];rw[q9n (by simpa using ht')]at h6;simpa using h6.symm) hlt (by simp;omega) IA
  simp only[x1z]at hc;change Calls prog 192 _ _ _ at hc;refine hc.mono ?_;rintro e w' ⟨rfl,n,os,rfl⟩;generalize hS:(l.mergeSort fun x y=> !(ltOf cfO) y x)=S;have hSl:S.length=l.length:=by rw[<-hS];simp
  obtain⟨hf,hb⟩:=DS (enc:=id) (n:=n) (os:=os) (d:=flatK F7 3 S.toArray) hh hlt;obtain⟨hH',hL⟩:=W6 (c':=.own 206 3 (S.map fun s=>.agg s.1.cells)) hH hi hf (.inr ⟨i,_,hi,hsz,hb,by rw[GF];exact h2,by simp[hSl];exact hcap,h4,CV fun m hm j hj=>by
   have h6:=JL (enc:=id) (d:=flatK F7 3 S.toArray) (vs:=vs) (by simp[hSl];omega) (k:=m*3+j) (by simp;omega);have h7:=Dj (d:=S.toArray) (t:=m*3+j) (by simp;omega);rw[q9n (by simp;omega)]at h7;rw[h6];simp only[id];rw[h7];simp[show(m*3+j)/3=m by omega,show(m*3+j)%3=j by omega]⟩)
  exact⟨.p (.tup []),.tuple #[],σ,β,_,rfl,⟨rfl,rfl⟩,.p (.tup [] #[] (fun _=>undef) rfl (by simp) (by simp)),hH',hL⟩
theorem Ub(l:List Step)(hok:∀s∈l,okSt s)(hlen:l.length<=1000000000):
  SpecH prog 192 [.hd 1000 0 l.length,.p (.fn 193 [])] [(1000,.own 206 3 (l.map fun s=>.agg s.cells))]
   (fun r H=>r=.p (.tup [])/\H=[(1000,.own 206 3 ((YJ l).map fun s=>.agg s.cells))]):=by
 have h:=BX (l.attachWith okSt hok) (by simpa using hlen);have e1:((l.attachWith okSt hok).map fun s=>AV.agg s.1.cells)=l.map fun s=>AV.agg s.cells:=by
  have:=q9e (List.map fun s:Step=>AV.agg s.cells) (x2u (l:=l) (p:=okSt) hok);simp
 have e2:(((l.attachWith okSt hok).mergeSort fun x y=> !(ltOf cfO) y x).map fun s=>AV.agg s.1.cells)=(YJ l).map fun s=>AV.agg s.cells:=by
  have h1:=List.map_mergeSort (l:=l.attachWith okSt hok) (f:=Subtype.val) (r:=fun x y=> !(ltOf cfO) y x) (s:=fun x y=> !GI y x) (fun a _ b _=>rfl);rw[x2u]at h1;unfold YJ;rw[<-h1,x1o];rfl
 rw[e1,e2]at h;simpa using h
section
variable {P:Program}{T:Tab}{N:Nat}
theorem Oz{β:Lab}{k:Nat}{H H':Heap}{d:Chunk}{w w':World}{i:BInfo}(h:HRel σ β H w)(hk:k∈H.map (·.1))(hi:β k=some i)(hf:Frm (fun b=>b=i.blk) w w')(h3:H'.map (·.1)=H.map (·.1))(h4:∀j c,(j,c)∈H'->j≠k->(j,c)∈H)(h5:∀c,(k,c)∈H'->c=d)(hnew:d.holds σ β w' k):HRel σ β H' w'/\Later σ β H w σ β H' w':=by
 have hap:=h.apart k hk i hi;refine⟨⟨fun b cs hb=>?_,fun j c hj=>?_,by rw[h3];exact h.nodup,fun j hj i' hi' b hb=>?_,fun j hj j' hj'=>h.inj j (h3▸hj) j' (h3▸hj')⟩,Mem.le_refl σ,⟨hf.os,hf.tape,hf.output,hf.drawn,hf.size,fun b hb hn=>hf.block b hb fun he=>hn ⟨k,hk,i,hi,.inl he.symm⟩⟩,
  fun b h0 h1=>absurd h0 h1,fun b ⟨j,hj,r⟩=>.inl ⟨j,h3▸hj,r⟩,fun _ _ _=>rfl⟩
 ·obtain⟨e,fr,hh⟩:=h.mem b cs hb;exact⟨e,fr,(hf.block b (q8h.1 hh).1 fun he=>by rw[he,(hap _ i.has_blk).1]at hb;cases hb).trans hh⟩
 ·by_cases hjk:j=k
  ·subst hjk;rw[h5 c hj];exact hnew
  ·have hm:=h4 j c hj hjk;have hjm:j∈H.map (·.1):=q7s.2 ⟨_,hm,rfl⟩;exact(h.chunks j c hm).mono (Mem.le_refl σ) fun i' hi' b hb=>hf.block b (h.apart j hjm i' hi' b hb).2 fun he=>hjk (h.inj j hjm k hk i' i hi' hi b hb (.inl he.symm))
 ·have:=h.apart j (h3▸hj) i' hi' b hb;exact⟨this.1,x1y this.2 hf.size⟩
theorem OpK.clear(hT:TabOK P T){s:St}{o:Oper}{K:St->Prop}{t:TypeId}{x:Operand}(hop:o.op=.call {callee:=.builtin .clear,args:=#[x],argTypes:=#[t]}){k off len:Nat}(hx:QL s.sl x=.hd k off len){e sz:Nat}{es:List AV}(hg:getH s.H k=some (.own e sz es)){i ie:TyI}(ht:T.get t=some i)(hd:i.desc=.slice e)(hte:T.get e=some ie)(hz:ie.zero.cells.size=sz)(hone:ie.zero.cells.all (·.oneCell')=true)(hpos:0<sz)(h:Yf s.H k (.own e sz (es.take off)) fun H=>setD N s.sl o.dst (.p (.tup [])) fun sl=>K ⟨sl,H⟩):OpK P N s o K:=by
 refine⟨fun σ β a w hr Q=>?_⟩;have hx':=QZ hr.slots x;rw[hx]at hx';generalize hxe:a.eval x=v at hx';obtain⟨H',hK,h3,h4,h5⟩:=YB hr.heap.nodup h;have hlab:=QN hg;have hu:=hT.of ht;rw[hd]at hu;have hue:=hT _ _ hte;have htup:RepL σ β (.p (.tup [])) (.tuple #[]):=.p (.tup [] #[] (fun _=>undef) rfl (by simp) (by simp));have hbc:∀{w'} ,(Builtin.clear_ #[t] o.type #[v]).run P w=.ok (.tuple #[]) w'->(execOp a.eval o).run P w=.ok (.value (.tuple #[])) w':=fun {w'} hc=>by
  simp[execOp,hop,resolve,invoke,builtin,hxe,hc]
 have hch:=hr.heap.chunks k _ (QF hg);have none':len=0->(Builtin.clear_ #[t] o.type #[v]).run P w=.ok (.tuple #[]) w->(o.wp P a w (fun a' w'=>∃σ' β' s',K s'/\Rel N σ' β' s' a' w'/\Later σ β s.H w σ' β' s'.H w') Q):=fun _ hrun=>by
  have hheap:HRel σ β H' w/\Later σ β s.H w σ β H' w:=by
   refine⟨⟨hr.heap.mem,fun j c hj=>?_,by rw[h3];exact hr.heap.nodup,fun j hj=>hr.heap.apart j (h3▸hj),fun j hj j' hj'=>hr.heap.inj j (h3▸hj) j' (h3▸hj')⟩,Mem.le_refl σ,Frm.refl _ w,fun b h0 h1=>absurd h0 h1,fun b ⟨j,hj,r⟩=>.inl ⟨j,h3▸hj,r⟩,fun _ _ _=>rfl⟩;by_cases hjk:j=k
   ·subst hjk;rw[h5 c hj];rcases hch with⟨h6,h7⟩|⟨bi,vs,h6,h7,h8,h9,h10,h11,h12⟩
    ·exact .inl ⟨h6,by rw[h7];simp⟩
    ·exact .inr ⟨bi,vs,h6,h7,h8,h9,by simp;omega,h11,fun m x hx=>h12 m x (by rw[q9z]at hx;split at hx;exact hx;cases hx)⟩
   ·exact hr.heap.chunks j c (h4 j c hj hjk)
  have hr1:Rel N σ β ⟨s.sl,H'⟩ a w:=⟨hr.size,hr.defers,hr.slots,hheap.1⟩;obtain⟨sl,hK,hr2⟩:=hr1.setD htup hK;exact XE (hbc hrun) ⟨σ,β,_,hK,hr2,hheap.2⟩
 rcases hx'.hdI with⟨hk0,hoff,hlen,hv⟩|⟨bi,oo,hk,hfit,hoo,hv⟩
 ·subst hv;refine none' hlen ?_;simp[Builtin.clear_,run_underlying hu]
 by_cases hl0:len=0
 ·subst hl0 hv;refine none' rfl ?_;simp[Builtin.clear_,run_underlying hu]
 rcases hch with⟨h6,_⟩|⟨bi',vs,h6,h7,h8,h9,h10,h11,h12⟩
 ·rw[hk]at h6;cases h6
 rw[hk]at h6;cases h6;have hoo:oo=off*sz:=by
  rcases hoo with hoo|⟨h13,_⟩
  ·rw[hoo,h7]
  ·omega
 obtain⟨zs,hzs⟩ : ∃zs,zs=(Builtin.zeroCells ie.zero.cells len).toList:=⟨_,rfl⟩;have hzl:zs.length=len*sz:=by rw[hzs];simp[Builtin.zeroCells,hz]
 have hz1:∀v∈zs,v.oneCell'=true:=fun v hv=>by
  rw[hzs]at hv;simp only[Builtin.zeroCells,Array.toList_map,q7s]at hv;obtain⟨q,hq,rfl⟩:=hv;have hlt:q%ie.zero.cells.size<ie.zero.cells.size:=Nat.mod_lt _ (by omega);rw[x2k ie.zero.cells (q%ie.zero.cells.size) hlt];exact Array.all_eq_true.1 hone _ hlt
 have hend:off*sz+len*sz<=vs.size:=by
  rw[h9,<-q9o];exact q9y _ hfit
 have hst:=run_storeCells_cells (P:=P) bi.blk oo zs 0 w (fun j hj=>by
   have:oo+0+j<vs.size:=by omega
   simp only[World.cell?,h8];rw[q9n this];rfl) (fun j hj=>by simp[World.frozen?,h8]) hz1
 have hrun:(Builtin.clear_ #[t] o.type #[v]).run P w=.ok (.tuple #[]) (w.setCells bi.blk oo zs):=by
  subst hv;have hzv:(zeroValue e).run P w=.ok ie.zero w:=by
   have:=hue.info;cases hq:P.info? e with
   |none=>rw[hq]at this;cases this
   | some f=>
     rw[hq]at this;simp at this;simp[zeroValue,typeInfo,hq,this]
  obtain⟨len',rfl⟩ : ∃l',len=l'+1:=⟨len-1,by omega⟩;simp only[x2l]at hst;simp[Builtin.clear_,Sem.run_bind,run_underlying hu,hzv,<-hzs,hst]
 obtain⟨s1,s2⟩:=ZE zs oo h8;have hnew:(Chunk.own e sz (es.take off)).holds σ β (w.setCells bi.blk oo zs) k:=by
  refine .inr ⟨bi,_,hk,h7,s1,by rw[VA];exact h9,by simp;omega,h11,fun m x hx=>?_⟩;rw[q9z]at hx;split at hx
  ·rename_i hm;obtain⟨h13,h14⟩:=h12 m x hx;refine⟨h13,fun j c hj=>?_⟩;obtain⟨u,h15,h16⟩:=h14 j c hj;have hjl:j<sz:=by rw[<-h13];exact(q7t.1 hj).1
   have hlt:m*sz+j<off*sz:=by
    have:(m+1)*sz<=off*sz:=q9y _ hm;rw[q9o]at this;omega
   exact⟨u,by rw[GB _ _ _ _ (by omega),if_neg (by omega)];exact h15,h16⟩
  ·cases hx
 obtain⟨hh,hl⟩:=Oz hr.heap hlab hk s2 h3 h4 h5 hnew;have hr1:Rel N σ β ⟨s.sl,H'⟩ a (w.setCells bi.blk oo zs):=⟨hr.size,hr.defers,hr.slots,hh⟩;obtain⟨sl,hK,hr2⟩:=hr1.setD htup hK;exact XE (hbc hrun) ⟨σ,β,_,hK,hr2,hl⟩
end
def XY(p:Step):List Step->List Step
 |[]=>[]
 |b::r=>bif ZY b p then XY b r else b::XY b r
def PX:List Step->List Step
 |[]=>[]
 |a::r=>a::XY a r
theorem N0{l:List Step}(h:l.length<2):PX l=l:=by
 match l,h with
 |[],_=>rfl
 |[a],_=>rfl
def avS(l:List Step):List AV:=l.map fun s=>.agg s.cells
theorem LW(l:List Step)(hlen:l.length<=1000000000):
  SpecH prog 194 [.hd 1000 0 l.length,.p (.fn 195 [])] [(1000,.own 206 3 (avS l))]
   (fun r H=>r=.hd 1000 0 (PX l).length/\H=[(1000,.own 206 3 (avS (PX l)))]):=by
 refine sH ZS func194 rfl call194 ?_;conv=>whnf
 repeat' (first|(refine iM fun _=>?_;conv=>whnf)|(apply bD<;>intro _<;>first|omega|conv=>whnf))
 ·have e:PX l=l:=N0 (by omega);rw[e];exact⟨_,q8k _,rfl,rfl⟩
 refine LoopK.inv QK (fun k:Nat=>⟨[(0,.hd 1000 0 l.length),(1,.p (.fn 195 [])),(5,.p (.int .i64 k))],[(1000,.own 206 3 (avS l))]⟩)
  (fun k=>1<=k/\k<=l.length/\∃a,l[k-1]?=some a/\l.take k++XY a (l.drop k)=PX l) (fun k=>l.length-k) 1 (Le.of_eq rfl) ⟨q8z _,by omega,?_⟩ ?_
 ·cases l with
  |nil=>simp at*
  |cons a r=>exact⟨a,rfl,rfl⟩
 rintro k ⟨h1,h2,a,ha,h3⟩;rcases q7e k l.length with hk|hk;rotate_left 1
 ·rw[q8v hk,q8y hk]at h3;conv=>whnf
  repeat' (first|(refine iM fun _=>?_;conv=>whnf)|(apply bD<;>intro _<;>first|omega|conv=>whnf))
  rw[<-h3,XY,q9h];exact⟨_,q8k _,rfl,rfl⟩
 rw[q8o hk,XY]at h3;have hk1:k-1<l.length:=by omega
 obtain⟨_,ha'⟩:=q7t.1 ha;have gk:(avS l)[k]?=some (.agg l[k].cells):=by simp[avS,hk]
 have gk1:(avS l)[k-1]?=some (.agg a.cells):=by simp[avS,ha]
 conv=>whnf
 repeat' (first|((first|(refine iM fun _=>?_)|refine cP (V7 _ _) ?_|refine dA ?_|refine q7p rfl ?_|refine wI ?_|refine q9x k (by omega) (by omega) ?_|refine q9x (k-1) (by omega) (by omega) ?_|refine q9t k 0 (.agg l[k].cells) (by omega) gk ?_|refine q9t (k-1) 0 (.agg a.cells) (by omega) gk1 ?_|refine SlK.mk k l.length rfl rfl (by omega) (by omega) ?_);conv=>whnf)|(apply bD<;>intro _<;>first|omega|conv=>whnf)|(apply bB<;>intro _<;>conv=>whnf))
 rotate_left 1
 ·have hsm:ZY l[k] a=false:=by assumption
  rw[hsm,q8b]at h3;exact⟨k+1,⟨by omega,by omega,l[k],by simp[hk],by rw[<-h3,q8q hk,q8d];rfl⟩,by omega,Le.of_eq rfl⟩
 have hsm:ZY l[k] a=true:=by assumption
 rw[hsm,q8g]at h3;clear ha ha' gk gk1 hk1 hsm;refine LoopK.inv QK (fun x:Nat×Nat×List Step=>⟨[(0,.hd 1000 0 l.length),(1,.p (.fn 195 [])),(5,.p (.int .i64 x.2.1)),(6,.hd 1000 (0+k) (l.length-k)),(7,.p (.int .i64 x.1))],[(1000,.own 206 3 (avS x.2.2))]⟩)
  (fun x=>1<=x.1/\x.1<=l.length-k/\x.2.1<=k+x.1-1/\x.2.2.length=l.length/\x.2.2.drop (k+x.1-1)=l.drop (k+x.1-1)/\∃a,l[k+x.1-1]?=some a/\x.2.2.take x.2.1++XY a (l.drop (k+x.1))=PX l) (fun x=>l.length-k-x.1) (1,k,l) (Le.of_eq rfl) ⟨q8z _,by simp only;omega,by simp only;omega,rfl,rfl,l[k],by simp[hk],h3⟩ ?_
 rintro⟨q,i,es⟩ ⟨h4,h5,h6,h7,h8,a,ha,h9⟩;clear h3;simp only at h4 h5 h6 h7 h8 ha h9⊢;have hes:(avS es).length=l.length:=by simp[avS,h7]
 rcases q7e q (l.length-k)with hq|hq
 ·have hkq:k+q<l.length:=by omega
  have e1:es[k+q]?=l[k+q]?:=by
   have:=q9e (fun x=>x[1]?) h8;simp only[q9f]at this
   rwa[show k+q-1+1=k+q by omega]at this
  have e2:es[k+q-1]?=some a:=by
   have:=q9e (fun x=>x[0]?) h8;simp only[q9f,x2l]at this;rw[this,ha]
  rw[q7g hkq]at e1;have gk:(avS es)[k+q]?=some (.agg l[k+q].cells):=by simp[avS,e1]
  have gk1:(avS es)[k+q-1]?=some (.agg a.cells):=by simp[avS,e2]
  have hi:i<es.length:=by omega
  have gi:(avS es)[i]?=some (.agg es[i].cells):=by simp[avS,hi]
  rw[q8o hkq,XY]at h9;conv=>whnf
  repeat' (first|((first|(refine iM fun _=>?_)|refine cP (V7 _ _) ?_|refine dA ?_|refine q7p rfl ?_|refine wI ?_|refine q9x q (by omega) (by omega) ?_|refine q9x (q-1) (by omega) (by omega) ?_|refine q9x i (by omega) (by omega) ?_|refine q9t (k+q) 0 (.agg l[k+q].cells) (by omega) gk ?_|refine q9t (k+q-1) 0 (.agg a.cells) (by omega) gk1 ?_|refine x0r i 0 (.agg es[i].cells) (.agg l[k+q].cells) (by omega) gi (show 3<=3 from q8z 3) rfl ?_);conv=>whnf)|(apply bD<;>intro _<;>first|omega|conv=>whnf)|(apply bN<;>intro _<;>conv=>whnf))
  ·have hsm:ZY l[k+q] a=true:=by assumption
   rw[hsm,q8g]at h9;exact⟨(q+1,i,es),⟨by simp only;omega,by simp only;omega,by simp only;omega,h7,by
    have:=q9e (List.drop 1) h8;simp only[List.drop_drop]at this;simpa only[show k+(q+1)-1=k+q-1+1 by omega]using this,l[k+q],by simp[hkq],h9⟩,by simp only;omega,Le.of_eq rfl⟩
  ·have hsm:ZY l[k+q] a=false:=by assumption
   rw[hsm,q8b]at h9;have h10:(es.set i l[k+q]).drop (k+q)=l.drop (k+q):=by
    rw[List.drop_set_of_lt (by omega)];have:=q9e (List.drop 1) h8;simp only[List.drop_drop]at this
    rwa[show k+q-1+1=k+q by omega]at this
   exact⟨(q+1,i+1,es.set i l[k+q]),⟨by simp only;omega,by simp only;omega,by simp only;omega,by simp only[x0d];exact h7,h10,l[k+q],by simp[hkq],by
    simp only;rw[<-h9,q8q (by simp;omega),List.take_set_of_le (by omega),List.getElem_set_self,q8d];rfl⟩,by simp only;omega,Le.of_eq (by simp only[avS,q9k];rfl)⟩
 ·have hqe:k+q=l.length:=by omega
  rw[hqe,List.drop_length,XY,q9h]at h9;conv=>whnf
  repeat' (first|((first|(refine iM fun _=>?_)|refine q7p rfl ?_|refine SlK.mk i l.length rfl rfl (by omega) (by omega) ?_);conv=>whnf)|(apply bD<;>intro _<;>first|omega|conv=>whnf))
  refine OpK.clear QK rfl rfl rfl rfl rfl rfl rfl (by kernel_rfl) (by decide) ?_;conv=>whnf
  repeat' ((first|refine q7p rfl ?_|refine SlK.mk 0 i rfl rfl (by omega) (by omega) ?_);conv=>whnf)
  have hl:i=(PX l).length:=by rw[<-h9];simp;omega
  exact⟨_,x2b (by rw[<-hl];rfl),rfl,by rw[x0j,<-h9];simp[avS,List.map_take]⟩
def WM(l:List Step):List Step:=PX (YJ l)
theorem Dh(l:List Step)(hok:∀s∈l,okSt s)(hlen:l.length<=1000000000):
  SpecH prog 154 [.hd 1000 0 l.length] [(1000,.own 206 3 (avS l))] (fun r H=>r=.hd 1000 0 (WM l).length/\H=[(1000,.own 206 3 (avS (WM l)))]):=by
 refine sH Pd func154 rfl call154 ?_;conv=>whnf
 repeat' (first|(refine CallK.heap [(1000,1000)] 0 (by repeat' (first|exact q8c|refine q8w ?_ ?_|exact q8k _|exact q8m Sub.nils|exact q8m (Sub.tt rfl)|exact q8m (Sub.ff rfl)|exact q8m (Sub.int (by omega)))) (by refine q8x (j:=1000) rfl rfl ?_ ?_;exact CSub.refl _;exact q8a) (Ub l hok hlen) rfl rfl ?_;rintro l' H' ⟨rfl,rfl⟩;conv=>whnf)|(refine CallK.heap [(1000,1000)] 0 (q8w (x2b (by rw[Qo];rfl)) (q8w (q8k _) q8c)) (by refine q8x (j:=1000) rfl rfl ?_ ?_;exact CSub.refl _;exact q8a) (LW (YJ l) (by rw[Qo];exact hlen)) rfl rfl ?_;rintro l' H' ⟨rfl,rfl⟩;conv=>whnf))
 exact⟨_,q8k _,rfl,rfl⟩
def goesI(sh:Sheet)(f:Pr)(it:Item):List Int:=
 if it.s.kind=5 then [B1 it.s.thn it.next,B1 it.s.els it.next]
 else if it.s.kind=6 then [B1 it.s.thn it.s.id,it.next]
 else if it.s.kind=7 then [((sh.l[(it.loop-1).toNat]?).map Item.next).getD 0]
 else if it.s.kind=8 then [it.loop]
 else if it.s.kind=9 then [-1]
 else if it.s.kind=10 then [(atB f it.s.name).1]
 else [it.next]
theorem Jz(l:List S)(o:Int):SpecP prog 223 [eSs l,.int .i64 o] (fun r=>r=.int .i64 (B1 l o)):=by
 unfold eSs;rw[S.avs_eq];exact Sq l o
theorem V6(p:Pg)(j:Nat)(f:Pr)(hj:p.procs[j]?=some f)(hc:cntP p.procs<=1000)(it:Item)(hp:it.proc=j)(hl:it.s.kind=7->1<=it.loop/\it.loop<=(sheetOf p).l.length):SpecP prog 183 [.ip (sheetOf p).cells,.agg it.cells] (fun r=>r=QA (goesI (sheetOf p) f it)):=by
 refine sB LR func183 rfl call183 ?_;conv=>whnf
 have hlen:=(QV p).2.2.2.1;have hx:it.s.kind=7->∃u,(sheetOf p).l[(it.loop-1).toNat]?=some u/\((sheetOf p).l.map fun i=>AV.agg i.cells)[(it.loop-1).toNat]?=some (.agg u.cells):=fun h=>by
  have:=hl h;have hlt:(it.loop-1).toNat<(sheetOf p).l.length:=by omega
  exact⟨_,q7g hlt,by rw[q7l,q7g hlt];rfl⟩
 repeat' (first|((first|refine dA ?_|refine q7p rfl ?_|refine aD ?_|refine bP ?_|refine wI ?_|(refine CallK.pure (MX p j f hj hc it.s.name) (.cons (Sub.refl _) (.cons (Sub.int hp) (.cons (Sub.refl _) .nil))) ?_;rintro _ rfl)|refine BsK.pureL rfl rfl ?_|refine cP (Jz it.s.thn _) ?_|refine cP (Jz it.s.els _) ?_|(obtain⟨u,hu1,hu2⟩:=hx (by assumption);refine IdxK.at (by have:=hl (by assumption);omega) hu2 rfl ?_));conv=>whnf)|(apply bD<;>intro _<;>first|omega|conv=>whnf))
 all_goals first
  |exact RetK.p (by unfold goesI;rw[if_neg (by assumption),if_neg (by assumption),if_pos (by assumption),hu1];rfl)
  |exact RetK.p (by unfold goesI;rw[if_pos (by assumption)];rfl)
  |exact RetK.p (by unfold goesI;rw[if_neg (by assumption),if_pos (by assumption)];rfl)
  |exact RetK.p (by unfold goesI;rw[if_neg (by assumption),if_neg (by assumption),if_neg (by assumption),if_pos (by assumption)];rfl)
  |exact RetK.p (by unfold goesI;rw[if_neg (by assumption),if_neg (by assumption),if_neg (by assumption),if_neg (by assumption),if_pos (by assumption)];rfl)
  |exact RetK.p (by unfold goesI;rw[if_neg (by assumption),if_neg (by assumption),if_neg (by assumption),if_neg (by assumption),if_neg (by assumption),if_pos (by assumption)];rfl)
  |exact RetK.p (by unfold goesI;rw[if_neg (by assumption),if_neg (by assumption),if_neg (by assumption),if_neg (by assumption),if_neg (by assumption),if_neg (by assumption)];rfl)
def QP(p:Pg)(j:Nat)(f:Pr):List Step:=
 ⟨0,if QM p.procs j<QM p.procs j+QU f.body then((QM p.procs j:Nat)+1:Int)else -1,1⟩::(itL j 0 (-1) 0 (QM p.procs j) f.body).flatMap fun it=>(goesI (sheetOf p) f it).map (Step.mk it.s.id · 1)
def itsOf(p:Pg)(j:Nat)(f:Pr):List Item:=itL j 0 (-1) 0 (QM p.procs j) f.body
theorem Zw(p:Pg)(j:Nat)(f:Pr)(hj:p.procs[j]?=some f)(hc:cntP p.procs<=1000)(hl:∀it∈itsOf p j f,it.s.kind=7->1<=it.loop/\it.loop<=(sheetOf p).l.length)(hok:∀s∈QP p j f,okSt s):SpecP prog 139 [.ip (sheetOf p).cells,.int .i64 j] (fun r=>r=eSteps (WM (QP p j f))):=by
 refine sB NX func139 rfl call139 ?_;conv=>whnf
 obtain⟨_,_,_,hlen,hsp⟩:=QV p;obtain⟨hlo,hhi,hle,_⟩:=hsp j f hj;repeat' ((first|(refine iM fun _=>?_)|refine q7p rfl ?_|refine aD ?_|refine cP (Zz (sheetOf p) j _ _ hlo hhi) ?_|refine cP (Rc p hj hc) ?_|refine x3e (fun x hx=>by rcases q7m.1 hx with rfl;rfl) rfl ?_);conv=>whnf)
 have hraw:QP p j f=⟨0,if QM p.procs j<QM p.procs j+QU f.body then((QM p.procs j:Nat)+1:Int)else -1,1⟩::(itsOf p j f).flatMap fun it=>(goesI (sheetOf p) f it).map (Step.mk it.s.id · 1):=rfl;have hits:itL j 0 (-1) 0 (QM p.procs j) f.body=itsOf p j f:=rfl;have hpr:∀it∈itsOf p j f,it.proc=j:=fun it h=>DK _ _ _ _ _ _ it h;have hib:(itsOf p j f).length<=1000:=by rw[<-hits,ZF];omega
 rw[hits];generalize itsOf p j f=its at hl hraw hpr hib⊢;have hil:=VX its;refine LoopK.inv QK (fun i:Nat×List Step=>⟨[(0,.p (.ip (sheetOf p).cells)),(5,.hd 0 0 i.2.length),(17,.p (VL its)),(18,.p (.int .i64 (its.map fun i=>AV.agg i.cells).length)),(19,.p (.int .i64 i.1))],[(0,.own 206 3 (avS i.2))]⟩)
  (fun i=>i.1<=its.length/\i.2.length<=1+2*i.1/\i.2++(its.drop i.1).flatMap (fun it=>(goesI (sheetOf p) f it).map (Step.mk it.s.id · 1))=QP p j f) (fun i=>its.length-i.1) (0,[⟨0,if QM p.procs j<QM p.procs j+QU f.body then((QM p.procs j:Nat)+1:Int)else -1,1⟩]) (Le.of_eq rfl) ⟨q7c _,by simp,by rw[hraw];rfl⟩ ?_
 rintro⟨m,acc⟩ ⟨h2,h3,h4⟩;simp only at h2 h3 h4⊢;rcases q7e m its.length with hm|hm;rotate_left 1
 ·have hacc:acc=QP p j f:=by
   rw[q8v hm]at h4;simpa using h4
  rw[<-hacc]at hok⊢;conv=>whnf
  repeat' (first|(apply bD<;>intro _<;>first|omega|conv=>whnf)|(refine CallK.heap [(1000,0)] 0 (by repeat' (first|exact q8c|refine q8w ?_ ?_|exact q8k _|exact q8m Sub.nils|exact q8m (Sub.tt rfl)|exact q8m (Sub.ff rfl)|exact q8m (Sub.int (by omega)))) (by refine q8x (j:=0) rfl rfl ?_ ?_;exact CSub.refl _;exact q8a) (Dh acc hok (by omega)) rfl rfl ?_;rintro l' H' ⟨rfl,rfl⟩;conv=>whnf))
  exact⟨_,.hd rfl (by simp[avS]),rfl⟩
 have hgl:(goesI (sheetOf p) f its[m]).length<=2:=by unfold goesI;split<;>(try split)<;>(try split)<;>(try split)<;>(try split)<;>(try split)<;>simp
 rw[JF hm]at h4;have him:=q7i hm;conv=>whnf
 repeat' (first|((first|(refine iM fun _=>?_)|refine q7p rfl ?_|(refine iA fun _=>?_)|refine cP (V6 p j f hj hc its[m] (hpr _ him) (hl _ him)) ?_);conv=>whnf)|(apply bD<;>intro _<;>first|omega|conv=>whnf))
 generalize hgs:goesI (sheetOf p) f its[m]=gs at hgl h4⊢;have hgsl:(gs.map (AV.int .i64)).length=gs.length:=q7f _;refine LoopK.inv QK (fun i:Nat×List Step=>⟨[(0,.p (.ip (sheetOf p).cells)),(5,.hd 0 0 i.2.length),(7,.p (.ip its[m].cells)),(17,.p (VL its)),(18,.p (.int .i64 (its.map fun i=>AV.agg i.cells).length)),(19,.p (.int .i64 m)),(25,.p (QA gs)),(26,.p (.int .i64 (gs.map (AV.int .i64)).length)),(27,.p (.int .i64 i.1))],[(0,.own 206 3 (avS i.2))]⟩)
  (fun i=>i.1<=gs.length/\i.2.length<=acc.length+i.1/\i.2++((gs.drop i.1).map (Step.mk its[m].s.id · 1)++(its.drop (m+1)).flatMap (fun it=>(goesI (sheetOf p) f it).map (Step.mk it.s.id · 1)))=QP p j f) (fun i=>gs.length-i.1) (0,acc) (Le.of_eq rfl) ⟨q7c _,by simp,h4⟩ ?_
 rintro⟨q,acc2⟩ ⟨h5,h6,h7⟩;simp only at h5 h6 h7⊢;rcases q7e q gs.length with hq|hq;rotate_left 1
 ·rw[q8v hq]at h7;conv=>whnf
  repeat' (first|(refine wI ?_;conv=>whnf)|(apply bD<;>intro _<;>first|omega|conv=>whnf))
  exact⟨(m+1,acc2),⟨by simp only;omega,by simp only;omega,by simpa using h7⟩,by simp only;omega,Le.of_eq rfl⟩
 rw[q8o hq,q8f]at h7;conv=>whnf
 repeat' (first|((first|refine q7p rfl ?_|refine aD ?_|refine bP ?_|(refine iA fun _=>?_)|refine wI ?_|refine x1m (by simp[avS]) rfl (by show(acc2.length+1)*24<=140737488355328;omega) (by show acc2.length+1<=9223372036854775807;omega) (fun x hx=>by rcases q7m.1 hx with rfl;exact⟨rfl,rfl⟩) ?_);conv=>whnf)|(apply bD<;>intro _<;>first|omega|conv=>whnf))
 exact⟨(q+1,acc2++[⟨its[m].s.id,gs[q],1⟩]),⟨by simp only;omega,by simp;omega,by simpa using h7⟩,by simp only;omega,Le.of_eq (by simp only[avS,q7b,q7o];rfl)⟩
def bv:Bool->AV
 |true=>.tt
 |false=>.ff
structure Way where
 p:Pg
 j:Nat
 n:Int
 real:List Step
 live:List Bool
def Way.cells(w:Way):List AV:=[.ip (sheetOf w.p).cells,.int .i64 w.j,.int .i64 w.n,eSteps w.real,.sl (w.live.map bv)]
def I6(p:Pg)(j:Nat)(n:Int)(real:AV)(lv:List AV):Heap:=[(1000,.obj 120 [.p (.ip (sheetOf p).cells),.p (.int .i64 j),.p (.int .i64 n),.p real,.hd 2000 0 lv.length]),(2000,.own 4 1 lv)]
def UZ(lo hi n x:Int):Int:=if x=0 then 0 else if x = -1 then n-1 else if lo<=x/\x<hi then x-lo+1 else -1
def loI(p:Pg)(j:Nat):Int:=(QM p.procs j:Nat)+1
def hiI(p:Pg)(j:Nat)(f:Pr):Int:=(QM p.procs j+QU f.body:Nat)+1
theorem LB(w:Way)(f:Pr)(hj:w.p.procs[w.j]?=some f)(hc:cntP w.p.procs<=1000)(hn:0<=w.n/\w.n<=5000)(x:Int):SpecP prog 153 [.ip w.cells,.int .i64 x] (fun r=>r=.int .i64 (UZ (loI w.p w.j) (hiI w.p w.j f) w.n x)):=by
 refine sB HF func153 rfl call153 ?_;conv=>whnf
 obtain⟨_,_,_,hlen,hsp⟩:=QV w.p;obtain⟨hlo,hhi,hle,_⟩:=hsp w.j f hj;repeat' (first|((first|refine dA ?_|refine wI ?_|(refine IdxK.at rfl (VM hlo) rfl ?_)|(refine IdxK.at rfl (VM hhi) rfl ?_));conv=>whnf)|(apply bD<;>intro _<;>first|omega|conv=>whnf))
 all_goals exact RetK.int (by unfold UZ loI hiI;(repeat' split)<;>omega)
theorem Hc(p:Pg)(j:Nat)(f:Pr)(n:Int)(real:AV)(lv:List AV)(hj:p.procs[j]?=some f)(hc:cntP p.procs<=1000)(hn:0<=n/\n<=5000)(x:Int):
  SpecH prog 153 [.ptr 1000 0,.p (.int .i64 x)] (I6 p j n real lv) (fun r H=>r=.p (.int .i64 (UZ (loI p j) (hiI p j f) n x))/\H=I6 p j n real lv):=by
 obtain⟨_,_,_,hlen,hsp⟩:=QV p;obtain⟨hlo,hhi,hle,_⟩:=hsp j f hj;refine sH HF func153 rfl call153 ?_;conv=>whnf
 repeat' (first|((first|refine dA ?_|refine wI ?_|(refine IdxK.at rfl (VM hlo) rfl ?_)|(refine IdxK.at rfl (VM hhi) rfl ?_));conv=>whnf)|(apply bD<;>intro _<;>first|omega|conv=>whnf))
 all_goals exact⟨_,q8m (Sub.int (by unfold UZ loI hiI;(repeat' split)<;>omega)),rfl,rfl⟩
def avP(l:List (Int×Int)):List AV:=l.map fun x=>.agg [.int .i64 x.1,.int .i64 x.2]
def ixP(p:Pg)(j:Nat)(f:Pr)(n:Int)(s:Step):Int×Int:=(UZ (loI p j) (hiI p j f) n s.src,UZ (loI p j) (hiI p j f) n s.dst)
theorem YG(w:Way)(f:Pr)(hj:w.p.procs[w.j]?=some f)(hc:cntP w.p.procs<=1000)(hn:0<=w.n/\w.n<=5000)(l:List Step)(hlen:l.length<=1000000):SpecP prog 94 [.ip w.cells,eSteps l] (fun r=>r=.sl (avP (l.map (ixP w.p w.j f w.n)))):=by
 refine sB HD func94 rfl call94 ?_;conv=>whnf
 repeat' (refine iM fun _=>?_;conv=>whnf)
 have hl:(l.map fun s=>AV.agg s.cells).length=l.length:=q7f _;refine LoopK.inv QK (fun i:Nat×List (Int×Int)=>⟨[(0,.p (.ip w.cells)),(5,.hd 0 0 i.2.length),(8,.p (eSteps l)),(9,.p (.int .i64 (l.map fun s=>AV.agg s.cells).length)),(10,.p (.int .i64 i.1))],[(0,.own 207 2 (avP i.2))]⟩)
  (fun i=>i.1<=l.length/\i.2=(l.take i.1).map (ixP w.p w.j f w.n)) (fun i=>l.length-i.1) (0,[])
  (Le.mk [(0,.own 207 2 [])] (by simp[Chunk.new0];rfl) (by simp) (by simp) (.r (.cons (.nil q7d) (.r (.r (.r .nil))))) (.new q7d .nil))
  ⟨q7c _,rfl⟩ ?_
 rintro⟨m,acc⟩ ⟨h2,h3⟩;simp only at h2 h3⊢;rcases q7e m l.length with hm|hm;rotate_left 1
 ·rw[q8y hm]at h3;subst h3;conv=>whnf
  repeat' (apply bD<;>intro _<;>first|omega|conv=>whnf)
  exact⟨_,.hd rfl (by simp[avP]),rfl⟩
 have hacl:acc.length=m:=by rw[h3];simp;omega
 conv=>whnf
 repeat' (first|((first|refine dA ?_|refine q7p rfl ?_|refine aD ?_|refine bP ?_|(refine iA fun _=>?_)|refine wI ?_|refine cP (LB w f hj hc hn _) ?_|refine x1m (by simp[avP]) rfl (by show(acc.length+1)*16<=140737488355328;omega) (by show acc.length+1<=9223372036854775807;omega) (fun x hx=>by rcases q7m.1 hx with rfl;exact⟨rfl,rfl⟩) ?_);conv=>whnf)|(apply bD<;>intro _<;>first|omega|conv=>whnf))
 exact⟨(m+1,acc++[ixP w.p w.j f w.n l[m]]),⟨by simp only;omega,by simp only;rw[h3,q8q hm,q7o];rfl⟩,by simp only;omega,Le.of_eq (by simp only[avP,q7b,q7o];rfl)⟩
theorem Xj{P:Program}{f:FuncId}{args:List LV}{H H0:Heap}{e:TypeId}{sz:Nat}{Q:List AV->Prop}(hrow:ME 0 H0 fun H=>H=H0)(h:SpecH P f args H (fun r H'=>∃es,r=.hd 0 0 es.length/\H'=(0,.own e sz es)::H0/\Q es)):SpecH P f args H (fun r H'=>∃es,r=.p (.sl es)/\H'=H0/\Q es):=by
 refine⟨h.go,fun σ β w vals h1 h2 h3=>(h.ok σ β w vals h1 h2 h3).mono fun ex w' hx=>?_⟩;obtain⟨l,u,σ',β',H',he,⟨es,rfl,rfl,hQ⟩,hrep,hrel,hlat⟩:=hx;obtain⟨s',rfl,hle⟩:=Le.row (N:=1) (s:=⟨[(0,.hd 0 0 es.length)],(0,.own e sz es)::H0⟩) (k:=0) (e:=e) (sz:=sz) (es:=es) (zs:=[0]) rfl (K:=fun s=>s=⟨[(0,.p (.sl es))],H0⟩) (by
  show LenK es.length es _;refine⟨rfl,?_⟩;show ME 0 H0 fun H=>(⟨[(0,.p (.sl es))],H⟩:St)=⟨[(0,.p (.sl es))],H0⟩;have key:∀{H1:Heap}{K K':Heap->Prop},(∀H,K H->K' H)->ME 0 H1 K->ME 0 H1 K':=fun {H1}=>by
   induction H1 with
   |nil=>intro K K' hK h;exact hK _ h
   | cons x r ih=>
     intro K K' hK h;obtain⟨j,c⟩:=x;simp only[ME]at h⊢;cases hb:j==0 with
     | true=>
       simp only[hb,q8g]at h⊢;exact ih hK h
     | false=>
       simp only[hb,q8b]at h⊢;cases c with
       |obj e ls=>simp only[WN]at h⊢;exact ih (fun H hH=>hK _ hH) h
       |own e sz es=>exact ih (fun H hH=>hK _ hH) h
       |ext x=>exact ih (fun H hH=>hK _ hH) h
  exact key (fun H hH=>by rw[hH]) hrow)
 obtain⟨σ2,β2,hr2,hl2⟩:=hle σ' β' {tmps:=#[u],defers:=[]} w' ⟨rfl,rfl,fun i=>by
  match i with
  |0=>simpa[getS]using hrep
  |i+1=>exact .p (by simpa[getS]using Rep.any _),hrel⟩
 exact⟨.p (.sl es),u,σ2,β2,H0,he,⟨es,rfl,rfl,hQ⟩,by simpa[getS]using hr2.slots 0,hr2.heap,hlat.trans hl2⟩
theorem Ha(p:Pg)(j:Nat)(f:Pr)(n:Int)(real:AV)(lv:List AV)(hj:p.procs[j]?=some f)(hc:cntP p.procs<=1000)(hn:0<=n/\n<=5000)(l:List Step)(hlen:l.length<=1000000):
  SpecH prog 94 [.ptr 1000 0,.p (eSteps l)] (I6 p j n real lv) (fun r H=>∃es,r=.p (.sl es)/\H=I6 p j n real lv/\es=avP (l.map (ixP p j f n))):=by
 refine Xj (e:=207) (sz:=2) rfl ?_;refine sH HD func94 rfl call94 ?_;conv=>whnf
 repeat' (refine iM fun _=>?_;conv=>whnf)
 have hl:(l.map fun s=>AV.agg s.cells).length=l.length:=q7f _;refine LoopK.inv QK (fun i:Nat×List (Int×Int)=>⟨[(0,.ptr 1000 0),(5,.hd 0 0 i.2.length),(8,.p (eSteps l)),(9,.p (.int .i64 (l.map fun s=>AV.agg s.cells).length)),(10,.p (.int .i64 i.1))],(0,.own 207 2 (avP i.2))::I6 p j n real lv⟩)
  (fun i=>i.1<=l.length/\i.2=(l.take i.1).map (ixP p j f n)) (fun i=>l.length-i.1) (0,[])
  (Le.mk [(0,.own 207 2 [])] (by simp[Chunk.new0];rfl) (by simp) (by simp[I6]) (.r (.cons (.nil q7d) (.r (.r (.r .nil))))) (.new q7d (.cons rfl (.refl _) (.cons rfl (.refl _) .nil))))
  ⟨q7c _,rfl⟩ ?_
 rintro⟨m,acc⟩ ⟨h2,h3⟩;simp only at h2 h3⊢;rcases q7e m l.length with hm|hm;rotate_left 1
 ·rw[q8y hm]at h3;subst h3;conv=>whnf
  repeat' (apply bD<;>intro _<;>first|omega|conv=>whnf)
  exact⟨_,q8k _,avP (l.map (ixP p j f n)),by simp[avP],rfl,rfl⟩
 have hacl:acc.length=m:=by rw[h3];simp;omega
 conv=>whnf
 repeat' (first|((first|refine dA ?_|refine q7p rfl ?_|refine aD ?_|refine bP ?_|(refine iA fun _=>?_)|refine wI ?_|refine x1m (by simp[avP]) rfl (by show(acc.length+1)*16<=140737488355328;omega) (by show acc.length+1<=9223372036854775807;omega) (fun x hx=>by rcases q7m.1 hx with rfl;exact⟨rfl,rfl⟩) ?_);conv=>whnf)|(apply bD<;>intro _<;>first|omega|conv=>whnf)|(refine CallK.heap [(1000,1000),(2000,2000)] 0 (by repeat' (first|exact q8c|refine q8w ?_ ?_|exact q8k _|exact q8m Sub.nils|exact q8m (Sub.tt rfl)|exact q8m (Sub.ff rfl)|exact q8m (Sub.int (by omega)))) (by refine q8x (j:=1000) rfl rfl ?_ ?_;exact CSub.refl _;refine q8x (j:=2000) rfl rfl ?_ ?_;exact CSub.refl _;exact q8a) (Hc p j f n real lv hj hc hn _) rfl rfl ?_;rintro l' H' ⟨rfl,rfl⟩;conv=>whnf))
 exact⟨(m+1,acc++[ixP p j f n l[m]]),⟨by simp only;omega,by simp only;rw[h3,q8q hm,q7o];rfl⟩,by simp only;omega,Le.mk [] (by simp) (by simp) (by simp[I6]) (.r (.cons (.of_eq (by simp only[q7b];rfl)) (.r (.r (.cons (.of_eq rfl) .nil))))) (.cons rfl (.of_eq (by simp only[avP,q7o];rfl)) (.cons rfl (.refl _) (.cons rfl (.refl _) .nil)))⟩
theorem Nx{l:List Int}{x:Int}(h:l.Pairwise (· <= ·)):(Xc l (l.countP (· < x)) x).Pairwise (· <= ·):=by
 induction l with
 |nil=>simp[Xc]
 | cons a r ih=>
   obtain⟨h1,h2⟩:=x1q.1 h;by_cases ha:a<x
   ·have e:Xc (a::r) ((a::r).countP (· < x)) x=a::Xc r (r.countP (· < x)) x:=by
     unfold Xc;rw[List.countP_cons_of_pos (by simpa using ha)];rfl
    rw[e,x1q];refine⟨fun b hb=>?_,ih h2⟩;unfold Xc at hb;rcases q7a.1 hb with hb|hb
    ·exact h1 b (x3c hb)
    ·rcases q7r.1 hb with rfl|hb
     ·omega
     ·exact h1 b (List.mem_of_mem_drop hb)
   ·have e0:(a::r).countP (· < x)=0:=by
     rw[List.countP_eq_zero];intro b hb;rcases q7r.1 hb with rfl|hb
     ·simpa using ha
     ·have:=h1 b hb;simp;omega
    rw[e0];show(x::a::r).Pairwise (· <= ·);refine x1q.2 ⟨fun b hb=>?_,h⟩;rcases q7r.1 hb with rfl|hb
    ·omega
    ·have:=h1 b hb;omega
def Vh(n m:Nat)(N:List (List Int)):Prop:=N.length=n/\∀r∈N,r.Pairwise (· <= ·)/\r.length<=m
theorem Dc{n:Nat}{N:List (List Int)}(h:Vh n m N)(a:Nat)(b:Int):Vh n (m+1) (Ji N a b):=by
 unfold Ji;refine⟨by rw[x0d];exact h.1,fun r hr=>?_⟩;rcases x1j hr with hr|rfl
 ·obtain⟨h1,h2⟩:=h.2 r hr;exact⟨h1,by omega⟩
 ·rcases q7e a N.length with ha|ha
  ·have hm:N.getD a []∈N:=by
    rw[q7h,q7g ha];exact q7i ha
   obtain⟨h1,h2⟩:=h.2 _ hm;exact⟨Nx h1,by rw[Za x3m];omega⟩
  ·have:N.getD a []=[]:=by simp[q9i ha]
   rw[this];exact⟨by simp[Xc],by simp[Xc]⟩
theorem Jk{n m':Nat}{N:List (List Int)}(h:Vh n m N)(hm:m<=m'):Vh n m' N:=⟨h.1,fun r hr=>⟨(h.2 r hr).1,q8i (h.2 r hr).2 hm⟩⟩
def F4(n:Nat)(g:List (List Int)×List (List Int))(e:Int×Int):List (List Int)×List (List Int):=
 bif ZG n e.1&&ZG n e.2 && !(g.1.getD e.1.toNat []).contains e.2 then(Ji g.1 e.1.toNat e.2,Ji g.2 e.2.toNat e.1)else g
def QC(n:Nat)(l:List (Int×Int)):List (List Int)×List (List Int):=l.foldl (F4 n) (List.replicate n [],List.replicate n [])
def eMat(m:List (List Int)):AV:=.sl ((avI m).map .sl)
def VQ(g:List (List Int)×List (List Int)):AV:=.ip [eMat g.1,eMat g.2]
theorem Wf(n:Nat)(g:List (List Int)×List (List Int))(e:Int×Int):(F4 n g e).1=bif ZG n e.1&&ZG n e.2 && !(g.1.getD e.1.toNat []).contains e.2 then Ji g.1 e.1.toNat e.2 else g.1:=by
 unfold F4;cases ZG n e.1&&ZG n e.2 && !(g.1.getD e.1.toNat []).contains e.2<;>rfl
theorem Ys(n:Nat)(g:List (List Int)×List (List Int))(e:Int×Int):(F4 n g e).2=bif ZG n e.1&&ZG n e.2 && !(g.1.getD e.1.toNat []).contains e.2 then Ji g.2 e.2.toNat e.1 else g.2:=by
 unfold F4;cases ZG n e.1&&ZG n e.2 && !(g.1.getD e.1.toNat []).contains e.2<;>rfl
theorem Af{n:Nat}{g:List (List Int)×List (List Int)}(h:Vh n m g.1/\Vh n m g.2)(e:Int×Int):Vh n (m+1) (F4 n g e).1/\Vh n (m+1) (F4 n g e).2:=by
 rw[Wf,Ys];cases ZG n e.1&&ZG n e.2 && !(g.1.getD e.1.toNat []).contains e.2
 ·exact⟨Jk h.1 (by omega),Jk h.2 (by omega)⟩
 ·exact⟨Dc h.1 _ _,Dc h.2 _ _⟩
theorem PJ{n:Nat}{l:List (Int×Int)}(hm:m<l.length):QC n (l.take (m+1))=F4 n (QC n (l.take m)) l[m]:=by
 unfold QC;rw[q8q hm,x2i];rfl
theorem DY{n:Nat}{l:List (Int×Int)}:∀{m:Nat},m<=l.length->Vh n m (QC n (l.take m)).1/\Vh n m (QC n (l.take m)).2
 | 0,_=>by
   have:Vh n 0 (List.replicate n []):=⟨by simp,fun r hr=>by rw[x0a hr];simp⟩;exact⟨this,this⟩
 | m+1,h=>by
   rw[PJ h];exact Af (DY (by omega)) _
theorem Jm{N':Nat}{sl:List (Nat×LV)}(n a b:Nat)(h0:(sl.all fun x=>x.2.xfree 0)=true)(h1:(sl.all fun x=>x.2.xfree 1)=true):
  Le N' ⟨sl,[(2,.obj 230 [.hd a 0 n,.hd b 0 n]),(1,.own 29 1 (List.replicate n .nils)),(0,.own 29 1 (List.replicate n .nils))]⟩
   ⟨sl,[(2,.obj 230 [.hd a 0 n,.hd b 0 n]),(1,.ext (.mat 29 3 1 (List.replicate n []) [])),(0,.ext (.mat 29 3 1 (List.replicate n []) []))]⟩:=by
 have hm:=ND (N:=N') (sl:=sl) (H:=[(2,.obj 230 [.hd a 0 n,.hd b 0 n]),(1,.own 29 1 (List.replicate n .nils)),(0,.own 29 1 (List.replicate n .nils))])
  (H':=[(2,.obj 230 [.hd a 0 n,.hd b 0 n]),(1,.own 29 1 (List.replicate n .nils)),(0,.ext (.mat 29 3 1 (List.replicate (List.replicate n AV.nils).length []) []))])
  0 3 1 (e:=29) (es:=List.replicate n .nils) rfl (fun x hx=>x0a hx) rfl h0 rfl rfl (by simp[KM])
 have hm2:=ND (N:=N') (sl:=sl) (H:=[(2,.obj 230 [.hd a 0 n,.hd b 0 n]),(1,.own 29 1 (List.replicate n .nils)),(0,.ext (.mat 29 3 1 (List.replicate (List.replicate n AV.nils).length []) []))])
  (H':=[(2,.obj 230 [.hd a 0 n,.hd b 0 n]),(1,.ext (.mat 29 3 1 (List.replicate (List.replicate n AV.nils).length []) [])),(0,.ext (.mat 29 3 1 (List.replicate (List.replicate n AV.nils).length []) []))])
  1 3 1 (e:=29) (es:=List.replicate n .nils) rfl (fun x hx=>x0a hx) rfl h1 rfl rfl (by simp[KM])
 have:=hm.trans hm2;simpa using this
theorem Vd(n:Nat)(hn:n<=5000)(l:List (Int×Int))(hlen:l.length<=1000000):SpecP prog 184 [.int .i64 n,.sl (avP l)] (fun r=>r=VQ (QC n l)):=by
 refine sB Pn func184 rfl call184 ?_;conv=>whnf
 repeat' (first|((first|(refine iM fun _=>?_)|refine dA ?_|refine q7p rfl ?_|refine aR ?_|refine x2m n rfl (by show 24*n<=140737488355328;omega) (by unfold maxLen;omega) ?_);conv=>whnf)|(apply bD<;>intro _<;>first|omega|conv=>whnf)|(refine q7p ?_ ?_<;>conv=>whnf))
 all_goals have hl:(avP l).length=l.length:=q7f _
 ·refine LoopK.inv QK (fun m:Nat=>⟨[(5,.ptr (0+1+1) 0),(20,.p (.sl (avP l))),(21,.p (.int .i64 (avP l).length)),(22,.p (.int .i64 m))],[(0+1+1,.obj 230 [.hd 0 0 n,.hd (0+1) 0 n]),(0,.ext (.mat 29 3 1 (avI (QC n (l.take m)).1) [])),(0+1,.ext (.mat 29 3 1 (avI (QC n (l.take m)).2) []))]⟩)
   (fun m=>m<=l.length) (fun m=>l.length-m) 0 (by
     refine Le.trans (Jm n _ _ rfl rfl) ?_;exact Le.mk [] (by simp) (by simp) (by simp) (.r (.r (.r (.r .nil)))) (.cons rfl (.refl _) (.cons rfl (.of_eq (by simp[avI,QC])) (.cons rfl (.of_eq (by simp[avI,QC])) .nil)))) (q7c _) ?_
  rintro m h2;obtain⟨g1,g2⟩:=DY (n:=n) h2;rcases q7e m l.length with hm|hm
  ·have hme:(avP l)[m]?=some (.agg [.int .i64 l[m].1,.int .i64 l[m].2]):=by simp[avP,hm]
   conv=>whnf
   repeat' (first|((first|refine q7p rfl ?_|refine wI ?_|(refine IdxK.at rfl hme rfl ?_)|refine q9x 0 rfl (by decide) ?_|refine q9x 1 rfl (by decide) ?_);conv=>whnf)|(apply bD<;>intro _<;>first|omega|conv=>whnf)|(refine CallK.heap [(1000,0+1+1),(2001,0),(2002,1)] 0 (by repeat' (first|exact q8c|refine q8w ?_ ?_|exact q8k _|exact q8m Sub.nils|exact q8m (Sub.tt rfl)|exact q8m (Sub.ff rfl)|exact q8m (Sub.int (by omega)))) (by refine q8x (j:=2) rfl rfl ?_ ?_;exact CSub.refl _;refine q8x (j:=0) rfl rfl ?_ ?_;exact CSub.refl _;refine q8x (j:=1) rfl rfl ?_ ?_;exact CSub.refl _;exact q8a) (Da n _ _ l[m].1 l[m].2 g1.1 g2.1 hn (fun r hr=>⟨(g1.2 r hr).1,by have:=(g1.2 r hr).2;omega⟩) (fun r hr=>⟨(g2.2 r hr).1,by have:=(g2.2 r hr).2;omega⟩)) rfl rfl ?_;rintro l' H' ⟨t,rfl,rfl⟩;conv=>whnf))
   exact⟨m+1,hm,by omega,Le.of_eq (by rw[PJ hm,Wf,Ys];rfl)⟩
  ·rw[q8y hm]at g1 g2⊢;conv=>whnf
   repeat' (apply bD<;>intro _<;>first|omega|conv=>whnf)
   exact⟨_,.ptr (cs:=[eMat (QC n l).1,eMat (QC n l).2]) rfl rfl (fun i x c h1 h3=>by
    match i,h1,h3 with
    |0,h1,h3=>cases h1;cases h3;exact .mat rfl (by rw[avI,q7f,g1.1])
    |1,h1,h3=>cases h1;cases h3;exact .mat rfl (by rw[avI,q7f,g2.1])),rfl⟩
 ·refine LoopK.inv QK (fun m:Nat=>⟨[(5,.ptr (0+1+1) 0),(20,.p (.sl (avP l))),(21,.p (.int .i64 (avP l).length)),(22,.p (.int .i64 m))],[(0+1+1,.obj 230 [.hd (0+1) 0 n,.hd 0 0 n]),(0+1,.ext (.mat 29 3 1 (avI (QC n (l.take m)).1) [])),(0,.ext (.mat 29 3 1 (avI (QC n (l.take m)).2) []))]⟩)
   (fun m=>m<=l.length) (fun m=>l.length-m) 0 (by
     refine Le.trans (Jm n _ _ rfl rfl) ?_;exact Le.mk [] (by simp) (by simp) (by simp) (.r (.r (.r (.r .nil)))) (.cons rfl (.refl _) (.cons rfl (.of_eq (by simp[avI,QC])) (.cons rfl (.of_eq (by simp[avI,QC])) .nil)))) (q7c _) ?_
  rintro m h2;obtain⟨g1,g2⟩:=DY (n:=n) h2;rcases q7e m l.length with hm|hm
  ·have hme:(avP l)[m]?=some (.agg [.int .i64 l[m].1,.int .i64 l[m].2]):=by simp[avP,hm]
   conv=>whnf
   repeat' (first|((first|refine q7p rfl ?_|refine wI ?_|(refine IdxK.at rfl hme rfl ?_)|refine q9x 0 rfl (by decide) ?_|refine q9x 1 rfl (by decide) ?_);conv=>whnf)|(apply bD<;>intro _<;>first|omega|conv=>whnf)|(refine CallK.heap [(1000,0+1+1),(2001,1),(2002,0)] 0 (by repeat' (first|exact q8c|refine q8w ?_ ?_|exact q8k _|exact q8m Sub.nils|exact q8m (Sub.tt rfl)|exact q8m (Sub.ff rfl)|exact q8m (Sub.int (by omega)))) (by refine q8x (j:=2) rfl rfl ?_ ?_;exact CSub.refl _;refine q8x (j:=1) rfl rfl ?_ ?_;exact CSub.refl _;refine q8x (j:=0) rfl rfl ?_ ?_;exact CSub.refl _;exact q8a) (Da n _ _ l[m].1 l[m].2 g1.1 g2.1 hn (fun r hr=>⟨(g1.2 r hr).1,by have:=(g1.2 r hr).2;omega⟩) (fun r hr=>⟨(g2.2 r hr).1,by have:=(g2.2 r hr).2;omega⟩)) rfl rfl ?_;rintro l' H' ⟨t,rfl,rfl⟩;conv=>whnf))
   exact⟨m+1,hm,by omega,Le.of_eq (by rw[PJ hm,Wf,Ys];rfl)⟩
  ·rw[q8y hm]at g1 g2⊢;conv=>whnf
   repeat' (apply bD<;>intro _<;>first|omega|conv=>whnf)
   exact⟨_,.ptr (cs:=[eMat (QC n l).1,eMat (QC n l).2]) rfl rfl (fun i x c h1 h3=>by
    match i,h1,h3 with
    |0,h1,h3=>cases h1;cases h3;exact .mat rfl (by rw[avI,q7f,g1.1])
    |1,h1,h3=>cases h1;cases h3;exact .mat rfl (by rw[avI,q7f,g2.1])),rfl⟩
def JS(st:List Bool×List Int)(b:Int):List Bool×List Int:=bif st.1.getD b.toNat false then st else(st.1.set b.toNat true,st.2++[b])
def ZW(rows:List (List Int)):Nat->Nat->List Bool×List Int->List Bool×List Int
 |0,_,st=>st
 | k+1,i,st=>match st.2[i]?with
   |some a=>ZW rows k (i+1) ((rows.getD a.toNat []).foldl JS st)
   |none=>st
def wkInv(n:Nat)(st:List Bool×List Int):Prop:=st.1.length=n/\st.2.length<=st.1.count true/\∀x∈st.2,0<=x/\x<n
theorem LX{n:Nat}{st:List Bool×List Int}(h:wkInv n st){b:Int}(hb:0<=b/\b<n):wkInv n (JS st b):=by
 unfold JS;obtain⟨h1,h2,h3⟩:=h;have hlt:b.toNat<st.1.length:=by omega
 cases hs:st.1.getD b.toNat false with
 |true=>exact⟨h1,h2,h3⟩
 | false=>
   have hg:st.1[b.toNat]=false:=by simpa[hlt]using hs
   refine⟨by simpa using h1,?_,fun x hx=>?_⟩
   ·simp only[q8b,q7b,q8p];rw[List.count_set hlt,hg];simp;omega
   ·rcases q7a.1 hx with hx|hx
    ·exact h3 x hx
    ·rw[q7m.1 hx];exact hb
theorem Sv{n:Nat}{l:List Int}:∀{st:List Bool×List Int},wkInv n st->(∀b∈l,0<=b/\b<n)->wkInv n (l.foldl JS st):=by
 induction l with
 |nil=>intro st h _;exact h
 |cons b r ih=>intro st h hl;exact ih (LX h (hl b q7d)) fun c hc=>hl c (q7n _ hc)
theorem FA{n:Nat}{st:List Bool×List Int}(h:wkInv n st):st.2.length<=n:=by
 refine q8i h.2.1 ?_;rw[<-h.1];exact List.count_le_length
def XG(n:Nat)(rows:List (List Int)):Prop:=rows.length=n/\∀r∈rows,∀b∈r,0<=b/\b<n
def A3(st:List Bool×List Int):Heap:=[(1000,.own 4 1 (st.1.map bv)),(2000,.own 3 1 (st.2.map (.int .i64)))]
theorem Jg(n:Nat)(hn:n<=5000)(rows:List (List Int))(hr:XG n rows)(st:List Bool×List Int)(hs:wkInv n st):
  SpecH prog 186 [.p (eMat rows),.hd 1000 0 n,.hd 2000 0 st.2.length] (A3 st) (fun r H=>r=.hd 2000 0 (ZW rows (n+1) 0 st).2.length/\H=A3 (ZW rows (n+1) 0 st)):=by
 refine sH Fv func186 rfl call186 ?_;conv=>whnf
 skip
 refine LoopK.inv QK (fun x:Nat×List Bool×List Int=>⟨[(0,.p (eMat rows)),(1,.hd 1000 0 n),(2,.hd 2000 0 x.2.2.length),(7,.p (.int .i64 x.1))],A3 x.2⟩)
  (fun x=>wkInv n x.2/\x.1<=x.2.2.length/\ZW rows (n+1-x.1) x.1 x.2=ZW rows (n+1) 0 st) (fun x=>n-x.1) (0,st) (Le.of_eq rfl) ⟨hs,q7c _,rfl⟩ ?_
 rintro⟨i,seen,todo⟩ ⟨h1,h2,h3⟩;simp only at h1 h2 h3⊢;have hle:=FA h1;simp only at hle;rw[show n+1-i=n-i+1 by omega,ZW]at h3;rcases q7e i todo.length with hi|hi;rotate_left 1
 ·simp only[q9i hi]at h3;conv=>whnf
  repeat' (first|(refine iM fun _=>?_;conv=>whnf)|(apply bD<;>intro _<;>first|omega|conv=>whnf))
  exact⟨_,x2b (by rw[<-h3]),rfl,by rw[<-h3];rfl⟩
 simp only[q7g hi]at h3;have hx:=h1.2.2 _ (q7i hi);have hxr:todo[i].toNat<rows.length:=by rw[hr.1];omega
 have hrow:((avI rows).map AV.sl)[todo[i].toNat]?=some (.sl (rows[todo[i].toNat].map (.int .i64))):=by simp[avI,hxr]
 have hgd:rows.getD todo[i].toNat []=rows[todo[i].toNat]:=by simp[hxr]
 rw[hgd]at h3;have hrin:=hr.2 _ (q7i hxr);conv=>whnf
 repeat' (first|((first|(refine iM fun _=>?_)|refine q7p rfl ?_|refine q9x i (by omega) (by omega) ?_|refine q9t i 0 (.int .i64 todo[i]) (by omega) (by simp[hi]) ?_|(refine IdxK.at (by omega) hrow rfl ?_));conv=>whnf)|(apply bD<;>intro _<;>first|omega|conv=>whnf))
 have hrb:(rows[todo[i].toNat].map (AV.int .i64)).length<=9223372036854775807:=by assumption
 generalize rows[todo[i].toNat]=row at hrin h3 hrb⊢;have hrl:(row.map (AV.int .i64)).length=row.length:=q7f _;refine LoopK.inv QK (fun x:Nat×List Bool×List Int=>⟨[(0,.p (eMat rows)),(1,.hd 1000 0 n),(2,.hd 2000 0 x.2.2.length),(7,.p (.int .i64 i)),(22,.p (.sl (row.map (.int .i64)))),(23,.p (.int .i64 (row.map (AV.int .i64)).length)),(24,.p (.int .i64 x.1))],A3 x.2⟩)
  (fun x=>wkInv n x.2/\todo.length<=x.2.2.length/\x.1<=row.length/\ZW rows (n-i) (i+1) ((row.drop x.1).foldl JS x.2)=ZW rows (n+1) 0 st) (fun x=>row.length-x.1) (0,seen,todo) (Le.of_eq rfl) ⟨h1,q8z _,q7c _,h3⟩ ?_
 rintro⟨q,s2,t2⟩ ⟨h4,h5,h6,h7⟩;simp only at h4 h5 h6 h7⊢;have hle2:=FA h4;simp only at hle2;rcases q7e q row.length with hq|hq;rotate_left 1
 ·rw[q8v hq]at h7;conv=>whnf
  repeat' (first|(refine wI ?_;conv=>whnf)|(apply bD<;>intro _<;>first|omega|conv=>whnf))
  exact⟨(i+1,s2,t2),⟨h4,by simp only;omega,by simp only;rw[show n+1-(i+1)=n-i by omega];exact h7⟩,by simp only;omega,Le.of_eq rfl⟩
 rw[q8o hq,x0s]at h7;have hb:=hrin _ (q7i hq);have h8:=LX h4 hb;have hbl:row[q].toNat<s2.length:=by have:=h4.1;simp only at this;omega
 cases hsb:s2.getD row[q].toNat false with
 | true=>
   have e1:JS (s2,t2) row[q]=(s2,t2):=by unfold JS;simp only[hsb,q8g]
   have e2:(s2.map bv)[row[q].toNat]?=some .tt:=by
    have:s2[row[q].toNat]=true:=by simpa[hbl]using hsb
    simp[hbl,this,bv]
   rw[e1]at h7;conv=>whnf
   repeat' (first|((first|refine q7p rfl ?_|(refine iA fun _=>?_)|refine wI ?_|refine q9x row[q].toNat (by omega) (by have:=h4.1;simp only at this;omega) ?_|refine q9t row[q].toNat 0 .tt (by omega) e2 ?_);conv=>whnf)|(apply bD<;>intro _<;>first|omega|conv=>whnf))
   all_goals exact⟨(q+1,s2,t2),⟨h4,h5,by simp only;omega,h7⟩,by simp only;omega,Le.of_eq rfl⟩
 | false=>
   have e1:JS (s2,t2) row[q]=(s2.set row[q].toNat true,t2++[row[q]]):=by unfold JS;simp only[hsb,q8b]
   have e2:(s2.map bv)[row[q].toNat]?=some .ff:=by
    have:s2[row[q].toNat]=false:=by simpa[hbl]using hsb
    simp[hbl,this,bv]
   rw[e1]at h7 h8;conv=>whnf
   repeat' (first|((first|refine q7p rfl ?_|refine aD ?_|refine bP ?_|(refine iA fun _=>?_)|refine wI ?_|refine q9x row[q].toNat (by omega) (by have:=h4.1;simp only at this;omega) ?_|refine q9t row[q].toNat 0 .ff (by omega) e2 ?_|refine x0r row[q].toNat 0 .ff .tt (by omega) e2 (q8z 1) rfl ?_|refine XX (by simp) (by simp;omega) ?_);conv=>whnf)|(apply bD<;>intro _<;>first|omega|conv=>whnf))
   all_goals exact⟨(q+1,s2.set row[q].toNat true,t2++[row[q]]),⟨h8,by simp;omega,by simp only;omega,h7⟩,by simp only;omega,Le.of_eq (by simp only[A3,q7b,q7o,q9k];rfl)⟩
def HU:Nat->List Bool->List Int
 |_,[]=>[]
 |i,b::r=>bif b then(i:Int)::HU (i+1) r else HU (i+1) r
theorem De(seen:List Bool)(hn:seen.length<=1000000):
  SpecH prog 187 [.hd 1000 0 seen.length] [(1000,.own 4 1 (seen.map bv))] (fun r H=>∃es,r=.p (.sl es)/\H=[(1000,.own 4 1 (seen.map bv))]/\es=(HU 0 seen).map (.int .i64)):=by
 refine Xj (e:=3) (sz:=1) rfl ?_;refine sH Y6 func187 rfl call187 ?_;conv=>whnf
 repeat' (refine iM fun _=>?_;conv=>whnf)
 refine LoopK.inv QK (fun i:Nat×List Int=>⟨[(3,.hd 0 0 i.2.length),(6,.hd 1000 0 seen.length),(7,.p (.int .i64 seen.length)),(8,.p (.int .i64 i.1))],[(0,.own 3 1 (i.2.map (.int .i64))),(1000,.own 4 1 (seen.map bv))]⟩)
  (fun i=>i.1<=seen.length/\i.2.length<=i.1/\i.2++HU i.1 (seen.drop i.1)=HU 0 seen) (fun i=>seen.length-i.1) (0,[])
  (Le.mk [(0,.own 3 1 [])] (by simp[Chunk.new0];rfl) (by simp) (by simp) (.cons (.nil q7d) (.r (.r (.r .nil)))) (.new q7d (.cons rfl (.refl _) .nil)))
  ⟨q7c _,q8z _,rfl⟩ ?_
 rintro⟨m,acc⟩ ⟨h2,h3,h4⟩;simp only at h2 h3 h4⊢;rcases q7e m seen.length with hm|hm;rotate_left 1
 ·rw[q8v hm,HU,q9h]at h4;subst h4;conv=>whnf
  repeat' (apply bD<;>intro _<;>first|omega|conv=>whnf)
  exact⟨_,q8k _,(HU 0 seen).map (.int .i64),by simp,rfl,rfl⟩
 rw[q8o hm,HU]at h4;cases hsb:seen[m]with
 | true=>
   rw[hsb,q8g]at h4;have e2:(seen.map bv)[m]?=some .tt:=by simp[hm,hsb,bv]
   conv=>whnf
   repeat' (first|((first|refine q7p rfl ?_|refine aD ?_|refine bP ?_|refine wI ?_|refine q9x m rfl hm ?_|refine q9t m 0 .tt (by omega) e2 ?_|refine XX (by simp) (by simp;omega) ?_);conv=>whnf)|(apply bD<;>intro _<;>first|omega|conv=>whnf))
   exact⟨(m+1,acc++[(m:Int)]),⟨by simp only;omega,by simp;omega,by simpa using h4⟩,by simp only;omega,Le.of_eq (by simp only[q7b,q7o];rfl)⟩
 | false=>
   rw[hsb,q8b]at h4;have e2:(seen.map bv)[m]?=some .ff:=by simp[hm,hsb,bv]
   conv=>whnf
   repeat' (first|((first|refine q7p rfl ?_|refine wI ?_|refine q9x m rfl hm ?_|refine q9t m 0 .ff (by omega) e2 ?_);conv=>whnf)|(apply bD<;>intro _<;>first|omega|conv=>whnf))
   exact⟨(m+1,acc),⟨by simp only;omega,by simp only;omega,h4⟩,by simp only;omega,Le.of_eq rfl⟩
theorem FZ(g:List (List Int)×List (List Int))(a:Int):SpecP prog 185 [VQ g,.int .i64 a] (fun r=>r=.bool (ZG g.1.length a)):=by
 refine sB KJ func185 rfl call185 ?_;conv=>whnf
 repeat' (first|(refine iM fun _=>?_;conv=>whnf)|(apply bD<;>intro _<;>first|omega|conv=>whnf))
 all_goals have hl:((avI g.1).map AV.sl).length=g.1.length:=by simp[avI]
 all_goals first
  |exact RetK.bool (by unfold ZG;simp[*];done)
  |exact RetK.ff (by unfold ZG;simp;omega)
 all_goals trace_state
def FM(n:Nat)(l:List Int):List Bool×List Int:=l.foldl (fun st a=>bif ZG n a then JS st a else st) (List.replicate n false,[])
def ZN(rows:List (List Int))(l:List Int):List Bool:=(ZW rows (rows.length+1) 0 (FM rows.length l)).1
theorem PC(n:Nat):wkInv n (List.replicate n false,[]):=⟨by simp,by simp[List.count_replicate],by simp⟩
theorem FC{n:Nat}{rows:List (List Int)}(hr:XG n rows):∀(k i:Nat){st:List Bool×List Int},wkInv n st->wkInv n (ZW rows k i st)
 |0,_,_,h=>h
 | k+1,i,st,h=>by
   rw[ZW];split
   ·rename_i a ha;have hx:=h.2.2 a (q8u ha);refine FC hr k (i+1) (Sv h ?_);have hlt:a.toNat<rows.length:=by rw[hr.1];omega
    rw[q7h,q7g hlt];exact hr.2 _ (q7i hlt)
   ·exact h
theorem XI{n:Nat}{a:Int}(h:ZG n a=true):0<=a/\a<n:=by
 unfold ZG at h;simpa using h
theorem Qu(n:Nat)(hn:n<=5000)(g:List (List Int)×List (List Int))(hg:XG n g.1)(l:List Int)(hlen:l.length<=1000000):SpecP prog 141 [VQ g,QA l] (fun r=>r=QA (HU 0 (ZN g.1 l))):=by
 refine sB BN func141 rfl call141 ?_;conv=>whnf
 have hl:((avI g.1).map AV.sl).length=n:=by simp[avI,hg.1]
 repeat' ((first|(refine iM fun _=>?_)|refine aR ?_|refine x2m n (by rw[hl]) (by show 1*n<=140737488355328;omega) (by unfold maxLen;omega) ?_);conv=>whnf)
 have hll:(l.map (AV.int .i64)).length=l.length:=q7f _;refine LoopK.inv QK (fun x:Nat×List Bool×List Int=>⟨[(0,.p (VQ g)),(5,.hd 0 0 n),(6,.hd 1 0 x.2.2.length),(17,.p (QA l)),(18,.p (.int .i64 (l.map (AV.int .i64)).length)),(19,.p (.int .i64 x.1))],[(0,.own 4 1 (x.2.1.map bv)),(1,.own 3 1 (x.2.2.map (.int .i64)))]⟩)
  (fun x=>x.1<=l.length/\wkInv n x.2/\(l.drop x.1).foldl (fun st a=>bif ZG n a then JS st a else st) x.2=FM n l) (fun x=>l.length-x.1) (0,List.replicate n false,[])
  (Le.mk [(1,.own 3 1 [])] (by simp[Chunk.new0];rfl) (by simp) (by simp) (.r (.r (.cons (.nil q7d) (.r (.r (.r .nil)))))) (.cons rfl (.of_eq (by rw[x0l];rfl)) (.new q7d .nil)))
  ⟨q7c _,PC n,rfl⟩ ?_
 rintro⟨m,seen,todo⟩ ⟨h2,h3,h4⟩;simp only at h2 h3 h4⊢;have hsl:seen.length=n:=h3.1;have htl:todo.length<=n:=FA h3;rcases q7e m l.length with hm|hm;rotate_left 1
 ·rw[q8v hm,List.foldl_nil]at h4;conv=>whnf
  repeat' (first|(apply bD<;>intro _<;>first|omega|conv=>whnf)|(refine CallK.heap [(1000,0),(2000,1)] 0 (by repeat' (first|exact q8c|refine q8w ?_ ?_|exact q8k _|exact q8m Sub.nils|exact q8m (Sub.tt rfl)|exact q8m (Sub.ff rfl)|exact q8m (Sub.int (by omega)))) (by refine q8x (j:=0) rfl rfl ?_ ?_;exact CSub.refl _;refine q8x (j:=1) rfl rfl ?_ ?_;exact CSub.refl _;exact q8a) (Jg n hn g.1 hg (seen,todo) h3) rfl rfl ?_;rintro l' H' ⟨rfl,rfl⟩;conv=>whnf))
  have hwl:(ZW g.1 (n+1) 0 (seen,todo)).1.length=n:=(FC hg _ _ h3).1;refine CallK.heap [(1000,0)] 0 (q8w (x2b (by rw[hwl];rfl)) q8c) (by refine q8x (j:=0) rfl rfl ?_ ?_;exact CSub.refl _;exact q8a) (De (ZW g.1 (n+1) 0 (seen,todo)).1 (by omega)) rfl rfl ?_;rintro l' H' ⟨es,rfl,rfl,rfl⟩;conv=>whnf
  skip
  exact RetK.p (by unfold QA ZN;rw[hg.1,<-h4])
 rw[q8o hm,x0s]at h4;have hhas:SpecP prog 185 [VQ g,.int .i64 l[m]] (fun r=>r=.bool (ZG n l[m])):=by
  have:=FZ g l[m]
  rwa[hg.1]at this
 cases hsb:seen.getD l[m].toNat false with
 | true=>
   have e1:(bif ZG n l[m]then JS (seen,todo) l[m]else(seen,todo))=(seen,todo):=by unfold JS;simp only[hsb,q8g];cases ZG n l[m]<;>rfl
   have e2:ZG n l[m]=true->(seen.map bv)[l[m].toNat]?=some .tt:=fun h=>by
    have hb:=XI h;have hlt:l[m].toNat<seen.length:=by omega
    have:seen[l[m].toNat]=true:=by simpa[hlt]using hsb
    simp[hlt,this,bv]
   rw[e1]at h4;conv=>whnf
   repeat' (first|((first|refine q7p rfl ?_|(refine iA fun _=>?_)|refine wI ?_|refine cP hhas ?_|refine q9x l[m].toNat (by have:=XI (by assumption);omega) (by have:=XI (by assumption);omega) ?_|refine q9t l[m].toNat 0 .tt (by omega) (e2 (by assumption)) ?_);conv=>whnf)|(apply bD<;>intro _<;>first|omega|conv=>whnf)|(apply bB<;>intro _<;>conv=>whnf))
   all_goals exact⟨(m+1,seen,todo),⟨by simp only;omega,h3,h4⟩,by simp only;omega,Le.of_eq rfl⟩
 | false=>
   have e2:ZG n l[m]=true->(seen.map bv)[l[m].toNat]?=some .ff:=fun h=>by
    have hb:=XI h;have hlt:l[m].toNat<seen.length:=by omega
    have:seen[l[m].toNat]=false:=by simpa[hlt]using hsb
    simp[hlt,this,bv]
   conv=>whnf
   repeat' (first|((first|refine q7p rfl ?_|refine aD ?_|refine bP ?_|(refine iA fun _=>?_)|refine wI ?_|refine cP hhas ?_|refine q9x l[m].toNat (by have:=XI (by assumption);omega) (by have:=XI (by assumption);omega) ?_|refine q9t l[m].toNat 0 .ff (by omega) (e2 (by assumption)) ?_|refine x0r l[m].toNat 0 .ff .tt (by omega) (e2 (by assumption)) (q8z 1) rfl ?_|refine XX (by simp) (by simp;omega) ?_);conv=>whnf)|(apply bD<;>intro _<;>first|omega|conv=>whnf)|(apply bB<;>intro _<;>conv=>whnf))
   ·have hh:ZG n l[m]=true:=by assumption
    have e1:(bif ZG n l[m]then JS (seen,todo) l[m]else(seen,todo))=(seen.set l[m].toNat true,todo++[l[m]]):=by unfold JS;simp only[hsb,hh,q8g,q8b]
    have h8:=LX h3 (XI hh);rw[e1]at h4;have e3:JS (seen,todo) l[m]=(seen.set l[m].toNat true,todo++[l[m]]):=by unfold JS;simp only[hsb,q8b]
    rw[e3]at h8;exact⟨(m+1,seen.set l[m].toNat true,todo++[l[m]]),⟨by simp only;omega,h8,h4⟩,by simp only;omega,Le.of_eq (by simp only[q7b,q7o,q9k];rfl)⟩
   ·have hh:ZG n l[m]=false:=by assumption
    have e1:(bif ZG n l[m]then JS (seen,todo) l[m]else(seen,todo))=(seen,todo):=by rw[hh];rfl
    rw[e1]at h4;exact⟨(m+1,seen,todo),⟨by simp only;omega,h3,h4⟩,by simp only;omega,Le.of_eq rfl⟩
end Go.Ab
