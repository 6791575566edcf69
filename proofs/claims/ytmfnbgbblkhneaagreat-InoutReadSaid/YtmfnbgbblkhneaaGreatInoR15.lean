/- The library's contracts at this seat's program, in plain words (printed by the kit's lay-plain.mjs). Conditions: none. -/
import Derived.Shelf.Sort.Plain
import Derived.Shelf.Slices.In.SortNone
import Derived.Shelf.Slices.CompactS
import Derived.Ground.Names2Prog
import Derived.Shelf.Slices.SearchI
import Derived.Shelf.Slices.Empties
import Derived.Shelf.Spec.SlicesInsert
import Derived.Shelf.Spec.SlicesInsertGrow
import Derived.Shelf.SlSortCmp.NoneTotal
import Derived.Ground.SlsfProg
import Derived.Test.YtmfnbgbblkhneaaGreatProg
import Derived.Test.YtmfnbgbblkhneaaGreatInoR12
import Derived.Test.YtmfnbgbblkhneaaGreatInoR14
set_option linter.unusedSimpArgs false
set_option linter.unusedVariables false
set_option maxRecDepth 100000
set_option maxHeartbeats 16000000
namespace Go.Proofs
open Go.Shelf
def Tryz.laysF_ren:Go.Shelf.Ren:=⟨fun|6=>192|15=>160|14=>234|28=>209|29=>210|20=>257|21=>258|22=>259|23=>260|24=>261|25=>262|26=>263|27=>264|46=>277|47=>242|48=>243|49=>278|50=>279|57=>281|n=>n,fun|22=>117|24=>206|25=>237|3=>3|39=>216|0=>0|53=>253|55=>255|4=>4|46=>247|45=>246|50=>181|5=>5|9=>9|66=>274|70=>278|76=>293|77=>60|n=>n,fun|n=>n⟩
theorem Ve:Go.Proofs.SlLaysF0.n6 Tryz.prog Tryz.laysF_ren:={
 mixed:=by kernel_rfl
 f6:=⟨Tryz.f192.name,by decide,Tryz.func192.trans (congrArg some (by kernel_rfl))⟩
 f14:=⟨Tryz.f234.name,by decide,Tryz.func234.trans (congrArg some (by kernel_rfl))⟩
 f15:=Tryz.func160.trans (congrArg some (by kernel_rfl))
 f20:=⟨Tryz.f257.name,by decide,Tryz.func257.trans (congrArg some (by kernel_rfl))⟩
 f21:=⟨Tryz.f258.name,by decide,Tryz.func258.trans (congrArg some (by kernel_rfl))⟩
 f22:=⟨Tryz.f259.name,by decide,Tryz.func259.trans (congrArg some (by kernel_rfl))⟩
 f23:=⟨Tryz.f260.name,by decide,Tryz.func260.trans (congrArg some (by kernel_rfl))⟩
 f24:=⟨Tryz.f261.name,by decide,Tryz.func261.trans (congrArg some (by kernel_rfl))⟩
 f25:=⟨Tryz.f262.name,by decide,Tryz.func262.trans (congrArg some (by kernel_rfl))⟩
 f26:=⟨Tryz.f263.name,by decide,Tryz.func263.trans (congrArg some (by kernel_rfl))⟩
 f27:=⟨Tryz.f264.name,by decide,Tryz.func264.trans (congrArg some (by kernel_rfl))⟩
 f28:=Tryz.func209.trans (congrArg some (by kernel_rfl))
 f29:=Tryz.func210.trans (congrArg some (by kernel_rfl))
 f46:=⟨Tryz.f277.name,by decide,Tryz.func277.trans (congrArg some (by kernel_rfl))⟩
 f47:=Tryz.func242.trans (congrArg some (by kernel_rfl))
 f48:=Tryz.func243.trans (congrArg some (by kernel_rfl))
 f49:=⟨Tryz.f278.name,by decide,Tryz.func278.trans (congrArg some (by kernel_rfl))⟩
 f50:=⟨Tryz.f279.name,by decide,Tryz.func279.trans (congrArg some (by kernel_rfl))⟩
 f57:=⟨Tryz.f281.name,by decide,Tryz.func281.trans (congrArg some (by kernel_rfl))⟩
 t0:=Tryz.underlying0
 a0:=Tryz.isAgg0
 z0:=Tryz.sizeOf0
 v0:=Tryz.zeroValue0
 t3:=Tryz.underlying3
 a3:=Tryz.isAgg3
 z3:=Tryz.sizeOf3
 v3:=Tryz.zeroValue3
 t4:=Tryz.underlying4
 a4:=Tryz.isAgg4
 z4:=Tryz.sizeOf4
 v4:=Tryz.zeroValue4
 t5:=Tryz.underlying5
 a5:=Tryz.isAgg5
 z5:=Tryz.sizeOf5
 v5:=Tryz.zeroValue5
 t9:=Tryz.underlying9
 a9:=Tryz.isAgg9
 z9:=Tryz.sizeOf9
 v9:=Tryz.zeroValue9
 t22:=Tryz.underlying117
 a22:=Tryz.isAgg117
 z22:=Tryz.sizeOf117
 v22:=Tryz.zeroValue117
 t25:=Tryz.underlying237
 a25:=Tryz.isAgg237
 z25:=Tryz.sizeOf237
 v25:=Tryz.zeroValue237
 t39:=Tryz.underlying216
 a39:=Tryz.isAgg216
 z39:=Tryz.sizeOf216
 v39:=Tryz.zeroValue216
 t45:=Tryz.underlying246
 a45:=Tryz.isAgg246
 z45:=Tryz.sizeOf246
 v45:=Tryz.zeroValue246
 t46:=Tryz.underlying247
 a46:=Tryz.isAgg247
 z46:=Tryz.sizeOf247
 v46:=Tryz.zeroValue247
 t50:=Tryz.underlying181
 a50:=Tryz.isAgg181
 z50:=Tryz.sizeOf181
 v50:=Tryz.zeroValue181
 t53:=Tryz.underlying253
 a53:=Tryz.isAgg253
 z53:=Tryz.sizeOf253
 v53:=Tryz.zeroValue253
 t55:=Tryz.underlying255
 a55:=Tryz.isAgg255
 z55:=Tryz.sizeOf255
 v55:=Tryz.zeroValue255
 t66:=Tryz.underlying274
 a66:=Tryz.isAgg274
 z66:=Tryz.sizeOf274
 v66:=Tryz.zeroValue274
 t70:=Tryz.underlying278
 a70:=Tryz.isAgg278
 z70:=Tryz.sizeOf278
 v70:=Tryz.zeroValue278
 t76:=Tryz.underlying293
 a76:=Tryz.isAgg293
 z76:=Tryz.sizeOf293
 v76:=Tryz.zeroValue293
 t77:=Tryz.underlying60
 a77:=Tryz.isAgg60
 z77:=Tryz.sizeOf60
 v77:=Tryz.zeroValue60}
end Go.Proofs
namespace Go.Ab
open Go.Proofs.Tryz
open Go.Proofs Go.Sort Go.RowKit Go.Lib
variable {N:List (List Int)}{m:Nat}{σ:Mem}
theorem Frm.grown{w w':World}(h:Frm (fun _=>False) w w'):∃q os,w'=grow (w.drewN q) os:=by
 obtain⟨hh,ht,hd,ho,hp⟩:=w;obtain⟨hh',ht',hd',ho',hp'⟩:=w';obtain⟨h1,h2,h3,h4,h5,h6⟩:=h;simp only at h1 h2 h3 h4 h5 h6;refine⟨hd'-hd,hh'.extract hh.size hh'.size,?_⟩;subst h1 h2 h3;have e:hd+(hd'-hd)=hd':=by omega
 show World.mk hh' ht' hd' ho' hp'=World.mk (hh++hh'.extract hh.size hh'.size) ht' (hd+(hd'-hd)) ho' hp';rw[e];congr 1;apply Array.ext
 ·simp;omega
 ·intro i hi1 hi2;by_cases hi:i<hh.size
  ·have:=h6 i hi id;rw[q5m hi1,q5m hi]at this;rw[Array.getElem_append_left hi];exact q7c this
  ·rw[Array.getElem_append_right (by omega)];simp;congr 1;omega
def GE(a b:Step):Bool:=decide (Bh a b<0)
theorem Ec(a b c:Int):orI [a,b,c]<0↔a<0\/a=0/\(b<0\/b=0/\c<0):=by
 by_cases h1:a=0<;>by_cases h2:b=0<;>by_cases h3:c=0<;>simp[orI,h1,h2,h3]
theorem FR(x y:Int):P6 x y<0↔x<y:=by
 unfold P6;split
 ·omega
 ·split<;>omega
theorem YY(x y:Int):P6 x y=0↔x=y:=by
 unfold P6;split
 ·omega
 ·split<;>omega
theorem Nd(a b:Step):Bh a b<0↔ZV a.src<ZV b.src\/ZV a.src=ZV b.src/\(ZV a.dst<ZV b.dst\/ZV a.dst=ZV b.dst/\a.kind<b.kind):=by
 unfold Bh;rw[Ec,FR,FR,FR,YY,YY]
def okSt(s:Step):Prop:=s.src≠9223372036854775807/\s.dst≠9223372036854775807
abbrev OSt:={s:Step // okSt s}
instance:Inhabited OSt:=⟨⟨⟨0,0,0⟩,by constructor<;>decide⟩⟩
def cfO(a b:OSt):Int:=Bh a.1 b.1
theorem KU{x y:Int}(hx:x≠9223372036854775807)(hy:y≠9223372036854775807)(h:ZV x=ZV y):x=y:=by
 unfold ZV at h;split at h<;>split at h<;>omega
theorem AE:SWO (ltOf cfO):=by
 refine⟨fun x=>?_,fun x y z h1 h2=>?_,fun x y z h1 h2=>?_⟩;all_goals
  unfold ltOf cfO at*
  simp only[q4o,q6z,Nd]at*
  omega
theorem AI(x y:OSt)(h1:ltOf cfO x y=false)(h2:ltOf cfO y x=false):x=y:=by
 unfold ltOf cfO at*
 simp only[q6z,Nd]at h1 h2;obtain⟨⟨a,b,c⟩,h3,h4⟩:=x;obtain⟨⟨d,e,f⟩,h5,h6⟩:=y;simp only at*
 have e1:=KU (x:=a) (y:=d) h3 h5 (by omega);have e2:=KU (x:=b) (y:=e) h4 h6 (by omega);have e3:c=f:=by omega
 subst e1 e2 e3;rfl
def Kc(s:OSt):List Value:=[.int .i64 s.1.src,.int .i64 s.1.dst,.int .i64 s.1.kind]
theorem Z9(s:OSt):Rep σ (.agg s.1.cells) (.agg (Kc s).toArray):=by
 refine .agg _ _ (fun j=>(Kc s).toArray.getD j undef) rfl (fun j c hj=>?_) (fun j c hj=>?_)
 ·match j,hj with
  |0,_=>rfl
  |1,_=>rfl
  |2,_=>rfl
 ·match j,hj with
  |0,hj=>cases hj;exact .int _ _
  |1,hj=>cases hj;exact .int _ _
  |2,hj=>cases hj;exact .int _ _
theorem SN(W:World)(x y:OSt):Calls prog 193 (#[.agg (Kc x).toArray,.agg (Kc y).toArray] ++ #[]) W fun e w'=>e=.returned (.int .i64 (cfO x y))/\∃q os',w'=grow (W.drewN q) os':=by
 refine((Dt x.1 y.1).ok (fun _=>none) W #[.agg (Kc x).toArray,.agg (Kc y).toArray] rfl (fun j c hj=>?_) (fun b c h=>by cases h)).mono ?_
 ·match j,hj with
  |0,hj=>cases hj;exact Z9 x
  |1,hj=>cases hj;exact Z9 y
 ·rintro e w' ⟨c,u,σ',rfl,rfl,hr,_,_,hf,_⟩;cases hr;exact⟨rfl,hf.grown⟩
theorem S5{l:List OSt}{vs:Array Value}(h:∀(m:Nat)(x:AV),(l.map fun s=>AV.agg s.1.cells)[m]?=some x->x.cells.length=3/\∀(j:Nat)(c:AV),x.cells[j]?=some c->∃u:Value,vs[m*3+j]?=some u/\Rep σ c u){j:Nat}(hm:m<l.length)(hj:j<3):
  vs[m*3+j]?=(Kc l[m])[j]?:=by
 have h1:=(h m (.agg l[m].1.cells) (by simp[hm])).2
 match j,hj with
 | 0,_=>
   obtain⟨u,h2,h3⟩:=h1 0 (.int .i64 l[m].1.src) rfl;cases h3;exact h2
 | 1,_=>
   obtain⟨u,h2,h3⟩:=h1 1 (.int .i64 l[m].1.dst) rfl;cases h3;exact h2
 | 2,_=>
   obtain⟨u,h2,h3⟩:=h1 2 (.int .i64 l[m].1.kind) rfl;cases h3;exact h2
theorem S6{l:List OSt}{vs:Array Value}(h:∀(m:Nat)(hm:m<l.length)(j:Nat),j<3->vs[m*3+j]?=(Kc l[m])[j]?):∀(m:Nat)(x:AV),(l.map fun s=>AV.agg s.1.cells)[m]?=some x->x.cells.length=3/\∀(j:Nat)(c:AV),x.cells[j]?=some c->∃u:Value,vs[m*3+j]?=some u/\Rep σ c u:=by
 intro m x hx;rw[q4x]at hx;cases hq:l[m]?with
 |none=>rw[hq]at hx;cases hx
 | some s=>
   rw[hq]at hx;cases hx;obtain⟨hm,rfl⟩:=q3c.1 hq;refine⟨rfl,fun j c hj=>?_⟩
   match j,hj with
   |0,hj=>cases hj;exact⟨_,h m hm 0 (by omega),.int _ _⟩
   |1,hj=>cases hj;exact⟨_,h m hm 1 (by omega),.int _ _⟩
   |2,hj=>cases hj;exact⟨_,h m hm 2 (by omega),.int _ _⟩
theorem Gi{d:Array OSt}{t:Nat}(h:t<d.size*3):(flatK Kc 3 d)[t]?=(Kc (d[t/3]'(by omega)))[t%3]?:=by
 have h1:=get_flatK Kc 3 d t h;rw[q8e _ t (by simpa using h),q8e d (t/3) (by omega)]at h1;rw[q5m (by simpa using h),h1];have h3:t%3<(Kc (d[t/3]'(by omega))).length:=by simp[Kc];omega
 rw[q3b h3,q8e (Kc (d[t/3]'(by omega))) (t%3) h3]
def UC(l:List Step):List Step:=l.mergeSort fun x y=> !GE y x
theorem LO{l:List Step}:(UC l).length=l.length:=by unfold UC;simp
theorem V0(l:List Step):(UC l).Perm l:=List.mergeSort_perm _ _
theorem DK(l:List OSt)(hlen:l.length<=1000000000):
  SpecH prog 192 [.hd 1000 0 l.length,.p (.fn 193 [])] [(1000,.own 206 3 (l.map fun s=>.agg s.1.cells))]
   (fun r H=>r=.p (.tup [])/\H=[(1000,.own 206 3 ((l.mergeSort fun x y=> !(ltOf cfO) y x).map fun s=>.agg s.1.cells))]):=by
 refine⟨call192,fun σ β w vals hn hv hH=>?_⟩;obtain⟨v,u,rfl⟩:=O2 hn;have hv1:RepL σ β (.hd 1000 0 l.length) v:=by simpa using hv 0 _ rfl
 have hv2:RepL σ β (.p (.fn 193 [])) u:=by simpa using hv 1 _ rfl
 obtain rfl:u=.func (.func 193) #[] #[]:=by
  cases hv2 with
  | p h=>cases h with
    | fn _ _ vs u hn' hc hr=>
      obtain rfl:vs=#[]:=Array.size_eq_zero_iff.1 hn';rfl
 have hch:=hH.chunks 1000 _ q3d;rcases hch with⟨hb0,hes⟩|⟨i,vs,hi,hsz,hh,h2,h3,h4,h5⟩
 ·have hl0:l=[]:=List.map_eq_nil_iff.1 hes;subst hl0;obtain⟨rfl,_⟩:=Ph hv1 hb0;have hc:=AnyF.slices_SortFunc_none Ve none 0 (.func (.func 193) #[] #[]) w;change Calls prog 192 _ _ _ at hc;refine hc.mono ?_;rintro e w' ⟨rfl,rfl⟩;exact⟨.p (.tup []),.tuple #[],σ,β,_,rfl,⟨rfl,rfl⟩,.p (.tup [] #[] (fun _=>undef) rfl (by simp) (by simp)),by simpa using hH,by simpa using Later.refl _ _ _ _⟩
 ·have hve:=Hk hv1 hi;subst hve;have hlt:=(hH.apart 1000 (by simp) i hi i.blk i.has_blk).2;have hcap:l.length<=i.cap:=by simpa using h3
  have hle:l.length*3<=vs.size:=by rw[h2];omega
  have hget:=fun m j hm hj=>S5 (σ:=σ) (l:=l) h5 (m:=m) (j:=j) hm hj;have hc:=AnyQ.slices_SortFunc_total Ve 3 Tryz.isAgg206 Tryz.sizeOf206 Kc (fun _=>rfl) (fun x v hv=>by simp[Kc]at hv;rcases hv with rfl|rfl|rfl<;>rfl) cfO AE 193 #[] i.blk 0 i.cap l.toArray w
   call193 (fun m os dk _ x y=>SN _ x y) (fun t ht=>by
    have ht':t<l.toArray.size*3:=by simpa using ht
    refine⟨?_,VE hh _⟩;have h6:=Gi ht';have h7:=hget (t/3) (t%3) (by simp at ht';omega) (by omega);rw[Nat.div_add_mod']at h7;rw[KA hh,q5n,h7,q8e _ t (by simpa using ht')];rw[q5m (by simpa using ht')]at h6;simpa using h6.symm) hlt (by simp;omega) AI
  simp only[q7h]at hc;change Calls prog 192 _ _ _ at hc;refine hc.mono ?_;rintro e w' ⟨rfl,n,os,rfl⟩;generalize hS:(l.mergeSort fun x y=> !(ltOf cfO) y x)=S;have hSl:S.length=l.length:=by rw[<-hS];simp
  obtain⟨hf,hb⟩:=Q8 (enc:=id) (n:=n) (os:=os) (d:=flatK Kc 3 S.toArray) hh hlt;obtain⟨hH',hL⟩:=K3 (c':=.own 206 3 (S.map fun s=>.agg s.1.cells)) hH hi hf (.inr ⟨i,_,hi,hsz,hb,by rw[NL];exact h2,by simp[hSl];exact hcap,h4,S6 fun m hm j hj=>by
   have h6:=FV (enc:=id) (d:=flatK Kc 3 S.toArray) (vs:=vs) (by simp[hSl];omega) (k:=m*3+j) (by simp;omega);have h7:=Gi (d:=S.toArray) (t:=m*3+j) (by simp;omega);rw[q5m (by simp;omega)]at h7;rw[h6];simp only[id];rw[h7];simp[show(m*3+j)/3=m by omega,show(m*3+j)%3=j by omega]⟩)
  exact⟨.p (.tup []),.tuple #[],σ,β,_,rfl,⟨rfl,rfl⟩,.p (.tup [] #[] (fun _=>undef) rfl (by simp) (by simp)),hH',hL⟩
theorem Wi(l:List Step)(hok:∀s∈l,okSt s)(hlen:l.length<=1000000000):
  SpecH prog 192 [.hd 1000 0 l.length,.p (.fn 193 [])] [(1000,.own 206 3 (l.map fun s=>.agg s.cells))]
   (fun r H=>r=.p (.tup [])/\H=[(1000,.own 206 3 ((UC l).map fun s=>.agg s.cells))]):=by
 have h:=DK (l.attachWith okSt hok) (by simpa using hlen);have e1:((l.attachWith okSt hok).map fun s=>AV.agg s.1.cells)=l.map fun s=>AV.agg s.cells:=by
  have:=q5i (List.map fun s:Step=>AV.agg s.cells) (List.attachWith_map_subtype_val (l:=l) (p:=okSt) hok);simp
 have e2:(((l.attachWith okSt hok).mergeSort fun x y=> !(ltOf cfO) y x).map fun s=>AV.agg s.1.cells)=(UC l).map fun s=>AV.agg s.cells:=by
  have h1:=List.map_mergeSort (l:=l.attachWith okSt hok) (f:=Subtype.val) (r:=fun x y=> !(ltOf cfO) y x) (s:=fun x y=> !GE y x) (fun a _ b _=>rfl);rw[List.attachWith_map_subtype_val]at h1;unfold UC;rw[<-h1,q8c];rfl
 rw[e1,e2]at h;simpa using h
section
variable {P:Program}{T:Tab}{N:Nat}
theorem Ez{β:Lab}{k:Nat}{H H':Heap}{d:Chunk}{w w':World}{i:BInfo}(h:HRel σ β H w)(hk:k∈H.map (·.1))(hi:β k=some i)(hf:Frm (fun b=>b=i.blk) w w')(h3:H'.map (·.1)=H.map (·.1))(h4:∀j c,(j,c)∈H'->j≠k->(j,c)∈H)(h5:∀c,(k,c)∈H'->c=d)(hnew:d.holds σ β w' k):HRel σ β H' w'/\Later σ β H w σ β H' w':=by
 have hap:=h.apart k hk i hi;refine⟨⟨fun b cs hb=>?_,fun j c hj=>?_,by rw[h3];exact h.nodup,fun j hj i' hi' b hb=>?_,fun j hj j' hj'=>h.inj j (h3▸hj) j' (h3▸hj')⟩,Mem.le_refl σ,⟨hf.os,hf.tape,hf.output,hf.drawn,hf.size,fun b hb hn=>hf.block b hb fun he=>hn ⟨k,hk,i,hi,.inl he.symm⟩⟩,
  fun b h0 h1=>absurd h0 h1,fun b ⟨j,hj,r⟩=>.inl ⟨j,h3▸hj,r⟩,fun _ _ _=>rfl⟩
 ·obtain⟨e,fr,hh⟩:=h.mem b cs hb;exact⟨e,fr,(hf.block b (q4p.1 hh).1 fun he=>by rw[he,(hap _ i.has_blk).1]at hb;cases hb).trans hh⟩
 ·by_cases hjk:j=k
  ·subst hjk;rw[h5 c hj];exact hnew
  ·have hm:=h4 j c hj hjk;have hjm:j∈H.map (·.1):=q3s.2 ⟨_,hm,rfl⟩;exact(h.chunks j c hm).mono (Mem.le_refl σ) fun i' hi' b hb=>hf.block b (h.apart j hjm i' hi' b hb).2 fun he=>hjk (h.inj j hjm k hk i' i hi' hi b hb (.inl he.symm))
 ·have:=h.apart j (h3▸hj) i' hi' b hb;exact⟨this.1,q6a this.2 hf.size⟩
theorem OpK.clear(hT:TabOK P T){s:St}{o:Oper}{K:St->Prop}{t:TypeId}{x:Operand}(hop:o.op=.call {callee:=.builtin .clear,args:=#[x],argTypes:=#[t]}){k off len:Nat}(hx:QR s.sl x=.hd k off len){e sz:Nat}{es:List AV}(hg:getH s.H k=some (.own e sz es)){i ie:TyI}(ht:T.get t=some i)(hd:i.desc=.slice e)(hte:T.get e=some ie)(hz:ie.zero.cells.size=sz)(hone:ie.zero.cells.all (·.oneCell')=true)(hpos:0<sz)(h:K7 s.H k (.own e sz (es.take off)) fun H=>setD N s.sl o.dst (.p (.tup [])) fun sl=>K ⟨sl,H⟩):OpK P N s o K:=by
 refine⟨fun σ β a w hr Q=>?_⟩;have hx':=QZ hr.slots x;rw[hx]at hx';generalize hxe:a.eval x=v at hx';obtain⟨H',hK,h3,h4,h5⟩:=KG hr.heap.nodup h;have hlab:=XQ hg;have hu:=hT.of ht;rw[hd]at hu;have hue:=hT _ _ hte;have htup:RepL σ β (.p (.tup [])) (.tuple #[]):=.p (.tup [] #[] (fun _=>undef) rfl (by simp) (by simp));have hbc:∀{w'} ,(Builtin.clear_ #[t] o.type #[v]).run P w=.ok (.tuple #[]) w'->(execOp a.eval o).run P w=.ok (.value (.tuple #[])) w':=fun {w'} hc=>by
  simp[execOp,hop,resolve,invoke,builtin,hxe,hc]
 have hch:=hr.heap.chunks k _ (QG hg);have none':len=0->(Builtin.clear_ #[t] o.type #[v]).run P w=.ok (.tuple #[]) w->(o.wp P a w (fun a' w'=>∃σ' β' s',K s'/\Rel N σ' β' s' a' w'/\Later σ β s.H w σ' β' s'.H w') Q):=fun _ hrun=>by
  have hheap:HRel σ β H' w/\Later σ β s.H w σ β H' w:=by
   refine⟨⟨hr.heap.mem,fun j c hj=>?_,by rw[h3];exact hr.heap.nodup,fun j hj=>hr.heap.apart j (h3▸hj),fun j hj j' hj'=>hr.heap.inj j (h3▸hj) j' (h3▸hj')⟩,Mem.le_refl σ,Frm.refl _ w,fun b h0 h1=>absurd h0 h1,fun b ⟨j,hj,r⟩=>.inl ⟨j,h3▸hj,r⟩,fun _ _ _=>rfl⟩;by_cases hjk:j=k
   ·subst hjk;rw[h5 c hj];rcases hch with⟨h6,h7⟩|⟨bi,vs,h6,h7,h8,h9,h10,h11,h12⟩
    ·exact .inl ⟨h6,by rw[h7];simp⟩
    ·exact .inr ⟨bi,vs,h6,h7,h8,h9,by simp;omega,h11,fun m x hx=>h12 m x (by rw[q4e]at hx;split at hx;exact hx;cases hx)⟩
   ·exact hr.heap.chunks j c (h4 j c hj hjk)
  have hr1:Rel N σ β ⟨s.sl,H'⟩ a w:=⟨hr.size,hr.defers,hr.slots,hheap.1⟩;obtain⟨sl,hK,hr2⟩:=hr1.setD htup hK;exact WC (hbc hrun) ⟨σ,β,_,hK,hr2,hheap.2⟩
 rcases hx'.hdI with⟨hk0,hoff,hlen,hv⟩|⟨bi,oo,hk,hfit,hoo,hv⟩
 ·subst hv;refine none' hlen ?_;simp[Builtin.clear_,run_underlying hu]
 by_cases hl0:len=0
 ·subst hl0 hv;refine none' rfl ?_;simp[Builtin.clear_,run_underlying hu]
 rcases hch with⟨h6,_⟩|⟨bi',vs,h6,h7,h8,h9,h10,h11,h12⟩
 ·rw[hk]at h6;cases h6
 rw[hk]at h6;cases h6;have hoo:oo=off*sz:=by
  rcases hoo with hoo|⟨h13,_⟩
  ·rw[hoo,h7]
  ·omega
 obtain⟨zs,hzs⟩ : ∃zs,zs=(Builtin.zeroCells ie.zero.cells len).toList:=⟨_,rfl⟩;have hzl:zs.length=len*sz:=by rw[hzs];simp[Builtin.zeroCells,hz]
 have hz1:∀v∈zs,v.oneCell'=true:=fun v hv=>by
  rw[hzs]at hv;simp only[Builtin.zeroCells,Array.toList_map,q3s]at hv;obtain⟨q,hq,rfl⟩:=hv;have hlt:q%ie.zero.cells.size<ie.zero.cells.size:=Nat.mod_lt _ (by omega);rw[q8e ie.zero.cells (q%ie.zero.cells.size) hlt];exact Array.all_eq_true.1 hone _ hlt
 have hend:off*sz+len*sz<=vs.size:=by
  rw[h9,<-q6q];exact q5j _ hfit
 have hst:=run_storeCells_cells (P:=P) bi.blk oo zs 0 w (fun j hj=>by
   have:oo+0+j<vs.size:=by omega
   simp only[World.cell?,h8];rw[q5m this];rfl) (fun j hj=>by simp[World.frozen?,h8]) hz1
 have hrun:(Builtin.clear_ #[t] o.type #[v]).run P w=.ok (.tuple #[]) (w.setCells bi.blk oo zs):=by
  subst hv;have hzv:(zeroValue e).run P w=.ok ie.zero w:=by
   have:=hue.info;cases hq:P.info? e with
   |none=>rw[hq]at this;cases this
   | some f=>
     rw[hq]at this;simp at this;simp[zeroValue,typeInfo,hq,this]
  obtain⟨len',rfl⟩ : ∃l',len=l'+1:=⟨len-1,by omega⟩;simp only[q7m]at hst;simp[Builtin.clear_,Sem.run_bind,run_underlying hu,hzv,<-hzs,hst]
 obtain⟨s1,s2⟩:=ZS zs oo h8;have hnew:(Chunk.own e sz (es.take off)).holds σ β (w.setCells bi.blk oo zs) k:=by
  refine .inr ⟨bi,_,hk,h7,s1,by rw[VB];exact h9,by simp;omega,h11,fun m x hx=>?_⟩;rw[q4e]at hx;split at hx
  ·rename_i hm;obtain⟨h13,h14⟩:=h12 m x hx;refine⟨h13,fun j c hj=>?_⟩;obtain⟨u,h15,h16⟩:=h14 j c hj;have hjl:j<sz:=by rw[<-h13];exact(q3c.1 hj).1
   have hlt:m*sz+j<off*sz:=by
    have:(m+1)*sz<=off*sz:=q5j _ hm;rw[q6q]at this;omega
   exact⟨u,by rw[GJ _ _ _ _ (by omega),if_neg (by omega)];exact h15,h16⟩
  ·cases hx
 obtain⟨hh,hl⟩:=Ez hr.heap hlab hk s2 h3 h4 h5 hnew;have hr1:Rel N σ β ⟨s.sl,H'⟩ a (w.setCells bi.blk oo zs):=⟨hr.size,hr.defers,hr.slots,hh⟩;obtain⟨sl,hK,hr2⟩:=hr1.setD htup hK;exact WC (hbc hrun) ⟨σ,β,_,hK,hr2,hl⟩
end
def XZ(p:Step):List Step->List Step
 |[]=>[]
 |b::r=>bif ZJ b p then XZ b r else b::XZ b r
def BY:List Step->List Step
 |[]=>[]
 |a::r=>a::XZ a r
theorem Dp{l:List Step}(h:l.length<2):BY l=l:=by
 match l,h with
 |[],_=>rfl
 |[a],_=>rfl
def avS(l:List Step):List AV:=l.map fun s=>.agg s.cells
theorem NI(l:List Step)(hlen:l.length<=1000000000):
  SpecH prog 194 [.hd 1000 0 l.length,.p (.fn 195 [])] [(1000,.own 206 3 (avS l))]
   (fun r H=>r=.hd 1000 0 (BY l).length/\H=[(1000,.own 206 3 (avS (BY l)))]):=by
 refine sH ZR func194 rfl call194 ?_;conv=>whnf
 repeat' (first|(refine iM fun _=>?_;conv=>whnf)|(apply bD<;>intro _<;>first|omega|conv=>whnf))
 ·have e:BY l=l:=Dp (by omega);rw[e];exact⟨_,q3e _,rfl,rfl⟩
 refine LoopK.inv QY (fun k:Nat=>⟨[(0,.hd 1000 0 l.length),(1,.p (.fn 195 [])),(5,.p (.int .i64 k))],[(1000,.own 206 3 (avS l))]⟩)
  (fun k=>1<=k/\k<=l.length/\∃a,l[k-1]?=some a/\l.take k++XZ a (l.drop k)=BY l) (fun k=>l.length-k) 1 (Le.of_eq rfl) ⟨q4h _,by omega,?_⟩ ?_
 ·cases l with
  |nil=>simp at*
  |cons a r=>exact⟨a,rfl,rfl⟩
 rintro k ⟨h1,h2,a,ha,h3⟩;rcases q4w k l.length with hk|hk;rotate_left 1
 ·rw[q4j hk,q4g hk]at h3;conv=>whnf
  repeat' (first|(refine iM fun _=>?_;conv=>whnf)|(apply bD<;>intro _<;>first|omega|conv=>whnf))
  rw[<-h3,XZ,q5c];exact⟨_,q3e _,rfl,rfl⟩
 rw[q4a hk,XZ]at h3;have hk1:k-1<l.length:=by omega
 obtain⟨_,ha'⟩:=q3c.1 ha;have gk:(avS l)[k]?=some (.agg l[k].cells):=by simp[avS,hk]
 have gk1:(avS l)[k-1]?=some (.agg a.cells):=by simp[avS,ha]
 conv=>whnf
 repeat' (first|((first|(refine iM fun _=>?_)|refine cP (Zl _ _) ?_|refine dA ?_|refine q3l rfl ?_|refine wI ?_|refine q5z k (by omega) (by omega) ?_|refine q5z (k-1) (by omega) (by omega) ?_|refine q5f k 0 (.agg l[k].cells) (by omega) gk ?_|refine q5f (k-1) 0 (.agg a.cells) (by omega) gk1 ?_|refine q8s k l.length rfl rfl (by omega) (by omega) ?_);conv=>whnf)|(apply bD<;>intro _<;>first|omega|conv=>whnf)|(apply bB<;>intro _<;>conv=>whnf))
 rotate_left 1
 ·have hsm:ZJ l[k] a=false:=by assumption
  rw[hsm,q4f]at h3;exact⟨k+1,⟨by omega,by omega,l[k],by simp[hk],by rw[<-h3,q4y hk,q4c];rfl⟩,by omega,Le.of_eq rfl⟩
 have hsm:ZJ l[k] a=true:=by assumption
 rw[hsm,q4v]at h3;clear ha ha' gk gk1 hk1 hsm;refine LoopK.inv QY (fun x:Nat×Nat×List Step=>⟨[(0,.hd 1000 0 l.length),(1,.p (.fn 195 [])),(5,.p (.int .i64 x.2.1)),(6,.hd 1000 (0+k) (l.length-k)),(7,.p (.int .i64 x.1))],[(1000,.own 206 3 (avS x.2.2))]⟩)
  (fun x=>1<=x.1/\x.1<=l.length-k/\x.2.1<=k+x.1-1/\x.2.2.length=l.length/\x.2.2.drop (k+x.1-1)=l.drop (k+x.1-1)/\∃a,l[k+x.1-1]?=some a/\x.2.2.take x.2.1++XZ a (l.drop (k+x.1))=BY l) (fun x=>l.length-k-x.1) (1,k,l) (Le.of_eq rfl) ⟨q4h _,by simp only;omega,by simp only;omega,rfl,rfl,l[k],by simp[hk],h3⟩ ?_
 rintro⟨q,i,es⟩ ⟨h4,h5,h6,h7,h8,a,ha,h9⟩;clear h3;simp only at h4 h5 h6 h7 h8 ha h9⊢;have hes:(avS es).length=l.length:=by simp[avS,h7]
 rcases q4w q (l.length-k)with hq|hq
 ·have hkq:k+q<l.length:=by omega
  have e1:es[k+q]?=l[k+q]?:=by
   have:=q5i (fun x=>x[1]?) h8;simp only[q5t]at this
   rwa[show k+q-1+1=k+q by omega]at this
  have e2:es[k+q-1]?=some a:=by
   have:=q5i (fun x=>x[0]?) h8;simp only[q5t,q7m]at this;rw[this,ha]
  rw[q3b hkq]at e1;have gk:(avS es)[k+q]?=some (.agg l[k+q].cells):=by simp[avS,e1]
  have gk1:(avS es)[k+q-1]?=some (.agg a.cells):=by simp[avS,e2]
  have hi:i<es.length:=by omega
  have gi:(avS es)[i]?=some (.agg es[i].cells):=by simp[avS,hi]
  rw[q4a hkq,XZ]at h9;conv=>whnf
  repeat' (first|((first|(refine iM fun _=>?_)|refine cP (Zl _ _) ?_|refine dA ?_|refine q3l rfl ?_|refine wI ?_|refine q5z q (by omega) (by omega) ?_|refine q5z (q-1) (by omega) (by omega) ?_|refine q5z i (by omega) (by omega) ?_|refine q5f (k+q) 0 (.agg l[k+q].cells) (by omega) gk ?_|refine q5f (k+q-1) 0 (.agg a.cells) (by omega) gk1 ?_|refine q7z i 0 (.agg es[i].cells) (.agg l[k+q].cells) (by omega) gi (show 3<=3 from q4h 3) rfl ?_);conv=>whnf)|(apply bD<;>intro _<;>first|omega|conv=>whnf)|(apply bN<;>intro _<;>conv=>whnf))
  ·have hsm:ZJ l[k+q] a=true:=by assumption
   rw[hsm,q4v]at h9;exact⟨(q+1,i,es),⟨by simp only;omega,by simp only;omega,by simp only;omega,h7,by
    have:=q5i (List.drop 1) h8;simp only[List.drop_drop]at this;simpa only[show k+(q+1)-1=k+q-1+1 by omega]using this,l[k+q],by simp[hkq],h9⟩,by simp only;omega,Le.of_eq rfl⟩
  ·have hsm:ZJ l[k+q] a=false:=by assumption
   rw[hsm,q4f]at h9;have h10:(es.set i l[k+q]).drop (k+q)=l.drop (k+q):=by
    rw[List.drop_set_of_lt (by omega)];have:=q5i (List.drop 1) h8;simp only[List.drop_drop]at this
    rwa[show k+q-1+1=k+q by omega]at this
   exact⟨(q+1,i+1,es.set i l[k+q]),⟨by simp only;omega,by simp only;omega,by simp only;omega,by simp only[q5s];exact h7,h10,l[k+q],by simp[hkq],by
    simp only;rw[<-h9,q4y (by simp;omega),List.take_set_of_le (by omega),List.getElem_set_self,q4c];rfl⟩,by simp only;omega,Le.of_eq (by simp only[avS,q5a];rfl)⟩
 ·have hqe:k+q=l.length:=by omega
  rw[hqe,List.drop_length,XZ,q5c]at h9;conv=>whnf
  repeat' (first|((first|(refine iM fun _=>?_)|refine q3l rfl ?_|refine q8s i l.length rfl rfl (by omega) (by omega) ?_);conv=>whnf)|(apply bD<;>intro _<;>first|omega|conv=>whnf))
  refine OpK.clear QY rfl rfl rfl rfl rfl rfl rfl (by kernel_rfl) (by decide) ?_;conv=>whnf
  repeat' ((first|refine q3l rfl ?_|refine q8s 0 i rfl rfl (by omega) (by omega) ?_);conv=>whnf)
  have hl:i=(BY l).length:=by rw[<-h9];simp;omega
  exact⟨_,q8u (by rw[<-hl];rfl),rfl,by rw[q5n,<-h9];simp[avS,List.map_take]⟩
def WX(l:List Step):List Step:=BY (UC l)
theorem H3(l:List Step)(hok:∀s∈l,okSt s)(hlen:l.length<=1000000000):
  SpecH prog 154 [.hd 1000 0 l.length] [(1000,.own 206 3 (avS l))] (fun r H=>r=.hd 1000 0 (WX l).length/\H=[(1000,.own 206 3 (avS (WX l)))]):=by
 refine sH D4 func154 rfl call154 ?_;conv=>whnf
 repeat' (first|(refine CallK.heap [(1000,1000)] 0 (by repeat' (first|exact q4d|refine q3i ?_ ?_|exact q3e _|exact q4q Sub.nils|exact q4q (Sub.tt rfl)|exact q4q (Sub.ff rfl)|exact q4q (Sub.int (by omega)))) (by refine q3h (j:=1000) rfl rfl ?_ ?_;exact CSub.refl _;exact q4b) (Wi l hok hlen) rfl rfl ?_;rintro l' H' ⟨rfl,rfl⟩;conv=>whnf)|(refine CallK.heap [(1000,1000)] 0 (q3i (q8u (by rw[LO];rfl)) (q3i (q3e _) q4d)) (by refine q3h (j:=1000) rfl rfl ?_ ?_;exact CSub.refl _;exact q4b) (NI (UC l) (by rw[LO];exact hlen)) rfl rfl ?_;rintro l' H' ⟨rfl,rfl⟩;conv=>whnf))
 exact⟨_,q3e _,rfl,rfl⟩
def UJ(sh:Sheet)(f:Pr)(it:Item):List Int:=
 if it.s.kind=5 then [NV it.s.thn it.next,NV it.s.els it.next]
 else if it.s.kind=6 then [NV it.s.thn it.s.id,it.next]
 else if it.s.kind=7 then [((sh.l[(it.loop-1).toNat]?).map Item.next).getD 0]
 else if it.s.kind=8 then [it.loop]
 else if it.s.kind=9 then [-1]
 else if it.s.kind=10 then [(atB f it.s.name).1]
 else [it.next]
theorem Uw(l:List S)(o:Int):SpecP prog 223 [eSs l,.int .i64 o] (fun r=>r=.int .i64 (NV l o)):=by
 unfold eSs;rw[S.avs_eq];exact RF l o
theorem Zm(p:Pg)(j:Nat)(f:Pr)(hj:p.procs[j]?=some f)(hc:cntP p.procs<=1000)(it:Item)(hp:it.proc=j)(hl:it.s.kind=7->1<=it.loop/\it.loop<=(sheetOf p).l.length):SpecP prog 183 [.ip (sheetOf p).cells,.agg it.cells] (fun r=>r=XU (UJ (sheetOf p) f it)):=by
 refine sB MB func183 rfl call183 ?_;conv=>whnf
 have hlen:=(QU p).2.2.2.1;have hx:it.s.kind=7->∃u,(sheetOf p).l[(it.loop-1).toNat]?=some u/\((sheetOf p).l.map fun i=>AV.agg i.cells)[(it.loop-1).toNat]?=some (.agg u.cells):=fun h=>by
  have:=hl h;have hlt:(it.loop-1).toNat<(sheetOf p).l.length:=by omega
  exact⟨_,q3b hlt,by rw[q4x,q3b hlt];rfl⟩
 repeat' (first|((first|refine dA ?_|refine q3l rfl ?_|refine aD ?_|refine bP ?_|refine wI ?_|(refine CallK.pure (KO p j f hj hc it.s.name) (.cons (Sub.refl _) (.cons (Sub.int hp) (.cons (Sub.refl _) .nil))) ?_;rintro _ rfl)|refine JB rfl rfl ?_|refine cP (Uw it.s.thn _) ?_|refine cP (Uw it.s.els _) ?_|(obtain⟨u,hu1,hu2⟩:=hx (by assumption);refine IdxK.at (by have:=hl (by assumption);omega) hu2 rfl ?_));conv=>whnf)|(apply bD<;>intro _<;>first|omega|conv=>whnf))
 all_goals first
  |exact RetK.p (by unfold UJ;rw[if_neg (by assumption),if_neg (by assumption),if_pos (by assumption),hu1];rfl)
  |exact RetK.p (by unfold UJ;rw[if_pos (by assumption)];rfl)
  |exact RetK.p (by unfold UJ;rw[if_neg (by assumption),if_pos (by assumption)];rfl)
  |exact RetK.p (by unfold UJ;rw[if_neg (by assumption),if_neg (by assumption),if_neg (by assumption),if_pos (by assumption)];rfl)
  |exact RetK.p (by unfold UJ;rw[if_neg (by assumption),if_neg (by assumption),if_neg (by assumption),if_neg (by assumption),if_pos (by assumption)];rfl)
  |exact RetK.p (by unfold UJ;rw[if_neg (by assumption),if_neg (by assumption),if_neg (by assumption),if_neg (by assumption),if_neg (by assumption),if_pos (by assumption)];rfl)
  |exact RetK.p (by unfold UJ;rw[if_neg (by assumption),if_neg (by assumption),if_neg (by assumption),if_neg (by assumption),if_neg (by assumption),if_neg (by assumption)];rfl)
def QK(p:Pg)(j:Nat)(f:Pr):List Step:=
 ⟨0,if QL p.procs j<QL p.procs j+cntL f.body then((QL p.procs j:Nat)+1:Int)else -1,1⟩::(itL j 0 (-1) 0 (QL p.procs j) f.body).flatMap fun it=>(UJ (sheetOf p) f it).map (Step.mk it.s.id · 1)
def itsOf(p:Pg)(j:Nat)(f:Pr):List Item:=itL j 0 (-1) 0 (QL p.procs j) f.body
theorem X4(p:Pg)(j:Nat)(f:Pr)(hj:p.procs[j]?=some f)(hc:cntP p.procs<=1000)(hl:∀it∈itsOf p j f,it.s.kind=7->1<=it.loop/\it.loop<=(sheetOf p).l.length)(hok:∀s∈QK p j f,okSt s):SpecP prog 139 [.ip (sheetOf p).cells,.int .i64 j] (fun r=>r=GN (WX (QK p j f))):=by
 refine sB PY func139 rfl call139 ?_;conv=>whnf
 obtain⟨_,_,_,hlen,hsp⟩:=QU p;obtain⟨hlo,hhi,hle,_⟩:=hsp j f hj;repeat' ((first|(refine iM fun _=>?_)|refine q3l rfl ?_|refine aD ?_|refine cP (GM (sheetOf p) j _ _ hlo hhi) ?_|refine cP (M7 p hj hc) ?_|refine q8i (fun x hx=>by rcases q3r.1 hx with rfl;rfl) rfl ?_);conv=>whnf)
 have hraw:QK p j f=⟨0,if QL p.procs j<QL p.procs j+cntL f.body then((QL p.procs j:Nat)+1:Int)else -1,1⟩::(itsOf p j f).flatMap fun it=>(UJ (sheetOf p) f it).map (Step.mk it.s.id · 1):=rfl;have hits:itL j 0 (-1) 0 (QL p.procs j) f.body=itsOf p j f:=rfl;have hpr:∀it∈itsOf p j f,it.proc=j:=fun it h=>FE _ _ _ _ _ _ it h;have hib:(itsOf p j f).length<=1000:=by rw[<-hits,ZP];omega
 rw[hits];generalize itsOf p j f=its at hl hraw hpr hib⊢;have hil:=WO its;refine LoopK.inv QY (fun i:Nat×List Step=>⟨[(0,.p (.ip (sheetOf p).cells)),(5,.hd 0 0 i.2.length),(17,.p (VH its)),(18,.p (.int .i64 (its.map fun i=>AV.agg i.cells).length)),(19,.p (.int .i64 i.1))],[(0,.own 206 3 (avS i.2))]⟩)
  (fun i=>i.1<=its.length/\i.2.length<=1+2*i.1/\i.2++(its.drop i.1).flatMap (fun it=>(UJ (sheetOf p) f it).map (Step.mk it.s.id · 1))=QK p j f) (fun i=>its.length-i.1) (0,[⟨0,if QL p.procs j<QL p.procs j+cntL f.body then((QL p.procs j:Nat)+1:Int)else -1,1⟩]) (Le.of_eq rfl) ⟨q3o _,by simp,by rw[hraw];rfl⟩ ?_
 rintro⟨m,acc⟩ ⟨h2,h3,h4⟩;simp only at h2 h3 h4⊢;rcases q4w m its.length with hm|hm;rotate_left 1
 ·have hacc:acc=QK p j f:=by
   rw[q4j hm]at h4;simpa using h4
  rw[<-hacc]at hok⊢;conv=>whnf
  repeat' (first|(apply bD<;>intro _<;>first|omega|conv=>whnf)|(refine CallK.heap [(1000,0)] 0 (by repeat' (first|exact q4d|refine q3i ?_ ?_|exact q3e _|exact q4q Sub.nils|exact q4q (Sub.tt rfl)|exact q4q (Sub.ff rfl)|exact q4q (Sub.int (by omega)))) (by refine q3h (j:=0) rfl rfl ?_ ?_;exact CSub.refl _;exact q4b) (H3 acc hok (by omega)) rfl rfl ?_;rintro l' H' ⟨rfl,rfl⟩;conv=>whnf))
  exact⟨_,.hd rfl (by simp[avS]),rfl⟩
 have hgl:(UJ (sheetOf p) f its[m]).length<=2:=by unfold UJ;split<;>(try split)<;>(try split)<;>(try split)<;>(try split)<;>(try split)<;>simp
 rw[YC hm]at h4;have him:=q4u hm;conv=>whnf
 repeat' (first|((first|(refine iM fun _=>?_)|refine q3l rfl ?_|(refine iA fun _=>?_)|refine cP (Zm p j f hj hc its[m] (hpr _ him) (hl _ him)) ?_);conv=>whnf)|(apply bD<;>intro _<;>first|omega|conv=>whnf))
 generalize hgs:UJ (sheetOf p) f its[m]=gs at hgl h4⊢;have hgsl:(gs.map (AV.int .i64)).length=gs.length:=q3f _;refine LoopK.inv QY (fun i:Nat×List Step=>⟨[(0,.p (.ip (sheetOf p).cells)),(5,.hd 0 0 i.2.length),(7,.p (.ip its[m].cells)),(17,.p (VH its)),(18,.p (.int .i64 (its.map fun i=>AV.agg i.cells).length)),(19,.p (.int .i64 m)),(25,.p (XU gs)),(26,.p (.int .i64 (gs.map (AV.int .i64)).length)),(27,.p (.int .i64 i.1))],[(0,.own 206 3 (avS i.2))]⟩)
  (fun i=>i.1<=gs.length/\i.2.length<=acc.length+i.1/\i.2++((gs.drop i.1).map (Step.mk its[m].s.id · 1)++(its.drop (m+1)).flatMap (fun it=>(UJ (sheetOf p) f it).map (Step.mk it.s.id · 1)))=QK p j f) (fun i=>gs.length-i.1) (0,acc) (Le.of_eq rfl) ⟨q3o _,by simp,h4⟩ ?_
 rintro⟨q,acc2⟩ ⟨h5,h6,h7⟩;simp only at h5 h6 h7⊢;rcases q4w q gs.length with hq|hq;rotate_left 1
 ·rw[q4j hq]at h7;conv=>whnf
  repeat' (first|(refine wI ?_;conv=>whnf)|(apply bD<;>intro _<;>first|omega|conv=>whnf))
  exact⟨(m+1,acc2),⟨by simp only;omega,by simp only;omega,by simpa using h7⟩,by simp only;omega,Le.of_eq rfl⟩
 rw[q4a hq,q4t]at h7;conv=>whnf
 repeat' (first|((first|refine q3l rfl ?_|refine aD ?_|refine bP ?_|(refine iA fun _=>?_)|refine wI ?_|refine q6g (by simp[avS]) rfl (by show(acc2.length+1)*24<=140737488355328;omega) (by show acc2.length+1<=9223372036854775807;omega) (fun x hx=>by rcases q3r.1 hx with rfl;exact⟨rfl,rfl⟩) ?_);conv=>whnf)|(apply bD<;>intro _<;>first|omega|conv=>whnf))
 exact⟨(q+1,acc2++[⟨its[m].s.id,gs[q],1⟩]),⟨by simp only;omega,by simp;omega,by simpa using h7⟩,by simp only;omega,Le.of_eq (by simp only[avS,q3m,q4z];rfl)⟩
def bv:Bool->AV
 |true=>.tt
 |false=>.ff
structure Way where
 p:Pg
 j:Nat
 n:Int
 real:List Step
 live:List Bool
def Way.cells(w:Way):List AV:=[.ip (sheetOf w.p).cells,.int .i64 w.j,.int .i64 w.n,GN w.real,.sl (w.live.map bv)]
def A4(p:Pg)(j:Nat)(n:Int)(real:AV)(lv:List AV):Heap:=[(1000,.obj 120 [.p (.ip (sheetOf p).cells),.p (.int .i64 j),.p (.int .i64 n),.p real,.hd 2000 0 lv.length]),(2000,.own 4 1 lv)]
def YJ(lo hi n x:Int):Int:=if x=0 then 0 else if x = -1 then n-1 else if lo<=x/\x<hi then x-lo+1 else -1
def loI(p:Pg)(j:Nat):Int:=(QL p.procs j:Nat)+1
def hiI(p:Pg)(j:Nat)(f:Pr):Int:=(QL p.procs j+cntL f.body:Nat)+1
theorem MJ(w:Way)(f:Pr)(hj:w.p.procs[w.j]?=some f)(hc:cntP w.p.procs<=1000)(hn:0<=w.n/\w.n<=5000)(x:Int):SpecP prog 153 [.ip w.cells,.int .i64 x] (fun r=>r=.int .i64 (YJ (loI w.p w.j) (hiI w.p w.j f) w.n x)):=by
 refine sB HY func153 rfl call153 ?_;conv=>whnf
 obtain⟨_,_,_,hlen,hsp⟩:=QU w.p;obtain⟨hlo,hhi,hle,_⟩:=hsp w.j f hj;repeat' (first|((first|refine dA ?_|refine wI ?_|(refine IdxK.at rfl (VG hlo) rfl ?_)|(refine IdxK.at rfl (VG hhi) rfl ?_));conv=>whnf)|(apply bD<;>intro _<;>first|omega|conv=>whnf))
 all_goals exact RetK.int (by unfold YJ loI hiI;(repeat' split)<;>omega)
theorem Kb(p:Pg)(j:Nat)(f:Pr)(n:Int)(real:AV)(lv:List AV)(hj:p.procs[j]?=some f)(hc:cntP p.procs<=1000)(hn:0<=n/\n<=5000)(x:Int):
  SpecH prog 153 [.ptr 1000 0,.p (.int .i64 x)] (A4 p j n real lv) (fun r H=>r=.p (.int .i64 (YJ (loI p j) (hiI p j f) n x))/\H=A4 p j n real lv):=by
 obtain⟨_,_,_,hlen,hsp⟩:=QU p;obtain⟨hlo,hhi,hle,_⟩:=hsp j f hj;refine sH HY func153 rfl call153 ?_;conv=>whnf
 repeat' (first|((first|refine dA ?_|refine wI ?_|(refine IdxK.at rfl (VG hlo) rfl ?_)|(refine IdxK.at rfl (VG hhi) rfl ?_));conv=>whnf)|(apply bD<;>intro _<;>first|omega|conv=>whnf))
 all_goals exact⟨_,q4q (Sub.int (by unfold YJ loI hiI;(repeat' split)<;>omega)),rfl,rfl⟩
def avP(l:List (Int×Int)):List AV:=l.map fun x=>.agg [.int .i64 x.1,.int .i64 x.2]
def ixP(p:Pg)(j:Nat)(f:Pr)(n:Int)(s:Step):Int×Int:=(YJ (loI p j) (hiI p j f) n s.src,YJ (loI p j) (hiI p j f) n s.dst)
theorem GF(w:Way)(f:Pr)(hj:w.p.procs[w.j]?=some f)(hc:cntP w.p.procs<=1000)(hn:0<=w.n/\w.n<=5000)(l:List Step)(hlen:l.length<=1000000):SpecP prog 94 [.ip w.cells,GN l] (fun r=>r=.sl (avP (l.map (ixP w.p w.j f w.n)))):=by
 refine sB HJ func94 rfl call94 ?_;conv=>whnf
 repeat' (refine iM fun _=>?_;conv=>whnf)
 have hl:(l.map fun s=>AV.agg s.cells).length=l.length:=q3f _;refine LoopK.inv QY (fun i:Nat×List (Int×Int)=>⟨[(0,.p (.ip w.cells)),(5,.hd 0 0 i.2.length),(8,.p (GN l)),(9,.p (.int .i64 (l.map fun s=>AV.agg s.cells).length)),(10,.p (.int .i64 i.1))],[(0,.own 207 2 (avP i.2))]⟩)
  (fun i=>i.1<=l.length/\i.2=(l.take i.1).map (ixP w.p w.j f w.n)) (fun i=>l.length-i.1) (0,[])
  (Le.mk [(0,.own 207 2 [])] (by simp[Chunk.new0];rfl) (by simp) (by simp) (.r (.cons (.nil q3d) (.r (.r (.r .nil))))) (.new q3d .nil))
  ⟨q3o _,rfl⟩ ?_
 rintro⟨m,acc⟩ ⟨h2,h3⟩;simp only at h2 h3⊢;rcases q4w m l.length with hm|hm;rotate_left 1
 ·rw[q4g hm]at h3;subst h3;conv=>whnf
  repeat' (apply bD<;>intro _<;>first|omega|conv=>whnf)
  exact⟨_,.hd rfl (by simp[avP]),rfl⟩
 have hacl:acc.length=m:=by rw[h3];simp;omega
 conv=>whnf
 repeat' (first|((first|refine dA ?_|refine q3l rfl ?_|refine aD ?_|refine bP ?_|(refine iA fun _=>?_)|refine wI ?_|refine cP (MJ w f hj hc hn _) ?_|refine q6g (by simp[avP]) rfl (by show(acc.length+1)*16<=140737488355328;omega) (by show acc.length+1<=9223372036854775807;omega) (fun x hx=>by rcases q3r.1 hx with rfl;exact⟨rfl,rfl⟩) ?_);conv=>whnf)|(apply bD<;>intro _<;>first|omega|conv=>whnf))
 exact⟨(m+1,acc++[ixP w.p w.j f w.n l[m]]),⟨by simp only;omega,by simp only;rw[h3,q4y hm,q4z];rfl⟩,by simp only;omega,Le.of_eq (by simp only[avP,q3m,q4z];rfl)⟩
theorem Qx{P:Program}{f:FuncId}{args:List LV}{H H0:Heap}{e:TypeId}{sz:Nat}{Q:List AV->Prop}(hrow:DJ 0 H0 fun H=>H=H0)(h:SpecH P f args H (fun r H'=>∃es,r=.hd 0 0 es.length/\H'=(0,.own e sz es)::H0/\Q es)):SpecH P f args H (fun r H'=>∃es,r=.p (.sl es)/\H'=H0/\Q es):=by
 refine⟨h.go,fun σ β w vals h1 h2 h3=>(h.ok σ β w vals h1 h2 h3).mono fun ex w' hx=>?_⟩;obtain⟨l,u,σ',β',H',he,⟨es,rfl,rfl,hQ⟩,hrep,hrel,hlat⟩:=hx;obtain⟨s',rfl,hle⟩:=Le.row (N:=1) (s:=⟨[(0,.hd 0 0 es.length)],(0,.own e sz es)::H0⟩) (k:=0) (e:=e) (sz:=sz) (es:=es) (zs:=[0]) rfl (K:=fun s=>s=⟨[(0,.p (.sl es))],H0⟩) (by
  show LenK es.length es _;refine⟨rfl,?_⟩;show DJ 0 H0 fun H=>(⟨[(0,.p (.sl es))],H⟩:St)=⟨[(0,.p (.sl es))],H0⟩;have key:∀{H1:Heap}{K K':Heap->Prop},(∀H,K H->K' H)->DJ 0 H1 K->DJ 0 H1 K':=fun {H1}=>by
   induction H1 with
   |nil=>intro K K' hK h;exact hK _ h
   | cons x r ih=>
     intro K K' hK h;obtain⟨j,c⟩:=x;simp only[DJ]at h⊢;cases hb:j==0 with
     | true=>
       simp only[hb,q4v]at h⊢;exact ih hK h
     | false=>
       simp only[hb,q4f]at h⊢;cases c with
       |obj e ls=>simp only[WP]at h⊢;exact ih (fun H hH=>hK _ hH) h
       |own e sz es=>exact ih (fun H hH=>hK _ hH) h
       |ext x=>exact ih (fun H hH=>hK _ hH) h
  exact key (fun H hH=>by rw[hH]) hrow)
 obtain⟨σ2,β2,hr2,hl2⟩:=hle σ' β' {tmps:=#[u],defers:=[]} w' ⟨rfl,rfl,fun i=>by
  match i with
  |0=>simpa[getS]using hrep
  |i+1=>exact .p (by simpa[getS]using Rep.any _),hrel⟩
 exact⟨.p (.sl es),u,σ2,β2,H0,he,⟨es,rfl,rfl,hQ⟩,by simpa[getS]using hr2.slots 0,hr2.heap,hlat.trans hl2⟩
theorem Kn(p:Pg)(j:Nat)(f:Pr)(n:Int)(real:AV)(lv:List AV)(hj:p.procs[j]?=some f)(hc:cntP p.procs<=1000)(hn:0<=n/\n<=5000)(l:List Step)(hlen:l.length<=1000000):
  SpecH prog 94 [.ptr 1000 0,.p (GN l)] (A4 p j n real lv) (fun r H=>∃es,r=.p (.sl es)/\H=A4 p j n real lv/\es=avP (l.map (ixP p j f n))):=by
 refine Qx (e:=207) (sz:=2) rfl ?_;refine sH HJ func94 rfl call94 ?_;conv=>whnf
 repeat' (refine iM fun _=>?_;conv=>whnf)
 have hl:(l.map fun s=>AV.agg s.cells).length=l.length:=q3f _;refine LoopK.inv QY (fun i:Nat×List (Int×Int)=>⟨[(0,.ptr 1000 0),(5,.hd 0 0 i.2.length),(8,.p (GN l)),(9,.p (.int .i64 (l.map fun s=>AV.agg s.cells).length)),(10,.p (.int .i64 i.1))],(0,.own 207 2 (avP i.2))::A4 p j n real lv⟩)
  (fun i=>i.1<=l.length/\i.2=(l.take i.1).map (ixP p j f n)) (fun i=>l.length-i.1) (0,[])
  (Le.mk [(0,.own 207 2 [])] (by simp[Chunk.new0];rfl) (by simp) (by simp[A4]) (.r (.cons (.nil q3d) (.r (.r (.r .nil))))) (.new q3d (.cons rfl (.refl _) (.cons rfl (.refl _) .nil))))
  ⟨q3o _,rfl⟩ ?_
 rintro⟨m,acc⟩ ⟨h2,h3⟩;simp only at h2 h3⊢;rcases q4w m l.length with hm|hm;rotate_left 1
 ·rw[q4g hm]at h3;subst h3;conv=>whnf
  repeat' (apply bD<;>intro _<;>first|omega|conv=>whnf)
  exact⟨_,q3e _,avP (l.map (ixP p j f n)),by simp[avP],rfl,rfl⟩
 have hacl:acc.length=m:=by rw[h3];simp;omega
 conv=>whnf
 repeat' (first|((first|refine dA ?_|refine q3l rfl ?_|refine aD ?_|refine bP ?_|(refine iA fun _=>?_)|refine wI ?_|refine q6g (by simp[avP]) rfl (by show(acc.length+1)*16<=140737488355328;omega) (by show acc.length+1<=9223372036854775807;omega) (fun x hx=>by rcases q3r.1 hx with rfl;exact⟨rfl,rfl⟩) ?_);conv=>whnf)|(apply bD<;>intro _<;>first|omega|conv=>whnf)|(refine CallK.heap [(1000,1000),(2000,2000)] 0 (by repeat' (first|exact q4d|refine q3i ?_ ?_|exact q3e _|exact q4q Sub.nils|exact q4q (Sub.tt rfl)|exact q4q (Sub.ff rfl)|exact q4q (Sub.int (by omega)))) (by refine q3h (j:=1000) rfl rfl ?_ ?_;exact CSub.refl _;refine q3h (j:=2000) rfl rfl ?_ ?_;exact CSub.refl _;exact q4b) (Kb p j f n real lv hj hc hn _) rfl rfl ?_;rintro l' H' ⟨rfl,rfl⟩;conv=>whnf))
 exact⟨(m+1,acc++[ixP p j f n l[m]]),⟨by simp only;omega,by simp only;rw[h3,q4y hm,q4z];rfl⟩,by simp only;omega,Le.mk [] (by simp) (by simp) (by simp[A4]) (.r (.cons (.of_eq (by simp only[q3m];rfl)) (.r (.r (.cons (.of_eq rfl) .nil))))) (.cons rfl (.of_eq (by simp only[avP,q4z];rfl)) (.cons rfl (.refl _) (.cons rfl (.refl _) .nil)))⟩
theorem B0{l:List Int}{x:Int}(h:l.Pairwise (· <= ·)):(Qb l (l.countP (· < x)) x).Pairwise (· <= ·):=by
 induction l with
 |nil=>simp[Qb]
 | cons a r ih=>
   obtain⟨h1,h2⟩:=q6n.1 h;by_cases ha:a<x
   ·have e:Qb (a::r) ((a::r).countP (· < x)) x=a::Qb r (r.countP (· < x)) x:=by
     unfold Qb;rw[List.countP_cons_of_pos (by simpa using ha)];rfl
    rw[e,q6n];refine⟨fun b hb=>?_,ih h2⟩;unfold Qb at hb;rcases q3a.1 hb with hb|hb
    ·exact h1 b (q8t hb)
    ·rcases q3t.1 hb with rfl|hb
     ·omega
     ·exact h1 b (List.mem_of_mem_drop hb)
   ·have e0:(a::r).countP (· < x)=0:=by
     rw[List.countP_eq_zero];intro b hb;rcases q3t.1 hb with rfl|hb
     ·simpa using ha
     ·have:=h1 b hb;simp;omega
    rw[e0];show(x::a::r).Pairwise (· <= ·);refine q6n.2 ⟨fun b hb=>?_,h⟩;rcases q3t.1 hb with rfl|hb
    ·omega
    ·have:=h1 b hb;omega
def Zs(n m:Nat)(N:List (List Int)):Prop:=N.length=n/\∀r∈N,r.Pairwise (· <= ·)/\r.length<=m
theorem Hz{n:Nat}(h:Zs n m N)(a:Nat)(b:Int):Zs n (m+1) (Uc N a b):=by
 unfold Uc;refine⟨by rw[q5s];exact h.1,fun r hr=>?_⟩;rcases q7i hr with hr|rfl
 ·obtain⟨h1,h2⟩:=h.2 r hr;exact⟨h1,by omega⟩
 ·rcases q4w a N.length with ha|ha
  ·have hm:N.getD a []∈N:=by
    rw[q3p,q3b ha];exact q4u ha
   obtain⟨h1,h2⟩:=h.2 _ hm;exact⟨B0 h1,by rw[Xb q8n];omega⟩
  ·have:N.getD a []=[]:=by simp[q5w ha]
   rw[this];exact⟨by simp[Qb],by simp[Qb]⟩
theorem Uy{n m':Nat}(h:Zs n m N)(hm:m<=m'):Zs n m' N:=⟨h.1,fun r hr=>⟨(h.2 r hr).1,q5p (h.2 r hr).2 hm⟩⟩
def Ks(n:Nat)(g:List (List Int)×List (List Int))(e:Int×Int):List (List Int)×List (List Int):=
 bif ZB n e.1&&ZB n e.2 && !(g.1.getD e.1.toNat []).contains e.2 then(Uc g.1 e.1.toNat e.2,Uc g.2 e.2.toNat e.1)else g
def QC(n:Nat)(l:List (Int×Int)):List (List Int)×List (List Int):=l.foldl (Ks n) (List.replicate n [],List.replicate n [])
def V9(m:List (List Int)):AV:=.sl ((avI m).map .sl)
def JE(g:List (List Int)×List (List Int)):AV:=.ip [V9 g.1,V9 g.2]
theorem Z8(n:Nat)(g:List (List Int)×List (List Int))(e:Int×Int):(Ks n g e).1=bif ZB n e.1&&ZB n e.2 && !(g.1.getD e.1.toNat []).contains e.2 then Uc g.1 e.1.toNat e.2 else g.1:=by
 unfold Ks;cases ZB n e.1&&ZB n e.2 && !(g.1.getD e.1.toNat []).contains e.2<;>rfl
theorem Vi(n:Nat)(g:List (List Int)×List (List Int))(e:Int×Int):(Ks n g e).2=bif ZB n e.1&&ZB n e.2 && !(g.1.getD e.1.toNat []).contains e.2 then Uc g.2 e.2.toNat e.1 else g.2:=by
 unfold Ks;cases ZB n e.1&&ZB n e.2 && !(g.1.getD e.1.toNat []).contains e.2<;>rfl
theorem SU{n:Nat}{g:List (List Int)×List (List Int)}(h:Zs n m g.1/\Zs n m g.2)(e:Int×Int):Zs n (m+1) (Ks n g e).1/\Zs n (m+1) (Ks n g e).2:=by
 rw[Z8,Vi];cases ZB n e.1&&ZB n e.2 && !(g.1.getD e.1.toNat []).contains e.2
 ·exact⟨Uy h.1 (by omega),Uy h.2 (by omega)⟩
 ·exact⟨Hz h.1 _ _,Hz h.2 _ _⟩
theorem BD{n:Nat}{l:List (Int×Int)}(hm:m<l.length):QC n (l.take (m+1))=Ks n (QC n (l.take m)) l[m]:=by
 unfold QC;rw[q4y hm,List.foldl_append];rfl
theorem LK{n:Nat}{l:List (Int×Int)}:∀{m:Nat},m<=l.length->Zs n m (QC n (l.take m)).1/\Zs n m (QC n (l.take m)).2
 | 0,_=>by
   have:Zs n 0 (List.replicate n []):=⟨by simp,fun r hr=>by rw[q6l hr];simp⟩;exact⟨this,this⟩
 | m+1,h=>by
   rw[BD h];exact SU (LK (by omega)) _
theorem Un{N':Nat}{sl:List (Nat×LV)}(n a b:Nat)(h0:(sl.all fun x=>x.2.xfree 0)=true)(h1:(sl.all fun x=>x.2.xfree 1)=true):
  Le N' ⟨sl,[(2,.obj 230 [.hd a 0 n,.hd b 0 n]),(1,.own 29 1 (List.replicate n .nils)),(0,.own 29 1 (List.replicate n .nils))]⟩
   ⟨sl,[(2,.obj 230 [.hd a 0 n,.hd b 0 n]),(1,.ext (.mat 29 3 1 (List.replicate n []) [])),(0,.ext (.mat 29 3 1 (List.replicate n []) []))]⟩:=by
 have hm:=Ye (N:=N') (sl:=sl) (H:=[(2,.obj 230 [.hd a 0 n,.hd b 0 n]),(1,.own 29 1 (List.replicate n .nils)),(0,.own 29 1 (List.replicate n .nils))])
  (H':=[(2,.obj 230 [.hd a 0 n,.hd b 0 n]),(1,.own 29 1 (List.replicate n .nils)),(0,.ext (.mat 29 3 1 (List.replicate (List.replicate n AV.nils).length []) []))])
  0 3 1 (e:=29) (es:=List.replicate n .nils) rfl (fun x hx=>q6l hx) rfl h0 rfl rfl (by simp[GW])
 have hm2:=Ye (N:=N') (sl:=sl) (H:=[(2,.obj 230 [.hd a 0 n,.hd b 0 n]),(1,.own 29 1 (List.replicate n .nils)),(0,.ext (.mat 29 3 1 (List.replicate (List.replicate n AV.nils).length []) []))])
  (H':=[(2,.obj 230 [.hd a 0 n,.hd b 0 n]),(1,.ext (.mat 29 3 1 (List.replicate (List.replicate n AV.nils).length []) [])),(0,.ext (.mat 29 3 1 (List.replicate (List.replicate n AV.nils).length []) []))])
  1 3 1 (e:=29) (es:=List.replicate n .nils) rfl (fun x hx=>q6l hx) rfl h1 rfl rfl (by simp[GW])
 have:=hm.trans hm2;simpa using this
theorem Hv(n:Nat)(hn:n<=5000)(l:List (Int×Int))(hlen:l.length<=1000000):SpecP prog 184 [.int .i64 n,.sl (avP l)] (fun r=>r=JE (QC n l)):=by
 refine sB D7 func184 rfl call184 ?_;conv=>whnf
 repeat' (first|((first|(refine iM fun _=>?_)|refine dA ?_|refine q3l rfl ?_|refine aR ?_|refine MkK.mk n rfl (by show 24*n<=140737488355328;omega) (by unfold maxLen;omega) ?_);conv=>whnf)|(apply bD<;>intro _<;>first|omega|conv=>whnf)|(refine q3l ?_ ?_<;>conv=>whnf))
 all_goals have hl:(avP l).length=l.length:=q3f _
 ·refine LoopK.inv QY (fun m:Nat=>⟨[(5,.ptr (0+1+1) 0),(20,.p (.sl (avP l))),(21,.p (.int .i64 (avP l).length)),(22,.p (.int .i64 m))],[(0+1+1,.obj 230 [.hd 0 0 n,.hd (0+1) 0 n]),(0,.ext (.mat 29 3 1 (avI (QC n (l.take m)).1) [])),(0+1,.ext (.mat 29 3 1 (avI (QC n (l.take m)).2) []))]⟩)
   (fun m=>m<=l.length) (fun m=>l.length-m) 0 (by
     refine Le.trans (Un n _ _ rfl rfl) ?_;exact Le.mk [] (by simp) (by simp) (by simp) (.r (.r (.r (.r .nil)))) (.cons rfl (.refl _) (.cons rfl (.of_eq (by simp[avI,QC])) (.cons rfl (.of_eq (by simp[avI,QC])) .nil)))) (q3o _) ?_
  rintro m h2;obtain⟨g1,g2⟩:=LK (n:=n) h2;rcases q4w m l.length with hm|hm
  ·have hme:(avP l)[m]?=some (.agg [.int .i64 l[m].1,.int .i64 l[m].2]):=by simp[avP,hm]
   conv=>whnf
   repeat' (first|((first|refine q3l rfl ?_|refine wI ?_|(refine IdxK.at rfl hme rfl ?_)|refine q5z 0 rfl (by decide) ?_|refine q5z 1 rfl (by decide) ?_);conv=>whnf)|(apply bD<;>intro _<;>first|omega|conv=>whnf)|(refine CallK.heap [(1000,0+1+1),(2001,0),(2002,1)] 0 (by repeat' (first|exact q4d|refine q3i ?_ ?_|exact q3e _|exact q4q Sub.nils|exact q4q (Sub.tt rfl)|exact q4q (Sub.ff rfl)|exact q4q (Sub.int (by omega)))) (by refine q3h (j:=2) rfl rfl ?_ ?_;exact CSub.refl _;refine q3h (j:=0) rfl rfl ?_ ?_;exact CSub.refl _;refine q3h (j:=1) rfl rfl ?_ ?_;exact CSub.refl _;exact q4b) (Hw n _ _ l[m].1 l[m].2 g1.1 g2.1 hn (fun r hr=>⟨(g1.2 r hr).1,by have:=(g1.2 r hr).2;omega⟩) (fun r hr=>⟨(g2.2 r hr).1,by have:=(g2.2 r hr).2;omega⟩)) rfl rfl ?_;rintro l' H' ⟨t,rfl,rfl⟩;conv=>whnf))
   exact⟨m+1,hm,by omega,Le.of_eq (by rw[BD hm,Z8,Vi];rfl)⟩
  ·rw[q4g hm]at g1 g2⊢;conv=>whnf
   repeat' (apply bD<;>intro _<;>first|omega|conv=>whnf)
   exact⟨_,.ptr (cs:=[V9 (QC n l).1,V9 (QC n l).2]) rfl rfl (fun i x c h1 h3=>by
    match i,h1,h3 with
    |0,h1,h3=>cases h1;cases h3;exact .mat rfl (by rw[avI,q3f,g1.1])
    |1,h1,h3=>cases h1;cases h3;exact .mat rfl (by rw[avI,q3f,g2.1])),rfl⟩
 ·refine LoopK.inv QY (fun m:Nat=>⟨[(5,.ptr (0+1+1) 0),(20,.p (.sl (avP l))),(21,.p (.int .i64 (avP l).length)),(22,.p (.int .i64 m))],[(0+1+1,.obj 230 [.hd (0+1) 0 n,.hd 0 0 n]),(0+1,.ext (.mat 29 3 1 (avI (QC n (l.take m)).1) [])),(0,.ext (.mat 29 3 1 (avI (QC n (l.take m)).2) []))]⟩)
   (fun m=>m<=l.length) (fun m=>l.length-m) 0 (by
     refine Le.trans (Un n _ _ rfl rfl) ?_;exact Le.mk [] (by simp) (by simp) (by simp) (.r (.r (.r (.r .nil)))) (.cons rfl (.refl _) (.cons rfl (.of_eq (by simp[avI,QC])) (.cons rfl (.of_eq (by simp[avI,QC])) .nil)))) (q3o _) ?_
  rintro m h2;obtain⟨g1,g2⟩:=LK (n:=n) h2;rcases q4w m l.length with hm|hm
  ·have hme:(avP l)[m]?=some (.agg [.int .i64 l[m].1,.int .i64 l[m].2]):=by simp[avP,hm]
   conv=>whnf
   repeat' (first|((first|refine q3l rfl ?_|refine wI ?_|(refine IdxK.at rfl hme rfl ?_)|refine q5z 0 rfl (by decide) ?_|refine q5z 1 rfl (by decide) ?_);conv=>whnf)|(apply bD<;>intro _<;>first|omega|conv=>whnf)|(refine CallK.heap [(1000,0+1+1),(2001,1),(2002,0)] 0 (by repeat' (first|exact q4d|refine q3i ?_ ?_|exact q3e _|exact q4q Sub.nils|exact q4q (Sub.tt rfl)|exact q4q (Sub.ff rfl)|exact q4q (Sub.int (by omega)))) (by refine q3h (j:=2) rfl rfl ?_ ?_;exact CSub.refl _;refine q3h (j:=1) rfl rfl ?_ ?_;exact CSub.refl _;refine q3h (j:=0) rfl rfl ?_ ?_;exact CSub.refl _;exact q4b) (Hw n _ _ l[m].1 l[m].2 g1.1 g2.1 hn (fun r hr=>⟨(g1.2 r hr).1,by have:=(g1.2 r hr).2;omega⟩) (fun r hr=>⟨(g2.2 r hr).1,by have:=(g2.2 r hr).2;omega⟩)) rfl rfl ?_;rintro l' H' ⟨t,rfl,rfl⟩;conv=>whnf))
   exact⟨m+1,hm,by omega,Le.of_eq (by rw[BD hm,Z8,Vi];rfl)⟩
  ·rw[q4g hm]at g1 g2⊢;conv=>whnf
   repeat' (apply bD<;>intro _<;>first|omega|conv=>whnf)
   exact⟨_,.ptr (cs:=[V9 (QC n l).1,V9 (QC n l).2]) rfl rfl (fun i x c h1 h3=>by
    match i,h1,h3 with
    |0,h1,h3=>cases h1;cases h3;exact .mat rfl (by rw[avI,q3f,g1.1])
    |1,h1,h3=>cases h1;cases h3;exact .mat rfl (by rw[avI,q3f,g2.1])),rfl⟩
def JZ(st:List Bool×List Int)(b:Int):List Bool×List Int:=bif st.1.getD b.toNat false then st else(st.1.set b.toNat true,st.2++[b])
def ZX(rows:List (List Int)):Nat->Nat->List Bool×List Int->List Bool×List Int
 |0,_,st=>st
 | k+1,i,st=>match st.2[i]?with
   |some a=>ZX rows k (i+1) ((rows.getD a.toNat []).foldl JZ st)
   |none=>st
def wkInv(n:Nat)(st:List Bool×List Int):Prop:=st.1.length=n/\st.2.length<=st.1.count true/\∀x∈st.2,0<=x/\x<n
theorem NC{n:Nat}{st:List Bool×List Int}(h:wkInv n st){b:Int}(hb:0<=b/\b<n):wkInv n (JZ st b):=by
 unfold JZ;obtain⟨h1,h2,h3⟩:=h;have hlt:b.toNat<st.1.length:=by omega
 cases hs:st.1.getD b.toNat false with
 |true=>exact⟨h1,h2,h3⟩
 | false=>
   have hg:st.1[b.toNat]=false:=by simpa[hlt]using hs
   refine⟨by simpa using h1,?_,fun x hx=>?_⟩
   ·simp only[q4f,q3m,q4r];rw[List.count_set hlt,hg];simp;omega
   ·rcases q3a.1 hx with hx|hx
    ·exact h3 x hx
    ·rw[q3r.1 hx];exact hb
theorem RP{n:Nat}{l:List Int}:∀{st:List Bool×List Int},wkInv n st->(∀b∈l,0<=b/\b<n)->wkInv n (l.foldl JZ st):=by
 induction l with
 |nil=>intro st h _;exact h
 |cons b r ih=>intro st h hl;exact ih (NC h (hl b q3d)) fun c hc=>hl c (q3n _ hc)
theorem FP{n:Nat}{st:List Bool×List Int}(h:wkInv n st):st.2.length<=n:=by
 refine q5p h.2.1 ?_;rw[<-h.1];exact List.count_le_length
def XH(n:Nat)(rows:List (List Int)):Prop:=rows.length=n/\∀r∈rows,∀b∈r,0<=b/\b<n
def Sl(st:List Bool×List Int):Heap:=[(1000,.own 4 1 (st.1.map bv)),(2000,.own 3 1 (st.2.map (.int .i64)))]
theorem Uj(n:Nat)(hn:n<=5000)(rows:List (List Int))(hr:XH n rows)(st:List Bool×List Int)(hs:wkInv n st):
  SpecH prog 186 [.p (V9 rows),.hd 1000 0 n,.hd 2000 0 st.2.length] (Sl st) (fun r H=>r=.hd 2000 0 (ZX rows (n+1) 0 st).2.length/\H=Sl (ZX rows (n+1) 0 st)):=by
 refine sH G1 func186 rfl call186 ?_;conv=>whnf
 skip
 refine LoopK.inv QY (fun x:Nat×List Bool×List Int=>⟨[(0,.p (V9 rows)),(1,.hd 1000 0 n),(2,.hd 2000 0 x.2.2.length),(7,.p (.int .i64 x.1))],Sl x.2⟩)
  (fun x=>wkInv n x.2/\x.1<=x.2.2.length/\ZX rows (n+1-x.1) x.1 x.2=ZX rows (n+1) 0 st) (fun x=>n-x.1) (0,st) (Le.of_eq rfl) ⟨hs,q3o _,rfl⟩ ?_
 rintro⟨i,seen,todo⟩ ⟨h1,h2,h3⟩;simp only at h1 h2 h3⊢;have hle:=FP h1;simp only at hle;rw[show n+1-i=n-i+1 by omega,ZX]at h3;rcases q4w i todo.length with hi|hi;rotate_left 1
 ·simp only[q5w hi]at h3;conv=>whnf
  repeat' (first|(refine iM fun _=>?_;conv=>whnf)|(apply bD<;>intro _<;>first|omega|conv=>whnf))
  exact⟨_,q8u (by rw[<-h3]),rfl,by rw[<-h3];rfl⟩
 simp only[q3b hi]at h3;have hx:=h1.2.2 _ (q4u hi);have hxr:todo[i].toNat<rows.length:=by rw[hr.1];omega
 have hrow:((avI rows).map AV.sl)[todo[i].toNat]?=some (.sl (rows[todo[i].toNat].map (.int .i64))):=by simp[avI,hxr]
 have hgd:rows.getD todo[i].toNat []=rows[todo[i].toNat]:=by simp[hxr]
 rw[hgd]at h3;have hrin:=hr.2 _ (q4u hxr);conv=>whnf
 repeat' (first|((first|(refine iM fun _=>?_)|refine q3l rfl ?_|refine q5z i (by omega) (by omega) ?_|refine q5f i 0 (.int .i64 todo[i]) (by omega) (by simp[hi]) ?_|(refine IdxK.at (by omega) hrow rfl ?_));conv=>whnf)|(apply bD<;>intro _<;>first|omega|conv=>whnf))
 have hrb:(rows[todo[i].toNat].map (AV.int .i64)).length<=9223372036854775807:=by assumption
 generalize rows[todo[i].toNat]=row at hrin h3 hrb⊢;have hrl:(row.map (AV.int .i64)).length=row.length:=q3f _;refine LoopK.inv QY (fun x:Nat×List Bool×List Int=>⟨[(0,.p (V9 rows)),(1,.hd 1000 0 n),(2,.hd 2000 0 x.2.2.length),(7,.p (.int .i64 i)),(22,.p (.sl (row.map (.int .i64)))),(23,.p (.int .i64 (row.map (AV.int .i64)).length)),(24,.p (.int .i64 x.1))],Sl x.2⟩)
  (fun x=>wkInv n x.2/\todo.length<=x.2.2.length/\x.1<=row.length/\ZX rows (n-i) (i+1) ((row.drop x.1).foldl JZ x.2)=ZX rows (n+1) 0 st) (fun x=>row.length-x.1) (0,seen,todo) (Le.of_eq rfl) ⟨h1,q4h _,q3o _,h3⟩ ?_
 rintro⟨q,s2,t2⟩ ⟨h4,h5,h6,h7⟩;simp only at h4 h5 h6 h7⊢;have hle2:=FP h4;simp only at hle2;rcases q4w q row.length with hq|hq;rotate_left 1
 ·rw[q4j hq]at h7;conv=>whnf
  repeat' (first|(refine wI ?_;conv=>whnf)|(apply bD<;>intro _<;>first|omega|conv=>whnf))
  exact⟨(i+1,s2,t2),⟨h4,by simp only;omega,by simp only;rw[show n+1-(i+1)=n-i by omega];exact h7⟩,by simp only;omega,Le.of_eq rfl⟩
 rw[q4a hq,q6v]at h7;have hb:=hrin _ (q4u hq);have h8:=NC h4 hb;have hbl:row[q].toNat<s2.length:=by have:=h4.1;simp only at this;omega
 cases hsb:s2.getD row[q].toNat false with
 | true=>
   have e1:JZ (s2,t2) row[q]=(s2,t2):=by unfold JZ;simp only[hsb,q4v]
   have e2:(s2.map bv)[row[q].toNat]?=some .tt:=by
    have:s2[row[q].toNat]=true:=by simpa[hbl]using hsb
    simp[hbl,this,bv]
   rw[e1]at h7;conv=>whnf
   repeat' (first|((first|refine q3l rfl ?_|(refine iA fun _=>?_)|refine wI ?_|refine q5z row[q].toNat (by omega) (by have:=h4.1;simp only at this;omega) ?_|refine q5f row[q].toNat 0 .tt (by omega) e2 ?_);conv=>whnf)|(apply bD<;>intro _<;>first|omega|conv=>whnf))
   all_goals exact⟨(q+1,s2,t2),⟨h4,h5,by simp only;omega,h7⟩,by simp only;omega,Le.of_eq rfl⟩
 | false=>
   have e1:JZ (s2,t2) row[q]=(s2.set row[q].toNat true,t2++[row[q]]):=by unfold JZ;simp only[hsb,q4f]
   have e2:(s2.map bv)[row[q].toNat]?=some .ff:=by
    have:s2[row[q].toNat]=false:=by simpa[hbl]using hsb
    simp[hbl,this,bv]
   rw[e1]at h7 h8;conv=>whnf
   repeat' (first|((first|refine q3l rfl ?_|refine aD ?_|refine bP ?_|(refine iA fun _=>?_)|refine wI ?_|refine q5z row[q].toNat (by omega) (by have:=h4.1;simp only at this;omega) ?_|refine q5f row[q].toNat 0 .ff (by omega) e2 ?_|refine q7z row[q].toNat 0 .ff .tt (by omega) e2 (q4h 1) rfl ?_|refine ZD (by simp) (by simp;omega) ?_);conv=>whnf)|(apply bD<;>intro _<;>first|omega|conv=>whnf))
   all_goals exact⟨(q+1,s2.set row[q].toNat true,t2++[row[q]]),⟨h8,by simp;omega,by simp only;omega,h7⟩,by simp only;omega,Le.of_eq (by simp only[Sl,q3m,q4z,q5a];rfl)⟩
def GT:Nat->List Bool->List Int
 |_,[]=>[]
 |i,b::r=>bif b then(i:Int)::GT (i+1) r else GT (i+1) r
theorem Hu(seen:List Bool)(hn:seen.length<=1000000):
  SpecH prog 187 [.hd 1000 0 seen.length] [(1000,.own 4 1 (seen.map bv))] (fun r H=>∃es,r=.p (.sl es)/\H=[(1000,.own 4 1 (seen.map bv))]/\es=(GT 0 seen).map (.int .i64)):=by
 refine Qx (e:=3) (sz:=1) rfl ?_;refine sH Vv func187 rfl call187 ?_;conv=>whnf
 repeat' (refine iM fun _=>?_;conv=>whnf)
 refine LoopK.inv QY (fun i:Nat×List Int=>⟨[(3,.hd 0 0 i.2.length),(6,.hd 1000 0 seen.length),(7,.p (.int .i64 seen.length)),(8,.p (.int .i64 i.1))],[(0,.own 3 1 (i.2.map (.int .i64))),(1000,.own 4 1 (seen.map bv))]⟩)
  (fun i=>i.1<=seen.length/\i.2.length<=i.1/\i.2++GT i.1 (seen.drop i.1)=GT 0 seen) (fun i=>seen.length-i.1) (0,[])
  (Le.mk [(0,.own 3 1 [])] (by simp[Chunk.new0];rfl) (by simp) (by simp) (.cons (.nil q3d) (.r (.r (.r .nil)))) (.new q3d (.cons rfl (.refl _) .nil)))
  ⟨q3o _,q4h _,rfl⟩ ?_
 rintro⟨m,acc⟩ ⟨h2,h3,h4⟩;simp only at h2 h3 h4⊢;rcases q4w m seen.length with hm|hm;rotate_left 1
 ·rw[q4j hm,GT,q5c]at h4;subst h4;conv=>whnf
  repeat' (apply bD<;>intro _<;>first|omega|conv=>whnf)
  exact⟨_,q3e _,(GT 0 seen).map (.int .i64),by simp,rfl,rfl⟩
 rw[q4a hm,GT]at h4;cases hsb:seen[m]with
 | true=>
   rw[hsb,q4v]at h4;have e2:(seen.map bv)[m]?=some .tt:=by simp[hm,hsb,bv]
   conv=>whnf
   repeat' (first|((first|refine q3l rfl ?_|refine aD ?_|refine bP ?_|refine wI ?_|refine q5z m rfl hm ?_|refine q5f m 0 .tt (by omega) e2 ?_|refine ZD (by simp) (by simp;omega) ?_);conv=>whnf)|(apply bD<;>intro _<;>first|omega|conv=>whnf))
   exact⟨(m+1,acc++[(m:Int)]),⟨by simp only;omega,by simp;omega,by simpa using h4⟩,by simp only;omega,Le.of_eq (by simp only[q3m,q4z];rfl)⟩
 | false=>
   rw[hsb,q4f]at h4;have e2:(seen.map bv)[m]?=some .ff:=by simp[hm,hsb,bv]
   conv=>whnf
   repeat' (first|((first|refine q3l rfl ?_|refine wI ?_|refine q5z m rfl hm ?_|refine q5f m 0 .ff (by omega) e2 ?_);conv=>whnf)|(apply bD<;>intro _<;>first|omega|conv=>whnf))
   exact⟨(m+1,acc),⟨by simp only;omega,by simp only;omega,h4⟩,by simp only;omega,Le.of_eq rfl⟩
theorem Zc(g:List (List Int)×List (List Int))(a:Int):SpecP prog 185 [JE g,.int .i64 a] (fun r=>r=.bool (ZB g.1.length a)):=by
 refine sB JN func185 rfl call185 ?_;conv=>whnf
 repeat' (first|(refine iM fun _=>?_;conv=>whnf)|(apply bD<;>intro _<;>first|omega|conv=>whnf))
 all_goals have hl:((avI g.1).map AV.sl).length=g.1.length:=by simp[avI]
 all_goals first
  |exact RetK.bool (by unfold ZB;simp[*];done)
  |exact RetK.ff (by unfold ZB;simp;omega)
 all_goals trace_state
def FK(n:Nat)(l:List Int):List Bool×List Int:=l.foldl (fun st a=>bif ZB n a then JZ st a else st) (List.replicate n false,[])
def ZF(rows:List (List Int))(l:List Int):List Bool:=(ZX rows (rows.length+1) 0 (FK rows.length l)).1
theorem PX(n:Nat):wkInv n (List.replicate n false,[]):=⟨by simp,by simp[List.count_replicate],by simp⟩
theorem FF{n:Nat}{rows:List (List Int)}(hr:XH n rows):∀(k i:Nat){st:List Bool×List Int},wkInv n st->wkInv n (ZX rows k i st)
 |0,_,_,h=>h
 | k+1,i,st,h=>by
   rw[ZX];split
   ·rename_i a ha;have hx:=h.2.2 a (q4n ha);refine FF hr k (i+1) (RP h ?_);have hlt:a.toNat<rows.length:=by rw[hr.1];omega
    rw[q3p,q3b hlt];exact hr.2 _ (q4u hlt)
   ·exact h
theorem XA{n:Nat}{a:Int}(h:ZB n a=true):0<=a/\a<n:=by
 unfold ZB at h;simpa using h
theorem LH(n:Nat)(hn:n<=5000)(g:List (List Int)×List (List Int))(hg:XH n g.1)(l:List Int)(hlen:l.length<=1000000):SpecP prog 141 [JE g,XU l] (fun r=>r=XU (GT 0 (ZF g.1 l))):=by
 refine sB DT func141 rfl call141 ?_;conv=>whnf
 have hl:((avI g.1).map AV.sl).length=n:=by simp[avI,hg.1]
 repeat' ((first|(refine iM fun _=>?_)|refine aR ?_|refine MkK.mk n (by rw[hl]) (by show 1*n<=140737488355328;omega) (by unfold maxLen;omega) ?_);conv=>whnf)
 have hll:(l.map (AV.int .i64)).length=l.length:=q3f _;refine LoopK.inv QY (fun x:Nat×List Bool×List Int=>⟨[(0,.p (JE g)),(5,.hd 0 0 n),(6,.hd 1 0 x.2.2.length),(17,.p (XU l)),(18,.p (.int .i64 (l.map (AV.int .i64)).length)),(19,.p (.int .i64 x.1))],[(0,.own 4 1 (x.2.1.map bv)),(1,.own 3 1 (x.2.2.map (.int .i64)))]⟩)
  (fun x=>x.1<=l.length/\wkInv n x.2/\(l.drop x.1).foldl (fun st a=>bif ZB n a then JZ st a else st) x.2=FK n l) (fun x=>l.length-x.1) (0,List.replicate n false,[])
  (Le.mk [(1,.own 3 1 [])] (by simp[Chunk.new0];rfl) (by simp) (by simp) (.r (.r (.cons (.nil q3d) (.r (.r (.r .nil)))))) (.cons rfl (.of_eq (by rw[q6p];rfl)) (.new q3d .nil)))
  ⟨q3o _,PX n,rfl⟩ ?_
 rintro⟨m,seen,todo⟩ ⟨h2,h3,h4⟩;simp only at h2 h3 h4⊢;have hsl:seen.length=n:=h3.1;have htl:todo.length<=n:=FP h3;rcases q4w m l.length with hm|hm;rotate_left 1
 ·rw[q4j hm,List.foldl_nil]at h4;conv=>whnf
  repeat' (first|(apply bD<;>intro _<;>first|omega|conv=>whnf)|(refine CallK.heap [(1000,0),(2000,1)] 0 (by repeat' (first|exact q4d|refine q3i ?_ ?_|exact q3e _|exact q4q Sub.nils|exact q4q (Sub.tt rfl)|exact q4q (Sub.ff rfl)|exact q4q (Sub.int (by omega)))) (by refine q3h (j:=0) rfl rfl ?_ ?_;exact CSub.refl _;refine q3h (j:=1) rfl rfl ?_ ?_;exact CSub.refl _;exact q4b) (Uj n hn g.1 hg (seen,todo) h3) rfl rfl ?_;rintro l' H' ⟨rfl,rfl⟩;conv=>whnf))
  have hwl:(ZX g.1 (n+1) 0 (seen,todo)).1.length=n:=(FF hg _ _ h3).1;refine CallK.heap [(1000,0)] 0 (q3i (q8u (by rw[hwl];rfl)) q4d) (by refine q3h (j:=0) rfl rfl ?_ ?_;exact CSub.refl _;exact q4b) (Hu (ZX g.1 (n+1) 0 (seen,todo)).1 (by omega)) rfl rfl ?_;rintro l' H' ⟨es,rfl,rfl,rfl⟩;conv=>whnf
  skip
  exact RetK.p (by unfold XU ZF;rw[hg.1,<-h4])
 rw[q4a hm,q6v]at h4;have hhas:SpecP prog 185 [JE g,.int .i64 l[m]] (fun r=>r=.bool (ZB n l[m])):=by
  have:=Zc g l[m]
  rwa[hg.1]at this
 cases hsb:seen.getD l[m].toNat false with
 | true=>
   have e1:(bif ZB n l[m]then JZ (seen,todo) l[m]else(seen,todo))=(seen,todo):=by unfold JZ;simp only[hsb,q4v];cases ZB n l[m]<;>rfl
   have e2:ZB n l[m]=true->(seen.map bv)[l[m].toNat]?=some .tt:=fun h=>by
    have hb:=XA h;have hlt:l[m].toNat<seen.length:=by omega
    have:seen[l[m].toNat]=true:=by simpa[hlt]using hsb
    simp[hlt,this,bv]
   rw[e1]at h4;conv=>whnf
   repeat' (first|((first|refine q3l rfl ?_|(refine iA fun _=>?_)|refine wI ?_|refine cP hhas ?_|refine q5z l[m].toNat (by have:=XA (by assumption);omega) (by have:=XA (by assumption);omega) ?_|refine q5f l[m].toNat 0 .tt (by omega) (e2 (by assumption)) ?_);conv=>whnf)|(apply bD<;>intro _<;>first|omega|conv=>whnf)|(apply bB<;>intro _<;>conv=>whnf))
   all_goals exact⟨(m+1,seen,todo),⟨by simp only;omega,h3,h4⟩,by simp only;omega,Le.of_eq rfl⟩
 | false=>
   have e2:ZB n l[m]=true->(seen.map bv)[l[m].toNat]?=some .ff:=fun h=>by
    have hb:=XA h;have hlt:l[m].toNat<seen.length:=by omega
    have:seen[l[m].toNat]=false:=by simpa[hlt]using hsb
    simp[hlt,this,bv]
   conv=>whnf
   repeat' (first|((first|refine q3l rfl ?_|refine aD ?_|refine bP ?_|(refine iA fun _=>?_)|refine wI ?_|refine cP hhas ?_|refine q5z l[m].toNat (by have:=XA (by assumption);omega) (by have:=XA (by assumption);omega) ?_|refine q5f l[m].toNat 0 .ff (by omega) (e2 (by assumption)) ?_|refine q7z l[m].toNat 0 .ff .tt (by omega) (e2 (by assumption)) (q4h 1) rfl ?_|refine ZD (by simp) (by simp;omega) ?_);conv=>whnf)|(apply bD<;>intro _<;>first|omega|conv=>whnf)|(apply bB<;>intro _<;>conv=>whnf))
   ·have hh:ZB n l[m]=true:=by assumption
    have e1:(bif ZB n l[m]then JZ (seen,todo) l[m]else(seen,todo))=(seen.set l[m].toNat true,todo++[l[m]]):=by unfold JZ;simp only[hsb,hh,q4v,q4f]
    have h8:=NC h3 (XA hh);rw[e1]at h4;have e3:JZ (seen,todo) l[m]=(seen.set l[m].toNat true,todo++[l[m]]):=by unfold JZ;simp only[hsb,q4f]
    rw[e3]at h8;exact⟨(m+1,seen.set l[m].toNat true,todo++[l[m]]),⟨by simp only;omega,h8,h4⟩,by simp only;omega,Le.of_eq (by simp only[q3m,q4z,q5a];rfl)⟩
   ·have hh:ZB n l[m]=false:=by assumption
    have e1:(bif ZB n l[m]then JZ (seen,todo) l[m]else(seen,todo))=(seen,todo):=by rw[hh];rfl
    rw[e1]at h4;exact⟨(m+1,seen,todo),⟨by simp only;omega,h3,h4⟩,by simp only;omega,Le.of_eq rfl⟩
theorem Kr(w:Way)(f:Pr)(n:Nat)(hw:w.n=n)(hj:w.p.procs[w.j]?=some f)(hc:cntP w.p.procs<=1000)(hn:n<=5000)(l:List Step)(hlen:l.length<=1000000):SpecP prog 140 [.ip w.cells,GN l] (fun r=>r=JE (QC n (l.map (ixP w.p w.j f w.n)))):=by
 refine sB HK func140 rfl call140 ?_;conv=>whnf
 repeat' ((first|refine dA ?_|(refine CallK.pure (GF w f hj hc (by omega) l hlen) (.cons (Sub.refl _) (.cons (Sub.refl _) .nil)) ?_;rintro _ rfl)|(refine CallK.pure (Hv n hn (l.map (ixP w.p w.j f w.n)) (by rw[q3f];exact hlen)) (.cons (Sub.int hw) (.cons (Sub.refl _) .nil)) ?_;rintro _ rfl));conv=>whnf)
 exact RetK.p rfl
theorem Kt(p:Pg)(j:Nat)(f:Pr)(n:Nat)(real:AV)(lv:List AV)(hj:p.procs[j]?=some f)(hc:cntP p.procs<=1000)(hn:n<=5000)(l:List Step)(hlen:l.length<=1000000):
  SpecH prog 140 [.ptr 1000 0,.p (GN l)] (A4 p j n real lv) (fun r H=>r=.p (JE (QC n (l.map (ixP p j f n))))/\H=A4 p j n real lv):=by
 refine sH HK func140 rfl call140 ?_;conv=>whnf
 refine DrawK.of QY mixed (.cons 0 false (.cons 1 false (.cons 2 false (.cons 4 false (.cons 5 false (.fork 3 (.cons 6 true (.cons 7 true (.cons 8 true .nil))) 6 (.cons 3 true (.cons 7 true (.cons 8 true .nil))))))))) (by kernel_rfl) ?_;conv=>whnf
 repeat' (first|(refine CallK.pure (Hv n hn (l.map (ixP p j f n)) (by rw[q3f];exact hlen)) (.cons (Sub.refl _) (.cons (Sub.refl _) .nil)) ?_;rintro _ rfl;conv=>whnf)|(refine q3l ?_ ?_<;>conv=>whnf)|(refine CallK.heap [(1000,1000),(2000,2000)] 0 (by repeat' (first|exact q4d|refine q3i ?_ ?_|exact q3e _|exact q4q Sub.nils|exact q4q (Sub.tt rfl)|exact q4q (Sub.ff rfl)|exact q4q (Sub.int (by omega)))) (by refine q3h (j:=1000) rfl rfl ?_ ?_;exact CSub.refl _;refine q3h (j:=2000) rfl rfl ?_ ?_;exact CSub.refl _;exact q4b) (Kn p j f n real lv hj hc (by omega) l hlen) rfl rfl ?_;rintro l' H' ⟨es,rfl,rfl,rfl⟩;conv=>whnf))
 all_goals exact⟨_,q3e _,rfl,rfl⟩
theorem Y1{n:Nat}(h:XH n N){a:Nat}{b:Int}(hb:0<=b/\b<n):XH n (Uc N a b):=by
 unfold Uc;refine⟨by rw[q5s];exact h.1,fun r hr x hx=>?_⟩;rcases q7i hr with hr|rfl
 ·exact h.2 r hr x hx
 ·unfold Qb at hx;have hg:∀y∈N.getD a [],0<=y/\y<n:=fun y hy=>by
   rcases q4w a N.length with ha|ha
   ·rw[q3p,q3b ha]at hy;exact h.2 _ (q4u ha) y hy
   ·rw[q3p,q5w ha]at hy;cases hy
  rcases q3a.1 hx with hx|hx
  ·exact hg x (q8t hx)
  ·rcases q3t.1 hx with rfl|hx
   ·exact hb
   ·exact hg x (List.mem_of_mem_drop hx)
theorem AT{n:Nat}{g:List (List Int)×List (List Int)}(h:XH n g.1/\XH n g.2)(e:Int×Int):XH n (Ks n g e).1/\XH n (Ks n g e).2:=by
 rw[Z8,Vi];cases hc:ZB n e.1&&ZB n e.2 && !(g.1.getD e.1.toNat []).contains e.2
 ·exact h
 ·simp only[q4k]at hc;exact⟨Y1 h.1 (XA hc.1.2),Y1 h.2 (XA hc.1.1)⟩
theorem SE{n:Nat}(l:List (Int×Int)):∀{g:List (List Int)×List (List Int)},XH n g.1/\XH n g.2->XH n (l.foldl (Ks n) g).1/\XH n (l.foldl (Ks n) g).2:=by
 induction l with
 |nil=>intro g h;exact h
 |cons e r ih=>intro g h;exact ih (AT h e)
theorem JO(n:Nat)(l:List (Int×Int)):XH n (QC n l).1/\XH n (QC n l).2:=by
 have h0:XH n (List.replicate n []):=⟨by simp,fun r hr=>by rw[q6l hr];simp⟩;exact SE l ⟨h0,h0⟩
theorem Wr.eq{n m:Int}{K:Int->Prop}(h:n=m)(h1 : -9223372036854775808<=m)(h2:m<=9223372036854775807)(hK:K m):Wr .i64 n K:=by
 subst h;exact Wr.i64 h1 h2 hK
theorem Qj:∀(a:Step)(l:List Step),(XZ a l).length<=l.length
 |_,[]=>q4h _
 | a,b::r=>by
   have:=Qj b r;rw[XZ];cases ZJ b a<;>simp<;>omega
theorem F0(l:List Step):(WX l).length<=l.length:=by
 unfold WX;rw[<-LO (l:=l)];cases UC l with
 |nil=>exact q4h _
 | cons a r=>
   have:=Qj a r;simp[BY];omega
theorem RE(sh:Sheet)(f:Pr)(it:Item):(UJ sh f it).length<=2:=by
 unfold UJ;split<;>(try split)<;>(try split)<;>(try split)<;>(try split)<;>(try split)<;>simp
theorem Qh{α β:Type}{g:α->List β}(h:∀x,(g x).length<=2):∀l:List α,(l.flatMap g).length<=2*l.length
 |[]=>by simp
 | a::r=>by
   have:=Qh h r;have:=h a;rw[q5o,q3m,q4m];omega
theorem Qr(p:Pg)(j:Nat)(f:Pr):(QK p j f).length<=1+2*cntL f.body:=by
 unfold QK;have:=Qh (g:=fun it=>(UJ (sheetOf p) f it).map (Step.mk it.s.id · 1)) (fun it=>by rw[q3f];exact RE _ _ _) (itL j 0 (-1) 0 (QL p.procs j) f.body);rw[ZP]at this;rw[q4m];omega
theorem Jp:∀(i:Nat)(l:List Bool)(a:Int),a∈GT i l->(i:Int)<=a/\a<i+l.length
 |_,[],_,h=>by rw[GT]at h;cases h
 | i,b::r,a,h=>by
   rw[GT]at h;have key:a∈GT (i+1) r->(i:Int)<=a/\a<i+(b::r).length:=fun h=>by
    have:=Jp (i+1) r a h;simp only[q4m];omega
   cases b with
   |false=>exact key h
   | true=>
     rcases q3t.1 h with rfl|h
     ·simp only[q4m];omega
     ·exact key h
theorem Ld(n:Nat)(l:List Int):wkInv n (FK n l):=by
 unfold FK;have:∀(l:List Int)(st:List Bool×List Int),wkInv n st->wkInv n (l.foldl (fun st a=>bif ZB n a then JZ st a else st) st):=fun l=>by
  induction l with
  |nil=>intro st h;exact h
  | cons a r ih=>
    intro st h;refine ih _ ?_;show wkInv n (bif ZB n a then JZ st a else st);cases hb:ZB n a with
    |true=>exact NC h (XA hb)
    |false=>exact h
 exact this l _ (PX n)
theorem L9{n:Nat}{rows:List (List Int)}(h:XH n rows)(l:List Int):(ZF rows l).length=n:=by
 unfold ZF;rw[h.1];exact(FF h _ _ (Ld n l)).1
def GA(l:List Int)(b:List Bool):List Bool:=l.foldl (fun b a=>b.set a.toNat true) b
def QQ(p:Pg)(j:Nat)(f:Pr):Way:=
 let real:=WX (QK p j f);let n:=cntL f.body+2
 ⟨p,j,n,real,GA (GT 0 (ZF (QC n (real.map (ixP p j f n))).1 [0])) (List.replicate n false)⟩
theorem EM(p:Pg)(j:Nat)(f:Pr)(hj:p.procs[j]?=some f)(hc:cntP p.procs<=1000)(hl:∀it∈itsOf p j f,it.s.kind=7->1<=it.loop/\it.loop<=(sheetOf p).l.length)(hok:∀s∈QK p j f,okSt s):SpecP prog 85 [.ip (sheetOf p).cells,.int .i64 j] (fun r=>r=.ip (QQ p j f).cells):=by
 refine sB R5 func85 rfl call85 ?_;conv=>whnf
 obtain⟨_,_,_,hlen,hsp⟩:=QU p;obtain⟨hlo,hhi,hle,_⟩:=hsp j f hj;repeat' ((first|refine dA ?_|refine q3l rfl ?_|refine aR ?_|(refine IdxK.at rfl (VG hlo) rfl ?_)|(refine IdxK.at rfl (VG hhi) rfl ?_)|refine cP (X4 p j f hj hc hl hok) ?_|refine Wr.eq (m:=cntL f.body) (by omega) (by omega) (by omega) ?_|refine Wr.eq (m:=(cntL f.body+2:Nat)) (by omega) (by omega) (by omega) ?_|refine MkK.mk (cntL f.body+2) rfl (by show 1*_<=140737488355328;omega) (by unfold maxLen;omega) ?_);conv=>whnf)
 have hrl:(WX (QK p j f)).length<=1000000:=by have:=F0 (QK p j f);have:=Qr p j f;omega
 refine CallK.heap [(1000,0),(2000,1)] 0 (by repeat' (first|exact q4d|refine q3i ?_ ?_|exact q3e _|exact q4q Sub.nils|exact q4q (Sub.tt rfl)|exact q4q (Sub.ff rfl)|exact q4q (Sub.int (by omega)))) (q3h (j:=0) rfl rfl (CSub.of_eq (by rw[q5d];rfl)) (q3h (j:=1) rfl rfl (CSub.refl _) q4b)) (Kt p j f (cntL f.body+2) (GN (WX (QK p j f))) (List.replicate (cntL f.body+2) .ff) hj hc (by omega) (WX (QK p j f)) hrl) rfl rfl ?_;rintro l' H' ⟨rfl,rfl⟩;conv=>whnf
 obtain⟨hgi,_⟩:=JO (cntL f.body+2) ((WX (QK p j f)).map (ixP p j f (cntL f.body+2:Nat)));repeat' ((first|(refine iM fun _=>?_)|refine q3l rfl ?_|refine aD ?_|refine bP ?_|(refine CallK.pure (LH (cntL f.body+2) (by omega) _ hgi [0] (by simp)) (.cons (Sub.refl _) (.cons (Sub.refl _) .nil)) ?_;rintro _ rfl));conv=>whnf)
 have hlm:∀a∈GT 0 (ZF (QC (cntL f.body+2) ((WX (QK p j f)).map (ixP p j f (cntL f.body+2:Nat)))).1 [0]),0<=a/\a<(cntL f.body+2:Nat):=fun a ha=>by
  have:=Jp _ _ _ ha;rw[L9 hgi]at this;omega
 have hnw:QQ p j f=⟨p,j,(cntL f.body+2:Nat),WX (QK p j f),GA (GT 0 (ZF (QC (cntL f.body+2) ((WX (QK p j f)).map (ixP p j f (cntL f.body+2:Nat)))).1 [0])) (List.replicate (cntL f.body+2) false)⟩:=rfl;rw[hnw];have hlb:((GT 0 (ZF (QC (cntL f.body+2) ((WX (QK p j f)).map (ixP p j f (cntL f.body+2:Nat)))).1 [0])).map (AV.int .i64)).length<=9223372036854775807:=by assumption
 generalize GT 0 (ZF (QC (cntL f.body+2) ((WX (QK p j f)).map (ixP p j f (cntL f.body+2:Nat)))).1 [0])=lst at hlm hlb⊢;have hll:(lst.map (AV.int .i64)).length=lst.length:=q3f _;refine LoopK.inv QY (fun x:Nat×List Bool=>⟨[(5,.ptr 0 0),(46,.p (XU lst)),(47,.p (.int .i64 (lst.map (AV.int .i64)).length)),(48,.p (.int .i64 x.1))],[(0,.obj 120 [.p (.ip (sheetOf p).cells),.p (.int .i64 j),.p (.int .i64 (cntL f.body+2:Nat)),.p (GN (WX (QK p j f))),.hd 1 0 (cntL f.body+2)]),(1,.own 4 1 (x.2.map bv))]⟩)
  (fun x=>x.1<=lst.length/\x.2.length=cntL f.body+2/\GA (lst.drop x.1) x.2=GA lst (List.replicate (cntL f.body+2) false)) (fun x=>lst.length-x.1) (0,List.replicate (cntL f.body+2) false)
  (Le.of_eq (by simp only[q6p,q5d];rfl)) ⟨q3o _,by simp,rfl⟩ ?_
 rintro⟨m,b⟩ ⟨h2,h3,h4⟩;simp only at h2 h3 h4⊢;rcases q4w m lst.length with hm|hm;rotate_left 1
 ·rw[q4j hm]at h4;rw[<-h4];conv=>whnf
  repeat' (apply bD<;>intro _<;>first|omega|conv=>whnf)
  exact⟨_,.ptr (cs:=[.ip (sheetOf p).cells,.int .i64 j,.int .i64 (cntL f.body+2:Nat),GN (WX (QK p j f)),.sl (b.map bv)]) rfl rfl (fun i x c h5 h6=>by
   match i,h5,h6 with
   |0,h5,h6=>cases h5;cases h6;exact .p (Sub.refl _)
   |1,h5,h6=>cases h5;cases h6;exact .p (Sub.refl _)
   |2,h5,h6=>cases h5;cases h6;exact .p (Sub.refl _)
   |3,h5,h6=>cases h5;cases h6;exact .p (Sub.refl _)
   |4,h5,h6=>cases h5;cases h6;exact .hd rfl (by rw[q3f,h3])),rfl⟩
 rw[q4a hm]at h4;have ha:=hlm _ (q4u hm);have hal:lst[m].toNat<b.length:=by omega
 have hbe:(b.map bv)[lst[m].toNat]?=some (bv b[lst[m].toNat]):=by simp[hal]
 conv=>whnf
 repeat' (first|((first|refine q3l rfl ?_|(refine iA fun _=>?_)|refine wI ?_|refine q5z lst[m].toNat (by omega) (by omega) ?_|refine q7z lst[m].toNat 0 (bv b[lst[m].toNat]) .tt (by omega) hbe (q4h 1) (by cases b[lst[m].toNat]<;>rfl) ?_);conv=>whnf)|(apply bD<;>intro _<;>first|omega|conv=>whnf))
 exact⟨(m+1,b.set lst[m].toNat true),⟨by simp only;omega,by simp only[q5s];exact h3,h4⟩,by simp only;omega,Le.of_eq (by simp only[q5a];rfl)⟩
end Go.Ab
