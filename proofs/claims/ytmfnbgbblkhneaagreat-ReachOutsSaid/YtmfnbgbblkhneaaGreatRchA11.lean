/- The library's contracts at this seat's program, in plain words (printed by the kit's lay-plain.mjs). Conditions: none. -/
import Derived.Shelf.Sort.Plain
import Derived.Shelf.Slices.In.SortNone
import Derived.Shelf.Slices.CompactS
import Derived.Ground.Names2Prog
import Derived.Shelf.Slices.SearchI
import Derived.Shelf.Slices.Empties
import Derived.Shelf.Spec.SlicesInsert
import Derived.Shelf.Spec.SlicesInsertGrow
import Derived.Test.YtmfnbgbblkhneaaGreatProg
import Derived.Test.YtmfnbgbblkhneaaGreatRchA6
import Derived.Test.YtmfnbgbblkhneaaGreatRchA7
import Derived.Test.YtmfnbgbblkhneaaGreatRchA10
set_option linter.unusedSimpArgs false
set_option linter.unusedVariables false
set_option maxRecDepth 100000
set_option maxHeartbeats 16000000
open List (findIdx?_cons)
namespace Go.Proofs
open Go.Shelf
def Tryz.lays190_ren:Go.Shelf.Ren:=⟨fun|190=>142|125=>160|258=>188|128=>209|129=>210|302=>225|303=>226|304=>227|305=>228|306=>229|307=>230|308=>199|309=>231|310=>232|333=>253|329=>242|330=>243|334=>254|335=>255|336=>162|344=>276|n=>n,fun|31=>22|9=>9|3=>3|46=>216|0=>0|51=>253|53=>255|4=>4|183=>247|182=>246|131=>181|5=>5|218=>274|222=>278|228=>293|229=>60|n=>n,fun|n=>n⟩
theorem Xk:Go.Proofs.Lays.n190 Tryz.prog Tryz.lays190_ren:={
 mixed:=by kernel_rfl
 f125:=Tryz.func160.trans (congrArg some (by kernel_rfl))
 f128:=Tryz.func209.trans (congrArg some (by kernel_rfl))
 f129:=Tryz.func210.trans (congrArg some (by kernel_rfl))
 f190:=Tryz.func142.trans (congrArg some (by kernel_rfl))
 f258:=Tryz.func188.trans (congrArg some (by kernel_rfl))
 f302:=Tryz.func225.trans (congrArg some (by kernel_rfl))
 f303:=Tryz.func226.trans (congrArg some (by kernel_rfl))
 f304:=Tryz.func227.trans (congrArg some (by kernel_rfl))
 f305:=Tryz.func228.trans (congrArg some (by kernel_rfl))
 f306:=Tryz.func229.trans (congrArg some (by kernel_rfl))
 f307:=Tryz.func230.trans (congrArg some (by kernel_rfl))
 f308:=Tryz.func199.trans (congrArg some (by kernel_rfl))
 f309:=Tryz.func231.trans (congrArg some (by kernel_rfl))
 f310:=Tryz.func232.trans (congrArg some (by kernel_rfl))
 f329:=Tryz.func242.trans (congrArg some (by kernel_rfl))
 f330:=Tryz.func243.trans (congrArg some (by kernel_rfl))
 f333:=Tryz.func253.trans (congrArg some (by kernel_rfl))
 f334:=Tryz.func254.trans (congrArg some (by kernel_rfl))
 f335:=Tryz.func255.trans (congrArg some (by kernel_rfl))
 f336:=Tryz.func162.trans (congrArg some (by kernel_rfl))
 f344:=Tryz.func276.trans (congrArg some (by kernel_rfl))
 t0:=Tryz.underlying0
 a0:=Tryz.isAgg0
 z0:=Tryz.sizeOf0
 v0:=Tryz.zeroValue0
 t3:=Tryz.underlying3
 a3:=Tryz.isAgg3
 z3:=Tryz.sizeOf3
 v3:=Tryz.zeroValue3
 t4:=Tryz.underlying4
 a4:=Tryz.isAgg4
 z4:=Tryz.sizeOf4
 v4:=Tryz.zeroValue4
 t5:=Tryz.underlying5
 a5:=Tryz.isAgg5
 z5:=Tryz.sizeOf5
 v5:=Tryz.zeroValue5
 t9:=Tryz.underlying9
 a9:=Tryz.isAgg9
 z9:=Tryz.sizeOf9
 v9:=Tryz.zeroValue9
 t31:=Tryz.underlying22
 a31:=Tryz.isAgg22
 z31:=Tryz.sizeOf22
 v31:=Tryz.zeroValue22
 t46:=Tryz.underlying216
 a46:=Tryz.isAgg216
 z46:=Tryz.sizeOf216
 v46:=Tryz.zeroValue216
 t51:=Tryz.underlying253
 a51:=Tryz.isAgg253
 z51:=Tryz.sizeOf253
 v51:=Tryz.zeroValue253
 t53:=Tryz.underlying255
 a53:=Tryz.isAgg255
 z53:=Tryz.sizeOf255
 v53:=Tryz.zeroValue255
 t131:=Tryz.underlying181
 a131:=Tryz.isAgg181
 z131:=Tryz.sizeOf181
 v131:=Tryz.zeroValue181
 t182:=Tryz.underlying246
 a182:=Tryz.isAgg246
 z182:=Tryz.sizeOf246
 v182:=Tryz.zeroValue246
 t183:=Tryz.underlying247
 a183:=Tryz.isAgg247
 z183:=Tryz.sizeOf247
 v183:=Tryz.zeroValue247
 t218:=Tryz.underlying274
 a218:=Tryz.isAgg274
 z218:=Tryz.sizeOf274
 v218:=Tryz.zeroValue274
 t222:=Tryz.underlying278
 a222:=Tryz.isAgg278
 z222:=Tryz.sizeOf278
 v222:=Tryz.zeroValue278
 t228:=Tryz.underlying293
 a228:=Tryz.isAgg293
 z228:=Tryz.sizeOf293
 v228:=Tryz.zeroValue293
 t229:=Tryz.underlying60
 a229:=Tryz.isAgg60
 z229:=Tryz.sizeOf60
 v229:=Tryz.zeroValue60}
def Tryz.lays194_ren:Go.Shelf.Ren:=⟨fun|194=>143|n=>n,fun|31=>22|9=>9|3=>3|4=>4|0=>0|n=>n,fun|n=>n⟩
theorem Xg:Go.Proofs.Lays.n194 Tryz.prog Tryz.lays194_ren:={
 mixed:=by kernel_rfl
 f194:=Tryz.func143.trans (congrArg some (by kernel_rfl))
 t0:=Tryz.underlying0
 a0:=Tryz.isAgg0
 z0:=Tryz.sizeOf0
 v0:=Tryz.zeroValue0
 t3:=Tryz.underlying3
 a3:=Tryz.isAgg3
 z3:=Tryz.sizeOf3
 v3:=Tryz.zeroValue3
 t4:=Tryz.underlying4
 a4:=Tryz.isAgg4
 z4:=Tryz.sizeOf4
 v4:=Tryz.zeroValue4
 t9:=Tryz.underlying9
 a9:=Tryz.isAgg9
 z9:=Tryz.sizeOf9
 v9:=Tryz.zeroValue9
 t31:=Tryz.underlying22
 a31:=Tryz.isAgg22
 z31:=Tryz.sizeOf22
 v31:=Tryz.zeroValue22}
def Tryz.laysB_ren:Go.Shelf.Ren:=⟨fun|25=>251|31=>272|32=>273|37=>161|n=>n,fun|22=>29|3=>3|4=>4|40=>216|0=>0|n=>n,fun|n=>n⟩
theorem Yn:Go.Proofs.Lays2.n25 Tryz.prog Tryz.laysB_ren:={
 mixed:=by kernel_rfl
 f25:=Tryz.func251.trans (congrArg some (by kernel_rfl))
 f31:=Tryz.func272.trans (congrArg some (by kernel_rfl))
 f32:=Tryz.func273.trans (congrArg some (by kernel_rfl))
 f37:=Tryz.func161.trans (congrArg some (by kernel_rfl))
 t0:=Tryz.underlying0
 a0:=Tryz.isAgg0
 z0:=Tryz.sizeOf0
 v0:=Tryz.zeroValue0
 t3:=Tryz.underlying3
 a3:=Tryz.isAgg3
 z3:=Tryz.sizeOf3
 v3:=Tryz.zeroValue3
 t4:=Tryz.underlying4
 a4:=Tryz.isAgg4
 z4:=Tryz.sizeOf4
 v4:=Tryz.zeroValue4
 t22:=Tryz.underlying29
 a22:=Tryz.isAgg29
 z22:=Tryz.sizeOf29
 v22:=Tryz.zeroValue29
 t40:=Tryz.underlying216
 a40:=Tryz.isAgg216
 z40:=Tryz.sizeOf216
 v40:=Tryz.zeroValue216}
def Tryz.laysI_ren:Go.Shelf.Ren:=⟨fun|21=>252|27=>274|28=>275|35=>280|39=>282|n=>n,fun|22=>29|3=>3|4=>4|0=>0|n=>n,fun|n=>n⟩
theorem KD:Go.Proofs.Lays2.n21 Tryz.prog Tryz.laysI_ren:={
 mixed:=by kernel_rfl
 f21:=Tryz.func252.trans (congrArg some (by kernel_rfl))
 f27:=Tryz.func274.trans (congrArg some (by kernel_rfl))
 f28:=Tryz.func275.trans (congrArg some (by kernel_rfl))
 f35:=Tryz.func280.trans (congrArg some (by kernel_rfl))
 f39:=Tryz.func282.trans (congrArg some (by kernel_rfl))
 t0:=Tryz.underlying0
 a0:=Tryz.isAgg0
 z0:=Tryz.sizeOf0
 v0:=Tryz.zeroValue0
 t3:=Tryz.underlying3
 a3:=Tryz.isAgg3
 z3:=Tryz.sizeOf3
 v3:=Tryz.zeroValue3
 t4:=Tryz.underlying4
 a4:=Tryz.isAgg4
 z4:=Tryz.sizeOf4
 v4:=Tryz.zeroValue4
 t22:=Tryz.underlying29
 a22:=Tryz.isAgg29
 z22:=Tryz.sizeOf29
 v22:=Tryz.zeroValue29
 i3:=by kernel_rfl}
end Go.Proofs
namespace Go.Ab
open Go.Proofs.Tryz
open Go.Proofs Go.Sort
variable {α:Type}{b clock j k:Nat}{e:TypeId}{es:Array MapEntry}{l:List Str}{n s:Str}{p:Pg}{v:Value}{vs:Array Value}{w:World}{β:Lab}{σ:Mem}
theorem W6{c c':Chunk}{w':World}{i:BInfo}(h:HRel σ β [(k,c)] w)(hi:β k=some i)(hf:Frm (fun b=>b=i.blk) w w')(hnew:c'.holds σ β w' k):HRel σ β [(k,c')] w'/\Later σ β [(k,c)] w σ β [(k,c')] w':=by
 have hap:=h.apart k (by simp) i hi;refine⟨⟨fun b cs hb=>?_,fun j d hj=>?_,by simp,fun j hj i' hi' b hb=>?_,fun j hj j' hj' _ _ _ _ _ _ _=>?_⟩,Mem.le_refl σ,⟨hf.os,hf.tape,hf.output,hf.drawn,hf.size,fun b hb hn=>hf.block b hb fun he=>hn ⟨k,by simp,i,hi,.inl he.symm⟩⟩,
  fun b h0 h1=>absurd h0 h1,fun b ⟨j,hj,i',hi',hb⟩=>.inl ⟨j,by simpa using hj,i',hi',hb⟩,fun _ _ _=>rfl⟩
 ·obtain⟨e,fr,hh⟩:=h.mem b cs hb;exact⟨e,fr,(hf.block b (q8h.1 hh).1 fun he=>by rw[he,(hap _ i.has_blk).1]at hb;cases hb).trans hh⟩
 ·simp at hj;obtain⟨rfl,rfl⟩:=hj;exact hnew
 ·simp at hj;subst hj;rw[hi]at hi';cases hi';exact⟨(hap b hb).1,x1y (hap b hb).2 hf.size⟩
 ·simp at hj hj';rw[hj,hj']
theorem VV(h:w.heap[b]?=some (.cells vs e (0,0)))(o:Nat):w.frozen? ⟨b,o,none⟩=false:=by
 simp[World.frozen?,h]
theorem JG(h:w.heap[b]?=some (.cells vs e (0,0)))(o:Nat):w.cell? ⟨b,o,none⟩=vs[o]?:=by
 simp[World.cell?,h]
theorem DS[Inhabited α]{enc:α->Value}{n:Nat}{d:Array α}{os:Array Obj}(h:w.heap[b]?=some (.cells vs e (0,0)))(hlt:b<w.heap.size):
  Frm (fun x=>x=b) w (grow (putRow enc (Sort.ahead w n) b 0 d) os)/\(grow (putRow enc (Sort.ahead w n) b 0 d) os).heap[b]?=some (.cells (putCells enc 0 d vs) e (0,0)):=by
 have hh:(grow (putRow enc (Sort.ahead w n) b 0 d) os).heap=w.heap.modify b (onCells (putCells enc 0 d))++os:=rfl;refine⟨⟨rfl,rfl,rfl,Nat.le_add_right _ _,?_,fun k hk hn=>?_⟩,?_⟩
 ·rw[hh];simp
 ·rw[hh,x1r (by simpa using hk),x1f,if_neg (x1k hn)]
 ·rw[hh,x1r (by simpa using hlt),x1f,if_pos rfl,h];rfl
theorem JL[Inhabited α]{enc:α->Value}{d:Array α}(hs:d.size<=vs.size)(hk:k<d.size):(putCells enc 0 d vs)[k]?=some (enc d[k]):=by
 unfold putCells;have hk':k<vs.size:=by omega
 simp[hk',hk]
theorem Rq(h:∀(m:Nat)(x:AV),(l.map AV.str)[m]?=some x->x.cells.length=1/\∀(j:Nat)(c:AV),x.cells[j]?=some c->∃u:Value,vs[m*1+j]?=some u/\Rep σ c u)(hj:j<l.length):
  vs[j]?=some (encStr l[j])/\l[j].length<=maxLen:=by
 obtain⟨u,h1,h2⟩:=(h j (.str l[j]) (by simp[hj])).2 0 (.str l[j]) rfl;cases h2 with
 |str _ h3=>exact⟨by simpa using h1,h3⟩
theorem Rx(h:∀j (hj:j<l.length),vs[j]?=some (encStr l[j]))(hl:∀s∈l,s.length<=maxLen):∀(m:Nat)(x:AV),(l.map AV.str)[m]?=some x->x.cells.length=1/\∀(j:Nat)(c:AV),x.cells[j]?=some c->∃u:Value,vs[m*1+j]?=some u/\Rep σ c u:=by
 intro m x hx;rw[q7l]at hx;cases hq:l[m]?with
 |none=>rw[hq]at hx;cases hx
 | some s=>
   rw[hq]at hx;cases hx;obtain⟨hm,rfl⟩:=q7t.1 hq;refine⟨rfl,fun j c hj=>?_⟩;have hj0:j=0:=by
    have:=(q7t.1 hj).1;simpa[AV.cells]using this
   subst hj0;simp only[AV.cells,x3w,x1w]at hj;subst hj;exact⟨_,by simpa using h m hm,.str _ (hl _ (q7i hm))⟩
theorem q2m{vals:Array Value}{l:LV}(h:vals.size=[l].length):∃v,vals=#[v]:=⟨vals[0]'(by simp at h;omega),by apply Array.ext;simpa using h;intro i h1 h2;simp at h2;subst h2;rfl⟩
theorem Jh{n:Nat}{i:BInfo}(h:RepL σ β (.hd k 0 n) v)(hi:β k=some i):v=.slice (some ⟨i.blk,0,none⟩) n i.cap:=by
 rcases h.hdI with⟨hk,_⟩|⟨i',o,hk,hl,ho,hv⟩
 ·rw[hi]at hk;cases hk
 ·rw[hi]at hk;cases hk;rcases ho with ho|ho
  ·rw[hv,ho];simp
  ·omega
theorem B0{n:Nat}(h:RepL σ β (.hd k 0 n) v)(hi:β k=none):v=.slice none 0 0/\n=0:=by
 rcases h.hdI with⟨_,_,hn,hv⟩|⟨i',o,hk,_⟩
 ·exact⟨hv,hn⟩
 ·rw[hi]at hk;cases hk
def JW(l:List Str):List Str:=l.mergeSort fun x y=>decide (x<=y)
theorem GP(l:List Str)(hlen:l.length<=1000000000):
  SpecH prog 142 [.hd 1000 0 l.length] [(1000,.own 9 1 (l.map .str))] (fun r H=>r=.p (.tup [])/\H=[(1000,.own 9 1 ((JW l).map .str))]):=by
 refine⟨call142,fun σ β w vals hn hv hH=>?_⟩;obtain⟨v,rfl⟩:=q2m hn;have hv:=hv 0 _ rfl;simp only[x1z,q8s,x1a,Array.getD_eq_getD_getElem?]at hv;have hv:RepL σ β (.hd 1000 0 l.length) v:=by simpa using hv
 have hch:=hH.chunks 1000 _ q7d;have hlenS:(JW l).length=l.length:=by unfold JW;simp
 rcases hch with⟨hb0,hes⟩|⟨i,vs,hi,hsz,hh,h2,h3,h4,h5⟩
 ·have hl0:l=[]:=by simpa using hes
  subst hl0;obtain⟨rfl,_⟩:=B0 hv hb0;have hc:=Any.slices_Sort_string_none Xk none 0 w;change Calls prog 142 _ _ _ at hc;refine hc.mono ?_;rintro e w' ⟨rfl,rfl⟩;exact⟨.p (.tup []),.tuple #[],σ,β,_,rfl,⟨rfl,rfl⟩,.p (.tup [] #[] (fun _=>undef) rfl (by simp) (by simp)),by simpa[JW]using hH,by simpa[JW]using Later.refl _ _ _ _⟩
 ·have hve:=Jh hv hi;subst hve;have hlt:=(hH.apart 1000 (by simp) i hi i.blk i.has_blk).2;have hle:l.length<=vs.size:=by rw[h2,x4w];simpa using h3
  have hget:=fun j hj=>Rq (σ:=σ) (l:=l) h5 (j:=j) hj;have hc:=Any.slices_Sort_string Xk i.blk 0 i.cap l w (fun j hj=>by
   have hj':j<l.length:=by simpa using hj
   refine⟨?_,VV hh _⟩;rw[JG hh,x0j,(hget j hj').1];simp[hj']) hlt (by omega)
  change Calls prog 142 _ _ _ at hc;refine hc.mono ?_;rintro e w' ⟨rfl,n,os,rfl⟩;obtain⟨hf,hb⟩:=DS (enc:=encStr) (n:=n) (os:=os) (d:=(JW l).toArray) hh hlt;obtain⟨hH',hL⟩:=W6 (c':=.own 9 1 ((JW l).map .str)) hH hi hf (.inr ⟨i,_,hi,hsz,hb,by simpa[putCells]using h2,by simpa[hlenS]using h3,h4,Rx (fun j hj=>by
   have:=JL (enc:=encStr) (d:=(JW l).toArray) (vs:=vs) (by simp[hlenS];omega) (k:=j) (by simpa using hj);simpa using this) fun s hs=>by
    have:s∈l:=by unfold JW at hs;simpa using hs
    obtain⟨j,hj,rfl⟩:=x0w.1 this;exact(hget j hj).2⟩)
  exact⟨.p (.tup []),.tuple #[],σ,β,_,rfl,⟨rfl,rfl⟩,.p (.tup [] #[] (fun _=>undef) rfl (by simp) (by simp)),hH',hL⟩
theorem J5(l:List Str):(Go.Lib.compact l).length<=l.length:=by
 unfold Go.Lib.compact Go.Lib.compactUpTo;rw[q7f];exact q8i (q9l _ _) (by simp)
theorem PZ(h:s∈Go.Lib.compact l):s∈l:=by
 unfold Go.Lib.compact Go.Lib.compactUpTo at h;obtain⟨j,hj,rfl⟩:=q7s.1 h;have:=(q8t.1 hj).1;have hlt:j<l.length:=by simpa using this
 simp[hlt]
theorem GF[Inhabited α]{enc:α->Value}{d:Array α}{o:Nat}:(putCells enc o d vs).size=vs.size:=by simp[putCells]
theorem KU(l:List Str)(hlen:l.length<=1000000000):
  SpecH prog 143 [.hd 1000 0 l.length] [(1000,.own 9 1 (l.map .str))] (fun r H=>r=.hd 1000 0 (Go.Lib.compact l).length/\H=[(1000,.own 9 1 ((Go.Lib.compact l).map .str))]):=by
 refine⟨call143,fun σ β w vals hn hv hH=>?_⟩;obtain⟨v,rfl⟩:=q2m hn;have hv:=hv 0 _ rfl;have hv:RepL σ β (.hd 1000 0 l.length) v:=by simpa using hv
 have hch:=hH.chunks 1000 _ q7d;have hcl:=J5 l;rcases hch with⟨hb0,hes⟩|⟨i,vs,hi,hsz,hh,h2,h3,h4,h5⟩
 ·have hl0:l=[]:=by simpa using hes
  subst hl0;obtain⟨rfl,_⟩:=B0 hv hb0;have hc:=Any.slices_Compact_string_empty Xg none 0 w;change Calls prog 143 _ _ _ at hc;refine hc.mono ?_;rintro e w' ⟨rfl,rfl⟩;exact⟨.hd 1000 0 0,.slice none 0 0,σ,β,_,rfl,⟨rfl,rfl⟩,.hdn 1000 hb0,by simpa[Go.Lib.compact,Go.Lib.compactUpTo]using hH,by simpa[Go.Lib.compact,Go.Lib.compactUpTo]using Later.refl _ _ _ _⟩
 ·have hve:=Jh hv hi;subst hve;have hlt:=(hH.apart 1000 (by simp) i hi i.blk i.has_blk).2;have hle:l.length<=vs.size:=by rw[h2,x4w];simpa using h3
  have hcap:l.length<=i.cap:=by simpa using h3
  have hget:=fun j hj=>Rq (σ:=σ) (l:=l) h5 (j:=j) hj;have hc:=Any.slices_Compact_string Xg i.blk 0 i.cap l w (fun j hj=>by
   have hj':j<l.length:=by simpa using hj
   refine⟨?_,VV hh _⟩;rw[JG hh,x0j,(hget j hj').1];simp[hj']) (by omega) hcap
  change Calls prog 143 _ _ _ at hc;refine hc.mono ?_;rintro e w' ⟨rfl,q,rfl⟩;obtain⟨hf,hb⟩:=DS (enc:=encStr) (n:=q) (os:=#[]) (d:=(Go.Lib.compact l++List.replicate (l.length-(Go.Lib.compact l).length) []).toArray) hh hlt;rw[grow_empty]at hf hb;obtain⟨hH',hL⟩:=W6 (c':=.own 9 1 ((Go.Lib.compact l).map .str)) hH hi hf (.inr ⟨i,_,hi,hsz,hb,by rw[GF];exact h2,by simp;omega,h4,Rx (fun j hj=>by
   have:=JL (enc:=encStr) (d:=(Go.Lib.compact l++List.replicate (l.length-(Go.Lib.compact l).length) []).toArray) (vs:=vs) (by simp;omega) (k:=j) (by simp;omega);rw[this];simp[List.getElem_append_left hj]) fun s hs=>by
    obtain⟨j,hj,rfl⟩:=x0w.1 (PZ hs);exact(hget j hj).2⟩)
  refine⟨.hd 1000 0 (Go.Lib.compact l).length,_,σ,β,_,rfl,⟨rfl,rfl⟩,?_,hH',hL⟩;have:=x4z (σ:=σ) (β:=β) 1000 0 (Go.Lib.compact l).length i 0 hi (by omega) (.inl (by simp));simpa using this
theorem JQ(hs:(XZ p).1=0){f:Pr}(hf:f∈p.procs){t:S}(ht:t∈flL f.body):knownB p f (procsN p) t=true:=by
 obtain⟨_,_,h⟩:=JT hs;have h1:=x2z.1 h f hf;unfold WF at h1;cases hb:(ZH (Ja f)||(Ja f).any fun n=>p.globals.any fun s=>n==s)<;>rw[hb]at h1
 ·simp only[q8b,x3d]at h1;have:=x0o.1 h1 t ht;simpa using this
 ·cases h1
theorem K5(hs:(XZ p).1=0){f:Pr}(hf:f∈p.procs){t:S}(ht:t∈flL f.body)(hk:t.kind=4):t.proc∈procsN p/\t.proc≠mainS:=by
 have:=JQ hs hf ht;unfold knownB at this;simp only[q8j,x1b,q8e]at this;rcases this.2 with h|h
 ·exact absurd hk h
 ·simp only[x0p,beq_eq_false_iff_ne,ne_eq]at h;refine⟨?_,h.1⟩;obtain⟨s,h1,h2⟩:=q9c.1 h.2;have:=eq_of_beq h2;exact this▸h1
def GW(f:Pr):List Str:=((flL f.body).filter fun t=>decide (t.kind=4)).map S.proc
def HT(f:Pr):List Str:=Go.Lib.compact (JW (GW f))
theorem Ur:s∈JW l↔s∈l:=by unfold JW;simp
theorem VO(l:List Str):(JW l).length=l.length:=by unfold JW;simp
theorem RV(f:Pr):(HT f).length<=QU f.body:=by
 have:=J5 (JW (GW f));rw[VO]at this;unfold HT;refine q8i this ?_;unfold GW;rw[q7f,<-V5];exact q9l _ _
theorem Xd(hs:(XZ p).1=0){f:Pr}(hf:f∈p.procs)(h:s∈HT f):s∈procsN p:=by
 have h1:=Ur.1 (PZ h);obtain⟨t,h2,rfl⟩:=q7s.1 h1;obtain⟨h3,h4⟩:=q8t.1 h2;exact(K5 hs hf h3 (by simpa using h4)).1
theorem Hq(h:n∈procsN p):∃(k:Nat) (hk:k<p.procs.length),Qj (fun f=>f.name==n) p.procs=k/\p.procs.find? (fun f=>f.name==n)=some p.procs[k]/\p.procs[k].name=n:=by
 have h':p.procs.any (fun f=>f.name==n)=true:=by
  obtain⟨f,h1,h2⟩:=q7s.1 h;exact q9c.2 ⟨f,h1,by simp[h2]⟩
 obtain⟨k,hk,h1,h2,h3⟩:=Mo h';exact⟨k,hk,h1,h3,by simpa using h2⟩
theorem M0(p:Pg)(n:Str)(k:Nat)(hk:k<p.procs.length)(hi:Qj (fun f=>f.name==n) p.procs=k)(hc:cntP p.procs<=1000):SpecP prog 222 [.ip (sheetOf p).cells,.str n] (fun r=>r=eStrs (HT p.procs[k])):=by
 refine sB G1 func222 rfl call222 ?_;conv=>whnf
 repeat' ((first|(refine iM fun _=>?_)|refine cP (XF _ _) ?_|(refine CallK.pure (Rc p (j:=k) (f:=p.procs[k]'hk) (by simp) hc) (.cons (Sub.refl _) (.cons (Sub.int (by exact hi)) .nil)) ?_;rintro _ rfl));conv=>whnf)
 have hmap:=MF (k:Nat) 0 (-1) 0 (QM p.procs k) p.procs[k].body;have hib:(itL (k:Nat) 0 (-1) 0 (QM p.procs k) p.procs[k].body).length<=1000:=by
  have:=(QV p).2.2.2.2 k p.procs[k] (by simp);rw[ZF];omega
 generalize hits:itL (k:Nat) 0 (-1) 0 (QM p.procs k) p.procs[k].body=its at hmap hib⊢;have hil:=VX its;have hraw:GW p.procs[k]=(its.filter fun it=>decide (it.s.kind=4)).map fun it=>it.s.proc:=by
  unfold GW;rw[<-hmap,List.filter_map,x1o];rfl
 refine LoopK.inv QK (fun i:Nat×List Str=>⟨[(5,.hd 0 0 i.2.length),(12,.p (VL its)),(13,.p (.int .i64 (its.map fun i=>AV.agg i.cells).length)),(14,.p (.int .i64 i.1))],[(0,.own 9 1 (i.2.map .str))]⟩)
  (fun i=>i.1<=its.length/\i.2.length<=i.1/\i.2++((its.drop i.1).filter fun it=>decide (it.s.kind=4)).map (fun it=>it.s.proc)=GW p.procs[k]) (fun i=>its.length-i.1) (0,[])
  (Le.mk [(0,.own 9 1 [])] (by simp[Chunk.new0];rfl) (by simp) (by simp) (.cons (.nil q7d) (.r (.r (.r .nil)))) (.new q7d .nil))
  ⟨q7c _,q8z _,by rw[hraw];rfl⟩ ?_
 rintro⟨j,acc⟩ ⟨h2,h3,h4⟩;simp only at h2 h3 h4⊢;rcases q7e j its.length with hj|hj
 ·conv=>whnf
  repeat' (first|((first|refine q7p rfl ?_|refine aD ?_|refine bP ?_|(refine iA fun _=>?_)|refine wI ?_|refine XQ (by simp) (by simp;omega) ?_);conv=>whnf)|(apply bD<;>intro _<;>first|omega|conv=>whnf))
  ·exact⟨(j+1,acc++[its[j].s.proc]),⟨by simp only;omega,by simp;omega,by simp only;rw[<-h4,QB hj,x3s,if_pos (by simp[*])];simp⟩,by simp only;omega,Le.of_eq (by simp only[q7b,q7o];rfl)⟩
  ·exact⟨(j+1,acc),⟨by simp only;omega,by simp only;omega,by simp only;rw[<-h4,QB hj,x3s,if_neg (by simp[*])]⟩,by simp only;omega,Le.of_eq rfl⟩
 ·have hacc:acc=GW p.procs[k]:=by
   rw[q8v hj]at h4;simpa using h4
  conv=>whnf
  repeat' (first|(apply bD<;>intro _<;>first|omega|conv=>whnf)|(refine CallK.heap [(1000,0)] 0 (by repeat' (first|exact q8c|refine q8w ?_ ?_|exact q8k _|exact q8m Sub.nils|exact q8m (Sub.tt rfl)|exact q8m (Sub.ff rfl)|exact q8m (Sub.int (by omega)))) (by refine q8x (j:=0) rfl rfl ?_ ?_;exact CSub.refl _;exact q8a) (GP acc (by omega)) rfl rfl ?_;rintro l' H' ⟨rfl,rfl⟩;conv=>whnf)|(refine CallK.heap [(1000,0)] 0 (q8w (x2b (by rw[VO];rfl)) q8c) (by refine q8x (j:=0) rfl rfl ?_ ?_;exact CSub.refl _;exact q8a) (KU (JW acc) (by rw[VO];omega)) rfl rfl ?_;rintro l' H' ⟨rfl,rfl⟩;conv=>whnf))
  exact⟨_,.hd rfl (by simp),by unfold HT;rw[<-hacc];rfl⟩
def YV(out:List Str):List Str->List Str
 |[]=>out
 |n::r=>YV (if(out.any fun s=>n==s)=true then out else out++[n]) r
theorem Wh{out:List Str}(hj:j<l.length):YV out (l.drop j)=YV (if(out.any fun s=>l[j]==s)=true then out else out++[l[j]]) (l.drop (j+1)):=by
 rw[QB hj,YV]
theorem FE{p:Pg}:∀(l:List Str){out:List Str},out.Nodup->(∀s∈out,s∈procsN p)->(∀s∈l,s∈procsN p)->(YV out l).Nodup/\(∀s∈YV out l,s∈procsN p)/\∃r,YV out l=out++r
 |[],out,h1,h2,_=>⟨h1,h2,[],by rw[YV];simp⟩
 | n::r,out,h1,h2,h3=>by
   rw[YV];split
   ·exact FE r h1 h2 fun s hs=>h3 s (q7n _ hs)
   ·rename_i hn;have hno:n∉out:=fun hm=>hn (q9c.2 ⟨n,hm,by simp⟩);obtain⟨h4,h5,r',h6⟩:=FE (p:=p) r (out:=out++[n]) (x0x.2 ⟨h1,by simp,fun a ha b hb=>by simp at hb;subst hb;exact fun he=>hno (he▸ha)⟩) (fun s hs=>by
     rcases q7a.1 hs with hs|hs
     ·exact h2 s hs
     ·simp at hs;subst hs;exact h3 _ q7d) fun s hs=>h3 s (q7n _ hs)
    exact⟨h4,h5,n::r',by rw[h6];simp⟩
def J2(p:Pg)(n:Str):List Str:=match p.procs.find? (fun f=>f.name==n)with
 |some f=>HT f
 |none=>[]
def KT(p:Pg):Nat->Nat->List Str->List Str
 |0,_,out=>out
 | fuel+1,i,out=>match out[i]?with
   |some n=>KT p fuel (i+1) (YV out (J2 p n))
   |none=>out
def I9(p:Pg)(n:Str):List Str:=JW (KT p (p.procs.length+1) 0 [n])
theorem FL{α:Type}[BEq α][LawfulBEq α]:∀{l m:List α},l.Nodup->(∀s∈l,s∈m)->l.length<=m.length
 |[],m,_,_=>q7c _
 | a::r,m,h1,h2=>by
   have ha:=h2 a q7d;have:=FL (l:=r) (m:=m.erase a) (q9v.1 h1).2 fun s hs=>(List.mem_erase_of_ne fun he=>(q9v.1 h1).1 (by rw[<-he];exact hs)).2 (h2 s (q7n _ hs));rw[List.length_erase_of_mem ha]at this;have:=x3f ha;simp only[q8s];omega
theorem TL(hk:k<p.procs.length)(h:p.procs.find? (fun f=>f.name==n)=some p.procs[k]):J2 p n=HT p.procs[k]:=by
 unfold J2;rw[h]
theorem Dq(hs:(XZ p).1=0)(h:s∈J2 p n):s∈procsN p:=by
 unfold J2 at h;split at h
 ·rename_i f hf;exact Xd hs (x0c hf) h
 ·cases h
theorem CD(p:Pg)(n:Str)(hs:(XZ p).1=0)(hn:n∈procsN p):SpecP prog 182 [.ip (sheetOf p).cells,.str n] (fun r=>r=eStrs (I9 p n)):=by
 refine sB Ps func182 rfl call182 ?_;conv=>whnf
 obtain⟨hm,hb,hns⟩:=JT hs;obtain⟨hg,hpl,hcn⟩:=WC hm;have hnl:(procsN p).length=p.procs.length:=by simp[procsN]
 repeat' ((first|refine q7p rfl ?_|refine aD ?_|refine x3e (fun x hx=>by rcases q7m.1 hx with rfl;rfl) rfl ?_);conv=>whnf)
 refine LoopK.inv QK (fun i:Nat×List Str=>⟨[(0,.p (.ip (sheetOf p).cells)),(5,.hd 0 0 i.2.length),(6,.p (.int .i64 i.1))],[(0,.own 9 1 (i.2.map .str))]⟩)
  (fun i=>i.1<=i.2.length/\i.2.Nodup/\(∀s∈i.2,s∈procsN p)/\KT p (p.procs.length+1-i.1) i.1 i.2=KT p (p.procs.length+1) 0 [n]) (fun i=>p.procs.length+1-i.1) (0,[n])
  (Le.of_eq rfl) ⟨q7c _,by simp,by simpa using hn,rfl⟩ ?_
 rintro⟨j,out⟩ ⟨h2,h3,h4,h5⟩;simp only at h2 h3 h4 h5⊢;have hol:=FL h3 h4;rcases q7e j out.length with hj|hj
 ·obtain⟨k,hk,hik,hfk,hnk⟩:=Hq (h4 _ (q7i hj));have hcl:=RV p.procs[k];have hcc:QU p.procs[k].body<=200:=by
   have:=(QV p).2.2.2.2 k p.procs[k] (by simp);omega
  conv=>whnf
  repeat' (first|((first|(refine iM fun _=>?_)|refine q7p rfl ?_|refine q9x j rfl hj ?_|refine q9t j 0 (.str out[j]) (by omega) (by simp[hj]) ?_|(refine CallK.pure (M0 p out[j] k hk hik (by omega)) (.cons (Sub.refl _) (.cons (Sub.refl _) .nil)) ?_;rintro _ rfl));conv=>whnf)|(apply bD<;>intro _<;>first|omega|conv=>whnf))
  have hkn:∀s∈HT p.procs[k],s∈procsN p:=fun s h=>Xd hs (q7i hk) h;have hcN:=TL hk hfk;have hre:KT p (p.procs.length+1-j) j out=KT p (p.procs.length+1-(j+1)) (j+1) (YV out (HT p.procs[k])):=by
   rw[show p.procs.length+1-j=(p.procs.length+1-(j+1))+1 by omega,KT,q7g hj];simp only;rw[hcN]
  rw[hre]at h5;obtain⟨hi1,hi2,rr,hi3⟩:=FE (HT p.procs[k]) h3 h4 hkn;generalize HT p.procs[k]=cs at hkn h5 hi1 hi2 hi3 hcl⊢;have hcsl:(cs.map AV.str).length=cs.length:=q7f _;refine LoopK.inv QK (fun i:Nat×List Str=>⟨[(0,.p (.ip (sheetOf p).cells)),(5,.hd 0 0 i.2.length),(6,.p (.int .i64 j)),(22,.p (eStrs cs)),(23,.p (.int .i64 (cs.map AV.str).length)),(24,.p (.int .i64 i.1))],[(0,.own 9 1 (i.2.map .str))]⟩)
   (fun i=>i.1<=cs.length/\i.2.length<=out.length+i.1/\YV i.2 (cs.drop i.1)=YV out cs) (fun i=>cs.length-i.1) (0,out)
   (Le.of_eq rfl) ⟨q7c _,by simp,rfl⟩ ?_
  rintro⟨m,acc⟩ ⟨h6,h7,h8⟩;simp only at h6 h7 h8⊢;rcases q7e m cs.length with hm'|hm'
  ·conv=>whnf
   repeat' (first|((first|refine q7p rfl ?_|refine aD ?_|refine bP ?_|(refine iA fun _=>?_)|refine wI ?_|(refine XU (QW acc (cs[m]'hm')) (.cons (.hd rfl (by simp)) (.cons (.p (Sub.refl _)) .nil)) (by rintro _ rfl;rfl) ?_;rintro _ rfl)|refine XQ (by simp) (by simp;omega) ?_);conv=>whnf)|(apply bD<;>intro _<;>first|omega|conv=>whnf)|(apply bN<;>intro _<;>conv=>whnf))
   ·exact⟨(m+1,acc),⟨by simp only;omega,by simp only;omega,by simp only;rw[<-h8,Wh hm',if_pos (by assumption)]⟩,by simp only;omega,Le.of_eq rfl⟩
   ·exact⟨(m+1,acc++[cs[m]]),⟨by simp only;omega,by simp;omega,by simp only;rw[<-h8,Wh hm',if_neg (by simp[*])]⟩,by simp only;omega,Le.of_eq (by simp only[q7b,q7o];rfl)⟩
  ·rw[q8v hm',YV]at h8;subst h8;have hge:out.length<=(YV out cs).length:=by rw[hi3];simp
   conv=>whnf
   repeat' (first|(refine wI ?_;conv=>whnf)|(apply bD<;>intro _<;>first|omega|conv=>whnf))
   exact⟨(j+1,YV out cs),⟨by simp only;omega,hi1,hi2,h5⟩,by simp only;omega,Le.of_eq rfl⟩
 ·have hjo:j=out.length:=by omega
  have hre:KT p (p.procs.length+1-j) j out=out:=by
   rw[show p.procs.length+1-j=(p.procs.length-j)+1 by omega,KT,q9i (by omega)]
  rw[hre]at h5;conv=>whnf
  repeat' (first|(refine iM fun _=>?_;conv=>whnf)|(apply bD<;>intro _<;>first|omega|conv=>whnf)|(refine CallK.heap [(1000,0)] 0 (by repeat' (first|exact q8c|refine q8w ?_ ?_|exact q8k _|exact q8m Sub.nils|exact q8m (Sub.tt rfl)|exact q8m (Sub.ff rfl)|exact q8m (Sub.int (by omega)))) (by refine q8x (j:=0) rfl rfl ?_ ?_;exact CSub.refl _;exact q8a) (GP out (by omega)) rfl rfl ?_;rintro l' H' ⟨rfl,rfl⟩;conv=>whnf))
  exact⟨_,.hd rfl (by simp[VO]),by unfold I9;rw[<-h5];rfl⟩
mutual
theorem Iv:∀(x:X)(out:List Str),(Dm x out).length<=out.length+wX x
 | .mk op n name kids,out=>by
   rw[Dm,wX];have:=Sf kids (if op=2/\(out.any fun s=>name==s)=false then out++[name]else out);split at this
   ·rename_i h;rw[if_pos h];simp at this;omega
   ·rename_i h;rw[if_neg h];omega
theorem Sf:∀(l:List X)(out:List Str),(FQ l out).length<=out.length+wXs l
 |[],out=>by rw[FQ];omega
 | x::r,out=>by
   have h1:=Iv x out;have h2:=Sf r (Dm x out);rw[FQ,wXs];omega
end
theorem Zi(x:X):(XL x).length<=wX x:=by
 unfold XL;have:=Iv x [];cases Aq x<;>simp at this⊢;exact this
theorem U5:∀l:List Arg,(l.flatMap JN).length<=X6 l
 |[]=>by simp
 | a::r=>by
   have h1:=U5 r;have h2:=Zi a.x;simp only[q9m,q7b,X6];have h3:(JN a).length<=1+(XL a.x).length:=by
    unfold JN;cases a.ref<;>simp;omega
   omega
theorem Ed(t:S):(ZP t).length<=wS t:=by
 have h1:=U5 t.args;have h2:=Zi t.x;rw[A2];have h3:(FK t).length<=1+(XL t.x).length:=by
  unfold FK;cases(decide (t.kind≠10) && !(t.name==[]):Bool)<;>simp;omega
 unfold ZP;rw[q7b];omega
theorem Wg{b:Bool}(h:b=true):Sub (.bool b) .tt:=fun _ _ hr=>by subst h;cases hr;exact .tt
theorem M1(p:Pg)(hf:Fit p)(hs:(XZ p).1=0)(n:Str)(hn:n∈procsN p):SpecP prog 181 [.agg p.cells,.str n] (fun r=>r=.tt):=by
 refine sB G2 func181 rfl call181 ?_;conv=>whnf
 repeat' (first|((first|refine cP (YO p hf) ?_|refine cP (WU p.procs 221 (.ip [.str n]) (fun f=>f.name==n) (Hr n)) ?_);conv=>whnf)|(apply bD<;>intro _<;>first|omega|conv=>whnf))
 have:p.procs.any (fun f=>f.name==n)=true:=by
  obtain⟨f,h1,h2⟩:=q7s.1 hn;exact q9c.2 ⟨f,h1,by simp[h2]⟩
 exact⟨_,.p (Wg this),rfl⟩
def Sm(p:Pg)(t:S):List Str:=(ZP t).filter fun v=>p.globals.any fun s=>v==s
def N9(p:Pg)(n:Str):List Str:=match p.procs.find? (fun f=>f.name==n)with
 |some f=>(flL f.body).flatMap (Sm p)
 |none=>[]
def PY(p:Pg)(n:Str):List Str:=(I9 p n).flatMap (N9 p)
def PU(p:Pg)(n:Str):List Str:=Go.Lib.compact (JW (PY p n))
theorem Jo{p:Pg}(hs:(XZ p).1=0):∀(fuel i:Nat)(out:List Str),out.Nodup->(∀s∈out,s∈procsN p)->(KT p fuel i out).Nodup/\∀s∈KT p fuel i out,s∈procsN p
 |0,i,out,h1,h2=>by rw[KT];exact⟨h1,h2⟩
 | fuel+1,i,out,h1,h2=>by
   rw[KT];split
   ·obtain⟨h3,h4,_⟩:=FE (J2 p _) h1 h2 fun s h=>Dq hs h;exact Jo hs fuel (i+1) _ h3 h4
   ·exact⟨h1,h2⟩
theorem Am(hs:(XZ p).1=0)(hn:n∈procsN p):(I9 p n).length<=p.procs.length/\∀s∈I9 p n,s∈procsN p:=by
 obtain⟨h1,h2⟩:=Jo hs (p.procs.length+1) 0 [n] (by simp) (by simpa using hn);unfold I9;rw[VO];refine⟨?_,fun s h=>h2 s (Ur.1 h)⟩;have:=FL h1 h2;simpa[procsN]using this
theorem JF{β:Type}{f:α->List β}{l:List α}(hj:j<l.length):(l.drop j).flatMap f=f l[j]++(l.drop (j+1)).flatMap f:=by
 rw[QB hj,q9m]
theorem Hl(p:Pg)(hf:Fit p)(hs:(XZ p).1=0)(n:Str)(hn:n∈procsN p):SpecP prog 137 [.agg p.cells,.str n] (fun r=>r=eStrs (PU p n)):=by
 refine sB Wz func137 rfl call137 ?_;conv=>whnf
 obtain⟨hm,hb,hns⟩:=JT hs;obtain⟨hg,hpl,hcn⟩:=WC hm;repeat' ((first|(refine iM fun _=>?_)|refine cP (M1 p hf hs n hn) ?_|refine cP (CD p n hs hn) ?_|(refine CallK.pure (JD p (by omega) (by omega)) (.cons (Sub.refl _) .nil) ?_;rintro _ rfl));conv=>whnf)
 obtain⟨hal,hak⟩:=Am hs hn;have hgl:PU p n=Go.Lib.compact (JW (PY p n)):=rfl;have hgr:PY p n=(I9 p n).flatMap (N9 p):=rfl;rw[hgl];generalize I9 p n=ns at hal hak hgr⊢;have hnl:(ns.map AV.str).length=ns.length:=q7f _;refine LoopK.inv QK (fun i:Nat×List Str=>⟨[(2,.p (.ip p.cells)),(5,.p (.ip (sheetOf p).cells)),(6,.hd 0 0 i.2.length),(21,.p (eStrs ns)),(22,.p (.int .i64 (ns.map AV.str).length)),(23,.p (.int .i64 i.1))],[(0,.own 9 1 (i.2.map .str))]⟩)
  (fun i=>i.1<=ns.length/\i.2.length<=4000000*i.1/\i.2++(ns.drop i.1).flatMap (N9 p)=PY p n) (fun i=>ns.length-i.1) (0,[])
  (Le.mk [(0,.own 9 1 [])] (by simp[Chunk.new0];rfl) (by simp) (by simp) (.r (.r (.cons (.nil q7d) (.r (.r (.r .nil)))))) (.new q7d .nil))
  ⟨q7c _,by simp,by rw[hgr];rfl⟩ ?_
 rintro⟨j,acc⟩ ⟨h2,h3,h4⟩;simp only at h2 h3 h4⊢;rcases q7e j ns.length with hj|hj;rotate_left 1
 ·have hacc:acc=PY p n:=by
   rw[q8v hj]at h4;simpa using h4
  rw[<-hacc];conv=>whnf
  repeat' (first|(apply bD<;>intro _<;>first|omega|conv=>whnf)|(refine CallK.heap [(1000,0)] 0 (by repeat' (first|exact q8c|refine q8w ?_ ?_|exact q8k _|exact q8m Sub.nils|exact q8m (Sub.tt rfl)|exact q8m (Sub.ff rfl)|exact q8m (Sub.int (by omega)))) (by refine q8x (j:=0) rfl rfl ?_ ?_;exact CSub.refl _;exact q8a) (GP acc (by omega)) rfl rfl ?_;rintro l' H' ⟨rfl,rfl⟩;conv=>whnf)|(refine CallK.heap [(1000,0)] 0 (q8w (x2b (by rw[VO];rfl)) q8c) (by refine q8x (j:=0) rfl rfl ?_ ?_;exact CSub.refl _;exact q8a) (KU (JW acc) (by rw[VO];omega)) rfl rfl ?_;rintro l' H' ⟨rfl,rfl⟩;conv=>whnf))
  exact⟨_,.hd rfl (by simp),rfl⟩
 obtain⟨k,hk,hik,hfk,hnk⟩:=Hq (hak _ (q7i hj));have hgn:N9 p ns[j]=(flL p.procs[k].body).flatMap (Sm p):=by unfold N9;rw[hfk]
 rw[JF hj,hgn]at h4;have hfp:=hf.pr (q7i hk);have hpk:p.procs[k]?=some p.procs[k]:=by simp
 conv=>whnf
 repeat' (first|((first|(refine iM fun _=>?_)|refine cP (XF _ _) ?_|(refine iA fun _=>?_)|(refine CallK.pure (Rc p (j:=k) (f:=p.procs[k]'hk) hpk (by omega)) (.cons (Sub.refl _) (.cons (Sub.int (by exact hik)) .nil)) ?_;rintro _ rfl));conv=>whnf)|(apply bD<;>intro _<;>first|omega|conv=>whnf))
 have hmap:=MF (k:Nat) 0 (-1) 0 (QM p.procs k) p.procs[k].body;have hargs:∀m (hm:m<(itL (k:Nat) 0 (-1) 0 (QM p.procs k) p.procs[k].body).length),wS (itL (k:Nat) 0 (-1) 0 (QM p.procs k) p.procs[k].body)[m].s<=20000:=fun m hm=>by
  have hmm:(itL (k:Nat) 0 (-1) 0 (QM p.procs k) p.procs[k].body)[m].s∈flL p.procs[k].body:=by
   rw[<-hmap];exact q7s.2 ⟨_,q7i hm,rfl⟩
  have:=N2 _ _ hmm;unfold wPr at hfp;omega
 have hib:(itL (k:Nat) 0 (-1) 0 (QM p.procs k) p.procs[k].body).length<=200:=by
  have:=(QV p).2.2.2.2 k p.procs[k] hpk;rw[ZF];omega
 rw[<-hmap]at h4;generalize hits:itL (k:Nat) 0 (-1) 0 (QM p.procs k) p.procs[k].body=its at hargs hib h4⊢;have hil:=VX its;refine LoopK.inv QK (fun i:Nat×List Str=>⟨[(2,.p (.ip p.cells)),(5,.p (.ip (sheetOf p).cells)),(6,.hd 0 0 i.2.length),(21,.p (eStrs ns)),(22,.p (.int .i64 (ns.map AV.str).length)),(23,.p (.int .i64 j)),(31,.p (VL its)),(32,.p (.int .i64 (its.map fun i=>AV.agg i.cells).length)),(33,.p (.int .i64 i.1))],[(0,.own 9 1 (i.2.map .str))]⟩)
  (fun i=>i.1<=its.length/\i.2.length<=acc.length+20000*i.1/\i.2++(((its.drop i.1).map Item.s).flatMap (Sm p)++(ns.drop (j+1)).flatMap (N9 p))=PY p n) (fun i=>its.length-i.1) (0,acc)
  (Le.of_eq rfl) ⟨q7c _,by simp,h4⟩ ?_
 rintro⟨m,acc2⟩ ⟨h6,h7,h8⟩;simp only at h6 h7 h8⊢;rcases q7e m its.length with hm'|hm';rotate_left 1
 ·rw[q8v hm']at h8;conv=>whnf
  repeat' (first|(refine wI ?_;conv=>whnf)|(apply bD<;>intro _<;>first|omega|conv=>whnf))
  exact⟨(j+1,acc2),⟨by simp only;omega,by simp only;omega,by simpa using h8⟩,by simp only;omega,Le.of_eq rfl⟩
 have hw:=hargs m hm';have hna:its[m].s.args.length<=20000:=by
  have:=A2 its[m].s;have:=LD its[m].s.args;omega
 have hnw:=Ed its[m].s;rw[q8o hm',q8f,q9m,q8d]at h8;have hgt:Sm p its[m].s=(ZP its[m].s).filter fun v=>p.globals.any fun s=>v==s:=rfl;conv=>whnf
 repeat' (first|((first|(refine iM fun _=>?_)|refine cP (Jx _ hna) ?_|refine q7p rfl ?_|(refine iA fun _=>?_));conv=>whnf)|(apply bD<;>intro _<;>first|omega|conv=>whnf))
 rw[hgt]at h8;generalize ZP its[m].s=vs at hnw h8⊢;have hvl:(vs.map AV.str).length=vs.length:=q7f _;refine LoopK.inv QK (fun i:Nat×List Str=>⟨[(2,.p (.ip p.cells)),(5,.p (.ip (sheetOf p).cells)),(6,.hd 0 0 i.2.length),(21,.p (eStrs ns)),(22,.p (.int .i64 (ns.map AV.str).length)),(23,.p (.int .i64 j)),(31,.p (VL its)),(32,.p (.int .i64 (its.map fun i=>AV.agg i.cells).length)),(33,.p (.int .i64 m)),(39,.p (eStrs vs)),(40,.p (.int .i64 (vs.map AV.str).length)),(41,.p (.int .i64 i.1))],[(0,.own 9 1 (i.2.map .str))]⟩)
  (fun i=>i.1<=vs.length/\i.2.length<=acc2.length+i.1/\i.2++((vs.drop i.1).filter (fun v=>p.globals.any fun s=>v==s)++(((its.drop (m+1)).map Item.s).flatMap (Sm p)++(ns.drop (j+1)).flatMap (N9 p)))=PY p n) (fun i=>vs.length-i.1) (0,acc2)
  (Le.of_eq rfl) ⟨q7c _,by simp,h8⟩ ?_
 rintro⟨q,acc3⟩ ⟨h9,h10,h11⟩;simp only at h9 h10 h11⊢;rcases q7e q vs.length with hq|hq
 ·rw[q8o hq,x3s]at h11;conv=>whnf
  repeat' (first|((first|refine cP (QW _ _) ?_|refine q7p rfl ?_|refine aD ?_|refine bP ?_|(refine iA fun _=>?_)|refine wI ?_|refine XQ (by simp) (by simp;omega) ?_);conv=>whnf)|(apply bD<;>intro _<;>first|omega|conv=>whnf)|(apply bB<;>intro _<;>conv=>whnf))
  ·exact⟨(q+1,acc3++[vs[q]]),⟨by simp only;omega,by simp;omega,by rw[if_pos (by assumption)]at h11;simpa using h11⟩,by simp only;omega,Le.of_eq (by simp only[q7b,q7o];rfl)⟩
  ·exact⟨(q+1,acc3),⟨by simp only;omega,by simp only;omega,by rw[if_neg (by simp[*])]at h11;exact h11⟩,by simp only;omega,Le.of_eq rfl⟩
 ·rw[q8v hq]at h11;conv=>whnf
  repeat' (first|(refine wI ?_;conv=>whnf)|(apply bD<;>intro _<;>first|omega|conv=>whnf))
  exact⟨(m+1,acc3),⟨by simp only;omega,by simp only;omega,by simpa using h11⟩,by simp only;omega,Le.of_eq rfl⟩
section
variable {P:Program}{T:Tab}{N:Nat}
def YW(s:List UInt8):Value:=.string ⟨s.toArray⟩
def A9(l:List (List UInt8×AV)):XC:=.map (l.map fun x=>(YW x.1,x.2))
def BG{α:Type}(l:List (List UInt8×α))(k:List UInt8)(v:α):List (List UInt8×α):=
 match l with
 |[]=>[(k,v)]
 |x::r=>if k=x.1 then(x.1,v)::r else x::BG r k v
def Pv{α:Type}(l:List (List UInt8×α))(k:List UInt8):Option α:=(l.find? fun x=>decide (k=x.1)).map (·.2)
theorem Wc(h:Xf es clock){e:MapEntry}(he:e.born=clock):Xf (es.push e) (clock+1):=by
 refine⟨?_,fun x hx=>?_⟩
 ·rw[Array.toList_push,q7o,x0x];refine⟨h.1,by simp,fun a ha b hb=>?_⟩;obtain⟨x,hx,rfl⟩:=q7s.1 ha;have:=h.2 x hx;simp only[q8f,x3q,q7m]at hb;omega
 ·rw[Array.toList_push]at hx;rcases q7a.1 hx with hx|hx
  ·have:=h.2 x hx;omega
  ·rw[q7m.1 hx,he];omega
theorem Jn{α β:Type}(g:α->β)(f:α->α)(hf:∀x,g (f x)=g x):∀(l:List α)(j:Nat),(l.modify j f).map g=l.map g
 |[],j=>by simp
 |x::r,0=>by simp[hf]
 |x::r,j+1=>by simp[Jn g f hf r j]
theorem NM(h:Xf es clock)(j:Nat){f:MapEntry->MapEntry}(hf:∀e,(f e).born=e.born):Xf (es.modify j f) clock:=by
 have e:(es.modify j f).toList.map (·.born)=es.toList.map (·.born):=by
  rw[Array.toList_modify];exact Jn _ f hf _ j
 refine⟨by rw[e];exact h.1,fun x hx=>?_⟩;have h1:x.born∈(es.modify j f).toList.map (·.born):=q7s.2 ⟨x,hx,rfl⟩;rw[e]at h1;obtain⟨y,h2,h3⟩:=q7s.1 h1;rw[<-h3];exact h.2 y h2
theorem OpK.makeMap{s:St}{o:Oper}{K:St->Prop}{t:TypeId}(hop:o.op=.makeMap t none)(h:GS 60 0 s fun k=>setD N s.sl o.dst (.ext k .map) fun sl=>K ⟨sl,(k,.ext (A9 []))::s.H⟩):OpK P N s o K:=by
 refine⟨fun σ β a w hr Q=>?_⟩;obtain⟨k,hk,h⟩:=UK h;have hchunk:(Chunk.ext (A9 [])).holds σ (β.set k (some ⟨w.heap.size,0,0,[],q7c _⟩)) (w.alloc (.map #[] 0)) k:=
  ⟨⟨w.heap.size,0,0,[],q7c _⟩,#[],0,by simp[Lab.set],heap_alloc_new w _,⟨.nil,fun x hx=>by cases hx⟩,rfl,by simp⟩
 obtain⟨hr',hl⟩:=hr.new hk rfl rfl hchunk;obtain⟨sl,hK,hr''⟩:=hr'.setD (v:=.ext k .map) (u:=.map (some w.heap.size)) (.ext k .map ⟨w.heap.size,0,0,[],q7c _⟩ _ (by simp[Lab.set]) rfl) h;exact XE (w':=w.alloc (.map #[] 0)) (by simp[execOp,hop,Instr.makeMap]) ⟨σ,_,_,hK,hr'',hl⟩
theorem Wa(a b:List UInt8):((⟨a.toArray⟩:ByteArray)==⟨b.toArray⟩)=decide (a=b):=by
 show(a.toArray==b.toArray)=decide (a=b);by_cases h:a=b
 ·subst h;simp
 ·simp[h]
theorem HS{α:Type}(k:List UInt8):∀(es:List MapEntry)(l:List (List UInt8×α))(i:Nat),es.map (·.key)=l.map (fun x=>YW x.1)->
  Instr.findNow .string (YW k) es i=some (match l.findIdx? fun x=>decide (k=x.1)with
   |some j=>some (i+j,(es[j]?.map (·.val)).getD undef)
   |none=>none)
 |[],[],_,_=>rfl
 |[],_::_,_,h=>by cases h
 |_::_,[],_,h=>by cases h
 | e::es,x::l,i,h=>by
   simp only[q8f,List.cons.injEq]at h;have hs:Instr.sameNow .string (YW k) e.key=some (decide (k=x.1)):=by
    rw[h.1];show some ((⟨k.toArray⟩:ByteArray)==⟨x.1.toArray⟩)=_;rw[Wa]
   rw[Instr.findNow,hs,findIdx?_cons];by_cases hk:k=x.1
   ·simp[hk]
   ·simp only[hk,decide_false];rw[HS k es l (i+1) h.2];cases l.findIdx? fun x=>decide (k=x.1)with
    |none=>rfl
    |some j=>simp;omega
theorem Xn{l:List (List UInt8×AV)}(h1:es.size=(l.map fun x=>(YW x.1,x.2)).length)(h2:∀(m:Nat)(x:Value×AV),(l.map fun x=>(YW x.1,x.2))[m]?=some x->∃e:MapEntry,es[m]?=some e/\e.key=x.1/\Rep σ x.2 e.val):
  es.toList.map (·.key)=l.map (fun x=>YW x.1):=by
 apply List.ext_getElem?;intro m;rw[q7l,q7l];cases hq:l[m]?with
 | none=>
   have:es.toList[m]?=none:=by
    rw[List.getElem?_eq_none_iff]at hq⊢;simp at h1⊢;omega
   rw[this];rfl
 | some x=>
   obtain⟨e,h3,h4,_⟩:=h2 m (YW x.1,x.2) (by simp[hq]);have h3':es.toList[m]?=some e:=by simpa using h3
   rw[h3'];simp[h4]
theorem YD{P:Program}{t:TypeId}(ht:P.underlying t=some .string)(b:Bool)(k:List UInt8)(w:World):(Instr.checkKey b 10000 t (YW k)).run P w=.ok () w:=by
 have e:Instr.checkKey b 10000 t (YW k)=Instr.checkKey b (9999+1) t (YW k):=rfl;rw[e,Instr.checkKey,Sem.run_bind,run_underlying ht,Result.andThen_ok];rfl
theorem R8{l:List UInt8}(h:RepL σ β (.p (.str l)) v):v=YW l:=h.strV.1
theorem UG{P:Program}{r:Nat}(h:w.heap[r]?=some (.map es clock)):(getObj r).run P w=.ok (.map es clock) w:=by simp[getObj,Sem.run,h]
theorem DL{P:Program}{r:Nat}(o:Obj)(h:w.heap[r]?=some (.map es clock)):(setObj r o).run P w=.ok () {w with heap:=w.heap.setIfInBounds r o}:=by simp[setObj,Sem.run,h]
theorem OpK.lookup(hT:TabOK P T){s:St}{o:Oper}{K:St->Prop}{t:TypeId}{x ix:Operand}(hop:o.op=.lookup t x ix false){k:Nat}(hx:QL s.sl x=.ext k .map){l:List (List UInt8×AV)}(hg:getH s.H k=some (.ext (A9 l))){ks:List UInt8}(hk:QL s.sl ix=.p (.str ks)){i ik:TyI}{kt et:TypeId}(ht:T.get t=some i)(hd:i.desc=.map kt et)(htk:T.get kt=some ik)(hdk:ik.desc=.string){v:AV}(hv:Pv l ks=some v)(h:setD N s.sl o.dst (.p v) fun sl=>K ⟨sl,s.H⟩):OpK P N s o K:=by
 refine⟨fun σ β a w hr Q=>?_⟩;have hx':=QZ hr.slots x;have hk':=QZ hr.slots ix;rw[hx]at hx';rw[hk]at hk';have hkv:=R8 hk';generalize hxe:a.eval x=xv at hx';cases hx' with
 | ext _ _ bi _ hbi hd'=>
   obtain rfl:xv=.map (some bi.blk):=hd';obtain⟨bi',es,clock,hbi',hh,hbo,h1,h2⟩:=hr.heap.chunks k _ (QF hg);rw[hbi]at hbi';cases hbi';have hkeys:=Xn h1 h2;have hu:=hT.of ht;have huk:=hT.of htk;rw[hd]at hu;rw[hdk]at huk;obtain⟨j,hj,hjv⟩ : ∃j,(l.findIdx? fun x=>decide (ks=x.1))=some j/\∃x,l[j]?=some x/\x.2=v:=by
    unfold Pv at hv;cases hf:l.find? fun x=>decide (ks=x.1)with
    |none=>rw[hf]at hv;cases hv
    | some x=>
      rw[hf]at hv;cases hv;obtain⟨h3,j,hlt,h4,h5⟩:=List.find?_eq_some_iff_getElem.1 hf;refine⟨j,?_,x,by rw[q7g hlt,h4],rfl⟩;rw[List.findIdx?_eq_some_iff_getElem];exact⟨hlt,by rw[h4];exact h3,fun i hi=>by simpa using h5 i hi⟩
   obtain⟨y,hjl,rfl⟩:=hjv;obtain⟨e,h3,h4,h5⟩:=h2 j (YW y.1,y.2) (by simp[hjl]);have hfind:=HS ks es.toList l 0 hkeys;rw[hj]at hfind;have h3':es.toList[j]?=some e:=by simpa using h3
   simp only[h3',x1p,q9j]at hfind;have hrun:(execOp a.eval o).run P w=.ok (.value e.val) w:=by
    have hfk:(Instr.findKey kt (YW ks) es.toList).run P w=.ok (some (0+j,e.val)) w:=by
     unfold Instr.findKey;rw[Sem.run_bind,run_underlying huk,Result.andThen_ok,hfind];rfl
    have hlk:(Instr.lookup t (.map (some bi.blk)) (YW ks) false).run P w=.ok e.val w:=by
     unfold Instr.lookup;rw[Sem.run_bind,run_underlying hu,Result.andThen_ok];simp only[Sem.run_bind,UG hh,Result.andThen_ok,Sem.run_pure,YD huk,hfk];rfl
    simp only[execOp,hop,hxe,hkv,Sem.run_bind,hlk,Result.andThen_ok];rfl
   obtain⟨sl,hK,hr'⟩:=hr.setD (.p h5) h;exact XE hrun ⟨σ,β,_,hK,hr',Later.refl _ _ _ _⟩
theorem Uo{l:List (List UInt8×α)}{k:List UInt8}{v:α}(h:(l.findIdx? fun x=>decide (k=x.1))=none):BG l k v=l++[(k,v)]:=by
 induction l with
 |nil=>rfl
 | cons x r ih=>
   rw[findIdx?_cons]at h;by_cases hk:k=x.1
   ·simp[hk]at h
   ·simp[hk]at h;rw[BG,if_neg hk,ih (by simpa using h)];rfl
theorem Pq{l:List (List UInt8×α)}{k:List UInt8}{v:α}(h:(l.findIdx? fun x=>decide (k=x.1))=some j):∃x,l[j]?=some x/\BG l k v=l.set j (x.1,v):=by
 induction l generalizing j with
 |nil=>cases h
 | cons x r ih=>
   rw[findIdx?_cons]at h;by_cases hk:k=x.1
   ·simp[hk]at h;subst h;exact⟨x,rfl,by rw[BG,if_pos hk];rfl⟩
   ·simp[hk]at h;obtain⟨j',h1,rfl⟩:=h;obtain⟨y,h2,h3⟩:=ih h1;exact⟨y,by simpa using h2,by rw[BG,if_neg hk,h3];rfl⟩
theorem OpK.mapUpdate(hT:TabOK P T){s:St}{o:Oper}{K:St->Prop}{t:TypeId}{x ix vx:Operand}(hop:o.op=.mapUpdate t x ix vx)(hdst:o.dst=none){k:Nat}(hx:QL s.sl x=.ext k .map){l:List (List UInt8×AV)}(hg:getH s.H k=some (.ext (A9 l))){ks:List UInt8}(hk:QL s.sl ix=.p (.str ks)){v:AV}(hvx:QL s.sl vx=.p v){i ik:TyI}{kt et:TypeId}(ht:T.get t=some i)(hd:i.desc=.map kt et)(htk:T.get kt=some ik)(hdk:ik.desc=.string)(h:Yf s.H k (.ext (A9 (BG l ks v))) fun H=>K ⟨s.sl,H⟩):OpK P N s o K:=by
 refine⟨fun σ β a w hr Q=>?_⟩;have hx':=QZ hr.slots x;have hk':=QZ hr.slots ix;have hv':=QZ hr.slots vx;rw[hx]at hx';rw[hk]at hk';rw[hvx]at hv';have hkv:=R8 hk';generalize hxe:a.eval x=xv at hx';generalize hve:a.eval vx=vv at hv';cases hv' with
 |p hvr=>
 cases hx' with
 | ext _ _ bi _ hbi hd'=>
   obtain rfl:xv=.map (some bi.blk):=hd';obtain⟨bi',es,clock,hbi',hh,hbo,h1,h2⟩:=hr.heap.chunks k _ (QF hg);rw[hbi]at hbi';cases hbi';have hkeys:=Xn h1 h2;have hu:=hT.of ht;have huk:=hT.of htk;rw[hd]at hu;rw[hdk]at huk;have hfind:=HS ks es.toList l 0 hkeys;have hlab:=QN hg;have hlt:=(hr.heap.apart k hlab bi hbi bi.blk bi.has_blk).2;obtain⟨es',clock',hrun,hbo',hsz,hent⟩ : ∃es' clock',(Instr.mapUpdate t (.map (some bi.blk)) (YW ks) vv).run P w=.ok () {w with heap:=w.heap.setIfInBounds bi.blk (.map es' clock')}/\Xf es' clock'/\es'.size=(BG l ks v).length/\
     ∀(m:Nat)(x:Value×AV),((BG l ks v).map fun x=>(YW x.1,x.2))[m]?=some x->∃e:MapEntry,es'[m]?=some e/\e.key=x.1/\Rep σ x.2 e.val:=by
    cases hj:l.findIdx? fun x=>decide (ks=x.1)with
    | none=>
      rw[hj]at hfind;refine⟨es.push {key:=YW ks,val:=vv,born:=clock},clock+1,?_,Wc hbo rfl,?_,fun m y hy=>?_⟩
      ·have hfk:(Instr.findKey kt (YW ks) es.toList).run P w=.ok none w:=by
        unfold Instr.findKey;rw[Sem.run_bind,run_underlying huk,Result.andThen_ok,hfind];rfl
       unfold Instr.mapUpdate;rw[Sem.run_bind,run_underlying hu,Result.andThen_ok];simp only[Sem.run_bind,UG hh,Result.andThen_ok,Sem.run_pure,YD huk,hfk,DL _ hh]
      ·rw[Uo hj];simpa using h1
      ·rw[Uo hj]at hy;simp only[q7f]at h1;rw[q7o,x1u]at hy;split at hy
       ·rename_i hm;obtain⟨e,h3,h4⟩:=h2 m y hy;simp only[q7f]at hm;exact⟨e,by rw[x3x,if_neg (by omega)];exact h3,h4⟩
       ·rename_i hm;simp only[q7f]at hm hy;have hm0:m-l.length=0:=by
         have:=(q7t.1 hy).1;simp at this;omega
        rw[hm0]at hy;simp at hy;subst hy;exact⟨{key:=YW ks,val:=vv,born:=clock},by rw[x3x,if_pos (by omega)],rfl,hvr⟩
    | some j=>
      rw[hj]at hfind;obtain⟨y,hy1,hy2⟩:=Pq (v:=v) hj;obtain⟨e,h3,h4,h5⟩:=h2 j (YW y.1,y.2) (by simp[hy1]);have hky:ks=y.1:=by
       obtain⟨hlt,h6,_⟩:=List.findIdx?_eq_some_iff_getElem.1 hj;rw[q7g hlt]at hy1;cases hy1;simpa using h6
      have h3':es.toList[j]?=some e:=by simpa using h3
      have hjlt:j<es.size:=(q8h.1 h3).1;simp only[h3',x1p,q9j,x0j]at hfind;have hek:e.key=YW ks:=by rw[h4,hky]
      refine⟨es.modify j fun e=>{e with key:=YW ks,val:=vv},clock,?_,NM hbo j fun _=>rfl,?_,fun m z hz=>?_⟩
      ·have hfk:(Instr.findKey kt (YW ks) es.toList).run P w=.ok (some (j,e.val)) w:=by
        unfold Instr.findKey;rw[Sem.run_bind,run_underlying huk,Result.andThen_ok,hfind];rfl
       have hkt:(Instr.keyThatStays (((es[j]?).map (·.key)).getD (YW ks)) (YW ks)).run P w=.ok (YW ks) w:=by
        rw[h3];simp only[x1p,q9j,hek];unfold Instr.keyThatStays;have:Instr.sameBits 10000 (YW ks) (YW ks)=true:=by
         unfold YW;show((⟨ks.toArray⟩:ByteArray)==⟨ks.toArray⟩)=true;rw[Wa];simp
        rw[if_pos this];rfl
       unfold Instr.mapUpdate;rw[Sem.run_bind,run_underlying hu,Result.andThen_ok];simp only[Sem.run_bind,UG hh,Result.andThen_ok,Sem.run_pure,YD huk,hfk,hkt,DL _ hh]
      ·rw[hy2];simpa using h1
      ·rw[hy2,q9k]at hz;by_cases hm:m=j
       ·subst hm;rw[q9p (by simp at h1⊢;omega)]at hz;cases hz;exact⟨{e with key:=YW ks,val:=vv},by simp[x1f,h3],by rw[hky],hvr⟩
       ·rw[q9a (x1k hm)]at hz;obtain⟨e',h6,h7⟩:=h2 m z hz;exact⟨e',by rw[x1f,if_neg (x1k hm)];exact h6,h7⟩
   have hrun':(execOp a.eval o).run P w=.ok .skip {w with heap:=w.heap.setIfInBounds bi.blk (.map es' clock')}:=by
    simp only[execOp,hop,hxe,hkv,hve,Sem.run_bind,hrun,Result.andThen_ok];rfl
   obtain⟨H',hK,h3,h4,h5⟩:=YB hr.heap.nodup h;have hot:∀b,b≠bi.blk->({w with heap:=w.heap.setIfInBounds bi.blk (.map es' clock')}:World).heap[b]?=w.heap[b]?:=fun b hb=>x1v (x1k hb);have hheap:HRel σ β H' {w with heap:=w.heap.setIfInBounds bi.blk (.map es' clock')}:=by
    refine⟨fun b c hb=>?_,fun j c hj=>?_,by rw[h3];exact hr.heap.nodup,fun j hj i' hi' b hb=>?_,fun j hj j' hj'=>hr.heap.inj j (h3▸hj) j' (h3▸hj')⟩
    ·obtain⟨e,fr,h6⟩:=hr.heap.mem b c hb;exact⟨e,fr,(hot b fun he=>by rw[he,hh]at h6;cases h6).trans h6⟩
    ·by_cases hjk:j=k
     ·subst hjk;rw[h5 c hj];exact⟨bi,es',clock',hbi,by simp[hlt],hbo',by simpa using hsz,hent⟩
     ·have hm:=h4 j c hj hjk;exact(hr.heap.chunks j c hm).mono (Mem.le_refl σ) fun i' hi' b hb=>hot b fun he=>hjk (hr.heap.inj j (q7s.2 ⟨_,hm,rfl⟩) k hlab i' bi hi' hbi b hb (.inl he.symm))
    ·have:=hr.heap.apart j (h3▸hj) i' hi' b hb;exact⟨this.1,by simpa using this.2⟩
   refine W7 hrun' ⟨σ,β,⟨s.sl,H'⟩,hK,⟨?_,?_,?_,hheap⟩,Mem.le_refl σ,⟨rfl,rfl,rfl,q8z _,by simp,fun b _ hn=>hot b fun he=>hn ⟨k,hlab,bi,hbi,.inl he.symm⟩⟩,fun b h0 h1=>absurd h0 h1,fun b ⟨j,hj,r⟩=>.inl ⟨j,h3▸hj,r⟩,fun _ _ _=>rfl⟩
   ·rw[hdst];exact hr.size
   ·rw[hdst];exact hr.defers
   ·rw[hdst];exact hr.slots
end
def WD(nm:Str)(touched:List Str):List Arg->List Str->Bool
 |[],_=>true
 |a::r,seen=>bif a.ref then bif (seen.any fun s=>a.name==s)||((a.name==nm)||touched.any fun s=>a.name==s)then false else WD nm touched r (seen++[a.name])else WD nm touched r seen
theorem D2(t:S)(touched:List Str)(ha:t.args.length<=20000):SpecP prog 138 [.agg t.cells,eStrs touched] (fun r=>r=.bool (WD t.name touched t.args [])):=by
 refine sB Y5 func138 rfl call138 ?_;conv=>whnf
 repeat' (refine iM fun _=>?_;conv=>whnf)
 have hl:(t.args.map fun a=>AV.agg a.cells).length=t.args.length:=q7f _;refine LoopK.inv QK (fun i:Nat×List Str=>⟨[(1,.p (eStrs touched)),(2,.p (.ip t.cells)),(5,.hd 0 0 i.2.length),(9,.p (.sl (t.args.map fun a=>.agg a.cells))),(10,.p (.int .i64 (t.args.map fun a=>AV.agg a.cells).length)),(11,.p (.int .i64 i.1))],[(0,.own 9 1 (i.2.map .str))]⟩)
  (fun i=>i.1<=t.args.length/\i.2.length<=i.1/\WD t.name touched (t.args.drop i.1) i.2=WD t.name touched t.args []) (fun i=>t.args.length-i.1) (0,[])
  (Le.mk [(0,.own 9 1 [])] (by simp[Chunk.new0];rfl) (by simp) (by simp) (.r (.r (.cons (.nil q7d) (.r (.r (.r .nil)))))) (.new q7d .nil))
  ⟨q7c _,q8z _,rfl⟩ ?_
 rintro⟨j,acc⟩ ⟨h2,h3,h4⟩;simp only at h2 h3 h4⊢;rcases q7e j t.args.length with hj|hj
 ·rw[q8o hj,WD]at h4;conv=>whnf
  repeat' (first|((first|refine cP (QW _ _) ?_|refine q7p rfl ?_|refine aD ?_|refine bP ?_|(refine iA fun _=>?_)|refine wI ?_|(refine XU (QW acc (t.args[j]'hj).name) (.cons (.hd rfl (by simp)) (.cons (.p (Sub.refl _)) .nil)) (by rintro _ rfl;rfl) ?_;rintro _ rfl)|refine XQ (by simp) (by simp;omega) ?_);conv=>whnf)|(apply bD<;>intro _<;>first|omega|conv=>whnf)|(apply bN<;>intro _<;>conv=>whnf)|(apply bB<;>intro _<;>conv=>whnf))
  all_goals first
   |exact RetK.ff (by rw[<-h4];simp[*])
   |exact⟨(j+1,acc++[t.args[j].name]),⟨by simp only;omega,by simp;omega,by simp only;rw[<-h4];simp[*]⟩,by simp only;omega,Le.of_eq (by simp only[q7b,q7o];rfl)⟩
   |exact⟨(j+1,acc),⟨by simp only;omega,by simp only;omega,by simp only;rw[<-h4];simp[*]⟩,by simp only;omega,Le.of_eq rfl⟩
 ·rw[q8v hj,WD]at h4;conv=>whnf
  repeat' (apply bD<;>intro _<;>first|omega|conv=>whnf)
  exact RetK.tt h4.symm
def NB(p:Pg):Int×Int:=
 if(UM p).1≠0 then(1,0)else match(YZ p).find? fun t=>decide (t.kind=4) && !WD t.name (PU p t.proc) t.args []with
  |some t=>(8,t.id)
  |none=>(0,0)
theorem Aa(h:(UM p).1=0):(XZ p).1=0/\(YZ p).find? (fun t=>decide (t.kind=4) && !HC p t)=none:=by
 unfold UM at h;split at h
 ·cases h
 ·rename_i hs;refine⟨by omega,?_⟩;split at h
  ·cases h
  ·assumption
theorem I1{l:List (Str×AV)}{k:Str}{v:AV}{x:Str×AV}(h:x∈BG l k v):x∈l\/x=(k,v):=by
 induction l with
 |nil=>rw[BG]at h;exact .inr (by simpa using h)
 | cons y r ih=>
   rw[BG]at h;split at h
   ·rename_i hk;rcases q7r.1 h with h|h
    ·exact .inr (by rw[h,hk])
    ·exact .inl (q7n _ h)
   ·rcases q7r.1 h with h|h
    ·exact .inl (by rw[h];exact q7d)
    ·exact(ih h).imp (q7n _) id
theorem I0{l:List (Str×AV)}{k:Str}{v:AV}(h:s=k\/∃x∈l,x.1=s):∃x∈BG l k v,x.1=s:=by
 induction l with
 | nil=>
   rcases h with rfl|⟨x,hx,_⟩
   ·exact⟨(s,v),by rw[BG];exact q7d,rfl⟩
   ·cases hx
 | cons y r ih=>
   rw[BG];split
   ·rename_i hk;rcases h with rfl|⟨x,hx,rfl⟩
    ·exact⟨(y.1,v),q7d,hk.symm⟩
    ·rcases q7r.1 hx with rfl|hx
     ·exact⟨(x.1,v),q7d,rfl⟩
     ·exact⟨x,q7n _ hx,rfl⟩
   ·rcases h with rfl|⟨x,hx,rfl⟩
    ·obtain⟨z,hz,h3⟩:=ih (.inl rfl);exact⟨z,q7n _ hz,h3⟩
    ·rcases q7r.1 hx with rfl|hx
     ·exact⟨x,q7d,rfl⟩
     ·obtain⟨z,hz,h3⟩:=ih (.inr ⟨x,hx,rfl⟩);exact⟨z,q7n _ hz,h3⟩
theorem O9{l:List (Str×AV)}{g:Str->AV}(h:∀x∈l,x.2=g x.1){k:Str}(hk:∃x∈l,x.1=k):Pv l k=some (g k):=by
 unfold Pv;cases hf:l.find? fun x=>decide (k=x.1)with
 | none=>
   obtain⟨x,hx,rfl⟩:=hk;have:=x0o.1 hf x hx;simp at this
 | some x=>
   have h1:=x0c hf;have h2:=x2q hf;simp at h2;simp[h x h1,h2]
theorem Pi(p:Pg)(hf:Fit p):SpecP prog 84 [.agg p.cells] (fun r=>r=J8 (NB p).1 (NB p).2):=by
 refine sB Kb func84 rfl call84 ?_;conv=>whnf
 repeat' (first|((first|refine cP (Wt p hf) ?_|refine q7p rfl ?_);conv=>whnf)|(apply bE<;>intro _<;>first|omega|conv=>whnf))
 rotate_left 1
 ·have e:NB p=(1,0):=by unfold NB;rw[if_pos (by assumption)]
  exact QE (by rw[e]) (by rw[e])
 have hA:(UM p).1=0:=by assumption
 obtain⟨hs,_⟩:=Aa hA;obtain⟨hm,hb,hns⟩:=JT hs;obtain⟨hg,hpl,hcn⟩:=WC hm;have hl:(p.procs.map fun f=>AV.agg f.cells).length=p.procs.length:=q7f _;repeat' ((first|(refine iM fun _=>?_)|refine OpK.makeMap rfl ?_);conv=>whnf)
 refine LoopK.inv QK (fun i:Nat×List (Str×AV)=>⟨[(1,.p (.ip p.cells)),(2,.ptr 1 0),(3,.ext 0 .map),(15,.p (.sl (p.procs.map fun f=>.agg f.cells))),(16,.p (.int .i64 (p.procs.map fun f=>AV.agg f.cells).length)),(17,.p (.int .i64 i.1))],[(0,.ext (A9 i.2)),(1,.obj 87 [.p (.int .i64 0),.p (.int .i64 0)])]⟩)
  (fun i=>i.1<=p.procs.length/\(∀x∈i.2,x.2=eStrs (PU p x.1))/\∀(m:Nat)(hm:m<p.procs.length),m<i.1->∃x∈i.2,x.1=p.procs[m].name) (fun i=>p.procs.length-i.1) (0,[])
  (Le.of_eq rfl) ⟨q7c _,by simp,by intro m hm h;omega⟩ ?_
 rintro⟨j,l⟩ ⟨h2,h3,h4⟩;simp only at h2 h3 h4⊢;rcases q7e j p.procs.length with hj|hj
 ·have hn:p.procs[j].name∈procsN p:=q7s.2 ⟨_,q7i hj,rfl⟩;conv=>whnf
  repeat' (first|((first|refine cP (Hl p hf hs _ hn) ?_|refine dA ?_|refine q7p rfl ?_|(refine iA fun _=>?_)|refine wI ?_|refine OpK.mapUpdate QK rfl rfl rfl rfl rfl rfl rfl rfl rfl rfl ?_);conv=>whnf)|(apply bD<;>intro _<;>first|omega|conv=>whnf))
  refine⟨(j+1,BG l p.procs[j].name (eStrs (PU p p.procs[j].name))),⟨by simp only;omega,fun x hx=>?_,fun m hm h=>?_⟩,by simp only;omega,Le.of_eq rfl⟩
  ·rcases I1 hx with hx|rfl
   ·exact h3 x hx
   ·rfl
  ·refine I0 ?_;rcases q7e m j with hmj|hmj
   ·exact .inr (h4 m hm hmj)
   ·obtain rfl:m=j:=by simp only at h;omega
    exact .inl rfl
 have hgm:∀n∈procsN p,Pv l n=some (eStrs (PU p n)):=fun n hn=>O9 (g:=fun n=>eStrs (PU p n)) h3 (by
  obtain⟨f,hf1,rfl⟩:=q7s.1 hn;obtain⟨m,hm,rfl⟩:=List.getElem_of_mem hf1;exact h4 m hm (by omega))
 clear h3 h4;conv=>whnf
 repeat' (first|((first|(refine iM fun _=>?_)|(refine CallK.pure (JD p (by omega) (by omega)) (.cons (Sub.refl _) .nil) ?_;rintro _ rfl));conv=>whnf)|(apply bD<;>intro _<;>first|omega|conv=>whnf))
 have hA:NB p=match(YZ p).find? fun t=>decide (t.kind=4) && !WD t.name (PU p t.proc) t.args []with
  |some t=>(8,t.id)
  |none=>(0,0):=by unfold NB;rw[if_neg (by omega)]
 have hil:=VX (sheetOf p).l;have hib:(sheetOf p).l.length<=200:=by have:=(QV p).2.2.2.1;omega
 have hfi:=DZ (q:=fun t=>decide (t.kind=4) && !WD t.name (PU p t.proc) t.args []) (sheetOf p).l;rw[JZ]at hfi;have hA2:NB p=match((sheetOf p).l.find? fun it=>decide (it.s.kind=4) && !WD it.s.name (PU p it.s.proc) it.s.args []).map (fun it=>it.s.id)with
  |some a=>(8,a)
  |none=>(0,0):=by
  rw[hA,hfi];cases(YZ p).find? fun t=>decide (t.kind=4) && !WD t.name (PU p t.proc) t.args []<;>rfl
 rw[hA2];refine LoopK.inv QK (fun k:Nat=>⟨[(2,.ptr 1 0),(3,.ext 0 .map),(33,.p (VL (sheetOf p).l)),(34,.p (.int .i64 ((sheetOf p).l.map fun i=>AV.agg i.cells).length)),(35,.p (.int .i64 k))],[(0,.ext (A9 l)),(1,.obj 87 [.p (.int .i64 0),.p (.int .i64 0)])]⟩)
  (fun k=>k<=(sheetOf p).l.length/\((sheetOf p).l.drop k).find? (fun it=>decide (it.s.kind=4) && !WD it.s.name (PU p it.s.proc) it.s.args [])=(sheetOf p).l.find? fun it=>decide (it.s.kind=4) && !WD it.s.name (PU p it.s.proc) it.s.args []) (fun k=>(sheetOf p).l.length-k) 0 (Le.of_eq rfl) ⟨q7c _,rfl⟩ ?_
 rintro k ⟨h5,h6⟩;rcases q7e k (sheetOf p).l.length with hk|hk;rotate_left 1
 ·rw[<-h6,DX hk];conv=>whnf
  repeat' (first|(refine q7p rfl ?_;conv=>whnf)|(apply bD<;>intro _<;>first|omega|conv=>whnf))
  exact QE rfl rfl
 have hw:=K8 hf hk;have hna:(sheetOf p).l[k].s.args.length<=20000:=by
  have:=A2 (sheetOf p).l[k].s;have:=LD (sheetOf p).l[k].s.args;omega
 have hpc:(sheetOf p).l[k].s.kind=4->(sheetOf p).l[k].s.proc∈procsN p:=fun hk4=>by
  have hmm:(sheetOf p).l[k].s∈YZ p:=by
   rw[<-JZ];exact q7s.2 ⟨_,q7i hk,rfl⟩
  unfold YZ at hmm;obtain⟨f,hf1,hf2⟩:=q8r.1 hmm;exact(K5 hs hf1 hf2 hk4).1
 conv=>whnf
 repeat' (first|((first|refine cP (D2 _ _ hna) ?_|refine q7p rfl ?_|(refine iA fun _=>?_)|refine wI ?_|refine OpK.lookup QK rfl rfl rfl rfl rfl rfl rfl rfl (hgm _ (hpc (by omega))) ?_);conv=>whnf)|(apply bD<;>intro _<;>first|omega|conv=>whnf)|(apply bN<;>intro _<;>conv=>whnf))
 all_goals first
  | (have e3:=DW (p:=fun it:Item=>decide (it.s.kind=4) && !WD it.s.name (PU p it.s.proc) it.s.args []) hk (by simp[*])
     rw[<-h6,e3];exact QE rfl rfl)
  |exact⟨k+1,⟨by omega,by rw[<-h6,Q9 (p:=fun it:Item=>decide (it.s.kind=4) && !WD it.s.name (PU p it.s.proc) it.s.args []) hk (by simp[*])]⟩,by omega,Le.of_eq rfl⟩
def I7(p:Pg):Int×Int:=
 if HY p=false then(1,0)else
 if(XZ p).1≠0 then XZ p else
 if(UM p).1≠0 then UM p else
 if(Zg p).1≠0 then Zg p else NB p
theorem TR(p:Pg)(hf:Fit p):SpecP prog 46 [.agg p.cells] (fun r=>r=J8 (I7 p).1 (I7 p).2):=by
 refine sB Pk func46 rfl call46 ?_;conv=>whnf
 repeat' (first|((first|refine cP (Ht _) ?_|refine cP (YO p hf) ?_|refine cP (Wt p hf) ?_|refine cP (RR p hf) ?_|refine cP (Pi p hf) ?_|refine q7p rfl ?_);conv=>whnf)|(apply bD<;>intro _<;>first|omega|conv=>whnf)|(apply bN<;>intro _<;>conv=>whnf))
 all_goals exact QE (by unfold I7;simp[*]) (by unfold I7;simp[*])
def QO(p:Pg):Bool:=decide ((I7 p).1=0)
theorem KN(p:Pg)(hf:Fit p):SpecP prog 12 [.agg p.cells] (fun r=>r=.bool (QO p)):=by
 refine sB Ph func12 rfl call12 ?_;conv=>whnf
 repeat' (refine cP (TR p hf) ?_;conv=>whnf)
 exact RetK.bool rfl
def QS(x:Int):Int:=if x = -1 then 9223372036854775807 else x
theorem Dg(x:Int):SpecP prog 104 [.int .i64 x] (fun r=>r=.int .i64 (QS x)):=by
 refine sB Pf func104 rfl call104 ?_;conv=>whnf
 repeat' (apply bD<;>intro _<;>first|omega|conv=>whnf)
 all_goals exact RetK.int (by unfold QS;simp[*])
theorem Yq(x:Int):SpecP prog 161 [.int .i64 x] (fun r=>r=.bool false):=by
 refine sB Z3 func161 rfl call161 ?_;conv=>whnf
 skip
 exact RetK.bool (by simp)
def F5(x y:Int):Int:=if x<y then -1 else if y<x then 1 else 0
theorem GT(x y:Int):SpecP prog 103 [.int .i64 x,.int .i64 y] (fun r=>r=.int .i64 (F5 x y)):=by
 refine sB PI func103 rfl call103 ?_;conv=>whnf
 repeat' (first|(refine cP (Yq _) ?_;conv=>whnf)|(apply bD<;>intro _<;>first|omega|conv=>whnf)|(apply bB<;>intro _<;>conv=>whnf))
 all_goals first
  |contradiction
  |exact RetK.int (by unfold F5;simp[*])
  |exact RetK.int (by unfold F5;rw[if_neg (by assumption),if_pos (by omega)])
  |exact RetK.int (by unfold F5;rw[if_neg (by assumption),if_neg (by omega)])
def orI:List Int->Int
 |[]=>0
 |a::r=>if a=0 then orI r else a
theorem V0(l:List Int):SpecP prog 102 [QA l] (fun r=>r=.int .i64 (orI l)):=by
 refine sB Km func102 rfl call102 ?_;conv=>whnf
 repeat' (refine iM fun _=>?_;conv=>whnf)
 have hl:(l.map (AV.int .i64)).length=l.length:=q7f _;refine LoopK.inv QK (fun j:Nat=>⟨[(3,.p (.int .i64 0)),(6,.p (QA l)),(7,.p (.int .i64 (l.map (AV.int .i64)).length)),(8,.p (.int .i64 j))],[]⟩) (fun j=>j<=l.length/\orI (l.drop j)=orI l) (fun j=>l.length-j) 0 (Le.of_eq rfl) ⟨q7c _,rfl⟩ ?_;rintro j ⟨h2,h3⟩;rcases q7e j l.length with hj|hj
 ·rw[q8o hj,orI]at h3;conv=>whnf
  repeat' (first|((first|(refine iA fun _=>?_)|refine wI ?_);conv=>whnf)|(apply bD<;>intro _<;>first|omega|conv=>whnf)|(apply bE<;>intro _<;>first|omega|conv=>whnf))
  all_goals first
   |exact RetK.int (by rw[<-h3,if_neg (by assumption)])
   |exact⟨j+1,⟨by omega,by rw[<-h3,if_pos (by assumption)]⟩,by omega,Le.of_eq rfl⟩
   |exact⟨j+1,⟨by omega,by rw[<-h3,if_pos (by simp_all)]⟩,by omega,Le.of_eq rfl⟩
 ·rw[q8v hj,orI]at h3;conv=>whnf
  repeat' (apply bD<;>intro _<;>first|omega|conv=>whnf)
  exact RetK.int h3
def B1(l:List S)(o:Int):Int:=match l with
 |[]=>o
 |t::_=>t.id
theorem Sq(l:List S)(o:Int):SpecP prog 223 [.sl (l.map fun t=>.agg t.cells),.int .i64 o] (fun r=>r=.int .i64 (B1 l o)):=by
 refine sB Pb func223 rfl call223 ?_;conv=>whnf
 repeat' (first|(refine iM fun _=>?_;conv=>whnf)|(apply bD<;>intro _<;>first|omega|conv=>whnf))
 ·cases l with
  |nil=>simp at*
  | cons t r=>
    refine IdxK.at (k:=0) rfl rfl rfl ?_;exact RetK.int rfl
 ·cases l with
  |nil=>exact RetK.int rfl
  |cons t r=>simp at*
def ZY(a b:Step):Bool:=decide (a.src=b.src)&&decide (a.dst=b.dst)
theorem V7(a b:Step):SpecP prog 195 [.agg a.cells,.agg b.cells] (fun r=>r=.bool (ZY a b)):=by
 refine sB Kt func195 rfl call195 ?_;conv=>whnf
 repeat' (apply bD<;>intro _<;>first|omega|conv=>whnf)
 all_goals first
  |exact RetK.bool (show(a.dst==b.dst)=ZY a b by unfold ZY;simp[*];rfl)
  |exact RetK.ff (by unfold ZY;simp[*])
def No(a b:Step):Int:=orI [F5 (QS a.src) (QS b.src),F5 (QS a.dst) (QS b.dst),F5 a.kind b.kind]
theorem N4(a b:Step):SpecP prog 193 [.agg a.cells,.agg b.cells] (fun r=>r=.int .i64 (No a b)):=by
 refine sB Kl func193 rfl call193 ?_;conv=>whnf
 repeat' ((first|refine cP (Dg _) ?_|refine cP (GT _ _) ?_|refine cP (V0 [F5 (QS a.src) (QS b.src),F5 (QS a.dst) (QS b.dst),F5 a.kind b.kind]) ?_|refine dA ?_|refine q7p rfl ?_|refine aD ?_|refine BsK.pureL rfl rfl ?_);conv=>whnf)
 exact RetK.int rfl
end Go.Ab
