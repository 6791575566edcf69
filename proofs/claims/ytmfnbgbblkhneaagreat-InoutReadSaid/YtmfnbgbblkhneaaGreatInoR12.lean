/- The library's contracts at this seat's program, in plain words (printed by the kit's lay-plain.mjs). Conditions: none. -/
import Derived.Shelf.Sort.Plain
import Derived.Shelf.Slices.In.SortNone
import Derived.Shelf.Slices.CompactS
import Derived.Ground.Names2Prog
import Derived.Shelf.Slices.SearchI
import Derived.Shelf.Slices.Empties
import Derived.Shelf.Spec.SlicesInsert
import Derived.Shelf.Spec.SlicesInsertGrow
import Derived.Test.YtmfnbgbblkhneaaGreatProg
import Derived.Test.YtmfnbgbblkhneaaGreatInoR6
import Derived.Test.YtmfnbgbblkhneaaGreatInoR7
import Derived.Test.YtmfnbgbblkhneaaGreatInoR9
set_option linter.unusedSimpArgs false
set_option linter.unusedVariables false
set_option maxRecDepth 100000
set_option maxHeartbeats 16000000
open List (filter_cons findIdx?_cons)
namespace Go.Proofs
open Go.Shelf
def Tryz.lays190_ren:Go.Shelf.Ren:=⟨fun|190=>142|125=>160|258=>188|128=>209|129=>210|302=>225|303=>226|304=>227|305=>228|306=>229|307=>230|308=>199|309=>231|310=>232|333=>253|329=>242|330=>243|334=>254|335=>255|336=>162|344=>276|n=>n,fun|31=>22|9=>9|3=>3|46=>216|0=>0|51=>253|53=>255|4=>4|183=>247|182=>246|131=>181|5=>5|218=>274|222=>278|228=>293|229=>60|n=>n,fun|n=>n⟩
theorem Qz:Go.Proofs.Lays.n190 Tryz.prog Tryz.lays190_ren:={
 mixed:=by kernel_rfl
 f125:=Tryz.func160.trans (congrArg some (by kernel_rfl))
 f128:=Tryz.func209.trans (congrArg some (by kernel_rfl))
 f129:=Tryz.func210.trans (congrArg some (by kernel_rfl))
 f190:=Tryz.func142.trans (congrArg some (by kernel_rfl))
 f258:=Tryz.func188.trans (congrArg some (by kernel_rfl))
 f302:=Tryz.func225.trans (congrArg some (by kernel_rfl))
 f303:=Tryz.func226.trans (congrArg some (by kernel_rfl))
 f304:=Tryz.func227.trans (congrArg some (by kernel_rfl))
 f305:=Tryz.func228.trans (congrArg some (by kernel_rfl))
 f306:=Tryz.func229.trans (congrArg some (by kernel_rfl))
 f307:=Tryz.func230.trans (congrArg some (by kernel_rfl))
 f308:=Tryz.func199.trans (congrArg some (by kernel_rfl))
 f309:=Tryz.func231.trans (congrArg some (by kernel_rfl))
 f310:=Tryz.func232.trans (congrArg some (by kernel_rfl))
 f329:=Tryz.func242.trans (congrArg some (by kernel_rfl))
 f330:=Tryz.func243.trans (congrArg some (by kernel_rfl))
 f333:=Tryz.func253.trans (congrArg some (by kernel_rfl))
 f334:=Tryz.func254.trans (congrArg some (by kernel_rfl))
 f335:=Tryz.func255.trans (congrArg some (by kernel_rfl))
 f336:=Tryz.func162.trans (congrArg some (by kernel_rfl))
 f344:=Tryz.func276.trans (congrArg some (by kernel_rfl))
 t0:=Tryz.underlying0
 a0:=Tryz.isAgg0
 z0:=Tryz.sizeOf0
 v0:=Tryz.zeroValue0
 t3:=Tryz.underlying3
 a3:=Tryz.isAgg3
 z3:=Tryz.sizeOf3
 v3:=Tryz.zeroValue3
 t4:=Tryz.underlying4
 a4:=Tryz.isAgg4
 z4:=Tryz.sizeOf4
 v4:=Tryz.zeroValue4
 t5:=Tryz.underlying5
 a5:=Tryz.isAgg5
 z5:=Tryz.sizeOf5
 v5:=Tryz.zeroValue5
 t9:=Tryz.underlying9
 a9:=Tryz.isAgg9
 z9:=Tryz.sizeOf9
 v9:=Tryz.zeroValue9
 t31:=Tryz.underlying22
 a31:=Tryz.isAgg22
 z31:=Tryz.sizeOf22
 v31:=Tryz.zeroValue22
 t46:=Tryz.underlying216
 a46:=Tryz.isAgg216
 z46:=Tryz.sizeOf216
 v46:=Tryz.zeroValue216
 t51:=Tryz.underlying253
 a51:=Tryz.isAgg253
 z51:=Tryz.sizeOf253
 v51:=Tryz.zeroValue253
 t53:=Tryz.underlying255
 a53:=Tryz.isAgg255
 z53:=Tryz.sizeOf255
 v53:=Tryz.zeroValue255
 t131:=Tryz.underlying181
 a131:=Tryz.isAgg181
 z131:=Tryz.sizeOf181
 v131:=Tryz.zeroValue181
 t182:=Tryz.underlying246
 a182:=Tryz.isAgg246
 z182:=Tryz.sizeOf246
 v182:=Tryz.zeroValue246
 t183:=Tryz.underlying247
 a183:=Tryz.isAgg247
 z183:=Tryz.sizeOf247
 v183:=Tryz.zeroValue247
 t218:=Tryz.underlying274
 a218:=Tryz.isAgg274
 z218:=Tryz.sizeOf274
 v218:=Tryz.zeroValue274
 t222:=Tryz.underlying278
 a222:=Tryz.isAgg278
 z222:=Tryz.sizeOf278
 v222:=Tryz.zeroValue278
 t228:=Tryz.underlying293
 a228:=Tryz.isAgg293
 z228:=Tryz.sizeOf293
 v228:=Tryz.zeroValue293
 t229:=Tryz.underlying60
 a229:=Tryz.isAgg60
 z229:=Tryz.sizeOf60
 v229:=Tryz.zeroValue60}
def Tryz.lays194_ren:Go.Shelf.Ren:=⟨fun|194=>143|n=>n,fun|31=>22|9=>9|3=>3|4=>4|0=>0|n=>n,fun|n=>n⟩
theorem Qw:Go.Proofs.Lays.n194 Tryz.prog Tryz.lays194_ren:={
 mixed:=by kernel_rfl
 f194:=Tryz.func143.trans (congrArg some (by kernel_rfl))
 t0:=Tryz.underlying0
 a0:=Tryz.isAgg0
 z0:=Tryz.sizeOf0
 v0:=Tryz.zeroValue0
 t3:=Tryz.underlying3
 a3:=Tryz.isAgg3
 z3:=Tryz.sizeOf3
 v3:=Tryz.zeroValue3
 t4:=Tryz.underlying4
 a4:=Tryz.isAgg4
 z4:=Tryz.sizeOf4
 v4:=Tryz.zeroValue4
 t9:=Tryz.underlying9
 a9:=Tryz.isAgg9
 z9:=Tryz.sizeOf9
 v9:=Tryz.zeroValue9
 t31:=Tryz.underlying22
 a31:=Tryz.isAgg22
 z31:=Tryz.sizeOf22
 v31:=Tryz.zeroValue22}
def Tryz.laysB_ren:Go.Shelf.Ren:=⟨fun|25=>251|31=>272|32=>273|37=>161|n=>n,fun|22=>29|3=>3|4=>4|40=>216|0=>0|n=>n,fun|n=>n⟩
theorem Va:Go.Proofs.Lays2.n25 Tryz.prog Tryz.laysB_ren:={
 mixed:=by kernel_rfl
 f25:=Tryz.func251.trans (congrArg some (by kernel_rfl))
 f31:=Tryz.func272.trans (congrArg some (by kernel_rfl))
 f32:=Tryz.func273.trans (congrArg some (by kernel_rfl))
 f37:=Tryz.func161.trans (congrArg some (by kernel_rfl))
 t0:=Tryz.underlying0
 a0:=Tryz.isAgg0
 z0:=Tryz.sizeOf0
 v0:=Tryz.zeroValue0
 t3:=Tryz.underlying3
 a3:=Tryz.isAgg3
 z3:=Tryz.sizeOf3
 v3:=Tryz.zeroValue3
 t4:=Tryz.underlying4
 a4:=Tryz.isAgg4
 z4:=Tryz.sizeOf4
 v4:=Tryz.zeroValue4
 t22:=Tryz.underlying29
 a22:=Tryz.isAgg29
 z22:=Tryz.sizeOf29
 v22:=Tryz.zeroValue29
 t40:=Tryz.underlying216
 a40:=Tryz.isAgg216
 z40:=Tryz.sizeOf216
 v40:=Tryz.zeroValue216}
def Tryz.laysI_ren:Go.Shelf.Ren:=⟨fun|21=>252|27=>274|28=>275|35=>280|39=>282|n=>n,fun|22=>29|3=>3|4=>4|0=>0|n=>n,fun|n=>n⟩
theorem JT:Go.Proofs.Lays2.n21 Tryz.prog Tryz.laysI_ren:={
 mixed:=by kernel_rfl
 f21:=Tryz.func252.trans (congrArg some (by kernel_rfl))
 f27:=Tryz.func274.trans (congrArg some (by kernel_rfl))
 f28:=Tryz.func275.trans (congrArg some (by kernel_rfl))
 f35:=Tryz.func280.trans (congrArg some (by kernel_rfl))
 f39:=Tryz.func282.trans (congrArg some (by kernel_rfl))
 t0:=Tryz.underlying0
 a0:=Tryz.isAgg0
 z0:=Tryz.sizeOf0
 v0:=Tryz.zeroValue0
 t3:=Tryz.underlying3
 a3:=Tryz.isAgg3
 z3:=Tryz.sizeOf3
 v3:=Tryz.zeroValue3
 t4:=Tryz.underlying4
 a4:=Tryz.isAgg4
 z4:=Tryz.sizeOf4
 v4:=Tryz.zeroValue4
 t22:=Tryz.underlying29
 a22:=Tryz.isAgg29
 z22:=Tryz.sizeOf29
 v22:=Tryz.zeroValue29
 i3:=by kernel_rfl}
end Go.Proofs
namespace Go.Ab
open Go.Proofs.Tryz
open Go.Proofs Go.Sort
variable {α:Type}{b clock j k:Nat}{e:TypeId}{es:Array MapEntry}{l:List Str}{p:Pg}{s:Str}{v:Value}{vs:Array Value}{w:World}{β:Lab}{σ:Mem}
theorem K3{c c':Chunk}{w':World}{i:BInfo}(h:HRel σ β [(k,c)] w)(hi:β k=some i)(hf:Frm (fun b=>b=i.blk) w w')(hnew:c'.holds σ β w' k):HRel σ β [(k,c')] w'/\Later σ β [(k,c)] w σ β [(k,c')] w':=by
 have hap:=h.apart k (by simp) i hi;refine⟨⟨fun b cs hb=>?_,fun j d hj=>?_,by simp,fun j hj i' hi' b hb=>?_,fun j hj j' hj' _ _ _ _ _ _ _=>?_⟩,Mem.le_refl σ,⟨hf.os,hf.tape,hf.output,hf.drawn,hf.size,fun b hb hn=>hf.block b hb fun he=>hn ⟨k,by simp,i,hi,.inl he.symm⟩⟩,
  fun b h0 h1=>absurd h0 h1,fun b ⟨j,hj,i',hi',hb⟩=>.inl ⟨j,by simpa using hj,i',hi',hb⟩,fun _ _ _=>rfl⟩
 ·obtain⟨e,fr,hh⟩:=h.mem b cs hb;exact⟨e,fr,(hf.block b (q4p.1 hh).1 fun he=>by rw[he,(hap _ i.has_blk).1]at hb;cases hb).trans hh⟩
 ·simp at hj;obtain⟨rfl,rfl⟩:=hj;exact hnew
 ·simp at hj;subst hj;rw[hi]at hi';cases hi';exact⟨(hap b hb).1,q6a (hap b hb).2 hf.size⟩
 ·simp at hj hj';rw[hj,hj']
theorem VE(h:w.heap[b]?=some (.cells vs e (0,0)))(o:Nat):w.frozen? ⟨b,o,none⟩=false:=by
 simp[World.frozen?,h]
theorem KA(h:w.heap[b]?=some (.cells vs e (0,0)))(o:Nat):w.cell? ⟨b,o,none⟩=vs[o]?:=by
 simp[World.cell?,h]
theorem Q8[Inhabited α]{enc:α->Value}{n:Nat}{d:Array α}{os:Array Obj}(h:w.heap[b]?=some (.cells vs e (0,0)))(hlt:b<w.heap.size):
  Frm (fun x=>x=b) w (grow (putRow enc (Sort.ahead w n) b 0 d) os)/\(grow (putRow enc (Sort.ahead w n) b 0 d) os).heap[b]?=some (.cells (putCells enc 0 d vs) e (0,0)):=by
 have hh:(grow (putRow enc (Sort.ahead w n) b 0 d) os).heap=w.heap.modify b (onCells (putCells enc 0 d))++os:=rfl;refine⟨⟨rfl,rfl,rfl,Nat.le_add_right _ _,?_,fun k hk hn=>?_⟩,?_⟩
 ·rw[hh];simp
 ·rw[hh,q7y (by simpa using hk),q7b,if_neg (q7t hn)]
 ·rw[hh,q7y (by simpa using hlt),q7b,if_pos rfl,h];rfl
theorem FV[Inhabited α]{enc:α->Value}{d:Array α}(hs:d.size<=vs.size)(hk:k<d.size):(putCells enc 0 d vs)[k]?=some (enc d[k]):=by
 unfold putCells;have hk':k<vs.size:=by omega
 simp[hk',hk]
theorem Np(h:∀(m:Nat)(x:AV),(l.map AV.str)[m]?=some x->x.cells.length=1/\∀(j:Nat)(c:AV),x.cells[j]?=some c->∃u:Value,vs[m*1+j]?=some u/\Rep σ c u)(hj:j<l.length):
  vs[j]?=some (encStr l[j])/\l[j].length<=maxLen:=by
 obtain⟨u,h1,h2⟩:=(h j (.str l[j]) (by simp[hj])).2 0 (.str l[j]) rfl;cases h2 with
 |str _ h3=>exact⟨by simpa using h1,h3⟩
theorem Nn(h:∀j (hj:j<l.length),vs[j]?=some (encStr l[j]))(hl:∀s∈l,s.length<=maxLen):∀(m:Nat)(x:AV),(l.map AV.str)[m]?=some x->x.cells.length=1/\∀(j:Nat)(c:AV),x.cells[j]?=some c->∃u:Value,vs[m*1+j]?=some u/\Rep σ c u:=by
 intro m x hx;rw[q4x]at hx;cases hq:l[m]?with
 |none=>rw[hq]at hx;cases hx
 | some s=>
   rw[hq]at hx;cases hx;obtain⟨hm,rfl⟩:=q3c.1 hq;refine⟨rfl,fun j c hj=>?_⟩;have hj0:j=0:=by
    have:=(q3c.1 hj).1;simpa[AV.cells]using this
   subst hj0;simp only[AV.cells,q8x,q6b]at hj;subst hj;exact⟨_,by simpa using h m hm,.str _ (hl _ (q4u hm))⟩
theorem O1{vals:Array Value}{l:LV}(h:vals.size=[l].length):∃v,vals=#[v]:=⟨vals[0]'(by simp at h;omega),by apply Array.ext;simpa using h;intro i h1 h2;simp at h2;subst h2;rfl⟩
theorem Hk{n:Nat}{i:BInfo}(h:RepL σ β (.hd k 0 n) v)(hi:β k=some i):v=.slice (some ⟨i.blk,0,none⟩) n i.cap:=by
 rcases h.hdI with⟨hk,_⟩|⟨i',o,hk,hl,ho,hv⟩
 ·rw[hi]at hk;cases hk
 ·rw[hi]at hk;cases hk;rcases ho with ho|ho
  ·rw[hv,ho];simp
  ·omega
theorem Ph{n:Nat}(h:RepL σ β (.hd k 0 n) v)(hi:β k=none):v=.slice none 0 0/\n=0:=by
 rcases h.hdI with⟨_,_,hn,hv⟩|⟨i',o,hk,_⟩
 ·exact⟨hv,hn⟩
 ·rw[hi]at hk;cases hk
def UO(l:List Str):List Str:=l.mergeSort fun x y=>decide (x<=y)
theorem GG(l:List Str)(hlen:l.length<=1000000000):
  SpecH prog 142 [.hd 1000 0 l.length] [(1000,.own 9 1 (l.map .str))] (fun r H=>r=.p (.tup [])/\H=[(1000,.own 9 1 ((UO l).map .str))]):=by
 refine⟨call142,fun σ β w vals hn hv hH=>?_⟩;obtain⟨v,rfl⟩:=O1 hn;have hv:=hv 0 _ rfl;simp only[q7h,q4m,q6m,Array.getD_eq_getD_getElem?]at hv;have hv:RepL σ β (.hd 1000 0 l.length) v:=by simpa using hv
 have hch:=hH.chunks 1000 _ q3d;have hlenS:(UO l).length=l.length:=by unfold UO;simp
 rcases hch with⟨hb0,hes⟩|⟨i,vs,hi,hsz,hh,h2,h3,h4,h5⟩
 ·have hl0:l=[]:=by simpa using hes
  subst hl0;obtain⟨rfl,_⟩:=Ph hv hb0;have hc:=Any.slices_Sort_string_none Qz none 0 w;change Calls prog 142 _ _ _ at hc;refine hc.mono ?_;rintro e w' ⟨rfl,rfl⟩;exact⟨.p (.tup []),.tuple #[],σ,β,_,rfl,⟨rfl,rfl⟩,.p (.tup [] #[] (fun _=>undef) rfl (by simp) (by simp)),by simpa[UO]using hH,by simpa[UO]using Later.refl _ _ _ _⟩
 ·have hve:=Hk hv hi;subst hve;have hlt:=(hH.apart 1000 (by simp) i hi i.blk i.has_blk).2;have hle:l.length<=vs.size:=by rw[h2,Nat.mul_one];simpa using h3
  have hget:=fun j hj=>Np (σ:=σ) (l:=l) h5 (j:=j) hj;have hc:=Any.slices_Sort_string Qz i.blk 0 i.cap l w (fun j hj=>by
   have hj':j<l.length:=by simpa using hj
   refine⟨?_,VE hh _⟩;rw[KA hh,q5n,(hget j hj').1];simp[hj']) hlt (by omega)
  change Calls prog 142 _ _ _ at hc;refine hc.mono ?_;rintro e w' ⟨rfl,n,os,rfl⟩;obtain⟨hf,hb⟩:=Q8 (enc:=encStr) (n:=n) (os:=os) (d:=(UO l).toArray) hh hlt;obtain⟨hH',hL⟩:=K3 (c':=.own 9 1 ((UO l).map .str)) hH hi hf (.inr ⟨i,_,hi,hsz,hb,by simpa[putCells]using h2,by simpa[hlenS]using h3,h4,Nn (fun j hj=>by
   have:=FV (enc:=encStr) (d:=(UO l).toArray) (vs:=vs) (by simp[hlenS];omega) (k:=j) (by simpa using hj);simpa using this) fun s hs=>by
    have:s∈l:=by unfold UO at hs;simpa using hs
    obtain⟨j,hj,rfl⟩:=q6k.1 this;exact(hget j hj).2⟩)
  exact⟨.p (.tup []),.tuple #[],σ,β,_,rfl,⟨rfl,rfl⟩,.p (.tup [] #[] (fun _=>undef) rfl (by simp) (by simp)),hH',hL⟩
theorem U7(l:List Str):(Go.Lib.compact l).length<=l.length:=by
 unfold Go.Lib.compact Go.Lib.compactUpTo;rw[q3f];exact q5p (q7x _ _) (by simp)
theorem BJ(h:s∈Go.Lib.compact l):s∈l:=by
 unfold Go.Lib.compact Go.Lib.compactUpTo at h;obtain⟨j,hj,rfl⟩:=q3s.1 h;have:=(q5q.1 hj).1;have hlt:j<l.length:=by simpa using this
 simp[hlt]
theorem NL[Inhabited α]{enc:α->Value}{d:Array α}{o:Nat}:(putCells enc o d vs).size=vs.size:=by simp[putCells]
theorem JH(l:List Str)(hlen:l.length<=1000000000):
  SpecH prog 143 [.hd 1000 0 l.length] [(1000,.own 9 1 (l.map .str))] (fun r H=>r=.hd 1000 0 (Go.Lib.compact l).length/\H=[(1000,.own 9 1 ((Go.Lib.compact l).map .str))]):=by
 refine⟨call143,fun σ β w vals hn hv hH=>?_⟩;obtain⟨v,rfl⟩:=O1 hn;have hv:=hv 0 _ rfl;have hv:RepL σ β (.hd 1000 0 l.length) v:=by simpa using hv
 have hch:=hH.chunks 1000 _ q3d;have hcl:=U7 l;rcases hch with⟨hb0,hes⟩|⟨i,vs,hi,hsz,hh,h2,h3,h4,h5⟩
 ·have hl0:l=[]:=by simpa using hes
  subst hl0;obtain⟨rfl,_⟩:=Ph hv hb0;have hc:=Any.slices_Compact_string_empty Qw none 0 w;change Calls prog 143 _ _ _ at hc;refine hc.mono ?_;rintro e w' ⟨rfl,rfl⟩;exact⟨.hd 1000 0 0,.slice none 0 0,σ,β,_,rfl,⟨rfl,rfl⟩,.hdn 1000 hb0,by simpa[Go.Lib.compact,Go.Lib.compactUpTo]using hH,by simpa[Go.Lib.compact,Go.Lib.compactUpTo]using Later.refl _ _ _ _⟩
 ·have hve:=Hk hv hi;subst hve;have hlt:=(hH.apart 1000 (by simp) i hi i.blk i.has_blk).2;have hle:l.length<=vs.size:=by rw[h2,Nat.mul_one];simpa using h3
  have hcap:l.length<=i.cap:=by simpa using h3
  have hget:=fun j hj=>Np (σ:=σ) (l:=l) h5 (j:=j) hj;have hc:=Any.slices_Compact_string Qw i.blk 0 i.cap l w (fun j hj=>by
   have hj':j<l.length:=by simpa using hj
   refine⟨?_,VE hh _⟩;rw[KA hh,q5n,(hget j hj').1];simp[hj']) (by omega) hcap
  change Calls prog 143 _ _ _ at hc;refine hc.mono ?_;rintro e w' ⟨rfl,q,rfl⟩;obtain⟨hf,hb⟩:=Q8 (enc:=encStr) (n:=q) (os:=#[]) (d:=(Go.Lib.compact l++List.replicate (l.length-(Go.Lib.compact l).length) []).toArray) hh hlt;rw[grow_empty]at hf hb;obtain⟨hH',hL⟩:=K3 (c':=.own 9 1 ((Go.Lib.compact l).map .str)) hH hi hf (.inr ⟨i,_,hi,hsz,hb,by rw[NL];exact h2,by simp;omega,h4,Nn (fun j hj=>by
   have:=FV (enc:=encStr) (d:=(Go.Lib.compact l++List.replicate (l.length-(Go.Lib.compact l).length) []).toArray) (vs:=vs) (by simp;omega) (k:=j) (by simp;omega);rw[this];simp[List.getElem_append_left hj]) fun s hs=>by
    obtain⟨j,hj,rfl⟩:=q6k.1 (BJ hs);exact(hget j hj).2⟩)
  refine⟨.hd 1000 0 (Go.Lib.compact l).length,_,σ,β,_,rfl,⟨rfl,rfl⟩,?_,hH',hL⟩;have:=RepL.hd (σ:=σ) (β:=β) 1000 0 (Go.Lib.compact l).length i 0 hi (by omega) (.inl (by simp));simpa using this
theorem YB(hs:(QI p).1=0){f:Pr}(hf:f∈p.procs){t:S}(ht:t∈flL f.body):YG p f (QB p) t=true:=by
 obtain⟨_,_,h⟩:=JX hs;have h1:=List.findSome?_eq_none_iff.1 h f hf;unfold UZ at h1;cases hb:(VV (Wd f)||(Wd f).any fun n=>p.globals.any fun s=>n==s)<;>rw[hb]at h1
 ·simp only[q4f,Option.map_eq_none_iff]at h1;have:=List.find?_eq_none.1 h1 t ht;simpa using this
 ·cases h1
theorem Y3(hs:(QI p).1=0){f:Pr}(hf:f∈p.procs){t:S}(ht:t∈flL f.body)(hk:t.kind=4):t.proc∈QB p/\t.proc≠mainS:=by
 have:=YB hs hf ht;unfold YG at this;simp only[q4k,q8w,q4o]at this;rcases this.2 with h|h
 ·exact absurd hk h
 ·simp only[q6y,q7d,ne_eq]at h;refine⟨?_,h.1⟩;obtain⟨s,h1,h2⟩:=q5l.1 h.2;have:=eq_of_beq h2;exact this▸h1
def KC(f:Pr):List Str:=((flL f.body).filter fun t=>decide (t.kind=4)).map S.proc
def HP(f:Pr):List Str:=Go.Lib.compact (UO (KC f))
theorem MQ:s∈UO l↔s∈l:=by unfold UO;simp
theorem VM(l:List Str):(UO l).length=l.length:=by unfold UO;simp
theorem Mk(f:Pr):(HP f).length<=cntL f.body:=by
 have:=U7 (UO (KC f));rw[VM]at this;unfold HP;refine q5p this ?_;unfold KC;rw[q3f,<-Zn];exact q7x _ _
theorem Qu(hs:(QI p).1=0){f:Pr}(hf:f∈p.procs)(h:s∈HP f):s∈QB p:=by
 have h1:=MQ.1 (BJ h);obtain⟨t,h2,rfl⟩:=q3s.1 h1;obtain⟨h3,h4⟩:=q5q.1 h2;exact(Y3 hs hf h3 (by simpa using h4)).1
theorem Ja{n:Str}(h:n∈QB p):∃(k:Nat) (hk:k<p.procs.length),idxF (fun f=>f.name==n) p.procs=k/\p.procs.find? (fun f=>f.name==n)=some p.procs[k]/\p.procs[k].name=n:=by
 have h':p.procs.any (fun f=>f.name==n)=true:=by
  obtain⟨f,h1,h2⟩:=q3s.1 h;exact q5l.2 ⟨f,h1,by simp[h2]⟩
 obtain⟨k,hk,h1,h2,h3⟩:=Pf h';exact⟨k,hk,h1,h3,by simpa using h2⟩
theorem Bf(p:Pg)(n:Str)(k:Nat)(hk:k<p.procs.length)(hi:idxF (fun f=>f.name==n) p.procs=k)(hc:cntP p.procs<=1000):SpecP prog 222 [.ip (sheetOf p).cells,.str n] (fun r=>r=eStrs (HP p.procs[k])):=by
 refine sB Yn func222 rfl call222 ?_;conv=>whnf
 repeat' ((first|(refine iM fun _=>?_)|refine cP (XN _ _) ?_|(refine CallK.pure (M7 p (j:=k) (f:=p.procs[k]'hk) (by simp) hc) (.cons (Sub.refl _) (.cons (Sub.int (by exact hi)) .nil)) ?_;rintro _ rfl));conv=>whnf)
 have hmap:=NY (k:Nat) 0 (-1) 0 (QL p.procs k) p.procs[k].body;have hib:(itL (k:Nat) 0 (-1) 0 (QL p.procs k) p.procs[k].body).length<=1000:=by
  have:=(QU p).2.2.2.2 k p.procs[k] (by simp);rw[ZP];omega
 generalize hits:itL (k:Nat) 0 (-1) 0 (QL p.procs k) p.procs[k].body=its at hmap hib⊢;have hil:=WO its;have hraw:KC p.procs[k]=(its.filter fun it=>decide (it.s.kind=4)).map fun it=>it.s.proc:=by
  unfold KC;rw[<-hmap,List.filter_map,q8c];rfl
 refine LoopK.inv QY (fun i:Nat×List Str=>⟨[(5,.hd 0 0 i.2.length),(12,.p (VH its)),(13,.p (.int .i64 (its.map fun i=>AV.agg i.cells).length)),(14,.p (.int .i64 i.1))],[(0,.own 9 1 (i.2.map .str))]⟩)
  (fun i=>i.1<=its.length/\i.2.length<=i.1/\i.2++((its.drop i.1).filter fun it=>decide (it.s.kind=4)).map (fun it=>it.s.proc)=KC p.procs[k]) (fun i=>its.length-i.1) (0,[])
  (Le.mk [(0,.own 9 1 [])] (by simp[Chunk.new0];rfl) (by simp) (by simp) (.cons (.nil q3d) (.r (.r (.r .nil)))) (.new q3d .nil))
  ⟨q3o _,q4h _,by rw[hraw];rfl⟩ ?_
 rintro⟨j,acc⟩ ⟨h2,h3,h4⟩;simp only at h2 h3 h4⊢;rcases q4w j its.length with hj|hj
 ·conv=>whnf
  repeat' (first|((first|refine q3l rfl ?_|refine aD ?_|refine bP ?_|(refine iA fun _=>?_)|refine wI ?_|refine XW (by simp) (by simp;omega) ?_);conv=>whnf)|(apply bD<;>intro _<;>first|omega|conv=>whnf))
  ·exact⟨(j+1,acc++[its[j].s.proc]),⟨by simp only;omega,by simp;omega,by simp only;rw[<-h4,QH hj,filter_cons,if_pos (by simp[*])];simp⟩,by simp only;omega,Le.of_eq (by simp only[q3m,q4z];rfl)⟩
  ·exact⟨(j+1,acc),⟨by simp only;omega,by simp only;omega,by simp only;rw[<-h4,QH hj,filter_cons,if_neg (by simp[*])]⟩,by simp only;omega,Le.of_eq rfl⟩
 ·have hacc:acc=KC p.procs[k]:=by
   rw[q4j hj]at h4;simpa using h4
  conv=>whnf
  repeat' (first|(apply bD<;>intro _<;>first|omega|conv=>whnf)|(refine CallK.heap [(1000,0)] 0 (by repeat' (first|exact q4d|refine q3i ?_ ?_|exact q3e _|exact q4q Sub.nils|exact q4q (Sub.tt rfl)|exact q4q (Sub.ff rfl)|exact q4q (Sub.int (by omega)))) (by refine q3h (j:=0) rfl rfl ?_ ?_;exact CSub.refl _;exact q4b) (GG acc (by omega)) rfl rfl ?_;rintro l' H' ⟨rfl,rfl⟩;conv=>whnf)|(refine CallK.heap [(1000,0)] 0 (q3i (q8u (by rw[VM];rfl)) q4d) (by refine q3h (j:=0) rfl rfl ?_ ?_;exact CSub.refl _;exact q4b) (JH (UO acc) (by rw[VM];omega)) rfl rfl ?_;rintro l' H' ⟨rfl,rfl⟩;conv=>whnf))
  exact⟨_,.hd rfl (by simp),by unfold HP;rw[<-hacc];rfl⟩
def UL(out:List Str):List Str->List Str
 |[]=>out
 |n::r=>UL (if(out.any fun s=>n==s)=true then out else out++[n]) r
theorem Z7{out:List Str}(hj:j<l.length):UL out (l.drop j)=UL (if(out.any fun s=>l[j]==s)=true then out else out++[l[j]]) (l.drop (j+1)):=by
 rw[QH hj,UL]
theorem FN{p:Pg}:∀(l:List Str){out:List Str},out.Nodup->(∀s∈out,s∈QB p)->(∀s∈l,s∈QB p)->(UL out l).Nodup/\(∀s∈UL out l,s∈QB p)/\∃r,UL out l=out++r
 |[],out,h1,h2,_=>⟨h1,h2,[],by rw[UL];simp⟩
 | n::r,out,h1,h2,h3=>by
   rw[UL];split
   ·exact FN r h1 h2 fun s hs=>h3 s (q3n _ hs)
   ·rename_i hn;have hno:n∉out:=fun hm=>hn (q5l.2 ⟨n,hm,by simp⟩);obtain⟨h4,h5,r',h6⟩:=FN (p:=p) r (out:=out++[n]) (q6j.2 ⟨h1,by simp,fun a ha b hb=>by simp at hb;subst hb;exact fun he=>hno (he▸ha)⟩) (fun s hs=>by
     rcases q3a.1 hs with hs|hs
     ·exact h2 s hs
     ·simp at hs;subst hs;exact h3 _ q3d) fun s hs=>h3 s (q3n _ hs)
    exact⟨h4,h5,n::r',by rw[h6];simp⟩
def U3(p:Pg)(n:Str):List Str:=match p.procs.find? (fun f=>f.name==n)with
 |some f=>HP f
 |none=>[]
def KY(p:Pg):Nat->Nat->List Str->List Str
 |0,_,out=>out
 | fuel+1,i,out=>match out[i]?with
   |some n=>KY p fuel (i+1) (UL out (U3 p n))
   |none=>out
def A8(p:Pg)(n:Str):List Str:=UO (KY p (p.procs.length+1) 0 [n])
theorem FG{α:Type}[BEq α][LawfulBEq α]:∀{l m:List α},l.Nodup->(∀s∈l,s∈m)->l.length<=m.length
 |[],m,_,_=>q3o _
 | a::r,m,h1,h2=>by
   have ha:=h2 a q3d;have:=FG (l:=r) (m:=m.erase a) (q5h.1 h1).2 fun s hs=>(List.mem_erase_of_ne fun he=>(q5h.1 h1).1 (by rw[<-he];exact hs)).2 (h2 s (q3n _ hs));rw[List.length_erase_of_mem ha]at this;have:=q8g ha;simp only[q4m];omega
theorem Rm{n:Str}(hk:k<p.procs.length)(h:p.procs.find? (fun f=>f.name==n)=some p.procs[k]):U3 p n=HP p.procs[k]:=by
 unfold U3;rw[h]
theorem Gl(hs:(QI p).1=0){n:Str}(h:s∈U3 p n):s∈QB p:=by
 unfold U3 at h;split at h
 ·rename_i f hf;exact Qu hs (q7j hf) h
 ·cases h
theorem Sq(p:Pg)(n:Str)(hs:(QI p).1=0)(hn:n∈QB p):SpecP prog 182 [.ip (sheetOf p).cells,.str n] (fun r=>r=eStrs (A8 p n)):=by
 refine sB Dw func182 rfl call182 ?_;conv=>whnf
 obtain⟨hm,hb,hns⟩:=JX hs;obtain⟨hg,hpl,hcn⟩:=WT hm;have hnl:(QB p).length=p.procs.length:=by simp[QB]
 repeat' ((first|refine q3l rfl ?_|refine aD ?_|refine q8i (fun x hx=>by rcases q3r.1 hx with rfl;rfl) rfl ?_);conv=>whnf)
 refine LoopK.inv QY (fun i:Nat×List Str=>⟨[(0,.p (.ip (sheetOf p).cells)),(5,.hd 0 0 i.2.length),(6,.p (.int .i64 i.1))],[(0,.own 9 1 (i.2.map .str))]⟩)
  (fun i=>i.1<=i.2.length/\i.2.Nodup/\(∀s∈i.2,s∈QB p)/\KY p (p.procs.length+1-i.1) i.1 i.2=KY p (p.procs.length+1) 0 [n]) (fun i=>p.procs.length+1-i.1) (0,[n])
  (Le.of_eq rfl) ⟨q3o _,by simp,by simpa using hn,rfl⟩ ?_
 rintro⟨j,out⟩ ⟨h2,h3,h4,h5⟩;simp only at h2 h3 h4 h5⊢;have hol:=FG h3 h4;rcases q4w j out.length with hj|hj
 ·obtain⟨k,hk,hik,hfk,hnk⟩:=Ja (h4 _ (q4u hj));have hcl:=Mk p.procs[k];have hcc:cntL p.procs[k].body<=200:=by
   have:=(QU p).2.2.2.2 k p.procs[k] (by simp);omega
  conv=>whnf
  repeat' (first|((first|(refine iM fun _=>?_)|refine q3l rfl ?_|refine q5z j rfl hj ?_|refine q5f j 0 (.str out[j]) (by omega) (by simp[hj]) ?_|(refine CallK.pure (Bf p out[j] k hk hik (by omega)) (.cons (Sub.refl _) (.cons (Sub.refl _) .nil)) ?_;rintro _ rfl));conv=>whnf)|(apply bD<;>intro _<;>first|omega|conv=>whnf))
  have hkn:∀s∈HP p.procs[k],s∈QB p:=fun s h=>Qu hs (q4u hk) h;have hcN:=Rm hk hfk;have hre:KY p (p.procs.length+1-j) j out=KY p (p.procs.length+1-(j+1)) (j+1) (UL out (HP p.procs[k])):=by
   rw[show p.procs.length+1-j=(p.procs.length+1-(j+1))+1 by omega,KY,q3b hj];simp only;rw[hcN]
  rw[hre]at h5;obtain⟨hi1,hi2,rr,hi3⟩:=FN (HP p.procs[k]) h3 h4 hkn;generalize HP p.procs[k]=cs at hkn h5 hi1 hi2 hi3 hcl⊢;have hcsl:(cs.map AV.str).length=cs.length:=q3f _;refine LoopK.inv QY (fun i:Nat×List Str=>⟨[(0,.p (.ip (sheetOf p).cells)),(5,.hd 0 0 i.2.length),(6,.p (.int .i64 j)),(22,.p (eStrs cs)),(23,.p (.int .i64 (cs.map AV.str).length)),(24,.p (.int .i64 i.1))],[(0,.own 9 1 (i.2.map .str))]⟩)
   (fun i=>i.1<=cs.length/\i.2.length<=out.length+i.1/\UL i.2 (cs.drop i.1)=UL out cs) (fun i=>cs.length-i.1) (0,out)
   (Le.of_eq rfl) ⟨q3o _,by simp,rfl⟩ ?_
  rintro⟨m,acc⟩ ⟨h6,h7,h8⟩;simp only at h6 h7 h8⊢;rcases q4w m cs.length with hm'|hm'
  ·conv=>whnf
   repeat' (first|((first|refine q3l rfl ?_|refine aD ?_|refine bP ?_|(refine iA fun _=>?_)|refine wI ?_|(refine XG (QX acc (cs[m]'hm')) (.cons (.hd rfl (by simp)) (.cons (.p (Sub.refl _)) .nil)) (by rintro _ rfl;rfl) ?_;rintro _ rfl)|refine XW (by simp) (by simp;omega) ?_);conv=>whnf)|(apply bD<;>intro _<;>first|omega|conv=>whnf)|(apply bN<;>intro _<;>conv=>whnf))
   ·exact⟨(m+1,acc),⟨by simp only;omega,by simp only;omega,by simp only;rw[<-h8,Z7 hm',if_pos (by assumption)]⟩,by simp only;omega,Le.of_eq rfl⟩
   ·exact⟨(m+1,acc++[cs[m]]),⟨by simp only;omega,by simp;omega,by simp only;rw[<-h8,Z7 hm',if_neg (by simp[*])]⟩,by simp only;omega,Le.of_eq (by simp only[q3m,q4z];rfl)⟩
  ·rw[q4j hm',UL]at h8;subst h8;have hge:out.length<=(UL out cs).length:=by rw[hi3];simp
   conv=>whnf
   repeat' (first|(refine wI ?_;conv=>whnf)|(apply bD<;>intro _<;>first|omega|conv=>whnf))
   exact⟨(j+1,UL out cs),⟨by simp only;omega,hi1,hi2,h5⟩,by simp only;omega,Le.of_eq rfl⟩
 ·have hjo:j=out.length:=by omega
  have hre:KY p (p.procs.length+1-j) j out=out:=by
   rw[show p.procs.length+1-j=(p.procs.length-j)+1 by omega,KY,q5w (by omega)]
  rw[hre]at h5;conv=>whnf
  repeat' (first|(refine iM fun _=>?_;conv=>whnf)|(apply bD<;>intro _<;>first|omega|conv=>whnf)|(refine CallK.heap [(1000,0)] 0 (by repeat' (first|exact q4d|refine q3i ?_ ?_|exact q3e _|exact q4q Sub.nils|exact q4q (Sub.tt rfl)|exact q4q (Sub.ff rfl)|exact q4q (Sub.int (by omega)))) (by refine q3h (j:=0) rfl rfl ?_ ?_;exact CSub.refl _;exact q4b) (GG out (by omega)) rfl rfl ?_;rintro l' H' ⟨rfl,rfl⟩;conv=>whnf))
  exact⟨_,.hd rfl (by simp[VM]),by unfold A8;rw[<-h5];rfl⟩
mutual
theorem Ad:∀(x:X)(out:List Str),(Hq x out).length<=out.length+wX x
 | .mk op n name kids,out=>by
   rw[Hq,wX];have:=RT kids (if op=2/\(out.any fun s=>name==s)=false then out++[name]else out);split at this
   ·rename_i h;rw[if_pos h];simp at this;omega
   ·rename_i h;rw[if_neg h];omega
theorem RT:∀(l:List X)(out:List Str),(HS l out).length<=out.length+wXs l
 |[],out=>by rw[HS];omega
 | x::r,out=>by
   have h1:=Ad x out;have h2:=RT r (Hq x out);rw[HS,wXs];omega
end
theorem N1(x:X):(XI x).length<=wX x:=by
 unfold XI;have:=Ad x [];cases Li x<;>simp at this⊢;exact this
theorem Wu:∀l:List Arg,(l.flatMap YO).length<=Kf l
 |[]=>by simp
 | a::r=>by
   have h1:=Wu r;have h2:=N1 a.x;simp only[q5o,q3m,Kf];have h3:(YO a).length<=1+(XI a.x).length:=by
    unfold YO;cases a.ref<;>simp;omega
   omega
theorem Cb(t:S):(XM t).length<=wS t:=by
 have h1:=Wu t.args;have h2:=N1 t.x;rw[Sn];have h3:(HI t).length<=1+(XI t.x).length:=by
  unfold HI;cases(decide (t.kind≠10) && !(t.name==[]):Bool)<;>simp;omega
 unfold XM;rw[q3m];omega
theorem Dy{b:Bool}(h:b=true):Sub (.bool b) .tt:=fun _ _ hr=>by subst h;cases hr;exact .tt
theorem Bd(p:Pg)(hf:Fit p)(hs:(QI p).1=0)(n:Str)(hn:n∈QB p):SpecP prog 181 [.agg p.cells,.str n] (fun r=>r=.tt):=by
 refine sB Ym func181 rfl call181 ?_;conv=>whnf
 repeat' (first|((first|refine cP (YD p hf) ?_|refine cP (WW p.procs 221 (.ip [.str n]) (fun f=>f.name==n) (Kk n)) ?_);conv=>whnf)|(apply bD<;>intro _<;>first|omega|conv=>whnf))
 have:p.procs.any (fun f=>f.name==n)=true:=by
  obtain⟨f,h1,h2⟩:=q3s.1 hn;exact q5l.2 ⟨f,h1,by simp[h2]⟩
 exact⟨_,.p (Dy this),rfl⟩
def RC(p:Pg)(t:S):List Str:=(XM t).filter fun v=>p.globals.any fun s=>v==s
def Di(p:Pg)(n:Str):List Str:=match p.procs.find? (fun f=>f.name==n)with
 |some f=>(flL f.body).flatMap (RC p)
 |none=>[]
def BF(p:Pg)(n:Str):List Str:=(A8 p n).flatMap (Di p)
def BH(p:Pg)(n:Str):List Str:=Go.Lib.compact (UO (BF p n))
theorem Ua{p:Pg}(hs:(QI p).1=0):∀(fuel i:Nat)(out:List Str),out.Nodup->(∀s∈out,s∈QB p)->(KY p fuel i out).Nodup/\∀s∈KY p fuel i out,s∈QB p
 |0,i,out,h1,h2=>by rw[KY];exact⟨h1,h2⟩
 | fuel+1,i,out,h1,h2=>by
   rw[KY];split
   ·obtain⟨h3,h4,_⟩:=FN (U3 p _) h1 h2 fun s h=>Gl hs h;exact Ua hs fuel (i+1) _ h3 h4
   ·exact⟨h1,h2⟩
theorem SJ(hs:(QI p).1=0){n:Str}(hn:n∈QB p):(A8 p n).length<=p.procs.length/\∀s∈A8 p n,s∈QB p:=by
 obtain⟨h1,h2⟩:=Ua hs (p.procs.length+1) 0 [n] (by simp) (by simpa using hn);unfold A8;rw[VM];refine⟨?_,fun s h=>h2 s (MQ.1 h)⟩;have:=FG h1 h2;simpa[QB]using this
theorem YC{β:Type}{f:α->List β}{l:List α}(hj:j<l.length):(l.drop j).flatMap f=f l[j]++(l.drop (j+1)).flatMap f:=by
 rw[QH hj,q5o]
theorem Kj(p:Pg)(hf:Fit p)(hs:(QI p).1=0)(n:Str)(hn:n∈QB p):SpecP prog 137 [.agg p.cells,.str n] (fun r=>r=eStrs (BH p n)):=by
 refine sB Z0 func137 rfl call137 ?_;conv=>whnf
 obtain⟨hm,hb,hns⟩:=JX hs;obtain⟨hg,hpl,hcn⟩:=WT hm;repeat' ((first|(refine iM fun _=>?_)|refine cP (Bd p hf hs n hn) ?_|refine cP (Sq p n hs hn) ?_|(refine CallK.pure (KI p (by omega) (by omega)) (.cons (Sub.refl _) .nil) ?_;rintro _ rfl));conv=>whnf)
 obtain⟨hal,hak⟩:=SJ hs hn;have hgl:BH p n=Go.Lib.compact (UO (BF p n)):=rfl;have hgr:BF p n=(A8 p n).flatMap (Di p):=rfl;rw[hgl];generalize A8 p n=ns at hal hak hgr⊢;have hnl:(ns.map AV.str).length=ns.length:=q3f _;refine LoopK.inv QY (fun i:Nat×List Str=>⟨[(2,.p (.ip p.cells)),(5,.p (.ip (sheetOf p).cells)),(6,.hd 0 0 i.2.length),(21,.p (eStrs ns)),(22,.p (.int .i64 (ns.map AV.str).length)),(23,.p (.int .i64 i.1))],[(0,.own 9 1 (i.2.map .str))]⟩)
  (fun i=>i.1<=ns.length/\i.2.length<=4000000*i.1/\i.2++(ns.drop i.1).flatMap (Di p)=BF p n) (fun i=>ns.length-i.1) (0,[])
  (Le.mk [(0,.own 9 1 [])] (by simp[Chunk.new0];rfl) (by simp) (by simp) (.r (.r (.cons (.nil q3d) (.r (.r (.r .nil)))))) (.new q3d .nil))
  ⟨q3o _,by simp,by rw[hgr];rfl⟩ ?_
 rintro⟨j,acc⟩ ⟨h2,h3,h4⟩;simp only at h2 h3 h4⊢;rcases q4w j ns.length with hj|hj;rotate_left 1
 ·have hacc:acc=BF p n:=by
   rw[q4j hj]at h4;simpa using h4
  rw[<-hacc];conv=>whnf
  repeat' (first|(apply bD<;>intro _<;>first|omega|conv=>whnf)|(refine CallK.heap [(1000,0)] 0 (by repeat' (first|exact q4d|refine q3i ?_ ?_|exact q3e _|exact q4q Sub.nils|exact q4q (Sub.tt rfl)|exact q4q (Sub.ff rfl)|exact q4q (Sub.int (by omega)))) (by refine q3h (j:=0) rfl rfl ?_ ?_;exact CSub.refl _;exact q4b) (GG acc (by omega)) rfl rfl ?_;rintro l' H' ⟨rfl,rfl⟩;conv=>whnf)|(refine CallK.heap [(1000,0)] 0 (q3i (q8u (by rw[VM];rfl)) q4d) (by refine q3h (j:=0) rfl rfl ?_ ?_;exact CSub.refl _;exact q4b) (JH (UO acc) (by rw[VM];omega)) rfl rfl ?_;rintro l' H' ⟨rfl,rfl⟩;conv=>whnf))
  exact⟨_,.hd rfl (by simp),rfl⟩
 obtain⟨k,hk,hik,hfk,hnk⟩:=Ja (hak _ (q4u hj));have hgn:Di p ns[j]=(flL p.procs[k].body).flatMap (RC p):=by unfold Di;rw[hfk]
 rw[YC hj,hgn]at h4;have hfp:=hf.pr (q4u hk);have hpk:p.procs[k]?=some p.procs[k]:=by simp
 conv=>whnf
 repeat' (first|((first|(refine iM fun _=>?_)|refine cP (XN _ _) ?_|(refine iA fun _=>?_)|(refine CallK.pure (M7 p (j:=k) (f:=p.procs[k]'hk) hpk (by omega)) (.cons (Sub.refl _) (.cons (Sub.int (by exact hik)) .nil)) ?_;rintro _ rfl));conv=>whnf)|(apply bD<;>intro _<;>first|omega|conv=>whnf))
 have hmap:=NY (k:Nat) 0 (-1) 0 (QL p.procs k) p.procs[k].body;have hargs:∀m (hm:m<(itL (k:Nat) 0 (-1) 0 (QL p.procs k) p.procs[k].body).length),wS (itL (k:Nat) 0 (-1) 0 (QL p.procs k) p.procs[k].body)[m].s<=20000:=fun m hm=>by
  have hmm:(itL (k:Nat) 0 (-1) 0 (QL p.procs k) p.procs[k].body)[m].s∈flL p.procs[k].body:=by
   rw[<-hmap];exact q3s.2 ⟨_,q4u hm,rfl⟩
  have:=Dr _ _ hmm;unfold wPr at hfp;omega
 have hib:(itL (k:Nat) 0 (-1) 0 (QL p.procs k) p.procs[k].body).length<=200:=by
  have:=(QU p).2.2.2.2 k p.procs[k] hpk;rw[ZP];omega
 rw[<-hmap]at h4;generalize hits:itL (k:Nat) 0 (-1) 0 (QL p.procs k) p.procs[k].body=its at hargs hib h4⊢;have hil:=WO its;refine LoopK.inv QY (fun i:Nat×List Str=>⟨[(2,.p (.ip p.cells)),(5,.p (.ip (sheetOf p).cells)),(6,.hd 0 0 i.2.length),(21,.p (eStrs ns)),(22,.p (.int .i64 (ns.map AV.str).length)),(23,.p (.int .i64 j)),(31,.p (VH its)),(32,.p (.int .i64 (its.map fun i=>AV.agg i.cells).length)),(33,.p (.int .i64 i.1))],[(0,.own 9 1 (i.2.map .str))]⟩)
  (fun i=>i.1<=its.length/\i.2.length<=acc.length+20000*i.1/\i.2++(((its.drop i.1).map Item.s).flatMap (RC p)++(ns.drop (j+1)).flatMap (Di p))=BF p n) (fun i=>its.length-i.1) (0,acc)
  (Le.of_eq rfl) ⟨q3o _,by simp,h4⟩ ?_
 rintro⟨m,acc2⟩ ⟨h6,h7,h8⟩;simp only at h6 h7 h8⊢;rcases q4w m its.length with hm'|hm';rotate_left 1
 ·rw[q4j hm']at h8;conv=>whnf
  repeat' (first|(refine wI ?_;conv=>whnf)|(apply bD<;>intro _<;>first|omega|conv=>whnf))
  exact⟨(j+1,acc2),⟨by simp only;omega,by simp only;omega,by simpa using h8⟩,by simp only;omega,Le.of_eq rfl⟩
 have hw:=hargs m hm';have hna:its[m].s.args.length<=20000:=by
  have:=Sn its[m].s;have:=MY its[m].s.args;omega
 have hnw:=Cb its[m].s;rw[q4a hm',q4t,q5o,q4c]at h8;have hgt:RC p its[m].s=(XM its[m].s).filter fun v=>p.globals.any fun s=>v==s:=rfl;conv=>whnf
 repeat' (first|((first|(refine iM fun _=>?_)|refine cP (Uz _ hna) ?_|refine q3l rfl ?_|(refine iA fun _=>?_));conv=>whnf)|(apply bD<;>intro _<;>first|omega|conv=>whnf))
 rw[hgt]at h8;generalize XM its[m].s=vs at hnw h8⊢;have hvl:(vs.map AV.str).length=vs.length:=q3f _;refine LoopK.inv QY (fun i:Nat×List Str=>⟨[(2,.p (.ip p.cells)),(5,.p (.ip (sheetOf p).cells)),(6,.hd 0 0 i.2.length),(21,.p (eStrs ns)),(22,.p (.int .i64 (ns.map AV.str).length)),(23,.p (.int .i64 j)),(31,.p (VH its)),(32,.p (.int .i64 (its.map fun i=>AV.agg i.cells).length)),(33,.p (.int .i64 m)),(39,.p (eStrs vs)),(40,.p (.int .i64 (vs.map AV.str).length)),(41,.p (.int .i64 i.1))],[(0,.own 9 1 (i.2.map .str))]⟩)
  (fun i=>i.1<=vs.length/\i.2.length<=acc2.length+i.1/\i.2++((vs.drop i.1).filter (fun v=>p.globals.any fun s=>v==s)++(((its.drop (m+1)).map Item.s).flatMap (RC p)++(ns.drop (j+1)).flatMap (Di p)))=BF p n) (fun i=>vs.length-i.1) (0,acc2)
  (Le.of_eq rfl) ⟨q3o _,by simp,h8⟩ ?_
 rintro⟨q,acc3⟩ ⟨h9,h10,h11⟩;simp only at h9 h10 h11⊢;rcases q4w q vs.length with hq|hq
 ·rw[q4a hq,filter_cons]at h11;conv=>whnf
  repeat' (first|((first|refine cP (QX _ _) ?_|refine q3l rfl ?_|refine aD ?_|refine bP ?_|(refine iA fun _=>?_)|refine wI ?_|refine XW (by simp) (by simp;omega) ?_);conv=>whnf)|(apply bD<;>intro _<;>first|omega|conv=>whnf)|(apply bB<;>intro _<;>conv=>whnf))
  ·exact⟨(q+1,acc3++[vs[q]]),⟨by simp only;omega,by simp;omega,by rw[if_pos (by assumption)]at h11;simpa using h11⟩,by simp only;omega,Le.of_eq (by simp only[q3m,q4z];rfl)⟩
  ·exact⟨(q+1,acc3),⟨by simp only;omega,by simp only;omega,by rw[if_neg (by simp[*])]at h11;exact h11⟩,by simp only;omega,Le.of_eq rfl⟩
 ·rw[q4j hq]at h11;conv=>whnf
  repeat' (first|(refine wI ?_;conv=>whnf)|(apply bD<;>intro _<;>first|omega|conv=>whnf))
  exact⟨(m+1,acc3),⟨by simp only;omega,by simp only;omega,by simpa using h11⟩,by simp only;omega,Le.of_eq rfl⟩
section
variable {P:Program}{T:Tab}{N:Nat}
def BC(s:List UInt8):Value:=.string ⟨s.toArray⟩
def Ef(l:List (List UInt8×AV)):XC:=.map (l.map fun x=>(BC x.1,x.2))
def Fo{α:Type}(l:List (List UInt8×α))(k:List UInt8)(v:α):List (List UInt8×α):=
 match l with
 |[]=>[(k,v)]
 |x::r=>if k=x.1 then(x.1,v)::r else x::Fo r k v
def Io{α:Type}(l:List (List UInt8×α))(k:List UInt8):Option α:=(l.find? fun x=>decide (k=x.1)).map (·.2)
theorem Df(h:Zy es clock){e:MapEntry}(he:e.born=clock):Zy (es.push e) (clock+1):=by
 refine⟨?_,fun x hx=>?_⟩
 ·rw[Array.toList_push,q4z,q6j];refine⟨h.1,by simp,fun a ha b hb=>?_⟩;obtain⟨x,hx,rfl⟩:=q3s.1 ha;have:=h.2 x hx;simp only[q4t,q8a,q3r]at hb;omega
 ·rw[Array.toList_push]at hx;rcases q3a.1 hx with hx|hx
  ·have:=h.2 x hx;omega
  ·rw[q3r.1 hx,he];omega
theorem Ub{α β:Type}(g:α->β)(f:α->α)(hf:∀x,g (f x)=g x):∀(l:List α)(j:Nat),(l.modify j f).map g=l.map g
 |[],j=>by simp
 |x::r,0=>by simp[hf]
 |x::r,j+1=>by simp[Ub g f hf r j]
theorem J0(h:Zy es clock)(j:Nat){f:MapEntry->MapEntry}(hf:∀e,(f e).born=e.born):Zy (es.modify j f) clock:=by
 have e:(es.modify j f).toList.map (·.born)=es.toList.map (·.born):=by
  rw[Array.toList_modify];exact Ub _ f hf _ j
 refine⟨by rw[e];exact h.1,fun x hx=>?_⟩;have h1:x.born∈(es.modify j f).toList.map (·.born):=q3s.2 ⟨x,hx,rfl⟩;rw[e]at h1;obtain⟨y,h2,h3⟩:=q3s.1 h1;rw[<-h3];exact h.2 y h2
theorem OpK.makeMap{s:St}{o:Oper}{K:St->Prop}{t:TypeId}(hop:o.op=.makeMap t none)(h:JI 60 0 s fun k=>setD N s.sl o.dst (.ext k .map) fun sl=>K ⟨sl,(k,.ext (Ef []))::s.H⟩):OpK P N s o K:=by
 refine⟨fun σ β a w hr Q=>?_⟩;obtain⟨k,hk,h⟩:=VA h;have hchunk:(Chunk.ext (Ef [])).holds σ (β.set k (some ⟨w.heap.size,0,0,[],q3o _⟩)) (w.alloc (.map #[] 0)) k:=
  ⟨⟨w.heap.size,0,0,[],q3o _⟩,#[],0,by simp[Lab.set],heap_alloc_new w _,⟨.nil,fun x hx=>by cases hx⟩,rfl,by simp⟩
 obtain⟨hr',hl⟩:=hr.new hk rfl rfl hchunk;obtain⟨sl,hK,hr''⟩:=hr'.setD (v:=.ext k .map) (u:=.map (some w.heap.size)) (.ext k .map ⟨w.heap.size,0,0,[],q3o _⟩ _ (by simp[Lab.set]) rfl) h;exact WC (w':=w.alloc (.map #[] 0)) (by simp[execOp,hop,Instr.makeMap]) ⟨σ,_,_,hK,hr'',hl⟩
theorem Gm(a b:List UInt8):((⟨a.toArray⟩:ByteArray)==⟨b.toArray⟩)=decide (a=b):=by
 show(a.toArray==b.toArray)=decide (a=b);by_cases h:a=b
 ·subst h;simp
 ·simp[h]
theorem Zb{α:Type}(k:List UInt8):∀(es:List MapEntry)(l:List (List UInt8×α))(i:Nat),es.map (·.key)=l.map (fun x=>BC x.1)->
  Instr.findNow .string (BC k) es i=some (match l.findIdx? fun x=>decide (k=x.1)with
   |some j=>some (i+j,(es[j]?.map (·.val)).getD undef)
   |none=>none)
 |[],[],_,_=>rfl
 |[],_::_,_,h=>by cases h
 |_::_,[],_,h=>by cases h
 | e::es,x::l,i,h=>by
   simp only[q4t,List.cons.injEq]at h;have hs:Instr.sameNow .string (BC k) e.key=some (decide (k=x.1)):=by
    rw[h.1];show some ((⟨k.toArray⟩:ByteArray)==⟨x.1.toArray⟩)=_;rw[Gm]
   rw[Instr.findNow,hs,findIdx?_cons];by_cases hk:k=x.1
   ·simp[hk]
   ·simp only[hk,decide_false];rw[Zb k es l (i+1) h.2];cases l.findIdx? fun x=>decide (k=x.1)with
    |none=>rfl
    |some j=>simp;omega
theorem Qk{l:List (List UInt8×AV)}(h1:es.size=(l.map fun x=>(BC x.1,x.2)).length)(h2:∀(m:Nat)(x:Value×AV),(l.map fun x=>(BC x.1,x.2))[m]?=some x->∃e:MapEntry,es[m]?=some e/\e.key=x.1/\Rep σ x.2 e.val):
  es.toList.map (·.key)=l.map (fun x=>BC x.1):=by
 apply q8d;intro m;rw[q4x,q4x];cases hq:l[m]?with
 | none=>
   have:es.toList[m]?=none:=by
    rw[List.getElem?_eq_none_iff]at hq⊢;simp at h1⊢;omega
   rw[this];rfl
 | some x=>
   obtain⟨e,h3,h4,_⟩:=h2 m (BC x.1,x.2) (by simp[hq]);have h3':es.toList[m]?=some e:=by simpa using h3
   rw[h3'];simp[h4]
theorem MI{P:Program}{t:TypeId}(ht:P.underlying t=some .string)(b:Bool)(k:List UInt8)(w:World):(Instr.checkKey b 10000 t (BC k)).run P w=.ok () w:=by
 have e:Instr.checkKey b 10000 t (BC k)=Instr.checkKey b (9999+1) t (BC k):=rfl;rw[e,Instr.checkKey,Sem.run_bind,run_underlying ht,Result.andThen_ok];rfl
theorem AY{l:List UInt8}(h:RepL σ β (.p (.str l)) v):v=BC l:=h.strV.1
theorem LJ{P:Program}{r:Nat}(h:w.heap[r]?=some (.map es clock)):(getObj r).run P w=.ok (.map es clock) w:=by simp[getObj,Sem.run,h]
theorem Y5{P:Program}{r:Nat}(o:Obj)(h:w.heap[r]?=some (.map es clock)):(setObj r o).run P w=.ok () {w with heap:=w.heap.setIfInBounds r o}:=by simp[setObj,Sem.run,h]
theorem OpK.lookup(hT:TabOK P T){s:St}{o:Oper}{K:St->Prop}{t:TypeId}{x ix:Operand}(hop:o.op=.lookup t x ix false){k:Nat}(hx:QR s.sl x=.ext k .map){l:List (List UInt8×AV)}(hg:getH s.H k=some (.ext (Ef l))){ks:List UInt8}(hk:QR s.sl ix=.p (.str ks)){i ik:TyI}{kt et:TypeId}(ht:T.get t=some i)(hd:i.desc=.map kt et)(htk:T.get kt=some ik)(hdk:ik.desc=.string){v:AV}(hv:Io l ks=some v)(h:setD N s.sl o.dst (.p v) fun sl=>K ⟨sl,s.H⟩):OpK P N s o K:=by
 refine⟨fun σ β a w hr Q=>?_⟩;have hx':=QZ hr.slots x;have hk':=QZ hr.slots ix;rw[hx]at hx';rw[hk]at hk';have hkv:=AY hk';generalize hxe:a.eval x=xv at hx';cases hx' with
 | ext _ _ bi _ hbi hd'=>
   obtain rfl:xv=.map (some bi.blk):=hd';obtain⟨bi',es,clock,hbi',hh,hbo,h1,h2⟩:=hr.heap.chunks k _ (QG hg);rw[hbi]at hbi';cases hbi';have hkeys:=Qk h1 h2;have hu:=hT.of ht;have huk:=hT.of htk;rw[hd]at hu;rw[hdk]at huk;obtain⟨j,hj,hjv⟩ : ∃j,(l.findIdx? fun x=>decide (ks=x.1))=some j/\∃x,l[j]?=some x/\x.2=v:=by
    unfold Io at hv;cases hf:l.find? fun x=>decide (ks=x.1)with
    |none=>rw[hf]at hv;cases hv
    | some x=>
      rw[hf]at hv;cases hv;obtain⟨h3,j,hlt,h4,h5⟩:=List.find?_eq_some_iff_getElem.1 hf;refine⟨j,?_,x,by rw[q3b hlt,h4],rfl⟩;rw[List.findIdx?_eq_some_iff_getElem];exact⟨hlt,by rw[h4];exact h3,fun i hi=>by simpa using h5 i hi⟩
   obtain⟨y,hjl,rfl⟩:=hjv;obtain⟨e,h3,h4,h5⟩:=h2 j (BC y.1,y.2) (by simp[hjl]);have hfind:=Zb ks es.toList l 0 hkeys;rw[hj]at hfind;have h3':es.toList[j]?=some e:=by simpa using h3
   simp only[h3',q7f,q7u]at hfind;have hrun:(execOp a.eval o).run P w=.ok (.value e.val) w:=by
    have hfk:(Instr.findKey kt (BC ks) es.toList).run P w=.ok (some (0+j,e.val)) w:=by
     unfold Instr.findKey;rw[Sem.run_bind,run_underlying huk,Result.andThen_ok,hfind];rfl
    have hlk:(Instr.lookup t (.map (some bi.blk)) (BC ks) false).run P w=.ok e.val w:=by
     unfold Instr.lookup;rw[Sem.run_bind,run_underlying hu,Result.andThen_ok];simp only[Sem.run_bind,LJ hh,Result.andThen_ok,Sem.run_pure,MI huk,hfk];rfl
    simp only[execOp,hop,hxe,hkv,Sem.run_bind,hlk,Result.andThen_ok];rfl
   obtain⟨sl,hK,hr'⟩:=hr.setD (.p h5) h;exact WC hrun ⟨σ,β,_,hK,hr',Later.refl _ _ _ _⟩
theorem Fp{l:List (List UInt8×α)}{k:List UInt8}{v:α}(h:(l.findIdx? fun x=>decide (k=x.1))=none):Fo l k v=l++[(k,v)]:=by
 induction l with
 |nil=>rfl
 | cons x r ih=>
   rw[findIdx?_cons]at h;by_cases hk:k=x.1
   ·simp[hk]at h
   ·simp[hk]at h;rw[Fo,if_neg hk,ih (by simpa using h)];rfl
theorem Sk{l:List (List UInt8×α)}{k:List UInt8}{v:α}(h:(l.findIdx? fun x=>decide (k=x.1))=some j):∃x,l[j]?=some x/\Fo l k v=l.set j (x.1,v):=by
 induction l generalizing j with
 |nil=>cases h
 | cons x r ih=>
   rw[findIdx?_cons]at h;by_cases hk:k=x.1
   ·simp[hk]at h;subst h;exact⟨x,rfl,by rw[Fo,if_pos hk];rfl⟩
   ·simp[hk]at h;obtain⟨j',h1,rfl⟩:=h;obtain⟨y,h2,h3⟩:=ih h1;exact⟨y,by simpa using h2,by rw[Fo,if_neg hk,h3];rfl⟩
theorem OpK.mapUpdate(hT:TabOK P T){s:St}{o:Oper}{K:St->Prop}{t:TypeId}{x ix vx:Operand}(hop:o.op=.mapUpdate t x ix vx)(hdst:o.dst=none){k:Nat}(hx:QR s.sl x=.ext k .map){l:List (List UInt8×AV)}(hg:getH s.H k=some (.ext (Ef l))){ks:List UInt8}(hk:QR s.sl ix=.p (.str ks)){v:AV}(hvx:QR s.sl vx=.p v){i ik:TyI}{kt et:TypeId}(ht:T.get t=some i)(hd:i.desc=.map kt et)(htk:T.get kt=some ik)(hdk:ik.desc=.string)(h:K7 s.H k (.ext (Ef (Fo l ks v))) fun H=>K ⟨s.sl,H⟩):OpK P N s o K:=by
 refine⟨fun σ β a w hr Q=>?_⟩;have hx':=QZ hr.slots x;have hk':=QZ hr.slots ix;have hv':=QZ hr.slots vx;rw[hx]at hx';rw[hk]at hk';rw[hvx]at hv';have hkv:=AY hk';generalize hxe:a.eval x=xv at hx';generalize hve:a.eval vx=vv at hv';cases hv' with
 |p hvr=>
 cases hx' with
 | ext _ _ bi _ hbi hd'=>
   obtain rfl:xv=.map (some bi.blk):=hd';obtain⟨bi',es,clock,hbi',hh,hbo,h1,h2⟩:=hr.heap.chunks k _ (QG hg);rw[hbi]at hbi';cases hbi';have hkeys:=Qk h1 h2;have hu:=hT.of ht;have huk:=hT.of htk;rw[hd]at hu;rw[hdk]at huk;have hfind:=Zb ks es.toList l 0 hkeys;have hlab:=XQ hg;have hlt:=(hr.heap.apart k hlab bi hbi bi.blk bi.has_blk).2;obtain⟨es',clock',hrun,hbo',hsz,hent⟩ : ∃es' clock',(Instr.mapUpdate t (.map (some bi.blk)) (BC ks) vv).run P w=.ok () {w with heap:=w.heap.setIfInBounds bi.blk (.map es' clock')}/\Zy es' clock'/\es'.size=(Fo l ks v).length/\
     ∀(m:Nat)(x:Value×AV),((Fo l ks v).map fun x=>(BC x.1,x.2))[m]?=some x->∃e:MapEntry,es'[m]?=some e/\e.key=x.1/\Rep σ x.2 e.val:=by
    cases hj:l.findIdx? fun x=>decide (ks=x.1)with
    | none=>
      rw[hj]at hfind;refine⟨es.push {key:=BC ks,val:=vv,born:=clock},clock+1,?_,Df hbo rfl,?_,fun m y hy=>?_⟩
      ·have hfk:(Instr.findKey kt (BC ks) es.toList).run P w=.ok none w:=by
        unfold Instr.findKey;rw[Sem.run_bind,run_underlying huk,Result.andThen_ok,hfind];rfl
       unfold Instr.mapUpdate;rw[Sem.run_bind,run_underlying hu,Result.andThen_ok];simp only[Sem.run_bind,LJ hh,Result.andThen_ok,Sem.run_pure,MI huk,hfk,Y5 _ hh]
      ·rw[Fp hj];simpa using h1
      ·rw[Fp hj]at hy;simp only[q3f]at h1;rw[q4z,q7v]at hy;split at hy
       ·rename_i hm;obtain⟨e,h3,h4⟩:=h2 m y hy;simp only[q3f]at hm;exact⟨e,by rw[Array.getElem?_push,if_neg (by omega)];exact h3,h4⟩
       ·rename_i hm;simp only[q3f]at hm hy;have hm0:m-l.length=0:=by
         have:=(q3c.1 hy).1;simp at this;omega
        rw[hm0]at hy;simp at hy;subst hy;exact⟨{key:=BC ks,val:=vv,born:=clock},by rw[Array.getElem?_push,if_pos (by omega)],rfl,hvr⟩
    | some j=>
      rw[hj]at hfind;obtain⟨y,hy1,hy2⟩:=Sk (v:=v) hj;obtain⟨e,h3,h4,h5⟩:=h2 j (BC y.1,y.2) (by simp[hy1]);have hky:ks=y.1:=by
       obtain⟨hlt,h6,_⟩:=List.findIdx?_eq_some_iff_getElem.1 hj;rw[q3b hlt]at hy1;cases hy1;simpa using h6
      have h3':es.toList[j]?=some e:=by simpa using h3
      have hjlt:j<es.size:=(q4p.1 h3).1;simp only[h3',q7f,q7u,q5n]at hfind;have hek:e.key=BC ks:=by rw[h4,hky]
      refine⟨es.modify j fun e=>{e with key:=BC ks,val:=vv},clock,?_,J0 hbo j fun _=>rfl,?_,fun m z hz=>?_⟩
      ·have hfk:(Instr.findKey kt (BC ks) es.toList).run P w=.ok (some (j,e.val)) w:=by
        unfold Instr.findKey;rw[Sem.run_bind,run_underlying huk,Result.andThen_ok,hfind];rfl
       have hkt:(Instr.keyThatStays (((es[j]?).map (·.key)).getD (BC ks)) (BC ks)).run P w=.ok (BC ks) w:=by
        rw[h3];simp only[q7f,q7u,hek];unfold Instr.keyThatStays;have:Instr.sameBits 10000 (BC ks) (BC ks)=true:=by
         unfold BC;show((⟨ks.toArray⟩:ByteArray)==⟨ks.toArray⟩)=true;rw[Gm];simp
        rw[if_pos this];rfl
       unfold Instr.mapUpdate;rw[Sem.run_bind,run_underlying hu,Result.andThen_ok];simp only[Sem.run_bind,LJ hh,Result.andThen_ok,Sem.run_pure,MI huk,hfk,hkt,Y5 _ hh]
      ·rw[hy2];simpa using h1
      ·rw[hy2,q5a]at hz;by_cases hm:m=j
       ·subst hm;rw[q6e (by simp at h1⊢;omega)]at hz;cases hz;exact⟨{e with key:=BC ks,val:=vv},by simp[q7b,h3],by rw[hky],hvr⟩
       ·rw[q6c (q7t hm)]at hz;obtain⟨e',h6,h7⟩:=h2 m z hz;exact⟨e',by rw[q7b,if_neg (q7t hm)];exact h6,h7⟩
   have hrun':(execOp a.eval o).run P w=.ok .skip {w with heap:=w.heap.setIfInBounds bi.blk (.map es' clock')}:=by
    simp only[execOp,hop,hxe,hkv,hve,Sem.run_bind,hrun,Result.andThen_ok];rfl
   obtain⟨H',hK,h3,h4,h5⟩:=KG hr.heap.nodup h;have hot:∀b,b≠bi.blk->({w with heap:=w.heap.setIfInBounds bi.blk (.map es' clock')}:World).heap[b]?=w.heap[b]?:=fun b hb=>q7n (q7t hb);have hheap:HRel σ β H' {w with heap:=w.heap.setIfInBounds bi.blk (.map es' clock')}:=by
    refine⟨fun b c hb=>?_,fun j c hj=>?_,by rw[h3];exact hr.heap.nodup,fun j hj i' hi' b hb=>?_,fun j hj j' hj'=>hr.heap.inj j (h3▸hj) j' (h3▸hj')⟩
    ·obtain⟨e,fr,h6⟩:=hr.heap.mem b c hb;exact⟨e,fr,(hot b fun he=>by rw[he,hh]at h6;cases h6).trans h6⟩
    ·by_cases hjk:j=k
     ·subst hjk;rw[h5 c hj];exact⟨bi,es',clock',hbi,by simp[hlt],hbo',by simpa using hsz,hent⟩
     ·have hm:=h4 j c hj hjk;exact(hr.heap.chunks j c hm).mono (Mem.le_refl σ) fun i' hi' b hb=>hot b fun he=>hjk (hr.heap.inj j (q3s.2 ⟨_,hm,rfl⟩) k hlab i' bi hi' hbi b hb (.inl he.symm))
    ·have:=hr.heap.apart j (h3▸hj) i' hi' b hb;exact⟨this.1,by simpa using this.2⟩
   refine Xs hrun' ⟨σ,β,⟨s.sl,H'⟩,hK,⟨?_,?_,?_,hheap⟩,Mem.le_refl σ,⟨rfl,rfl,rfl,q4h _,by simp,fun b _ hn=>hot b fun he=>hn ⟨k,hlab,bi,hbi,.inl he.symm⟩⟩,fun b h0 h1=>absurd h0 h1,fun b ⟨j,hj,r⟩=>.inl ⟨j,h3▸hj,r⟩,fun _ _ _=>rfl⟩
   ·rw[hdst];exact hr.size
   ·rw[hdst];exact hr.defers
   ·rw[hdst];exact hr.slots
end
def WF(nm:Str)(touched:List Str):List Arg->List Str->Bool
 |[],_=>true
 |a::r,seen=>bif a.ref then bif (seen.any fun s=>a.name==s)||((a.name==nm)||touched.any fun s=>a.name==s)then false else WF nm touched r (seen++[a.name])else WF nm touched r seen
theorem Gh(t:S)(touched:List Str)(ha:t.args.length<=20000):SpecP prog 138 [.agg t.cells,eStrs touched] (fun r=>r=.bool (WF t.name touched t.args [])):=by
 refine sB Vw func138 rfl call138 ?_;conv=>whnf
 repeat' (refine iM fun _=>?_;conv=>whnf)
 have hl:(t.args.map fun a=>AV.agg a.cells).length=t.args.length:=q3f _;refine LoopK.inv QY (fun i:Nat×List Str=>⟨[(1,.p (eStrs touched)),(2,.p (.ip t.cells)),(5,.hd 0 0 i.2.length),(9,.p (.sl (t.args.map fun a=>.agg a.cells))),(10,.p (.int .i64 (t.args.map fun a=>AV.agg a.cells).length)),(11,.p (.int .i64 i.1))],[(0,.own 9 1 (i.2.map .str))]⟩)
  (fun i=>i.1<=t.args.length/\i.2.length<=i.1/\WF t.name touched (t.args.drop i.1) i.2=WF t.name touched t.args []) (fun i=>t.args.length-i.1) (0,[])
  (Le.mk [(0,.own 9 1 [])] (by simp[Chunk.new0];rfl) (by simp) (by simp) (.r (.r (.cons (.nil q3d) (.r (.r (.r .nil)))))) (.new q3d .nil))
  ⟨q3o _,q4h _,rfl⟩ ?_
 rintro⟨j,acc⟩ ⟨h2,h3,h4⟩;simp only at h2 h3 h4⊢;rcases q4w j t.args.length with hj|hj
 ·rw[q4a hj,WF]at h4;conv=>whnf
  repeat' (first|((first|refine cP (QX _ _) ?_|refine q3l rfl ?_|refine aD ?_|refine bP ?_|(refine iA fun _=>?_)|refine wI ?_|(refine XG (QX acc (t.args[j]'hj).name) (.cons (.hd rfl (by simp)) (.cons (.p (Sub.refl _)) .nil)) (by rintro _ rfl;rfl) ?_;rintro _ rfl)|refine XW (by simp) (by simp;omega) ?_);conv=>whnf)|(apply bD<;>intro _<;>first|omega|conv=>whnf)|(apply bN<;>intro _<;>conv=>whnf)|(apply bB<;>intro _<;>conv=>whnf))
  all_goals first
   |exact RetK.ff (by rw[<-h4];simp[*])
   |exact⟨(j+1,acc++[t.args[j].name]),⟨by simp only;omega,by simp;omega,by simp only;rw[<-h4];simp[*]⟩,by simp only;omega,Le.of_eq (by simp only[q3m,q4z];rfl)⟩
   |exact⟨(j+1,acc),⟨by simp only;omega,by simp only;omega,by simp only;rw[<-h4];simp[*]⟩,by simp only;omega,Le.of_eq rfl⟩
 ·rw[q4j hj,WF]at h4;conv=>whnf
  repeat' (apply bD<;>intro _<;>first|omega|conv=>whnf)
  exact RetK.tt h4.symm
def PM(p:Pg):Int×Int:=
 if(UY p).1≠0 then(1,0)else match(YP p).find? fun t=>decide (t.kind=4) && !WF t.name (BH p t.proc) t.args []with
  |some t=>(8,t.id)
  |none=>(0,0)
theorem SB(h:(UY p).1=0):(QI p).1=0/\(YP p).find? (fun t=>decide (t.kind=4) && !HM p t)=none:=by
 unfold UY at h;split at h
 ·cases h
 ·rename_i hs;refine⟨by omega,?_⟩;split at h
  ·cases h
  ·assumption
theorem A1{l:List (Str×AV)}{k:Str}{v:AV}{x:Str×AV}(h:x∈Fo l k v):x∈l\/x=(k,v):=by
 induction l with
 |nil=>rw[Fo]at h;exact .inr (by simpa using h)
 | cons y r ih=>
   rw[Fo]at h;split at h
   ·rename_i hk;rcases q3t.1 h with h|h
    ·exact .inr (by rw[h,hk])
    ·exact .inl (q3n _ h)
   ·rcases q3t.1 h with h|h
    ·exact .inl (by rw[h];exact q3d)
    ·exact(ih h).imp (q3n _) id
theorem A0{l:List (Str×AV)}{k:Str}{v:AV}(h:s=k\/∃x∈l,x.1=s):∃x∈Fo l k v,x.1=s:=by
 induction l with
 | nil=>
   rcases h with rfl|⟨x,hx,_⟩
   ·exact⟨(s,v),by rw[Fo];exact q3d,rfl⟩
   ·cases hx
 | cons y r ih=>
   rw[Fo];split
   ·rename_i hk;rcases h with rfl|⟨x,hx,rfl⟩
    ·exact⟨(y.1,v),q3d,hk.symm⟩
    ·rcases q3t.1 hx with rfl|hx
     ·exact⟨(x.1,v),q3d,rfl⟩
     ·exact⟨x,q3n _ hx,rfl⟩
   ·rcases h with rfl|⟨x,hx,rfl⟩
    ·obtain⟨z,hz,h3⟩:=ih (.inl rfl);exact⟨z,q3n _ hz,h3⟩
    ·rcases q3t.1 hx with rfl|hx
     ·exact⟨x,q3d,rfl⟩
     ·obtain⟨z,hz,h3⟩:=ih (.inr ⟨x,hx,rfl⟩);exact⟨z,q3n _ hz,h3⟩
theorem E8{l:List (Str×AV)}{g:Str->AV}(h:∀x∈l,x.2=g x.1){k:Str}(hk:∃x∈l,x.1=k):Io l k=some (g k):=by
 unfold Io;cases hf:l.find? fun x=>decide (k=x.1)with
 | none=>
   obtain⟨x,hx,rfl⟩:=hk;have:=List.find?_eq_none.1 hf x hx;simp at this
 | some x=>
   have h1:=q7j hf;have h2:=q7s hf;simp at h2;simp[h x h1,h2]
theorem Dg(p:Pg)(hf:Fit p):SpecP prog 84 [.agg p.cells] (fun r=>r=U8 (PM p).1 (PM p).2):=by
 refine sB Yy func84 rfl call84 ?_;conv=>whnf
 repeat' (first|((first|refine cP (Zu p hf) ?_|refine q3l rfl ?_);conv=>whnf)|(apply bE<;>intro _<;>first|omega|conv=>whnf))
 rotate_left 1
 ·have e:PM p=(1,0):=by unfold PM;rw[if_pos (by assumption)]
  exact QM (by rw[e]) (by rw[e])
 have hA:(UY p).1=0:=by assumption
 obtain⟨hs,_⟩:=SB hA;obtain⟨hm,hb,hns⟩:=JX hs;obtain⟨hg,hpl,hcn⟩:=WT hm;have hl:(p.procs.map fun f=>AV.agg f.cells).length=p.procs.length:=q3f _;repeat' ((first|(refine iM fun _=>?_)|refine OpK.makeMap rfl ?_);conv=>whnf)
 refine LoopK.inv QY (fun i:Nat×List (Str×AV)=>⟨[(1,.p (.ip p.cells)),(2,.ptr 1 0),(3,.ext 0 .map),(15,.p (.sl (p.procs.map fun f=>.agg f.cells))),(16,.p (.int .i64 (p.procs.map fun f=>AV.agg f.cells).length)),(17,.p (.int .i64 i.1))],[(0,.ext (Ef i.2)),(1,.obj 87 [.p (.int .i64 0),.p (.int .i64 0)])]⟩)
  (fun i=>i.1<=p.procs.length/\(∀x∈i.2,x.2=eStrs (BH p x.1))/\∀(m:Nat)(hm:m<p.procs.length),m<i.1->∃x∈i.2,x.1=p.procs[m].name) (fun i=>p.procs.length-i.1) (0,[])
  (Le.of_eq rfl) ⟨q3o _,by simp,by intro m hm h;omega⟩ ?_
 rintro⟨j,l⟩ ⟨h2,h3,h4⟩;simp only at h2 h3 h4⊢;rcases q4w j p.procs.length with hj|hj
 ·have hn:p.procs[j].name∈QB p:=q3s.2 ⟨_,q4u hj,rfl⟩;conv=>whnf
  repeat' (first|((first|refine cP (Kj p hf hs _ hn) ?_|refine dA ?_|refine q3l rfl ?_|(refine iA fun _=>?_)|refine wI ?_|refine OpK.mapUpdate QY rfl rfl rfl rfl rfl rfl rfl rfl rfl rfl ?_);conv=>whnf)|(apply bD<;>intro _<;>first|omega|conv=>whnf))
  refine⟨(j+1,Fo l p.procs[j].name (eStrs (BH p p.procs[j].name))),⟨by simp only;omega,fun x hx=>?_,fun m hm h=>?_⟩,by simp only;omega,Le.of_eq rfl⟩
  ·rcases A1 hx with hx|rfl
   ·exact h3 x hx
   ·rfl
  ·refine A0 ?_;rcases q4w m j with hmj|hmj
   ·exact .inr (h4 m hm hmj)
   ·obtain rfl:m=j:=by simp only at h;omega
    exact .inl rfl
 have hgm:∀n∈QB p,Io l n=some (eStrs (BH p n)):=fun n hn=>E8 (g:=fun n=>eStrs (BH p n)) h3 (by
  obtain⟨f,hf1,rfl⟩:=q3s.1 hn;obtain⟨m,hm,rfl⟩:=List.getElem_of_mem hf1;exact h4 m hm (by omega))
 clear h3 h4;conv=>whnf
 repeat' (first|((first|(refine iM fun _=>?_)|(refine CallK.pure (KI p (by omega) (by omega)) (.cons (Sub.refl _) .nil) ?_;rintro _ rfl));conv=>whnf)|(apply bD<;>intro _<;>first|omega|conv=>whnf))
 have hA:PM p=match(YP p).find? fun t=>decide (t.kind=4) && !WF t.name (BH p t.proc) t.args []with
  |some t=>(8,t.id)
  |none=>(0,0):=by unfold PM;rw[if_neg (by omega)]
 have hil:=WO (sheetOf p).l;have hib:(sheetOf p).l.length<=200:=by have:=(QU p).2.2.2.1;omega
 have hfi:=FS (q:=fun t=>decide (t.kind=4) && !WF t.name (BH p t.proc) t.args []) (sheetOf p).l;rw[GK]at hfi;have hA2:PM p=match((sheetOf p).l.find? fun it=>decide (it.s.kind=4) && !WF it.s.name (BH p it.s.proc) it.s.args []).map (fun it=>it.s.id)with
  |some a=>(8,a)
  |none=>(0,0):=by
  rw[hA,hfi];cases(YP p).find? fun t=>decide (t.kind=4) && !WF t.name (BH p t.proc) t.args []<;>rfl
 rw[hA2];refine LoopK.inv QY (fun k:Nat=>⟨[(2,.ptr 1 0),(3,.ext 0 .map),(33,.p (VH (sheetOf p).l)),(34,.p (.int .i64 ((sheetOf p).l.map fun i=>AV.agg i.cells).length)),(35,.p (.int .i64 k))],[(0,.ext (Ef l)),(1,.obj 87 [.p (.int .i64 0),.p (.int .i64 0)])]⟩)
  (fun k=>k<=(sheetOf p).l.length/\((sheetOf p).l.drop k).find? (fun it=>decide (it.s.kind=4) && !WF it.s.name (BH p it.s.proc) it.s.args [])=(sheetOf p).l.find? fun it=>decide (it.s.kind=4) && !WF it.s.name (BH p it.s.proc) it.s.args []) (fun k=>(sheetOf p).l.length-k) 0 (Le.of_eq rfl) ⟨q3o _,rfl⟩ ?_
 rintro k ⟨h5,h6⟩;rcases q4w k (sheetOf p).l.length with hk|hk;rotate_left 1
 ·rw[<-h6,FT hk];conv=>whnf
  repeat' (first|(refine q3l rfl ?_;conv=>whnf)|(apply bD<;>intro _<;>first|omega|conv=>whnf))
  exact QM rfl rfl
 have hw:=Lu hf hk;have hna:(sheetOf p).l[k].s.args.length<=20000:=by
  have:=Sn (sheetOf p).l[k].s;have:=MY (sheetOf p).l[k].s.args;omega
 have hpc:(sheetOf p).l[k].s.kind=4->(sheetOf p).l[k].s.proc∈QB p:=fun hk4=>by
  have hmm:(sheetOf p).l[k].s∈YP p:=by
   rw[<-GK];exact q3s.2 ⟨_,q4u hk,rfl⟩
  unfold YP at hmm;obtain⟨f,hf1,hf2⟩:=q5g.1 hmm;exact(Y3 hs hf1 hf2 hk4).1
 conv=>whnf
 repeat' (first|((first|refine cP (Gh _ _ hna) ?_|refine q3l rfl ?_|(refine iA fun _=>?_)|refine wI ?_|refine OpK.lookup QY rfl rfl rfl rfl rfl rfl rfl rfl (hgm _ (hpc (by omega))) ?_);conv=>whnf)|(apply bD<;>intro _<;>first|omega|conv=>whnf)|(apply bN<;>intro _<;>conv=>whnf))
 all_goals first
  | (have e3:=FC (p:=fun it:Item=>decide (it.s.kind=4) && !WF it.s.name (BH p it.s.proc) it.s.args []) hk (by simp[*])
     rw[<-h6,e3];exact QM rfl rfl)
  |exact⟨k+1,⟨by omega,by rw[<-h6,LW (p:=fun it:Item=>decide (it.s.kind=4) && !WF it.s.name (BH p it.s.proc) it.s.args []) hk (by simp[*])]⟩,by omega,Le.of_eq rfl⟩
def ET(p:Pg):Int×Int:=
 if HE p=false then(1,0)else
 if(QI p).1≠0 then QI p else
 if(UY p).1≠0 then UY p else
 if(X7 p).1≠0 then X7 p else PM p
theorem Rs(p:Pg)(hf:Fit p):SpecP prog 46 [.agg p.cells] (fun r=>r=U8 (ET p).1 (ET p).2):=by
 refine sB D1 func46 rfl call46 ?_;conv=>whnf
 repeat' (first|((first|refine cP (Kg _) ?_|refine cP (YD p hf) ?_|refine cP (Zu p hf) ?_|refine cP (Ms p hf) ?_|refine cP (Dg p hf) ?_|refine q3l rfl ?_);conv=>whnf)|(apply bD<;>intro _<;>first|omega|conv=>whnf)|(apply bN<;>intro _<;>conv=>whnf))
 all_goals exact QM (by unfold ET;simp[*]) (by unfold ET;simp[*])
def XX(p:Pg):Bool:=decide ((ET p).1=0)
theorem Zk(p:Pg)(hf:Fit p):SpecP prog 12 [.agg p.cells] (fun r=>r=.bool (XX p)):=by
 refine sB D2 func12 rfl call12 ?_;conv=>whnf
 repeat' (refine cP (Rs p hf) ?_;conv=>whnf)
 exact RetK.bool rfl
def ZV(x:Int):Int:=if x = -1 then 9223372036854775807 else x
theorem RH(x:Int):SpecP prog 104 [.int .i64 x] (fun r=>r=.int .i64 (ZV x)):=by
 refine sB D3 func104 rfl call104 ?_;conv=>whnf
 repeat' (apply bD<;>intro _<;>first|omega|conv=>whnf)
 all_goals exact RetK.int (by unfold ZV;simp[*])
theorem Vk(x:Int):SpecP prog 161 [.int .i64 x] (fun r=>r=.bool false):=by
 refine sB Qs func161 rfl call161 ?_;conv=>whnf
 skip
 exact RetK.bool (by simp)
def P6(x y:Int):Int:=if x<y then -1 else if y<x then 1 else 0
theorem X2(x y:Int):SpecP prog 103 [.int .i64 x,.int .i64 y] (fun r=>r=.int .i64 (P6 x y)):=by
 refine sB PW func103 rfl call103 ?_;conv=>whnf
 repeat' (first|(refine cP (Vk _) ?_;conv=>whnf)|(apply bD<;>intro _<;>first|omega|conv=>whnf)|(apply bB<;>intro _<;>conv=>whnf))
 all_goals first
  |contradiction
  |exact RetK.int (by unfold P6;simp[*])
  |exact RetK.int (by unfold P6;rw[if_neg (by assumption),if_pos (by omega)])
  |exact RetK.int (by unfold P6;rw[if_neg (by assumption),if_neg (by omega)])
def orI:List Int->Int
 |[]=>0
 |a::r=>if a=0 then orI r else a
theorem Db(l:List Int):SpecP prog 102 [XU l] (fun r=>r=.int .i64 (orI l)):=by
 refine sB Yk func102 rfl call102 ?_;conv=>whnf
 repeat' (refine iM fun _=>?_;conv=>whnf)
 have hl:(l.map (AV.int .i64)).length=l.length:=q3f _;refine LoopK.inv QY (fun j:Nat=>⟨[(3,.p (.int .i64 0)),(6,.p (XU l)),(7,.p (.int .i64 (l.map (AV.int .i64)).length)),(8,.p (.int .i64 j))],[]⟩) (fun j=>j<=l.length/\orI (l.drop j)=orI l) (fun j=>l.length-j) 0 (Le.of_eq rfl) ⟨q3o _,rfl⟩ ?_;rintro j ⟨h2,h3⟩;rcases q4w j l.length with hj|hj
 ·rw[q4a hj,orI]at h3;conv=>whnf
  repeat' (first|((first|(refine iA fun _=>?_)|refine wI ?_);conv=>whnf)|(apply bD<;>intro _<;>first|omega|conv=>whnf)|(apply bE<;>intro _<;>first|omega|conv=>whnf))
  all_goals first
   |exact RetK.int (by rw[<-h3,if_neg (by assumption)])
   |exact⟨j+1,⟨by omega,by rw[<-h3,if_pos (by assumption)]⟩,by omega,Le.of_eq rfl⟩
   |exact⟨j+1,⟨by omega,by rw[<-h3,if_pos (by simp_all)]⟩,by omega,Le.of_eq rfl⟩
 ·rw[q4j hj,orI]at h3;conv=>whnf
  repeat' (apply bD<;>intro _<;>first|omega|conv=>whnf)
  exact RetK.int h3
def NV(l:List S)(o:Int):Int:=match l with
 |[]=>o
 |t::_=>t.id
theorem RF(l:List S)(o:Int):SpecP prog 223 [.sl (l.map fun t=>.agg t.cells),.int .i64 o] (fun r=>r=.int .i64 (NV l o)):=by
 refine sB D5 func223 rfl call223 ?_;conv=>whnf
 repeat' (first|(refine iM fun _=>?_;conv=>whnf)|(apply bD<;>intro _<;>first|omega|conv=>whnf))
 ·cases l with
  |nil=>simp at*
  | cons t r=>
    refine IdxK.at (k:=0) rfl rfl rfl ?_;exact RetK.int rfl
 ·cases l with
  |nil=>exact RetK.int rfl
  |cons t r=>simp at*
def ZJ(a b:Step):Bool:=decide (a.src=b.src)&&decide (a.dst=b.dst)
theorem Zl(a b:Step):SpecP prog 195 [.agg a.cells,.agg b.cells] (fun r=>r=.bool (ZJ a b)):=by
 refine sB Yh func195 rfl call195 ?_;conv=>whnf
 repeat' (apply bD<;>intro _<;>first|omega|conv=>whnf)
 all_goals first
  |exact RetK.bool (show(a.dst==b.dst)=ZJ a b by unfold ZJ;simp[*];rfl)
  |exact RetK.ff (by unfold ZJ;simp[*])
def Bh(a b:Step):Int:=orI [P6 (ZV a.src) (ZV b.src),P6 (ZV a.dst) (ZV b.dst),P6 a.kind b.kind]
theorem Dt(a b:Step):SpecP prog 193 [.agg a.cells,.agg b.cells] (fun r=>r=.int .i64 (Bh a b)):=by
 refine sB Yg func193 rfl call193 ?_;conv=>whnf
 repeat' ((first|refine cP (RH _) ?_|refine cP (X2 _ _) ?_|refine cP (Db [P6 (ZV a.src) (ZV b.src),P6 (ZV a.dst) (ZV b.dst),P6 a.kind b.kind]) ?_|refine dA ?_|refine q3l rfl ?_|refine aD ?_|refine JB rfl rfl ?_);conv=>whnf)
 exact RetK.int rfl
end Go.Ab
