/- The library's contracts at this seat's program, in plain words (printed by the kit's lay-plain.mjs). Conditions: none. -/
import Derived.Shelf.Sort.Plain
import Derived.Shelf.Slices.In.SortNone
import Derived.Shelf.Slices.CompactS
import Derived.Ground.Names2Prog
import Derived.Shelf.Slices.SearchI
import Derived.Shelf.Slices.Empties
import Derived.Shelf.Spec.SlicesInsert
import Derived.Shelf.Spec.SlicesInsertGrow
import Derived.Test.YtmfnbgbblkhneaaGreatProg
import Derived.Test.YtmfnbgbblkhneaaGreatRchL6
import Derived.Test.YtmfnbgbblkhneaaGreatRchL7
import Derived.Test.YtmfnbgbblkhneaaGreatRchL10
set_option linter.unusedSimpArgs false
set_option linter.unusedVariables false
set_option maxRecDepth 100000
set_option maxHeartbeats 16000000
open List (filter_cons findIdx?_cons)
namespace Go.Proofs
open Go.Shelf
def Tryz.lays190_ren:Go.Shelf.Ren:=⟨fun|190=>142|125=>160|258=>188|128=>209|129=>210|302=>225|303=>226|304=>227|305=>228|306=>229|307=>230|308=>199|309=>231|310=>232|333=>253|329=>242|330=>243|334=>254|335=>255|336=>162|344=>276|n=>n,fun|31=>22|9=>9|3=>3|46=>216|0=>0|51=>253|53=>255|4=>4|183=>247|182=>246|131=>181|5=>5|218=>274|222=>278|228=>293|229=>60|n=>n,fun|n=>n⟩
theorem Zl:Go.Proofs.Lays.n190 Tryz.prog Tryz.lays190_ren:={
 mixed:=by kernel_rfl
 f125:=Tryz.func160.trans (congrArg some (by kernel_rfl))
 f128:=Tryz.func209.trans (congrArg some (by kernel_rfl))
 f129:=Tryz.func210.trans (congrArg some (by kernel_rfl))
 f190:=Tryz.func142.trans (congrArg some (by kernel_rfl))
 f258:=Tryz.func188.trans (congrArg some (by kernel_rfl))
 f302:=Tryz.func225.trans (congrArg some (by kernel_rfl))
 f303:=Tryz.func226.trans (congrArg some (by kernel_rfl))
 f304:=Tryz.func227.trans (congrArg some (by kernel_rfl))
 f305:=Tryz.func228.trans (congrArg some (by kernel_rfl))
 f306:=Tryz.func229.trans (congrArg some (by kernel_rfl))
 f307:=Tryz.func230.trans (congrArg some (by kernel_rfl))
 f308:=Tryz.func199.trans (congrArg some (by kernel_rfl))
 f309:=Tryz.func231.trans (congrArg some (by kernel_rfl))
 f310:=Tryz.func232.trans (congrArg some (by kernel_rfl))
 f329:=Tryz.func242.trans (congrArg some (by kernel_rfl))
 f330:=Tryz.func243.trans (congrArg some (by kernel_rfl))
 f333:=Tryz.func253.trans (congrArg some (by kernel_rfl))
 f334:=Tryz.func254.trans (congrArg some (by kernel_rfl))
 f335:=Tryz.func255.trans (congrArg some (by kernel_rfl))
 f336:=Tryz.func162.trans (congrArg some (by kernel_rfl))
 f344:=Tryz.func276.trans (congrArg some (by kernel_rfl))
 t0:=Tryz.underlying0
 a0:=Tryz.isAgg0
 z0:=Tryz.sizeOf0
 v0:=Tryz.zeroValue0
 t3:=Tryz.underlying3
 a3:=Tryz.isAgg3
 z3:=Tryz.sizeOf3
 v3:=Tryz.zeroValue3
 t4:=Tryz.underlying4
 a4:=Tryz.isAgg4
 z4:=Tryz.sizeOf4
 v4:=Tryz.zeroValue4
 t5:=Tryz.underlying5
 a5:=Tryz.isAgg5
 z5:=Tryz.sizeOf5
 v5:=Tryz.zeroValue5
 t9:=Tryz.underlying9
 a9:=Tryz.isAgg9
 z9:=Tryz.sizeOf9
 v9:=Tryz.zeroValue9
 t31:=Tryz.underlying22
 a31:=Tryz.isAgg22
 z31:=Tryz.sizeOf22
 v31:=Tryz.zeroValue22
 t46:=Tryz.underlying216
 a46:=Tryz.isAgg216
 z46:=Tryz.sizeOf216
 v46:=Tryz.zeroValue216
 t51:=Tryz.underlying253
 a51:=Tryz.isAgg253
 z51:=Tryz.sizeOf253
 v51:=Tryz.zeroValue253
 t53:=Tryz.underlying255
 a53:=Tryz.isAgg255
 z53:=Tryz.sizeOf255
 v53:=Tryz.zeroValue255
 t131:=Tryz.underlying181
 a131:=Tryz.isAgg181
 z131:=Tryz.sizeOf181
 v131:=Tryz.zeroValue181
 t182:=Tryz.underlying246
 a182:=Tryz.isAgg246
 z182:=Tryz.sizeOf246
 v182:=Tryz.zeroValue246
 t183:=Tryz.underlying247
 a183:=Tryz.isAgg247
 z183:=Tryz.sizeOf247
 v183:=Tryz.zeroValue247
 t218:=Tryz.underlying274
 a218:=Tryz.isAgg274
 z218:=Tryz.sizeOf274
 v218:=Tryz.zeroValue274
 t222:=Tryz.underlying278
 a222:=Tryz.isAgg278
 z222:=Tryz.sizeOf278
 v222:=Tryz.zeroValue278
 t228:=Tryz.underlying293
 a228:=Tryz.isAgg293
 z228:=Tryz.sizeOf293
 v228:=Tryz.zeroValue293
 t229:=Tryz.underlying60
 a229:=Tryz.isAgg60
 z229:=Tryz.sizeOf60
 v229:=Tryz.zeroValue60}
def Tryz.lays194_ren:Go.Shelf.Ren:=⟨fun|194=>143|n=>n,fun|31=>22|9=>9|3=>3|4=>4|0=>0|n=>n,fun|n=>n⟩
theorem Zr:Go.Proofs.Lays.n194 Tryz.prog Tryz.lays194_ren:={
 mixed:=by kernel_rfl
 f194:=Tryz.func143.trans (congrArg some (by kernel_rfl))
 t0:=Tryz.underlying0
 a0:=Tryz.isAgg0
 z0:=Tryz.sizeOf0
 v0:=Tryz.zeroValue0
 t3:=Tryz.underlying3
 a3:=Tryz.isAgg3
 z3:=Tryz.sizeOf3
 v3:=Tryz.zeroValue3
 t4:=Tryz.underlying4
 a4:=Tryz.isAgg4
 z4:=Tryz.sizeOf4
 v4:=Tryz.zeroValue4
 t9:=Tryz.underlying9
 a9:=Tryz.isAgg9
 z9:=Tryz.sizeOf9
 v9:=Tryz.zeroValue9
 t31:=Tryz.underlying22
 a31:=Tryz.isAgg22
 z31:=Tryz.sizeOf22
 v31:=Tryz.zeroValue22}
def Tryz.laysB_ren:Go.Shelf.Ren:=⟨fun|25=>251|31=>272|32=>273|37=>161|n=>n,fun|22=>29|3=>3|4=>4|40=>216|0=>0|n=>n,fun|n=>n⟩
theorem K5:Go.Proofs.Lays2.n25 Tryz.prog Tryz.laysB_ren:={
 mixed:=by kernel_rfl
 f25:=Tryz.func251.trans (congrArg some (by kernel_rfl))
 f31:=Tryz.func272.trans (congrArg some (by kernel_rfl))
 f32:=Tryz.func273.trans (congrArg some (by kernel_rfl))
 f37:=Tryz.func161.trans (congrArg some (by kernel_rfl))
 t0:=Tryz.underlying0
 a0:=Tryz.isAgg0
 z0:=Tryz.sizeOf0
 v0:=Tryz.zeroValue0
 t3:=Tryz.underlying3
 a3:=Tryz.isAgg3
 z3:=Tryz.sizeOf3
 v3:=Tryz.zeroValue3
 t4:=Tryz.underlying4
 a4:=Tryz.isAgg4
 z4:=Tryz.sizeOf4
 v4:=Tryz.zeroValue4
 t22:=Tryz.underlying29
 a22:=Tryz.isAgg29
 z22:=Tryz.sizeOf29
 v22:=Tryz.zeroValue29
 t40:=Tryz.underlying216
 a40:=Tryz.isAgg216
 z40:=Tryz.sizeOf216
 v40:=Tryz.zeroValue216}
def Tryz.laysI_ren:Go.Shelf.Ren:=⟨fun|21=>252|27=>274|28=>275|35=>280|39=>282|n=>n,fun|22=>29|3=>3|4=>4|0=>0|n=>n,fun|n=>n⟩
theorem GU:Go.Proofs.Lays2.n21 Tryz.prog Tryz.laysI_ren:={
 mixed:=by kernel_rfl
 f21:=Tryz.func252.trans (congrArg some (by kernel_rfl))
 f27:=Tryz.func274.trans (congrArg some (by kernel_rfl))
 f28:=Tryz.func275.trans (congrArg some (by kernel_rfl))
 f35:=Tryz.func280.trans (congrArg some (by kernel_rfl))
 f39:=Tryz.func282.trans (congrArg some (by kernel_rfl))
 t0:=Tryz.underlying0
 a0:=Tryz.isAgg0
 z0:=Tryz.sizeOf0
 v0:=Tryz.zeroValue0
 t3:=Tryz.underlying3
 a3:=Tryz.isAgg3
 z3:=Tryz.sizeOf3
 v3:=Tryz.zeroValue3
 t4:=Tryz.underlying4
 a4:=Tryz.isAgg4
 z4:=Tryz.sizeOf4
 v4:=Tryz.zeroValue4
 t22:=Tryz.underlying29
 a22:=Tryz.isAgg29
 z22:=Tryz.sizeOf29
 v22:=Tryz.zeroValue29
 i3:=by kernel_rfl}
end Go.Proofs
namespace Go.Ab
open Go.Proofs.Tryz
open Go.Proofs Go.Sort
variable {α:Type}{b clock j k:Nat}{e:TypeId}{es:Array MapEntry}{l:List Str}{p:Pg}{s:Str}{v:Value}{vs:Array Value}{w:World}{β:Lab}{σ:Mem}
theorem Vf{c c':Chunk}{w':World}{i:BInfo}(h:HRel σ β [(k,c)] w)(hi:β k=some i)(hf:Frm (fun b=>b=i.blk) w w')(hnew:c'.holds σ β w' k):HRel σ β [(k,c')] w'/\Later σ β [(k,c)] w σ β [(k,c')] w':=by
 have hap:=h.apart k (by simp) i hi;refine⟨⟨fun b cs hb=>?_,fun j d hj=>?_,by simp,fun j hj i' hi' b hb=>?_,fun j hj j' hj' _ _ _ _ _ _ _=>?_⟩,Mem.le_refl σ,⟨hf.os,hf.tape,hf.output,hf.drawn,hf.size,fun b hb hn=>hf.block b hb fun he=>hn ⟨k,by simp,i,hi,.inl he.symm⟩⟩,
  fun b h0 h1=>absurd h0 h1,fun b ⟨j,hj,i',hi',hb⟩=>.inl ⟨j,by simpa using hj,i',hi',hb⟩,fun _ _ _=>rfl⟩
 ·obtain⟨e,fr,hh⟩:=h.mem b cs hb;exact⟨e,fr,(hf.block b (x3r.1 hh).1 fun he=>by rw[he,(hap _ i.has_blk).1]at hb;cases hb).trans hh⟩
 ·simp at hj;obtain⟨rfl,rfl⟩:=hj;exact hnew
 ·simp at hj;subst hj;rw[hi]at hi';cases hi';exact⟨(hap b hb).1,x6a (hap b hb).2 hf.size⟩
 ·simp at hj hj';rw[hj,hj']
theorem VJ(h:w.heap[b]?=some (.cells vs e (0,0)))(o:Nat):w.frozen? ⟨b,o,none⟩=false:=by
 simp[World.frozen?,h]
theorem KW(h:w.heap[b]?=some (.cells vs e (0,0)))(o:Nat):w.cell? ⟨b,o,none⟩=vs[o]?:=by
 simp[World.cell?,h]
theorem PQ[Inhabited α]{enc:α->Value}{n:Nat}{d:Array α}{os:Array Obj}(h:w.heap[b]?=some (.cells vs e (0,0)))(hlt:b<w.heap.size):
  Frm (fun x=>x=b) w (grow (putRow enc (Sort.ahead w n) b 0 d) os)/\(grow (putRow enc (Sort.ahead w n) b 0 d) os).heap[b]?=some (.cells (putCells enc 0 d vs) e (0,0)):=by
 have hh:(grow (putRow enc (Sort.ahead w n) b 0 d) os).heap=w.heap.modify b (onCells (putCells enc 0 d))++os:=rfl;refine⟨⟨rfl,rfl,rfl,Nat.le_add_right _ _,?_,fun k hk hn=>?_⟩,?_⟩
 ·rw[hh];simp
 ·rw[hh,x7w (by simpa using hk),x7z,if_neg (x6o hn)]
 ·rw[hh,x7w (by simpa using hlt),x7z,if_pos rfl,h];rfl
theorem KH[Inhabited α]{enc:α->Value}{d:Array α}(hs:d.size<=vs.size)(hk:k<d.size):(putCells enc 0 d vs)[k]?=some (enc d[k]):=by
 unfold putCells;have hk':k<vs.size:=by omega
 simp[hk',hk]
theorem TX(h:∀(m:Nat)(x:AV),(l.map AV.str)[m]?=some x->x.cells.length=1/\∀(j:Nat)(c:AV),x.cells[j]?=some c->∃u:Value,vs[m*1+j]?=some u/\Rep σ c u)(hj:j<l.length):
  vs[j]?=some (encStr l[j])/\l[j].length<=maxLen:=by
 obtain⟨u,h1,h2⟩:=(h j (.str l[j]) (by simp[hj])).2 0 (.str l[j]) rfl;cases h2 with
 |str _ h3=>exact⟨by simpa using h1,h3⟩
theorem TZ(h:∀j (hj:j<l.length),vs[j]?=some (encStr l[j]))(hl:∀s∈l,s.length<=maxLen):∀(m:Nat)(x:AV),(l.map AV.str)[m]?=some x->x.cells.length=1/\∀(j:Nat)(c:AV),x.cells[j]?=some c->∃u:Value,vs[m*1+j]?=some u/\Rep σ c u:=by
 intro m x hx;rw[x2e]at hx;cases hq:l[m]?with
 |none=>rw[hq]at hx;cases hx
 | some s=>
   rw[hq]at hx;cases hx;obtain⟨hm,rfl⟩:=x2o.1 hq;refine⟨rfl,fun j c hj=>?_⟩;have hj0:j=0:=by
    have:=(x2o.1 hj).1;simpa[AV.cells]using this
   subst hj0;simp only[AV.cells,x8n,x6r]at hj;subst hj;exact⟨_,by simpa using h m hm,.str _ (hl _ (x3w hm))⟩
theorem q7l{vals:Array Value}{l:LV}(h:vals.size=[l].length):∃v,vals=#[v]:=⟨vals[0]'(by simp at h;omega),by apply Array.ext;simpa using h;intro i h1 h2;simp at h2;subst h2;rfl⟩
theorem G8{n:Nat}{i:BInfo}(h:RepL σ β (.hd k 0 n) v)(hi:β k=some i):v=.slice (some ⟨i.blk,0,none⟩) n i.cap:=by
 rcases h.hdI with⟨hk,_⟩|⟨i',o,hk,hl,ho,hv⟩
 ·rw[hi]at hk;cases hk
 ·rw[hi]at hk;cases hk;rcases ho with ho|ho
  ·rw[hv,ho];simp
  ·omega
theorem Nw{n:Nat}(h:RepL σ β (.hd k 0 n) v)(hi:β k=none):v=.slice none 0 0/\n=0:=by
 rcases h.hdI with⟨_,_,hn,hv⟩|⟨i',o,hk,_⟩
 ·exact⟨hv,hn⟩
 ·rw[hi]at hk;cases hk
def JZ(l:List Str):List Str:=l.mergeSort fun x y=>decide (x<=y)
theorem HT(l:List Str)(hlen:l.length<=1000000000):
  SpecH prog 142 [.hd 1000 0 l.length] [(1000,.own 9 1 (l.map .str))] (fun r H=>r=.p (.tup [])/\H=[(1000,.own 9 1 ((JZ l).map .str))]):=by
 refine⟨call142,fun σ β w vals hn hv hH=>?_⟩;obtain⟨v,rfl⟩:=q7l hn;have hv:=hv 0 _ rfl;simp only[x6l,x4q,x7g,Array.getD_eq_getD_getElem?]at hv;have hv:RepL σ β (.hd 1000 0 l.length) v:=by simpa using hv
 have hch:=hH.chunks 1000 _ x2r;have hlenS:(JZ l).length=l.length:=by unfold JZ;simp
 rcases hch with⟨hb0,hes⟩|⟨i,vs,hi,hsz,hh,h2,h3,h4,h5⟩
 ·have hl0:l=[]:=by simpa using hes
  subst hl0;obtain⟨rfl,_⟩:=Nw hv hb0;have hc:=Any.slices_Sort_string_none Zl none 0 w;change Calls prog 142 _ _ _ at hc;refine hc.mono ?_;rintro e w' ⟨rfl,rfl⟩;exact⟨.p (.tup []),.tuple #[],σ,β,_,rfl,⟨rfl,rfl⟩,.p (.tup [] #[] (fun _=>undef) rfl (by simp) (by simp)),by simpa[JZ]using hH,by simpa[JZ]using Later.refl _ _ _ _⟩
 ·have hve:=G8 hv hi;subst hve;have hlt:=(hH.apart 1000 (by simp) i hi i.blk i.has_blk).2;have hle:l.length<=vs.size:=by rw[h2,x9c];simpa using h3
  have hget:=fun j hj=>TX (σ:=σ) (l:=l) h5 (j:=j) hj;have hc:=Any.slices_Sort_string Zl i.blk 0 i.cap l w (fun j hj=>by
   have hj':j<l.length:=by simpa using hj
   refine⟨?_,VJ hh _⟩;rw[KW hh,x5m,(hget j hj').1];simp[hj']) hlt (by omega)
  change Calls prog 142 _ _ _ at hc;refine hc.mono ?_;rintro e w' ⟨rfl,n,os,rfl⟩;obtain⟨hf,hb⟩:=PQ (enc:=encStr) (n:=n) (os:=os) (d:=(JZ l).toArray) hh hlt;obtain⟨hH',hL⟩:=Vf (c':=.own 9 1 ((JZ l).map .str)) hH hi hf (.inr ⟨i,_,hi,hsz,hb,by simpa[putCells]using h2,by simpa[hlenS]using h3,h4,TZ (fun j hj=>by
   have:=KH (enc:=encStr) (d:=(JZ l).toArray) (vs:=vs) (by simp[hlenS];omega) (k:=j) (by simpa using hj);simpa using this) fun s hs=>by
    have:s∈l:=by unfold JZ at hs;simpa using hs
    obtain⟨j,hj,rfl⟩:=x4t.1 this;exact(hget j hj).2⟩)
  exact⟨.p (.tup []),.tuple #[],σ,β,_,rfl,⟨rfl,rfl⟩,.p (.tup [] #[] (fun _=>undef) rfl (by simp) (by simp)),hH',hL⟩
theorem Kk(l:List Str):(Go.Lib.compact l).length<=l.length:=by
 unfold Go.Lib.compact Go.Lib.compactUpTo;rw[x2m];exact x4k (x5y _ _) (by simp)
theorem NP(h:s∈Go.Lib.compact l):s∈l:=by
 unfold Go.Lib.compact Go.Lib.compactUpTo at h;obtain⟨j,hj,rfl⟩:=x3q.1 h;have:=(x4w.1 hj).1;have hlt:j<l.length:=by simpa using this
 simp[hlt]
theorem HM[Inhabited α]{enc:α->Value}{d:Array α}{o:Nat}:(putCells enc o d vs).size=vs.size:=by simp[putCells]
theorem KE(l:List Str)(hlen:l.length<=1000000000):
  SpecH prog 143 [.hd 1000 0 l.length] [(1000,.own 9 1 (l.map .str))] (fun r H=>r=.hd 1000 0 (Go.Lib.compact l).length/\H=[(1000,.own 9 1 ((Go.Lib.compact l).map .str))]):=by
 refine⟨call143,fun σ β w vals hn hv hH=>?_⟩;obtain⟨v,rfl⟩:=q7l hn;have hv:=hv 0 _ rfl;have hv:RepL σ β (.hd 1000 0 l.length) v:=by simpa using hv
 have hch:=hH.chunks 1000 _ x2r;have hcl:=Kk l;rcases hch with⟨hb0,hes⟩|⟨i,vs,hi,hsz,hh,h2,h3,h4,h5⟩
 ·have hl0:l=[]:=by simpa using hes
  subst hl0;obtain⟨rfl,_⟩:=Nw hv hb0;have hc:=Any.slices_Compact_string_empty Zr none 0 w;change Calls prog 143 _ _ _ at hc;refine hc.mono ?_;rintro e w' ⟨rfl,rfl⟩;exact⟨.hd 1000 0 0,.slice none 0 0,σ,β,_,rfl,⟨rfl,rfl⟩,.hdn 1000 hb0,by simpa[Go.Lib.compact,Go.Lib.compactUpTo]using hH,by simpa[Go.Lib.compact,Go.Lib.compactUpTo]using Later.refl _ _ _ _⟩
 ·have hve:=G8 hv hi;subst hve;have hlt:=(hH.apart 1000 (by simp) i hi i.blk i.has_blk).2;have hle:l.length<=vs.size:=by rw[h2,x9c];simpa using h3
  have hcap:l.length<=i.cap:=by simpa using h3
  have hget:=fun j hj=>TX (σ:=σ) (l:=l) h5 (j:=j) hj;have hc:=Any.slices_Compact_string Zr i.blk 0 i.cap l w (fun j hj=>by
   have hj':j<l.length:=by simpa using hj
   refine⟨?_,VJ hh _⟩;rw[KW hh,x5m,(hget j hj').1];simp[hj']) (by omega) hcap
  change Calls prog 143 _ _ _ at hc;refine hc.mono ?_;rintro e w' ⟨rfl,q,rfl⟩;obtain⟨hf,hb⟩:=PQ (enc:=encStr) (n:=q) (os:=#[]) (d:=(Go.Lib.compact l++List.replicate (l.length-(Go.Lib.compact l).length) []).toArray) hh hlt;rw[grow_empty]at hf hb;obtain⟨hH',hL⟩:=Vf (c':=.own 9 1 ((Go.Lib.compact l).map .str)) hH hi hf (.inr ⟨i,_,hi,hsz,hb,by rw[HM];exact h2,by simp;omega,h4,TZ (fun j hj=>by
   have:=KH (enc:=encStr) (d:=(Go.Lib.compact l++List.replicate (l.length-(Go.Lib.compact l).length) []).toArray) (vs:=vs) (by simp;omega) (k:=j) (by simp;omega);rw[this];simp[List.getElem_append_left hj]) fun s hs=>by
    obtain⟨j,hj,rfl⟩:=x4t.1 (NP hs);exact(hget j hj).2⟩)
  refine⟨.hd 1000 0 (Go.Lib.compact l).length,_,σ,β,_,rfl,⟨rfl,rfl⟩,?_,hH',hL⟩;have:=x9s (σ:=σ) (β:=β) 1000 0 (Go.Lib.compact l).length i 0 hi (by omega) (.inl (by simp));simpa using this
theorem JI(hs:(QA p).1=0){f:Pr}(hf:f∈p.procs){t:S}(ht:t∈flL f.body):knownB p f (procsN p) t=true:=by
 obtain⟨_,_,h⟩:=KD hs;have h1:=x7v.1 h f hf;unfold WM at h1;cases hb:(ZN (Jd f)||(Jd f).any fun n=>p.globals.any fun s=>n==s)<;>rw[hb]at h1
 ·simp only[x3t,x8i]at h1;have:=x6q.1 h1 t ht;simpa using this
 ·cases h1
theorem Z7(hs:(QA p).1=0){f:Pr}(hf:f∈p.procs){t:S}(ht:t∈flL f.body)(hk:t.kind=4):t.proc∈procsN p/\t.proc≠mainS:=by
 have:=JI hs hf ht;unfold knownB at this;simp only[x3h,x6p,x3i]at this;rcases this.2 with h|h
 ·exact absurd hk h
 ·simp only[x5l,x9r,ne_eq]at h;refine⟨?_,h.1⟩;obtain⟨s,h1,h2⟩:=x4o.1 h.2;have:=eq_of_beq h2;exact this▸h1
def KZ(f:Pr):List Str:=((flL f.body).filter fun t=>decide (t.kind=4)).map S.proc
def GF(f:Pr):List Str:=Go.Lib.compact (JZ (KZ f))
theorem GS:s∈JZ l↔s∈l:=by unfold JZ;simp
theorem UZ(l:List Str):(JZ l).length=l.length:=by unfold JZ;simp
theorem S6(f:Pr):(GF f).length<=cntL f.body:=by
 have:=Kk (JZ (KZ f));rw[UZ]at this;unfold GF;refine x4k this ?_;unfold KZ;rw[x2m,<-Xn];exact x5y _ _
theorem Za(hs:(QA p).1=0){f:Pr}(hf:f∈p.procs)(h:s∈GF f):s∈procsN p:=by
 have h1:=GS.1 (NP h);obtain⟨t,h2,rfl⟩:=x3q.1 h1;obtain⟨h3,h4⟩:=x4w.1 h2;exact(Z7 hs hf h3 (by simpa using h4)).1
theorem Du{n:Str}(h:n∈procsN p):∃(k:Nat) (hk:k<p.procs.length),Xc (fun f=>f.name==n) p.procs=k/\p.procs.find? (fun f=>f.name==n)=some p.procs[k]/\p.procs[k].name=n:=by
 have h':p.procs.any (fun f=>f.name==n)=true:=by
  obtain⟨f,h1,h2⟩:=x3q.1 h;exact x4o.2 ⟨f,h1,by simp[h2]⟩
 obtain⟨k,hk,h1,h2,h3⟩:=RN h';exact⟨k,hk,h1,h3,by simpa using h2⟩
theorem Rh(p:Pg)(n:Str)(k:Nat)(hk:k<p.procs.length)(hi:Xc (fun f=>f.name==n) p.procs=k)(hc:cntP p.procs<=1000):SpecP prog 222 [.ip (sheetOf p).cells,.str n] (fun r=>r=eStrs (GF p.procs[k])):=by
 refine sB Hs func222 rfl call222 ?_;conv=>whnf
 repeat' ((first|(refine iM fun _=>?_)|refine cP (ZO _ _) ?_|(refine CallK.pure (TR p (j:=k) (f:=p.procs[k]'hk) (by simp) hc) (.cons (Sub.refl _) (.cons (Sub.int (by exact hi)) .nil)) ?_;rintro _ rfl));conv=>whnf)
 have hmap:=DD (k:Nat) 0 (-1) 0 (QB p.procs k) p.procs[k].body;have hib:(itL (k:Nat) 0 (-1) 0 (QB p.procs k) p.procs[k].body).length<=1000:=by
  have:=(QJ p).2.2.2.2 k p.procs[k] (by simp);rw[ZT];omega
 generalize hits:itL (k:Nat) 0 (-1) 0 (QB p.procs k) p.procs[k].body=its at hmap hib⊢;have hil:=VV its;have hraw:KZ p.procs[k]=(its.filter fun it=>decide (it.s.kind=4)).map fun it=>it.s.proc:=by
  unfold KZ;rw[<-hmap,List.filter_map,x7p];rfl
 refine LoopK.inv QY (fun i:Nat×List Str=>⟨[(5,.hd 0 0 i.2.length),(12,.p (VS its)),(13,.p (.int .i64 (its.map fun i=>AV.agg i.cells).length)),(14,.p (.int .i64 i.1))],[(0,.own 9 1 (i.2.map .str))]⟩)
  (fun i=>i.1<=its.length/\i.2.length<=i.1/\i.2++((its.drop i.1).filter fun it=>decide (it.s.kind=4)).map (fun it=>it.s.proc)=KZ p.procs[k]) (fun i=>its.length-i.1) (0,[])
  (Le.mk [(0,.own 9 1 [])] (by simp[Chunk.new0];rfl) (by simp) (by simp) (.cons (.nil x2r) (.r (.r (.r .nil)))) (.new x2r .nil))
  ⟨x3z _,x3g _,by rw[hraw];rfl⟩ ?_
 rintro⟨j,acc⟩ ⟨h2,h3,h4⟩;simp only at h2 h3 h4⊢;rcases x3v j its.length with hj|hj
 ·conv=>whnf
  repeat' (first|((first|refine x2t rfl ?_|refine aD ?_|refine bP ?_|(refine iA fun _=>?_)|refine wI ?_|refine QI (by simp) (by simp;omega) ?_);conv=>whnf)|(apply bD<;>intro _<;>first|omega|conv=>whnf))
  ·exact⟨(j+1,acc++[its[j].s.proc]),⟨by simp only;omega,by simp;omega,by simp only;rw[<-h4,QF hj,filter_cons,if_pos (by simp[*])];simp⟩,by simp only;omega,Le.of_eq (by simp only[x2s,x3y];rfl)⟩
  ·exact⟨(j+1,acc),⟨by simp only;omega,by simp only;omega,by simp only;rw[<-h4,QF hj,filter_cons,if_neg (by simp[*])]⟩,by simp only;omega,Le.of_eq rfl⟩
 ·have hacc:acc=KZ p.procs[k]:=by
   rw[x3b hj]at h4;simpa using h4
  conv=>whnf
  repeat' (first|(apply bD<;>intro _<;>first|omega|conv=>whnf)|(refine CallK.heap [(1000,0)] 0 (by repeat' (first|exact x4x|refine x3d ?_ ?_|exact x3n _|exact x3e Sub.nils|exact x3e (Sub.tt rfl)|exact x3e (Sub.ff rfl)|exact x3e (Sub.int (by omega)))) (by refine x3j (j:=0) rfl rfl ?_ ?_;exact CSub.refl _;exact x4z) (HT acc (by omega)) rfl rfl ?_;rintro l' H' ⟨rfl,rfl⟩;conv=>whnf)|(refine CallK.heap [(1000,0)] 0 (x3d (x8z (by rw[UZ];rfl)) x4x) (by refine x3j (j:=0) rfl rfl ?_ ?_;exact CSub.refl _;exact x4z) (KE (JZ acc) (by rw[UZ];omega)) rfl rfl ?_;rintro l' H' ⟨rfl,rfl⟩;conv=>whnf))
  exact⟨_,.hd rfl (by simp),by unfold GF;rw[<-hacc];rfl⟩
def ZE(out:List Str):List Str->List Str
 |[]=>out
 |n::r=>ZE (if(out.any fun s=>n==s)=true then out else out++[n]) r
theorem Vi{out:List Str}(hj:j<l.length):ZE out (l.drop j)=ZE (if(out.any fun s=>l[j]==s)=true then out else out++[l[j]]) (l.drop (j+1)):=by
 rw[QF hj,ZE]
theorem GY{p:Pg}:∀(l:List Str){out:List Str},out.Nodup->(∀s∈out,s∈procsN p)->(∀s∈l,s∈procsN p)->(ZE out l).Nodup/\(∀s∈ZE out l,s∈procsN p)/\∃r,ZE out l=out++r
 |[],out,h1,h2,_=>⟨h1,h2,[],by rw[ZE];simp⟩
 | n::r,out,h1,h2,h3=>by
   rw[ZE];split
   ·exact GY r h1 h2 fun s hs=>h3 s (x2c _ hs)
   ·rename_i hn;have hno:n∉out:=fun hm=>hn (x4o.2 ⟨n,hm,by simp⟩);obtain⟨h4,h5,r',h6⟩:=GY (p:=p) r (out:=out++[n]) (x4l.2 ⟨h1,by simp,fun a ha b hb=>by simp at hb;subst hb;exact fun he=>hno (he▸ha)⟩) (fun s hs=>by
     rcases x3x.1 hs with hs|hs
     ·exact h2 s hs
     ·simp at hs;subst hs;exact h3 _ x2r) fun s hs=>h3 s (x2c _ hs)
    exact⟨h4,h5,n::r',by rw[h6];simp⟩
def UJ(p:Pg)(n:Str):List Str:=match p.procs.find? (fun f=>f.name==n)with
 |some f=>GF f
 |none=>[]
def UK(p:Pg):Nat->Nat->List Str->List Str
 |0,_,out=>out
 | fuel+1,i,out=>match out[i]?with
   |some n=>UK p fuel (i+1) (ZE out (UJ p n))
   |none=>out
def EI(p:Pg)(n:Str):List Str:=JZ (UK p (p.procs.length+1) 0 [n])
theorem HS{α:Type}[BEq α][LawfulBEq α]:∀{l m:List α},l.Nodup->(∀s∈l,s∈m)->l.length<=m.length
 |[],m,_,_=>x3z _
 | a::r,m,h1,h2=>by
   have ha:=h2 a x2r;have:=HS (l:=r) (m:=m.erase a) (x4r.1 h1).2 fun s hs=>(List.mem_erase_of_ne fun he=>(x4r.1 h1).1 (by rw[<-he];exact hs)).2 (h2 s (x2c _ hs));rw[List.length_erase_of_mem ha]at this;have:=x8e ha;simp only[x4q];omega
theorem Cm{n:Str}(hk:k<p.procs.length)(h:p.procs.find? (fun f=>f.name==n)=some p.procs[k]):UJ p n=GF p.procs[k]:=by
 unfold UJ;rw[h]
theorem Ze(hs:(QA p).1=0){n:Str}(h:s∈UJ p n):s∈procsN p:=by
 unfold UJ at h;split at h
 ·rename_i f hf;exact Za hs (x5n hf) h
 ·cases h
theorem EV(p:Pg)(n:Str)(hs:(QA p).1=0)(hn:n∈procsN p):SpecP prog 182 [.ip (sheetOf p).cells,.str n] (fun r=>r=eStrs (EI p n)):=by
 refine sB L8 func182 rfl call182 ?_;conv=>whnf
 obtain⟨hm,hb,hns⟩:=KD hs;obtain⟨hg,hpl,hcn⟩:=VQ hm;have hnl:(procsN p).length=p.procs.length:=by simp[procsN]
 repeat' ((first|refine x2t rfl ?_|refine aD ?_|refine x9b (fun x hx=>by rcases x2a.1 hx with rfl;rfl) rfl ?_);conv=>whnf)
 refine LoopK.inv QY (fun i:Nat×List Str=>⟨[(0,.p (.ip (sheetOf p).cells)),(5,.hd 0 0 i.2.length),(6,.p (.int .i64 i.1))],[(0,.own 9 1 (i.2.map .str))]⟩)
  (fun i=>i.1<=i.2.length/\i.2.Nodup/\(∀s∈i.2,s∈procsN p)/\UK p (p.procs.length+1-i.1) i.1 i.2=UK p (p.procs.length+1) 0 [n]) (fun i=>p.procs.length+1-i.1) (0,[n])
  (Le.of_eq rfl) ⟨x3z _,by simp,by simpa using hn,rfl⟩ ?_
 rintro⟨j,out⟩ ⟨h2,h3,h4,h5⟩;simp only at h2 h3 h4 h5⊢;have hol:=HS h3 h4;rcases x3v j out.length with hj|hj
 ·obtain⟨k,hk,hik,hfk,hnk⟩:=Du (h4 _ (x3w hj));have hcl:=S6 p.procs[k];have hcc:cntL p.procs[k].body<=200:=by
   have:=(QJ p).2.2.2.2 k p.procs[k] (by simp);omega
  conv=>whnf
  repeat' (first|((first|(refine iM fun _=>?_)|refine x2t rfl ?_|refine x4j j rfl hj ?_|refine x5z j 0 (.str out[j]) (by omega) (by simp[hj]) ?_|(refine CallK.pure (Rh p out[j] k hk hik (by omega)) (.cons (Sub.refl _) (.cons (Sub.refl _) .nil)) ?_;rintro _ rfl));conv=>whnf)|(apply bD<;>intro _<;>first|omega|conv=>whnf))
  have hkn:∀s∈GF p.procs[k],s∈procsN p:=fun s h=>Za hs (x3w hk) h;have hcN:=Cm hk hfk;have hre:UK p (p.procs.length+1-j) j out=UK p (p.procs.length+1-(j+1)) (j+1) (ZE out (GF p.procs[k])):=by
   rw[show p.procs.length+1-j=(p.procs.length+1-(j+1))+1 by omega,UK,x2n hj];simp only;rw[hcN]
  rw[hre]at h5;obtain⟨hi1,hi2,rr,hi3⟩:=GY (GF p.procs[k]) h3 h4 hkn;generalize GF p.procs[k]=cs at hkn h5 hi1 hi2 hi3 hcl⊢;have hcsl:(cs.map AV.str).length=cs.length:=x2m _;refine LoopK.inv QY (fun i:Nat×List Str=>⟨[(0,.p (.ip (sheetOf p).cells)),(5,.hd 0 0 i.2.length),(6,.p (.int .i64 j)),(22,.p (eStrs cs)),(23,.p (.int .i64 (cs.map AV.str).length)),(24,.p (.int .i64 i.1))],[(0,.own 9 1 (i.2.map .str))]⟩)
   (fun i=>i.1<=cs.length/\i.2.length<=out.length+i.1/\ZE i.2 (cs.drop i.1)=ZE out cs) (fun i=>cs.length-i.1) (0,out)
   (Le.of_eq rfl) ⟨x3z _,by simp,rfl⟩ ?_
  rintro⟨m,acc⟩ ⟨h6,h7,h8⟩;simp only at h6 h7 h8⊢;rcases x3v m cs.length with hm'|hm'
  ·conv=>whnf
   repeat' (first|((first|refine x2t rfl ?_|refine aD ?_|refine bP ?_|(refine iA fun _=>?_)|refine wI ?_|(refine XB (QW acc (cs[m]'hm')) (.cons (.hd rfl (by simp)) (.cons (.p (Sub.refl _)) .nil)) (by rintro _ rfl;rfl) ?_;rintro _ rfl)|refine QI (by simp) (by simp;omega) ?_);conv=>whnf)|(apply bD<;>intro _<;>first|omega|conv=>whnf)|(apply bN<;>intro _<;>conv=>whnf))
   ·exact⟨(m+1,acc),⟨by simp only;omega,by simp only;omega,by simp only;rw[<-h8,Vi hm',if_pos (by assumption)]⟩,by simp only;omega,Le.of_eq rfl⟩
   ·exact⟨(m+1,acc++[cs[m]]),⟨by simp only;omega,by simp;omega,by simp only;rw[<-h8,Vi hm',if_neg (by simp[*])]⟩,by simp only;omega,Le.of_eq (by simp only[x2s,x3y];rfl)⟩
  ·rw[x3b hm',ZE]at h8;subst h8;have hge:out.length<=(ZE out cs).length:=by rw[hi3];simp
   conv=>whnf
   repeat' (first|(refine wI ?_;conv=>whnf)|(apply bD<;>intro _<;>first|omega|conv=>whnf))
   exact⟨(j+1,ZE out cs),⟨by simp only;omega,hi1,hi2,h5⟩,by simp only;omega,Le.of_eq rfl⟩
 ·have hjo:j=out.length:=by omega
  have hre:UK p (p.procs.length+1-j) j out=out:=by
   rw[show p.procs.length+1-j=(p.procs.length-j)+1 by omega,UK,x4a (by omega)]
  rw[hre]at h5;conv=>whnf
  repeat' (first|(refine iM fun _=>?_;conv=>whnf)|(apply bD<;>intro _<;>first|omega|conv=>whnf)|(refine CallK.heap [(1000,0)] 0 (by repeat' (first|exact x4x|refine x3d ?_ ?_|exact x3n _|exact x3e Sub.nils|exact x3e (Sub.tt rfl)|exact x3e (Sub.ff rfl)|exact x3e (Sub.int (by omega)))) (by refine x3j (j:=0) rfl rfl ?_ ?_;exact CSub.refl _;exact x4z) (HT out (by omega)) rfl rfl ?_;rintro l' H' ⟨rfl,rfl⟩;conv=>whnf))
  exact⟨_,.hd rfl (by simp[UZ]),by unfold EI;rw[<-h5];rfl⟩
mutual
theorem q0r:∀(x:X)(out:List Str),(N2 x out).length<=out.length+wX x
 | .mk op n name kids,out=>by
   rw[N2,wX];have:=CE kids (if op=2/\(out.any fun s=>name==s)=false then out++[name]else out);split at this
   ·rename_i h;rw[if_pos h];simp at this;omega
   ·rename_i h;rw[if_neg h];omega
theorem CE:∀(l:List X)(out:List Str),(DY l out).length<=out.length+wXs l
 |[],out=>by rw[DY];omega
 | x::r,out=>by
   have h1:=q0r x out;have h2:=CE r (N2 x out);rw[DY,wXs];omega
end
theorem Vv(x:X):(XN x).length<=wX x:=by
 unfold XN;have:=q0r x [];cases Aa x<;>simp at this⊢;exact this
theorem Yk:∀l:List Arg,(l.flatMap KG).length<=BW l
 |[]=>by simp
 | a::r=>by
   have h1:=Yk r;have h2:=Vv a.x;simp only[x4n,x2s,BW];have h3:(KG a).length<=1+(XN a.x).length:=by
    unfold KG;cases a.ref<;>simp;omega
   omega
theorem Og(t:S):(ZK t).length<=wS t:=by
 have h1:=Yk t.args;have h2:=Vv t.x;rw[Mn];have h3:(FW t).length<=1+(XN t.x).length:=by
  unfold FW;cases(decide (t.kind≠10) && !(t.name==[]):Bool)<;>simp;omega
 unfold ZK;rw[x2s];omega
theorem Lz{b:Bool}(h:b=true):Sub (.bool b) .tt:=fun _ _ hr=>by subst h;cases hr;exact .tt
theorem Rf(p:Pg)(hf:Fit p)(hs:(QA p).1=0)(n:Str)(hn:n∈procsN p):SpecP prog 181 [.agg p.cells,.str n] (fun r=>r=.tt):=by
 refine sB Hc func181 rfl call181 ?_;conv=>whnf
 repeat' (first|((first|refine cP (JE p hf) ?_|refine cP (WH p.procs 221 (.ip [.str n]) (fun f=>f.name==n) (Di n)) ?_);conv=>whnf)|(apply bD<;>intro _<;>first|omega|conv=>whnf))
 have:p.procs.any (fun f=>f.name==n)=true:=by
  obtain⟨f,h1,h2⟩:=x3q.1 hn;exact x4o.2 ⟨f,h1,by simp[h2]⟩
 exact⟨_,.p (Lz this),rfl⟩
def Sv(p:Pg)(t:S):List Str:=(ZK t).filter fun v=>p.globals.any fun s=>v==s
def Ue(p:Pg)(n:Str):List Str:=match p.procs.find? (fun f=>f.name==n)with
 |some f=>(flL f.body).flatMap (Sv p)
 |none=>[]
def DJ(p:Pg)(n:Str):List Str:=(EI p n).flatMap (Ue p)
def HJ(p:Pg)(n:Str):List Str:=Go.Lib.compact (JZ (DJ p n))
theorem Gr{p:Pg}(hs:(QA p).1=0):∀(fuel i:Nat)(out:List Str),out.Nodup->(∀s∈out,s∈procsN p)->(UK p fuel i out).Nodup/\∀s∈UK p fuel i out,s∈procsN p
 |0,i,out,h1,h2=>by rw[UK];exact⟨h1,h2⟩
 | fuel+1,i,out,h1,h2=>by
   rw[UK];split
   ·obtain⟨h3,h4,_⟩:=GY (UJ p _) h1 h2 fun s h=>Ze hs h;exact Gr hs fuel (i+1) _ h3 h4
   ·exact⟨h1,h2⟩
theorem Iy(hs:(QA p).1=0){n:Str}(hn:n∈procsN p):(EI p n).length<=p.procs.length/\∀s∈EI p n,s∈procsN p:=by
 obtain⟨h1,h2⟩:=Gr hs (p.procs.length+1) 0 [n] (by simp) (by simpa using hn);unfold EI;rw[UZ];refine⟨?_,fun s h=>h2 s (GS.1 h)⟩;have:=HS h1 h2;simpa[procsN]using this
theorem KY{β:Type}{f:α->List β}{l:List α}(hj:j<l.length):(l.drop j).flatMap f=f l[j]++(l.drop (j+1)).flatMap f:=by
 rw[QF hj,x4n]
theorem De(p:Pg)(hf:Fit p)(hs:(QA p).1=0)(n:Str)(hn:n∈procsN p):SpecP prog 137 [.agg p.cells,.str n] (fun r=>r=eStrs (HJ p n)):=by
 refine sB Vr func137 rfl call137 ?_;conv=>whnf
 obtain⟨hm,hb,hns⟩:=KD hs;obtain⟨hg,hpl,hcn⟩:=VQ hm;repeat' ((first|(refine iM fun _=>?_)|refine cP (Rf p hf hs n hn) ?_|refine cP (EV p n hs hn) ?_|(refine CallK.pure (BM p (by omega) (by omega)) (.cons (Sub.refl _) .nil) ?_;rintro _ rfl));conv=>whnf)
 obtain⟨hal,hak⟩:=Iy hs hn;have hgl:HJ p n=Go.Lib.compact (JZ (DJ p n)):=rfl;have hgr:DJ p n=(EI p n).flatMap (Ue p):=rfl;rw[hgl];generalize EI p n=ns at hal hak hgr⊢;have hnl:(ns.map AV.str).length=ns.length:=x2m _;refine LoopK.inv QY (fun i:Nat×List Str=>⟨[(2,.p (.ip p.cells)),(5,.p (.ip (sheetOf p).cells)),(6,.hd 0 0 i.2.length),(21,.p (eStrs ns)),(22,.p (.int .i64 (ns.map AV.str).length)),(23,.p (.int .i64 i.1))],[(0,.own 9 1 (i.2.map .str))]⟩)
  (fun i=>i.1<=ns.length/\i.2.length<=4000000*i.1/\i.2++(ns.drop i.1).flatMap (Ue p)=DJ p n) (fun i=>ns.length-i.1) (0,[])
  (Le.mk [(0,.own 9 1 [])] (by simp[Chunk.new0];rfl) (by simp) (by simp) (.r (.r (.cons (.nil x2r) (.r (.r (.r .nil)))))) (.new x2r .nil))
  ⟨x3z _,by simp,by rw[hgr];rfl⟩ ?_
 rintro⟨j,acc⟩ ⟨h2,h3,h4⟩;simp only at h2 h3 h4⊢;rcases x3v j ns.length with hj|hj;rotate_left 1
 ·have hacc:acc=DJ p n:=by
   rw[x3b hj]at h4;simpa using h4
  rw[<-hacc];conv=>whnf
  repeat' (first|(apply bD<;>intro _<;>first|omega|conv=>whnf)|(refine CallK.heap [(1000,0)] 0 (by repeat' (first|exact x4x|refine x3d ?_ ?_|exact x3n _|exact x3e Sub.nils|exact x3e (Sub.tt rfl)|exact x3e (Sub.ff rfl)|exact x3e (Sub.int (by omega)))) (by refine x3j (j:=0) rfl rfl ?_ ?_;exact CSub.refl _;exact x4z) (HT acc (by omega)) rfl rfl ?_;rintro l' H' ⟨rfl,rfl⟩;conv=>whnf)|(refine CallK.heap [(1000,0)] 0 (x3d (x8z (by rw[UZ];rfl)) x4x) (by refine x3j (j:=0) rfl rfl ?_ ?_;exact CSub.refl _;exact x4z) (KE (JZ acc) (by rw[UZ];omega)) rfl rfl ?_;rintro l' H' ⟨rfl,rfl⟩;conv=>whnf))
  exact⟨_,.hd rfl (by simp),rfl⟩
 obtain⟨k,hk,hik,hfk,hnk⟩:=Du (hak _ (x3w hj));have hgn:Ue p ns[j]=(flL p.procs[k].body).flatMap (Sv p):=by unfold Ue;rw[hfk]
 rw[KY hj,hgn]at h4;have hfp:=hf.pr (x3w hk);have hpk:p.procs[k]?=some p.procs[k]:=by simp
 conv=>whnf
 repeat' (first|((first|(refine iM fun _=>?_)|refine cP (ZO _ _) ?_|(refine iA fun _=>?_)|(refine CallK.pure (TR p (j:=k) (f:=p.procs[k]'hk) hpk (by omega)) (.cons (Sub.refl _) (.cons (Sub.int (by exact hik)) .nil)) ?_;rintro _ rfl));conv=>whnf)|(apply bD<;>intro _<;>first|omega|conv=>whnf))
 have hmap:=DD (k:Nat) 0 (-1) 0 (QB p.procs k) p.procs[k].body;have hargs:∀m (hm:m<(itL (k:Nat) 0 (-1) 0 (QB p.procs k) p.procs[k].body).length),wS (itL (k:Nat) 0 (-1) 0 (QB p.procs k) p.procs[k].body)[m].s<=20000:=fun m hm=>by
  have hmm:(itL (k:Nat) 0 (-1) 0 (QB p.procs k) p.procs[k].body)[m].s∈flL p.procs[k].body:=by
   rw[<-hmap];exact x3q.2 ⟨_,x3w hm,rfl⟩
  have:=Pp _ _ hmm;unfold wPr at hfp;omega
 have hib:(itL (k:Nat) 0 (-1) 0 (QB p.procs k) p.procs[k].body).length<=200:=by
  have:=(QJ p).2.2.2.2 k p.procs[k] hpk;rw[ZT];omega
 rw[<-hmap]at h4;generalize hits:itL (k:Nat) 0 (-1) 0 (QB p.procs k) p.procs[k].body=its at hargs hib h4⊢;have hil:=VV its;refine LoopK.inv QY (fun i:Nat×List Str=>⟨[(2,.p (.ip p.cells)),(5,.p (.ip (sheetOf p).cells)),(6,.hd 0 0 i.2.length),(21,.p (eStrs ns)),(22,.p (.int .i64 (ns.map AV.str).length)),(23,.p (.int .i64 j)),(31,.p (VS its)),(32,.p (.int .i64 (its.map fun i=>AV.agg i.cells).length)),(33,.p (.int .i64 i.1))],[(0,.own 9 1 (i.2.map .str))]⟩)
  (fun i=>i.1<=its.length/\i.2.length<=acc.length+20000*i.1/\i.2++(((its.drop i.1).map Item.s).flatMap (Sv p)++(ns.drop (j+1)).flatMap (Ue p))=DJ p n) (fun i=>its.length-i.1) (0,acc)
  (Le.of_eq rfl) ⟨x3z _,by simp,h4⟩ ?_
 rintro⟨m,acc2⟩ ⟨h6,h7,h8⟩;simp only at h6 h7 h8⊢;rcases x3v m its.length with hm'|hm';rotate_left 1
 ·rw[x3b hm']at h8;conv=>whnf
  repeat' (first|(refine wI ?_;conv=>whnf)|(apply bD<;>intro _<;>first|omega|conv=>whnf))
  exact⟨(j+1,acc2),⟨by simp only;omega,by simp only;omega,by simpa using h8⟩,by simp only;omega,Le.of_eq rfl⟩
 have hw:=hargs m hm';have hna:its[m].s.args.length<=20000:=by
  have:=Mn its[m].s;have:=BV its[m].s.args;omega
 have hnw:=Og its[m].s;rw[x4v hm',x3l,x4n,x3s]at h8;have hgt:Sv p its[m].s=(ZK its[m].s).filter fun v=>p.globals.any fun s=>v==s:=rfl;conv=>whnf
 repeat' (first|((first|(refine iM fun _=>?_)|refine cP (Kn _ hna) ?_|refine x2t rfl ?_|(refine iA fun _=>?_));conv=>whnf)|(apply bD<;>intro _<;>first|omega|conv=>whnf))
 rw[hgt]at h8;generalize ZK its[m].s=vs at hnw h8⊢;have hvl:(vs.map AV.str).length=vs.length:=x2m _;refine LoopK.inv QY (fun i:Nat×List Str=>⟨[(2,.p (.ip p.cells)),(5,.p (.ip (sheetOf p).cells)),(6,.hd 0 0 i.2.length),(21,.p (eStrs ns)),(22,.p (.int .i64 (ns.map AV.str).length)),(23,.p (.int .i64 j)),(31,.p (VS its)),(32,.p (.int .i64 (its.map fun i=>AV.agg i.cells).length)),(33,.p (.int .i64 m)),(39,.p (eStrs vs)),(40,.p (.int .i64 (vs.map AV.str).length)),(41,.p (.int .i64 i.1))],[(0,.own 9 1 (i.2.map .str))]⟩)
  (fun i=>i.1<=vs.length/\i.2.length<=acc2.length+i.1/\i.2++((vs.drop i.1).filter (fun v=>p.globals.any fun s=>v==s)++(((its.drop (m+1)).map Item.s).flatMap (Sv p)++(ns.drop (j+1)).flatMap (Ue p)))=DJ p n) (fun i=>vs.length-i.1) (0,acc2)
  (Le.of_eq rfl) ⟨x3z _,by simp,h8⟩ ?_
 rintro⟨q,acc3⟩ ⟨h9,h10,h11⟩;simp only at h9 h10 h11⊢;rcases x3v q vs.length with hq|hq
 ·rw[x4v hq,filter_cons]at h11;conv=>whnf
  repeat' (first|((first|refine cP (QW _ _) ?_|refine x2t rfl ?_|refine aD ?_|refine bP ?_|(refine iA fun _=>?_)|refine wI ?_|refine QI (by simp) (by simp;omega) ?_);conv=>whnf)|(apply bD<;>intro _<;>first|omega|conv=>whnf)|(apply bB<;>intro _<;>conv=>whnf))
  ·exact⟨(q+1,acc3++[vs[q]]),⟨by simp only;omega,by simp;omega,by rw[if_pos (by assumption)]at h11;simpa using h11⟩,by simp only;omega,Le.of_eq (by simp only[x2s,x3y];rfl)⟩
  ·exact⟨(q+1,acc3),⟨by simp only;omega,by simp only;omega,by rw[if_neg (by simp[*])]at h11;exact h11⟩,by simp only;omega,Le.of_eq rfl⟩
 ·rw[x3b hq]at h11;conv=>whnf
  repeat' (first|(refine wI ?_;conv=>whnf)|(apply bD<;>intro _<;>first|omega|conv=>whnf))
  exact⟨(m+1,acc3),⟨by simp only;omega,by simp only;omega,by simpa using h11⟩,by simp only;omega,Le.of_eq rfl⟩
section
variable {P:Program}{T:Tab}{N:Nat}
def YM(s:List UInt8):Value:=.string ⟨s.toArray⟩
def I1(l:List (List UInt8×AV)):XC:=.map (l.map fun x=>(YM x.1,x.2))
def PT{α:Type}(l:List (List UInt8×α))(k:List UInt8)(v:α):List (List UInt8×α):=
 match l with
 |[]=>[(k,v)]
 |x::r=>if k=x.1 then(x.1,v)::r else x::PT r k v
def Mt{α:Type}(l:List (List UInt8×α))(k:List UInt8):Option α:=(l.find? fun x=>decide (k=x.1)).map (·.2)
theorem U6(h:Zc es clock){e:MapEntry}(he:e.born=clock):Zc (es.push e) (clock+1):=by
 refine⟨?_,fun x hx=>?_⟩
 ·rw[Array.toList_push,x3y,x4l];refine⟨h.1,by simp,fun a ha b hb=>?_⟩;obtain⟨x,hx,rfl⟩:=x3q.1 ha;have:=h.2 x hx;simp only[x3l,x9u,x2a]at hb;omega
 ·rw[Array.toList_push]at hx;rcases x3x.1 hx with hx|hx
  ·have:=h.2 x hx;omega
  ·rw[x2a.1 hx,he];omega
theorem Gj{α β:Type}(g:α->β)(f:α->α)(hf:∀x,g (f x)=g x):∀(l:List α)(j:Nat),(l.modify j f).map g=l.map g
 |[],j=>by simp
 |x::r,0=>by simp[hf]
 |x::r,j+1=>by simp[Gj g f hf r j]
theorem LP(h:Zc es clock)(j:Nat){f:MapEntry->MapEntry}(hf:∀e,(f e).born=e.born):Zc (es.modify j f) clock:=by
 have e:(es.modify j f).toList.map (·.born)=es.toList.map (·.born):=by
  rw[Array.toList_modify];exact Gj _ f hf _ j
 refine⟨by rw[e];exact h.1,fun x hx=>?_⟩;have h1:x.born∈(es.modify j f).toList.map (·.born):=x3q.2 ⟨x,hx,rfl⟩;rw[e]at h1;obtain⟨y,h2,h3⟩:=x3q.1 h1;rw[<-h3];exact h.2 y h2
theorem OpK.makeMap{s:St}{o:Oper}{K:St->Prop}{t:TypeId}(hop:o.op=.makeMap t none)(h:HO 60 0 s fun k=>setD N s.sl o.dst (.ext k .map) fun sl=>K ⟨sl,(k,.ext (I1 []))::s.H⟩):OpK P N s o K:=by
 refine⟨fun σ β a w hr Q=>?_⟩;obtain⟨k,hk,h⟩:=UP h;have hchunk:(Chunk.ext (I1 [])).holds σ (β.set k (some ⟨w.heap.size,0,0,[],x3z _⟩)) (w.alloc (.map #[] 0)) k:=
  ⟨⟨w.heap.size,0,0,[],x3z _⟩,#[],0,by simp[Lab.set],heap_alloc_new w _,⟨.nil,fun x hx=>by cases hx⟩,rfl,by simp⟩
 obtain⟨hr',hl⟩:=hr.new hk rfl rfl hchunk;obtain⟨sl,hK,hr''⟩:=hr'.setD (v:=.ext k .map) (u:=.map (some w.heap.size)) (.ext k .map ⟨w.heap.size,0,0,[],x3z _⟩ _ (by simp[Lab.set]) rfl) h;exact XS (w':=w.alloc (.map #[] 0)) (by simp[execOp,hop,Instr.makeMap]) ⟨σ,_,_,hK,hr'',hl⟩
theorem U7(a b:List UInt8):((⟨a.toArray⟩:ByteArray)==⟨b.toArray⟩)=decide (a=b):=by
 show(a.toArray==b.toArray)=decide (a=b);by_cases h:a=b
 ·subst h;simp
 ·simp[h]
theorem FO{α:Type}(k:List UInt8):∀(es:List MapEntry)(l:List (List UInt8×α))(i:Nat),es.map (·.key)=l.map (fun x=>YM x.1)->
  Instr.findNow .string (YM k) es i=some (match l.findIdx? fun x=>decide (k=x.1)with
   |some j=>some (i+j,(es[j]?.map (·.val)).getD undef)
   |none=>none)
 |[],[],_,_=>rfl
 |[],_::_,_,h=>by cases h
 |_::_,[],_,h=>by cases h
 | e::es,x::l,i,h=>by
   simp only[x3l,List.cons.injEq]at h;have hs:Instr.sameNow .string (YM k) e.key=some (decide (k=x.1)):=by
    rw[h.1];show some ((⟨k.toArray⟩:ByteArray)==⟨x.1.toArray⟩)=_;rw[U7]
   rw[Instr.findNow,hs,findIdx?_cons];by_cases hk:k=x.1
   ·simp[hk]
   ·simp only[hk,decide_false];rw[FO k es l (i+1) h.2];cases l.findIdx? fun x=>decide (k=x.1)with
    |none=>rfl
    |some j=>simp;omega
theorem W0{l:List (List UInt8×AV)}(h1:es.size=(l.map fun x=>(YM x.1,x.2)).length)(h2:∀(m:Nat)(x:Value×AV),(l.map fun x=>(YM x.1,x.2))[m]?=some x->∃e:MapEntry,es[m]?=some e/\e.key=x.1/\Rep σ x.2 e.val):
  es.toList.map (·.key)=l.map (fun x=>YM x.1):=by
 apply x8k;intro m;rw[x2e,x2e];cases hq:l[m]?with
 | none=>
   have:es.toList[m]?=none:=by
    rw[x8g]at hq⊢;simp at h1⊢;omega
   rw[this];rfl
 | some x=>
   obtain⟨e,h3,h4,_⟩:=h2 m (YM x.1,x.2) (by simp[hq]);have h3':es.toList[m]?=some e:=by simpa using h3
   rw[h3'];simp[h4]
theorem JY{P:Program}{t:TypeId}(ht:P.underlying t=some .string)(b:Bool)(k:List UInt8)(w:World):(Instr.checkKey b 10000 t (YM k)).run P w=.ok () w:=by
 have e:Instr.checkKey b 10000 t (YM k)=Instr.checkKey b (9999+1) t (YM k):=rfl;rw[e,Instr.checkKey,Sem.run_bind,run_underlying ht,Result.andThen_ok];rfl
theorem Ti{l:List UInt8}(h:RepL σ β (.p (.str l)) v):v=YM l:=h.strV.1
theorem UN{P:Program}{r:Nat}(h:w.heap[r]?=some (.map es clock)):(getObj r).run P w=.ok (.map es clock) w:=by simp[getObj,Sem.run,h]
theorem BE{P:Program}{r:Nat}(o:Obj)(h:w.heap[r]?=some (.map es clock)):(setObj r o).run P w=.ok () {w with heap:=w.heap.setIfInBounds r o}:=by simp[setObj,Sem.run,h]
theorem OpK.lookup(hT:TabOK P T){s:St}{o:Oper}{K:St->Prop}{t:TypeId}{x ix:Operand}(hop:o.op=.lookup t x ix false){k:Nat}(hx:QM s.sl x=.ext k .map){l:List (List UInt8×AV)}(hg:getH s.H k=some (.ext (I1 l))){ks:List UInt8}(hk:QM s.sl ix=.p (.str ks)){i ik:TyI}{kt et:TypeId}(ht:T.get t=some i)(hd:i.desc=.map kt et)(htk:T.get kt=some ik)(hdk:ik.desc=.string){v:AV}(hv:Mt l ks=some v)(h:setD N s.sl o.dst (.p v) fun sl=>K ⟨sl,s.H⟩):OpK P N s o K:=by
 refine⟨fun σ β a w hr Q=>?_⟩;have hx':=QZ hr.slots x;have hk':=QZ hr.slots ix;rw[hx]at hx';rw[hk]at hk';have hkv:=Ti hk';generalize hxe:a.eval x=xv at hx';cases hx' with
 | ext _ _ bi _ hbi hd'=>
   obtain rfl:xv=.map (some bi.blk):=hd';obtain⟨bi',es,clock,hbi',hh,hbo,h1,h2⟩:=hr.heap.chunks k _ (QG hg);rw[hbi]at hbi';cases hbi';have hkeys:=W0 h1 h2;have hu:=hT.of ht;have huk:=hT.of htk;rw[hd]at hu;rw[hdk]at huk;obtain⟨j,hj,hjv⟩ : ∃j,(l.findIdx? fun x=>decide (ks=x.1))=some j/\∃x,l[j]?=some x/\x.2=v:=by
    unfold Mt at hv;cases hf:l.find? fun x=>decide (ks=x.1)with
    |none=>rw[hf]at hv;cases hv
    | some x=>
      rw[hf]at hv;cases hv;obtain⟨h3,j,hlt,h4,h5⟩:=List.find?_eq_some_iff_getElem.1 hf;refine⟨j,?_,x,by rw[x2n hlt,h4],rfl⟩;rw[List.findIdx?_eq_some_iff_getElem];exact⟨hlt,by rw[h4];exact h3,fun i hi=>by simpa using h5 i hi⟩
   obtain⟨y,hjl,rfl⟩:=hjv;obtain⟨e,h3,h4,h5⟩:=h2 j (YM y.1,y.2) (by simp[hjl]);have hfind:=FO ks es.toList l 0 hkeys;rw[hj]at hfind;have h3':es.toList[j]?=some e:=by simpa using h3
   simp only[h3',x6e,x5q]at hfind;have hrun:(execOp a.eval o).run P w=.ok (.value e.val) w:=by
    have hfk:(Instr.findKey kt (YM ks) es.toList).run P w=.ok (some (0+j,e.val)) w:=by
     unfold Instr.findKey;rw[Sem.run_bind,run_underlying huk,Result.andThen_ok,hfind];rfl
    have hlk:(Instr.lookup t (.map (some bi.blk)) (YM ks) false).run P w=.ok e.val w:=by
     unfold Instr.lookup;rw[Sem.run_bind,run_underlying hu,Result.andThen_ok];simp only[Sem.run_bind,UN hh,Result.andThen_ok,Sem.run_pure,JY huk,hfk];rfl
    simp only[execOp,hop,hxe,hkv,Sem.run_bind,hlk,Result.andThen_ok];rfl
   obtain⟨sl,hK,hr'⟩:=hr.setD (.p h5) h;exact XS hrun ⟨σ,β,_,hK,hr',Later.refl _ _ _ _⟩
theorem Ju{l:List (List UInt8×α)}{k:List UInt8}{v:α}(h:(l.findIdx? fun x=>decide (k=x.1))=none):PT l k v=l++[(k,v)]:=by
 induction l with
 |nil=>rfl
 | cons x r ih=>
   rw[findIdx?_cons]at h;by_cases hk:k=x.1
   ·simp[hk]at h
   ·simp[hk]at h;rw[PT,if_neg hk,ih (by simpa using h)];rfl
theorem Mp{l:List (List UInt8×α)}{k:List UInt8}{v:α}(h:(l.findIdx? fun x=>decide (k=x.1))=some j):∃x,l[j]?=some x/\PT l k v=l.set j (x.1,v):=by
 induction l generalizing j with
 |nil=>cases h
 | cons x r ih=>
   rw[findIdx?_cons]at h;by_cases hk:k=x.1
   ·simp[hk]at h;subst h;exact⟨x,rfl,by rw[PT,if_pos hk];rfl⟩
   ·simp[hk]at h;obtain⟨j',h1,rfl⟩:=h;obtain⟨y,h2,h3⟩:=ih h1;exact⟨y,by simpa using h2,by rw[PT,if_neg hk,h3];rfl⟩
theorem OpK.mapUpdate(hT:TabOK P T){s:St}{o:Oper}{K:St->Prop}{t:TypeId}{x ix vx:Operand}(hop:o.op=.mapUpdate t x ix vx)(hdst:o.dst=none){k:Nat}(hx:QM s.sl x=.ext k .map){l:List (List UInt8×AV)}(hg:getH s.H k=some (.ext (I1 l))){ks:List UInt8}(hk:QM s.sl ix=.p (.str ks)){v:AV}(hvx:QM s.sl vx=.p v){i ik:TyI}{kt et:TypeId}(ht:T.get t=some i)(hd:i.desc=.map kt et)(htk:T.get kt=some ik)(hdk:ik.desc=.string)(h:K1 s.H k (.ext (I1 (PT l ks v))) fun H=>K ⟨s.sl,H⟩):OpK P N s o K:=by
 refine⟨fun σ β a w hr Q=>?_⟩;have hx':=QZ hr.slots x;have hk':=QZ hr.slots ix;have hv':=QZ hr.slots vx;rw[hx]at hx';rw[hk]at hk';rw[hvx]at hv';have hkv:=Ti hk';generalize hxe:a.eval x=xv at hx';generalize hve:a.eval vx=vv at hv';cases hv' with
 |p hvr=>
 cases hx' with
 | ext _ _ bi _ hbi hd'=>
   obtain rfl:xv=.map (some bi.blk):=hd';obtain⟨bi',es,clock,hbi',hh,hbo,h1,h2⟩:=hr.heap.chunks k _ (QG hg);rw[hbi]at hbi';cases hbi';have hkeys:=W0 h1 h2;have hu:=hT.of ht;have huk:=hT.of htk;rw[hd]at hu;rw[hdk]at huk;have hfind:=FO ks es.toList l 0 hkeys;have hlab:=QN hg;have hlt:=(hr.heap.apart k hlab bi hbi bi.blk bi.has_blk).2;obtain⟨es',clock',hrun,hbo',hsz,hent⟩ : ∃es' clock',(Instr.mapUpdate t (.map (some bi.blk)) (YM ks) vv).run P w=.ok () {w with heap:=w.heap.setIfInBounds bi.blk (.map es' clock')}/\Zc es' clock'/\es'.size=(PT l ks v).length/\
     ∀(m:Nat)(x:Value×AV),((PT l ks v).map fun x=>(YM x.1,x.2))[m]?=some x->∃e:MapEntry,es'[m]?=some e/\e.key=x.1/\Rep σ x.2 e.val:=by
    cases hj:l.findIdx? fun x=>decide (ks=x.1)with
    | none=>
      rw[hj]at hfind;refine⟨es.push {key:=YM ks,val:=vv,born:=clock},clock+1,?_,U6 hbo rfl,?_,fun m y hy=>?_⟩
      ·have hfk:(Instr.findKey kt (YM ks) es.toList).run P w=.ok none w:=by
        unfold Instr.findKey;rw[Sem.run_bind,run_underlying huk,Result.andThen_ok,hfind];rfl
       unfold Instr.mapUpdate;rw[Sem.run_bind,run_underlying hu,Result.andThen_ok];simp only[Sem.run_bind,UN hh,Result.andThen_ok,Sem.run_pure,JY huk,hfk,BE _ hh]
      ·rw[Ju hj];simpa using h1
      ·rw[Ju hj]at hy;simp only[x2m]at h1;rw[x3y,x6c]at hy;split at hy
       ·rename_i hm;obtain⟨e,h3,h4⟩:=h2 m y hy;simp only[x2m]at hm;exact⟨e,by rw[x8d,if_neg (by omega)];exact h3,h4⟩
       ·rename_i hm;simp only[x2m]at hm hy;have hm0:m-l.length=0:=by
         have:=(x2o.1 hy).1;simp at this;omega
        rw[hm0]at hy;simp at hy;subst hy;exact⟨{key:=YM ks,val:=vv,born:=clock},by rw[x8d,if_pos (by omega)],rfl,hvr⟩
    | some j=>
      rw[hj]at hfind;obtain⟨y,hy1,hy2⟩:=Mp (v:=v) hj;obtain⟨e,h3,h4,h5⟩:=h2 j (YM y.1,y.2) (by simp[hy1]);have hky:ks=y.1:=by
       obtain⟨hlt,h6,_⟩:=List.findIdx?_eq_some_iff_getElem.1 hj;rw[x2n hlt]at hy1;cases hy1;simpa using h6
      have h3':es.toList[j]?=some e:=by simpa using h3
      have hjlt:j<es.size:=(x3r.1 h3).1;simp only[h3',x6e,x5q,x5m]at hfind;have hek:e.key=YM ks:=by rw[h4,hky]
      refine⟨es.modify j fun e=>{e with key:=YM ks,val:=vv},clock,?_,LP hbo j fun _=>rfl,?_,fun m z hz=>?_⟩
      ·have hfk:(Instr.findKey kt (YM ks) es.toList).run P w=.ok (some (j,e.val)) w:=by
        unfold Instr.findKey;rw[Sem.run_bind,run_underlying huk,Result.andThen_ok,hfind];rfl
       have hkt:(Instr.keyThatStays (((es[j]?).map (·.key)).getD (YM ks)) (YM ks)).run P w=.ok (YM ks) w:=by
        rw[h3];simp only[x6e,x5q,hek];unfold Instr.keyThatStays;have:Instr.sameBits 10000 (YM ks) (YM ks)=true:=by
         unfold YM;show((⟨ks.toArray⟩:ByteArray)==⟨ks.toArray⟩)=true;rw[U7];simp
        rw[if_pos this];rfl
       unfold Instr.mapUpdate;rw[Sem.run_bind,run_underlying hu,Result.andThen_ok];simp only[Sem.run_bind,UN hh,Result.andThen_ok,Sem.run_pure,JY huk,hfk,hkt,BE _ hh]
      ·rw[hy2];simpa using h1
      ·rw[hy2,x4m]at hz;by_cases hm:m=j
       ·subst hm;rw[x5w (by simp at h1⊢;omega)]at hz;cases hz;exact⟨{e with key:=YM ks,val:=vv},by simp[x7z,h3],by rw[hky],hvr⟩
       ·rw[x5h (x6o hm)]at hz;obtain⟨e',h6,h7⟩:=h2 m z hz;exact⟨e',by rw[x7z,if_neg (x6o hm)];exact h6,h7⟩
   have hrun':(execOp a.eval o).run P w=.ok .skip {w with heap:=w.heap.setIfInBounds bi.blk (.map es' clock')}:=by
    simp only[execOp,hop,hxe,hkv,hve,Sem.run_bind,hrun,Result.andThen_ok];rfl
   obtain⟨H',hK,h3,h4,h5⟩:=JG hr.heap.nodup h;have hot:∀b,b≠bi.blk->({w with heap:=w.heap.setIfInBounds bi.blk (.map es' clock')}:World).heap[b]?=w.heap[b]?:=fun b hb=>x6t (x6o hb);have hheap:HRel σ β H' {w with heap:=w.heap.setIfInBounds bi.blk (.map es' clock')}:=by
    refine⟨fun b c hb=>?_,fun j c hj=>?_,by rw[h3];exact hr.heap.nodup,fun j hj i' hi' b hb=>?_,fun j hj j' hj'=>hr.heap.inj j (h3▸hj) j' (h3▸hj')⟩
    ·obtain⟨e,fr,h6⟩:=hr.heap.mem b c hb;exact⟨e,fr,(hot b fun he=>by rw[he,hh]at h6;cases h6).trans h6⟩
    ·by_cases hjk:j=k
     ·subst hjk;rw[h5 c hj];exact⟨bi,es',clock',hbi,by simp[hlt],hbo',by simpa using hsz,hent⟩
     ·have hm:=h4 j c hj hjk;exact(hr.heap.chunks j c hm).mono (Mem.le_refl σ) fun i' hi' b hb=>hot b fun he=>hjk (hr.heap.inj j (x3q.2 ⟨_,hm,rfl⟩) k hlab i' bi hi' hbi b hb (.inl he.symm))
    ·have:=hr.heap.apart j (h3▸hj) i' hi' b hb;exact⟨this.1,by simpa using this.2⟩
   refine Vb hrun' ⟨σ,β,⟨s.sl,H'⟩,hK,⟨?_,?_,?_,hheap⟩,Mem.le_refl σ,⟨rfl,rfl,rfl,x3g _,by simp,fun b _ hn=>hot b fun he=>hn ⟨k,hlab,bi,hbi,.inl he.symm⟩⟩,fun b h0 h1=>absurd h0 h1,fun b ⟨j,hj,r⟩=>.inl ⟨j,h3▸hj,r⟩,fun _ _ _=>rfl⟩
   ·rw[hdst];exact hr.size
   ·rw[hdst];exact hr.defers
   ·rw[hdst];exact hr.slots
end
def ZJ(nm:Str)(touched:List Str):List Arg->List Str->Bool
 |[],_=>true
 |a::r,seen=>bif a.ref then bif (seen.any fun s=>a.name==s)||((a.name==nm)||touched.any fun s=>a.name==s)then false else ZJ nm touched r (seen++[a.name])else ZJ nm touched r seen
theorem P5(t:S)(touched:List Str)(ha:t.args.length<=20000):SpecP prog 138 [.agg t.cells,eStrs touched] (fun r=>r=.bool (ZJ t.name touched t.args [])):=by
 refine sB Jp func138 rfl call138 ?_;conv=>whnf
 repeat' (refine iM fun _=>?_;conv=>whnf)
 have hl:(t.args.map fun a=>AV.agg a.cells).length=t.args.length:=x2m _;refine LoopK.inv QY (fun i:Nat×List Str=>⟨[(1,.p (eStrs touched)),(2,.p (.ip t.cells)),(5,.hd 0 0 i.2.length),(9,.p (.sl (t.args.map fun a=>.agg a.cells))),(10,.p (.int .i64 (t.args.map fun a=>AV.agg a.cells).length)),(11,.p (.int .i64 i.1))],[(0,.own 9 1 (i.2.map .str))]⟩)
  (fun i=>i.1<=t.args.length/\i.2.length<=i.1/\ZJ t.name touched (t.args.drop i.1) i.2=ZJ t.name touched t.args []) (fun i=>t.args.length-i.1) (0,[])
  (Le.mk [(0,.own 9 1 [])] (by simp[Chunk.new0];rfl) (by simp) (by simp) (.r (.r (.cons (.nil x2r) (.r (.r (.r .nil)))))) (.new x2r .nil))
  ⟨x3z _,x3g _,rfl⟩ ?_
 rintro⟨j,acc⟩ ⟨h2,h3,h4⟩;simp only at h2 h3 h4⊢;rcases x3v j t.args.length with hj|hj
 ·rw[x4v hj,ZJ]at h4;conv=>whnf
  repeat' (first|((first|refine cP (QW _ _) ?_|refine x2t rfl ?_|refine aD ?_|refine bP ?_|(refine iA fun _=>?_)|refine wI ?_|(refine XB (QW acc (t.args[j]'hj).name) (.cons (.hd rfl (by simp)) (.cons (.p (Sub.refl _)) .nil)) (by rintro _ rfl;rfl) ?_;rintro _ rfl)|refine QI (by simp) (by simp;omega) ?_);conv=>whnf)|(apply bD<;>intro _<;>first|omega|conv=>whnf)|(apply bN<;>intro _<;>conv=>whnf)|(apply bB<;>intro _<;>conv=>whnf))
  all_goals first
   |exact RetK.ff (by rw[<-h4];simp[*])
   |exact⟨(j+1,acc++[t.args[j].name]),⟨by simp only;omega,by simp;omega,by simp only;rw[<-h4];simp[*]⟩,by simp only;omega,Le.of_eq (by simp only[x2s,x3y];rfl)⟩
   |exact⟨(j+1,acc),⟨by simp only;omega,by simp only;omega,by simp only;rw[<-h4];simp[*]⟩,by simp only;omega,Le.of_eq rfl⟩
 ·rw[x3b hj,ZJ]at h4;conv=>whnf
  repeat' (apply bD<;>intro _<;>first|omega|conv=>whnf)
  exact RetK.tt h4.symm
def GK(p:Pg):Int×Int:=
 if(VZ p).1≠0 then(1,0)else match(VN p).find? fun t=>decide (t.kind=4) && !ZJ t.name (HJ p t.proc) t.args []with
  |some t=>(8,t.id)
  |none=>(0,0)
theorem Ip(h:(VZ p).1=0):(QA p).1=0/\(VN p).find? (fun t=>decide (t.kind=4) && !FB p t)=none:=by
 unfold VZ at h;split at h
 ·cases h
 ·rename_i hs;refine⟨by omega,?_⟩;split at h
  ·cases h
  ·assumption
theorem q0j{l:List (Str×AV)}{k:Str}{v:AV}{x:Str×AV}(h:x∈PT l k v):x∈l\/x=(k,v):=by
 induction l with
 |nil=>rw[PT]at h;exact .inr (by simpa using h)
 | cons y r ih=>
   rw[PT]at h;split at h
   ·rename_i hk;rcases x2i.1 h with h|h
    ·exact .inr (by rw[h,hk])
    ·exact .inl (x2c _ h)
   ·rcases x2i.1 h with h|h
    ·exact .inl (by rw[h];exact x2r)
    ·exact(ih h).imp (x2c _) id
theorem q0y{l:List (Str×AV)}{k:Str}{v:AV}(h:s=k\/∃x∈l,x.1=s):∃x∈PT l k v,x.1=s:=by
 induction l with
 | nil=>
   rcases h with rfl|⟨x,hx,_⟩
   ·exact⟨(s,v),by rw[PT];exact x2r,rfl⟩
   ·cases hx
 | cons y r ih=>
   rw[PT];split
   ·rename_i hk;rcases h with rfl|⟨x,hx,rfl⟩
    ·exact⟨(y.1,v),x2r,hk.symm⟩
    ·rcases x2i.1 hx with rfl|hx
     ·exact⟨(x.1,v),x2r,rfl⟩
     ·exact⟨x,x2c _ hx,rfl⟩
   ·rcases h with rfl|⟨x,hx,rfl⟩
    ·obtain⟨z,hz,h3⟩:=ih (.inl rfl);exact⟨z,x2c _ hz,h3⟩
    ·rcases x2i.1 hx with rfl|hx
     ·exact⟨x,x2r,rfl⟩
     ·obtain⟨z,hz,h3⟩:=ih (.inr ⟨x,hx,rfl⟩);exact⟨z,x2c _ hz,h3⟩
theorem q2a{l:List (Str×AV)}{g:Str->AV}(h:∀x∈l,x.2=g x.1){k:Str}(hk:∃x∈l,x.1=k):Mt l k=some (g k):=by
 unfold Mt;cases hf:l.find? fun x=>decide (k=x.1)with
 | none=>
   obtain⟨x,hx,rfl⟩:=hk;have:=x6q.1 hf x hx;simp at this
 | some x=>
   have h1:=x5n hf;have h2:=x6n hf;simp at h2;simp[h x h1,h2]
theorem Lw(p:Pg)(hf:Fit p):SpecP prog 84 [.agg p.cells] (fun r=>r=Kh (GK p).1 (GK p).2):=by
 refine sB Hg func84 rfl call84 ?_;conv=>whnf
 repeat' (first|((first|refine cP (U3 p hf) ?_|refine x2t rfl ?_);conv=>whnf)|(apply bE<;>intro _<;>first|omega|conv=>whnf))
 rotate_left 1
 ·have e:GK p=(1,0):=by unfold GK;rw[if_pos (by assumption)]
  exact QS (by rw[e]) (by rw[e])
 have hA:(VZ p).1=0:=by assumption
 obtain⟨hs,_⟩:=Ip hA;obtain⟨hm,hb,hns⟩:=KD hs;obtain⟨hg,hpl,hcn⟩:=VQ hm;have hl:(p.procs.map fun f=>AV.agg f.cells).length=p.procs.length:=x2m _;repeat' ((first|(refine iM fun _=>?_)|refine OpK.makeMap rfl ?_);conv=>whnf)
 refine LoopK.inv QY (fun i:Nat×List (Str×AV)=>⟨[(1,.p (.ip p.cells)),(2,.ptr 1 0),(3,.ext 0 .map),(15,.p (.sl (p.procs.map fun f=>.agg f.cells))),(16,.p (.int .i64 (p.procs.map fun f=>AV.agg f.cells).length)),(17,.p (.int .i64 i.1))],[(0,.ext (I1 i.2)),(1,.obj 87 [.p (.int .i64 0),.p (.int .i64 0)])]⟩)
  (fun i=>i.1<=p.procs.length/\(∀x∈i.2,x.2=eStrs (HJ p x.1))/\∀(m:Nat)(hm:m<p.procs.length),m<i.1->∃x∈i.2,x.1=p.procs[m].name) (fun i=>p.procs.length-i.1) (0,[])
  (Le.of_eq rfl) ⟨x3z _,by simp,by intro m hm h;omega⟩ ?_
 rintro⟨j,l⟩ ⟨h2,h3,h4⟩;simp only at h2 h3 h4⊢;rcases x3v j p.procs.length with hj|hj
 ·have hn:p.procs[j].name∈procsN p:=x3q.2 ⟨_,x3w hj,rfl⟩;conv=>whnf
  repeat' (first|((first|refine cP (De p hf hs _ hn) ?_|refine dA ?_|refine x2t rfl ?_|(refine iA fun _=>?_)|refine wI ?_|refine OpK.mapUpdate QY rfl rfl rfl rfl rfl rfl rfl rfl rfl rfl ?_);conv=>whnf)|(apply bD<;>intro _<;>first|omega|conv=>whnf))
  refine⟨(j+1,PT l p.procs[j].name (eStrs (HJ p p.procs[j].name))),⟨by simp only;omega,fun x hx=>?_,fun m hm h=>?_⟩,by simp only;omega,Le.of_eq rfl⟩
  ·rcases q0j hx with hx|rfl
   ·exact h3 x hx
   ·rfl
  ·refine q0y ?_;rcases x3v m j with hmj|hmj
   ·exact .inr (h4 m hm hmj)
   ·obtain rfl:m=j:=by simp only at h;omega
    exact .inl rfl
 have hgm:∀n∈procsN p,Mt l n=some (eStrs (HJ p n)):=fun n hn=>q2a (g:=fun n=>eStrs (HJ p n)) h3 (by
  obtain⟨f,hf1,rfl⟩:=x3q.1 hn;obtain⟨m,hm,rfl⟩:=x9n hf1;exact h4 m hm (by omega))
 clear h3 h4;conv=>whnf
 repeat' (first|((first|(refine iM fun _=>?_)|(refine CallK.pure (BM p (by omega) (by omega)) (.cons (Sub.refl _) .nil) ?_;rintro _ rfl));conv=>whnf)|(apply bD<;>intro _<;>first|omega|conv=>whnf))
 have hA:GK p=match(VN p).find? fun t=>decide (t.kind=4) && !ZJ t.name (HJ p t.proc) t.args []with
  |some t=>(8,t.id)
  |none=>(0,0):=by unfold GK;rw[if_neg (by omega)]
 have hil:=VV (sheetOf p).l;have hib:(sheetOf p).l.length<=200:=by have:=(QJ p).2.2.2.1;omega
 have hfi:=BP (q:=fun t=>decide (t.kind=4) && !ZJ t.name (HJ p t.proc) t.args []) (sheetOf p).l;rw[JO]at hfi;have hA2:GK p=match((sheetOf p).l.find? fun it=>decide (it.s.kind=4) && !ZJ it.s.name (HJ p it.s.proc) it.s.args []).map (fun it=>it.s.id)with
  |some a=>(8,a)
  |none=>(0,0):=by
  rw[hA,hfi];cases(VN p).find? fun t=>decide (t.kind=4) && !ZJ t.name (HJ p t.proc) t.args []<;>rfl
 rw[hA2];refine LoopK.inv QY (fun k:Nat=>⟨[(2,.ptr 1 0),(3,.ext 0 .map),(33,.p (VS (sheetOf p).l)),(34,.p (.int .i64 ((sheetOf p).l.map fun i=>AV.agg i.cells).length)),(35,.p (.int .i64 k))],[(0,.ext (I1 l)),(1,.obj 87 [.p (.int .i64 0),.p (.int .i64 0)])]⟩)
  (fun k=>k<=(sheetOf p).l.length/\((sheetOf p).l.drop k).find? (fun it=>decide (it.s.kind=4) && !ZJ it.s.name (HJ p it.s.proc) it.s.args [])=(sheetOf p).l.find? fun it=>decide (it.s.kind=4) && !ZJ it.s.name (HJ p it.s.proc) it.s.args []) (fun k=>(sheetOf p).l.length-k) 0 (Le.of_eq rfl) ⟨x3z _,rfl⟩ ?_
 rintro k ⟨h5,h6⟩;rcases x3v k (sheetOf p).l.length with hk|hk;rotate_left 1
 ·rw[<-h6,BB hk];conv=>whnf
  repeat' (first|(refine x2t rfl ?_;conv=>whnf)|(apply bD<;>intro _<;>first|omega|conv=>whnf))
  exact QS rfl rfl
 have hw:=H5 hf hk;have hna:(sheetOf p).l[k].s.args.length<=20000:=by
  have:=Mn (sheetOf p).l[k].s;have:=BV (sheetOf p).l[k].s.args;omega
 have hpc:(sheetOf p).l[k].s.kind=4->(sheetOf p).l[k].s.proc∈procsN p:=fun hk4=>by
  have hmm:(sheetOf p).l[k].s∈VN p:=by
   rw[<-JO];exact x3q.2 ⟨_,x3w hk,rfl⟩
  unfold VN at hmm;obtain⟨f,hf1,hf2⟩:=x3c.1 hmm;exact(Z7 hs hf1 hf2 hk4).1
 conv=>whnf
 repeat' (first|((first|refine cP (P5 _ _ hna) ?_|refine x2t rfl ?_|(refine iA fun _=>?_)|refine wI ?_|refine OpK.lookup QY rfl rfl rfl rfl rfl rfl rfl rfl (hgm _ (hpc (by omega))) ?_);conv=>whnf)|(apply bD<;>intro _<;>first|omega|conv=>whnf)|(apply bN<;>intro _<;>conv=>whnf))
 all_goals first
  | (have e3:=BN (p:=fun it:Item=>decide (it.s.kind=4) && !ZJ it.s.name (HJ p it.s.proc) it.s.args []) hk (by simp[*])
     rw[<-h6,e3];exact QS rfl rfl)
  |exact⟨k+1,⟨by omega,by rw[<-h6,Xp (p:=fun it:Item=>decide (it.s.kind=4) && !ZJ it.s.name (HJ p it.s.proc) it.s.args []) hk (by simp[*])]⟩,by omega,Le.of_eq rfl⟩
def q2z(p:Pg):Int×Int:=
 if YL p=false then(1,0)else
 if(QA p).1≠0 then QA p else
 if(VZ p).1≠0 then VZ p else
 if(PG p).1≠0 then PG p else GK p
theorem Cl(p:Pg)(hf:Fit p):SpecP prog 46 [.agg p.cells] (fun r=>r=Kh (q2z p).1 (q2z p).2):=by
 refine sB Mi func46 rfl call46 ?_;conv=>whnf
 repeat' (first|((first|refine cP (Do _) ?_|refine cP (JE p hf) ?_|refine cP (U3 p hf) ?_|refine cP (Sb p hf) ?_|refine cP (Lw p hf) ?_|refine x2t rfl ?_);conv=>whnf)|(apply bD<;>intro _<;>first|omega|conv=>whnf)|(apply bN<;>intro _<;>conv=>whnf))
 all_goals exact QS (by unfold q2z;simp[*]) (by unfold q2z;simp[*])
def QE(p:Pg):Bool:=decide ((q2z p).1=0)
theorem Pv(p:Pg)(hf:Fit p):SpecP prog 12 [.agg p.cells] (fun r=>r=.bool (QE p)):=by
 refine sB Mo func12 rfl call12 ?_;conv=>whnf
 repeat' (refine cP (Cl p hf) ?_;conv=>whnf)
 exact RetK.bool rfl
def QT(x:Int):Int:=if x = -1 then 9223372036854775807 else x
theorem Pl(x:Int):SpecP prog 104 [.int .i64 x] (fun r=>r=.int .i64 (QT x)):=by
 refine sB L0 func104 rfl call104 ?_;conv=>whnf
 repeat' (apply bD<;>intro _<;>first|omega|conv=>whnf)
 all_goals exact RetK.int (by unfold QT;simp[*])
theorem Jr(x:Int):SpecP prog 161 [.int .i64 x] (fun r=>r=.bool false):=by
 refine sB Wv func161 rfl call161 ?_;conv=>whnf
 skip
 exact RetK.bool (by simp)
def Bq(x y:Int):Int:=if x<y then -1 else if y<x then 1 else 0
theorem HE(x y:Int):SpecP prog 103 [.int .i64 x,.int .i64 y] (fun r=>r=.int .i64 (Bq x y)):=by
 refine sB ML func103 rfl call103 ?_;conv=>whnf
 repeat' (first|(refine cP (Jr _) ?_;conv=>whnf)|(apply bD<;>intro _<;>first|omega|conv=>whnf)|(apply bB<;>intro _<;>conv=>whnf))
 all_goals first
  |contradiction
  |exact RetK.int (by unfold Bq;simp[*])
  |exact RetK.int (by unfold Bq;rw[if_neg (by assumption),if_pos (by omega)])
  |exact RetK.int (by unfold Bq;rw[if_neg (by assumption),if_neg (by omega)])
def orI:List Int->Int
 |[]=>0
 |a::r=>if a=0 then orI r else a
theorem Uz(l:List Int):SpecP prog 102 [QO l] (fun r=>r=.int .i64 (orI l)):=by
 refine sB Hf func102 rfl call102 ?_;conv=>whnf
 repeat' (refine iM fun _=>?_;conv=>whnf)
 have hl:(l.map (AV.int .i64)).length=l.length:=x2m _;refine LoopK.inv QY (fun j:Nat=>⟨[(3,.p (.int .i64 0)),(6,.p (QO l)),(7,.p (.int .i64 (l.map (AV.int .i64)).length)),(8,.p (.int .i64 j))],[]⟩) (fun j=>j<=l.length/\orI (l.drop j)=orI l) (fun j=>l.length-j) 0 (Le.of_eq rfl) ⟨x3z _,rfl⟩ ?_;rintro j ⟨h2,h3⟩;rcases x3v j l.length with hj|hj
 ·rw[x4v hj,orI]at h3;conv=>whnf
  repeat' (first|((first|(refine iA fun _=>?_)|refine wI ?_);conv=>whnf)|(apply bD<;>intro _<;>first|omega|conv=>whnf)|(apply bE<;>intro _<;>first|omega|conv=>whnf))
  all_goals first
   |exact RetK.int (by rw[<-h3,if_neg (by assumption)])
   |exact⟨j+1,⟨by omega,by rw[<-h3,if_pos (by assumption)]⟩,by omega,Le.of_eq rfl⟩
   |exact⟨j+1,⟨by omega,by rw[<-h3,if_pos (by simp_all)]⟩,by omega,Le.of_eq rfl⟩
 ·rw[x3b hj,orI]at h3;conv=>whnf
  repeat' (apply bD<;>intro _<;>first|omega|conv=>whnf)
  exact RetK.int h3
def Sy(l:List S)(o:Int):Int:=match l with
 |[]=>o
 |t::_=>t.id
theorem CH(l:List S)(o:Int):SpecP prog 223 [.sl (l.map fun t=>.agg t.cells),.int .i64 o] (fun r=>r=.int .i64 (Sy l o)):=by
 refine sB L2 func223 rfl call223 ?_;conv=>whnf
 repeat' (first|(refine iM fun _=>?_;conv=>whnf)|(apply bD<;>intro _<;>first|omega|conv=>whnf))
 ·cases l with
  |nil=>simp at*
  | cons t r=>
    refine IdxK.at (k:=0) rfl rfl rfl ?_;exact RetK.int rfl
 ·cases l with
  |nil=>exact RetK.int rfl
  |cons t r=>simp at*
def ZH(a b:Step):Bool:=decide (a.src=b.src)&&decide (a.dst=b.dst)
theorem Uh(a b:Step):SpecP prog 195 [.agg a.cells,.agg b.cells] (fun r=>r=.bool (ZH a b)):=by
 refine sB Hb func195 rfl call195 ?_;conv=>whnf
 repeat' (apply bD<;>intro _<;>first|omega|conv=>whnf)
 all_goals first
  |exact RetK.bool (show(a.dst==b.dst)=ZH a b by unfold ZH;simp[*];rfl)
  |exact RetK.ff (by unfold ZH;simp[*])
def Rg(a b:Step):Int:=orI [Bq (QT a.src) (QT b.src),Bq (QT a.dst) (QT b.dst),Bq a.kind b.kind]
theorem Lk(a b:Step):SpecP prog 193 [.agg a.cells,.agg b.cells] (fun r=>r=.int .i64 (Rg a b)):=by
 refine sB Hd func193 rfl call193 ?_;conv=>whnf
 repeat' ((first|refine cP (Pl _) ?_|refine cP (HE _ _) ?_|refine cP (Uz [Bq (QT a.src) (QT b.src),Bq (QT a.dst) (QT b.dst),Bq a.kind b.kind]) ?_|refine dA ?_|refine x2t rfl ?_|refine aD ?_|refine BsK.pureL rfl rfl ?_);conv=>whnf)
 exact RetK.int rfl
end Go.Ab
