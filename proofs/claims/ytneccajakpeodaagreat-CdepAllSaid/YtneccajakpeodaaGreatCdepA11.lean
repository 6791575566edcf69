/- The library's contracts at this seat's program, in plain words (printed by the kit's lay-plain.mjs). Conditions: none. -/
import Derived.Shelf.Sort.Plain
import Derived.Shelf.Slices.In.SortNone
import Derived.Shelf.Slices.CompactS
import Derived.Ground.Names2Prog
import Derived.Shelf.Slices.SearchI
import Derived.Shelf.Slices.Empties
import Derived.Shelf.Spec.SlicesInsert
import Derived.Shelf.Spec.SlicesInsertGrow
import Derived.Shelf.SlSortCmp.NoneTotal
import Derived.Ground.SlsfProg
import Derived.Test.YtneccajakpeodaaGreatProg
import Derived.Test.YtneccajakpeodaaGreatCdepA6
import Derived.Test.YtneccajakpeodaaGreatCdepA7
import Derived.Test.YtneccajakpeodaaGreatCdepA10
set_option linter.unusedSimpArgs false
set_option linter.unusedVariables false
set_option maxRecDepth 100000
set_option maxHeartbeats 16000000
namespace Go.Proofs
open Go.Shelf
def Tryz.lays190_ren:Go.Shelf.Ren:=⟨fun|190=>96|125=>154|258=>153|128=>223|129=>224|302=>214|303=>215|304=>216|305=>217|306=>218|307=>219|308=>220|309=>221|310=>222|333=>276|329=>277|330=>278|334=>279|335=>280|336=>281|344=>301|n=>n,fun|31=>22|9=>9|3=>3|46=>171|0=>0|51=>225|53=>227|4=>4|183=>218|182=>217|131=>30|5=>5|218=>248|222=>252|228=>265|229=>266|n=>n,fun|n=>n⟩
theorem Tryz.lays190:Go.Proofs.Lays.n190 Tryz.prog Tryz.lays190_ren:={
 mixed:=by kernel_rfl
 f125:=Tryz.func154.trans (congrArg some (by kernel_rfl))
 f128:=Tryz.func223.trans (congrArg some (by kernel_rfl))
 f129:=Tryz.func224.trans (congrArg some (by kernel_rfl))
 f190:=Tryz.func96.trans (congrArg some (by kernel_rfl))
 f258:=Tryz.func153.trans (congrArg some (by kernel_rfl))
 f302:=Tryz.func214.trans (congrArg some (by kernel_rfl))
 f303:=Tryz.func215.trans (congrArg some (by kernel_rfl))
 f304:=Tryz.func216.trans (congrArg some (by kernel_rfl))
 f305:=Tryz.func217.trans (congrArg some (by kernel_rfl))
 f306:=Tryz.func218.trans (congrArg some (by kernel_rfl))
 f307:=Tryz.func219.trans (congrArg some (by kernel_rfl))
 f308:=Tryz.func220.trans (congrArg some (by kernel_rfl))
 f309:=Tryz.func221.trans (congrArg some (by kernel_rfl))
 f310:=Tryz.func222.trans (congrArg some (by kernel_rfl))
 f329:=Tryz.func277.trans (congrArg some (by kernel_rfl))
 f330:=Tryz.func278.trans (congrArg some (by kernel_rfl))
 f333:=Tryz.func276.trans (congrArg some (by kernel_rfl))
 f334:=Tryz.func279.trans (congrArg some (by kernel_rfl))
 f335:=Tryz.func280.trans (congrArg some (by kernel_rfl))
 f336:=Tryz.func281.trans (congrArg some (by kernel_rfl))
 f344:=Tryz.func301.trans (congrArg some (by kernel_rfl))
 t0:=Tryz.underlying0
 a0:=Tryz.isAgg0
 z0:=Tryz.sizeOf0
 v0:=Tryz.zeroValue0
 t3:=Tryz.underlying3
 a3:=Tryz.isAgg3
 z3:=Tryz.sizeOf3
 v3:=Tryz.zeroValue3
 t4:=Tryz.underlying4
 a4:=Tryz.isAgg4
 z4:=Tryz.sizeOf4
 v4:=Tryz.zeroValue4
 t5:=Tryz.underlying5
 a5:=Tryz.isAgg5
 z5:=Tryz.sizeOf5
 v5:=Tryz.zeroValue5
 t9:=Tryz.underlying9
 a9:=Tryz.isAgg9
 z9:=Tryz.sizeOf9
 v9:=Tryz.zeroValue9
 t31:=Tryz.underlying22
 a31:=Tryz.isAgg22
 z31:=Tryz.sizeOf22
 v31:=Tryz.zeroValue22
 t46:=Tryz.underlying171
 a46:=Tryz.isAgg171
 z46:=Tryz.sizeOf171
 v46:=Tryz.zeroValue171
 t51:=Tryz.underlying225
 a51:=Tryz.isAgg225
 z51:=Tryz.sizeOf225
 v51:=Tryz.zeroValue225
 t53:=Tryz.underlying227
 a53:=Tryz.isAgg227
 z53:=Tryz.sizeOf227
 v53:=Tryz.zeroValue227
 t131:=Tryz.underlying30
 a131:=Tryz.isAgg30
 z131:=Tryz.sizeOf30
 v131:=Tryz.zeroValue30
 t182:=Tryz.underlying217
 a182:=Tryz.isAgg217
 z182:=Tryz.sizeOf217
 v182:=Tryz.zeroValue217
 t183:=Tryz.underlying218
 a183:=Tryz.isAgg218
 z183:=Tryz.sizeOf218
 v183:=Tryz.zeroValue218
 t218:=Tryz.underlying248
 a218:=Tryz.isAgg248
 z218:=Tryz.sizeOf248
 v218:=Tryz.zeroValue248
 t222:=Tryz.underlying252
 a222:=Tryz.isAgg252
 z222:=Tryz.sizeOf252
 v222:=Tryz.zeroValue252
 t228:=Tryz.underlying265
 a228:=Tryz.isAgg265
 z228:=Tryz.sizeOf265
 v228:=Tryz.zeroValue265
 t229:=Tryz.underlying266
 a229:=Tryz.isAgg266
 z229:=Tryz.sizeOf266
 v229:=Tryz.zeroValue266 }
def Tryz.lays194_ren:Go.Shelf.Ren:=⟨fun|194=>236|n=>n,fun|31=>22|9=>9|3=>3|4=>4|0=>0|n=>n,fun|n=>n⟩
theorem Tryz.lays194:Go.Proofs.Lays.n194 Tryz.prog Tryz.lays194_ren:={
 mixed:=by kernel_rfl
 f194:=Tryz.func236.trans (congrArg some (by kernel_rfl))
 t0:=Tryz.underlying0
 a0:=Tryz.isAgg0
 z0:=Tryz.sizeOf0
 v0:=Tryz.zeroValue0
 t3:=Tryz.underlying3
 a3:=Tryz.isAgg3
 z3:=Tryz.sizeOf3
 v3:=Tryz.zeroValue3
 t4:=Tryz.underlying4
 a4:=Tryz.isAgg4
 z4:=Tryz.sizeOf4
 v4:=Tryz.zeroValue4
 t9:=Tryz.underlying9
 a9:=Tryz.isAgg9
 z9:=Tryz.sizeOf9
 v9:=Tryz.zeroValue9
 t31:=Tryz.underlying22
 a31:=Tryz.isAgg22
 z31:=Tryz.sizeOf22
 v31:=Tryz.zeroValue22 }
def Tryz.laysB_ren:Go.Shelf.Ren:=⟨fun|25=>299|31=>314|32=>315|37=>283|n=>n,fun|22=>36|3=>3|4=>4|40=>171|0=>0|n=>n,fun|n=>n⟩
theorem Tryz.laysB:Go.Proofs.Lays2.n25 Tryz.prog Tryz.laysB_ren:={
 mixed:=by kernel_rfl
 f25:=Tryz.func299.trans (congrArg some (by kernel_rfl))
 f31:=Tryz.func314.trans (congrArg some (by kernel_rfl))
 f32:=Tryz.func315.trans (congrArg some (by kernel_rfl))
 f37:=Tryz.func283.trans (congrArg some (by kernel_rfl))
 t0:=Tryz.underlying0
 a0:=Tryz.isAgg0
 z0:=Tryz.sizeOf0
 v0:=Tryz.zeroValue0
 t3:=Tryz.underlying3
 a3:=Tryz.isAgg3
 z3:=Tryz.sizeOf3
 v3:=Tryz.zeroValue3
 t4:=Tryz.underlying4
 a4:=Tryz.isAgg4
 z4:=Tryz.sizeOf4
 v4:=Tryz.zeroValue4
 t22:=Tryz.underlying36
 a22:=Tryz.isAgg36
 z22:=Tryz.sizeOf36
 v22:=Tryz.zeroValue36
 t40:=Tryz.underlying171
 a40:=Tryz.isAgg171
 z40:=Tryz.sizeOf171
 v40:=Tryz.zeroValue171 }
def Tryz.laysI_ren:Go.Shelf.Ren:=⟨fun|21=>300|27=>316|28=>317|35=>324|39=>110|n=>n,fun|22=>36|3=>3|4=>4|0=>0|n=>n,fun|n=>n⟩
theorem Tryz.laysI:Go.Proofs.Lays2.n21 Tryz.prog Tryz.laysI_ren:={
 mixed:=by kernel_rfl
 f21:=Tryz.func300.trans (congrArg some (by kernel_rfl))
 f27:=Tryz.func316.trans (congrArg some (by kernel_rfl))
 f28:=Tryz.func317.trans (congrArg some (by kernel_rfl))
 f35:=Tryz.func324.trans (congrArg some (by kernel_rfl))
 f39:=Tryz.func110.trans (congrArg some (by kernel_rfl))
 t0:=Tryz.underlying0
 a0:=Tryz.isAgg0
 z0:=Tryz.sizeOf0
 v0:=Tryz.zeroValue0
 t3:=Tryz.underlying3
 a3:=Tryz.isAgg3
 z3:=Tryz.sizeOf3
 v3:=Tryz.zeroValue3
 t4:=Tryz.underlying4
 a4:=Tryz.isAgg4
 z4:=Tryz.sizeOf4
 v4:=Tryz.zeroValue4
 t22:=Tryz.underlying36
 a22:=Tryz.isAgg36
 z22:=Tryz.sizeOf36
 v22:=Tryz.zeroValue36
 i3:=by kernel_rfl }
def Tryz.laysF_ren:Go.Shelf.Ren:=⟨fun|6=>227|15=>154|14=>282|28=>223|29=>224|20=>302|21=>303|22=>304|23=>305|24=>306|25=>307|26=>308|27=>309|46=>318|47=>277|48=>278|49=>319|50=>320|57=>325|n=>n,fun|22=>33|24=>79|25=>231|3=>3|39=>171|0=>0|53=>225|55=>227|4=>4|46=>218|45=>217|50=>30|5=>5|9=>9|66=>248|70=>252|76=>265|77=>266|n=>n,fun|n=>n⟩
theorem Tryz.laysF:Go.Proofs.SlLaysF0.n6 Tryz.prog Tryz.laysF_ren:={
 mixed:=by kernel_rfl
 f6:=⟨Tryz.f227.name,by decide,Tryz.func227.trans (congrArg some (by kernel_rfl))⟩
 f14:=⟨Tryz.f282.name,by decide,Tryz.func282.trans (congrArg some (by kernel_rfl))⟩
 f15:=Tryz.func154.trans (congrArg some (by kernel_rfl))
 f20:=⟨Tryz.f302.name,by decide,Tryz.func302.trans (congrArg some (by kernel_rfl))⟩
 f21:=⟨Tryz.f303.name,by decide,Tryz.func303.trans (congrArg some (by kernel_rfl))⟩
 f22:=⟨Tryz.f304.name,by decide,Tryz.func304.trans (congrArg some (by kernel_rfl))⟩
 f23:=⟨Tryz.f305.name,by decide,Tryz.func305.trans (congrArg some (by kernel_rfl))⟩
 f24:=⟨Tryz.f306.name,by decide,Tryz.func306.trans (congrArg some (by kernel_rfl))⟩
 f25:=⟨Tryz.f307.name,by decide,Tryz.func307.trans (congrArg some (by kernel_rfl))⟩
 f26:=⟨Tryz.f308.name,by decide,Tryz.func308.trans (congrArg some (by kernel_rfl))⟩
 f27:=⟨Tryz.f309.name,by decide,Tryz.func309.trans (congrArg some (by kernel_rfl))⟩
 f28:=Tryz.func223.trans (congrArg some (by kernel_rfl))
 f29:=Tryz.func224.trans (congrArg some (by kernel_rfl))
 f46:=⟨Tryz.f318.name,by decide,Tryz.func318.trans (congrArg some (by kernel_rfl))⟩
 f47:=Tryz.func277.trans (congrArg some (by kernel_rfl))
 f48:=Tryz.func278.trans (congrArg some (by kernel_rfl))
 f49:=⟨Tryz.f319.name,by decide,Tryz.func319.trans (congrArg some (by kernel_rfl))⟩
 f50:=⟨Tryz.f320.name,by decide,Tryz.func320.trans (congrArg some (by kernel_rfl))⟩
 f57:=⟨Tryz.f325.name,by decide,Tryz.func325.trans (congrArg some (by kernel_rfl))⟩
 t0:=Tryz.underlying0
 a0:=Tryz.isAgg0
 z0:=Tryz.sizeOf0
 v0:=Tryz.zeroValue0
 t3:=Tryz.underlying3
 a3:=Tryz.isAgg3
 z3:=Tryz.sizeOf3
 v3:=Tryz.zeroValue3
 t4:=Tryz.underlying4
 a4:=Tryz.isAgg4
 z4:=Tryz.sizeOf4
 v4:=Tryz.zeroValue4
 t5:=Tryz.underlying5
 a5:=Tryz.isAgg5
 z5:=Tryz.sizeOf5
 v5:=Tryz.zeroValue5
 t9:=Tryz.underlying9
 a9:=Tryz.isAgg9
 z9:=Tryz.sizeOf9
 v9:=Tryz.zeroValue9
 t22:=Tryz.underlying33
 a22:=Tryz.isAgg33
 z22:=Tryz.sizeOf33
 v22:=Tryz.zeroValue33
 t25:=Tryz.underlying231
 a25:=Tryz.isAgg231
 z25:=Tryz.sizeOf231
 v25:=Tryz.zeroValue231
 t39:=Tryz.underlying171
 a39:=Tryz.isAgg171
 z39:=Tryz.sizeOf171
 v39:=Tryz.zeroValue171
 t45:=Tryz.underlying217
 a45:=Tryz.isAgg217
 z45:=Tryz.sizeOf217
 v45:=Tryz.zeroValue217
 t46:=Tryz.underlying218
 a46:=Tryz.isAgg218
 z46:=Tryz.sizeOf218
 v46:=Tryz.zeroValue218
 t50:=Tryz.underlying30
 a50:=Tryz.isAgg30
 z50:=Tryz.sizeOf30
 v50:=Tryz.zeroValue30
 t53:=Tryz.underlying225
 a53:=Tryz.isAgg225
 z53:=Tryz.sizeOf225
 v53:=Tryz.zeroValue225
 t55:=Tryz.underlying227
 a55:=Tryz.isAgg227
 z55:=Tryz.sizeOf227
 v55:=Tryz.zeroValue227
 t66:=Tryz.underlying248
 a66:=Tryz.isAgg248
 z66:=Tryz.sizeOf248
 v66:=Tryz.zeroValue248
 t70:=Tryz.underlying252
 a70:=Tryz.isAgg252
 z70:=Tryz.sizeOf252
 v70:=Tryz.zeroValue252
 t76:=Tryz.underlying265
 a76:=Tryz.isAgg265
 z76:=Tryz.sizeOf265
 v76:=Tryz.zeroValue265
 t77:=Tryz.underlying266
 a77:=Tryz.isAgg266
 z77:=Tryz.sizeOf266
 v77:=Tryz.zeroValue266 }
end Go.Proofs
namespace Go.Ab
open Go.Proofs Go.Sort
theorem x1h {σ:Mem} {β:Lab} {k:Nat} {c c':Chunk} {w w':World} {i:BInfo} (h:HRel σ β [(k,c)] w) (hi:β k=some i) (hf:Frm (fun b=>b=i.blk) w w')
  (hnew:c'.holds σ β w' k):HRel σ β [(k,c')] w'∧Later σ β [(k,c)] w σ β [(k,c')] w':=by
 have hap:=h.apart k (by simp) i hi
 refine ⟨⟨fun b cs hb => ?_,fun j d hj => ?_,by simp,fun j hj i' hi' b hb => ?_,fun j hj j' hj' _ _ _ _ _ _ _ => ?_⟩,Mem.le_refl σ,⟨hf.os,hf.tape,hf.output,hf.drawn,hf.size,fun b hb hn=>hf.block b hb fun he=>hn ⟨k,by simp,i,hi,.inl he.symm⟩⟩,
  fun b h0 h1=>absurd h0 h1,fun b ⟨j,hj,i',hi',hb⟩ => .inl ⟨j,by simpa using hj,i',hi',hb⟩,fun _ _ _=>rfl⟩
 ·obtain ⟨e,fr,hh⟩:=h.mem b cs hb
  exact ⟨e,fr,(hf.block b (Array.getElem?_eq_some_iff.1 hh).1 fun he=>by rw [he,(hap _ i.has_blk).1] at hb;cases hb).trans hh⟩
 ·simp at hj
  obtain ⟨rfl,rfl⟩:=hj
  exact hnew
 ·simp at hj
  subst hj
  rw [hi] at hi';cases hi'
  exact ⟨(hap b hb).1,Nat.lt_of_lt_of_le (hap b hb).2 hf.size⟩
 ·simp at hj hj'
  rw [hj,hj']
theorem UV {w:World} {b:Nat} {vs:Array Value} {e:TypeId} (h:w.heap[b]? = some (.cells vs e (0,0))) (o:Nat):w.frozen? ⟨b,o,none⟩=false:=by
 simp [World.frozen?,h]
theorem HL {w:World} {b:Nat} {vs:Array Value} {e:TypeId} (h:w.heap[b]? = some (.cells vs e (0,0))) (o:Nat):w.cell? ⟨b,o,none⟩=vs[o]? := by
 simp [World.cell?,h]
theorem q1i {α:Type} [Inhabited α] {enc:α→Value} {w:World} {n b:Nat} {d:Array α} {os:Array Obj} {vs:Array Value} {e:TypeId} (h:w.heap[b]? = some (.cells vs e (0,0))) (hlt:b<w.heap.size) :
  Frm (fun x=>x=b) w (grow (putRow enc (Sort.ahead w n) b 0 d) os)∧(grow (putRow enc (Sort.ahead w n) b 0 d) os).heap[b]? = some (.cells (putCells enc 0 d vs) e (0,0)):=by
 have hh:(grow (putRow enc (Sort.ahead w n) b 0 d) os).heap=w.heap.modify b (onCells (putCells enc 0 d))++os:=rfl
 refine ⟨⟨rfl,rfl,rfl,Nat.le_add_right _ _,?_,fun k hk hn => ?_⟩,?_⟩
 ·rw [hh];simp
 ·rw [hh,Array.getElem?_append_left (by simpa using hk),Array.getElem?_modify,if_neg (Ne.symm hn)]
 ·rw [hh,Array.getElem?_append_left (by simpa using hlt),Array.getElem?_modify,if_pos rfl,h]
  rfl
theorem DV {α:Type} [Inhabited α] {enc:α→Value} {d:Array α} {vs:Array Value} (hs:d.size≤vs.size) {k:Nat} (hk:k<d.size):(putCells enc 0 d vs)[k]? = some (enc d[k]):=by
 unfold putCells
 have hk':k<vs.size:=by omega
 simp [hk',hk]
theorem z2s {σ:Mem} {l:List Str} {vs:Array Value} (h : ∀ (m:Nat) (x:AV),(l.map AV.str)[m]? = some x→x.cells.length=1 ∧ ∀ (j:Nat) (c:AV),x.cells[j]? = some c → ∃ u:Value,vs[m*1+j]? = some u∧Rep σ c u) {j:Nat} (hj:j<l.length) :
  vs[j]? = some (encStr l[j])∧l[j].length≤maxLen:=by
 obtain ⟨u,h1,h2⟩:=(h j (.str l[j]) (by simp [hj])).2 0 (.str l[j]) rfl
 cases h2 with
 | str _ h3=>exact ⟨by simpa using h1,h3⟩
theorem z2p {σ:Mem} {l:List Str} {vs:Array Value} (h : ∀ j (hj:j<l.length),vs[j]? = some (encStr l[j])) (hl : ∀ s∈l,s.length≤maxLen) : ∀ (m:Nat) (x:AV),(l.map AV.str)[m]? = some x→x.cells.length=1 ∧ ∀ (j:Nat) (c:AV),x.cells[j]? = some c → ∃ u:Value,vs[m*1+j]? = some u∧Rep σ c u:=by
 intro m x hx
 rw [List.getElem?_map] at hx
 cases hq:l[m]? with
 | none=>rw [hq] at hx;cases hx
 | some s =>
   rw [hq] at hx;cases hx
   obtain ⟨hm,rfl⟩:=List.getElem?_eq_some_iff.1 hq
   refine ⟨rfl,fun j c hj => ?_⟩
   have hj0:j=0:=by
    have:=(List.getElem?_eq_some_iff.1 hj).1
    simpa [AV.cells] using this
   subst hj0
   simp only [AV.cells,List.getElem?_cons_zero,Option.some.injEq] at hj
   subst hj
   exact ⟨_,by simpa using h m hm,.str _ (hl _ (List.getElem_mem hm))⟩
theorem w7o {vals:Array Value} {l:LV} (h:vals.size=[l].length) : ∃ v,vals = #[v]:=⟨vals[0]'(by simp at h;omega),by apply Array.ext;simpa using h;intro i h1 h2;simp at h2;subst h2;rfl⟩
theorem x4n {σ:Mem} {β:Lab} {k n:Nat} {v:Value} {i:BInfo} (h:RepL σ β (.hd k 0 n) v) (hi:β k=some i):v = .slice (some ⟨i.blk,0,none⟩) n i.cap:=by
 rcases h.hdI with ⟨hk,_⟩|⟨i',o,hk,hl,ho,hv⟩
 ·rw [hi] at hk;cases hk
 ·rw [hi] at hk;cases hk
  rcases ho with ho|ho
  ·rw [hv,ho];simp
  ·omega
theorem z0c {σ:Mem} {β:Lab} {k n:Nat} {v:Value} (h:RepL σ β (.hd k 0 n) v) (hi:β k=none):v = .slice none 0 0∧n=0:=by
 rcases h.hdI with ⟨_,_,hn,hv⟩|⟨i',o,hk,_⟩
 ·exact ⟨hv,hn⟩
 ·rw [hi] at hk;cases hk
def UC (l:List Str):List Str:=l.mergeSort fun x y=>decide (x≤y)
theorem MS (l:List Str) (hlen:l.length≤1000000000) :
  SpecH Tryz.prog 96 [.hd 1000 0 l.length] [(1000,.own 9 1 (l.map .str))] (fun r H=>r = .p (.tup [])∧H=[(1000,.own 9 1 ((UC l).map .str))]):=by
 refine ⟨Tryz.call96,fun σ β w vals hn hv hH => ?_⟩
 obtain ⟨v,rfl⟩:=w7o hn
 have hv:=hv 0 _ rfl
 simp only [List.size_toArray,List.length_cons,List.length_nil,Array.getD_eq_getD_getElem?] at hv
 have hv:RepL σ β (.hd 1000 0 l.length) v:=by simpa using hv
 have hch:=hH.chunks 1000 _ List.mem_cons_self
 have hlenS:(UC l).length=l.length:=by unfold UC;simp
 rcases hch with ⟨hb0,hes⟩|⟨i,vs,hi,hsz,hh,h2,h3,h4,h5⟩
 ·have hl0:l=[]:=by simpa using hes
  subst hl0
  obtain ⟨rfl,_⟩:=z0c hv hb0
  have hc:=Any.slices_Sort_string_none Tryz.lays190 none 0 w
  change Calls Tryz.prog 96 _ _ _ at hc
  refine hc.mono ?_
  rintro e w' ⟨rfl,rfl⟩
  exact ⟨.p (.tup []),.tuple #[],σ,β,_,rfl,⟨rfl,rfl⟩,.p (.tup [] #[] (fun _=>undef) rfl (by simp) (by simp)),by simpa [UC] using hH,by simpa [UC] using Later.refl _ _ _ _⟩
 ·have hve:=x4n hv hi
  subst hve
  have hlt:=(hH.apart 1000 (by simp) i hi i.blk i.has_blk).2
  have hle:l.length≤vs.size:=by rw [h2,Nat.mul_one];simpa using h3
  have hget:=fun j hj=>z2s (σ:=σ) (l:=l) h5 (j:=j) hj
  have hc:=Any.slices_Sort_string Tryz.lays190 i.blk 0 i.cap l w (fun j hj=>by
   have hj':j<l.length:=by simpa using hj
   refine ⟨?_,UV hh _⟩
   rw [HL hh,Nat.zero_add,(hget j hj').1]
   simp [hj']) hlt (by omega)
  change Calls Tryz.prog 96 _ _ _ at hc
  refine hc.mono ?_
  rintro e w' ⟨rfl,n,os,rfl⟩
  obtain ⟨hf,hb⟩:=q1i (enc:=encStr) (n:=n) (os:=os) (d:=(UC l).toArray) hh hlt
  obtain ⟨hH',hL⟩:=x1h (c' := .own 9 1 ((UC l).map .str)) hH hi hf (.inr ⟨i,_,hi,hsz,hb,by simpa [putCells] using h2,by simpa [hlenS] using h3,h4,z2p (fun j hj=>by
   have:=DV (enc:=encStr) (d:=(UC l).toArray) (vs:=vs) (by simp [hlenS];omega) (k:=j) (by simpa using hj)
   simpa using this) fun s hs=>by
    have:s∈l:=by unfold UC at hs;simpa using hs
    obtain ⟨j,hj,rfl⟩:=List.mem_iff_getElem.1 this
    exact (hget j hj).2⟩)
  exact ⟨.p (.tup []),.tuple #[],σ,β,_,rfl,⟨rfl,rfl⟩,.p (.tup [] #[] (fun _=>undef) rfl (by simp) (by simp)),hH',hL⟩
theorem x0k (l:List Str):(Go.Lib.compact l).length≤l.length:=by
 unfold Go.Lib.compact Go.Lib.compactUpTo
 rw [List.length_map]
 exact Nat.le_trans (List.length_filter_le _ _) (by simp)
theorem MU {l:List Str} {s:Str} (h:s∈Go.Lib.compact l):s∈l:=by
 unfold Go.Lib.compact Go.Lib.compactUpTo at h
 obtain ⟨j,hj,rfl⟩:=List.mem_map.1 h
 have:=(List.mem_filter.1 hj).1
 have hlt:j<l.length:=by simpa using this
 simp [hlt]
theorem LT {α:Type} [Inhabited α] {enc:α→Value} {d:Array α} {vs:Array Value} {o:Nat}:(putCells enc o d vs).size=vs.size:=by simp [putCells]
theorem NV (l:List Str) (hlen:l.length≤1000000000) :
  SpecH Tryz.prog 236 [.hd 1000 0 l.length] [(1000,.own 9 1 (l.map .str))] (fun r H=>r = .hd 1000 0 (Go.Lib.compact l).length∧H=[(1000,.own 9 1 ((Go.Lib.compact l).map .str))]):=by
 refine ⟨Tryz.call236,fun σ β w vals hn hv hH => ?_⟩
 obtain ⟨v,rfl⟩:=w7o hn
 have hv:=hv 0 _ rfl
 have hv:RepL σ β (.hd 1000 0 l.length) v:=by simpa using hv
 have hch:=hH.chunks 1000 _ List.mem_cons_self
 have hcl:=x0k l
 rcases hch with ⟨hb0,hes⟩|⟨i,vs,hi,hsz,hh,h2,h3,h4,h5⟩
 ·have hl0:l=[]:=by simpa using hes
  subst hl0
  obtain ⟨rfl,_⟩:=z0c hv hb0
  have hc:=Any.slices_Compact_string_empty Tryz.lays194 none 0 w
  change Calls Tryz.prog 236 _ _ _ at hc
  refine hc.mono ?_
  rintro e w' ⟨rfl,rfl⟩
  exact ⟨.hd 1000 0 0,.slice none 0 0,σ,β,_,rfl,⟨rfl,rfl⟩,.hdn 1000 hb0,by simpa [Go.Lib.compact,Go.Lib.compactUpTo] using hH,by simpa [Go.Lib.compact,Go.Lib.compactUpTo] using Later.refl _ _ _ _⟩
 ·have hve:=x4n hv hi
  subst hve
  have hlt:=(hH.apart 1000 (by simp) i hi i.blk i.has_blk).2
  have hle:l.length≤vs.size:=by rw [h2,Nat.mul_one];simpa using h3
  have hcap:l.length≤i.cap:=by simpa using h3
  have hget:=fun j hj=>z2s (σ:=σ) (l:=l) h5 (j:=j) hj
  have hc:=Any.slices_Compact_string Tryz.lays194 i.blk 0 i.cap l w (fun j hj=>by
   have hj':j<l.length:=by simpa using hj
   refine ⟨?_,UV hh _⟩
   rw [HL hh,Nat.zero_add,(hget j hj').1]
   simp [hj']) (by omega) hcap
  change Calls Tryz.prog 236 _ _ _ at hc
  refine hc.mono ?_
  rintro e w' ⟨rfl,q,rfl⟩
  obtain ⟨hf,hb⟩:=q1i (enc:=encStr) (n:=q) (os := #[]) (d:=(Go.Lib.compact l++List.replicate (l.length-(Go.Lib.compact l).length) []).toArray) hh hlt
  rw [grow_empty] at hf hb
  obtain ⟨hH',hL⟩:=x1h (c' := .own 9 1 ((Go.Lib.compact l).map .str)) hH hi hf (.inr ⟨i,_,hi,hsz,hb,by rw [LT];exact h2,by simp;omega,h4,z2p (fun j hj=>by
   have:=DV (enc:=encStr) (d:=(Go.Lib.compact l++List.replicate (l.length-(Go.Lib.compact l).length) []).toArray) (vs:=vs) (by simp;omega) (k:=j) (by simp;omega)
   rw [this]
   simp [List.getElem_append_left hj]) fun s hs=>by
    obtain ⟨j,hj,rfl⟩:=List.mem_iff_getElem.1 (MU hs)
    exact (hget j hj).2⟩)
  refine ⟨.hd 1000 0 (Go.Lib.compact l).length,_,σ,β,_,rfl,⟨rfl,rfl⟩,?_,hH',hL⟩
  have:=RepL.hd (σ:=σ) (β:=β) 1000 0 (Go.Lib.compact l).length i 0 hi (by omega) (.inl (by simp))
  simpa using this
open Go.Proofs
theorem q7i {p:Pg} (hs:(QS p).1=0) {f:Pr} (hf:f∈p.procs) {t:S} (ht:t∈flL f.body):knownB p f (procsN p) t=true:=by
 obtain ⟨_,_,h⟩:=VQ hs
 have h1:=List.findSome?_eq_none_iff.1 h f hf
 unfold WM at h1
 cases hb:(XY (x5s f)||(x5s f).any fun n=>p.globals.any fun s=>n==s)<;>rw [hb] at h1
 ·simp only [cond_false,Option.map_eq_none_iff] at h1
  have:=List.find?_eq_none.1 h1 t ht
  simpa using this
 ·cases h1
theorem q3y {p:Pg} (hs:(QS p).1=0) {f:Pr} (hf:f∈p.procs) {t:S} (ht:t∈flL f.body) (hk:t.kind=4):t.proc∈procsN p∧t.proc≠mainS:=by
 have:=q7i hs hf ht
 unfold knownB at this
 simp only [Bool.and_eq_true,Bool.or_eq_true,decide_eq_true_eq] at this
 rcases this.2 with h|h
 ·exact absurd hk h
 ·simp only [Bool.not_eq_true',beq_eq_false_iff_ne,ne_eq] at h
  refine ⟨?_,h.1⟩
  obtain ⟨s,h1,h2⟩:=List.any_eq_true.1 h.2
  have:=eq_of_beq h2
  exact this▸h1
def JS (f:Pr):List Str:=((flL f.body).filter fun t=>decide (t.kind=4)).map S.proc
def UX (f:Pr):List Str:=Go.Lib.compact (UC (JS f))
theorem LG {l:List Str} {s:Str}:s∈UC l↔s∈l:=by unfold UC;simp
theorem JG (l:List Str):(UC l).length=l.length:=by unfold UC;simp
theorem q9r (f:Pr):(UX f).length≤QY f.body:=by
 have:=x0k (UC (JS f))
 rw [JG] at this
 unfold UX
 refine Nat.le_trans this ?_
 unfold JS
 rw [List.length_map,← q6z]
 exact List.length_filter_le _ _
theorem DQ {p:Pg} (hs:(QS p).1=0) {f:Pr} (hf:f∈p.procs) {s:Str} (h:s∈UX f):s∈procsN p:=by
 have h1:=LG.1 (MU h)
 obtain ⟨t,h2,rfl⟩:=List.mem_map.1 h1
 obtain ⟨h3,h4⟩:=List.mem_filter.1 h2
 exact (q3y hs hf h3 (by simpa using h4)).1
theorem q0p {p:Pg} {n:Str} (h:n∈procsN p) : ∃ (k:Nat) (hk:k<p.procs.length),q9a (fun f=>f.name==n) p.procs=k∧p.procs.find? (fun f=>f.name==n)=some p.procs[k]∧p.procs[k].name=n:=by
 have h':p.procs.any (fun f=>f.name==n)=true:=by
  obtain ⟨f,h1,h2⟩:=List.mem_map.1 h
  exact List.any_eq_true.2 ⟨f,h1,by simp [h2]⟩
 obtain ⟨k,hk,h1,h2,h3⟩:=z1s h'
 exact ⟨k,hk,h1,h3,by simpa using h2⟩
theorem x9c (p:Pg) (n:Str) (k:Nat) (hk:k<p.procs.length) (hi:q9a (fun f=>f.name==n) p.procs=k) (hc:cntP p.procs≤1000):SpecP Tryz.prog 297 [.ip (sheetOf p).cells,.str n] (fun r=>r=QD (UX p.procs[k])):=by
 refine SpecP.body x2r QQ Tryz.func297 rfl Tryz.call297 (by show 2≤_;decide) ?_
 conv=>whnf
 repeat' ((first|intro (_:_≤9223372036854775807)|(refine CallK.pure (VP _ _) (by repeat' (first|exact ArgP.nil|refine ArgP.cons ?_ ?_|exact Sub.refl _|exact Sub.tt rfl|exact Sub.ff rfl)) ?_;rintro _ rfl)|(refine CallK.pure (x9w p (j:=k) (f:=p.procs[k]'hk) (by simp) hc) (.cons (Sub.refl _) (.cons (Sub.int (by exact hi)) .nil)) ?_;rintro _ rfl));conv=>whnf)
 have hmap:=MK (k:Nat) 0 (-1) 0 (QN p.procs k) p.procs[k].body
 have hib:(itL (k:Nat) 0 (-1) 0 (QN p.procs k) p.procs[k].body).length≤1000:=by
  have:=(QJ p).2.2.2.2 k p.procs[k] (by simp)
  rw [XR]
  omega
 generalize hits:itL (k:Nat) 0 (-1) 0 (QN p.procs k) p.procs[k].body=its at hmap hib ⊢
 have hil:=WJ its
 have hraw:JS p.procs[k]=(its.filter fun it=>decide (it.s.kind=4)).map fun it=>it.s.proc:=by
  unfold JS
  rw [← hmap,List.filter_map,List.map_map]
  rfl
 refine LoopK.inv QQ (fun i:Nat×List Str=>⟨[(5,.hd 0 0 i.2.length),(12,.p (JI its)),(13,.p (.int .i64 (its.map fun i=>AV.agg i.cells).length)),(14,.p (.int .i64 i.1))],[(0,.own 9 1 (i.2.map .str))]⟩)
  (fun i=>i.1≤its.length∧i.2.length≤i.1∧i.2++((its.drop i.1).filter fun it=>decide (it.s.kind=4)).map (fun it=>it.s.proc)=JS p.procs[k]) (fun i=>its.length-i.1) (0,[])
  (Le.mk [(0,.own 9 1 [])] (by simp [Chunk.new0];rfl) (by simp) (by simp) (.cons (.nil List.mem_cons_self) (.cons (.refl _) (.cons (.refl _) (.cons (.refl _) .nil)))) (.new List.mem_cons_self .nil))
  ⟨Nat.zero_le _,Nat.le_refl _,by rw [hraw];rfl⟩ ?_
 rintro ⟨j,acc⟩ ⟨h2,h3,h4⟩
 simp only at h2 h3 h4 ⊢
 rcases Nat.lt_or_ge j its.length with hj|hj
 ·conv=>whnf
  repeat' (first|((first|refine And.intro rfl ?_|(refine And.intro ⟨by decide,by decide⟩ ?_)|refine BsK.pure (fun x hx=>by rcases List.mem_singleton.1 hx with rfl;rfl) rfl ?_|refine IdxK.map (by omega) (fun _=>rfl) ?_|refine Wr.i64 (by omega) (by omega) ?_|refine AppK.str1 (by simp) (by simp;omega) ?_);conv=>whnf)|(refine Br.dec (fun _=>?_) (fun _=>?_)<;>first|(exfalso;omega)|conv=>whnf))
  ·exact ⟨(j+1,acc++[its[j].s.proc]),⟨by simp only;omega,by simp;omega,by simp only;rw [← h4,QG hj,List.filter_cons,if_pos (by simp [*])];simp⟩,by simp only;omega,Le.of_eq (by simp only [List.length_append,List.map_append];rfl)⟩
  ·exact ⟨(j+1,acc),⟨by simp only;omega,by simp only;omega,by simp only;rw [← h4,QG hj,List.filter_cons,if_neg (by simp [*])]⟩,by simp only;omega,Le.of_eq rfl⟩
 ·have hacc:acc=JS p.procs[k]:=by
   rw [List.drop_eq_nil_of_le hj] at h4
   simpa using h4
  conv=>whnf
  repeat' (first|(refine Br.dec (fun _=>?_) (fun _=>?_)<;>first|(exfalso;omega)|conv=>whnf)|(refine CallK.heap [(1000,0)] 0 (by repeat' (first|exact ArgsH.nil|refine ArgsH.cons ?_ ?_|exact LSub.refl _|exact LSub.p Sub.nils|exact LSub.p (Sub.tt rfl)|exact LSub.p (Sub.ff rfl)|exact LSub.p (Sub.int (by omega)))) (by refine BlksH.cons (j:=0) rfl rfl ?_ ?_;exact CSub.refl _;exact BlksH.nil) (MS acc (by omega)) rfl rfl ?_;rintro l' H' ⟨rfl,rfl⟩;conv=>whnf)|(refine CallK.heap [(1000,0)] 0 (ArgsH.cons (LSub.of_eq (by rw [JG];rfl)) ArgsH.nil) (by refine BlksH.cons (j:=0) rfl rfl ?_ ?_;exact CSub.refl _;exact BlksH.nil) (NV (UC acc) (by rw [JG];omega)) rfl rfl ?_;rintro l' H' ⟨rfl,rfl⟩;conv=>whnf))
  exact ⟨_,.hd rfl (by simp),by unfold UX;rw [← hacc];rfl⟩
def WF (out:List Str):List Str→List Str
 | []=>out
 | n::r=>WF (if (out.any fun s=>n==s)=true then out else out++[n]) r
theorem MG {out l:List Str} {j:Nat} (hj:j<l.length):WF out (l.drop j)=WF (if (out.any fun s=>l[j]==s)=true then out else out++[l[j]]) (l.drop (j+1)):=by
 rw [QG hj,WF]
theorem GM {p:Pg} : ∀ (l:List Str) {out:List Str},out.Nodup→(∀ s∈out,s∈procsN p)→(∀ s∈l,s∈procsN p)→(WF out l).Nodup∧(∀ s∈WF out l,s∈procsN p) ∧ ∃ r,WF out l=out++r
 | [],out,h1,h2,_=>⟨h1,h2,[],by rw [WF];simp⟩
 | n::r,out,h1,h2,h3=>by
   rw [WF]
   split
   ·exact GM r h1 h2 fun s hs=>h3 s (List.mem_cons_of_mem _ hs)
   ·rename_i hn
    have hno:n∉out:=fun hm=>hn (List.any_eq_true.2 ⟨n,hm,by simp⟩)
    obtain ⟨h4,h5,r',h6⟩:=GM (p:=p) r (out:=out++[n]) (List.nodup_append.2 ⟨h1,by simp,fun a ha b hb=>by simp at hb;subst hb;exact fun he=>hno (he▸ha)⟩) (fun s hs=>by
     rcases List.mem_append.1 hs with hs|hs
     ·exact h2 s hs
     ·simp at hs;subst hs;exact h3 _ List.mem_cons_self) fun s hs=>h3 s (List.mem_cons_of_mem _ hs)
    exact ⟨h4,h5,n::r',by rw [h6];simp⟩
def x0n (p:Pg) (n:Str):List Str:=match p.procs.find? (fun f=>f.name==n) with
 | some f=>UX f
 | none=>[]
def WR (p:Pg):Nat→Nat→List Str→List Str
 | 0,_,out=>out
 | fuel+1,i,out=>match out[i]? with
   | some n=>WR p fuel (i+1) (WF out (x0n p n))
   | none=>out
def z3l (p:Pg) (n:Str):List Str:=UC (WR p (p.procs.length+1) 0 [n])
theorem x2k {α:Type} [BEq α] [LawfulBEq α] : ∀ {l m:List α},l.Nodup→(∀ s∈l,s∈m)→l.length≤m.length
 | [],m,_,_=>Nat.zero_le _
 | a::r,m,h1,h2=>by
   have ha:=h2 a List.mem_cons_self
   have:=x2k (l:=r) (m:=m.erase a) (List.nodup_cons.1 h1).2 fun s hs=>(List.mem_erase_of_ne fun he=>(List.nodup_cons.1 h1).1 (by rw [← he];exact hs)).2 (h2 s (List.mem_cons_of_mem _ hs))
   rw [List.length_erase_of_mem ha] at this
   have:=List.length_pos_of_mem ha
   simp only [List.length_cons]
   omega
theorem x7l {p:Pg} {n:Str} {k:Nat} (hk:k<p.procs.length) (h:p.procs.find? (fun f=>f.name==n)=some p.procs[k]):x0n p n=UX p.procs[k]:=by
 unfold x0n
 rw [h]
theorem x6p {p:Pg} (hs:(QS p).1=0) {n s:Str} (h:s∈x0n p n):s∈procsN p:=by
 unfold x0n at h
 split at h
 ·rename_i f hf
  exact DQ hs (List.mem_of_find?_eq_some hf) h
 ·cases h
theorem z7u (p:Pg) (n:Str) (hs:(QS p).1=0) (hn:n∈procsN p):SpecP Tryz.prog 265 [.ip (sheetOf p).cells,.str n] (fun r=>r=QD (z3l p n)):=by
 refine SpecP.body x9l QQ Tryz.func265 rfl Tryz.call265 (by show 2≤_;decide) ?_
 conv=>whnf
 obtain ⟨hm,hb,hns⟩:=VQ hs
 obtain ⟨hg,hpl,hcn⟩:=ZX hm
 have hnl:(procsN p).length=p.procs.length:=by simp [procsN]
 repeat' ((first|refine And.intro rfl ?_|(refine And.intro ⟨by decide,by decide⟩ ?_)|refine BsK.own (fun x hx=>by rcases List.mem_singleton.1 hx with rfl;rfl) rfl ?_);conv=>whnf)
 refine LoopK.inv QQ (fun i:Nat×List Str=>⟨[(0,.p (.ip (sheetOf p).cells)),(5,.hd 0 0 i.2.length),(6,.p (.int .i64 i.1))],[(0,.own 9 1 (i.2.map .str))]⟩)
  (fun i=>i.1≤i.2.length∧i.2.Nodup∧(∀ s∈i.2,s∈procsN p)∧WR p (p.procs.length+1-i.1) i.1 i.2=WR p (p.procs.length+1) 0 [n]) (fun i=>p.procs.length+1-i.1) (0,[n])
  (Le.of_eq rfl) ⟨Nat.zero_le _,by simp,by simpa using hn,rfl⟩ ?_
 rintro ⟨j,out⟩ ⟨h2,h3,h4,h5⟩
 simp only at h2 h3 h4 h5 ⊢
 have hol:=x2k h3 h4
 rcases Nat.lt_or_ge j out.length with hj|hj
 ·obtain ⟨k,hk,hik,hfk,hnk⟩:=q0p (h4 _ (List.getElem_mem hj))
  have hcl:=q9r p.procs[k]
  have hcc:QY p.procs[k].body≤200:=by
   have:=(QJ p).2.2.2.2 k p.procs[k] (by simp)
   omega
  conv=>whnf
  repeat' (first|((first|intro (_:_≤9223372036854775807)|refine And.intro rfl ?_|refine IdxL.mk j rfl hj ?_|refine LdOwn.mk j 0 (.str out[j]) (by omega) (by simp [hj]) ?_|(refine CallK.pure (x9c p out[j] k hk hik (by omega)) (.cons (Sub.refl _) (.cons (Sub.refl _) .nil)) ?_;rintro _ rfl));conv=>whnf)|(refine Br.dec (fun _=>?_) (fun _=>?_)<;>first|(exfalso;omega)|conv=>whnf))
  have hkn : ∀ s∈UX p.procs[k],s∈procsN p:=fun s h=>DQ hs (List.getElem_mem hk) h
  have hcN:=x7l hk hfk
  have hre:WR p (p.procs.length+1-j) j out=WR p (p.procs.length+1-(j+1)) (j+1) (WF out (UX p.procs[k])):=by
   rw [show p.procs.length+1-j=(p.procs.length+1-(j+1))+1 by omega,WR,List.getElem?_eq_getElem hj]
   simp only
   rw [hcN]
  rw [hre] at h5
  obtain ⟨hi1,hi2,rr,hi3⟩:=GM (UX p.procs[k]) h3 h4 hkn
  generalize UX p.procs[k]=cs at hkn h5 hi1 hi2 hi3 hcl ⊢
  have hcsl:(cs.map AV.str).length=cs.length:=List.length_map _
  refine LoopK.inv QQ (fun i:Nat×List Str=>⟨[(0,.p (.ip (sheetOf p).cells)),(5,.hd 0 0 i.2.length),(6,.p (.int .i64 j)),(22,.p (QD cs)),(23,.p (.int .i64 (cs.map AV.str).length)),(24,.p (.int .i64 i.1))],[(0,.own 9 1 (i.2.map .str))]⟩)
   (fun i=>i.1≤cs.length∧i.2.length≤out.length+i.1∧WF i.2 (cs.drop i.1)=WF out cs) (fun i=>cs.length-i.1) (0,out)
   (Le.of_eq rfl) ⟨Nat.zero_le _,by simp,rfl⟩ ?_
  rintro ⟨m,acc⟩ ⟨h6,h7,h8⟩
  simp only at h6 h7 h8 ⊢
  rcases Nat.lt_or_ge m cs.length with hm'|hm'
  ·conv=>whnf
   repeat' (first|((first|refine And.intro rfl ?_|(refine And.intro ⟨by decide,by decide⟩ ?_)|refine BsK.pure (fun x hx=>by rcases List.mem_singleton.1 hx with rfl;rfl) rfl ?_|refine IdxK.map (by omega) (fun _=>rfl) ?_|refine Wr.i64 (by omega) (by omega) ?_|(refine CallK.borrow (QV acc (cs[m]'hm')) (.cons (.hd rfl (by simp)) (.cons (.p (Sub.refl _)) .nil)) (by rintro _ rfl;rfl) ?_;rintro _ rfl)|refine AppK.str1 (by simp) (by simp;omega) ?_);conv=>whnf)|(refine Br.dec (fun _=>?_) (fun _=>?_)<;>first|(exfalso;omega)|conv=>whnf)|(refine Br.n (fun _=>?_) (fun _=>?_)<;>conv=>whnf))
   ·exact ⟨(m+1,acc),⟨by simp only;omega,by simp only;omega,by simp only;rw [← h8,MG hm',if_pos (by assumption)]⟩,by simp only;omega,Le.of_eq rfl⟩
   ·exact ⟨(m+1,acc++[cs[m]]),⟨by simp only;omega,by simp;omega,by simp only;rw [← h8,MG hm',if_neg (by simp [*])]⟩,by simp only;omega,Le.of_eq (by simp only [List.length_append,List.map_append];rfl)⟩
  ·rw [List.drop_eq_nil_of_le hm',WF] at h8
   subst h8
   have hge:out.length≤(WF out cs).length:=by rw [hi3];simp
   conv=>whnf
   repeat' (first|(refine Wr.i64 (by omega) (by omega) ?_;conv=>whnf)|(refine Br.dec (fun _=>?_) (fun _=>?_)<;>first|(exfalso;omega)|conv=>whnf))
   exact ⟨(j+1,WF out cs),⟨by simp only;omega,hi1,hi2,h5⟩,by simp only;omega,Le.of_eq rfl⟩
 ·have hjo:j=out.length:=by omega
  have hre:WR p (p.procs.length+1-j) j out=out:=by
   rw [show p.procs.length+1-j=(p.procs.length-j)+1 by omega,WR,List.getElem?_eq_none (by omega)]
  rw [hre] at h5
  conv=>whnf
  repeat' (first|(intro (_:_≤9223372036854775807);conv=>whnf)|(refine Br.dec (fun _=>?_) (fun _=>?_)<;>first|(exfalso;omega)|conv=>whnf)|(refine CallK.heap [(1000,0)] 0 (by repeat' (first|exact ArgsH.nil|refine ArgsH.cons ?_ ?_|exact LSub.refl _|exact LSub.p Sub.nils|exact LSub.p (Sub.tt rfl)|exact LSub.p (Sub.ff rfl)|exact LSub.p (Sub.int (by omega)))) (by refine BlksH.cons (j:=0) rfl rfl ?_ ?_;exact CSub.refl _;exact BlksH.nil) (MS out (by omega)) rfl rfl ?_;rintro l' H' ⟨rfl,rfl⟩;conv=>whnf))
  exact ⟨_,.hd rfl (by simp [JG]),by unfold z3l;rw [← h5];rfl⟩
open Go.Proofs
mutual
theorem w4u : ∀ (x:X) (out:List Str),(q9l x out).length≤out.length+wX x
 | .mk op n name kids,out=>by
   rw [q9l,wX]
   have:=z9s kids (if op=2∧(out.any fun s=>name==s)=false then out++[name] else out)
   split at this
   ·rename_i h;rw [if_pos h];simp at this;omega
   ·rename_i h;rw [if_neg h];omega
theorem z9s : ∀ (l:List X) (out:List Str),(GY l out).length≤out.length+wXs l
 | [],out=>by rw [GY];omega
 | x::r,out=>by
   have h1:=w4u x out
   have h2:=z9s r (q9l x out)
   rw [GY,wXs]
   omega
end
theorem z1v (x:X):(WV x).length≤wX x:=by
 unfold WV
 have:=w4u x []
 cases z7k x<;>simp at this ⊢
 exact this
theorem q7c : ∀ l:List Arg,(l.flatMap UO).length≤x1l l
 | []=>by simp
 | a::r=>by
   have h1:=q7c r
   have h2:=z1v a.x
   simp only [List.flatMap_cons,List.length_append,x1l]
   have h3:(UO a).length≤1+(WV a.x).length:=by
    unfold UO
    cases a.ref<;>simp
    omega
   omega
theorem z1o (t:S):(ZT t).length≤wS t:=by
 have h1:=q7c t.args
 have h2:=z1v t.x
 rw [x2l]
 have h3:(FK t).length≤1+(WV t.x).length:=by
  unfold FK
  cases (decide (t.kind≠10) && !(t.name==[]):Bool)<;>simp
  omega
 unfold ZT
 rw [List.length_append]
 omega
theorem Sub.tt' {b:Bool} (h:b=true):Sub (.bool b) .tt:=fun _ _ hr=>by subst h;cases hr;exact .tt
theorem x8l (p:Pg) (hf:Fit p) (hs:(QS p).1=0) (n:Str) (hn:n∈procsN p):SpecP Tryz.prog 264 [.agg p.cells,.str n] (fun r=>r = .tt):=by
 refine SpecP.body x3h QQ Tryz.func264 rfl Tryz.call264 (by show 2≤_;decide) ?_
 conv=>whnf
 repeat' (first|((first|(refine CallK.pure (JN p hf) (by repeat' (first|exact ArgP.nil|refine ArgP.cons ?_ ?_|exact Sub.refl _|exact Sub.tt rfl|exact Sub.ff rfl|exact Sub.int (by omega))) ?_;rintro _ rfl)|(refine CallK.pure (WG p.procs 296 (.ip [.str n]) (fun f=>f.name==n) (x2o n)) (.cons (Sub.refl _) (.cons (Sub.refl _) .nil)) ?_;rintro _ rfl));conv=>whnf)|(refine Br.dec (fun _=>?_) (fun _=>?_)<;>first|(exfalso;omega)|conv=>whnf))
 have:p.procs.any (fun f=>f.name==n)=true:=by
  obtain ⟨f,h1,h2⟩:=List.mem_map.1 hn
  exact List.any_eq_true.2 ⟨f,h1,by simp [h2]⟩
 exact ⟨_,.p (Sub.tt' this),rfl⟩
def q8m (p:Pg) (t:S):List Str:=(ZT t).filter fun v=>p.globals.any fun s=>v==s
def q3g (p:Pg) (n:Str):List Str:=match p.procs.find? (fun f=>f.name==n) with
 | some f=>(flL f.body).flatMap (q8m p)
 | none=>[]
def UU (p:Pg) (n:Str):List Str:=(z3l p n).flatMap (q3g p)
def UK (p:Pg) (n:Str):List Str:=Go.Lib.compact (UC (UU p n))
theorem x0i {p:Pg} (hs:(QS p).1=0) : ∀ (fuel i:Nat) (out:List Str),out.Nodup→(∀ s∈out,s∈procsN p)→(WR p fuel i out).Nodup ∧ ∀ s∈WR p fuel i out,s∈procsN p
 | 0,i,out,h1,h2=>by rw [WR];exact ⟨h1,h2⟩
 | fuel+1,i,out,h1,h2=>by
   rw [WR]
   split
   ·obtain ⟨h3,h4,_⟩:=GM (x0n p _) h1 h2 fun s h=>x6p hs h
    exact x0i hs fuel (i+1) _ h3 h4
   ·exact ⟨h1,h2⟩
theorem z0h {p:Pg} (hs:(QS p).1=0) {n:Str} (hn:n∈procsN p):(z3l p n).length≤p.procs.length ∧ ∀ s∈z3l p n,s∈procsN p:=by
 obtain ⟨h1,h2⟩:=x0i hs (p.procs.length+1) 0 [n] (by simp) (by simpa using hn)
 unfold z3l
 rw [JG]
 refine ⟨?_,fun s h=>h2 s (LG.1 h)⟩
 have:=x2k h1 h2
 simpa [procsN] using this
theorem VG {α β:Type} {f:α→List β} {l:List α} {j:Nat} (hj:j<l.length):(l.drop j).flatMap f=f l[j]++(l.drop (j+1)).flatMap f:=by
 rw [QG hj,List.flatMap_cons]
theorem x2f (p:Pg) (hf:Fit p) (hs:(QS p).1=0) (n:Str) (hn:n∈procsN p):SpecP Tryz.prog 199 [.agg p.cells,.str n] (fun r=>r=QD (UK p n)):=by
 refine SpecP.body q5s QQ Tryz.func199 rfl Tryz.call199 (by show 2≤_;decide) ?_
 conv=>whnf
 obtain ⟨hm,hb,hns⟩:=VQ hs
 obtain ⟨hg,hpl,hcn⟩:=ZX hm
 repeat' ((first|intro (_:_≤9223372036854775807)|(refine CallK.pure (x8l p hf hs n hn) (by repeat' (first|exact ArgP.nil|refine ArgP.cons ?_ ?_|exact Sub.refl _|exact Sub.tt rfl|exact Sub.ff rfl|exact Sub.int (by omega))) ?_;rintro _ rfl)|(refine CallK.pure (z7u p n hs hn) (by repeat' (first|exact ArgP.nil|refine ArgP.cons ?_ ?_|exact Sub.refl _|exact Sub.tt rfl|exact Sub.ff rfl|exact Sub.int (by omega))) ?_;rintro _ rfl)|(refine CallK.pure (YK p (by omega) (by omega)) (.cons (Sub.refl _) .nil) ?_;rintro _ rfl));conv=>whnf)
 obtain ⟨hal,hak⟩:=z0h hs hn
 have hgl:UK p n=Go.Lib.compact (UC (UU p n)):=rfl
 have hgr:UU p n=(z3l p n).flatMap (q3g p):=rfl
 rw [hgl]
 generalize z3l p n=ns at hal hak hgr ⊢
 have hnl:(ns.map AV.str).length=ns.length:=List.length_map _
 refine LoopK.inv QQ (fun i:Nat×List Str=>⟨[(2,.p (.ip p.cells)),(5,.p (.ip (sheetOf p).cells)),(6,.hd 0 0 i.2.length),(21,.p (QD ns)),(22,.p (.int .i64 (ns.map AV.str).length)),(23,.p (.int .i64 i.1))],[(0,.own 9 1 (i.2.map .str))]⟩)
  (fun i=>i.1≤ns.length∧i.2.length≤4000000*i.1∧i.2++(ns.drop i.1).flatMap (q3g p)=UU p n) (fun i=>ns.length-i.1) (0,[])
  (Le.mk [(0,.own 9 1 [])] (by simp [Chunk.new0];rfl) (by simp) (by simp) (.cons (.refl _) (.cons (.refl _) (.cons (.nil List.mem_cons_self) (.cons (.refl _) (.cons (.refl _) (.cons (.refl _) .nil)))))) (.new List.mem_cons_self .nil))
  ⟨Nat.zero_le _,by simp,by rw [hgr];rfl⟩ ?_
 rintro ⟨j,acc⟩ ⟨h2,h3,h4⟩
 simp only at h2 h3 h4 ⊢
 rcases Nat.lt_or_ge j ns.length with hj|hj
 rotate_left 1
 ·have hacc:acc=UU p n:=by
   rw [List.drop_eq_nil_of_le hj] at h4
   simpa using h4
  rw [← hacc]
  conv=>whnf
  repeat' (first|(refine Br.dec (fun _=>?_) (fun _=>?_)<;>first|(exfalso;omega)|conv=>whnf)|(refine CallK.heap [(1000,0)] 0 (by repeat' (first|exact ArgsH.nil|refine ArgsH.cons ?_ ?_|exact LSub.refl _|exact LSub.p Sub.nils|exact LSub.p (Sub.tt rfl)|exact LSub.p (Sub.ff rfl)|exact LSub.p (Sub.int (by omega)))) (by refine BlksH.cons (j:=0) rfl rfl ?_ ?_;exact CSub.refl _;exact BlksH.nil) (MS acc (by omega)) rfl rfl ?_;rintro l' H' ⟨rfl,rfl⟩;conv=>whnf)|(refine CallK.heap [(1000,0)] 0 (ArgsH.cons (LSub.of_eq (by rw [JG];rfl)) ArgsH.nil) (by refine BlksH.cons (j:=0) rfl rfl ?_ ?_;exact CSub.refl _;exact BlksH.nil) (NV (UC acc) (by rw [JG];omega)) rfl rfl ?_;rintro l' H' ⟨rfl,rfl⟩;conv=>whnf))
  exact ⟨_,.hd rfl (by simp),rfl⟩
 obtain ⟨k,hk,hik,hfk,hnk⟩:=q0p (hak _ (List.getElem_mem hj))
 have hgn:q3g p ns[j]=(flL p.procs[k].body).flatMap (q8m p):=by unfold q3g;rw [hfk]
 rw [VG hj,hgn] at h4
 have hfp:=hf.pr (List.getElem_mem hk)
 have hpk:p.procs[k]? = some p.procs[k]:=by simp
 conv=>whnf
 repeat' (first|((first|intro (_:_≤9223372036854775807)|(refine CallK.pure (VP _ _) (by repeat' (first|exact ArgP.nil|refine ArgP.cons ?_ ?_|exact Sub.refl _|exact Sub.tt rfl|exact Sub.ff rfl)) ?_;rintro _ rfl)|refine IdxK.map (by omega) (fun _=>rfl) ?_|(refine CallK.pure (x9w p (j:=k) (f:=p.procs[k]'hk) hpk (by omega)) (.cons (Sub.refl _) (.cons (Sub.int (by exact hik)) .nil)) ?_;rintro _ rfl));conv=>whnf)|(refine Br.dec (fun _=>?_) (fun _=>?_)<;>first|(exfalso;omega)|conv=>whnf))
 have hmap:=MK (k:Nat) 0 (-1) 0 (QN p.procs k) p.procs[k].body
 have hargs : ∀ m (hm:m<(itL (k:Nat) 0 (-1) 0 (QN p.procs k) p.procs[k].body).length),wS (itL (k:Nat) 0 (-1) 0 (QN p.procs k) p.procs[k].body)[m].s≤20000:=fun m hm=>by
  have hmm:(itL (k:Nat) 0 (-1) 0 (QN p.procs k) p.procs[k].body)[m].s∈flL p.procs[k].body:=by
   rw [← hmap]
   exact List.mem_map.2 ⟨_,List.getElem_mem hm,rfl⟩
  have:=q6p _ _ hmm
  unfold wPr at hfp
  omega
 have hib:(itL (k:Nat) 0 (-1) 0 (QN p.procs k) p.procs[k].body).length≤200:=by
  have:=(QJ p).2.2.2.2 k p.procs[k] hpk
  rw [XR]
  omega
 rw [← hmap] at h4
 generalize hits:itL (k:Nat) 0 (-1) 0 (QN p.procs k) p.procs[k].body=its at hargs hib h4 ⊢
 have hil:=WJ its
 refine LoopK.inv QQ (fun i:Nat×List Str=>⟨[(2,.p (.ip p.cells)),(5,.p (.ip (sheetOf p).cells)),(6,.hd 0 0 i.2.length),(21,.p (QD ns)),(22,.p (.int .i64 (ns.map AV.str).length)),(23,.p (.int .i64 j)),(31,.p (JI its)),(32,.p (.int .i64 (its.map fun i=>AV.agg i.cells).length)),(33,.p (.int .i64 i.1))],[(0,.own 9 1 (i.2.map .str))]⟩)
  (fun i=>i.1≤its.length∧i.2.length≤acc.length+20000*i.1∧i.2++(((its.drop i.1).map Item.s).flatMap (q8m p)++(ns.drop (j+1)).flatMap (q3g p))=UU p n) (fun i=>its.length-i.1) (0,acc)
  (Le.of_eq rfl) ⟨Nat.zero_le _,by simp,h4⟩ ?_
 rintro ⟨m,acc2⟩ ⟨h6,h7,h8⟩
 simp only at h6 h7 h8 ⊢
 rcases Nat.lt_or_ge m its.length with hm'|hm'
 rotate_left 1
 ·rw [List.drop_eq_nil_of_le hm'] at h8
  conv=>whnf
  repeat' (first|(refine Wr.i64 (by omega) (by omega) ?_;conv=>whnf)|(refine Br.dec (fun _=>?_) (fun _=>?_)<;>first|(exfalso;omega)|conv=>whnf))
  exact ⟨(j+1,acc2),⟨by simp only;omega,by simp only;omega,by simpa using h8⟩,by simp only;omega,Le.of_eq rfl⟩
 have hw:=hargs m hm'
 have hna:its[m].s.args.length≤20000:=by
  have:=x2l its[m].s
  have:=JV its[m].s.args
  omega
 have hnw:=z1o its[m].s
 rw [List.drop_eq_getElem_cons hm',List.map_cons,List.flatMap_cons,List.append_assoc] at h8
 have hgt:q8m p its[m].s=(ZT its[m].s).filter fun v=>p.globals.any fun s=>v==s:=rfl
 conv=>whnf
 repeat' (first|((first|intro (_:_≤9223372036854775807)|(refine CallK.pure (q9k _ hna) (by repeat' (first|exact ArgP.nil|refine ArgP.cons ?_ ?_|exact Sub.refl _|exact Sub.tt rfl|exact Sub.ff rfl|exact Sub.int (by omega))) ?_;rintro _ rfl)|refine And.intro rfl ?_|refine IdxK.map (by omega) (fun _=>rfl) ?_);conv=>whnf)|(refine Br.dec (fun _=>?_) (fun _=>?_)<;>first|(exfalso;omega)|conv=>whnf))
 rw [hgt] at h8
 generalize ZT its[m].s=vs at hnw h8 ⊢
 have hvl:(vs.map AV.str).length=vs.length:=List.length_map _
 refine LoopK.inv QQ (fun i:Nat×List Str=>⟨[(2,.p (.ip p.cells)),(5,.p (.ip (sheetOf p).cells)),(6,.hd 0 0 i.2.length),(21,.p (QD ns)),(22,.p (.int .i64 (ns.map AV.str).length)),(23,.p (.int .i64 j)),(31,.p (JI its)),(32,.p (.int .i64 (its.map fun i=>AV.agg i.cells).length)),(33,.p (.int .i64 m)),(39,.p (QD vs)),(40,.p (.int .i64 (vs.map AV.str).length)),(41,.p (.int .i64 i.1))],[(0,.own 9 1 (i.2.map .str))]⟩)
  (fun i=>i.1≤vs.length∧i.2.length≤acc2.length+i.1∧i.2++((vs.drop i.1).filter (fun v=>p.globals.any fun s=>v==s)++(((its.drop (m+1)).map Item.s).flatMap (q8m p)++(ns.drop (j+1)).flatMap (q3g p)))=UU p n) (fun i=>vs.length-i.1) (0,acc2)
  (Le.of_eq rfl) ⟨Nat.zero_le _,by simp,h8⟩ ?_
 rintro ⟨q,acc3⟩ ⟨h9,h10,h11⟩
 simp only at h9 h10 h11 ⊢
 rcases Nat.lt_or_ge q vs.length with hq|hq
 ·rw [List.drop_eq_getElem_cons hq,List.filter_cons] at h11
  conv=>whnf
  repeat' (first|((first|(refine CallK.pure (QV _ _) (by repeat' (first|exact ArgP.nil|refine ArgP.cons ?_ ?_|exact Sub.refl _|exact Sub.tt rfl|exact Sub.ff rfl)) ?_;rintro _ rfl)|refine And.intro rfl ?_|(refine And.intro ⟨by decide,by decide⟩ ?_)|refine BsK.pure (fun x hx=>by rcases List.mem_singleton.1 hx with rfl;rfl) rfl ?_|refine IdxK.map (by omega) (fun _=>rfl) ?_|refine Wr.i64 (by omega) (by omega) ?_|refine AppK.str1 (by simp) (by simp;omega) ?_);conv=>whnf)|(refine Br.dec (fun _=>?_) (fun _=>?_)<;>first|(exfalso;omega)|conv=>whnf)|(refine Br.b (fun _=>?_) (fun _=>?_)<;>conv=>whnf))
  ·exact ⟨(q+1,acc3++[vs[q]]),⟨by simp only;omega,by simp;omega,by rw [if_pos (by assumption)] at h11;simpa using h11⟩,by simp only;omega,Le.of_eq (by simp only [List.length_append,List.map_append];rfl)⟩
  ·exact ⟨(q+1,acc3),⟨by simp only;omega,by simp only;omega,by rw [if_neg (by simp [*])] at h11;exact h11⟩,by simp only;omega,Le.of_eq rfl⟩
 ·rw [List.drop_eq_nil_of_le hq] at h11
  conv=>whnf
  repeat' (first|(refine Wr.i64 (by omega) (by omega) ?_;conv=>whnf)|(refine Br.dec (fun _=>?_) (fun _=>?_)<;>first|(exfalso;omega)|conv=>whnf))
  exact ⟨(m+1,acc3),⟨by simp only;omega,by simp only;omega,by simpa using h11⟩,by simp only;omega,Le.of_eq rfl⟩
section
variable {P:Program} {T:Tab} {N:Nat}
def NB (s:List UInt8):Value := .string ⟨s.toArray⟩
def w5m (l:List (List UInt8×AV)):XC := .map (l.map fun x=>(NB x.1,x.2))
def x7c (l:List (List UInt8×AV)) (k:List UInt8) (v:AV):List (List UInt8×AV) :=
 match l with
 | []=>[(k,v)]
 | x::r=>if k=x.1 then (x.1,v)::r else x::x7c r k v
def w7g (l:List (List UInt8×AV)) (k:List UInt8):Option AV:=(l.find? fun x=>decide (k=x.1)).map (·.2)
theorem OpK.makeMap {s:St} {o:Oper} {K:St→Prop} {t:TypeId} (hop:o.op = .makeMap t none)
  (h:DS 60 0 s fun k=>setD N s.sl o.dst (.ext k .map) fun sl=>K ⟨sl,(k,.ext (w5m []))::s.H⟩):OpK P N s o K:=by
 refine ⟨fun σ β a w hr Q => ?_⟩
 obtain ⟨k,hk,h⟩:=JF h
 have hchunk:(Chunk.ext (w5m [])).holds σ (β.set k (some ⟨w.heap.size,0,0,[],Nat.zero_le _⟩)) (w.alloc (.map #[] 0)) k :=
  ⟨⟨w.heap.size,0,0,[],Nat.zero_le _⟩,#[],0,by simp [Lab.set],heap_alloc_new w _,rfl,by simp⟩
 obtain ⟨hr',hl⟩:=hr.new hk rfl rfl hchunk
 obtain ⟨sl,hK,hr''⟩:=hr'.setD (v := .ext k .map) (u := .map (some w.heap.size)) (.ext k .map ⟨w.heap.size,0,0,[],Nat.zero_le _⟩ _ (by simp [Lab.set]) rfl) h
 exact VB (w':=w.alloc (.map #[] 0)) (by simp [execOp,hop,Instr.makeMap]) ⟨σ,_,_,hK,hr'',hl⟩
theorem x6g (a b:List UInt8):((⟨a.toArray⟩:ByteArray)==⟨b.toArray⟩)=decide (a=b):=by
 show (a.toArray==b.toArray)=decide (a=b)
 by_cases h:a=b
 ·subst h;simp
 ·simp [h]
theorem q7p (k:List UInt8) : ∀ (es:List MapEntry) (l:List (List UInt8×AV)) (i:Nat),es.map (·.key)=l.map (fun x=>NB x.1) →
  Instr.findNow .string (NB k) es i=some (match l.findIdx? fun x=>decide (k=x.1) with
   | some j=>some (i+j,(es[j]?.map (·.val)).getD undef)
   | none=>none)
 | [],[],_,_=>rfl
 | [],_::_,_,h=>by cases h
 | _::_,[],_,h=>by cases h
 | e::es,x::l,i,h=>by
   simp only [List.map_cons,List.cons.injEq] at h
   have hs:Instr.sameNow .string (NB k) e.key=some (decide (k=x.1)):=by
    rw [h.1]
    show some ((⟨k.toArray⟩:ByteArray)==⟨x.1.toArray⟩)=_
    rw [x6g]
   rw [Instr.findNow,hs,List.findIdx?_cons]
   by_cases hk:k=x.1
   ·simp [hk]
   ·simp only [hk,decide_false]
    rw [q7p k es l (i+1) h.2]
    cases l.findIdx? fun x=>decide (k=x.1) with
    | none=>rfl
    | some j=>simp;omega
theorem q3l {σ:Mem} {l:List (List UInt8×AV)} {es:Array MapEntry} (h1:es.size=(l.map fun x=>(NB x.1,x.2)).length) (h2 : ∀ (m:Nat) (x:Value×AV),(l.map fun x=>(NB x.1,x.2))[m]? = some x → ∃ e:MapEntry,es[m]? = some e∧e.key=x.1∧Rep σ x.2 e.val) :
  es.toList.map (·.key)=l.map (fun x=>NB x.1):=by
 apply List.ext_getElem?
 intro m
 rw [List.getElem?_map,List.getElem?_map]
 cases hq:l[m]? with
 | none =>
   have:es.toList[m]? = none:=by
    rw [List.getElem?_eq_none_iff] at hq ⊢
    simp at h1 ⊢
    omega
   rw [this];rfl
 | some x =>
   obtain ⟨e,h3,h4,_⟩:=h2 m (NB x.1,x.2) (by simp [hq])
   have h3':es.toList[m]? = some e:=by simpa using h3
   rw [h3']
   simp [h4]
theorem q2z {P:Program} {t:TypeId} (ht:P.underlying t=some .string) (b:Bool) (k:List UInt8) (w:World):(Instr.checkKey b 10000 t (NB k)).run P w = .ok () w:=by
 have e:Instr.checkKey b 10000 t (NB k)=Instr.checkKey b (9999+1) t (NB k):=rfl
 rw [e,Instr.checkKey,Sem.run_bind,run_underlying ht,Result.andThen_ok]
 rfl
theorem w3m {σ:Mem} {β:Lab} {l:List UInt8} {v:Value} (h:RepL σ β (.p (.str l)) v):v=NB l:=h.strV.1
theorem q3w {P:Program} {w:World} {r:Nat} {es:Array MapEntry} {clock:Nat} (h:w.heap[r]? = some (.map es clock)):(getObj r).run P w = .ok (.map es clock) w:=by simp [getObj,Sem.run,h]
theorem x0r {P:Program} {w:World} {r:Nat} {es:Array MapEntry} {clock:Nat} (o:Obj) (h:w.heap[r]? = some (.map es clock)):(setObj r o).run P w = .ok () { w with heap:=w.heap.setIfInBounds r o }:=by simp [setObj,Sem.run,h]
theorem OpK.lookup (hT:TabOK P T) {s:St} {o:Oper} {K:St→Prop} {t:TypeId} {x ix:Operand} (hop:o.op = .lookup t x ix false) {k:Nat} (hx:QI s.sl x = .ext k .map) {l:List (List UInt8×AV)} (hg:getH s.H k=some (.ext (w5m l)))
  {ks:List UInt8} (hk:QI s.sl ix = .p (.str ks)) {i ik:TyI} {kt et:TypeId} (ht:T.get t=some i) (hd:i.desc = .map kt et) (htk:T.get kt=some ik) (hdk:ik.desc = .string) {v:AV} (hv:w7g l ks=some v)
  (h:setD N s.sl o.dst (.p v) fun sl=>K ⟨sl,s.H⟩):OpK P N s o K:=by
 refine ⟨fun σ β a w hr Q => ?_⟩
 have hx':=QU hr.slots x
 have hk':=QU hr.slots ix
 rw [hx] at hx'
 rw [hk] at hk'
 have hkv:=w3m hk'
 generalize hxe:a.eval x=xv at hx'
 cases hx' with
 | ext _ _ bi _ hbi hd' =>
   obtain rfl:xv = .map (some bi.blk):=hd'
   obtain ⟨bi',es,clock,hbi',hh,h1,h2⟩:=hr.heap.chunks k _ (QP hg)
   rw [hbi] at hbi';cases hbi'
   have hkeys:=q3l h1 h2
   have hu:=hT.of ht
   have huk:=hT.of htk
   rw [hd] at hu
   rw [hdk] at huk
   obtain ⟨j,hj,hjv⟩ : ∃ j,(l.findIdx? fun x=>decide (ks=x.1))=some j ∧ ∃ x,l[j]? = some x∧x.2=v:=by
    unfold w7g at hv
    cases hf:l.find? fun x=>decide (ks=x.1) with
    | none=>rw [hf] at hv;cases hv
    | some x =>
      rw [hf] at hv
      cases hv
      obtain ⟨h3,j,hlt,h4,h5⟩:=List.find?_eq_some_iff_getElem.1 hf
      refine ⟨j,?_,x,by rw [List.getElem?_eq_getElem hlt,h4],rfl⟩
      rw [List.findIdx?_eq_some_iff_getElem]
      exact ⟨hlt,by rw [h4];exact h3,fun i hi=>by simpa using h5 i hi⟩
   obtain ⟨y,hjl,rfl⟩:=hjv
   obtain ⟨e,h3,h4,h5⟩:=h2 j (NB y.1,y.2) (by simp [hjl])
   have hfind:=q7p ks es.toList l 0 hkeys
   rw [hj] at hfind
   have h3':es.toList[j]? = some e:=by simpa using h3
   simp only [h3',Option.map_some,Option.getD_some] at hfind
   have hrun:(execOp a.eval o).run P w = .ok (.value e.val) w:=by
    have hfk:(Instr.findKey kt (NB ks) es.toList).run P w = .ok (some (0+j,e.val)) w:=by
     unfold Instr.findKey
     rw [Sem.run_bind,run_underlying huk,Result.andThen_ok,hfind]
     rfl
    have hlk:(Instr.lookup t (.map (some bi.blk)) (NB ks) false).run P w = .ok e.val w:=by
     unfold Instr.lookup
     rw [Sem.run_bind,run_underlying hu,Result.andThen_ok]
     simp only [Sem.run_bind,q3w hh,Result.andThen_ok,Sem.run_pure,q2z huk,hfk]
     rfl
    simp only [execOp,hop,hxe,hkv,Sem.run_bind,hlk,Result.andThen_ok]
    rfl
   obtain ⟨sl,hK,hr'⟩:=hr.setD (.p h5) h
   exact VB hrun ⟨σ,β,_,hK,hr',Later.refl _ _ _ _⟩
theorem x7p {l:List (List UInt8×AV)} {k:List UInt8} {v:AV} (h:(l.findIdx? fun x=>decide (k=x.1))=none):x7c l k v=l++[(k,v)]:=by
 induction l with
 | nil=>rfl
 | cons x r ih =>
   rw [List.findIdx?_cons] at h
   by_cases hk:k=x.1
   ·simp [hk] at h
   ·simp [hk] at h
    rw [x7c,if_neg hk,ih (by simpa using h)]
    rfl
theorem z9b {l:List (List UInt8×AV)} {k:List UInt8} {v:AV} {j:Nat} (h:(l.findIdx? fun x=>decide (k=x.1))=some j) : ∃ x,l[j]? = some x∧x7c l k v=l.set j (x.1,v):=by
 induction l generalizing j with
 | nil=>cases h
 | cons x r ih =>
   rw [List.findIdx?_cons] at h
   by_cases hk:k=x.1
   ·simp [hk] at h
    subst h
    exact ⟨x,rfl,by rw [x7c,if_pos hk];rfl⟩
   ·simp [hk] at h
    obtain ⟨j',h1,rfl⟩:=h
    obtain ⟨y,h2,h3⟩:=ih h1
    exact ⟨y,by simpa using h2,by rw [x7c,if_neg hk,h3];rfl⟩
theorem OpK.mapUpdate (hT:TabOK P T) {s:St} {o:Oper} {K:St→Prop} {t:TypeId} {x ix vx:Operand} (hop:o.op = .mapUpdate t x ix vx) (hdst:o.dst=none) {k:Nat} (hx:QI s.sl x = .ext k .map) {l:List (List UInt8×AV)} (hg:getH s.H k=some (.ext (w5m l)))
  {ks:List UInt8} (hk:QI s.sl ix = .p (.str ks)) {v:AV} (hvx:QI s.sl vx = .p v) {i ik:TyI} {kt et:TypeId} (ht:T.get t=some i) (hd:i.desc = .map kt et) (htk:T.get kt=some ik) (hdk:ik.desc = .string)
  (h:x2x s.H k (.ext (w5m (x7c l ks v))) fun H=>K ⟨s.sl,H⟩):OpK P N s o K:=by
 refine ⟨fun σ β a w hr Q => ?_⟩
 have hx':=QU hr.slots x
 have hk':=QU hr.slots ix
 have hv':=QU hr.slots vx
 rw [hx] at hx'
 rw [hk] at hk'
 rw [hvx] at hv'
 have hkv:=w3m hk'
 generalize hxe:a.eval x=xv at hx'
 generalize hve:a.eval vx=vv at hv'
 cases hv' with
 | p hvr =>
 cases hx' with
 | ext _ _ bi _ hbi hd' =>
   obtain rfl:xv = .map (some bi.blk):=hd'
   obtain ⟨bi',es,clock,hbi',hh,h1,h2⟩:=hr.heap.chunks k _ (QP hg)
   rw [hbi] at hbi';cases hbi'
   have hkeys:=q3l h1 h2
   have hu:=hT.of ht
   have huk:=hT.of htk
   rw [hd] at hu
   rw [hdk] at huk
   have hfind:=q7p ks es.toList l 0 hkeys
   have hlab:=XQ hg
   have hlt:=(hr.heap.apart k hlab bi hbi bi.blk bi.has_blk).2
   obtain ⟨es',clock',hrun,hsz,hent⟩ : ∃ es' clock',(Instr.mapUpdate t (.map (some bi.blk)) (NB ks) vv).run P w = .ok () { w with heap:=w.heap.setIfInBounds bi.blk (.map es' clock') }∧es'.size=(x7c l ks v).length ∧
     ∀ (m:Nat) (x:Value×AV),((x7c l ks v).map fun x=>(NB x.1,x.2))[m]? = some x → ∃ e:MapEntry,es'[m]? = some e∧e.key=x.1∧Rep σ x.2 e.val:=by
    cases hj:l.findIdx? fun x=>decide (ks=x.1) with
    | none =>
      rw [hj] at hfind
      refine ⟨es.push { key:=NB ks,val:=vv,born:=clock },clock+1,?_,?_,fun m y hy => ?_⟩
      ·have hfk:(Instr.findKey kt (NB ks) es.toList).run P w = .ok none w:=by
        unfold Instr.findKey
        rw [Sem.run_bind,run_underlying huk,Result.andThen_ok,hfind]
        rfl
       unfold Instr.mapUpdate
       rw [Sem.run_bind,run_underlying hu,Result.andThen_ok]
       simp only [Sem.run_bind,q3w hh,Result.andThen_ok,Sem.run_pure,q2z huk,hfk,x0r _ hh]
      ·rw [x7p hj];simpa using h1
      ·rw [x7p hj] at hy
       simp only [List.length_map] at h1
       rw [List.map_append,List.getElem?_append] at hy
       split at hy
       ·rename_i hm
        obtain ⟨e,h3,h4⟩:=h2 m y hy
        simp only [List.length_map] at hm
        exact ⟨e,by rw [Array.getElem?_push,if_neg (by omega)];exact h3,h4⟩
       ·rename_i hm
        simp only [List.length_map] at hm hy
        have hm0:m-l.length=0:=by
         have:=(List.getElem?_eq_some_iff.1 hy).1
         simp at this
         omega
        rw [hm0] at hy
        simp at hy
        subst hy
        exact ⟨{ key:=NB ks,val:=vv,born:=clock },by rw [Array.getElem?_push,if_pos (by omega)],rfl,hvr⟩
    | some j =>
      rw [hj] at hfind
      obtain ⟨y,hy1,hy2⟩:=z9b (v:=v) hj
      obtain ⟨e,h3,h4,h5⟩:=h2 j (NB y.1,y.2) (by simp [hy1])
      have hky:ks=y.1:=by
       obtain ⟨hlt,h6,_⟩:=List.findIdx?_eq_some_iff_getElem.1 hj
       rw [List.getElem?_eq_getElem hlt] at hy1
       cases hy1
       simpa using h6
      have h3':es.toList[j]? = some e:=by simpa using h3
      have hjlt:j<es.size:=(Array.getElem?_eq_some_iff.1 h3).1
      simp only [h3',Option.map_some,Option.getD_some,Nat.zero_add] at hfind
      have hek:e.key=NB ks:=by rw [h4,hky]
      refine ⟨es.modify j fun e=>{ e with key:=NB ks,val:=vv },clock,?_,?_,fun m z hz => ?_⟩
      ·have hfk:(Instr.findKey kt (NB ks) es.toList).run P w = .ok (some (j,e.val)) w:=by
        unfold Instr.findKey
        rw [Sem.run_bind,run_underlying huk,Result.andThen_ok,hfind]
        rfl
       have hkt:(Instr.keyThatStays (((es[j]?).map (·.key)).getD (NB ks)) (NB ks)).run P w = .ok (NB ks) w:=by
        rw [h3]
        simp only [Option.map_some,Option.getD_some,hek]
        unfold Instr.keyThatStays
        have:Instr.sameBits 10000 (NB ks) (NB ks)=true:=by
         unfold NB
         show ((⟨ks.toArray⟩:ByteArray)==⟨ks.toArray⟩)=true
         rw [x6g]
         simp
        rw [if_pos this]
        rfl
       unfold Instr.mapUpdate
       rw [Sem.run_bind,run_underlying hu,Result.andThen_ok]
       simp only [Sem.run_bind,q3w hh,Result.andThen_ok,Sem.run_pure,q2z huk,hfk,hkt,x0r _ hh]
      ·rw [hy2];simpa using h1
      ·rw [hy2,List.map_set] at hz
       by_cases hm:m=j
       ·subst hm
        rw [List.getElem?_set_self (by simp at h1 ⊢;omega)] at hz
        cases hz
        exact ⟨{ e with key:=NB ks,val:=vv },by simp [Array.getElem?_modify,h3],by rw [hky],hvr⟩
       ·rw [List.getElem?_set_ne (Ne.symm hm)] at hz
        obtain ⟨e',h6,h7⟩:=h2 m z hz
        exact ⟨e',by rw [Array.getElem?_modify,if_neg (Ne.symm hm)];exact h6,h7⟩
   have hrun':(execOp a.eval o).run P w = .ok .skip { w with heap:=w.heap.setIfInBounds bi.blk (.map es' clock') }:=by
    simp only [execOp,hop,hxe,hkv,hve,Sem.run_bind,hrun,Result.andThen_ok]
    rfl
   obtain ⟨H',hK,h3,h4,h5⟩:=GZ hr.heap.nodup h
   have hot : ∀ b,b≠bi.blk→({ w with heap:=w.heap.setIfInBounds bi.blk (.map es' clock') }:World).heap[b]? = w.heap[b]? := fun b hb=>Array.getElem?_setIfInBounds_ne (Ne.symm hb)
   have hheap:HRel σ β H' { w with heap:=w.heap.setIfInBounds bi.blk (.map es' clock') }:=by
    refine ⟨fun b c hb => ?_,fun j c hj => ?_,by rw [h3];exact hr.heap.nodup,fun j hj i' hi' b hb => ?_,fun j hj j' hj'=>hr.heap.inj j (h3▸hj) j' (h3▸hj')⟩
    ·obtain ⟨e,fr,h6⟩:=hr.heap.mem b c hb
     exact ⟨e,fr,(hot b fun he=>by rw [he,hh] at h6;cases h6).trans h6⟩
    ·by_cases hjk:j=k
     ·subst hjk
      rw [h5 c hj]
      exact ⟨bi,es',clock',hbi,by simp [hlt],by simpa using hsz,hent⟩
     ·have hm:=h4 j c hj hjk
      exact (hr.heap.chunks j c hm).mono (Mem.le_refl σ) fun i' hi' b hb=>hot b fun he=>hjk (hr.heap.inj j (List.mem_map.2 ⟨_,hm,rfl⟩) k hlab i' bi hi' hbi b hb (.inl he.symm))
    ·have:=hr.heap.apart j (h3▸hj) i' hi' b hb
     exact ⟨this.1,by simpa using this.2⟩
   refine q5p hrun' ⟨σ,β,⟨s.sl,H'⟩,hK,⟨?_,?_,?_,hheap⟩,Mem.le_refl σ,⟨rfl,rfl,rfl,Nat.le_refl _,by simp,fun b _ hn=>hot b fun he=>hn ⟨k,hlab,bi,hbi,.inl he.symm⟩⟩,fun b h0 h1=>absurd h0 h1,fun b ⟨j,hj,r⟩ => .inl ⟨j,h3▸hj,r⟩,fun _ _ _=>rfl⟩
   ·rw [hdst];exact hr.size
   ·rw [hdst];exact hr.defers
   ·rw [hdst];exact hr.slots
end
open Go.Proofs
def XH (nm:Str) (touched:List Str):List Arg→List Str→Bool
 | [],_=>true
 | a::r,seen=>bif a.ref then bif (seen.any fun s=>a.name==s)||((a.name==nm)||touched.any fun s=>a.name==s) then false else XH nm touched r (seen++[a.name]) else XH nm touched r seen
theorem x4l (t:S) (touched:List Str) (ha:t.args.length≤20000):SpecP Tryz.prog 200 [.agg t.cells,QD touched] (fun r=>r = .bool (XH t.name touched t.args [])):=by
 refine SpecP.body q8r QQ Tryz.func200 rfl Tryz.call200 (by show 2≤_;decide) ?_
 conv=>whnf
 repeat' (intro (_:_≤9223372036854775807);conv=>whnf)
 have hl:(t.args.map fun a=>AV.agg a.cells).length=t.args.length:=List.length_map _
 refine LoopK.inv QQ (fun i:Nat×List Str=>⟨[(1,.p (QD touched)),(2,.p (.ip t.cells)),(5,.hd 0 0 i.2.length),(9,.p (.sl (t.args.map fun a => .agg a.cells))),(10,.p (.int .i64 (t.args.map fun a=>AV.agg a.cells).length)),(11,.p (.int .i64 i.1))],[(0,.own 9 1 (i.2.map .str))]⟩)
  (fun i=>i.1≤t.args.length∧i.2.length≤i.1∧XH t.name touched (t.args.drop i.1) i.2=XH t.name touched t.args []) (fun i=>t.args.length-i.1) (0,[])
  (Le.mk [(0,.own 9 1 [])] (by simp [Chunk.new0];rfl) (by simp) (by simp) (.cons (.refl _) (.cons (.refl _) (.cons (.nil List.mem_cons_self) (.cons (.refl _) (.cons (.refl _) (.cons (.refl _) .nil)))))) (.new List.mem_cons_self .nil))
  ⟨Nat.zero_le _,Nat.le_refl _,rfl⟩ ?_
 rintro ⟨j,acc⟩ ⟨h2,h3,h4⟩
 simp only at h2 h3 h4 ⊢
 rcases Nat.lt_or_ge j t.args.length with hj|hj
 ·rw [List.drop_eq_getElem_cons hj,XH] at h4
  conv=>whnf
  repeat' (first|((first|(refine CallK.pure (QV _ _) (by repeat' (first|exact ArgP.nil|refine ArgP.cons ?_ ?_|exact Sub.refl _|exact Sub.tt rfl|exact Sub.ff rfl)) ?_;rintro _ rfl)|refine And.intro rfl ?_|(refine And.intro ⟨by decide,by decide⟩ ?_)|refine BsK.pure (fun x hx=>by rcases List.mem_singleton.1 hx with rfl;rfl) rfl ?_|refine IdxK.map (by omega) (fun _=>rfl) ?_|refine Wr.i64 (by omega) (by omega) ?_|(refine CallK.borrow (QV acc (t.args[j]'hj).name) (.cons (.hd rfl (by simp)) (.cons (.p (Sub.refl _)) .nil)) (by rintro _ rfl;rfl) ?_;rintro _ rfl)|refine AppK.str1 (by simp) (by simp;omega) ?_);conv=>whnf)|(refine Br.dec (fun _=>?_) (fun _=>?_)<;>first|(exfalso;omega)|conv=>whnf)|(refine Br.n (fun _=>?_) (fun _=>?_)<;>conv=>whnf)|(refine Br.b (fun _=>?_) (fun _=>?_)<;>conv=>whnf))
  all_goals first
   | exact RetK.ff (by rw [← h4];simp [*])
   | exact ⟨(j+1,acc++[t.args[j].name]),⟨by simp only;omega,by simp;omega,by simp only;rw [← h4];simp [*]⟩,by simp only;omega,Le.of_eq (by simp only [List.length_append,List.map_append];rfl)⟩
   | exact ⟨(j+1,acc),⟨by simp only;omega,by simp only;omega,by simp only;rw [← h4];simp [*]⟩,by simp only;omega,Le.of_eq rfl⟩
 ·rw [List.drop_eq_nil_of_le hj,XH] at h4
  conv=>whnf
  repeat' (refine Br.dec (fun _=>?_) (fun _=>?_)<;>first|(exfalso;omega)|conv=>whnf)
  exact RetK.tt h4.symm
def HV (p:Pg):Int×Int :=
 if (VK p).1≠0 then (1,0) else match (YC p).find? fun t=>decide (t.kind=4) && !XH t.name (UK p t.proc) t.args [] with
  | some t=>(8,t.id)
  | none=>(0,0)
theorem w3y {p:Pg} (h:(VK p).1=0):(QS p).1=0∧(YC p).find? (fun t=>decide (t.kind=4) && !UM p t)=none:=by
 unfold VK at h
 split at h
 ·cases h
 ·rename_i hs
  refine ⟨by omega,?_⟩
  split at h
  ·cases h
  ·assumption
theorem w1l {l:List (Str×AV)} {k:Str} {v:AV} {x:Str×AV} (h:x∈x7c l k v):x∈l∨x=(k,v):=by
 induction l with
 | nil=>rw [x7c] at h;exact .inr (by simpa using h)
 | cons y r ih =>
   rw [x7c] at h
   split at h
   ·rename_i hk
    rcases List.mem_cons.1 h with h|h
    ·exact .inr (by rw [h,hk])
    ·exact .inl (List.mem_cons_of_mem _ h)
   ·rcases List.mem_cons.1 h with h|h
    ·exact .inl (by rw [h];exact List.mem_cons_self)
    ·exact (ih h).imp (List.mem_cons_of_mem _) id
theorem w3z {l:List (Str×AV)} {k s:Str} {v:AV} (h:s=k ∨ ∃ x∈l,x.1=s) : ∃ x∈x7c l k v,x.1=s:=by
 induction l with
 | nil =>
   rcases h with rfl|⟨x,hx,_⟩
   ·exact ⟨(s,v),by rw [x7c];exact List.mem_cons_self,rfl⟩
   ·cases hx
 | cons y r ih =>
   rw [x7c]
   split
   ·rename_i hk
    rcases h with rfl|⟨x,hx,rfl⟩
    ·exact ⟨(y.1,v),List.mem_cons_self,hk.symm⟩
    ·rcases List.mem_cons.1 hx with rfl|hx
     ·exact ⟨(x.1,v),List.mem_cons_self,rfl⟩
     ·exact ⟨x,List.mem_cons_of_mem _ hx,rfl⟩
   ·rcases h with rfl|⟨x,hx,rfl⟩
    ·obtain ⟨z,hz,h3⟩:=ih (.inl rfl)
     exact ⟨z,List.mem_cons_of_mem _ hz,h3⟩
    ·rcases List.mem_cons.1 hx with rfl|hx
     ·exact ⟨x,List.mem_cons_self,rfl⟩
     ·obtain ⟨z,hz,h3⟩:=ih (.inr ⟨x,hx,rfl⟩)
      exact ⟨z,List.mem_cons_of_mem _ hz,h3⟩
theorem w6y {l:List (Str×AV)} {g:Str→AV} (h : ∀ x∈l,x.2=g x.1) {k:Str} (hk : ∃ x∈l,x.1=k):w7g l k=some (g k):=by
 unfold w7g
 cases hf:l.find? fun x=>decide (k=x.1) with
 | none =>
   obtain ⟨x,hx,rfl⟩:=hk
   have:=List.find?_eq_none.1 hf x hx
   simp at this
 | some x =>
   have h1:=List.mem_of_find?_eq_some hf
   have h2:=List.find?_some hf
   simp at h2
   simp [h x h1,h2]
theorem x8f (p:Pg) (hf:Fit p):SpecP Tryz.prog 140 [.agg p.cells] (fun r=>r=DI (HV p).1 (HV p).2):=by
 refine SpecP.body x4q QQ Tryz.func140 rfl Tryz.call140 (by show 1≤_;decide) ?_
 conv=>whnf
 repeat' (first|((first|(refine CallK.pure (q6t p hf) (by repeat' (first|exact ArgP.nil|refine ArgP.cons ?_ ?_|exact Sub.refl _|exact Sub.tt rfl|exact Sub.ff rfl|exact Sub.int (by omega))) ?_;rintro _ rfl)|refine And.intro rfl ?_);conv=>whnf)|(refine Br.dec2 (fun _=>?_) (fun _=>?_)<;>first|(exfalso;omega)|conv=>whnf))
 rotate_left 1
 ·have e:HV p=(1,0):=by unfold HV;rw [if_pos (by assumption)]
  exact RetK.fault (by rw [e]) (by rw [e])
 have hA:(VK p).1=0:=by assumption
 obtain ⟨hs,_⟩:=w3y hA
 obtain ⟨hm,hb,hns⟩:=VQ hs
 obtain ⟨hg,hpl,hcn⟩:=ZX hm
 have hl:(p.procs.map fun f=>AV.agg f.cells).length=p.procs.length:=List.length_map _
 repeat' ((first|intro (_:_≤9223372036854775807)|refine OpK.makeMap rfl ?_);conv=>whnf)
 refine LoopK.inv QQ (fun i:Nat×List (Str×AV)=>⟨[(1,.p (.ip p.cells)),(2,.ptr 1 0),(3,.ext 0 .map),(15,.p (.sl (p.procs.map fun f => .agg f.cells))),(16,.p (.int .i64 (p.procs.map fun f=>AV.agg f.cells).length)),(17,.p (.int .i64 i.1))],[(0,.ext (w5m i.2)),(1,.obj 90 [.p (.int .i64 0),.p (.int .i64 0)])]⟩)
  (fun i=>i.1≤p.procs.length∧(∀ x∈i.2,x.2=QD (UK p x.1)) ∧ ∀ (m:Nat) (hm:m<p.procs.length),m<i.1 → ∃ x∈i.2,x.1=p.procs[m].name) (fun i=>p.procs.length-i.1) (0,[])
  (Le.of_eq rfl) ⟨Nat.zero_le _,by simp,by intro m hm h;omega⟩ ?_
 rintro ⟨j,l⟩ ⟨h2,h3,h4⟩
 simp only at h2 h3 h4 ⊢
 rcases Nat.lt_or_ge j p.procs.length with hj|hj
 ·have hn:p.procs[j].name∈procsN p:=List.mem_map.2 ⟨_,List.getElem_mem hj,rfl⟩
  conv=>whnf
  repeat' (first|((first|(refine CallK.pure (x2f p hf hs _ hn) (by repeat' (first|exact ArgP.nil|refine ArgP.cons ?_ ?_|exact Sub.refl _|exact Sub.tt rfl|exact Sub.ff rfl|exact Sub.int (by omega))) ?_;rintro _ rfl)|refine DrawK.auto QQ mixed (by kernel_rfl) ?_|refine And.intro rfl ?_|refine IdxK.map (by omega) (fun _=>rfl) ?_|refine Wr.i64 (by omega) (by omega) ?_|refine OpK.mapUpdate QQ rfl rfl rfl rfl rfl rfl rfl rfl rfl rfl ?_);conv=>whnf)|(refine Br.dec (fun _=>?_) (fun _=>?_)<;>first|(exfalso;omega)|conv=>whnf))
  refine ⟨(j+1,x7c l p.procs[j].name (QD (UK p p.procs[j].name))),⟨by simp only;omega,fun x hx => ?_,fun m hm h => ?_⟩,by simp only;omega,Le.of_eq rfl⟩
  ·rcases w1l hx with hx|rfl
   ·exact h3 x hx
   ·rfl
  ·refine w3z ?_
   rcases Nat.lt_or_ge m j with hmj|hmj
   ·exact .inr (h4 m hm hmj)
   ·obtain rfl:m=j:=by simp only at h;omega
    exact .inl rfl
 have hgm : ∀ n∈procsN p,w7g l n=some (QD (UK p n)):=fun n hn=>w6y (g:=fun n=>QD (UK p n)) h3 (by
  obtain ⟨f,hf1,rfl⟩:=List.mem_map.1 hn
  obtain ⟨m,hm,rfl⟩:=List.getElem_of_mem hf1
  exact h4 m hm (by omega))
 clear h3 h4
 conv=>whnf
 repeat' (first|((first|intro (_:_≤9223372036854775807)|(refine CallK.pure (YK p (by omega) (by omega)) (.cons (Sub.refl _) .nil) ?_;rintro _ rfl));conv=>whnf)|(refine Br.dec (fun _=>?_) (fun _=>?_)<;>first|(exfalso;omega)|conv=>whnf))
 have hA:HV p=match (YC p).find? fun t=>decide (t.kind=4) && !XH t.name (UK p t.proc) t.args [] with
  | some t=>(8,t.id)
  | none=>(0,0):=by unfold HV;rw [if_neg (by omega)]
 have hil:=WJ (sheetOf p).l
 have hib:(sheetOf p).l.length≤200:=by have:=(QJ p).2.2.2.1;omega
 have hfi:=PX (q:=fun t=>decide (t.kind=4) && !XH t.name (UK p t.proc) t.args []) (sheetOf p).l
 rw [x3k] at hfi
 have hA2:HV p=match ((sheetOf p).l.find? fun it=>decide (it.s.kind=4) && !XH it.s.name (UK p it.s.proc) it.s.args []).map (fun it=>it.s.id) with
  | some a=>(8,a)
  | none=>(0,0):=by
  rw [hA,hfi]
  cases (YC p).find? fun t=>decide (t.kind=4) && !XH t.name (UK p t.proc) t.args []<;>rfl
 rw [hA2]
 refine LoopK.inv QQ (fun k:Nat=>⟨[(2,.ptr 1 0),(3,.ext 0 .map),(33,.p (JI (sheetOf p).l)),(34,.p (.int .i64 ((sheetOf p).l.map fun i=>AV.agg i.cells).length)),(35,.p (.int .i64 k))],[(0,.ext (w5m l)),(1,.obj 90 [.p (.int .i64 0),.p (.int .i64 0)])]⟩)
  (fun k=>k≤(sheetOf p).l.length∧((sheetOf p).l.drop k).find? (fun it=>decide (it.s.kind=4) && !XH it.s.name (UK p it.s.proc) it.s.args [])=(sheetOf p).l.find? fun it=>decide (it.s.kind=4) && !XH it.s.name (UK p it.s.proc) it.s.args []) (fun k=>(sheetOf p).l.length-k) 0 (Le.of_eq rfl) ⟨Nat.zero_le _,rfl⟩ ?_
 rintro k ⟨h5,h6⟩
 rcases Nat.lt_or_ge k (sheetOf p).l.length with hk|hk
 rotate_left 1
 ·rw [← h6,KW hk]
  conv=>whnf
  repeat' (first|(refine And.intro rfl ?_;conv=>whnf)|(refine Br.dec (fun _=>?_) (fun _=>?_)<;>first|(exfalso;omega)|conv=>whnf))
  exact RetK.fault rfl rfl
 have hw:=z4i hf hk
 have hna:(sheetOf p).l[k].s.args.length≤20000:=by
  have:=x2l (sheetOf p).l[k].s
  have:=JV (sheetOf p).l[k].s.args
  omega
 have hpc:(sheetOf p).l[k].s.kind=4→(sheetOf p).l[k].s.proc∈procsN p:=fun hk4=>by
  have hmm:(sheetOf p).l[k].s∈YC p:=by
   rw [← x3k]
   exact List.mem_map.2 ⟨_,List.getElem_mem hk,rfl⟩
  unfold YC at hmm
  obtain ⟨f,hf1,hf2⟩:=List.mem_flatMap.1 hmm
  exact (q3y hs hf1 hf2 hk4).1
 conv=>whnf
 repeat' (first|((first|(refine CallK.pure (x4l _ _ hna) (by repeat' (first|exact ArgP.nil|refine ArgP.cons ?_ ?_|exact Sub.refl _|exact Sub.tt rfl|exact Sub.ff rfl|exact Sub.int (by omega))) ?_;rintro _ rfl)|refine And.intro rfl ?_|refine IdxK.map (by omega) (fun _=>rfl) ?_|refine Wr.i64 (by omega) (by omega) ?_|refine OpK.lookup QQ rfl rfl rfl rfl rfl rfl rfl rfl (hgm _ (hpc (by omega))) ?_);conv=>whnf)|(refine Br.dec (fun _=>?_) (fun _=>?_)<;>first|(exfalso;omega)|conv=>whnf)|(refine Br.n (fun _=>?_) (fun _=>?_)<;>conv=>whnf))
 all_goals first
  | (have e3:=JO (p:=fun it:Item=>decide (it.s.kind=4) && !XH it.s.name (UK p it.s.proc) it.s.args []) hk (by simp [*])
     rw [← h6,e3]
     exact RetK.fault rfl rfl)
  | exact ⟨k+1,⟨by omega,by rw [← h6,DT (p:=fun it:Item=>decide (it.s.kind=4) && !XH it.s.name (UK p it.s.proc) it.s.args []) hk (by simp [*])]⟩,by omega,Le.of_eq rfl⟩
def z5n (p:Pg):Int×Int :=
 if WI p=false then (1,0) else
 if (QS p).1≠0 then QS p else
 if (VK p).1≠0 then VK p else
 if (PT p).1≠0 then PT p else HV p
theorem z8x (p:Pg) (hf:Fit p):SpecP Tryz.prog 79 [.agg p.cells] (fun r=>r=DI (z5n p).1 (z5n p).2):=by
 refine SpecP.body x9p QQ Tryz.func79 rfl Tryz.call79 (by show 1≤_;decide) ?_
 conv=>whnf
 repeat' (first|((first|(refine CallK.pure (z0d _) (by repeat' (first|exact ArgP.nil|refine ArgP.cons ?_ ?_|exact Sub.refl _|exact Sub.tt rfl|exact Sub.ff rfl)) ?_;rintro _ rfl)|(refine CallK.pure (JN p hf) (by repeat' (first|exact ArgP.nil|refine ArgP.cons ?_ ?_|exact Sub.refl _|exact Sub.tt rfl|exact Sub.ff rfl|exact Sub.int (by omega))) ?_;rintro _ rfl)|(refine CallK.pure (q6t p hf) (by repeat' (first|exact ArgP.nil|refine ArgP.cons ?_ ?_|exact Sub.refl _|exact Sub.tt rfl|exact Sub.ff rfl|exact Sub.int (by omega))) ?_;rintro _ rfl)|(refine CallK.pure (z3z p hf) (by repeat' (first|exact ArgP.nil|refine ArgP.cons ?_ ?_|exact Sub.refl _|exact Sub.tt rfl|exact Sub.ff rfl|exact Sub.int (by omega))) ?_;rintro _ rfl)|(refine CallK.pure (x8f p hf) (by repeat' (first|exact ArgP.nil|refine ArgP.cons ?_ ?_|exact Sub.refl _|exact Sub.tt rfl|exact Sub.ff rfl|exact Sub.int (by omega))) ?_;rintro _ rfl)|refine And.intro rfl ?_);conv=>whnf)|(refine Br.dec (fun _=>?_) (fun _=>?_)<;>first|(exfalso;omega)|conv=>whnf)|(refine Br.n (fun _=>?_) (fun _=>?_)<;>conv=>whnf))
 all_goals exact RetK.fault (by unfold z5n;simp [*]) (by unfold z5n;simp [*])
def XK (p:Pg):Bool:=decide ((z5n p).1=0)
theorem JB (p:Pg) (hf:Fit p):SpecP Tryz.prog 17 [.agg p.cells] (fun r=>r = .bool (XK p)):=by
 refine SpecP.body x8s QQ Tryz.func17 rfl Tryz.call17 (by show 1≤_;decide) ?_
 conv=>whnf
 repeat' (refine CallK.pure (z8x p hf) (by repeat' (first|exact ArgP.nil|refine ArgP.cons ?_ ?_|exact Sub.refl _|exact Sub.tt rfl|exact Sub.ff rfl|exact Sub.int (by omega))) ?_;rintro _ rfl;conv=>whnf)
 exact RetK.bool rfl
open Go.Proofs
def XE (x:Int):Int:=if x = -1 then 9223372036854775807 else x
theorem z9n (x:Int):SpecP Tryz.prog 231 [.int .i64 x] (fun r=>r = .int .i64 (XE x)):=by
 refine SpecP.body x8t QQ Tryz.func231 rfl Tryz.call231 (by show 1≤_;decide) ?_
 conv=>whnf
 repeat' (refine Br.dec (fun _=>?_) (fun _=>?_)<;>first|(exfalso;omega)|conv=>whnf)
 all_goals exact RetK.int (by unfold XE;simp [*])
theorem q9w (x:Int):SpecP Tryz.prog 283 [.int .i64 x] (fun r=>r = .bool false):=by
 refine SpecP.body q4l QQ Tryz.func283 rfl Tryz.call283 (by show 1≤_;decide) ?_
 conv=>whnf
 skip
 exact RetK.bool (by simp)
def z0a (x y:Int):Int:=if x<y then -1 else if y<x then 1 else 0
theorem q4b (x y:Int):SpecP Tryz.prog 230 [.int .i64 x,.int .i64 y] (fun r=>r = .int .i64 (z0a x y)):=by
 refine SpecP.body q0d QQ Tryz.func230 rfl Tryz.call230 (by show 2≤_;decide) ?_
 conv=>whnf
 repeat' (first|(refine CallK.pure (q9w _) (by repeat' (first|exact ArgP.nil|refine ArgP.cons ?_ ?_|exact Sub.refl _|exact Sub.tt rfl|exact Sub.ff rfl)) ?_;rintro _ rfl;conv=>whnf)|(refine Br.dec (fun _=>?_) (fun _=>?_)<;>first|(exfalso;omega)|conv=>whnf)|(refine Br.b (fun _=>?_) (fun _=>?_)<;>conv=>whnf))
 all_goals first
  | contradiction
  | exact RetK.int (by unfold z0a;simp [*])
  | exact RetK.int (by unfold z0a;rw [if_neg (by assumption),if_pos (by omega)])
  | exact RetK.int (by unfold z0a;rw [if_neg (by assumption),if_neg (by omega)])
def orI:List Int→Int
 | []=>0
 | a::r=>if a=0 then orI r else a
theorem x8b (l:List Int):SpecP Tryz.prog 229 [QF l] (fun r=>r = .int .i64 (orI l)):=by
 refine SpecP.body x2w QQ Tryz.func229 rfl Tryz.call229 (by show 1≤_;decide) ?_
 conv=>whnf
 repeat' (intro (_:_≤9223372036854775807);conv=>whnf)
 have hl:(l.map (AV.int .i64)).length=l.length:=List.length_map _
 refine LoopK.inv QQ (fun j:Nat=>⟨[(3,.p (.int .i64 0)),(6,.p (QF l)),(7,.p (.int .i64 (l.map (AV.int .i64)).length)),(8,.p (.int .i64 j))],[]⟩) (fun j=>j≤l.length∧orI (l.drop j)=orI l) (fun j=>l.length-j) 0 (Le.of_eq rfl) ⟨Nat.zero_le _,rfl⟩ ?_
 rintro j ⟨h2,h3⟩
 rcases Nat.lt_or_ge j l.length with hj|hj
 ·rw [List.drop_eq_getElem_cons hj,orI] at h3
  conv=>whnf
  repeat' (first|((first|refine IdxK.map (by omega) (fun _=>rfl) ?_|refine Wr.i64 (by omega) (by omega) ?_);conv=>whnf)|(refine Br.dec (fun _=>?_) (fun _=>?_)<;>first|(exfalso;omega)|conv=>whnf)|(refine Br.dec2 (fun _=>?_) (fun _=>?_)<;>first|(exfalso;omega)|conv=>whnf))
  all_goals first
   | exact RetK.int (by rw [← h3,if_neg (by assumption)])
   | exact ⟨j+1,⟨by omega,by rw [← h3,if_pos (by assumption)]⟩,by omega,Le.of_eq rfl⟩
   | exact ⟨j+1,⟨by omega,by rw [← h3,if_pos (by simp_all)]⟩,by omega,Le.of_eq rfl⟩
 ·rw [List.drop_eq_nil_of_le hj,orI] at h3
  conv=>whnf
  repeat' (refine Br.dec (fun _=>?_) (fun _=>?_)<;>first|(exfalso;omega)|conv=>whnf)
  exact RetK.int h3
def q8o (l:List S) (o:Int):Int:=match l with
 | []=>o
 | t::_=>t.id
theorem z7w (l:List S) (o:Int):SpecP Tryz.prog 274 [.sl (l.map fun t => .agg t.cells),.int .i64 o] (fun r=>r = .int .i64 (q8o l o)):=by
 refine SpecP.body x9o QQ Tryz.func274 rfl Tryz.call274 (by show 2≤_;decide) ?_
 conv=>whnf
 repeat' (first|(intro (_:_≤9223372036854775807);conv=>whnf)|(refine Br.dec (fun _=>?_) (fun _=>?_)<;>first|(exfalso;omega)|conv=>whnf))
 ·cases l with
  | nil=>simp at *
  | cons t r =>
    refine IdxK.at (k:=0) rfl rfl rfl ?_
    exact RetK.int rfl
 ·cases l with
  | nil=>exact RetK.int rfl
  | cons t r=>simp at *
def ZU (a b:Step):Bool:=decide (a.src=b.src)&&decide (a.dst=b.dst)
theorem q7j (a b:Step):SpecP Tryz.prog 233 [.agg a.cells,.agg b.cells] (fun r=>r = .bool (ZU a b)):=by
 refine SpecP.body x2b QQ Tryz.func233 rfl Tryz.call233 (by show 2≤_;decide) ?_
 conv=>whnf
 repeat' (refine Br.dec (fun _=>?_) (fun _=>?_)<;>first|(exfalso;omega)|conv=>whnf)
 all_goals first
  | exact RetK.bool (show (a.dst==b.dst)=ZU a b by unfold ZU;simp [*];rfl)
  | exact RetK.ff (by unfold ZU;simp [*])
def x9r (a b:Step):Int:=orI [z0a (XE a.src) (XE b.src),z0a (XE a.dst) (XE b.dst),z0a a.kind b.kind]
theorem x9f (a b:Step):SpecP Tryz.prog 228 [.agg a.cells,.agg b.cells] (fun r=>r = .int .i64 (x9r a b)):=by
 refine SpecP.body x1j QQ Tryz.func228 rfl Tryz.call228 (by show 2≤_;decide) ?_
 conv=>whnf
 repeat' ((first|(refine CallK.pure (z9n _) (by repeat' (first|exact ArgP.nil|refine ArgP.cons ?_ ?_|exact Sub.refl _|exact Sub.tt rfl|exact Sub.ff rfl)) ?_;rintro _ rfl)|(refine CallK.pure (q4b _ _) (by repeat' (first|exact ArgP.nil|refine ArgP.cons ?_ ?_|exact Sub.refl _|exact Sub.tt rfl|exact Sub.ff rfl)) ?_;rintro _ rfl)|(refine CallK.pure (x8b [z0a (XE a.src) (XE b.src),z0a (XE a.dst) (XE b.dst),z0a a.kind b.kind]) (by repeat' (first|exact ArgP.nil|refine ArgP.cons ?_ ?_|exact Sub.refl _|exact Sub.tt rfl|exact Sub.ff rfl|exact Sub.int (by omega))) ?_;rintro _ rfl)|refine DrawK.auto QQ mixed (by kernel_rfl) ?_|refine And.intro rfl ?_|(refine And.intro ⟨by decide,by decide⟩ ?_)|refine BsK.pureL rfl rfl ?_);conv=>whnf)
 exact RetK.int rfl
end Go.Ab
