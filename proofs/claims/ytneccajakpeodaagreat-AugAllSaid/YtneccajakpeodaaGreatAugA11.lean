/- The library's contracts at this seat's program, in plain words (printed by the kit's lay-plain.mjs). Conditions: none. -/
import Derived.Shelf.Sort.Plain
import Derived.Shelf.Slices.In.SortNone
import Derived.Shelf.Slices.CompactS
import Derived.Ground.Names2Prog
import Derived.Shelf.Slices.SearchI
import Derived.Shelf.Slices.Empties
import Derived.Shelf.Spec.SlicesInsert
import Derived.Shelf.Spec.SlicesInsertGrow
import Derived.Shelf.SlSortCmp.NoneTotal
import Derived.Ground.SlsfProg
import Derived.Test.YtneccajakpeodaaGreatProg
import Derived.Test.YtneccajakpeodaaGreatAugA6
import Derived.Test.YtneccajakpeodaaGreatAugA7
import Derived.Test.YtneccajakpeodaaGreatAugA10
set_option linter.unusedSimpArgs false
set_option linter.unusedVariables false
set_option maxRecDepth 100000
set_option maxHeartbeats 16000000
namespace Go.Proofs
open Go.Shelf
def Tryz.lays190_ren:Go.Shelf.Ren:=⟨fun|190=>96|125=>154|258=>153|128=>223|129=>224|302=>214|303=>215|304=>216|305=>217|306=>218|307=>219|308=>220|309=>221|310=>222|333=>276|329=>277|330=>278|334=>279|335=>280|336=>281|344=>301|n=>n,fun|31=>22|9=>9|3=>3|46=>171|0=>0|51=>225|53=>227|4=>4|183=>218|182=>217|131=>30|5=>5|218=>248|222=>252|228=>265|229=>266|n=>n,fun|n=>n⟩
theorem Tryz.lays190:Go.Proofs.Lays.n190 Tryz.prog Tryz.lays190_ren:={
 mixed:=by kernel_rfl
 f125:=Tryz.func154.trans (congrArg some (by kernel_rfl))
 f128:=Tryz.func223.trans (congrArg some (by kernel_rfl))
 f129:=Tryz.func224.trans (congrArg some (by kernel_rfl))
 f190:=Tryz.func96.trans (congrArg some (by kernel_rfl))
 f258:=Tryz.func153.trans (congrArg some (by kernel_rfl))
 f302:=Tryz.func214.trans (congrArg some (by kernel_rfl))
 f303:=Tryz.func215.trans (congrArg some (by kernel_rfl))
 f304:=Tryz.func216.trans (congrArg some (by kernel_rfl))
 f305:=Tryz.func217.trans (congrArg some (by kernel_rfl))
 f306:=Tryz.func218.trans (congrArg some (by kernel_rfl))
 f307:=Tryz.func219.trans (congrArg some (by kernel_rfl))
 f308:=Tryz.func220.trans (congrArg some (by kernel_rfl))
 f309:=Tryz.func221.trans (congrArg some (by kernel_rfl))
 f310:=Tryz.func222.trans (congrArg some (by kernel_rfl))
 f329:=Tryz.func277.trans (congrArg some (by kernel_rfl))
 f330:=Tryz.func278.trans (congrArg some (by kernel_rfl))
 f333:=Tryz.func276.trans (congrArg some (by kernel_rfl))
 f334:=Tryz.func279.trans (congrArg some (by kernel_rfl))
 f335:=Tryz.func280.trans (congrArg some (by kernel_rfl))
 f336:=Tryz.func281.trans (congrArg some (by kernel_rfl))
 f344:=Tryz.func301.trans (congrArg some (by kernel_rfl))
 t0:=Tryz.underlying0
 a0:=Tryz.isAgg0
 z0:=Tryz.sizeOf0
 v0:=Tryz.zeroValue0
 t3:=Tryz.underlying3
 a3:=Tryz.isAgg3
 z3:=Tryz.sizeOf3
 v3:=Tryz.zeroValue3
 t4:=Tryz.underlying4
 a4:=Tryz.isAgg4
 z4:=Tryz.sizeOf4
 v4:=Tryz.zeroValue4
 t5:=Tryz.underlying5
 a5:=Tryz.isAgg5
 z5:=Tryz.sizeOf5
 v5:=Tryz.zeroValue5
 t9:=Tryz.underlying9
 a9:=Tryz.isAgg9
 z9:=Tryz.sizeOf9
 v9:=Tryz.zeroValue9
 t31:=Tryz.underlying22
 a31:=Tryz.isAgg22
 z31:=Tryz.sizeOf22
 v31:=Tryz.zeroValue22
 t46:=Tryz.underlying171
 a46:=Tryz.isAgg171
 z46:=Tryz.sizeOf171
 v46:=Tryz.zeroValue171
 t51:=Tryz.underlying225
 a51:=Tryz.isAgg225
 z51:=Tryz.sizeOf225
 v51:=Tryz.zeroValue225
 t53:=Tryz.underlying227
 a53:=Tryz.isAgg227
 z53:=Tryz.sizeOf227
 v53:=Tryz.zeroValue227
 t131:=Tryz.underlying30
 a131:=Tryz.isAgg30
 z131:=Tryz.sizeOf30
 v131:=Tryz.zeroValue30
 t182:=Tryz.underlying217
 a182:=Tryz.isAgg217
 z182:=Tryz.sizeOf217
 v182:=Tryz.zeroValue217
 t183:=Tryz.underlying218
 a183:=Tryz.isAgg218
 z183:=Tryz.sizeOf218
 v183:=Tryz.zeroValue218
 t218:=Tryz.underlying248
 a218:=Tryz.isAgg248
 z218:=Tryz.sizeOf248
 v218:=Tryz.zeroValue248
 t222:=Tryz.underlying252
 a222:=Tryz.isAgg252
 z222:=Tryz.sizeOf252
 v222:=Tryz.zeroValue252
 t228:=Tryz.underlying265
 a228:=Tryz.isAgg265
 z228:=Tryz.sizeOf265
 v228:=Tryz.zeroValue265
 t229:=Tryz.underlying266
 a229:=Tryz.isAgg266
 z229:=Tryz.sizeOf266
 v229:=Tryz.zeroValue266 }
def Tryz.lays194_ren:Go.Shelf.Ren:=⟨fun|194=>236|n=>n,fun|31=>22|9=>9|3=>3|4=>4|0=>0|n=>n,fun|n=>n⟩
theorem Tryz.lays194:Go.Proofs.Lays.n194 Tryz.prog Tryz.lays194_ren:={
 mixed:=by kernel_rfl
 f194:=Tryz.func236.trans (congrArg some (by kernel_rfl))
 t0:=Tryz.underlying0
 a0:=Tryz.isAgg0
 z0:=Tryz.sizeOf0
 v0:=Tryz.zeroValue0
 t3:=Tryz.underlying3
 a3:=Tryz.isAgg3
 z3:=Tryz.sizeOf3
 v3:=Tryz.zeroValue3
 t4:=Tryz.underlying4
 a4:=Tryz.isAgg4
 z4:=Tryz.sizeOf4
 v4:=Tryz.zeroValue4
 t9:=Tryz.underlying9
 a9:=Tryz.isAgg9
 z9:=Tryz.sizeOf9
 v9:=Tryz.zeroValue9
 t31:=Tryz.underlying22
 a31:=Tryz.isAgg22
 z31:=Tryz.sizeOf22
 v31:=Tryz.zeroValue22 }
def Tryz.laysB_ren:Go.Shelf.Ren:=⟨fun|25=>299|31=>314|32=>315|37=>283|n=>n,fun|22=>36|3=>3|4=>4|40=>171|0=>0|n=>n,fun|n=>n⟩
theorem Tryz.laysB:Go.Proofs.Lays2.n25 Tryz.prog Tryz.laysB_ren:={
 mixed:=by kernel_rfl
 f25:=Tryz.func299.trans (congrArg some (by kernel_rfl))
 f31:=Tryz.func314.trans (congrArg some (by kernel_rfl))
 f32:=Tryz.func315.trans (congrArg some (by kernel_rfl))
 f37:=Tryz.func283.trans (congrArg some (by kernel_rfl))
 t0:=Tryz.underlying0
 a0:=Tryz.isAgg0
 z0:=Tryz.sizeOf0
 v0:=Tryz.zeroValue0
 t3:=Tryz.underlying3
 a3:=Tryz.isAgg3
 z3:=Tryz.sizeOf3
 v3:=Tryz.zeroValue3
 t4:=Tryz.underlying4
 a4:=Tryz.isAgg4
 z4:=Tryz.sizeOf4
 v4:=Tryz.zeroValue4
 t22:=Tryz.underlying36
 a22:=Tryz.isAgg36
 z22:=Tryz.sizeOf36
 v22:=Tryz.zeroValue36
 t40:=Tryz.underlying171
 a40:=Tryz.isAgg171
 z40:=Tryz.sizeOf171
 v40:=Tryz.zeroValue171 }
def Tryz.laysI_ren:Go.Shelf.Ren:=⟨fun|21=>300|27=>316|28=>317|35=>324|39=>110|n=>n,fun|22=>36|3=>3|4=>4|0=>0|n=>n,fun|n=>n⟩
theorem Tryz.laysI:Go.Proofs.Lays2.n21 Tryz.prog Tryz.laysI_ren:={
 mixed:=by kernel_rfl
 f21:=Tryz.func300.trans (congrArg some (by kernel_rfl))
 f27:=Tryz.func316.trans (congrArg some (by kernel_rfl))
 f28:=Tryz.func317.trans (congrArg some (by kernel_rfl))
 f35:=Tryz.func324.trans (congrArg some (by kernel_rfl))
 f39:=Tryz.func110.trans (congrArg some (by kernel_rfl))
 t0:=Tryz.underlying0
 a0:=Tryz.isAgg0
 z0:=Tryz.sizeOf0
 v0:=Tryz.zeroValue0
 t3:=Tryz.underlying3
 a3:=Tryz.isAgg3
 z3:=Tryz.sizeOf3
 v3:=Tryz.zeroValue3
 t4:=Tryz.underlying4
 a4:=Tryz.isAgg4
 z4:=Tryz.sizeOf4
 v4:=Tryz.zeroValue4
 t22:=Tryz.underlying36
 a22:=Tryz.isAgg36
 z22:=Tryz.sizeOf36
 v22:=Tryz.zeroValue36
 i3:=by kernel_rfl }
def Tryz.laysF_ren:Go.Shelf.Ren:=⟨fun|6=>227|15=>154|14=>282|28=>223|29=>224|20=>302|21=>303|22=>304|23=>305|24=>306|25=>307|26=>308|27=>309|46=>318|47=>277|48=>278|49=>319|50=>320|57=>325|n=>n,fun|22=>33|24=>79|25=>231|3=>3|39=>171|0=>0|53=>225|55=>227|4=>4|46=>218|45=>217|50=>30|5=>5|9=>9|66=>248|70=>252|76=>265|77=>266|n=>n,fun|n=>n⟩
theorem Tryz.laysF:Go.Proofs.SlLaysF0.n6 Tryz.prog Tryz.laysF_ren:={
 mixed:=by kernel_rfl
 f6:=⟨Tryz.f227.name,by decide,Tryz.func227.trans (congrArg some (by kernel_rfl))⟩
 f14:=⟨Tryz.f282.name,by decide,Tryz.func282.trans (congrArg some (by kernel_rfl))⟩
 f15:=Tryz.func154.trans (congrArg some (by kernel_rfl))
 f20:=⟨Tryz.f302.name,by decide,Tryz.func302.trans (congrArg some (by kernel_rfl))⟩
 f21:=⟨Tryz.f303.name,by decide,Tryz.func303.trans (congrArg some (by kernel_rfl))⟩
 f22:=⟨Tryz.f304.name,by decide,Tryz.func304.trans (congrArg some (by kernel_rfl))⟩
 f23:=⟨Tryz.f305.name,by decide,Tryz.func305.trans (congrArg some (by kernel_rfl))⟩
 f24:=⟨Tryz.f306.name,by decide,Tryz.func306.trans (congrArg some (by kernel_rfl))⟩
 f25:=⟨Tryz.f307.name,by decide,Tryz.func307.trans (congrArg some (by kernel_rfl))⟩
 f26:=⟨Tryz.f308.name,by decide,Tryz.func308.trans (congrArg some (by kernel_rfl))⟩
 f27:=⟨Tryz.f309.name,by decide,Tryz.func309.trans (congrArg some (by kernel_rfl))⟩
 f28:=Tryz.func223.trans (congrArg some (by kernel_rfl))
 f29:=Tryz.func224.trans (congrArg some (by kernel_rfl))
 f46:=⟨Tryz.f318.name,by decide,Tryz.func318.trans (congrArg some (by kernel_rfl))⟩
 f47:=Tryz.func277.trans (congrArg some (by kernel_rfl))
 f48:=Tryz.func278.trans (congrArg some (by kernel_rfl))
 f49:=⟨Tryz.f319.name,by decide,Tryz.func319.trans (congrArg some (by kernel_rfl))⟩
 f50:=⟨Tryz.f320.name,by decide,Tryz.func320.trans (congrArg some (by kernel_rfl))⟩
 f57:=⟨Tryz.f325.name,by decide,Tryz.func325.trans (congrArg some (by kernel_rfl))⟩
 t0:=Tryz.underlying0
 a0:=Tryz.isAgg0
 z0:=Tryz.sizeOf0
 v0:=Tryz.zeroValue0
 t3:=Tryz.underlying3
 a3:=Tryz.isAgg3
 z3:=Tryz.sizeOf3
 v3:=Tryz.zeroValue3
 t4:=Tryz.underlying4
 a4:=Tryz.isAgg4
 z4:=Tryz.sizeOf4
 v4:=Tryz.zeroValue4
 t5:=Tryz.underlying5
 a5:=Tryz.isAgg5
 z5:=Tryz.sizeOf5
 v5:=Tryz.zeroValue5
 t9:=Tryz.underlying9
 a9:=Tryz.isAgg9
 z9:=Tryz.sizeOf9
 v9:=Tryz.zeroValue9
 t22:=Tryz.underlying33
 a22:=Tryz.isAgg33
 z22:=Tryz.sizeOf33
 v22:=Tryz.zeroValue33
 t25:=Tryz.underlying231
 a25:=Tryz.isAgg231
 z25:=Tryz.sizeOf231
 v25:=Tryz.zeroValue231
 t39:=Tryz.underlying171
 a39:=Tryz.isAgg171
 z39:=Tryz.sizeOf171
 v39:=Tryz.zeroValue171
 t45:=Tryz.underlying217
 a45:=Tryz.isAgg217
 z45:=Tryz.sizeOf217
 v45:=Tryz.zeroValue217
 t46:=Tryz.underlying218
 a46:=Tryz.isAgg218
 z46:=Tryz.sizeOf218
 v46:=Tryz.zeroValue218
 t50:=Tryz.underlying30
 a50:=Tryz.isAgg30
 z50:=Tryz.sizeOf30
 v50:=Tryz.zeroValue30
 t53:=Tryz.underlying225
 a53:=Tryz.isAgg225
 z53:=Tryz.sizeOf225
 v53:=Tryz.zeroValue225
 t55:=Tryz.underlying227
 a55:=Tryz.isAgg227
 z55:=Tryz.sizeOf227
 v55:=Tryz.zeroValue227
 t66:=Tryz.underlying248
 a66:=Tryz.isAgg248
 z66:=Tryz.sizeOf248
 v66:=Tryz.zeroValue248
 t70:=Tryz.underlying252
 a70:=Tryz.isAgg252
 z70:=Tryz.sizeOf252
 v70:=Tryz.zeroValue252
 t76:=Tryz.underlying265
 a76:=Tryz.isAgg265
 z76:=Tryz.sizeOf265
 v76:=Tryz.zeroValue265
 t77:=Tryz.underlying266
 a77:=Tryz.isAgg266
 z77:=Tryz.sizeOf266
 v77:=Tryz.zeroValue266 }
end Go.Proofs
namespace Go.Ab
open Go.Proofs Go.Sort
theorem q9b {σ:Mem} {β:Lab} {k:Nat} {c c':Chunk} {w w':World} {i:BInfo} (h:HRel σ β [(k,c)] w) (hi:β k=some i) (hf:Frm (fun b=>b=i.blk) w w')
  (hnew:c'.holds σ β w' k):HRel σ β [(k,c')] w'∧Later σ β [(k,c)] w σ β [(k,c')] w':=by
 have hap:=h.apart k (by simp) i hi
 refine ⟨⟨fun b cs hb => ?_,fun j d hj => ?_,by simp,fun j hj i' hi' b hb => ?_,fun j hj j' hj' _ _ _ _ _ _ _ => ?_⟩,Mem.le_refl σ,⟨hf.os,hf.tape,hf.output,hf.drawn,hf.size,fun b hb hn=>hf.block b hb fun he=>hn ⟨k,by simp,i,hi,.inl he.symm⟩⟩,
  fun b h0 h1=>absurd h0 h1,fun b ⟨j,hj,i',hi',hb⟩ => .inl ⟨j,by simpa using hj,i',hi',hb⟩,fun _ _ _=>rfl⟩
 ·obtain ⟨e,fr,hh⟩:=h.mem b cs hb
  exact ⟨e,fr,(hf.block b (Array.getElem?_eq_some_iff.1 hh).1 fun he=>by rw [he,(hap _ i.has_blk).1] at hb;cases hb).trans hh⟩
 ·simp at hj
  obtain ⟨rfl,rfl⟩:=hj
  exact hnew
 ·simp at hj
  subst hj
  rw [hi] at hi';cases hi'
  exact ⟨(hap b hb).1,Nat.lt_of_lt_of_le (hap b hb).2 hf.size⟩
 ·simp at hj hj'
  rw [hj,hj']
theorem UX {w:World} {b:Nat} {vs:Array Value} {e:TypeId} (h:w.heap[b]? = some (.cells vs e (0,0))) (o:Nat):w.frozen? ⟨b,o,none⟩=false:=by
 simp [World.frozen?,h]
theorem GI {w:World} {b:Nat} {vs:Array Value} {e:TypeId} (h:w.heap[b]? = some (.cells vs e (0,0))) (o:Nat):w.cell? ⟨b,o,none⟩=vs[o]? := by
 simp [World.cell?,h]
theorem q0h {α:Type} [Inhabited α] {enc:α→Value} {w:World} {n b:Nat} {d:Array α} {os:Array Obj} {vs:Array Value} {e:TypeId} (h:w.heap[b]? = some (.cells vs e (0,0))) (hlt:b<w.heap.size) :
  Frm (fun x=>x=b) w (grow (putRow enc (Sort.ahead w n) b 0 d) os)∧(grow (putRow enc (Sort.ahead w n) b 0 d) os).heap[b]? = some (.cells (putCells enc 0 d vs) e (0,0)):=by
 have hh:(grow (putRow enc (Sort.ahead w n) b 0 d) os).heap=w.heap.modify b (onCells (putCells enc 0 d))++os:=rfl
 refine ⟨⟨rfl,rfl,rfl,Nat.le_add_right _ _,?_,fun k hk hn => ?_⟩,?_⟩
 ·rw [hh];simp
 ·rw [hh,Array.getElem?_append_left (by simpa using hk),Array.getElem?_modify,if_neg (Ne.symm hn)]
 ·rw [hh,Array.getElem?_append_left (by simpa using hlt),Array.getElem?_modify,if_pos rfl,h]
  rfl
theorem HN {α:Type} [Inhabited α] {enc:α→Value} {d:Array α} {vs:Array Value} (hs:d.size≤vs.size) {k:Nat} (hk:k<d.size):(putCells enc 0 d vs)[k]? = some (enc d[k]):=by
 unfold putCells
 have hk':k<vs.size:=by omega
 simp [hk',hk]
theorem x7l {σ:Mem} {l:List Str} {vs:Array Value} (h : ∀ (m:Nat) (x:AV),(l.map AV.str)[m]? = some x→x.cells.length=1 ∧ ∀ (j:Nat) (c:AV),x.cells[j]? = some c → ∃ u:Value,vs[m*1+j]? = some u∧Rep σ c u) {j:Nat} (hj:j<l.length) :
  vs[j]? = some (encStr l[j])∧l[j].length≤maxLen:=by
 obtain ⟨u,h1,h2⟩:=(h j (.str l[j]) (by simp [hj])).2 0 (.str l[j]) rfl
 cases h2 with
 | str _ h3=>exact ⟨by simpa using h1,h3⟩
theorem x8h {σ:Mem} {l:List Str} {vs:Array Value} (h : ∀ j (hj:j<l.length),vs[j]? = some (encStr l[j])) (hl : ∀ s∈l,s.length≤maxLen) : ∀ (m:Nat) (x:AV),(l.map AV.str)[m]? = some x→x.cells.length=1 ∧ ∀ (j:Nat) (c:AV),x.cells[j]? = some c → ∃ u:Value,vs[m*1+j]? = some u∧Rep σ c u:=by
 intro m x hx
 rw [List.getElem?_map] at hx
 cases hq:l[m]? with
 | none=>rw [hq] at hx;cases hx
 | some s =>
   rw [hq] at hx;cases hx
   obtain ⟨hm,rfl⟩:=List.getElem?_eq_some_iff.1 hq
   refine ⟨rfl,fun j c hj => ?_⟩
   have hj0:j=0:=by
    have:=(List.getElem?_eq_some_iff.1 hj).1
    simpa [AV.cells] using this
   subst hj0
   simp only [AV.cells,List.getElem?_cons_zero,Option.some.injEq] at hj
   subst hj
   exact ⟨_,by simpa using h m hm,.str _ (hl _ (List.getElem_mem hm))⟩
theorem w2q {vals:Array Value} {l:LV} (h:vals.size=[l].length) : ∃ v,vals = #[v]:=⟨vals[0]'(by simp at h;omega),by apply Array.ext;simpa using h;intro i h1 h2;simp at h2;subst h2;rfl⟩
theorem x3n {σ:Mem} {β:Lab} {k n:Nat} {v:Value} {i:BInfo} (h:RepL σ β (.hd k 0 n) v) (hi:β k=some i):v = .slice (some ⟨i.blk,0,none⟩) n i.cap:=by
 rcases h.hdI with ⟨hk,_⟩|⟨i',o,hk,hl,ho,hv⟩
 ·rw [hi] at hk;cases hk
 ·rw [hi] at hk;cases hk
  rcases ho with ho|ho
  ·rw [hv,ho];simp
  ·omega
theorem x8x {σ:Mem} {β:Lab} {k n:Nat} {v:Value} (h:RepL σ β (.hd k 0 n) v) (hi:β k=none):v = .slice none 0 0∧n=0:=by
 rcases h.hdI with ⟨_,_,hn,hv⟩|⟨i',o,hk,_⟩
 ·exact ⟨hv,hn⟩
 ·rw [hi] at hk;cases hk
def UB (l:List Str):List Str:=l.mergeSort fun x y=>decide (x≤y)
theorem NH (l:List Str) (hlen:l.length≤1000000000) :
  SpecH Tryz.prog 96 [.hd 1000 0 l.length] [(1000,.own 9 1 (l.map .str))] (fun r H=>r = .p (.tup [])∧H=[(1000,.own 9 1 ((UB l).map .str))]):=by
 refine ⟨Tryz.call96,fun σ β w vals hn hv hH => ?_⟩
 obtain ⟨v,rfl⟩:=w2q hn
 have hv:=hv 0 _ rfl
 simp only [List.size_toArray,List.length_cons,List.length_nil,Array.getD_eq_getD_getElem?] at hv
 have hv:RepL σ β (.hd 1000 0 l.length) v:=by simpa using hv
 have hch:=hH.chunks 1000 _ List.mem_cons_self
 have hlenS:(UB l).length=l.length:=by unfold UB;simp
 rcases hch with ⟨hb0,hes⟩|⟨i,vs,hi,hsz,hh,h2,h3,h4,h5⟩
 ·have hl0:l=[]:=by simpa using hes
  subst hl0
  obtain ⟨rfl,_⟩:=x8x hv hb0
  have hc:=Any.slices_Sort_string_none Tryz.lays190 none 0 w
  change Calls Tryz.prog 96 _ _ _ at hc
  refine hc.mono ?_
  rintro e w' ⟨rfl,rfl⟩
  exact ⟨.p (.tup []),.tuple #[],σ,β,_,rfl,⟨rfl,rfl⟩,.p (.tup [] #[] (fun _=>undef) rfl (by simp) (by simp)),by simpa [UB] using hH,by simpa [UB] using Later.refl _ _ _ _⟩
 ·have hve:=x3n hv hi
  subst hve
  have hlt:=(hH.apart 1000 (by simp) i hi i.blk i.has_blk).2
  have hle:l.length≤vs.size:=by rw [h2,Nat.mul_one];simpa using h3
  have hget:=fun j hj=>x7l (σ:=σ) (l:=l) h5 (j:=j) hj
  have hc:=Any.slices_Sort_string Tryz.lays190 i.blk 0 i.cap l w (fun j hj=>by
   have hj':j<l.length:=by simpa using hj
   refine ⟨?_,UX hh _⟩
   rw [GI hh,Nat.zero_add,(hget j hj').1]
   simp [hj']) hlt (by omega)
  change Calls Tryz.prog 96 _ _ _ at hc
  refine hc.mono ?_
  rintro e w' ⟨rfl,n,os,rfl⟩
  obtain ⟨hf,hb⟩:=q0h (enc:=encStr) (n:=n) (os:=os) (d:=(UB l).toArray) hh hlt
  obtain ⟨hH',hL⟩:=q9b (c' := .own 9 1 ((UB l).map .str)) hH hi hf (.inr ⟨i,_,hi,hsz,hb,by simpa [putCells] using h2,by simpa [hlenS] using h3,h4,x8h (fun j hj=>by
   have:=HN (enc:=encStr) (d:=(UB l).toArray) (vs:=vs) (by simp [hlenS];omega) (k:=j) (by simpa using hj)
   simpa using this) fun s hs=>by
    have:s∈l:=by unfold UB at hs;simpa using hs
    obtain ⟨j,hj,rfl⟩:=List.mem_iff_getElem.1 this
    exact (hget j hj).2⟩)
  exact ⟨.p (.tup []),.tuple #[],σ,β,_,rfl,⟨rfl,rfl⟩,.p (.tup [] #[] (fun _=>undef) rfl (by simp) (by simp)),hH',hL⟩
theorem q7m (l:List Str):(Go.Lib.compact l).length≤l.length:=by
 unfold Go.Lib.compact Go.Lib.compactUpTo
 rw [List.length_map]
 exact Nat.le_trans (List.length_filter_le _ _) (by simp)
theorem PS {l:List Str} {s:Str} (h:s∈Go.Lib.compact l):s∈l:=by
 unfold Go.Lib.compact Go.Lib.compactUpTo at h
 obtain ⟨j,hj,rfl⟩:=List.mem_map.1 h
 have:=(List.mem_filter.1 hj).1
 have hlt:j<l.length:=by simpa using this
 simp [hlt]
theorem LT {α:Type} [Inhabited α] {enc:α→Value} {d:Array α} {vs:Array Value} {o:Nat}:(putCells enc o d vs).size=vs.size:=by simp [putCells]
theorem BM (l:List Str) (hlen:l.length≤1000000000) :
  SpecH Tryz.prog 236 [.hd 1000 0 l.length] [(1000,.own 9 1 (l.map .str))] (fun r H=>r = .hd 1000 0 (Go.Lib.compact l).length∧H=[(1000,.own 9 1 ((Go.Lib.compact l).map .str))]):=by
 refine ⟨Tryz.call236,fun σ β w vals hn hv hH => ?_⟩
 obtain ⟨v,rfl⟩:=w2q hn
 have hv:=hv 0 _ rfl
 have hv:RepL σ β (.hd 1000 0 l.length) v:=by simpa using hv
 have hch:=hH.chunks 1000 _ List.mem_cons_self
 have hcl:=q7m l
 rcases hch with ⟨hb0,hes⟩|⟨i,vs,hi,hsz,hh,h2,h3,h4,h5⟩
 ·have hl0:l=[]:=by simpa using hes
  subst hl0
  obtain ⟨rfl,_⟩:=x8x hv hb0
  have hc:=Any.slices_Compact_string_empty Tryz.lays194 none 0 w
  change Calls Tryz.prog 236 _ _ _ at hc
  refine hc.mono ?_
  rintro e w' ⟨rfl,rfl⟩
  exact ⟨.hd 1000 0 0,.slice none 0 0,σ,β,_,rfl,⟨rfl,rfl⟩,.hdn 1000 hb0,by simpa [Go.Lib.compact,Go.Lib.compactUpTo] using hH,by simpa [Go.Lib.compact,Go.Lib.compactUpTo] using Later.refl _ _ _ _⟩
 ·have hve:=x3n hv hi
  subst hve
  have hlt:=(hH.apart 1000 (by simp) i hi i.blk i.has_blk).2
  have hle:l.length≤vs.size:=by rw [h2,Nat.mul_one];simpa using h3
  have hcap:l.length≤i.cap:=by simpa using h3
  have hget:=fun j hj=>x7l (σ:=σ) (l:=l) h5 (j:=j) hj
  have hc:=Any.slices_Compact_string Tryz.lays194 i.blk 0 i.cap l w (fun j hj=>by
   have hj':j<l.length:=by simpa using hj
   refine ⟨?_,UX hh _⟩
   rw [GI hh,Nat.zero_add,(hget j hj').1]
   simp [hj']) (by omega) hcap
  change Calls Tryz.prog 236 _ _ _ at hc
  refine hc.mono ?_
  rintro e w' ⟨rfl,q,rfl⟩
  obtain ⟨hf,hb⟩:=q0h (enc:=encStr) (n:=q) (os := #[]) (d:=(Go.Lib.compact l++List.replicate (l.length-(Go.Lib.compact l).length) []).toArray) hh hlt
  rw [grow_empty] at hf hb
  obtain ⟨hH',hL⟩:=q9b (c' := .own 9 1 ((Go.Lib.compact l).map .str)) hH hi hf (.inr ⟨i,_,hi,hsz,hb,by rw [LT];exact h2,by simp;omega,h4,x8h (fun j hj=>by
   have:=HN (enc:=encStr) (d:=(Go.Lib.compact l++List.replicate (l.length-(Go.Lib.compact l).length) []).toArray) (vs:=vs) (by simp;omega) (k:=j) (by simp;omega)
   rw [this]
   simp [List.getElem_append_left hj]) fun s hs=>by
    obtain ⟨j,hj,rfl⟩:=List.mem_iff_getElem.1 (PS hs)
    exact (hget j hj).2⟩)
  refine ⟨.hd 1000 0 (Go.Lib.compact l).length,_,σ,β,_,rfl,⟨rfl,rfl⟩,?_,hH',hL⟩
  have:=RepL.hd (σ:=σ) (β:=β) 1000 0 (Go.Lib.compact l).length i 0 hi (by omega) (.inl (by simp))
  simpa using this
open Go.Proofs
theorem q3a {p:Pg} (hs:(QN p).1=0) {f:Pr} (hf:f∈p.procs) {t:S} (ht:t∈flL f.body):knownB p f (procsN p) t=true:=by
 obtain ⟨_,_,h⟩:=WT hs
 have h1:=List.findSome?_eq_none_iff.1 h f hf
 unfold WH at h1
 cases hb:(XW (x4z f)||(x4z f).any fun n=>p.globals.any fun s=>n==s)<;>rw [hb] at h1
 ·simp only [cond_false,Option.map_eq_none_iff] at h1
  have:=List.find?_eq_none.1 h1 t ht
  simpa using this
 ·cases h1
theorem q0d {p:Pg} (hs:(QN p).1=0) {f:Pr} (hf:f∈p.procs) {t:S} (ht:t∈flL f.body) (hk:t.kind=4):t.proc∈procsN p∧t.proc≠mainS:=by
 have:=q3a hs hf ht
 unfold knownB at this
 simp only [Bool.and_eq_true,Bool.or_eq_true,decide_eq_true_eq] at this
 rcases this.2 with h|h
 ·exact absurd hk h
 ·simp only [Bool.not_eq_true',beq_eq_false_iff_ne,ne_eq] at h
  refine ⟨?_,h.1⟩
  obtain ⟨s,h1,h2⟩:=List.any_eq_true.1 h.2
  have:=eq_of_beq h2
  exact this▸h1
def JY (f:Pr):List Str:=((flL f.body).filter fun t=>decide (t.kind=4)).map S.proc
def VE (f:Pr):List Str:=Go.Lib.compact (UB (JY f))
theorem MA {l:List Str} {s:Str}:s∈UB l↔s∈l:=by unfold UB;simp
theorem JQ (l:List Str):(UB l).length=l.length:=by unfold UB;simp
theorem q8h (f:Pr):(VE f).length≤QY f.body:=by
 have:=q7m (UB (JY f))
 rw [JQ] at this
 unfold VE
 refine Nat.le_trans this ?_
 unfold JY
 rw [List.length_map,← q6x]
 exact List.length_filter_le _ _
theorem FR {p:Pg} (hs:(QN p).1=0) {f:Pr} (hf:f∈p.procs) {s:Str} (h:s∈VE f):s∈procsN p:=by
 have h1:=MA.1 (PS h)
 obtain ⟨t,h2,rfl⟩:=List.mem_map.1 h1
 obtain ⟨h3,h4⟩:=List.mem_filter.1 h2
 exact (q0d hs hf h3 (by simpa using h4)).1
theorem ND {p:Pg} {n:Str} (h:n∈procsN p) : ∃ (k:Nat) (hk:k<p.procs.length),q7a (fun f=>f.name==n) p.procs=k∧p.procs.find? (fun f=>f.name==n)=some p.procs[k]∧p.procs[k].name=n:=by
 have h':p.procs.any (fun f=>f.name==n)=true:=by
  obtain ⟨f,h1,h2⟩:=List.mem_map.1 h
  exact List.any_eq_true.2 ⟨f,h1,by simp [h2]⟩
 obtain ⟨k,hk,h1,h2,h3⟩:=x8u h'
 exact ⟨k,hk,h1,h3,by simpa using h2⟩
theorem x6h (p:Pg) (n:Str) (k:Nat) (hk:k<p.procs.length) (hi:q7a (fun f=>f.name==n) p.procs=k) (hc:cntP p.procs≤1000):SpecP Tryz.prog 297 [.ip (sheetOf p).cells,.str n] (fun r=>r=QH (VE p.procs[k])):=by
 refine SpecP.body x0q QQ Tryz.func297 rfl Tryz.call297 (by show 2≤_;decide) ?_
 conv=>whnf
 repeat' ((first|intro (_:_≤9223372036854775807)|(refine CallK.pure (VP _ _) (by repeat' (first|exact ArgP.nil|refine ArgP.cons ?_ ?_|exact Sub.refl _|exact Sub.tt rfl|exact Sub.ff rfl)) ?_;rintro _ rfl)|(refine CallK.pure (x6o p (j:=k) (f:=p.procs[k]'hk) (by simp) hc) (.cons (Sub.refl _) (.cons (Sub.int (by exact hi)) .nil)) ?_;rintro _ rfl));conv=>whnf)
 have hmap:=NF (k:Nat) 0 (-1) 0 (QR p.procs k) p.procs[k].body
 have hib:(itL (k:Nat) 0 (-1) 0 (QR p.procs k) p.procs[k].body).length≤1000:=by
  have:=(QG p).2.2.2.2 k p.procs[k] (by simp)
  rw [ZG]
  omega
 generalize hits:itL (k:Nat) 0 (-1) 0 (QR p.procs k) p.procs[k].body=its at hmap hib ⊢
 have hil:=WU its
 have hraw:JY p.procs[k]=(its.filter fun it=>decide (it.s.kind=4)).map fun it=>it.s.proc:=by
  unfold JY
  rw [← hmap,List.filter_map,List.map_map]
  rfl
 refine LoopK.inv QQ (fun i:Nat×List Str=>⟨[(5,.hd 0 0 i.2.length),(12,.p (JK its)),(13,.p (.int .i64 (its.map fun i=>AV.agg i.cells).length)),(14,.p (.int .i64 i.1))],[(0,.own 9 1 (i.2.map .str))]⟩)
  (fun i=>i.1≤its.length∧i.2.length≤i.1∧i.2++((its.drop i.1).filter fun it=>decide (it.s.kind=4)).map (fun it=>it.s.proc)=JY p.procs[k]) (fun i=>its.length-i.1) (0,[])
  (Le.mk [(0,.own 9 1 [])] (by simp [Chunk.new0];rfl) (by simp) (by simp) (.cons (.nil List.mem_cons_self) (.cons (.refl _) (.cons (.refl _) (.cons (.refl _) .nil)))) (.new List.mem_cons_self .nil))
  ⟨Nat.zero_le _,Nat.le_refl _,by rw [hraw];rfl⟩ ?_
 rintro ⟨j,acc⟩ ⟨h2,h3,h4⟩
 simp only at h2 h3 h4 ⊢
 rcases Nat.lt_or_ge j its.length with hj|hj
 ·conv=>whnf
  repeat' (first|((first|refine And.intro rfl ?_|(refine And.intro ⟨by decide,by decide⟩ ?_)|refine BsK.pure (fun x hx=>by rcases List.mem_singleton.1 hx with rfl;rfl) rfl ?_|refine IdxK.map (by omega) (fun _=>rfl) ?_|refine Wr.i64 (by omega) (by omega) ?_|refine AppK.str1 (by simp) (by simp;omega) ?_);conv=>whnf)|(refine Br.dec (fun _=>?_) (fun _=>?_)<;>first|(exfalso;omega)|conv=>whnf))
  ·exact ⟨(j+1,acc++[its[j].s.proc]),⟨by simp only;omega,by simp;omega,by simp only;rw [← h4,QJ hj,List.filter_cons,if_pos (by simp [*])];simp⟩,by simp only;omega,Le.of_eq (by simp only [List.length_append,List.map_append];rfl)⟩
  ·exact ⟨(j+1,acc),⟨by simp only;omega,by simp only;omega,by simp only;rw [← h4,QJ hj,List.filter_cons,if_neg (by simp [*])]⟩,by simp only;omega,Le.of_eq rfl⟩
 ·have hacc:acc=JY p.procs[k]:=by
   rw [List.drop_eq_nil_of_le hj] at h4
   simpa using h4
  conv=>whnf
  repeat' (first|(refine Br.dec (fun _=>?_) (fun _=>?_)<;>first|(exfalso;omega)|conv=>whnf)|(refine CallK.heap [(1000,0)] 0 (by repeat' (first|exact ArgsH.nil|refine ArgsH.cons ?_ ?_|exact LSub.refl _|exact LSub.p Sub.nils|exact LSub.p (Sub.tt rfl)|exact LSub.p (Sub.ff rfl)|exact LSub.p (Sub.int (by omega)))) (by refine BlksH.cons (j:=0) rfl rfl ?_ ?_;exact CSub.refl _;exact BlksH.nil) (NH acc (by omega)) rfl rfl ?_;rintro l' H' ⟨rfl,rfl⟩;conv=>whnf)|(refine CallK.heap [(1000,0)] 0 (ArgsH.cons (LSub.of_eq (by rw [JQ];rfl)) ArgsH.nil) (by refine BlksH.cons (j:=0) rfl rfl ?_ ?_;exact CSub.refl _;exact BlksH.nil) (BM (UB acc) (by rw [JQ];omega)) rfl rfl ?_;rintro l' H' ⟨rfl,rfl⟩;conv=>whnf))
  exact ⟨_,.hd rfl (by simp),by unfold VE;rw [← hacc];rfl⟩
def WY (out:List Str):List Str→List Str
 | []=>out
 | n::r=>WY (if (out.any fun s=>n==s)=true then out else out++[n]) r
theorem PP {out l:List Str} {j:Nat} (hj:j<l.length):WY out (l.drop j)=WY (if (out.any fun s=>l[j]==s)=true then out else out++[l[j]]) (l.drop (j+1)):=by
 rw [QJ hj,WY]
theorem KN {p:Pg} : ∀ (l:List Str) {out:List Str},out.Nodup→(∀ s∈out,s∈procsN p)→(∀ s∈l,s∈procsN p)→(WY out l).Nodup∧(∀ s∈WY out l,s∈procsN p) ∧ ∃ r,WY out l=out++r
 | [],out,h1,h2,_=>⟨h1,h2,[],by rw [WY];simp⟩
 | n::r,out,h1,h2,h3=>by
   rw [WY]
   split
   ·exact KN r h1 h2 fun s hs=>h3 s (List.mem_cons_of_mem _ hs)
   ·rename_i hn
    have hno:n∉out:=fun hm=>hn (List.any_eq_true.2 ⟨n,hm,by simp⟩)
    obtain ⟨h4,h5,r',h6⟩:=KN (p:=p) r (out:=out++[n]) (List.nodup_append.2 ⟨h1,by simp,fun a ha b hb=>by simp at hb;subst hb;exact fun he=>hno (he▸ha)⟩) (fun s hs=>by
     rcases List.mem_append.1 hs with hs|hs
     ·exact h2 s hs
     ·simp at hs;subst hs;exact h3 _ List.mem_cons_self) fun s hs=>h3 s (List.mem_cons_of_mem _ hs)
    exact ⟨h4,h5,n::r',by rw [h6];simp⟩
def q7r (p:Pg) (n:Str):List Str:=match p.procs.find? (fun f=>f.name==n) with
 | some f=>VE f
 | none=>[]
def WM (p:Pg):Nat→Nat→List Str→List Str
 | 0,_,out=>out
 | fuel+1,i,out=>match out[i]? with
   | some n=>WM p fuel (i+1) (WY out (q7r p n))
   | none=>out
def z1t (p:Pg) (n:Str):List Str:=UB (WM p (p.procs.length+1) 0 [n])
theorem q9t {α:Type} [BEq α] [LawfulBEq α] : ∀ {l m:List α},l.Nodup→(∀ s∈l,s∈m)→l.length≤m.length
 | [],m,_,_=>Nat.zero_le _
 | a::r,m,h1,h2=>by
   have ha:=h2 a List.mem_cons_self
   have:=q9t (l:=r) (m:=m.erase a) (List.nodup_cons.1 h1).2 fun s hs=>(List.mem_erase_of_ne fun he=>(List.nodup_cons.1 h1).1 (by rw [← he];exact hs)).2 (h2 s (List.mem_cons_of_mem _ hs))
   rw [List.length_erase_of_mem ha] at this
   have:=List.length_pos_of_mem ha
   simp only [List.length_cons]
   omega
theorem x3q {p:Pg} {n:Str} {k:Nat} (hk:k<p.procs.length) (h:p.procs.find? (fun f=>f.name==n)=some p.procs[k]):q7r p n=VE p.procs[k]:=by
 unfold q7r
 rw [h]
theorem x4t {p:Pg} (hs:(QN p).1=0) {n s:Str} (h:s∈q7r p n):s∈procsN p:=by
 unfold q7r at h
 split at h
 ·rename_i f hf
  exact FR hs (List.mem_of_find?_eq_some hf) h
 ·cases h
theorem z4j (p:Pg) (n:Str) (hs:(QN p).1=0) (hn:n∈procsN p):SpecP Tryz.prog 265 [.ip (sheetOf p).cells,.str n] (fun r=>r=QH (z1t p n)):=by
 refine SpecP.body x5g QQ Tryz.func265 rfl Tryz.call265 (by show 2≤_;decide) ?_
 conv=>whnf
 obtain ⟨hm,hb,hns⟩:=WT hs
 obtain ⟨hg,hpl,hcn⟩:=XS hm
 have hnl:(procsN p).length=p.procs.length:=by simp [procsN]
 repeat' ((first|refine And.intro rfl ?_|(refine And.intro ⟨by decide,by decide⟩ ?_)|refine BsK.own (fun x hx=>by rcases List.mem_singleton.1 hx with rfl;rfl) rfl ?_);conv=>whnf)
 refine LoopK.inv QQ (fun i:Nat×List Str=>⟨[(0,.p (.ip (sheetOf p).cells)),(5,.hd 0 0 i.2.length),(6,.p (.int .i64 i.1))],[(0,.own 9 1 (i.2.map .str))]⟩)
  (fun i=>i.1≤i.2.length∧i.2.Nodup∧(∀ s∈i.2,s∈procsN p)∧WM p (p.procs.length+1-i.1) i.1 i.2=WM p (p.procs.length+1) 0 [n]) (fun i=>p.procs.length+1-i.1) (0,[n])
  (Le.of_eq rfl) ⟨Nat.zero_le _,by simp,by simpa using hn,rfl⟩ ?_
 rintro ⟨j,out⟩ ⟨h2,h3,h4,h5⟩
 simp only at h2 h3 h4 h5 ⊢
 have hol:=q9t h3 h4
 rcases Nat.lt_or_ge j out.length with hj|hj
 ·obtain ⟨k,hk,hik,hfk,hnk⟩:=ND (h4 _ (List.getElem_mem hj))
  have hcl:=q8h p.procs[k]
  have hcc:QY p.procs[k].body≤200:=by
   have:=(QG p).2.2.2.2 k p.procs[k] (by simp)
   omega
  conv=>whnf
  repeat' (first|((first|intro (_:_≤9223372036854775807)|refine And.intro rfl ?_|refine IdxL.mk j rfl hj ?_|refine LdOwn.mk j 0 (.str out[j]) (by omega) (by simp [hj]) ?_|(refine CallK.pure (x6h p out[j] k hk hik (by omega)) (.cons (Sub.refl _) (.cons (Sub.refl _) .nil)) ?_;rintro _ rfl));conv=>whnf)|(refine Br.dec (fun _=>?_) (fun _=>?_)<;>first|(exfalso;omega)|conv=>whnf))
  have hkn : ∀ s∈VE p.procs[k],s∈procsN p:=fun s h=>FR hs (List.getElem_mem hk) h
  have hcN:=x3q hk hfk
  have hre:WM p (p.procs.length+1-j) j out=WM p (p.procs.length+1-(j+1)) (j+1) (WY out (VE p.procs[k])):=by
   rw [show p.procs.length+1-j=(p.procs.length+1-(j+1))+1 by omega,WM,List.getElem?_eq_getElem hj]
   simp only
   rw [hcN]
  rw [hre] at h5
  obtain ⟨hi1,hi2,rr,hi3⟩:=KN (VE p.procs[k]) h3 h4 hkn
  generalize VE p.procs[k]=cs at hkn h5 hi1 hi2 hi3 hcl ⊢
  have hcsl:(cs.map AV.str).length=cs.length:=List.length_map _
  refine LoopK.inv QQ (fun i:Nat×List Str=>⟨[(0,.p (.ip (sheetOf p).cells)),(5,.hd 0 0 i.2.length),(6,.p (.int .i64 j)),(22,.p (QH cs)),(23,.p (.int .i64 (cs.map AV.str).length)),(24,.p (.int .i64 i.1))],[(0,.own 9 1 (i.2.map .str))]⟩)
   (fun i=>i.1≤cs.length∧i.2.length≤out.length+i.1∧WY i.2 (cs.drop i.1)=WY out cs) (fun i=>cs.length-i.1) (0,out)
   (Le.of_eq rfl) ⟨Nat.zero_le _,by simp,rfl⟩ ?_
  rintro ⟨m,acc⟩ ⟨h6,h7,h8⟩
  simp only at h6 h7 h8 ⊢
  rcases Nat.lt_or_ge m cs.length with hm'|hm'
  ·conv=>whnf
   repeat' (first|((first|refine And.intro rfl ?_|(refine And.intro ⟨by decide,by decide⟩ ?_)|refine BsK.pure (fun x hx=>by rcases List.mem_singleton.1 hx with rfl;rfl) rfl ?_|refine IdxK.map (by omega) (fun _=>rfl) ?_|refine Wr.i64 (by omega) (by omega) ?_|(refine CallK.borrow (QZ acc (cs[m]'hm')) (.cons (.hd rfl (by simp)) (.cons (.p (Sub.refl _)) .nil)) (by rintro _ rfl;rfl) ?_;rintro _ rfl)|refine AppK.str1 (by simp) (by simp;omega) ?_);conv=>whnf)|(refine Br.dec (fun _=>?_) (fun _=>?_)<;>first|(exfalso;omega)|conv=>whnf)|(refine Br.n (fun _=>?_) (fun _=>?_)<;>conv=>whnf))
   ·exact ⟨(m+1,acc),⟨by simp only;omega,by simp only;omega,by simp only;rw [← h8,PP hm',if_pos (by assumption)]⟩,by simp only;omega,Le.of_eq rfl⟩
   ·exact ⟨(m+1,acc++[cs[m]]),⟨by simp only;omega,by simp;omega,by simp only;rw [← h8,PP hm',if_neg (by simp [*])]⟩,by simp only;omega,Le.of_eq (by simp only [List.length_append,List.map_append];rfl)⟩
  ·rw [List.drop_eq_nil_of_le hm',WY] at h8
   subst h8
   have hge:out.length≤(WY out cs).length:=by rw [hi3];simp
   conv=>whnf
   repeat' (first|(refine Wr.i64 (by omega) (by omega) ?_;conv=>whnf)|(refine Br.dec (fun _=>?_) (fun _=>?_)<;>first|(exfalso;omega)|conv=>whnf))
   exact ⟨(j+1,WY out cs),⟨by simp only;omega,hi1,hi2,h5⟩,by simp only;omega,Le.of_eq rfl⟩
 ·have hjo:j=out.length:=by omega
  have hre:WM p (p.procs.length+1-j) j out=out:=by
   rw [show p.procs.length+1-j=(p.procs.length-j)+1 by omega,WM,List.getElem?_eq_none (by omega)]
  rw [hre] at h5
  conv=>whnf
  repeat' (first|(intro (_:_≤9223372036854775807);conv=>whnf)|(refine Br.dec (fun _=>?_) (fun _=>?_)<;>first|(exfalso;omega)|conv=>whnf)|(refine CallK.heap [(1000,0)] 0 (by repeat' (first|exact ArgsH.nil|refine ArgsH.cons ?_ ?_|exact LSub.refl _|exact LSub.p Sub.nils|exact LSub.p (Sub.tt rfl)|exact LSub.p (Sub.ff rfl)|exact LSub.p (Sub.int (by omega)))) (by refine BlksH.cons (j:=0) rfl rfl ?_ ?_;exact CSub.refl _;exact BlksH.nil) (NH out (by omega)) rfl rfl ?_;rintro l' H' ⟨rfl,rfl⟩;conv=>whnf))
  exact ⟨_,.hd rfl (by simp [JQ]),by unfold z1t;rw [← h5];rfl⟩
open Go.Proofs
mutual
theorem z9f : ∀ (x:X) (out:List Str),(q8g x out).length≤out.length+wX x
 | .mk op n name kids,out=>by
   rw [q8g,wX]
   have:=z3p kids (if op=2∧(out.any fun s=>name==s)=false then out++[name] else out)
   split at this
   ·rename_i h;rw [if_pos h];simp at this;omega
   ·rename_i h;rw [if_neg h];omega
theorem z3p : ∀ (l:List X) (out:List Str),(GU l out).length≤out.length+wXs l
 | [],out=>by rw [GU];omega
 | x::r,out=>by
   have h1:=z9f x out
   have h2:=z3p r (q8g x out)
   rw [GU,wXs]
   omega
end
theorem x8g (x:X):(WX x).length≤wX x:=by
 unfold WX
 have:=z9f x []
 cases z4b x<;>simp at this ⊢
 exact this
theorem q5p : ∀ l:List Arg,(l.flatMap UA).length≤x0v l
 | []=>by simp
 | a::r=>by
   have h1:=q5p r
   have h2:=x8g a.x
   simp only [List.flatMap_cons,List.length_append,x0v]
   have h3:(UA a).length≤1+(WX a.x).length:=by
    unfold UA
    cases a.ref<;>simp
    omega
   omega
theorem x9d (t:S):(ZT t).length≤wS t:=by
 have h1:=q5p t.args
 have h2:=x8g t.x
 rw [x0a]
 have h3:(HJ t).length≤1+(WX t.x).length:=by
  unfold HJ
  cases (decide (t.kind≠10) && !(t.name==[]):Bool)<;>simp
  omega
 unfold ZT
 rw [List.length_append]
 omega
theorem Sub.tt' {b:Bool} (h:b=true):Sub (.bool b) .tt:=fun _ _ hr=>by subst h;cases hr;exact .tt
theorem x6k (p:Pg) (hf:Fit p) (hs:(QN p).1=0) (n:Str) (hn:n∈procsN p):SpecP Tryz.prog 264 [.agg p.cells,.str n] (fun r=>r = .tt):=by
 refine SpecP.body x0c QQ Tryz.func264 rfl Tryz.call264 (by show 2≤_;decide) ?_
 conv=>whnf
 repeat' (first|((first|(refine CallK.pure (YM p hf) (by repeat' (first|exact ArgP.nil|refine ArgP.cons ?_ ?_|exact Sub.refl _|exact Sub.tt rfl|exact Sub.ff rfl|exact Sub.int (by omega))) ?_;rintro _ rfl)|(refine CallK.pure (WV p.procs 296 (.ip [.str n]) (fun f=>f.name==n) (q9l n)) (.cons (Sub.refl _) (.cons (Sub.refl _) .nil)) ?_;rintro _ rfl));conv=>whnf)|(refine Br.dec (fun _=>?_) (fun _=>?_)<;>first|(exfalso;omega)|conv=>whnf))
 have:p.procs.any (fun f=>f.name==n)=true:=by
  obtain ⟨f,h1,h2⟩:=List.mem_map.1 hn
  exact List.any_eq_true.2 ⟨f,h1,by simp [h2]⟩
 exact ⟨_,.p (Sub.tt' this),rfl⟩
def q7k (p:Pg) (t:S):List Str:=(ZT t).filter fun v=>p.globals.any fun s=>v==s
def q0j (p:Pg) (n:Str):List Str:=match p.procs.find? (fun f=>f.name==n) with
 | some f=>(flL f.body).flatMap (q7k p)
 | none=>[]
def UQ (p:Pg) (n:Str):List Str:=(z1t p n).flatMap (q0j p)
def UZ (p:Pg) (n:Str):List Str:=Go.Lib.compact (UB (UQ p n))
theorem q7o {p:Pg} (hs:(QN p).1=0) : ∀ (fuel i:Nat) (out:List Str),out.Nodup→(∀ s∈out,s∈procsN p)→(WM p fuel i out).Nodup ∧ ∀ s∈WM p fuel i out,s∈procsN p
 | 0,i,out,h1,h2=>by rw [WM];exact ⟨h1,h2⟩
 | fuel+1,i,out,h1,h2=>by
   rw [WM]
   split
   ·obtain ⟨h3,h4,_⟩:=KN (q7r p _) h1 h2 fun s h=>x4t hs h
    exact q7o hs fuel (i+1) _ h3 h4
   ·exact ⟨h1,h2⟩
theorem x9g {p:Pg} (hs:(QN p).1=0) {n:Str} (hn:n∈procsN p):(z1t p n).length≤p.procs.length ∧ ∀ s∈z1t p n,s∈procsN p:=by
 obtain ⟨h1,h2⟩:=q7o hs (p.procs.length+1) 0 [n] (by simp) (by simpa using hn)
 unfold z1t
 rw [JQ]
 refine ⟨?_,fun s h=>h2 s (MA.1 h)⟩
 have:=q9t h1 h2
 simpa [procsN] using this
theorem VU {α β:Type} {f:α→List β} {l:List α} {j:Nat} (hj:j<l.length):(l.drop j).flatMap f=f l[j]++(l.drop (j+1)).flatMap f:=by
 rw [QJ hj,List.flatMap_cons]
theorem x0s (p:Pg) (hf:Fit p) (hs:(QN p).1=0) (n:Str) (hn:n∈procsN p):SpecP Tryz.prog 199 [.agg p.cells,.str n] (fun r=>r=QH (UZ p n)):=by
 refine SpecP.body q4e QQ Tryz.func199 rfl Tryz.call199 (by show 2≤_;decide) ?_
 conv=>whnf
 obtain ⟨hm,hb,hns⟩:=WT hs
 obtain ⟨hg,hpl,hcn⟩:=XS hm
 repeat' ((first|intro (_:_≤9223372036854775807)|(refine CallK.pure (x6k p hf hs n hn) (by repeat' (first|exact ArgP.nil|refine ArgP.cons ?_ ?_|exact Sub.refl _|exact Sub.tt rfl|exact Sub.ff rfl|exact Sub.int (by omega))) ?_;rintro _ rfl)|(refine CallK.pure (z4j p n hs hn) (by repeat' (first|exact ArgP.nil|refine ArgP.cons ?_ ?_|exact Sub.refl _|exact Sub.tt rfl|exact Sub.ff rfl|exact Sub.int (by omega))) ?_;rintro _ rfl)|(refine CallK.pure (GE p (by omega) (by omega)) (.cons (Sub.refl _) .nil) ?_;rintro _ rfl));conv=>whnf)
 obtain ⟨hal,hak⟩:=x9g hs hn
 have hgl:UZ p n=Go.Lib.compact (UB (UQ p n)):=rfl
 have hgr:UQ p n=(z1t p n).flatMap (q0j p):=rfl
 rw [hgl]
 generalize z1t p n=ns at hal hak hgr ⊢
 have hnl:(ns.map AV.str).length=ns.length:=List.length_map _
 refine LoopK.inv QQ (fun i:Nat×List Str=>⟨[(2,.p (.ip p.cells)),(5,.p (.ip (sheetOf p).cells)),(6,.hd 0 0 i.2.length),(21,.p (QH ns)),(22,.p (.int .i64 (ns.map AV.str).length)),(23,.p (.int .i64 i.1))],[(0,.own 9 1 (i.2.map .str))]⟩)
  (fun i=>i.1≤ns.length∧i.2.length≤4000000*i.1∧i.2++(ns.drop i.1).flatMap (q0j p)=UQ p n) (fun i=>ns.length-i.1) (0,[])
  (Le.mk [(0,.own 9 1 [])] (by simp [Chunk.new0];rfl) (by simp) (by simp) (.cons (.refl _) (.cons (.refl _) (.cons (.nil List.mem_cons_self) (.cons (.refl _) (.cons (.refl _) (.cons (.refl _) .nil)))))) (.new List.mem_cons_self .nil))
  ⟨Nat.zero_le _,by simp,by rw [hgr];rfl⟩ ?_
 rintro ⟨j,acc⟩ ⟨h2,h3,h4⟩
 simp only at h2 h3 h4 ⊢
 rcases Nat.lt_or_ge j ns.length with hj|hj
 rotate_left 1
 ·have hacc:acc=UQ p n:=by
   rw [List.drop_eq_nil_of_le hj] at h4
   simpa using h4
  rw [← hacc]
  conv=>whnf
  repeat' (first|(refine Br.dec (fun _=>?_) (fun _=>?_)<;>first|(exfalso;omega)|conv=>whnf)|(refine CallK.heap [(1000,0)] 0 (by repeat' (first|exact ArgsH.nil|refine ArgsH.cons ?_ ?_|exact LSub.refl _|exact LSub.p Sub.nils|exact LSub.p (Sub.tt rfl)|exact LSub.p (Sub.ff rfl)|exact LSub.p (Sub.int (by omega)))) (by refine BlksH.cons (j:=0) rfl rfl ?_ ?_;exact CSub.refl _;exact BlksH.nil) (NH acc (by omega)) rfl rfl ?_;rintro l' H' ⟨rfl,rfl⟩;conv=>whnf)|(refine CallK.heap [(1000,0)] 0 (ArgsH.cons (LSub.of_eq (by rw [JQ];rfl)) ArgsH.nil) (by refine BlksH.cons (j:=0) rfl rfl ?_ ?_;exact CSub.refl _;exact BlksH.nil) (BM (UB acc) (by rw [JQ];omega)) rfl rfl ?_;rintro l' H' ⟨rfl,rfl⟩;conv=>whnf))
  exact ⟨_,.hd rfl (by simp),rfl⟩
 obtain ⟨k,hk,hik,hfk,hnk⟩:=ND (hak _ (List.getElem_mem hj))
 have hgn:q0j p ns[j]=(flL p.procs[k].body).flatMap (q7k p):=by unfold q0j;rw [hfk]
 rw [VU hj,hgn] at h4
 have hfp:=hf.pr (List.getElem_mem hk)
 have hpk:p.procs[k]? = some p.procs[k]:=by simp
 conv=>whnf
 repeat' (first|((first|intro (_:_≤9223372036854775807)|(refine CallK.pure (VP _ _) (by repeat' (first|exact ArgP.nil|refine ArgP.cons ?_ ?_|exact Sub.refl _|exact Sub.tt rfl|exact Sub.ff rfl)) ?_;rintro _ rfl)|refine IdxK.map (by omega) (fun _=>rfl) ?_|(refine CallK.pure (x6o p (j:=k) (f:=p.procs[k]'hk) hpk (by omega)) (.cons (Sub.refl _) (.cons (Sub.int (by exact hik)) .nil)) ?_;rintro _ rfl));conv=>whnf)|(refine Br.dec (fun _=>?_) (fun _=>?_)<;>first|(exfalso;omega)|conv=>whnf))
 have hmap:=NF (k:Nat) 0 (-1) 0 (QR p.procs k) p.procs[k].body
 have hargs : ∀ m (hm:m<(itL (k:Nat) 0 (-1) 0 (QR p.procs k) p.procs[k].body).length),wS (itL (k:Nat) 0 (-1) 0 (QR p.procs k) p.procs[k].body)[m].s≤20000:=fun m hm=>by
  have hmm:(itL (k:Nat) 0 (-1) 0 (QR p.procs k) p.procs[k].body)[m].s∈flL p.procs[k].body:=by
   rw [← hmap]
   exact List.mem_map.2 ⟨_,List.getElem_mem hm,rfl⟩
  have:=q4k _ _ hmm
  unfold wPr at hfp
  omega
 have hib:(itL (k:Nat) 0 (-1) 0 (QR p.procs k) p.procs[k].body).length≤200:=by
  have:=(QG p).2.2.2.2 k p.procs[k] hpk
  rw [ZG]
  omega
 rw [← hmap] at h4
 generalize hits:itL (k:Nat) 0 (-1) 0 (QR p.procs k) p.procs[k].body=its at hargs hib h4 ⊢
 have hil:=WU its
 refine LoopK.inv QQ (fun i:Nat×List Str=>⟨[(2,.p (.ip p.cells)),(5,.p (.ip (sheetOf p).cells)),(6,.hd 0 0 i.2.length),(21,.p (QH ns)),(22,.p (.int .i64 (ns.map AV.str).length)),(23,.p (.int .i64 j)),(31,.p (JK its)),(32,.p (.int .i64 (its.map fun i=>AV.agg i.cells).length)),(33,.p (.int .i64 i.1))],[(0,.own 9 1 (i.2.map .str))]⟩)
  (fun i=>i.1≤its.length∧i.2.length≤acc.length+20000*i.1∧i.2++(((its.drop i.1).map Item.s).flatMap (q7k p)++(ns.drop (j+1)).flatMap (q0j p))=UQ p n) (fun i=>its.length-i.1) (0,acc)
  (Le.of_eq rfl) ⟨Nat.zero_le _,by simp,h4⟩ ?_
 rintro ⟨m,acc2⟩ ⟨h6,h7,h8⟩
 simp only at h6 h7 h8 ⊢
 rcases Nat.lt_or_ge m its.length with hm'|hm'
 rotate_left 1
 ·rw [List.drop_eq_nil_of_le hm'] at h8
  conv=>whnf
  repeat' (first|(refine Wr.i64 (by omega) (by omega) ?_;conv=>whnf)|(refine Br.dec (fun _=>?_) (fun _=>?_)<;>first|(exfalso;omega)|conv=>whnf))
  exact ⟨(j+1,acc2),⟨by simp only;omega,by simp only;omega,by simpa using h8⟩,by simp only;omega,Le.of_eq rfl⟩
 have hw:=hargs m hm'
 have hna:its[m].s.args.length≤20000:=by
  have:=x0a its[m].s
  have:=YN its[m].s.args
  omega
 have hnw:=x9d its[m].s
 rw [List.drop_eq_getElem_cons hm',List.map_cons,List.flatMap_cons,List.append_assoc] at h8
 have hgt:q7k p its[m].s=(ZT its[m].s).filter fun v=>p.globals.any fun s=>v==s:=rfl
 conv=>whnf
 repeat' (first|((first|intro (_:_≤9223372036854775807)|(refine CallK.pure (q8i _ hna) (by repeat' (first|exact ArgP.nil|refine ArgP.cons ?_ ?_|exact Sub.refl _|exact Sub.tt rfl|exact Sub.ff rfl|exact Sub.int (by omega))) ?_;rintro _ rfl)|refine And.intro rfl ?_|refine IdxK.map (by omega) (fun _=>rfl) ?_);conv=>whnf)|(refine Br.dec (fun _=>?_) (fun _=>?_)<;>first|(exfalso;omega)|conv=>whnf))
 rw [hgt] at h8
 generalize ZT its[m].s=vs at hnw h8 ⊢
 have hvl:(vs.map AV.str).length=vs.length:=List.length_map _
 refine LoopK.inv QQ (fun i:Nat×List Str=>⟨[(2,.p (.ip p.cells)),(5,.p (.ip (sheetOf p).cells)),(6,.hd 0 0 i.2.length),(21,.p (QH ns)),(22,.p (.int .i64 (ns.map AV.str).length)),(23,.p (.int .i64 j)),(31,.p (JK its)),(32,.p (.int .i64 (its.map fun i=>AV.agg i.cells).length)),(33,.p (.int .i64 m)),(39,.p (QH vs)),(40,.p (.int .i64 (vs.map AV.str).length)),(41,.p (.int .i64 i.1))],[(0,.own 9 1 (i.2.map .str))]⟩)
  (fun i=>i.1≤vs.length∧i.2.length≤acc2.length+i.1∧i.2++((vs.drop i.1).filter (fun v=>p.globals.any fun s=>v==s)++(((its.drop (m+1)).map Item.s).flatMap (q7k p)++(ns.drop (j+1)).flatMap (q0j p)))=UQ p n) (fun i=>vs.length-i.1) (0,acc2)
  (Le.of_eq rfl) ⟨Nat.zero_le _,by simp,h8⟩ ?_
 rintro ⟨q,acc3⟩ ⟨h9,h10,h11⟩
 simp only at h9 h10 h11 ⊢
 rcases Nat.lt_or_ge q vs.length with hq|hq
 ·rw [List.drop_eq_getElem_cons hq,List.filter_cons] at h11
  conv=>whnf
  repeat' (first|((first|(refine CallK.pure (QZ _ _) (by repeat' (first|exact ArgP.nil|refine ArgP.cons ?_ ?_|exact Sub.refl _|exact Sub.tt rfl|exact Sub.ff rfl)) ?_;rintro _ rfl)|refine And.intro rfl ?_|(refine And.intro ⟨by decide,by decide⟩ ?_)|refine BsK.pure (fun x hx=>by rcases List.mem_singleton.1 hx with rfl;rfl) rfl ?_|refine IdxK.map (by omega) (fun _=>rfl) ?_|refine Wr.i64 (by omega) (by omega) ?_|refine AppK.str1 (by simp) (by simp;omega) ?_);conv=>whnf)|(refine Br.dec (fun _=>?_) (fun _=>?_)<;>first|(exfalso;omega)|conv=>whnf)|(refine Br.b (fun _=>?_) (fun _=>?_)<;>conv=>whnf))
  ·exact ⟨(q+1,acc3++[vs[q]]),⟨by simp only;omega,by simp;omega,by rw [if_pos (by assumption)] at h11;simpa using h11⟩,by simp only;omega,Le.of_eq (by simp only [List.length_append,List.map_append];rfl)⟩
  ·exact ⟨(q+1,acc3),⟨by simp only;omega,by simp only;omega,by rw [if_neg (by simp [*])] at h11;exact h11⟩,by simp only;omega,Le.of_eq rfl⟩
 ·rw [List.drop_eq_nil_of_le hq] at h11
  conv=>whnf
  repeat' (first|(refine Wr.i64 (by omega) (by omega) ?_;conv=>whnf)|(refine Br.dec (fun _=>?_) (fun _=>?_)<;>first|(exfalso;omega)|conv=>whnf))
  exact ⟨(m+1,acc3),⟨by simp only;omega,by simp only;omega,by simpa using h11⟩,by simp only;omega,Le.of_eq rfl⟩
section
variable {P:Program} {T:Tab} {N:Nat}
def PT (s:List UInt8):Value := .string ⟨s.toArray⟩
def w1l (l:List (List UInt8×AV)):XC := .map (l.map fun x=>(PT x.1,x.2))
def x5u (l:List (List UInt8×AV)) (k:List UInt8) (v:AV):List (List UInt8×AV) :=
 match l with
 | []=>[(k,v)]
 | x::r=>if k=x.1 then (x.1,v)::r else x::x5u r k v
def w2z (l:List (List UInt8×AV)) (k:List UInt8):Option AV:=(l.find? fun x=>decide (k=x.1)).map (·.2)
theorem OpK.makeMap {s:St} {o:Oper} {K:St→Prop} {t:TypeId} (hop:o.op = .makeMap t none)
  (h:FX 60 0 s fun k=>setD N s.sl o.dst (.ext k .map) fun sl=>K ⟨sl,(k,.ext (w1l []))::s.H⟩):OpK P N s o K:=by
 refine ⟨fun σ β a w hr Q => ?_⟩
 obtain ⟨k,hk,h⟩:=JZ h
 have hchunk:(Chunk.ext (w1l [])).holds σ (β.set k (some ⟨w.heap.size,0,0,[],Nat.zero_le _⟩)) (w.alloc (.map #[] 0)) k :=
  ⟨⟨w.heap.size,0,0,[],Nat.zero_le _⟩,#[],0,by simp [Lab.set],heap_alloc_new w _,rfl,by simp⟩
 obtain ⟨hr',hl⟩:=hr.new hk rfl rfl hchunk
 obtain ⟨sl,hK,hr''⟩:=hr'.setD (v := .ext k .map) (u := .map (some w.heap.size)) (.ext k .map ⟨w.heap.size,0,0,[],Nat.zero_le _⟩ _ (by simp [Lab.set]) rfl) h
 exact VN (w':=w.alloc (.map #[] 0)) (by simp [execOp,hop,Instr.makeMap]) ⟨σ,_,_,hK,hr'',hl⟩
theorem x4a (a b:List UInt8):((⟨a.toArray⟩:ByteArray)==⟨b.toArray⟩)=decide (a=b):=by
 show (a.toArray==b.toArray)=decide (a=b)
 by_cases h:a=b
 ·subst h;simp
 ·simp [h]
theorem q4f (k:List UInt8) : ∀ (es:List MapEntry) (l:List (List UInt8×AV)) (i:Nat),es.map (·.key)=l.map (fun x=>PT x.1) →
  Instr.findNow .string (PT k) es i=some (match l.findIdx? fun x=>decide (k=x.1) with
   | some j=>some (i+j,(es[j]?.map (·.val)).getD undef)
   | none=>none)
 | [],[],_,_=>rfl
 | [],_::_,_,h=>by cases h
 | _::_,[],_,h=>by cases h
 | e::es,x::l,i,h=>by
   simp only [List.map_cons,List.cons.injEq] at h
   have hs:Instr.sameNow .string (PT k) e.key=some (decide (k=x.1)):=by
    rw [h.1]
    show some ((⟨k.toArray⟩:ByteArray)==⟨x.1.toArray⟩)=_
    rw [x4a]
   rw [Instr.findNow,hs,List.findIdx?_cons]
   by_cases hk:k=x.1
   ·simp [hk]
   ·simp only [hk,decide_false]
    rw [q4f k es l (i+1) h.2]
    cases l.findIdx? fun x=>decide (k=x.1) with
    | none=>rfl
    | some j=>simp;omega
theorem q2v {σ:Mem} {l:List (List UInt8×AV)} {es:Array MapEntry} (h1:es.size=(l.map fun x=>(PT x.1,x.2)).length) (h2 : ∀ (m:Nat) (x:Value×AV),(l.map fun x=>(PT x.1,x.2))[m]? = some x → ∃ e:MapEntry,es[m]? = some e∧e.key=x.1∧Rep σ x.2 e.val) :
  es.toList.map (·.key)=l.map (fun x=>PT x.1):=by
 apply List.ext_getElem?
 intro m
 rw [List.getElem?_map,List.getElem?_map]
 cases hq:l[m]? with
 | none =>
   have:es.toList[m]? = none:=by
    rw [List.getElem?_eq_none_iff] at hq ⊢
    simp at h1 ⊢
    omega
   rw [this];rfl
 | some x =>
   obtain ⟨e,h3,h4,_⟩:=h2 m (PT x.1,x.2) (by simp [hq])
   have h3':es.toList[m]? = some e:=by simpa using h3
   rw [h3']
   simp [h4]
theorem q0b {P:Program} {t:TypeId} (ht:P.underlying t=some .string) (b:Bool) (k:List UInt8) (w:World):(Instr.checkKey b 10000 t (PT k)).run P w = .ok () w:=by
 have e:Instr.checkKey b 10000 t (PT k)=Instr.checkKey b (9999+1) t (PT k):=rfl
 rw [e,Instr.checkKey,Sem.run_bind,run_underlying ht,Result.andThen_ok]
 rfl
theorem z9p {σ:Mem} {β:Lab} {l:List UInt8} {v:Value} (h:RepL σ β (.p (.str l)) v):v=PT l:=h.strV.1
theorem q1v {P:Program} {w:World} {r:Nat} {es:Array MapEntry} {clock:Nat} (h:w.heap[r]? = some (.map es clock)):(getObj r).run P w = .ok (.map es clock) w:=by simp [getObj,Sem.run,h]
theorem q8u {P:Program} {w:World} {r:Nat} {es:Array MapEntry} {clock:Nat} (o:Obj) (h:w.heap[r]? = some (.map es clock)):(setObj r o).run P w = .ok () { w with heap:=w.heap.setIfInBounds r o }:=by simp [setObj,Sem.run,h]
theorem OpK.lookup (hT:TabOK P T) {s:St} {o:Oper} {K:St→Prop} {t:TypeId} {x ix:Operand} (hop:o.op = .lookup t x ix false) {k:Nat} (hx:QT s.sl x = .ext k .map) {l:List (List UInt8×AV)} (hg:getH s.H k=some (.ext (w1l l)))
  {ks:List UInt8} (hk:QT s.sl ix = .p (.str ks)) {i ik:TyI} {kt et:TypeId} (ht:T.get t=some i) (hd:i.desc = .map kt et) (htk:T.get kt=some ik) (hdk:ik.desc = .string) {v:AV} (hv:w2z l ks=some v)
  (h:setD N s.sl o.dst (.p v) fun sl=>K ⟨sl,s.H⟩):OpK P N s o K:=by
 refine ⟨fun σ β a w hr Q => ?_⟩
 have hx':=QU hr.slots x
 have hk':=QU hr.slots ix
 rw [hx] at hx'
 rw [hk] at hk'
 have hkv:=z9p hk'
 generalize hxe:a.eval x=xv at hx'
 cases hx' with
 | ext _ _ bi _ hbi hd' =>
   obtain rfl:xv = .map (some bi.blk):=hd'
   obtain ⟨bi',es,clock,hbi',hh,h1,h2⟩:=hr.heap.chunks k _ (QD hg)
   rw [hbi] at hbi';cases hbi'
   have hkeys:=q2v h1 h2
   have hu:=hT.of ht
   have huk:=hT.of htk
   rw [hd] at hu
   rw [hdk] at huk
   obtain ⟨j,hj,hjv⟩ : ∃ j,(l.findIdx? fun x=>decide (ks=x.1))=some j ∧ ∃ x,l[j]? = some x∧x.2=v:=by
    unfold w2z at hv
    cases hf:l.find? fun x=>decide (ks=x.1) with
    | none=>rw [hf] at hv;cases hv
    | some x =>
      rw [hf] at hv
      cases hv
      obtain ⟨h3,j,hlt,h4,h5⟩:=List.find?_eq_some_iff_getElem.1 hf
      refine ⟨j,?_,x,by rw [List.getElem?_eq_getElem hlt,h4],rfl⟩
      rw [List.findIdx?_eq_some_iff_getElem]
      exact ⟨hlt,by rw [h4];exact h3,fun i hi=>by simpa using h5 i hi⟩
   obtain ⟨y,hjl,rfl⟩:=hjv
   obtain ⟨e,h3,h4,h5⟩:=h2 j (PT y.1,y.2) (by simp [hjl])
   have hfind:=q4f ks es.toList l 0 hkeys
   rw [hj] at hfind
   have h3':es.toList[j]? = some e:=by simpa using h3
   simp only [h3',Option.map_some,Option.getD_some] at hfind
   have hrun:(execOp a.eval o).run P w = .ok (.value e.val) w:=by
    have hfk:(Instr.findKey kt (PT ks) es.toList).run P w = .ok (some (0+j,e.val)) w:=by
     unfold Instr.findKey
     rw [Sem.run_bind,run_underlying huk,Result.andThen_ok,hfind]
     rfl
    have hlk:(Instr.lookup t (.map (some bi.blk)) (PT ks) false).run P w = .ok e.val w:=by
     unfold Instr.lookup
     rw [Sem.run_bind,run_underlying hu,Result.andThen_ok]
     simp only [Sem.run_bind,q1v hh,Result.andThen_ok,Sem.run_pure,q0b huk,hfk]
     rfl
    simp only [execOp,hop,hxe,hkv,Sem.run_bind,hlk,Result.andThen_ok]
    rfl
   obtain ⟨sl,hK,hr'⟩:=hr.setD (.p h5) h
   exact VN hrun ⟨σ,β,_,hK,hr',Later.refl _ _ _ _⟩
theorem x2o {l:List (List UInt8×AV)} {k:List UInt8} {v:AV} (h:(l.findIdx? fun x=>decide (k=x.1))=none):x5u l k v=l++[(k,v)]:=by
 induction l with
 | nil=>rfl
 | cons x r ih =>
   rw [List.findIdx?_cons] at h
   by_cases hk:k=x.1
   ·simp [hk] at h
   ·simp [hk] at h
    rw [x5u,if_neg hk,ih (by simpa using h)]
    rfl
theorem z4w {l:List (List UInt8×AV)} {k:List UInt8} {v:AV} {j:Nat} (h:(l.findIdx? fun x=>decide (k=x.1))=some j) : ∃ x,l[j]? = some x∧x5u l k v=l.set j (x.1,v):=by
 induction l generalizing j with
 | nil=>cases h
 | cons x r ih =>
   rw [List.findIdx?_cons] at h
   by_cases hk:k=x.1
   ·simp [hk] at h
    subst h
    exact ⟨x,rfl,by rw [x5u,if_pos hk];rfl⟩
   ·simp [hk] at h
    obtain ⟨j',h1,rfl⟩:=h
    obtain ⟨y,h2,h3⟩:=ih h1
    exact ⟨y,by simpa using h2,by rw [x5u,if_neg hk,h3];rfl⟩
theorem OpK.mapUpdate (hT:TabOK P T) {s:St} {o:Oper} {K:St→Prop} {t:TypeId} {x ix vx:Operand} (hop:o.op = .mapUpdate t x ix vx) (hdst:o.dst=none) {k:Nat} (hx:QT s.sl x = .ext k .map) {l:List (List UInt8×AV)} (hg:getH s.H k=some (.ext (w1l l)))
  {ks:List UInt8} (hk:QT s.sl ix = .p (.str ks)) {v:AV} (hvx:QT s.sl vx = .p v) {i ik:TyI} {kt et:TypeId} (ht:T.get t=some i) (hd:i.desc = .map kt et) (htk:T.get kt=some ik) (hdk:ik.desc = .string)
  (h:x4j s.H k (.ext (w1l (x5u l ks v))) fun H=>K ⟨s.sl,H⟩):OpK P N s o K:=by
 refine ⟨fun σ β a w hr Q => ?_⟩
 have hx':=QU hr.slots x
 have hk':=QU hr.slots ix
 have hv':=QU hr.slots vx
 rw [hx] at hx'
 rw [hk] at hk'
 rw [hvx] at hv'
 have hkv:=z9p hk'
 generalize hxe:a.eval x=xv at hx'
 generalize hve:a.eval vx=vv at hv'
 cases hv' with
 | p hvr =>
 cases hx' with
 | ext _ _ bi _ hbi hd' =>
   obtain rfl:xv = .map (some bi.blk):=hd'
   obtain ⟨bi',es,clock,hbi',hh,h1,h2⟩:=hr.heap.chunks k _ (QD hg)
   rw [hbi] at hbi';cases hbi'
   have hkeys:=q2v h1 h2
   have hu:=hT.of ht
   have huk:=hT.of htk
   rw [hd] at hu
   rw [hdk] at huk
   have hfind:=q4f ks es.toList l 0 hkeys
   have hlab:=XG hg
   have hlt:=(hr.heap.apart k hlab bi hbi bi.blk bi.has_blk).2
   obtain ⟨es',clock',hrun,hsz,hent⟩ : ∃ es' clock',(Instr.mapUpdate t (.map (some bi.blk)) (PT ks) vv).run P w = .ok () { w with heap:=w.heap.setIfInBounds bi.blk (.map es' clock') }∧es'.size=(x5u l ks v).length ∧
     ∀ (m:Nat) (x:Value×AV),((x5u l ks v).map fun x=>(PT x.1,x.2))[m]? = some x → ∃ e:MapEntry,es'[m]? = some e∧e.key=x.1∧Rep σ x.2 e.val:=by
    cases hj:l.findIdx? fun x=>decide (ks=x.1) with
    | none =>
      rw [hj] at hfind
      refine ⟨es.push { key:=PT ks,val:=vv,born:=clock },clock+1,?_,?_,fun m y hy => ?_⟩
      ·have hfk:(Instr.findKey kt (PT ks) es.toList).run P w = .ok none w:=by
        unfold Instr.findKey
        rw [Sem.run_bind,run_underlying huk,Result.andThen_ok,hfind]
        rfl
       unfold Instr.mapUpdate
       rw [Sem.run_bind,run_underlying hu,Result.andThen_ok]
       simp only [Sem.run_bind,q1v hh,Result.andThen_ok,Sem.run_pure,q0b huk,hfk,q8u _ hh]
      ·rw [x2o hj];simpa using h1
      ·rw [x2o hj] at hy
       simp only [List.length_map] at h1
       rw [List.map_append,List.getElem?_append] at hy
       split at hy
       ·rename_i hm
        obtain ⟨e,h3,h4⟩:=h2 m y hy
        simp only [List.length_map] at hm
        exact ⟨e,by rw [Array.getElem?_push,if_neg (by omega)];exact h3,h4⟩
       ·rename_i hm
        simp only [List.length_map] at hm hy
        have hm0:m-l.length=0:=by
         have:=(List.getElem?_eq_some_iff.1 hy).1
         simp at this
         omega
        rw [hm0] at hy
        simp at hy
        subst hy
        exact ⟨{ key:=PT ks,val:=vv,born:=clock },by rw [Array.getElem?_push,if_pos (by omega)],rfl,hvr⟩
    | some j =>
      rw [hj] at hfind
      obtain ⟨y,hy1,hy2⟩:=z4w (v:=v) hj
      obtain ⟨e,h3,h4,h5⟩:=h2 j (PT y.1,y.2) (by simp [hy1])
      have hky:ks=y.1:=by
       obtain ⟨hlt,h6,_⟩:=List.findIdx?_eq_some_iff_getElem.1 hj
       rw [List.getElem?_eq_getElem hlt] at hy1
       cases hy1
       simpa using h6
      have h3':es.toList[j]? = some e:=by simpa using h3
      have hjlt:j<es.size:=(Array.getElem?_eq_some_iff.1 h3).1
      simp only [h3',Option.map_some,Option.getD_some,Nat.zero_add] at hfind
      have hek:e.key=PT ks:=by rw [h4,hky]
      refine ⟨es.modify j fun e=>{ e with key:=PT ks,val:=vv },clock,?_,?_,fun m z hz => ?_⟩
      ·have hfk:(Instr.findKey kt (PT ks) es.toList).run P w = .ok (some (j,e.val)) w:=by
        unfold Instr.findKey
        rw [Sem.run_bind,run_underlying huk,Result.andThen_ok,hfind]
        rfl
       have hkt:(Instr.keyThatStays (((es[j]?).map (·.key)).getD (PT ks)) (PT ks)).run P w = .ok (PT ks) w:=by
        rw [h3]
        simp only [Option.map_some,Option.getD_some,hek]
        unfold Instr.keyThatStays
        have:Instr.sameBits 10000 (PT ks) (PT ks)=true:=by
         unfold PT
         show ((⟨ks.toArray⟩:ByteArray)==⟨ks.toArray⟩)=true
         rw [x4a]
         simp
        rw [if_pos this]
        rfl
       unfold Instr.mapUpdate
       rw [Sem.run_bind,run_underlying hu,Result.andThen_ok]
       simp only [Sem.run_bind,q1v hh,Result.andThen_ok,Sem.run_pure,q0b huk,hfk,hkt,q8u _ hh]
      ·rw [hy2];simpa using h1
      ·rw [hy2,List.map_set] at hz
       by_cases hm:m=j
       ·subst hm
        rw [List.getElem?_set_self (by simp at h1 ⊢;omega)] at hz
        cases hz
        exact ⟨{ e with key:=PT ks,val:=vv },by simp [Array.getElem?_modify,h3],by rw [hky],hvr⟩
       ·rw [List.getElem?_set_ne (Ne.symm hm)] at hz
        obtain ⟨e',h6,h7⟩:=h2 m z hz
        exact ⟨e',by rw [Array.getElem?_modify,if_neg (Ne.symm hm)];exact h6,h7⟩
   have hrun':(execOp a.eval o).run P w = .ok .skip { w with heap:=w.heap.setIfInBounds bi.blk (.map es' clock') }:=by
    simp only [execOp,hop,hxe,hkv,hve,Sem.run_bind,hrun,Result.andThen_ok]
    rfl
   obtain ⟨H',hK,h3,h4,h5⟩:=DJ hr.heap.nodup h
   have hot : ∀ b,b≠bi.blk→({ w with heap:=w.heap.setIfInBounds bi.blk (.map es' clock') }:World).heap[b]? = w.heap[b]? := fun b hb=>Array.getElem?_setIfInBounds_ne (Ne.symm hb)
   have hheap:HRel σ β H' { w with heap:=w.heap.setIfInBounds bi.blk (.map es' clock') }:=by
    refine ⟨fun b c hb => ?_,fun j c hj => ?_,by rw [h3];exact hr.heap.nodup,fun j hj i' hi' b hb => ?_,fun j hj j' hj'=>hr.heap.inj j (h3▸hj) j' (h3▸hj')⟩
    ·obtain ⟨e,fr,h6⟩:=hr.heap.mem b c hb
     exact ⟨e,fr,(hot b fun he=>by rw [he,hh] at h6;cases h6).trans h6⟩
    ·by_cases hjk:j=k
     ·subst hjk
      rw [h5 c hj]
      exact ⟨bi,es',clock',hbi,by simp [hlt],by simpa using hsz,hent⟩
     ·have hm:=h4 j c hj hjk
      exact (hr.heap.chunks j c hm).mono (Mem.le_refl σ) fun i' hi' b hb=>hot b fun he=>hjk (hr.heap.inj j (List.mem_map.2 ⟨_,hm,rfl⟩) k hlab i' bi hi' hbi b hb (.inl he.symm))
    ·have:=hr.heap.apart j (h3▸hj) i' hi' b hb
     exact ⟨this.1,by simpa using this.2⟩
   refine x1z hrun' ⟨σ,β,⟨s.sl,H'⟩,hK,⟨?_,?_,?_,hheap⟩,Mem.le_refl σ,⟨rfl,rfl,rfl,Nat.le_refl _,by simp,fun b _ hn=>hot b fun he=>hn ⟨k,hlab,bi,hbi,.inl he.symm⟩⟩,fun b h0 h1=>absurd h0 h1,fun b ⟨j,hj,r⟩ => .inl ⟨j,h3▸hj,r⟩,fun _ _ _=>rfl⟩
   ·rw [hdst];exact hr.size
   ·rw [hdst];exact hr.defers
   ·rw [hdst];exact hr.slots
end
open Go.Proofs
def XY (nm:Str) (touched:List Str):List Arg→List Str→Bool
 | [],_=>true
 | a::r,seen=>bif a.ref then bif (seen.any fun s=>a.name==s)||((a.name==nm)||touched.any fun s=>a.name==s) then false else XY nm touched r (seen++[a.name]) else XY nm touched r seen
theorem x4q (t:S) (touched:List Str) (ha:t.args.length≤20000):SpecP Tryz.prog 200 [.agg t.cells,QH touched] (fun r=>r = .bool (XY t.name touched t.args [])):=by
 refine SpecP.body q6e QQ Tryz.func200 rfl Tryz.call200 (by show 2≤_;decide) ?_
 conv=>whnf
 repeat' (intro (_:_≤9223372036854775807);conv=>whnf)
 have hl:(t.args.map fun a=>AV.agg a.cells).length=t.args.length:=List.length_map _
 refine LoopK.inv QQ (fun i:Nat×List Str=>⟨[(1,.p (QH touched)),(2,.p (.ip t.cells)),(5,.hd 0 0 i.2.length),(9,.p (.sl (t.args.map fun a => .agg a.cells))),(10,.p (.int .i64 (t.args.map fun a=>AV.agg a.cells).length)),(11,.p (.int .i64 i.1))],[(0,.own 9 1 (i.2.map .str))]⟩)
  (fun i=>i.1≤t.args.length∧i.2.length≤i.1∧XY t.name touched (t.args.drop i.1) i.2=XY t.name touched t.args []) (fun i=>t.args.length-i.1) (0,[])
  (Le.mk [(0,.own 9 1 [])] (by simp [Chunk.new0];rfl) (by simp) (by simp) (.cons (.refl _) (.cons (.refl _) (.cons (.nil List.mem_cons_self) (.cons (.refl _) (.cons (.refl _) (.cons (.refl _) .nil)))))) (.new List.mem_cons_self .nil))
  ⟨Nat.zero_le _,Nat.le_refl _,rfl⟩ ?_
 rintro ⟨j,acc⟩ ⟨h2,h3,h4⟩
 simp only at h2 h3 h4 ⊢
 rcases Nat.lt_or_ge j t.args.length with hj|hj
 ·rw [List.drop_eq_getElem_cons hj,XY] at h4
  conv=>whnf
  repeat' (first|((first|(refine CallK.pure (QZ _ _) (by repeat' (first|exact ArgP.nil|refine ArgP.cons ?_ ?_|exact Sub.refl _|exact Sub.tt rfl|exact Sub.ff rfl)) ?_;rintro _ rfl)|refine And.intro rfl ?_|(refine And.intro ⟨by decide,by decide⟩ ?_)|refine BsK.pure (fun x hx=>by rcases List.mem_singleton.1 hx with rfl;rfl) rfl ?_|refine IdxK.map (by omega) (fun _=>rfl) ?_|refine Wr.i64 (by omega) (by omega) ?_|(refine CallK.borrow (QZ acc (t.args[j]'hj).name) (.cons (.hd rfl (by simp)) (.cons (.p (Sub.refl _)) .nil)) (by rintro _ rfl;rfl) ?_;rintro _ rfl)|refine AppK.str1 (by simp) (by simp;omega) ?_);conv=>whnf)|(refine Br.dec (fun _=>?_) (fun _=>?_)<;>first|(exfalso;omega)|conv=>whnf)|(refine Br.n (fun _=>?_) (fun _=>?_)<;>conv=>whnf)|(refine Br.b (fun _=>?_) (fun _=>?_)<;>conv=>whnf))
  all_goals first
   | exact RetK.ff (by rw [← h4];simp [*])
   | exact ⟨(j+1,acc++[t.args[j].name]),⟨by simp only;omega,by simp;omega,by simp only;rw [← h4];simp [*]⟩,by simp only;omega,Le.of_eq (by simp only [List.length_append,List.map_append];rfl)⟩
   | exact ⟨(j+1,acc),⟨by simp only;omega,by simp only;omega,by simp only;rw [← h4];simp [*]⟩,by simp only;omega,Le.of_eq rfl⟩
 ·rw [List.drop_eq_nil_of_le hj,XY] at h4
  conv=>whnf
  repeat' (refine Br.dec (fun _=>?_) (fun _=>?_)<;>first|(exfalso;omega)|conv=>whnf)
  exact RetK.tt h4.symm
def KJ (p:Pg):Int×Int :=
 if (WI p).1≠0 then (1,0) else match (YT p).find? fun t=>decide (t.kind=4) && !XY t.name (UZ p t.proc) t.args [] with
  | some t=>(8,t.id)
  | none=>(0,0)
theorem z7b {p:Pg} (h:(WI p).1=0):(QN p).1=0∧(YT p).find? (fun t=>decide (t.kind=4) && !UU p t)=none:=by
 unfold WI at h
 split at h
 ·cases h
 ·rename_i hs
  refine ⟨by omega,?_⟩
  split at h
  ·cases h
  ·assumption
theorem z7y {l:List (Str×AV)} {k:Str} {v:AV} {x:Str×AV} (h:x∈x5u l k v):x∈l∨x=(k,v):=by
 induction l with
 | nil=>rw [x5u] at h;exact .inr (by simpa using h)
 | cons y r ih =>
   rw [x5u] at h
   split at h
   ·rename_i hk
    rcases List.mem_cons.1 h with h|h
    ·exact .inr (by rw [h,hk])
    ·exact .inl (List.mem_cons_of_mem _ h)
   ·rcases List.mem_cons.1 h with h|h
    ·exact .inl (by rw [h];exact List.mem_cons_self)
    ·exact (ih h).imp (List.mem_cons_of_mem _) id
theorem z8q {l:List (Str×AV)} {k s:Str} {v:AV} (h:s=k ∨ ∃ x∈l,x.1=s) : ∃ x∈x5u l k v,x.1=s:=by
 induction l with
 | nil =>
   rcases h with rfl|⟨x,hx,_⟩
   ·exact ⟨(s,v),by rw [x5u];exact List.mem_cons_self,rfl⟩
   ·cases hx
 | cons y r ih =>
   rw [x5u]
   split
   ·rename_i hk
    rcases h with rfl|⟨x,hx,rfl⟩
    ·exact ⟨(y.1,v),List.mem_cons_self,hk.symm⟩
    ·rcases List.mem_cons.1 hx with rfl|hx
     ·exact ⟨(x.1,v),List.mem_cons_self,rfl⟩
     ·exact ⟨x,List.mem_cons_of_mem _ hx,rfl⟩
   ·rcases h with rfl|⟨x,hx,rfl⟩
    ·obtain ⟨z,hz,h3⟩:=ih (.inl rfl)
     exact ⟨z,List.mem_cons_of_mem _ hz,h3⟩
    ·rcases List.mem_cons.1 hx with rfl|hx
     ·exact ⟨x,List.mem_cons_self,rfl⟩
     ·obtain ⟨z,hz,h3⟩:=ih (.inr ⟨x,hx,rfl⟩)
      exact ⟨z,List.mem_cons_of_mem _ hz,h3⟩
theorem w1g {l:List (Str×AV)} {g:Str→AV} (h : ∀ x∈l,x.2=g x.1) {k:Str} (hk : ∃ x∈l,x.1=k):w2z l k=some (g k):=by
 unfold w2z
 cases hf:l.find? fun x=>decide (k=x.1) with
 | none =>
   obtain ⟨x,hx,rfl⟩:=hk
   have:=List.find?_eq_none.1 hf x hx
   simp at this
 | some x =>
   have h1:=List.mem_of_find?_eq_some hf
   have h2:=List.find?_some hf
   simp at h2
   simp [h x h1,h2]
theorem x5h (p:Pg) (hf:Fit p):SpecP Tryz.prog 140 [.agg p.cells] (fun r=>r=HI (KJ p).1 (KJ p).2):=by
 refine SpecP.body x0i QQ Tryz.func140 rfl Tryz.call140 (by show 1≤_;decide) ?_
 conv=>whnf
 repeat' (first|((first|(refine CallK.pure (q4b p hf) (by repeat' (first|exact ArgP.nil|refine ArgP.cons ?_ ?_|exact Sub.refl _|exact Sub.tt rfl|exact Sub.ff rfl|exact Sub.int (by omega))) ?_;rintro _ rfl)|refine And.intro rfl ?_);conv=>whnf)|(refine Br.dec2 (fun _=>?_) (fun _=>?_)<;>first|(exfalso;omega)|conv=>whnf))
 rotate_left 1
 ·have e:KJ p=(1,0):=by unfold KJ;rw [if_pos (by assumption)]
  exact RetK.fault (by rw [e]) (by rw [e])
 have hA:(WI p).1=0:=by assumption
 obtain ⟨hs,_⟩:=z7b hA
 obtain ⟨hm,hb,hns⟩:=WT hs
 obtain ⟨hg,hpl,hcn⟩:=XS hm
 have hl:(p.procs.map fun f=>AV.agg f.cells).length=p.procs.length:=List.length_map _
 repeat' ((first|intro (_:_≤9223372036854775807)|refine OpK.makeMap rfl ?_);conv=>whnf)
 refine LoopK.inv QQ (fun i:Nat×List (Str×AV)=>⟨[(1,.p (.ip p.cells)),(2,.ptr 1 0),(3,.ext 0 .map),(15,.p (.sl (p.procs.map fun f => .agg f.cells))),(16,.p (.int .i64 (p.procs.map fun f=>AV.agg f.cells).length)),(17,.p (.int .i64 i.1))],[(0,.ext (w1l i.2)),(1,.obj 90 [.p (.int .i64 0),.p (.int .i64 0)])]⟩)
  (fun i=>i.1≤p.procs.length∧(∀ x∈i.2,x.2=QH (UZ p x.1)) ∧ ∀ (m:Nat) (hm:m<p.procs.length),m<i.1 → ∃ x∈i.2,x.1=p.procs[m].name) (fun i=>p.procs.length-i.1) (0,[])
  (Le.of_eq rfl) ⟨Nat.zero_le _,by simp,by intro m hm h;omega⟩ ?_
 rintro ⟨j,l⟩ ⟨h2,h3,h4⟩
 simp only at h2 h3 h4 ⊢
 rcases Nat.lt_or_ge j p.procs.length with hj|hj
 ·have hn:p.procs[j].name∈procsN p:=List.mem_map.2 ⟨_,List.getElem_mem hj,rfl⟩
  conv=>whnf
  repeat' (first|((first|(refine CallK.pure (x0s p hf hs _ hn) (by repeat' (first|exact ArgP.nil|refine ArgP.cons ?_ ?_|exact Sub.refl _|exact Sub.tt rfl|exact Sub.ff rfl|exact Sub.int (by omega))) ?_;rintro _ rfl)|refine DrawK.auto QQ mixed (by kernel_rfl) ?_|refine And.intro rfl ?_|refine IdxK.map (by omega) (fun _=>rfl) ?_|refine Wr.i64 (by omega) (by omega) ?_|refine OpK.mapUpdate QQ rfl rfl rfl rfl rfl rfl rfl rfl rfl rfl ?_);conv=>whnf)|(refine Br.dec (fun _=>?_) (fun _=>?_)<;>first|(exfalso;omega)|conv=>whnf))
  refine ⟨(j+1,x5u l p.procs[j].name (QH (UZ p p.procs[j].name))),⟨by simp only;omega,fun x hx => ?_,fun m hm h => ?_⟩,by simp only;omega,Le.of_eq rfl⟩
  ·rcases z7y hx with hx|rfl
   ·exact h3 x hx
   ·rfl
  ·refine z8q ?_
   rcases Nat.lt_or_ge m j with hmj|hmj
   ·exact .inr (h4 m hm hmj)
   ·obtain rfl:m=j:=by simp only at h;omega
    exact .inl rfl
 have hgm : ∀ n∈procsN p,w2z l n=some (QH (UZ p n)):=fun n hn=>w1g (g:=fun n=>QH (UZ p n)) h3 (by
  obtain ⟨f,hf1,rfl⟩:=List.mem_map.1 hn
  obtain ⟨m,hm,rfl⟩:=List.getElem_of_mem hf1
  exact h4 m hm (by omega))
 clear h3 h4
 conv=>whnf
 repeat' (first|((first|intro (_:_≤9223372036854775807)|(refine CallK.pure (GE p (by omega) (by omega)) (.cons (Sub.refl _) .nil) ?_;rintro _ rfl));conv=>whnf)|(refine Br.dec (fun _=>?_) (fun _=>?_)<;>first|(exfalso;omega)|conv=>whnf))
 have hA:KJ p=match (YT p).find? fun t=>decide (t.kind=4) && !XY t.name (UZ p t.proc) t.args [] with
  | some t=>(8,t.id)
  | none=>(0,0):=by unfold KJ;rw [if_neg (by omega)]
 have hil:=WU (sheetOf p).l
 have hib:(sheetOf p).l.length≤200:=by have:=(QG p).2.2.2.1;omega
 have hfi:=DG (q:=fun t=>decide (t.kind=4) && !XY t.name (UZ p t.proc) t.args []) (sheetOf p).l
 rw [q9h] at hfi
 have hA2:KJ p=match ((sheetOf p).l.find? fun it=>decide (it.s.kind=4) && !XY it.s.name (UZ p it.s.proc) it.s.args []).map (fun it=>it.s.id) with
  | some a=>(8,a)
  | none=>(0,0):=by
  rw [hA,hfi]
  cases (YT p).find? fun t=>decide (t.kind=4) && !XY t.name (UZ p t.proc) t.args []<;>rfl
 rw [hA2]
 refine LoopK.inv QQ (fun k:Nat=>⟨[(2,.ptr 1 0),(3,.ext 0 .map),(33,.p (JK (sheetOf p).l)),(34,.p (.int .i64 ((sheetOf p).l.map fun i=>AV.agg i.cells).length)),(35,.p (.int .i64 k))],[(0,.ext (w1l l)),(1,.obj 90 [.p (.int .i64 0),.p (.int .i64 0)])]⟩)
  (fun k=>k≤(sheetOf p).l.length∧((sheetOf p).l.drop k).find? (fun it=>decide (it.s.kind=4) && !XY it.s.name (UZ p it.s.proc) it.s.args [])=(sheetOf p).l.find? fun it=>decide (it.s.kind=4) && !XY it.s.name (UZ p it.s.proc) it.s.args []) (fun k=>(sheetOf p).l.length-k) 0 (Le.of_eq rfl) ⟨Nat.zero_le _,rfl⟩ ?_
 rintro k ⟨h5,h6⟩
 rcases Nat.lt_or_ge k (sheetOf p).l.length with hk|hk
 rotate_left 1
 ·rw [← h6,JD hk]
  conv=>whnf
  repeat' (first|(refine And.intro rfl ?_;conv=>whnf)|(refine Br.dec (fun _=>?_) (fun _=>?_)<;>first|(exfalso;omega)|conv=>whnf))
  exact RetK.fault rfl rfl
 have hw:=z0y hf hk
 have hna:(sheetOf p).l[k].s.args.length≤20000:=by
  have:=x0a (sheetOf p).l[k].s
  have:=YN (sheetOf p).l[k].s.args
  omega
 have hpc:(sheetOf p).l[k].s.kind=4→(sheetOf p).l[k].s.proc∈procsN p:=fun hk4=>by
  have hmm:(sheetOf p).l[k].s∈YT p:=by
   rw [← q9h]
   exact List.mem_map.2 ⟨_,List.getElem_mem hk,rfl⟩
  unfold YT at hmm
  obtain ⟨f,hf1,hf2⟩:=List.mem_flatMap.1 hmm
  exact (q0d hs hf1 hf2 hk4).1
 conv=>whnf
 repeat' (first|((first|(refine CallK.pure (x4q _ _ hna) (by repeat' (first|exact ArgP.nil|refine ArgP.cons ?_ ?_|exact Sub.refl _|exact Sub.tt rfl|exact Sub.ff rfl|exact Sub.int (by omega))) ?_;rintro _ rfl)|refine And.intro rfl ?_|refine IdxK.map (by omega) (fun _=>rfl) ?_|refine Wr.i64 (by omega) (by omega) ?_|refine OpK.lookup QQ rfl rfl rfl rfl rfl rfl rfl rfl (hgm _ (hpc (by omega))) ?_);conv=>whnf)|(refine Br.dec (fun _=>?_) (fun _=>?_)<;>first|(exfalso;omega)|conv=>whnf)|(refine Br.n (fun _=>?_) (fun _=>?_)<;>conv=>whnf))
 all_goals first
  | (have e3:=JG (p:=fun it:Item=>decide (it.s.kind=4) && !XY it.s.name (UZ p it.s.proc) it.s.args []) hk (by simp [*])
     rw [← h6,e3]
     exact RetK.fault rfl rfl)
  | exact ⟨k+1,⟨by omega,by rw [← h6,HM (p:=fun it:Item=>decide (it.s.kind=4) && !XY it.s.name (UZ p it.s.proc) it.s.args []) hk (by simp [*])]⟩,by omega,Le.of_eq rfl⟩
def z6t (p:Pg):Int×Int :=
 if VX p=false then (1,0) else
 if (QN p).1≠0 then QN p else
 if (WI p).1≠0 then WI p else
 if (DL p).1≠0 then DL p else KJ p
theorem z4f (p:Pg) (hf:Fit p):SpecP Tryz.prog 79 [.agg p.cells] (fun r=>r=HI (z6t p).1 (z6t p).2):=by
 refine SpecP.body x7w QQ Tryz.func79 rfl Tryz.call79 (by show 1≤_;decide) ?_
 conv=>whnf
 repeat' (first|((first|(refine CallK.pure (x7m _) (by repeat' (first|exact ArgP.nil|refine ArgP.cons ?_ ?_|exact Sub.refl _|exact Sub.tt rfl|exact Sub.ff rfl)) ?_;rintro _ rfl)|(refine CallK.pure (YM p hf) (by repeat' (first|exact ArgP.nil|refine ArgP.cons ?_ ?_|exact Sub.refl _|exact Sub.tt rfl|exact Sub.ff rfl|exact Sub.int (by omega))) ?_;rintro _ rfl)|(refine CallK.pure (q4b p hf) (by repeat' (first|exact ArgP.nil|refine ArgP.cons ?_ ?_|exact Sub.refl _|exact Sub.tt rfl|exact Sub.ff rfl|exact Sub.int (by omega))) ?_;rintro _ rfl)|(refine CallK.pure (z1d p hf) (by repeat' (first|exact ArgP.nil|refine ArgP.cons ?_ ?_|exact Sub.refl _|exact Sub.tt rfl|exact Sub.ff rfl|exact Sub.int (by omega))) ?_;rintro _ rfl)|(refine CallK.pure (x5h p hf) (by repeat' (first|exact ArgP.nil|refine ArgP.cons ?_ ?_|exact Sub.refl _|exact Sub.tt rfl|exact Sub.ff rfl|exact Sub.int (by omega))) ?_;rintro _ rfl)|refine And.intro rfl ?_);conv=>whnf)|(refine Br.dec (fun _=>?_) (fun _=>?_)<;>first|(exfalso;omega)|conv=>whnf)|(refine Br.n (fun _=>?_) (fun _=>?_)<;>conv=>whnf))
 all_goals exact RetK.fault (by unfold z6t;simp [*]) (by unfold z6t;simp [*])
def ZB (p:Pg):Bool:=decide ((z6t p).1=0)
theorem MR (p:Pg) (hf:Fit p):SpecP Tryz.prog 17 [.agg p.cells] (fun r=>r = .bool (ZB p)):=by
 refine SpecP.body x6i QQ Tryz.func17 rfl Tryz.call17 (by show 1≤_;decide) ?_
 conv=>whnf
 repeat' (refine CallK.pure (z4f p hf) (by repeat' (first|exact ArgP.nil|refine ArgP.cons ?_ ?_|exact Sub.refl _|exact Sub.tt rfl|exact Sub.ff rfl|exact Sub.int (by omega))) ?_;rintro _ rfl;conv=>whnf)
 exact RetK.bool rfl
open Go.Proofs
def XT (x:Int):Int:=if x = -1 then 9223372036854775807 else x
theorem z5l (x:Int):SpecP Tryz.prog 231 [.int .i64 x] (fun r=>r = .int .i64 (XT x)):=by
 refine SpecP.body x5b QQ Tryz.func231 rfl Tryz.call231 (by show 1≤_;decide) ?_
 conv=>whnf
 repeat' (refine Br.dec (fun _=>?_) (fun _=>?_)<;>first|(exfalso;omega)|conv=>whnf)
 all_goals exact RetK.int (by unfold XT;simp [*])
theorem q6a (x:Int):SpecP Tryz.prog 283 [.int .i64 x] (fun r=>r = .bool false):=by
 refine SpecP.body q2t QQ Tryz.func283 rfl Tryz.call283 (by show 1≤_;decide) ?_
 conv=>whnf
 skip
 exact RetK.bool (by simp)
def x8n (x y:Int):Int:=if x<y then -1 else if y<x then 1 else 0
theorem q2r (x y:Int):SpecP Tryz.prog 230 [.int .i64 x,.int .i64 y] (fun r=>r = .int .i64 (x8n x y)):=by
 refine SpecP.body LH QQ Tryz.func230 rfl Tryz.call230 (by show 2≤_;decide) ?_
 conv=>whnf
 repeat' (first|(refine CallK.pure (q6a _) (by repeat' (first|exact ArgP.nil|refine ArgP.cons ?_ ?_|exact Sub.refl _|exact Sub.tt rfl|exact Sub.ff rfl)) ?_;rintro _ rfl;conv=>whnf)|(refine Br.dec (fun _=>?_) (fun _=>?_)<;>first|(exfalso;omega)|conv=>whnf)|(refine Br.b (fun _=>?_) (fun _=>?_)<;>conv=>whnf))
 all_goals first
  | contradiction
  | exact RetK.int (by unfold x8n;simp [*])
  | exact RetK.int (by unfold x8n;rw [if_neg (by assumption),if_pos (by omega)])
  | exact RetK.int (by unfold x8n;rw [if_neg (by assumption),if_neg (by omega)])
def orI:List Int→Int
 | []=>0
 | a::r=>if a=0 then orI r else a
theorem x6q (l:List Int):SpecP Tryz.prog 229 [QS l] (fun r=>r = .int .i64 (orI l)):=by
 refine SpecP.body x1v QQ Tryz.func229 rfl Tryz.call229 (by show 1≤_;decide) ?_
 conv=>whnf
 repeat' (intro (_:_≤9223372036854775807);conv=>whnf)
 have hl:(l.map (AV.int .i64)).length=l.length:=List.length_map _
 refine LoopK.inv QQ (fun j:Nat=>⟨[(3,.p (.int .i64 0)),(6,.p (QS l)),(7,.p (.int .i64 (l.map (AV.int .i64)).length)),(8,.p (.int .i64 j))],[]⟩) (fun j=>j≤l.length∧orI (l.drop j)=orI l) (fun j=>l.length-j) 0 (Le.of_eq rfl) ⟨Nat.zero_le _,rfl⟩ ?_
 rintro j ⟨h2,h3⟩
 rcases Nat.lt_or_ge j l.length with hj|hj
 ·rw [List.drop_eq_getElem_cons hj,orI] at h3
  conv=>whnf
  repeat' (first|((first|refine IdxK.map (by omega) (fun _=>rfl) ?_|refine Wr.i64 (by omega) (by omega) ?_);conv=>whnf)|(refine Br.dec (fun _=>?_) (fun _=>?_)<;>first|(exfalso;omega)|conv=>whnf)|(refine Br.dec2 (fun _=>?_) (fun _=>?_)<;>first|(exfalso;omega)|conv=>whnf))
  all_goals first
   | exact RetK.int (by rw [← h3,if_neg (by assumption)])
   | exact ⟨j+1,⟨by omega,by rw [← h3,if_pos (by assumption)]⟩,by omega,Le.of_eq rfl⟩
   | exact ⟨j+1,⟨by omega,by rw [← h3,if_pos (by simp_all)]⟩,by omega,Le.of_eq rfl⟩
 ·rw [List.drop_eq_nil_of_le hj,orI] at h3
  conv=>whnf
  repeat' (refine Br.dec (fun _=>?_) (fun _=>?_)<;>first|(exfalso;omega)|conv=>whnf)
  exact RetK.int h3
def q6o (l:List S) (o:Int):Int:=match l with
 | []=>o
 | t::_=>t.id
theorem z2o (l:List S) (o:Int):SpecP Tryz.prog 274 [.sl (l.map fun t => .agg t.cells),.int .i64 o] (fun r=>r = .int .i64 (q6o l o)):=by
 refine SpecP.body x6v QQ Tryz.func274 rfl Tryz.call274 (by show 2≤_;decide) ?_
 conv=>whnf
 repeat' (first|(intro (_:_≤9223372036854775807);conv=>whnf)|(refine Br.dec (fun _=>?_) (fun _=>?_)<;>first|(exfalso;omega)|conv=>whnf))
 ·cases l with
  | nil=>simp at *
  | cons t r =>
    refine IdxK.at (k:=0) rfl rfl rfl ?_
    exact RetK.int rfl
 ·cases l with
  | nil=>exact RetK.int rfl
  | cons t r=>simp at *
def ZQ (a b:Step):Bool:=decide (a.src=b.src)&&decide (a.dst=b.dst)
theorem q3e (a b:Step):SpecP Tryz.prog 233 [.agg a.cells,.agg b.cells] (fun r=>r = .bool (ZQ a b)):=by
 refine SpecP.body x0n QQ Tryz.func233 rfl Tryz.call233 (by show 2≤_;decide) ?_
 conv=>whnf
 repeat' (refine Br.dec (fun _=>?_) (fun _=>?_)<;>first|(exfalso;omega)|conv=>whnf)
 all_goals first
  | exact RetK.bool (show (a.dst==b.dst)=ZQ a b by unfold ZQ;simp [*];rfl)
  | exact RetK.ff (by unfold ZQ;simp [*])
def x6y (a b:Step):Int:=orI [x8n (XT a.src) (XT b.src),x8n (XT a.dst) (XT b.dst),x8n a.kind b.kind]
theorem x5o (a b:Step):SpecP Tryz.prog 228 [.agg a.cells,.agg b.cells] (fun r=>r = .int .i64 (x6y a b)):=by
 refine SpecP.body q9n QQ Tryz.func228 rfl Tryz.call228 (by show 2≤_;decide) ?_
 conv=>whnf
 repeat' ((first|(refine CallK.pure (z5l _) (by repeat' (first|exact ArgP.nil|refine ArgP.cons ?_ ?_|exact Sub.refl _|exact Sub.tt rfl|exact Sub.ff rfl)) ?_;rintro _ rfl)|(refine CallK.pure (q2r _ _) (by repeat' (first|exact ArgP.nil|refine ArgP.cons ?_ ?_|exact Sub.refl _|exact Sub.tt rfl|exact Sub.ff rfl)) ?_;rintro _ rfl)|(refine CallK.pure (x6q [x8n (XT a.src) (XT b.src),x8n (XT a.dst) (XT b.dst),x8n a.kind b.kind]) (by repeat' (first|exact ArgP.nil|refine ArgP.cons ?_ ?_|exact Sub.refl _|exact Sub.tt rfl|exact Sub.ff rfl|exact Sub.int (by omega))) ?_;rintro _ rfl)|refine DrawK.auto QQ mixed (by kernel_rfl) ?_|refine And.intro rfl ?_|(refine And.intro ⟨by decide,by decide⟩ ?_)|refine BsK.pureL rfl rfl ?_);conv=>whnf)
 exact RetK.int rfl
end Go.Ab
