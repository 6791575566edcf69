/- The library's contracts at this seat's program, in plain words (printed by the kit's lay-plain.mjs). Conditions: none. -/
import Derived.Shelf.Sort.Plain
import Derived.Shelf.Slices.In.SortNone
import Derived.Shelf.Slices.CompactS
import Derived.Ground.Names2Prog
import Derived.Shelf.Slices.SearchI
import Derived.Shelf.Slices.Empties
import Derived.Shelf.Spec.SlicesInsert
import Derived.Shelf.Spec.SlicesInsertGrow
import Derived.Test.YtiaikoimoonlmaaGreatProg
import Derived.Test.YtiaikoimoonlmaaGreatInoB6
import Derived.Test.YtiaikoimoonlmaaGreatInoB7
import Derived.Test.YtiaikoimoonlmaaGreatInoB9
set_option linter.unusedSimpArgs false
set_option linter.unusedVariables false
set_option maxRecDepth 100000
set_option maxHeartbeats 16000000
open List (filter_cons findIdx?_cons)
namespace Go.Proofs
open Go.Shelf
def Tryz.lays190_ren:Go.Shelf.Ren:=⟨fun|190=>149|125=>228|258=>227|128=>289|129=>290|302=>280|303=>281|304=>282|305=>283|306=>284|307=>285|308=>286|309=>287|310=>288|333=>324|329=>325|330=>326|334=>327|335=>328|336=>237|344=>350|n=>n,fun|31=>22|9=>9|3=>3|46=>254|0=>0|51=>293|53=>295|4=>4|183=>286|182=>285|131=>128|5=>5|218=>318|222=>322|228=>340|229=>74|n=>n,fun|n=>n⟩
theorem q7c:Go.Proofs.Lays.n190 Tryz.prog Tryz.lays190_ren:={
 mixed:=by kernel_rfl
 f125:=Tryz.func228.trans (congrArg some (by kernel_rfl))
 f128:=Tryz.func289.trans (congrArg some (by kernel_rfl))
 f129:=Tryz.func290.trans (congrArg some (by kernel_rfl))
 f190:=Tryz.func149.trans (congrArg some (by kernel_rfl))
 f258:=Tryz.func227.trans (congrArg some (by kernel_rfl))
 f302:=Tryz.func280.trans (congrArg some (by kernel_rfl))
 f303:=Tryz.func281.trans (congrArg some (by kernel_rfl))
 f304:=Tryz.func282.trans (congrArg some (by kernel_rfl))
 f305:=Tryz.func283.trans (congrArg some (by kernel_rfl))
 f306:=Tryz.func284.trans (congrArg some (by kernel_rfl))
 f307:=Tryz.func285.trans (congrArg some (by kernel_rfl))
 f308:=Tryz.func286.trans (congrArg some (by kernel_rfl))
 f309:=Tryz.func287.trans (congrArg some (by kernel_rfl))
 f310:=Tryz.func288.trans (congrArg some (by kernel_rfl))
 f329:=Tryz.func325.trans (congrArg some (by kernel_rfl))
 f330:=Tryz.func326.trans (congrArg some (by kernel_rfl))
 f333:=Tryz.func324.trans (congrArg some (by kernel_rfl))
 f334:=Tryz.func327.trans (congrArg some (by kernel_rfl))
 f335:=Tryz.func328.trans (congrArg some (by kernel_rfl))
 f336:=Tryz.func237.trans (congrArg some (by kernel_rfl))
 f344:=Tryz.func350.trans (congrArg some (by kernel_rfl))
 t0:=Tryz.underlying0
 a0:=Tryz.isAgg0
 z0:=Tryz.sizeOf0
 v0:=Tryz.zeroValue0
 t3:=Tryz.underlying3
 a3:=Tryz.isAgg3
 z3:=Tryz.sizeOf3
 v3:=Tryz.zeroValue3
 t4:=Tryz.underlying4
 a4:=Tryz.isAgg4
 z4:=Tryz.sizeOf4
 v4:=Tryz.zeroValue4
 t5:=Tryz.underlying5
 a5:=Tryz.isAgg5
 z5:=Tryz.sizeOf5
 v5:=Tryz.zeroValue5
 t9:=Tryz.underlying9
 a9:=Tryz.isAgg9
 z9:=Tryz.sizeOf9
 v9:=Tryz.zeroValue9
 t31:=Tryz.underlying22
 a31:=Tryz.isAgg22
 z31:=Tryz.sizeOf22
 v31:=Tryz.zeroValue22
 t46:=Tryz.underlying254
 a46:=Tryz.isAgg254
 z46:=Tryz.sizeOf254
 v46:=Tryz.zeroValue254
 t51:=Tryz.underlying293
 a51:=Tryz.isAgg293
 z51:=Tryz.sizeOf293
 v51:=Tryz.zeroValue293
 t53:=Tryz.underlying295
 a53:=Tryz.isAgg295
 z53:=Tryz.sizeOf295
 v53:=Tryz.zeroValue295
 t131:=Tryz.underlying128
 a131:=Tryz.isAgg128
 z131:=Tryz.sizeOf128
 v131:=Tryz.zeroValue128
 t182:=Tryz.underlying285
 a182:=Tryz.isAgg285
 z182:=Tryz.sizeOf285
 v182:=Tryz.zeroValue285
 t183:=Tryz.underlying286
 a183:=Tryz.isAgg286
 z183:=Tryz.sizeOf286
 v183:=Tryz.zeroValue286
 t218:=Tryz.underlying318
 a218:=Tryz.isAgg318
 z218:=Tryz.sizeOf318
 v218:=Tryz.zeroValue318
 t222:=Tryz.underlying322
 a222:=Tryz.isAgg322
 z222:=Tryz.sizeOf322
 v222:=Tryz.zeroValue322
 t228:=Tryz.underlying340
 a228:=Tryz.isAgg340
 z228:=Tryz.sizeOf340
 v228:=Tryz.zeroValue340
 t229:=Tryz.underlying74
 a229:=Tryz.isAgg74
 z229:=Tryz.sizeOf74
 v229:=Tryz.zeroValue74 }
def Tryz.lays194_ren:Go.Shelf.Ren:=⟨fun|194=>206|n=>n,fun|31=>22|9=>9|3=>3|4=>4|0=>0|n=>n,fun|n=>n⟩
theorem q7a:Go.Proofs.Lays.n194 Tryz.prog Tryz.lays194_ren:={
 mixed:=by kernel_rfl
 f194:=Tryz.func206.trans (congrArg some (by kernel_rfl))
 t0:=Tryz.underlying0
 a0:=Tryz.isAgg0
 z0:=Tryz.sizeOf0
 v0:=Tryz.zeroValue0
 t3:=Tryz.underlying3
 a3:=Tryz.isAgg3
 z3:=Tryz.sizeOf3
 v3:=Tryz.zeroValue3
 t4:=Tryz.underlying4
 a4:=Tryz.isAgg4
 z4:=Tryz.sizeOf4
 v4:=Tryz.zeroValue4
 t9:=Tryz.underlying9
 a9:=Tryz.isAgg9
 z9:=Tryz.sizeOf9
 v9:=Tryz.zeroValue9
 t31:=Tryz.underlying22
 a31:=Tryz.isAgg22
 z31:=Tryz.sizeOf22
 v31:=Tryz.zeroValue22 }
def Tryz.laysB_ren:Go.Shelf.Ren:=⟨fun|25=>344|31=>367|32=>368|37=>236|n=>n,fun|22=>70|3=>3|4=>4|40=>254|0=>0|n=>n,fun|n=>n⟩
theorem x4h:Go.Proofs.Lays2.n25 Tryz.prog Tryz.laysB_ren:={
 mixed:=by kernel_rfl
 f25:=Tryz.func344.trans (congrArg some (by kernel_rfl))
 f31:=Tryz.func367.trans (congrArg some (by kernel_rfl))
 f32:=Tryz.func368.trans (congrArg some (by kernel_rfl))
 f37:=Tryz.func236.trans (congrArg some (by kernel_rfl))
 t0:=Tryz.underlying0
 a0:=Tryz.isAgg0
 z0:=Tryz.sizeOf0
 v0:=Tryz.zeroValue0
 t3:=Tryz.underlying3
 a3:=Tryz.isAgg3
 z3:=Tryz.sizeOf3
 v3:=Tryz.zeroValue3
 t4:=Tryz.underlying4
 a4:=Tryz.isAgg4
 z4:=Tryz.sizeOf4
 v4:=Tryz.zeroValue4
 t22:=Tryz.underlying70
 a22:=Tryz.isAgg70
 z22:=Tryz.sizeOf70
 v22:=Tryz.zeroValue70
 t40:=Tryz.underlying254
 a40:=Tryz.isAgg254
 z40:=Tryz.sizeOf254
 v40:=Tryz.zeroValue254 }
def Tryz.laysI_ren:Go.Shelf.Ren:=⟨fun|21=>345|27=>369|28=>370|35=>375|39=>377|n=>n,fun|22=>70|3=>3|4=>4|0=>0|n=>n,fun|n=>n⟩
theorem FD:Go.Proofs.Lays2.n21 Tryz.prog Tryz.laysI_ren:={
 mixed:=by kernel_rfl
 f21:=Tryz.func345.trans (congrArg some (by kernel_rfl))
 f27:=Tryz.func369.trans (congrArg some (by kernel_rfl))
 f28:=Tryz.func370.trans (congrArg some (by kernel_rfl))
 f35:=Tryz.func375.trans (congrArg some (by kernel_rfl))
 f39:=Tryz.func377.trans (congrArg some (by kernel_rfl))
 t0:=Tryz.underlying0
 a0:=Tryz.isAgg0
 z0:=Tryz.sizeOf0
 v0:=Tryz.zeroValue0
 t3:=Tryz.underlying3
 a3:=Tryz.isAgg3
 z3:=Tryz.sizeOf3
 v3:=Tryz.zeroValue3
 t4:=Tryz.underlying4
 a4:=Tryz.isAgg4
 z4:=Tryz.sizeOf4
 v4:=Tryz.zeroValue4
 t22:=Tryz.underlying70
 a22:=Tryz.isAgg70
 z22:=Tryz.sizeOf70
 v22:=Tryz.zeroValue70
 i3:=by kernel_rfl }
end Go.Proofs
namespace Go.Ab
open Go.Proofs.Tryz
open Go.Proofs Go.Sort
theorem x9q {σ:Mem} {β:Lab} {k:Nat} {c c':Chunk} {w w':World} {i:BInfo} (h:HRel σ β [(k,c)] w) (hi:β k=some i) (hf:Frm (fun b=>b=i.blk) w w')
  (hnew:c'.holds σ β w' k):HRel σ β [(k,c')] w'∧Later σ β [(k,c)] w σ β [(k,c')] w':=by
 have hap:=h.apart k (by simp) i hi;refine ⟨⟨fun b cs hb => ?_,fun j d hj => ?_,by simp,fun j hj i' hi' b hb => ?_,fun j hj j' hj' _ _ _ _ _ _ _ => ?_⟩,Mem.le_refl σ,⟨hf.os,hf.tape,hf.output,hf.drawn,hf.size,fun b hb hn=>hf.block b hb fun he=>hn ⟨k,by simp,i,hi,.inl he.symm⟩⟩,
  fun b h0 h1=>absurd h0 h1,fun b ⟨j,hj,i',hi',hb⟩ => .inl ⟨j,by simpa using hj,i',hi',hb⟩,fun _ _ _=>rfl⟩
 ·obtain ⟨e,fr,hh⟩:=h.mem b cs hb;exact ⟨e,fr,(hf.block b (u4g.1 hh).1 fun he=>by rw [he,(hap _ i.has_blk).1] at hb;cases hb).trans hh⟩
 ·simp at hj;obtain ⟨rfl,rfl⟩:=hj;exact hnew
 ·simp at hj;subst hj;rw [hi] at hi';cases hi';exact ⟨(hap b hb).1,u7z (hap b hb).2 hf.size⟩
 ·simp at hj hj';rw [hj,hj']
theorem JU {w:World} {b:Nat} {vs:Array Value} {e:TypeId} (h:w.heap[b]? = some (.cells vs e (0,0))) (o:Nat):w.frozen? ⟨b,o,none⟩=false:=by
 simp [World.frozen?,h]
theorem DS {w:World} {b:Nat} {vs:Array Value} {e:TypeId} (h:w.heap[b]? = some (.cells vs e (0,0))) (o:Nat):w.cell? ⟨b,o,none⟩=vs[o]? := by
 simp [World.cell?,h]
theorem q7l {α:Type} [Inhabited α] {enc:α->Value} {w:World} {n b:Nat} {d:Array α} {os:Array Obj} {vs:Array Value} {e:TypeId} (h:w.heap[b]? = some (.cells vs e (0,0))) (hlt:b<w.heap.size) :
  Frm (fun x=>x=b) w (grow (putRow enc (Sort.ahead w n) b 0 d) os)∧(grow (putRow enc (Sort.ahead w n) b 0 d) os).heap[b]? = some (.cells (putCells enc 0 d vs) e (0,0)):=by
 have hh:(grow (putRow enc (Sort.ahead w n) b 0 d) os).heap=w.heap.modify b (onCells (putCells enc 0 d))++os:=rfl;refine ⟨⟨rfl,rfl,rfl,Nat.le_add_right _ _,?_,fun k hk hn => ?_⟩,?_⟩
 ·rw [hh];simp
 ·rw [hh,u7h (by simpa using hk),u8q,if_neg (u8z hn)]
 ·rw [hh,u7h (by simpa using hlt),u8q,if_pos rfl,h];rfl
theorem NC {α:Type} [Inhabited α] {enc:α->Value} {d:Array α} {vs:Array Value} (hs:d.size<=vs.size) {k:Nat} (hk:k<d.size):(putCells enc 0 d vs)[k]? = some (enc d[k]):=by
 unfold putCells;have hk':k<vs.size:=by omega
 simp [hk',hk]
theorem z9m {σ:Mem} {l:List Str} {vs:Array Value} (h : ∀ (m:Nat) (x:AV),(l.map AV.str)[m]? = some x->x.cells.length=1 ∧ ∀ (j:Nat) (c:AV),x.cells[j]? = some c -> ∃ u:Value,vs[m*1+j]? = some u∧Rep σ c u) {j:Nat} (hj:j<l.length) :
  vs[j]? = some (encStr l[j])∧l[j].length<=maxLen:=by
 obtain ⟨u,h1,h2⟩:=(h j (.str l[j]) (by simp [hj])).2 0 (.str l[j]) rfl;cases h2 with
 | str _ h3=>exact ⟨by simpa using h1,h3⟩
theorem z9l {σ:Mem} {l:List Str} {vs:Array Value} (h : ∀ j (hj:j<l.length),vs[j]? = some (encStr l[j])) (hl : ∀ s∈l,s.length<=maxLen) : ∀ (m:Nat) (x:AV),(l.map AV.str)[m]? = some x->x.cells.length=1 ∧ ∀ (j:Nat) (c:AV),x.cells[j]? = some c -> ∃ u:Value,vs[m*1+j]? = some u∧Rep σ c u:=by
 intro m x hx;rw [u4q] at hx;cases hq:l[m]? with
 | none=>rw [hq] at hx;cases hx
 | some s =>
   rw [hq] at hx;cases hx;obtain ⟨hm,rfl⟩:=u3e.1 hq;refine ⟨rfl,fun j c hj => ?_⟩;have hj0:j=0:=by
    have:=(u3e.1 hj).1;simpa [AV.cells] using this
   subst hj0;simp only [AV.cells,u9x,u6d] at hj;subst hj;exact ⟨_,by simpa using h m hm,.str _ (hl _ (u3i hm))⟩
theorem v8q {vals:Array Value} {l:LV} (h:vals.size=[l].length) : ∃ v,vals = #[v]:=⟨vals[0]'(by simp at h;omega),by apply Array.ext;simpa using h;intro i h1 h2;simp at h2;subst h2;rfl⟩
theorem z2g {σ:Mem} {β:Lab} {k n:Nat} {v:Value} {i:BInfo} (h:RepL σ β (.hd k 0 n) v) (hi:β k=some i):v = .slice (some ⟨i.blk,0,none⟩) n i.cap:=by
 rcases h.hdI with ⟨hk,_⟩|⟨i',o,hk,hl,ho,hv⟩
 ·rw [hi] at hk;cases hk
 ·rw [hi] at hk;cases hk;rcases ho with ho|ho
  ·rw [hv,ho];simp
  ·omega
theorem z7o {σ:Mem} {β:Lab} {k n:Nat} {v:Value} (h:RepL σ β (.hd k 0 n) v) (hi:β k=none):v = .slice none 0 0∧n=0:=by
 rcases h.hdI with ⟨_,_,hn,hv⟩|⟨i',o,hk,_⟩
 ·exact ⟨hv,hn⟩
 ·rw [hi] at hk;cases hk
def JL (l:List Str):List Str:=l.mergeSort fun x y=>decide (x<=y)
theorem BG (l:List Str) (hlen:l.length<=1000000000) :
  SpecH prog 149 [.hd 1000 0 l.length] [(1000,.own 9 1 (l.map .str))] (fun r H=>r = .p (.tup [])∧H=[(1000,.own 9 1 ((JL l).map .str))]):=by
 refine ⟨call149,fun σ β w vals hn hv hH => ?_⟩;obtain ⟨v,rfl⟩:=v8q hn;have hv:=hv 0 _ rfl;simp only [u7a,u4t,u9v,Array.getD_eq_getD_getElem?] at hv;have hv:RepL σ β (.hd 1000 0 l.length) v:=by simpa using hv
 have hch:=hH.chunks 1000 _ u3g;have hlenS:(JL l).length=l.length:=by unfold JL;simp
 rcases hch with ⟨hb0,hes⟩|⟨i,vs,hi,hsz,hh,h2,h3,h4,h5⟩
 ·have hl0:l=[]:=by simpa using hes
  subst hl0;obtain ⟨rfl,_⟩:=z7o hv hb0;have hc:=Any.slices_Sort_string_none q7c none 0 w;change Calls prog 149 _ _ _ at hc;refine hc.mono ?_;rintro e w' ⟨rfl,rfl⟩;exact ⟨.p (.tup []),.tuple #[],σ,β,_,rfl,⟨rfl,rfl⟩,.p (.tup [] #[] (fun _=>undef) rfl (by simp) (by simp)),by simpa [JL] using hH,by simpa [JL] using Later.refl _ _ _ _⟩
 ·have hve:=z2g hv hi;subst hve;have hlt:=(hH.apart 1000 (by simp) i hi i.blk i.has_blk).2;have hle:l.length<=vs.size:=by rw [h2,Nat.mul_one];simpa using h3
  have hget:=fun j hj=>z9m (σ:=σ) (l:=l) h5 (j:=j) hj;have hc:=Any.slices_Sort_string q7c i.blk 0 i.cap l w (fun j hj=>by
   have hj':j<l.length:=by simpa using hj
   refine ⟨?_,JU hh _⟩;rw [DS hh,u5s,(hget j hj').1];simp [hj']) hlt (by omega)
  change Calls prog 149 _ _ _ at hc;refine hc.mono ?_;rintro e w' ⟨rfl,n,os,rfl⟩;obtain ⟨hf,hb⟩:=q7l (enc:=encStr) (n:=n) (os:=os) (d:=(JL l).toArray) hh hlt;obtain ⟨hH',hL⟩:=x9q (c' := .own 9 1 ((JL l).map .str)) hH hi hf (.inr ⟨i,_,hi,hsz,hb,by simpa [putCells] using h2,by simpa [hlenS] using h3,h4,z9l (fun j hj=>by
   have:=NC (enc:=encStr) (d:=(JL l).toArray) (vs:=vs) (by simp [hlenS];omega) (k:=j) (by simpa using hj);simpa using this) fun s hs=>by
    have:s∈l:=by unfold JL at hs;simpa using hs
    obtain ⟨j,hj,rfl⟩:=u5w.1 this;exact (hget j hj).2⟩)
  exact ⟨.p (.tup []),.tuple #[],σ,β,_,rfl,⟨rfl,rfl⟩,.p (.tup [] #[] (fun _=>undef) rfl (by simp) (by simp)),hH',hL⟩
theorem x4c (l:List Str):(Go.Lib.compact l).length<=l.length:=by
 unfold Go.Lib.compact Go.Lib.compactUpTo;rw [u3k];exact u5r (u5c _ _) (by simp)
theorem q1g {l:List Str} {s:Str} (h:s∈Go.Lib.compact l):s∈l:=by
 unfold Go.Lib.compact Go.Lib.compactUpTo at h;obtain ⟨j,hj,rfl⟩:=u3s.1 h;have:=(u4i.1 hj).1;have hlt:j<l.length:=by simpa using this
 simp [hlt]
theorem q4g {α:Type} [Inhabited α] {enc:α->Value} {d:Array α} {vs:Array Value} {o:Nat}:(putCells enc o d vs).size=vs.size:=by simp [putCells]
theorem FU (l:List Str) (hlen:l.length<=1000000000) :
  SpecH prog 206 [.hd 1000 0 l.length] [(1000,.own 9 1 (l.map .str))] (fun r H=>r = .hd 1000 0 (Go.Lib.compact l).length∧H=[(1000,.own 9 1 ((Go.Lib.compact l).map .str))]):=by
 refine ⟨call206,fun σ β w vals hn hv hH => ?_⟩;obtain ⟨v,rfl⟩:=v8q hn;have hv:=hv 0 _ rfl;have hv:RepL σ β (.hd 1000 0 l.length) v:=by simpa using hv
 have hch:=hH.chunks 1000 _ u3g;have hcl:=x4c l;rcases hch with ⟨hb0,hes⟩|⟨i,vs,hi,hsz,hh,h2,h3,h4,h5⟩
 ·have hl0:l=[]:=by simpa using hes
  subst hl0;obtain ⟨rfl,_⟩:=z7o hv hb0;have hc:=Any.slices_Compact_string_empty q7a none 0 w;change Calls prog 206 _ _ _ at hc;refine hc.mono ?_;rintro e w' ⟨rfl,rfl⟩;exact ⟨.hd 1000 0 0,.slice none 0 0,σ,β,_,rfl,⟨rfl,rfl⟩,.hdn 1000 hb0,by simpa [Go.Lib.compact,Go.Lib.compactUpTo] using hH,by simpa [Go.Lib.compact,Go.Lib.compactUpTo] using Later.refl _ _ _ _⟩
 ·have hve:=z2g hv hi;subst hve;have hlt:=(hH.apart 1000 (by simp) i hi i.blk i.has_blk).2;have hle:l.length<=vs.size:=by rw [h2,Nat.mul_one];simpa using h3
  have hcap:l.length<=i.cap:=by simpa using h3
  have hget:=fun j hj=>z9m (σ:=σ) (l:=l) h5 (j:=j) hj;have hc:=Any.slices_Compact_string q7a i.blk 0 i.cap l w (fun j hj=>by
   have hj':j<l.length:=by simpa using hj
   refine ⟨?_,JU hh _⟩;rw [DS hh,u5s,(hget j hj').1];simp [hj']) (by omega) hcap
  change Calls prog 206 _ _ _ at hc;refine hc.mono ?_;rintro e w' ⟨rfl,q,rfl⟩;obtain ⟨hf,hb⟩:=q7l (enc:=encStr) (n:=q) (os := #[]) (d:=(Go.Lib.compact l++List.replicate (l.length-(Go.Lib.compact l).length) []).toArray) hh hlt;rw [grow_empty] at hf hb;obtain ⟨hH',hL⟩:=x9q (c' := .own 9 1 ((Go.Lib.compact l).map .str)) hH hi hf (.inr ⟨i,_,hi,hsz,hb,by rw [q4g];exact h2,by simp;omega,h4,z9l (fun j hj=>by
   have:=NC (enc:=encStr) (d:=(Go.Lib.compact l++List.replicate (l.length-(Go.Lib.compact l).length) []).toArray) (vs:=vs) (by simp;omega) (k:=j) (by simp;omega);rw [this];simp [List.getElem_append_left hj]) fun s hs=>by
    obtain ⟨j,hj,rfl⟩:=u5w.1 (q1g hs);exact (hget j hj).2⟩)
  refine ⟨.hd 1000 0 (Go.Lib.compact l).length,_,σ,β,_,rfl,⟨rfl,rfl⟩,?_,hH',hL⟩;have:=RepL.hd (σ:=σ) (β:=β) 1000 0 (Go.Lib.compact l).length i 0 hi (by omega) (.inl (by simp));simpa using this
theorem x3q {p:Pg} (hs:(QO p).1=0) {f:Pr} (hf:f∈p.procs) {t:S} (ht:t∈flL f.body):knownB p f (procsN p) t=true:=by
 obtain ⟨_,_,h⟩:=UY hs;have h1:=u7f.1 h f hf;unfold VA at h1;cases hb:(XM (z3v f)||(z3v f).any fun n=>p.globals.any fun s=>n==s)<;>rw [hb] at h1
 ·simp only [u4h,u9k] at h1;have:=u6p.1 h1 t ht;simpa using this
 ·cases h1
theorem q7q {p:Pg} (hs:(QO p).1=0) {f:Pr} (hf:f∈p.procs) {t:S} (ht:t∈flL f.body) (hk:t.kind=4):t.proc∈procsN p∧t.proc≠mainS:=by
 have:=x3q hs hf ht;unfold knownB at this;simp only [u4u,u8y,u4b] at this;rcases this.2 with h|h
 ·exact absurd hk h
 ·simp only [u7x,u8b,ne_eq] at h;refine ⟨?_,h.1⟩;obtain ⟨s,h1,h2⟩:=u5n.1 h.2;have:=eq_of_beq h2;exact this▸h1
def HW (f:Pr):List Str:=((flL f.body).filter fun t=>decide (t.kind=4)).map S.proc
def YE (f:Pr):List Str:=Go.Lib.compact (JL (HW f))
theorem q4l {l:List Str} {s:Str}:s∈JL l↔s∈l:=by unfold JL;simp
theorem YD (l:List Str):(JL l).length=l.length:=by unfold JL;simp
theorem x4l (f:Pr):(YE f).length<=cntL f.body:=by
 have:=x4c (JL (HW f));rw [YD] at this;unfold YE;refine u5r this ?_;unfold HW;rw [u3k,<- x1h];exact u5c _ _
theorem NV {p:Pg} (hs:(QO p).1=0) {f:Pr} (hf:f∈p.procs) {s:Str} (h:s∈YE f):s∈procsN p:=by
 have h1:=q4l.1 (q1g h);obtain ⟨t,h2,rfl⟩:=u3s.1 h1;obtain ⟨h3,h4⟩:=u4i.1 h2;exact (q7q hs hf h3 (by simpa using h4)).1
theorem q4k {p:Pg} {n:Str} (h:n∈procsN p) : ∃ (k:Nat) (hk:k<p.procs.length),q3l (fun f=>f.name==n) p.procs=k∧p.procs.find? (fun f=>f.name==n)=some p.procs[k]∧p.procs[k].name=n:=by
 have h':p.procs.any (fun f=>f.name==n)=true:=by
  obtain ⟨f,h1,h2⟩:=u3s.1 h;exact u5n.2 ⟨f,h1,by simp [h2]⟩
 obtain ⟨k,hk,h1,h2,h3⟩:=z8q h';exact ⟨k,hk,h1,h3,by simpa using h2⟩
theorem z6p (p:Pg) (n:Str) (k:Nat) (hk:k<p.procs.length) (hi:q3l (fun f=>f.name==n) p.procs=k) (hc:cntP p.procs<=1000):SpecP prog 317 [.ip (sheetOf p).cells,.str n] (fun r=>r=eStrs (YE p.procs[k])):=by
 refine sB x7z func317 rfl call317 ?_;conv=>whnf
 repeat' ((first|(refine iM fun _=>?_)|refine cP (VW _ _) ?_|(refine CallK.pure (w0u p (j:=k) (f:=p.procs[k]'hk) (by simp) hc) (.cons (Sub.refl _) (.cons (Sub.int (by exact hi)) .nil)) ?_;rintro _ rfl));conv=>whnf)
 have hmap:=LA (k:Nat) 0 (-1) 0 (QN p.procs k) p.procs[k].body;have hib:(itL (k:Nat) 0 (-1) 0 (QN p.procs k) p.procs[k].body).length<=1000:=by
  have:=(QJ p).2.2.2.2 k p.procs[k] (by simp);rw [WR];omega
 generalize hits:itL (k:Nat) 0 (-1) 0 (QN p.procs k) p.procs[k].body=its at hmap hib ⊢;have hil:=UL its;have hraw:HW p.procs[k]=(its.filter fun it=>decide (it.s.kind=4)).map fun it=>it.s.proc:=by
  unfold HW;rw [<- hmap,List.filter_map,u8a];rfl
 refine LoopK.inv QX (fun i:Nat×List Str=>⟨[(5,.hd 0 0 i.2.length),(12,.p (YW its)),(13,.p (.int .i64 (its.map fun i=>AV.agg i.cells).length)),(14,.p (.int .i64 i.1))],[(0,.own 9 1 (i.2.map .str))]⟩)
  (fun i=>i.1<=its.length∧i.2.length<=i.1∧i.2++((its.drop i.1).filter fun it=>decide (it.s.kind=4)).map (fun it=>it.s.proc)=HW p.procs[k]) (fun i=>its.length-i.1) (0,[])
  (Le.mk [(0,.own 9 1 [])] (by simp [Chunk.new0];rfl) (by simp) (by simp) (.cons (.nil u3g) (.cons (.refl _) (.cons (.refl _) (.cons (.refl _) .nil)))) (.new u3g .nil))
  ⟨u3l _,u4j _,by rw [hraw];rfl⟩ ?_
 rintro ⟨j,acc⟩ ⟨h2,h3,h4⟩;simp only at h2 h3 h4 ⊢;rcases u3r j its.length with hj|hj
 ·conv=>whnf
  repeat' (first|((first|refine u3d rfl ?_|refine aD ?_|refine bP ?_|(refine iA fun _=>?_)|refine wI ?_|refine QH (by simp) (by simp;omega) ?_);conv=>whnf)|(apply bD<;>intro _<;>first|omega|conv=>whnf))
  ·exact ⟨(j+1,acc++[its[j].s.proc]),⟨by simp only;omega,by simp;omega,by simp only;rw [<- h4,QF hj,filter_cons,if_pos (by simp [*])];simp⟩,by simp only;omega,Le.of_eq (by simp only [u3f,u3t];rfl)⟩
  ·exact ⟨(j+1,acc),⟨by simp only;omega,by simp only;omega,by simp only;rw [<- h4,QF hj,filter_cons,if_neg (by simp [*])]⟩,by simp only;omega,Le.of_eq rfl⟩
 ·have hacc:acc=HW p.procs[k]:=by
   rw [u4z hj] at h4;simpa using h4
  conv=>whnf
  repeat' (first|(apply bD<;>intro _<;>first|omega|conv=>whnf)|(refine CallK.heap [(1000,0)] 0 (by repeat' (first|exact u4s|refine u4w ?_ ?_|exact u4v _|exact u4p Sub.nils|exact u4p (Sub.tt rfl)|exact u4p (Sub.ff rfl)|exact u4p (Sub.int (by omega)))) (by refine u4x (j:=0) rfl rfl ?_ ?_;exact CSub.refl _;exact u4c) (BG acc (by omega)) rfl rfl ?_;rintro l' H' ⟨rfl,rfl⟩;conv=>whnf)|(refine CallK.heap [(1000,0)] 0 (u4w (u8s (by rw [YD];rfl)) u4s) (by refine u4x (j:=0) rfl rfl ?_ ?_;exact CSub.refl _;exact u4c) (FU (JL acc) (by rw [YD];omega)) rfl rfl ?_;rintro l' H' ⟨rfl,rfl⟩;conv=>whnf))
  exact ⟨_,.hd rfl (by simp),by unfold YE;rw [<- hacc];rfl⟩
def VP (out:List Str):List Str->List Str
 | []=>out
 | n::r=>VP (if (out.any fun s=>n==s)=true then out else out++[n]) r
theorem q1v {out l:List Str} {j:Nat} (hj:j<l.length):VP out (l.drop j)=VP (if (out.any fun s=>l[j]==s)=true then out else out++[l[j]]) (l.drop (j+1)):=by
 rw [QF hj,VP]
theorem FB {p:Pg} : ∀ (l:List Str) {out:List Str},out.Nodup->(∀ s∈out,s∈procsN p)->(∀ s∈l,s∈procsN p)->(VP out l).Nodup∧(∀ s∈VP out l,s∈procsN p) ∧ ∃ r,VP out l=out++r
 | [],out,h1,h2,_=>⟨h1,h2,[],by rw [VP];simp⟩
 | n::r,out,h1,h2,h3=>by
   rw [VP];split
   ·exact FB r h1 h2 fun s hs=>h3 s (u3n _ hs)
   ·rename_i hn;have hno:n∉out:=fun hm=>hn (u5n.2 ⟨n,hm,by simp⟩);obtain ⟨h4,h5,r',h6⟩:=FB (p:=p) r (out:=out++[n]) (u5p.2 ⟨h1,by simp,fun a ha b hb=>by simp at hb;subst hb;exact fun he=>hno (he▸ha)⟩) (fun s hs=>by
     rcases u3p.1 hs with hs|hs
     ·exact h2 s hs
     ·simp at hs;subst hs;exact h3 _ u3g) fun s hs=>h3 s (u3n _ hs)
    exact ⟨h4,h5,n::r',by rw [h6];simp⟩
def x4r (p:Pg) (n:Str):List Str:=match p.procs.find? (fun f=>f.name==n) with
 | some f=>YE f
 | none=>[]
def UV (p:Pg):Nat->Nat->List Str->List Str
 | 0,_,out=>out
 | fuel+1,i,out=>match out[i]? with
   | some n=>UV p fuel (i+1) (VP out (x4r p n))
   | none=>out
def w0f (p:Pg) (n:Str):List Str:=JL (UV p (p.procs.length+1) 0 [n])
theorem BF {α:Type} [BEq α] [LawfulBEq α] : ∀ {l m:List α},l.Nodup->(∀ s∈l,s∈m)->l.length<=m.length
 | [],m,_,_=>u3l _
 | a::r,m,h1,h2=>by
   have ha:=h2 a u3g;have:=BF (l:=r) (m:=m.erase a) (u5l.1 h1).2 fun s hs=>(List.mem_erase_of_ne fun he=>(u5l.1 h1).1 (by rw [<- he];exact hs)).2 (h2 s (u3n _ hs));rw [List.length_erase_of_mem ha] at this;have:=u9j ha;simp only [u4t];omega
theorem z1j {p:Pg} {n:Str} {k:Nat} (hk:k<p.procs.length) (h:p.procs.find? (fun f=>f.name==n)=some p.procs[k]):x4r p n=YE p.procs[k]:=by
 unfold x4r;rw [h]
theorem z1k {p:Pg} (hs:(QO p).1=0) {n s:Str} (h:s∈x4r p n):s∈procsN p:=by
 unfold x4r at h;split at h
 ·rename_i f hf;exact NV hs (u5i hf) h
 ·cases h
theorem w7g (p:Pg) (n:Str) (hs:(QO p).1=0) (hn:n∈procsN p):SpecP prog 254 [.ip (sheetOf p).cells,.str n] (fun r=>r=eStrs (w0f p n)):=by
 refine sB z4c func254 rfl call254 ?_;conv=>whnf
 obtain ⟨hm,hb,hns⟩:=UY hs;obtain ⟨hg,hpl,hcn⟩:=ZM hm;have hnl:(procsN p).length=p.procs.length:=by simp [procsN]
 repeat' ((first|refine u3d rfl ?_|refine aD ?_|refine u8x (fun x hx=>by rcases u3b.1 hx with rfl;rfl) rfl ?_);conv=>whnf)
 refine LoopK.inv QX (fun i:Nat×List Str=>⟨[(0,.p (.ip (sheetOf p).cells)),(5,.hd 0 0 i.2.length),(6,.p (.int .i64 i.1))],[(0,.own 9 1 (i.2.map .str))]⟩)
  (fun i=>i.1<=i.2.length∧i.2.Nodup∧(∀ s∈i.2,s∈procsN p)∧UV p (p.procs.length+1-i.1) i.1 i.2=UV p (p.procs.length+1) 0 [n]) (fun i=>p.procs.length+1-i.1) (0,[n])
  (Le.of_eq rfl) ⟨u3l _,by simp,by simpa using hn,rfl⟩ ?_
 rintro ⟨j,out⟩ ⟨h2,h3,h4,h5⟩;simp only at h2 h3 h4 h5 ⊢;have hol:=BF h3 h4;rcases u3r j out.length with hj|hj
 ·obtain ⟨k,hk,hik,hfk,hnk⟩:=q4k (h4 _ (u3i hj));have hcl:=x4l p.procs[k];have hcc:cntL p.procs[k].body<=200:=by
   have:=(QJ p).2.2.2.2 k p.procs[k] (by simp);omega
  conv=>whnf
  repeat' (first|((first|(refine iM fun _=>?_)|refine u3d rfl ?_|refine u5q j rfl hj ?_|refine u5y j 0 (.str out[j]) (by omega) (by simp [hj]) ?_|(refine CallK.pure (z6p p out[j] k hk hik (by omega)) (.cons (Sub.refl _) (.cons (Sub.refl _) .nil)) ?_;rintro _ rfl));conv=>whnf)|(apply bD<;>intro _<;>first|omega|conv=>whnf))
  have hkn : ∀ s∈YE p.procs[k],s∈procsN p:=fun s h=>NV hs (u3i hk) h;have hcN:=z1j hk hfk;have hre:UV p (p.procs.length+1-j) j out=UV p (p.procs.length+1-(j+1)) (j+1) (VP out (YE p.procs[k])):=by
   rw [show p.procs.length+1-j=(p.procs.length+1-(j+1))+1 by omega,UV,u3h hj];simp only;rw [hcN]
  rw [hre] at h5;obtain ⟨hi1,hi2,rr,hi3⟩:=FB (YE p.procs[k]) h3 h4 hkn;generalize YE p.procs[k]=cs at hkn h5 hi1 hi2 hi3 hcl ⊢;have hcsl:(cs.map AV.str).length=cs.length:=u3k _;refine LoopK.inv QX (fun i:Nat×List Str=>⟨[(0,.p (.ip (sheetOf p).cells)),(5,.hd 0 0 i.2.length),(6,.p (.int .i64 j)),(22,.p (eStrs cs)),(23,.p (.int .i64 (cs.map AV.str).length)),(24,.p (.int .i64 i.1))],[(0,.own 9 1 (i.2.map .str))]⟩)
   (fun i=>i.1<=cs.length∧i.2.length<=out.length+i.1∧VP i.2 (cs.drop i.1)=VP out cs) (fun i=>cs.length-i.1) (0,out)
   (Le.of_eq rfl) ⟨u3l _,by simp,rfl⟩ ?_
  rintro ⟨m,acc⟩ ⟨h6,h7,h8⟩;simp only at h6 h7 h8 ⊢;rcases u3r m cs.length with hm'|hm'
  ·conv=>whnf
   repeat' (first|((first|refine u3d rfl ?_|refine aD ?_|refine bP ?_|(refine iA fun _=>?_)|refine wI ?_|(refine QD (QU acc (cs[m]'hm')) (.cons (.hd rfl (by simp)) (.cons (.p (Sub.refl _)) .nil)) (by rintro _ rfl;rfl) ?_;rintro _ rfl)|refine QH (by simp) (by simp;omega) ?_);conv=>whnf)|(apply bD<;>intro _<;>first|omega|conv=>whnf)|(apply bN<;>intro _<;>conv=>whnf))
   ·exact ⟨(m+1,acc),⟨by simp only;omega,by simp only;omega,by simp only;rw [<- h8,q1v hm',if_pos (by assumption)]⟩,by simp only;omega,Le.of_eq rfl⟩
   ·exact ⟨(m+1,acc++[cs[m]]),⟨by simp only;omega,by simp;omega,by simp only;rw [<- h8,q1v hm',if_neg (by simp [*])]⟩,by simp only;omega,Le.of_eq (by simp only [u3f,u3t];rfl)⟩
  ·rw [u4z hm',VP] at h8;subst h8;have hge:out.length<=(VP out cs).length:=by rw [hi3];simp
   conv=>whnf
   repeat' (first|(refine wI ?_;conv=>whnf)|(apply bD<;>intro _<;>first|omega|conv=>whnf))
   exact ⟨(j+1,VP out cs),⟨by simp only;omega,hi1,hi2,h5⟩,by simp only;omega,Le.of_eq rfl⟩
 ·have hjo:j=out.length:=by omega
  have hre:UV p (p.procs.length+1-j) j out=out:=by
   rw [show p.procs.length+1-j=(p.procs.length-j)+1 by omega,UV,u5d (by omega)]
  rw [hre] at h5;conv=>whnf
  repeat' (first|(refine iM fun _=>?_;conv=>whnf)|(apply bD<;>intro _<;>first|omega|conv=>whnf)|(refine CallK.heap [(1000,0)] 0 (by repeat' (first|exact u4s|refine u4w ?_ ?_|exact u4v _|exact u4p Sub.nils|exact u4p (Sub.tt rfl)|exact u4p (Sub.ff rfl)|exact u4p (Sub.int (by omega)))) (by refine u4x (j:=0) rfl rfl ?_ ?_;exact CSub.refl _;exact u4c) (BG out (by omega)) rfl rfl ?_;rintro l' H' ⟨rfl,rfl⟩;conv=>whnf))
  exact ⟨_,.hd rfl (by simp [YD]),by unfold w0f;rw [<- h5];rfl⟩
mutual
theorem v2q : ∀ (x:X) (out:List Str),(x3b x out).length<=out.length+wX x
 | .mk op n name kids,out=>by
   rw [x3b,wX];have:=w4d kids (if op=2∧(out.any fun s=>name==s)=false then out++[name] else out);split at this
   ·rename_i h;rw [if_pos h];simp at this;omega
   ·rename_i h;rw [if_neg h];omega
theorem w4d : ∀ (l:List X) (out:List Str),(FC l out).length<=out.length+wXs l
 | [],out=>by rw [FC];omega
 | x::r,out=>by
   have h1:=v2q x out;have h2:=w4d r (x3b x out);rw [FC,wXs];omega
end
theorem z8n (x:X):(QS x).length<=wX x:=by
 unfold QS;have:=v2q x [];cases w1f x<;>simp at this ⊢;exact this
theorem x2d : ∀ l:List Arg,(l.flatMap KU).length<=x9l l
 | []=>by simp
 | a::r=>by
   have h1:=x2d r;have h2:=z8n a.x;simp only [u5b,u3f,x9l];have h3:(KU a).length<=1+(QS a.x).length:=by
    unfold KU;cases a.ref<;>simp;omega
   omega
theorem z8p (t:S):(WC t).length<=wS t:=by
 have h1:=x2d t.args;have h2:=z8n t.x;rw [x9r];have h3:(BE t).length<=1+(QS t.x).length:=by
  unfold BE;cases (decide (t.kind≠10) && !(t.name==[]):Bool)<;>simp;omega
 unfold WC;rw [u3f];omega
theorem q5c {b:Bool} (h:b=true):Sub (.bool b) .tt:=fun _ _ hr=>by subst h;cases hr;exact .tt
theorem z6n (p:Pg) (hf:Fit p) (hs:(QO p).1=0) (n:Str) (hn:n∈procsN p):SpecP prog 253 [.agg p.cells,.str n] (fun r=>r = .tt):=by
 refine sB x7w func253 rfl call253 ?_;conv=>whnf
 repeat' (first|((first|refine cP (GF p hf) ?_|refine cP (VF p.procs 316 (.ip [.str n]) (fun f=>f.name==n) (x9d n)) ?_);conv=>whnf)|(apply bD<;>intro _<;>first|omega|conv=>whnf))
 have:p.procs.any (fun f=>f.name==n)=true:=by
  obtain ⟨f,h1,h2⟩:=u3s.1 hn;exact u5n.2 ⟨f,h1,by simp [h2]⟩
 exact ⟨_,.p (q5c this),rfl⟩
def x4q (p:Pg) (t:S):List Str:=(WC t).filter fun v=>p.globals.any fun s=>v==s
def q6k (p:Pg) (n:Str):List Str:=match p.procs.find? (fun f=>f.name==n) with
 | some f=>(flL f.body).flatMap (x4q p)
 | none=>[]
def JJ (p:Pg) (n:Str):List Str:=(w0f p n).flatMap (q6k p)
def JY (p:Pg) (n:Str):List Str:=Go.Lib.compact (JL (JJ p n))
theorem x6x {p:Pg} (hs:(QO p).1=0) : ∀ (fuel i:Nat) (out:List Str),out.Nodup->(∀ s∈out,s∈procsN p)->(UV p fuel i out).Nodup ∧ ∀ s∈UV p fuel i out,s∈procsN p
 | 0,i,out,h1,h2=>by rw [UV];exact ⟨h1,h2⟩
 | fuel+1,i,out,h1,h2=>by
   rw [UV];split
   ·obtain ⟨h3,h4,_⟩:=FB (x4r p _) h1 h2 fun s h=>z1k hs h;exact x6x hs fuel (i+1) _ h3 h4
   ·exact ⟨h1,h2⟩
theorem z7v {p:Pg} (hs:(QO p).1=0) {n:Str} (hn:n∈procsN p):(w0f p n).length<=p.procs.length ∧ ∀ s∈w0f p n,s∈procsN p:=by
 obtain ⟨h1,h2⟩:=x6x hs (p.procs.length+1) 0 [n] (by simp) (by simpa using hn);unfold w0f;rw [YD];refine ⟨?_,fun s h=>h2 s (q4l.1 h)⟩;have:=BF h1 h2;simpa [procsN] using this
theorem JF {α β:Type} {f:α->List β} {l:List α} {j:Nat} (hj:j<l.length):(l.drop j).flatMap f=f l[j]++(l.drop (j+1)).flatMap f:=by
 rw [QF hj,u5b]
theorem x9f (p:Pg) (hf:Fit p) (hs:(QO p).1=0) (n:Str) (hn:n∈procsN p):SpecP prog 201 [.agg p.cells,.str n] (fun r=>r=eStrs (JY p n)):=by
 refine sB x0b func201 rfl call201 ?_;conv=>whnf
 obtain ⟨hm,hb,hns⟩:=UY hs;obtain ⟨hg,hpl,hcn⟩:=ZM hm;repeat' ((first|(refine iM fun _=>?_)|refine cP (z6n p hf hs n hn) ?_|refine cP (w7g p n hs hn) ?_|(refine CallK.pure (MF p (by omega) (by omega)) (.cons (Sub.refl _) .nil) ?_;rintro _ rfl));conv=>whnf)
 obtain ⟨hal,hak⟩:=z7v hs hn;have hgl:JY p n=Go.Lib.compact (JL (JJ p n)):=rfl;have hgr:JJ p n=(w0f p n).flatMap (q6k p):=rfl;rw [hgl];generalize w0f p n=ns at hal hak hgr ⊢;have hnl:(ns.map AV.str).length=ns.length:=u3k _;refine LoopK.inv QX (fun i:Nat×List Str=>⟨[(2,.p (.ip p.cells)),(5,.p (.ip (sheetOf p).cells)),(6,.hd 0 0 i.2.length),(21,.p (eStrs ns)),(22,.p (.int .i64 (ns.map AV.str).length)),(23,.p (.int .i64 i.1))],[(0,.own 9 1 (i.2.map .str))]⟩)
  (fun i=>i.1<=ns.length∧i.2.length<=4000000*i.1∧i.2++(ns.drop i.1).flatMap (q6k p)=JJ p n) (fun i=>ns.length-i.1) (0,[])
  (Le.mk [(0,.own 9 1 [])] (by simp [Chunk.new0];rfl) (by simp) (by simp) (.cons (.refl _) (.cons (.refl _) (.cons (.nil u3g) (.cons (.refl _) (.cons (.refl _) (.cons (.refl _) .nil)))))) (.new u3g .nil))
  ⟨u3l _,by simp,by rw [hgr];rfl⟩ ?_
 rintro ⟨j,acc⟩ ⟨h2,h3,h4⟩;simp only at h2 h3 h4 ⊢;rcases u3r j ns.length with hj|hj;rotate_left 1
 ·have hacc:acc=JJ p n:=by
   rw [u4z hj] at h4;simpa using h4
  rw [<- hacc];conv=>whnf
  repeat' (first|(apply bD<;>intro _<;>first|omega|conv=>whnf)|(refine CallK.heap [(1000,0)] 0 (by repeat' (first|exact u4s|refine u4w ?_ ?_|exact u4v _|exact u4p Sub.nils|exact u4p (Sub.tt rfl)|exact u4p (Sub.ff rfl)|exact u4p (Sub.int (by omega)))) (by refine u4x (j:=0) rfl rfl ?_ ?_;exact CSub.refl _;exact u4c) (BG acc (by omega)) rfl rfl ?_;rintro l' H' ⟨rfl,rfl⟩;conv=>whnf)|(refine CallK.heap [(1000,0)] 0 (u4w (u8s (by rw [YD];rfl)) u4s) (by refine u4x (j:=0) rfl rfl ?_ ?_;exact CSub.refl _;exact u4c) (FU (JL acc) (by rw [YD];omega)) rfl rfl ?_;rintro l' H' ⟨rfl,rfl⟩;conv=>whnf))
  exact ⟨_,.hd rfl (by simp),rfl⟩
 obtain ⟨k,hk,hik,hfk,hnk⟩:=q4k (hak _ (u3i hj));have hgn:q6k p ns[j]=(flL p.procs[k].body).flatMap (x4q p):=by unfold q6k;rw [hfk]
 rw [JF hj,hgn] at h4;have hfp:=hf.pr (u3i hk);have hpk:p.procs[k]? = some p.procs[k]:=by simp
 conv=>whnf
 repeat' (first|((first|(refine iM fun _=>?_)|refine cP (VW _ _) ?_|(refine iA fun _=>?_)|(refine CallK.pure (w0u p (j:=k) (f:=p.procs[k]'hk) hpk (by omega)) (.cons (Sub.refl _) (.cons (Sub.int (by exact hik)) .nil)) ?_;rintro _ rfl));conv=>whnf)|(apply bD<;>intro _<;>first|omega|conv=>whnf))
 have hmap:=LA (k:Nat) 0 (-1) 0 (QN p.procs k) p.procs[k].body;have hargs : ∀ m (hm:m<(itL (k:Nat) 0 (-1) 0 (QN p.procs k) p.procs[k].body).length),wS (itL (k:Nat) 0 (-1) 0 (QN p.procs k) p.procs[k].body)[m].s<=20000:=fun m hm=>by
  have hmm:(itL (k:Nat) 0 (-1) 0 (QN p.procs k) p.procs[k].body)[m].s∈flL p.procs[k].body:=by
   rw [<- hmap];exact u3s.2 ⟨_,u3i hm,rfl⟩
  have:=x1f _ _ hmm;unfold wPr at hfp;omega
 have hib:(itL (k:Nat) 0 (-1) 0 (QN p.procs k) p.procs[k].body).length<=200:=by
  have:=(QJ p).2.2.2.2 k p.procs[k] hpk;rw [WR];omega
 rw [<- hmap] at h4;generalize hits:itL (k:Nat) 0 (-1) 0 (QN p.procs k) p.procs[k].body=its at hargs hib h4 ⊢;have hil:=UL its;refine LoopK.inv QX (fun i:Nat×List Str=>⟨[(2,.p (.ip p.cells)),(5,.p (.ip (sheetOf p).cells)),(6,.hd 0 0 i.2.length),(21,.p (eStrs ns)),(22,.p (.int .i64 (ns.map AV.str).length)),(23,.p (.int .i64 j)),(31,.p (YW its)),(32,.p (.int .i64 (its.map fun i=>AV.agg i.cells).length)),(33,.p (.int .i64 i.1))],[(0,.own 9 1 (i.2.map .str))]⟩)
  (fun i=>i.1<=its.length∧i.2.length<=acc.length+20000*i.1∧i.2++(((its.drop i.1).map Item.s).flatMap (x4q p)++(ns.drop (j+1)).flatMap (q6k p))=JJ p n) (fun i=>its.length-i.1) (0,acc)
  (Le.of_eq rfl) ⟨u3l _,by simp,h4⟩ ?_
 rintro ⟨m,acc2⟩ ⟨h6,h7,h8⟩;simp only at h6 h7 h8 ⊢;rcases u3r m its.length with hm'|hm';rotate_left 1
 ·rw [u4z hm'] at h8;conv=>whnf
  repeat' (first|(refine wI ?_;conv=>whnf)|(apply bD<;>intro _<;>first|omega|conv=>whnf))
  exact ⟨(j+1,acc2),⟨by simp only;omega,by simp only;omega,by simpa using h8⟩,by simp only;omega,Le.of_eq rfl⟩
 have hw:=hargs m hm';have hna:its[m].s.args.length<=20000:=by
  have:=x9r its[m].s;have:=GP its[m].s.args;omega
 have hnw:=z8p its[m].s;rw [u4n hm',u4m,u5b,u4f] at h8;have hgt:x4q p its[m].s=(WC its[m].s).filter fun v=>p.globals.any fun s=>v==s:=rfl;conv=>whnf
 repeat' (first|((first|(refine iM fun _=>?_)|refine cP (x4i _ hna) ?_|refine u3d rfl ?_|(refine iA fun _=>?_));conv=>whnf)|(apply bD<;>intro _<;>first|omega|conv=>whnf))
 rw [hgt] at h8;generalize WC its[m].s=vs at hnw h8 ⊢;have hvl:(vs.map AV.str).length=vs.length:=u3k _;refine LoopK.inv QX (fun i:Nat×List Str=>⟨[(2,.p (.ip p.cells)),(5,.p (.ip (sheetOf p).cells)),(6,.hd 0 0 i.2.length),(21,.p (eStrs ns)),(22,.p (.int .i64 (ns.map AV.str).length)),(23,.p (.int .i64 j)),(31,.p (YW its)),(32,.p (.int .i64 (its.map fun i=>AV.agg i.cells).length)),(33,.p (.int .i64 m)),(39,.p (eStrs vs)),(40,.p (.int .i64 (vs.map AV.str).length)),(41,.p (.int .i64 i.1))],[(0,.own 9 1 (i.2.map .str))]⟩)
  (fun i=>i.1<=vs.length∧i.2.length<=acc2.length+i.1∧i.2++((vs.drop i.1).filter (fun v=>p.globals.any fun s=>v==s)++(((its.drop (m+1)).map Item.s).flatMap (x4q p)++(ns.drop (j+1)).flatMap (q6k p)))=JJ p n) (fun i=>vs.length-i.1) (0,acc2)
  (Le.of_eq rfl) ⟨u3l _,by simp,h8⟩ ?_
 rintro ⟨q,acc3⟩ ⟨h9,h10,h11⟩;simp only at h9 h10 h11 ⊢;rcases u3r q vs.length with hq|hq
 ·rw [u4n hq,filter_cons] at h11;conv=>whnf
  repeat' (first|((first|refine cP (QU _ _) ?_|refine u3d rfl ?_|refine aD ?_|refine bP ?_|(refine iA fun _=>?_)|refine wI ?_|refine QH (by simp) (by simp;omega) ?_);conv=>whnf)|(apply bD<;>intro _<;>first|omega|conv=>whnf)|(apply bB<;>intro _<;>conv=>whnf))
  ·exact ⟨(q+1,acc3++[vs[q]]),⟨by simp only;omega,by simp;omega,by rw [if_pos (by assumption)] at h11;simpa using h11⟩,by simp only;omega,Le.of_eq (by simp only [u3f,u3t];rfl)⟩
  ·exact ⟨(q+1,acc3),⟨by simp only;omega,by simp only;omega,by rw [if_neg (by simp [*])] at h11;exact h11⟩,by simp only;omega,Le.of_eq rfl⟩
 ·rw [u4z hq] at h11;conv=>whnf
  repeat' (first|(refine wI ?_;conv=>whnf)|(apply bD<;>intro _<;>first|omega|conv=>whnf))
  exact ⟨(m+1,acc3),⟨by simp only;omega,by simp only;omega,by simpa using h11⟩,by simp only;omega,Le.of_eq rfl⟩
section
variable {P:Program} {T:Tab} {N:Nat}
def q2q (s:List UInt8):Value := .string ⟨s.toArray⟩
def v4f (l:List (List UInt8×AV)):XC := .map (l.map fun x=>(q2q x.1,x.2))
def z4j {α:Type} (l:List (List UInt8×α)) (k:List UInt8) (v:α):List (List UInt8×α) :=
 match l with
 | []=>[(k,v)]
 | x::r=>if k=x.1 then (x.1,v)::r else x::z4j r k v
def v7z {α:Type} (l:List (List UInt8×α)) (k:List UInt8):Option α:=(l.find? fun x=>decide (k=x.1)).map (·.2)
theorem z4o {es:Array MapEntry} {clock:Nat} (h:x1x es clock) {e:MapEntry} (he:e.born=clock):x1x (es.push e) (clock+1):=by
 refine ⟨?_,fun x hx => ?_⟩
 ·rw [Array.toList_push,u3t,u5p];refine ⟨h.1,by simp,fun a ha b hb => ?_⟩;obtain ⟨x,hx,rfl⟩:=u3s.1 ha;have:=h.2 x hx;simp only [u4m,u8k,u3b] at hb;omega
 ·rw [Array.toList_push] at hx;rcases u3p.1 hx with hx|hx
  ·have:=h.2 x hx;omega
  ·rw [u3b.1 hx,he];omega
theorem x5r {α β:Type} (g:α->β) (f:α->α) (hf : ∀ x,g (f x)=g x) : ∀ (l:List α) (j:Nat),(l.modify j f).map g=l.map g
 | [],j=>by simp
 | x::r,0=>by simp [hf]
 | x::r,j+1=>by simp [x5r g f hf r j]
theorem x7b {es:Array MapEntry} {clock:Nat} (h:x1x es clock) (j:Nat) {f:MapEntry->MapEntry} (hf : ∀ e,(f e).born=e.born):x1x (es.modify j f) clock:=by
 have e:(es.modify j f).toList.map (·.born)=es.toList.map (·.born):=by
  rw [Array.toList_modify];exact x5r _ f hf _ j
 refine ⟨by rw [e];exact h.1,fun x hx => ?_⟩;have h1:x.born∈(es.modify j f).toList.map (·.born):=u3s.2 ⟨x,hx,rfl⟩;rw [e] at h1;obtain ⟨y,h2,h3⟩:=u3s.1 h1;rw [<- h3];exact h.2 y h2
theorem OpK.makeMap {s:St} {o:Oper} {K:St->Prop} {t:TypeId} (hop:o.op = .makeMap t none)
  (h:FS 60 0 s fun k=>setD N s.sl o.dst (.ext k .map) fun sl=>K ⟨sl,(k,.ext (v4f []))::s.H⟩):OpK P N s o K:=by
 refine ⟨fun σ β a w hr Q => ?_⟩;obtain ⟨k,hk,h⟩:=JV h;have hchunk:(Chunk.ext (v4f [])).holds σ (β.set k (some ⟨w.heap.size,0,0,[],u3l _⟩)) (w.alloc (.map #[] 0)) k :=
  ⟨⟨w.heap.size,0,0,[],u3l _⟩,#[],0,by simp [Lab.set],heap_alloc_new w _,⟨.nil,fun x hx=>by cases hx⟩,rfl,by simp⟩
 obtain ⟨hr',hl⟩:=hr.new hk rfl rfl hchunk;obtain ⟨sl,hK,hr''⟩:=hr'.setD (v := .ext k .map) (u := .map (some w.heap.size)) (.ext k .map ⟨w.heap.size,0,0,[],u3l _⟩ _ (by simp [Lab.set]) rfl) h;exact UK (w':=w.alloc (.map #[] 0)) (by simp [execOp,hop,Instr.makeMap]) ⟨σ,_,_,hK,hr'',hl⟩
theorem z1y (a b:List UInt8):((⟨a.toArray⟩:ByteArray)==⟨b.toArray⟩)=decide (a=b):=by
 show (a.toArray==b.toArray)=decide (a=b);by_cases h:a=b
 ·subst h;simp
 ·simp [h]
theorem x1y {α:Type} (k:List UInt8) : ∀ (es:List MapEntry) (l:List (List UInt8×α)) (i:Nat),es.map (·.key)=l.map (fun x=>q2q x.1) ->
  Instr.findNow .string (q2q k) es i=some (match l.findIdx? fun x=>decide (k=x.1) with
   | some j=>some (i+j,(es[j]?.map (·.val)).getD undef)
   | none=>none)
 | [],[],_,_=>rfl
 | [],_::_,_,h=>by cases h
 | _::_,[],_,h=>by cases h
 | e::es,x::l,i,h=>by
   simp only [u4m,List.cons.injEq] at h;have hs:Instr.sameNow .string (q2q k) e.key=some (decide (k=x.1)):=by
    rw [h.1];show some ((⟨k.toArray⟩:ByteArray)==⟨x.1.toArray⟩)=_;rw [z1y]
   rw [Instr.findNow,hs,findIdx?_cons];by_cases hk:k=x.1
   ·simp [hk]
   ·simp only [hk,decide_false];rw [x1y k es l (i+1) h.2];cases l.findIdx? fun x=>decide (k=x.1) with
    | none=>rfl
    | some j=>simp;omega
theorem q8w {σ:Mem} {l:List (List UInt8×AV)} {es:Array MapEntry} (h1:es.size=(l.map fun x=>(q2q x.1,x.2)).length) (h2 : ∀ (m:Nat) (x:Value×AV),(l.map fun x=>(q2q x.1,x.2))[m]? = some x -> ∃ e:MapEntry,es[m]? = some e∧e.key=x.1∧Rep σ x.2 e.val) :
  es.toList.map (·.key)=l.map (fun x=>q2q x.1):=by
 apply List.ext_getElem?;intro m;rw [u4q,u4q];cases hq:l[m]? with
 | none =>
   have:es.toList[m]? = none:=by
    rw [List.getElem?_eq_none_iff] at hq ⊢;simp at h1 ⊢;omega
   rw [this];rfl
 | some x =>
   obtain ⟨e,h3,h4,_⟩:=h2 m (q2q x.1,x.2) (by simp [hq]);have h3':es.toList[m]? = some e:=by simpa using h3
   rw [h3'];simp [h4]
theorem q5o {P:Program} {t:TypeId} (ht:P.underlying t=some .string) (b:Bool) (k:List UInt8) (w:World):(Instr.checkKey b 10000 t (q2q k)).run P w = .ok () w:=by
 have e:Instr.checkKey b 10000 t (q2q k)=Instr.checkKey b (9999+1) t (q2q k):=rfl;rw [e,Instr.checkKey,Sem.run_bind,run_underlying ht,Result.andThen_ok];rfl
theorem v2p {σ:Mem} {β:Lab} {l:List UInt8} {v:Value} (h:RepL σ β (.p (.str l)) v):v=q2q l:=h.strV.1
theorem q6j {P:Program} {w:World} {r:Nat} {es:Array MapEntry} {clock:Nat} (h:w.heap[r]? = some (.map es clock)):(getObj r).run P w = .ok (.map es clock) w:=by simp [getObj,Sem.run,h]
theorem x6k {P:Program} {w:World} {r:Nat} {es:Array MapEntry} {clock:Nat} (o:Obj) (h:w.heap[r]? = some (.map es clock)):(setObj r o).run P w = .ok () { w with heap:=w.heap.setIfInBounds r o }:=by simp [setObj,Sem.run,h]
theorem OpK.lookup (hT:TabOK P T) {s:St} {o:Oper} {K:St->Prop} {t:TypeId} {x ix:Operand} (hop:o.op = .lookup t x ix false) {k:Nat} (hx:XX s.sl x = .ext k .map) {l:List (List UInt8×AV)} (hg:getH s.H k=some (.ext (v4f l)))
  {ks:List UInt8} (hk:XX s.sl ix = .p (.str ks)) {i ik:TyI} {kt et:TypeId} (ht:T.get t=some i) (hd:i.desc = .map kt et) (htk:T.get kt=some ik) (hdk:ik.desc = .string) {v:AV} (hv:v7z l ks=some v)
  (h:setD N s.sl o.dst (.p v) fun sl=>K ⟨sl,s.H⟩):OpK P N s o K:=by
 refine ⟨fun σ β a w hr Q => ?_⟩;have hx':=QY hr.slots x;have hk':=QY hr.slots ix;rw [hx] at hx';rw [hk] at hk';have hkv:=v2p hk';generalize hxe:a.eval x=xv at hx';cases hx' with
 | ext _ _ bi _ hbi hd' =>
   obtain rfl:xv = .map (some bi.blk):=hd';obtain ⟨bi',es,clock,hbi',hh,hbo,h1,h2⟩:=hr.heap.chunks k _ (QT hg);rw [hbi] at hbi';cases hbi';have hkeys:=q8w h1 h2;have hu:=hT.of ht;have huk:=hT.of htk;rw [hd] at hu;rw [hdk] at huk;obtain ⟨j,hj,hjv⟩ : ∃ j,(l.findIdx? fun x=>decide (ks=x.1))=some j ∧ ∃ x,l[j]? = some x∧x.2=v:=by
    unfold v7z at hv;cases hf:l.find? fun x=>decide (ks=x.1) with
    | none=>rw [hf] at hv;cases hv
    | some x =>
      rw [hf] at hv;cases hv;obtain ⟨h3,j,hlt,h4,h5⟩:=List.find?_eq_some_iff_getElem.1 hf;refine ⟨j,?_,x,by rw [u3h hlt,h4],rfl⟩;rw [List.findIdx?_eq_some_iff_getElem];exact ⟨hlt,by rw [h4];exact h3,fun i hi=>by simpa using h5 i hi⟩
   obtain ⟨y,hjl,rfl⟩:=hjv;obtain ⟨e,h3,h4,h5⟩:=h2 j (q2q y.1,y.2) (by simp [hjl]);have hfind:=x1y ks es.toList l 0 hkeys;rw [hj] at hfind;have h3':es.toList[j]? = some e:=by simpa using h3
   simp only [h3',u6n,u6v] at hfind;have hrun:(execOp a.eval o).run P w = .ok (.value e.val) w:=by
    have hfk:(Instr.findKey kt (q2q ks) es.toList).run P w = .ok (some (0+j,e.val)) w:=by
     unfold Instr.findKey;rw [Sem.run_bind,run_underlying huk,Result.andThen_ok,hfind];rfl
    have hlk:(Instr.lookup t (.map (some bi.blk)) (q2q ks) false).run P w = .ok e.val w:=by
     unfold Instr.lookup;rw [Sem.run_bind,run_underlying hu,Result.andThen_ok];simp only [Sem.run_bind,q6j hh,Result.andThen_ok,Sem.run_pure,q5o huk,hfk];rfl
    simp only [execOp,hop,hxe,hkv,Sem.run_bind,hlk,Result.andThen_ok];rfl
   obtain ⟨sl,hK,hr'⟩:=hr.setD (.p h5) h;exact UK hrun ⟨σ,β,_,hK,hr',Later.refl _ _ _ _⟩
theorem z4x {α:Type} {l:List (List UInt8×α)} {k:List UInt8} {v:α} (h:(l.findIdx? fun x=>decide (k=x.1))=none):z4j l k v=l++[(k,v)]:=by
 induction l with
 | nil=>rfl
 | cons x r ih =>
   rw [findIdx?_cons] at h;by_cases hk:k=x.1
   ·simp [hk] at h
   ·simp [hk] at h;rw [z4j,if_neg hk,ih (by simpa using h)];rfl
theorem w7l {α:Type} {l:List (List UInt8×α)} {k:List UInt8} {v:α} {j:Nat} (h:(l.findIdx? fun x=>decide (k=x.1))=some j) : ∃ x,l[j]? = some x∧z4j l k v=l.set j (x.1,v):=by
 induction l generalizing j with
 | nil=>cases h
 | cons x r ih =>
   rw [findIdx?_cons] at h;by_cases hk:k=x.1
   ·simp [hk] at h;subst h;exact ⟨x,rfl,by rw [z4j,if_pos hk];rfl⟩
   ·simp [hk] at h;obtain ⟨j',h1,rfl⟩:=h;obtain ⟨y,h2,h3⟩:=ih h1;exact ⟨y,by simpa using h2,by rw [z4j,if_neg hk,h3];rfl⟩
theorem OpK.mapUpdate (hT:TabOK P T) {s:St} {o:Oper} {K:St->Prop} {t:TypeId} {x ix vx:Operand} (hop:o.op = .mapUpdate t x ix vx) (hdst:o.dst=none) {k:Nat} (hx:XX s.sl x = .ext k .map) {l:List (List UInt8×AV)} (hg:getH s.H k=some (.ext (v4f l)))
  {ks:List UInt8} (hk:XX s.sl ix = .p (.str ks)) {v:AV} (hvx:XX s.sl vx = .p v) {i ik:TyI} {kt et:TypeId} (ht:T.get t=some i) (hd:i.desc = .map kt et) (htk:T.get kt=some ik) (hdk:ik.desc = .string)
  (h:z3m s.H k (.ext (v4f (z4j l ks v))) fun H=>K ⟨s.sl,H⟩):OpK P N s o K:=by
 refine ⟨fun σ β a w hr Q => ?_⟩;have hx':=QY hr.slots x;have hk':=QY hr.slots ix;have hv':=QY hr.slots vx;rw [hx] at hx';rw [hk] at hk';rw [hvx] at hv';have hkv:=v2p hk';generalize hxe:a.eval x=xv at hx';generalize hve:a.eval vx=vv at hv';cases hv' with
 | p hvr =>
 cases hx' with
 | ext _ _ bi _ hbi hd' =>
   obtain rfl:xv = .map (some bi.blk):=hd';obtain ⟨bi',es,clock,hbi',hh,hbo,h1,h2⟩:=hr.heap.chunks k _ (QT hg);rw [hbi] at hbi';cases hbi';have hkeys:=q8w h1 h2;have hu:=hT.of ht;have huk:=hT.of htk;rw [hd] at hu;rw [hdk] at huk;have hfind:=x1y ks es.toList l 0 hkeys;have hlab:=XN hg;have hlt:=(hr.heap.apart k hlab bi hbi bi.blk bi.has_blk).2;obtain ⟨es',clock',hrun,hbo',hsz,hent⟩ : ∃ es' clock',(Instr.mapUpdate t (.map (some bi.blk)) (q2q ks) vv).run P w = .ok () { w with heap:=w.heap.setIfInBounds bi.blk (.map es' clock') }∧x1x es' clock'∧es'.size=(z4j l ks v).length ∧
     ∀ (m:Nat) (x:Value×AV),((z4j l ks v).map fun x=>(q2q x.1,x.2))[m]? = some x -> ∃ e:MapEntry,es'[m]? = some e∧e.key=x.1∧Rep σ x.2 e.val:=by
    cases hj:l.findIdx? fun x=>decide (ks=x.1) with
    | none =>
      rw [hj] at hfind;refine ⟨es.push { key:=q2q ks,val:=vv,born:=clock },clock+1,?_,z4o hbo rfl,?_,fun m y hy => ?_⟩
      ·have hfk:(Instr.findKey kt (q2q ks) es.toList).run P w = .ok none w:=by
        unfold Instr.findKey;rw [Sem.run_bind,run_underlying huk,Result.andThen_ok,hfind];rfl
       unfold Instr.mapUpdate;rw [Sem.run_bind,run_underlying hu,Result.andThen_ok];simp only [Sem.run_bind,q6j hh,Result.andThen_ok,Sem.run_pure,q5o huk,hfk,x6k _ hh]
      ·rw [z4x hj];simpa using h1
      ·rw [z4x hj] at hy;simp only [u3k] at h1;rw [u3t,u7k] at hy;split at hy
       ·rename_i hm;obtain ⟨e,h3,h4⟩:=h2 m y hy;simp only [u3k] at hm;exact ⟨e,by rw [Array.getElem?_push,if_neg (by omega)];exact h3,h4⟩
       ·rename_i hm;simp only [u3k] at hm hy;have hm0:m-l.length=0:=by
         have:=(u3e.1 hy).1;simp at this;omega
        rw [hm0] at hy;simp at hy;subst hy;exact ⟨{ key:=q2q ks,val:=vv,born:=clock },by rw [Array.getElem?_push,if_pos (by omega)],rfl,hvr⟩
    | some j =>
      rw [hj] at hfind;obtain ⟨y,hy1,hy2⟩:=w7l (v:=v) hj;obtain ⟨e,h3,h4,h5⟩:=h2 j (q2q y.1,y.2) (by simp [hy1]);have hky:ks=y.1:=by
       obtain ⟨hlt,h6,_⟩:=List.findIdx?_eq_some_iff_getElem.1 hj;rw [u3h hlt] at hy1;cases hy1;simpa using h6
      have h3':es.toList[j]? = some e:=by simpa using h3
      have hjlt:j<es.size:=(u4g.1 h3).1;simp only [h3',u6n,u6v,u5s] at hfind;have hek:e.key=q2q ks:=by rw [h4,hky]
      refine ⟨es.modify j fun e=>{ e with key:=q2q ks,val:=vv },clock,?_,x7b hbo j fun _=>rfl,?_,fun m z hz => ?_⟩
      ·have hfk:(Instr.findKey kt (q2q ks) es.toList).run P w = .ok (some (j,e.val)) w:=by
        unfold Instr.findKey;rw [Sem.run_bind,run_underlying huk,Result.andThen_ok,hfind];rfl
       have hkt:(Instr.keyThatStays (((es[j]?).map (·.key)).getD (q2q ks)) (q2q ks)).run P w = .ok (q2q ks) w:=by
        rw [h3];simp only [u6n,u6v,hek];unfold Instr.keyThatStays;have:Instr.sameBits 10000 (q2q ks) (q2q ks)=true:=by
         unfold q2q;show ((⟨ks.toArray⟩:ByteArray)==⟨ks.toArray⟩)=true;rw [z1y];simp
        rw [if_pos this];rfl
       unfold Instr.mapUpdate;rw [Sem.run_bind,run_underlying hu,Result.andThen_ok];simp only [Sem.run_bind,q6j hh,Result.andThen_ok,Sem.run_pure,q5o huk,hfk,hkt,x6k _ hh]
      ·rw [hy2];simpa using h1
      ·rw [hy2,u6k] at hz;by_cases hm:m=j
       ·subst hm;rw [u7d (by simp at h1 ⊢;omega)] at hz;cases hz;exact ⟨{ e with key:=q2q ks,val:=vv },by simp [u8q,h3],by rw [hky],hvr⟩
       ·rw [u7g (u8z hm)] at hz;obtain ⟨e',h6,h7⟩:=h2 m z hz;exact ⟨e',by rw [u8q,if_neg (u8z hm)];exact h6,h7⟩
   have hrun':(execOp a.eval o).run P w = .ok .skip { w with heap:=w.heap.setIfInBounds bi.blk (.map es' clock') }:=by
    simp only [execOp,hop,hxe,hkv,hve,Sem.run_bind,hrun,Result.andThen_ok];rfl
   obtain ⟨H',hK,h3,h4,h5⟩:=ML hr.heap.nodup h;have hot : ∀ b,b≠bi.blk->({ w with heap:=w.heap.setIfInBounds bi.blk (.map es' clock') }:World).heap[b]? = w.heap[b]? := fun b hb=>u8u (u8z hb);have hheap:HRel σ β H' { w with heap:=w.heap.setIfInBounds bi.blk (.map es' clock') }:=by
    refine ⟨fun b c hb => ?_,fun j c hj => ?_,by rw [h3];exact hr.heap.nodup,fun j hj i' hi' b hb => ?_,fun j hj j' hj'=>hr.heap.inj j (h3▸hj) j' (h3▸hj')⟩
    ·obtain ⟨e,fr,h6⟩:=hr.heap.mem b c hb;exact ⟨e,fr,(hot b fun he=>by rw [he,hh] at h6;cases h6).trans h6⟩
    ·by_cases hjk:j=k
     ·subst hjk;rw [h5 c hj];exact ⟨bi,es',clock',hbi,by simp [hlt],hbo',by simpa using hsz,hent⟩
     ·have hm:=h4 j c hj hjk;exact (hr.heap.chunks j c hm).mono (Mem.le_refl σ) fun i' hi' b hb=>hot b fun he=>hjk (hr.heap.inj j (u3s.2 ⟨_,hm,rfl⟩) k hlab i' bi hi' hbi b hb (.inl he.symm))
    ·have:=hr.heap.apart j (h3▸hj) i' hi' b hb;exact ⟨this.1,by simpa using this.2⟩
   refine z0q hrun' ⟨σ,β,⟨s.sl,H'⟩,hK,⟨?_,?_,?_,hheap⟩,Mem.le_refl σ,⟨rfl,rfl,rfl,u4j _,by simp,fun b _ hn=>hot b fun he=>hn ⟨k,hlab,bi,hbi,.inl he.symm⟩⟩,fun b h0 h1=>absurd h0 h1,fun b ⟨j,hj,r⟩ => .inl ⟨j,h3▸hj,r⟩,fun _ _ _=>rfl⟩
   ·rw [hdst];exact hr.size
   ·rw [hdst];exact hr.defers
   ·rw [hdst];exact hr.slots
end
def XS (nm:Str) (touched:List Str):List Arg->List Str->Bool
 | [],_=>true
 | a::r,seen=>bif a.ref then bif (seen.any fun s=>a.name==s)||((a.name==nm)||touched.any fun s=>a.name==s) then false else XS nm touched r (seen++[a.name]) else XS nm touched r seen
theorem z0o (t:S) (touched:List Str) (ha:t.args.length<=20000):SpecP prog 202 [.agg t.cells,eStrs touched] (fun r=>r = .bool (XS t.name touched t.args [])):=by
 refine sB x3m func202 rfl call202 ?_;conv=>whnf
 repeat' (refine iM fun _=>?_;conv=>whnf)
 have hl:(t.args.map fun a=>AV.agg a.cells).length=t.args.length:=u3k _;refine LoopK.inv QX (fun i:Nat×List Str=>⟨[(1,.p (eStrs touched)),(2,.p (.ip t.cells)),(5,.hd 0 0 i.2.length),(9,.p (.sl (t.args.map fun a => .agg a.cells))),(10,.p (.int .i64 (t.args.map fun a=>AV.agg a.cells).length)),(11,.p (.int .i64 i.1))],[(0,.own 9 1 (i.2.map .str))]⟩)
  (fun i=>i.1<=t.args.length∧i.2.length<=i.1∧XS t.name touched (t.args.drop i.1) i.2=XS t.name touched t.args []) (fun i=>t.args.length-i.1) (0,[])
  (Le.mk [(0,.own 9 1 [])] (by simp [Chunk.new0];rfl) (by simp) (by simp) (.cons (.refl _) (.cons (.refl _) (.cons (.nil u3g) (.cons (.refl _) (.cons (.refl _) (.cons (.refl _) .nil)))))) (.new u3g .nil))
  ⟨u3l _,u4j _,rfl⟩ ?_
 rintro ⟨j,acc⟩ ⟨h2,h3,h4⟩;simp only at h2 h3 h4 ⊢;rcases u3r j t.args.length with hj|hj
 ·rw [u4n hj,XS] at h4;conv=>whnf
  repeat' (first|((first|refine cP (QU _ _) ?_|refine u3d rfl ?_|refine aD ?_|refine bP ?_|(refine iA fun _=>?_)|refine wI ?_|(refine QD (QU acc (t.args[j]'hj).name) (.cons (.hd rfl (by simp)) (.cons (.p (Sub.refl _)) .nil)) (by rintro _ rfl;rfl) ?_;rintro _ rfl)|refine QH (by simp) (by simp;omega) ?_);conv=>whnf)|(apply bD<;>intro _<;>first|omega|conv=>whnf)|(apply bN<;>intro _<;>conv=>whnf)|(apply bB<;>intro _<;>conv=>whnf))
  all_goals first
   | exact RetK.ff (by rw [<- h4];simp [*])
   | exact ⟨(j+1,acc++[t.args[j].name]),⟨by simp only;omega,by simp;omega,by simp only;rw [<- h4];simp [*]⟩,by simp only;omega,Le.of_eq (by simp only [u3f,u3t];rfl)⟩
   | exact ⟨(j+1,acc),⟨by simp only;omega,by simp only;omega,by simp only;rw [<- h4];simp [*]⟩,by simp only;omega,Le.of_eq rfl⟩
 ·rw [u4z hj,XS] at h4;conv=>whnf
  repeat' (apply bD<;>intro _<;>first|omega|conv=>whnf)
  exact RetK.tt h4.symm
def FN (p:Pg):Int×Int :=
 if (UM p).1≠0 then (1,0) else match (VK p).find? fun t=>decide (t.kind=4) && !XS t.name (JY p t.proc) t.args [] with
  | some t=>(8,t.id)
  | none=>(0,0)
theorem w8b {p:Pg} (h:(UM p).1=0):(QO p).1=0∧(VK p).find? (fun t=>decide (t.kind=4) && !JW p t)=none:=by
 unfold UM at h;split at h
 ·cases h
 ·rename_i hs;refine ⟨by omega,?_⟩;split at h
  ·cases h
  ·assumption
theorem v1f {l:List (Str×AV)} {k:Str} {v:AV} {x:Str×AV} (h:x∈z4j l k v):x∈l∨x=(k,v):=by
 induction l with
 | nil=>rw [z4j] at h;exact .inr (by simpa using h)
 | cons y r ih =>
   rw [z4j] at h;split at h
   ·rename_i hk;rcases u3c.1 h with h|h
    ·exact .inr (by rw [h,hk])
    ·exact .inl (u3n _ h)
   ·rcases u3c.1 h with h|h
    ·exact .inl (by rw [h];exact u3g)
    ·exact (ih h).imp (u3n _) id
theorem v1h {l:List (Str×AV)} {k s:Str} {v:AV} (h:s=k ∨ ∃ x∈l,x.1=s) : ∃ x∈z4j l k v,x.1=s:=by
 induction l with
 | nil =>
   rcases h with rfl|⟨x,hx,_⟩
   ·exact ⟨(s,v),by rw [z4j];exact u3g,rfl⟩
   ·cases hx
 | cons y r ih =>
   rw [z4j];split
   ·rename_i hk;rcases h with rfl|⟨x,hx,rfl⟩
    ·exact ⟨(y.1,v),u3g,hk.symm⟩
    ·rcases u3c.1 hx with rfl|hx
     ·exact ⟨(x.1,v),u3g,rfl⟩
     ·exact ⟨x,u3n _ hx,rfl⟩
   ·rcases h with rfl|⟨x,hx,rfl⟩
    ·obtain ⟨z,hz,h3⟩:=ih (.inl rfl);exact ⟨z,u3n _ hz,h3⟩
    ·rcases u3c.1 hx with rfl|hx
     ·exact ⟨x,u3g,rfl⟩
     ·obtain ⟨z,hz,h3⟩:=ih (.inr ⟨x,hx,rfl⟩);exact ⟨z,u3n _ hz,h3⟩
theorem v3m {l:List (Str×AV)} {g:Str->AV} (h : ∀ x∈l,x.2=g x.1) {k:Str} (hk : ∃ x∈l,x.1=k):v7z l k=some (g k):=by
 unfold v7z;cases hf:l.find? fun x=>decide (k=x.1) with
 | none =>
   obtain ⟨x,hx,rfl⟩:=hk;have:=u6p.1 hf x hx;simp at this
 | some x =>
   have h1:=u5i hf;have h2:=u7y hf;simp at h2;simp [h x h1,h2]
theorem z4i (p:Pg) (hf:Fit p):SpecP prog 127 [.agg p.cells] (fun r=>r=NY (FN p).1 (FN p).2):=by
 refine sB x6t func127 rfl call127 ?_;conv=>whnf
 repeat' (first|((first|refine cP (x0o p hf) ?_|refine u3d rfl ?_);conv=>whnf)|(apply bE<;>intro _<;>first|omega|conv=>whnf))
 rotate_left 1
 ·have e:FN p=(1,0):=by unfold FN;rw [if_pos (by assumption)]
  exact QC (by rw [e]) (by rw [e])
 have hA:(UM p).1=0:=by assumption
 obtain ⟨hs,_⟩:=w8b hA;obtain ⟨hm,hb,hns⟩:=UY hs;obtain ⟨hg,hpl,hcn⟩:=ZM hm;have hl:(p.procs.map fun f=>AV.agg f.cells).length=p.procs.length:=u3k _;repeat' ((first|(refine iM fun _=>?_)|refine OpK.makeMap rfl ?_);conv=>whnf)
 refine LoopK.inv QX (fun i:Nat×List (Str×AV)=>⟨[(1,.p (.ip p.cells)),(2,.ptr 1 0),(3,.ext 0 .map),(15,.p (.sl (p.procs.map fun f => .agg f.cells))),(16,.p (.int .i64 (p.procs.map fun f=>AV.agg f.cells).length)),(17,.p (.int .i64 i.1))],[(0,.ext (v4f i.2)),(1,.obj 112 [.p (.int .i64 0),.p (.int .i64 0)])]⟩)
  (fun i=>i.1<=p.procs.length∧(∀ x∈i.2,x.2=eStrs (JY p x.1)) ∧ ∀ (m:Nat) (hm:m<p.procs.length),m<i.1 -> ∃ x∈i.2,x.1=p.procs[m].name) (fun i=>p.procs.length-i.1) (0,[])
  (Le.of_eq rfl) ⟨u3l _,by simp,by intro m hm h;omega⟩ ?_
 rintro ⟨j,l⟩ ⟨h2,h3,h4⟩;simp only at h2 h3 h4 ⊢;rcases u3r j p.procs.length with hj|hj
 ·have hn:p.procs[j].name∈procsN p:=u3s.2 ⟨_,u3i hj,rfl⟩;conv=>whnf
  repeat' (first|((first|refine cP (x9f p hf hs _ hn) ?_|refine dA ?_|refine u3d rfl ?_|(refine iA fun _=>?_)|refine wI ?_|refine OpK.mapUpdate QX rfl rfl rfl rfl rfl rfl rfl rfl rfl rfl ?_);conv=>whnf)|(apply bD<;>intro _<;>first|omega|conv=>whnf))
  refine ⟨(j+1,z4j l p.procs[j].name (eStrs (JY p p.procs[j].name))),⟨by simp only;omega,fun x hx => ?_,fun m hm h => ?_⟩,by simp only;omega,Le.of_eq rfl⟩
  ·rcases v1f hx with hx|rfl
   ·exact h3 x hx
   ·rfl
  ·refine v1h ?_;rcases u3r m j with hmj|hmj
   ·exact .inr (h4 m hm hmj)
   ·obtain rfl:m=j:=by simp only at h;omega
    exact .inl rfl
 have hgm : ∀ n∈procsN p,v7z l n=some (eStrs (JY p n)):=fun n hn=>v3m (g:=fun n=>eStrs (JY p n)) h3 (by
  obtain ⟨f,hf1,rfl⟩:=u3s.1 hn;obtain ⟨m,hm,rfl⟩:=List.getElem_of_mem hf1;exact h4 m hm (by omega))
 clear h3 h4;conv=>whnf
 repeat' (first|((first|(refine iM fun _=>?_)|(refine CallK.pure (MF p (by omega) (by omega)) (.cons (Sub.refl _) .nil) ?_;rintro _ rfl));conv=>whnf)|(apply bD<;>intro _<;>first|omega|conv=>whnf))
 have hA:FN p=match (VK p).find? fun t=>decide (t.kind=4) && !XS t.name (JY p t.proc) t.args [] with
  | some t=>(8,t.id)
  | none=>(0,0):=by unfold FN;rw [if_neg (by omega)]
 have hil:=UL (sheetOf p).l;have hib:(sheetOf p).l.length<=200:=by have:=(QJ p).2.2.2.1;omega
 have hfi:=MH (q:=fun t=>decide (t.kind=4) && !XS t.name (JY p t.proc) t.args []) (sheetOf p).l;rw [BK] at hfi;have hA2:FN p=match ((sheetOf p).l.find? fun it=>decide (it.s.kind=4) && !XS it.s.name (JY p it.s.proc) it.s.args []).map (fun it=>it.s.id) with
  | some a=>(8,a)
  | none=>(0,0):=by
  rw [hA,hfi];cases (VK p).find? fun t=>decide (t.kind=4) && !XS t.name (JY p t.proc) t.args []<;>rfl
 rw [hA2];refine LoopK.inv QX (fun k:Nat=>⟨[(2,.ptr 1 0),(3,.ext 0 .map),(33,.p (YW (sheetOf p).l)),(34,.p (.int .i64 ((sheetOf p).l.map fun i=>AV.agg i.cells).length)),(35,.p (.int .i64 k))],[(0,.ext (v4f l)),(1,.obj 112 [.p (.int .i64 0),.p (.int .i64 0)])]⟩)
  (fun k=>k<=(sheetOf p).l.length∧((sheetOf p).l.drop k).find? (fun it=>decide (it.s.kind=4) && !XS it.s.name (JY p it.s.proc) it.s.args [])=(sheetOf p).l.find? fun it=>decide (it.s.kind=4) && !XS it.s.name (JY p it.s.proc) it.s.args []) (fun k=>(sheetOf p).l.length-k) 0 (Le.of_eq rfl) ⟨u3l _,rfl⟩ ?_
 rintro k ⟨h5,h6⟩;rcases u3r k (sheetOf p).l.length with hk|hk;rotate_left 1
 ·rw [<- h6,HV hk];conv=>whnf
  repeat' (first|(refine u3d rfl ?_;conv=>whnf)|(apply bD<;>intro _<;>first|omega|conv=>whnf))
  exact QC rfl rfl
 have hw:=w2w hf hk;have hna:(sheetOf p).l[k].s.args.length<=20000:=by
  have:=x9r (sheetOf p).l[k].s;have:=GP (sheetOf p).l[k].s.args;omega
 have hpc:(sheetOf p).l[k].s.kind=4->(sheetOf p).l[k].s.proc∈procsN p:=fun hk4=>by
  have hmm:(sheetOf p).l[k].s∈VK p:=by
   rw [<- BK];exact u3s.2 ⟨_,u3i hk,rfl⟩
  unfold VK at hmm;obtain ⟨f,hf1,hf2⟩:=u4o.1 hmm;exact (q7q hs hf1 hf2 hk4).1
 conv=>whnf
 repeat' (first|((first|refine cP (z0o _ _ hna) ?_|refine u3d rfl ?_|(refine iA fun _=>?_)|refine wI ?_|refine OpK.lookup QX rfl rfl rfl rfl rfl rfl rfl rfl (hgm _ (hpc (by omega))) ?_);conv=>whnf)|(apply bD<;>intro _<;>first|omega|conv=>whnf)|(apply bN<;>intro _<;>conv=>whnf))
 all_goals first
  | (have e3:=HU (p:=fun it:Item=>decide (it.s.kind=4) && !XS it.s.name (JY p it.s.proc) it.s.args []) hk (by simp [*])
     rw [<- h6,e3];exact QC rfl rfl)
  | exact ⟨k+1,⟨by omega,by rw [<- h6,NJ (p:=fun it:Item=>decide (it.s.kind=4) && !XS it.s.name (JY p it.s.proc) it.s.args []) hk (by simp [*])]⟩,by omega,Le.of_eq rfl⟩
def v3v (p:Pg):Int×Int :=
 if UB p=false then (1,0) else
 if (QO p).1≠0 then QO p else
 if (UM p).1≠0 then UM p else
 if (LE p).1≠0 then LE p else FN p
theorem w3f (p:Pg) (hf:Fit p):SpecP prog 73 [.agg p.cells] (fun r=>r=NY (v3v p).1 (v3v p).2):=by
 refine sB z4h func73 rfl call73 ?_;conv=>whnf
 repeat' (first|((first|refine cP (z9c _) ?_|refine cP (GF p hf) ?_|refine cP (x0o p hf) ?_|refine cP (w1y p hf) ?_|refine cP (z4i p hf) ?_|refine u3d rfl ?_);conv=>whnf)|(apply bD<;>intro _<;>first|omega|conv=>whnf)|(apply bN<;>intro _<;>conv=>whnf))
 all_goals exact QC (by unfold v3v;simp [*]) (by unfold v3v;simp [*])
def QM (p:Pg):Bool:=decide ((v3v p).1=0)
theorem z1g (p:Pg) (hf:Fit p):SpecP prog 17 [.agg p.cells] (fun r=>r = .bool (QM p)):=by
 refine sB z4f func17 rfl call17 ?_;conv=>whnf
 repeat' (refine cP (w3f p hf) ?_;conv=>whnf)
 exact RetK.bool rfl
def ZD (x:Int):Int:=if x = -1 then 9223372036854775807 else x
theorem w4x (x:Int):SpecP prog 165 [.int .i64 x] (fun r=>r = .int .i64 (ZD x)):=by
 refine sB z4d func165 rfl call165 ?_;conv=>whnf
 repeat' (apply bD<;>intro _<;>first|omega|conv=>whnf)
 all_goals exact RetK.int (by unfold ZD;simp [*])
theorem x3s (x:Int):SpecP prog 236 [.int .i64 x] (fun r=>r = .bool false):=by
 refine sB q8r func236 rfl call236 ?_;conv=>whnf
 skip
 exact RetK.bool (by simp)
def z7g (x y:Int):Int:=if x<y then -1 else if y<x then 1 else 0
theorem q8i (x y:Int):SpecP prog 164 [.int .i64 x,.int .i64 y] (fun r=>r = .int .i64 (z7g x y)):=by
 refine sB q2f func164 rfl call164 ?_;conv=>whnf
 repeat' (first|(refine cP (x3s _) ?_;conv=>whnf)|(apply bD<;>intro _<;>first|omega|conv=>whnf)|(apply bB<;>intro _<;>conv=>whnf))
 all_goals first
  | contradiction
  | exact RetK.int (by unfold z7g;simp [*])
  | exact RetK.int (by unfold z7g;rw [if_neg (by assumption),if_pos (by omega)])
  | exact RetK.int (by unfold z7g;rw [if_neg (by assumption),if_neg (by omega)])
def orI:List Int->Int
 | []=>0
 | a::r=>if a=0 then orI r else a
theorem z5x (l:List Int):SpecP prog 163 [QR l] (fun r=>r = .int .i64 (orI l)):=by
 refine sB x6c func163 rfl call163 ?_;conv=>whnf
 repeat' (refine iM fun _=>?_;conv=>whnf)
 have hl:(l.map (AV.int .i64)).length=l.length:=u3k _;refine LoopK.inv QX (fun j:Nat=>⟨[(3,.p (.int .i64 0)),(6,.p (QR l)),(7,.p (.int .i64 (l.map (AV.int .i64)).length)),(8,.p (.int .i64 j))],[]⟩) (fun j=>j<=l.length∧orI (l.drop j)=orI l) (fun j=>l.length-j) 0 (Le.of_eq rfl) ⟨u3l _,rfl⟩ ?_;rintro j ⟨h2,h3⟩;rcases u3r j l.length with hj|hj
 ·rw [u4n hj,orI] at h3;conv=>whnf
  repeat' (first|((first|(refine iA fun _=>?_)|refine wI ?_);conv=>whnf)|(apply bD<;>intro _<;>first|omega|conv=>whnf)|(apply bE<;>intro _<;>first|omega|conv=>whnf))
  all_goals first
   | exact RetK.int (by rw [<- h3,if_neg (by assumption)])
   | exact ⟨j+1,⟨by omega,by rw [<- h3,if_pos (by assumption)]⟩,by omega,Le.of_eq rfl⟩
   | exact ⟨j+1,⟨by omega,by rw [<- h3,if_pos (by simp_all)]⟩,by omega,Le.of_eq rfl⟩
 ·rw [u4z hj,orI] at h3;conv=>whnf
  repeat' (apply bD<;>intro _<;>first|omega|conv=>whnf)
  exact RetK.int h3
def x4x (l:List S) (o:Int):Int:=match l with
 | []=>o
 | t::_=>t.id
theorem w4z (l:List S) (o:Int):SpecP prog 318 [.sl (l.map fun t => .agg t.cells),.int .i64 o] (fun r=>r = .int .i64 (x4x l o)):=by
 refine sB z4p func318 rfl call318 ?_;conv=>whnf
 repeat' (first|(refine iM fun _=>?_;conv=>whnf)|(apply bD<;>intro _<;>first|omega|conv=>whnf))
 ·cases l with
  | nil=>simp at *
  | cons t r =>
    refine IdxK.at (k:=0) rfl rfl rfl ?_;exact RetK.int rfl
 ·cases l with
  | nil=>exact RetK.int rfl
  | cons t r=>simp at *
def ZO (a b:Step):Bool:=decide (a.src=b.src)&&decide (a.dst=b.dst)
theorem x1p (a b:Step):SpecP prog 294 [.agg a.cells,.agg b.cells] (fun r=>r = .bool (ZO a b)):=by
 refine sB x6e func294 rfl call294 ?_;conv=>whnf
 repeat' (apply bD<;>intro _<;>first|omega|conv=>whnf)
 all_goals first
  | exact RetK.bool (show (a.dst==b.dst)=ZO a b by unfold ZO;simp [*];rfl)
  | exact RetK.ff (by unfold ZO;simp [*])
def z6d (a b:Step):Int:=orI [z7g (ZD a.src) (ZD b.src),z7g (ZD a.dst) (ZD b.dst),z7g a.kind b.kind]
theorem z5u (a b:Step):SpecP prog 292 [.agg a.cells,.agg b.cells] (fun r=>r = .int .i64 (z6d a b)):=by
 refine sB x6a func292 rfl call292 ?_;conv=>whnf
 repeat' ((first|refine cP (w4x _) ?_|refine cP (q8i _ _) ?_|refine cP (z5x [z7g (ZD a.src) (ZD b.src),z7g (ZD a.dst) (ZD b.dst),z7g a.kind b.kind]) ?_|refine dA ?_|refine u3d rfl ?_|refine aD ?_|refine BsK.pureL rfl rfl ?_);conv=>whnf)
 exact RetK.int rfl
end Go.Ab
