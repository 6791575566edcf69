/- The library's contracts on rows, as contracts on rows of the caller's own: slices.BinarySearch, slices.Insert at int. Conditions: the rows' lengths. -/
import Derived.Test.YtneccajakpeodaaGreatCdepA11
set_option linter.unusedSimpArgs false
set_option linter.unusedVariables false
set_option maxRecDepth 100000
set_option maxHeartbeats 16000000
namespace Go.Ab
open Go.Proofs Go.Sort
theorem Frm.trans {B:Nat→Prop} {w w' w'':World} (h:Frm B w w') (k:Frm B w' w''):Frm B w w'' :=
 ⟨k.os.trans h.os,k.tape.trans h.tape,k.output.trans h.output,Nat.le_trans h.drawn k.drawn,Nat.le_trans h.size k.size,fun j hj hn=>(k.block j (Nat.lt_of_lt_of_le hj h.size) hn).trans (h.block j hj hn)⟩
theorem Frm.weak {B B':Nat→Prop} {w w':World} (h:Frm B w w') (hB : ∀ k,B k→B' k):Frm B' w w' :=
 ⟨h.os,h.tape,h.output,h.drawn,h.size,fun j hj hn=>h.block j hj fun hb=>hn (hB j hb)⟩
theorem Frm.drewN (B:Nat→Prop) (w:World) (n:Nat):Frm B w (w.drewN n):=⟨rfl,rfl,rfl,Nat.le_add_right _ _,Nat.le_refl _,fun _ _ _=>rfl⟩
theorem z6k {σ:Mem} {β:Lab} {k:Nat} {c c':Chunk} {rest:Heap} {w w':World} {i:BInfo} (h:HRel σ β ((k,c)::rest) w) (hi:β k=some i) (hf:Frm (fun b=>b=i.blk) w w')
  (hnew:c'.holds σ β w' k):HRel σ β ((k,c')::rest) w'∧Later σ β ((k,c)::rest) w σ β ((k,c')::rest) w':=by
 have hap:=h.apart k (by simp) i hi
 have hkr : ∀ j∈rest.map (·.1),j≠k:=fun j hj he=>by
  have:=h.nodup
  simp only [List.map_cons,List.nodup_cons] at this
  exact this.1 (he▸hj)
 refine ⟨⟨fun b cs hb => ?_,fun j d hj => ?_,h.nodup,fun j hj i' hi' b hb => ?_,h.inj⟩,Mem.le_refl σ,⟨hf.os,hf.tape,hf.output,hf.drawn,hf.size,fun b hb hn=>hf.block b hb fun he=>hn ⟨k,by simp,i,hi,.inl he.symm⟩⟩,
  fun b h0 h1=>absurd h0 h1,fun b ho => .inl ho,fun _ _ _=>rfl⟩
 ·obtain ⟨e,fr,hh⟩:=h.mem b cs hb
  exact ⟨e,fr,(hf.block b (Array.getElem?_eq_some_iff.1 hh).1 fun he=>by rw [he,(hap _ i.has_blk).1] at hb;cases hb).trans hh⟩
 ·rcases List.mem_cons.1 hj with he|hj
  ·cases he
   exact hnew
  ·have hjm:j∈rest.map (·.1):=List.mem_map.2 ⟨_,hj,rfl⟩
   refine (h.chunks j d (List.mem_cons_of_mem _ hj)).mono (Mem.le_refl σ) fun i' hi' b hb=>hf.block b (h.apart j (List.mem_cons_of_mem _ hjm) i' hi' b hb).2 fun he => ?_
   exact hkr j hjm (h.inj j (List.mem_cons_of_mem _ hjm) k (by simp) i' i hi' hi b hb (.inl he.symm))
 ·have:=h.apart j hj i' hi' b hb
  exact ⟨this.1,Nat.lt_of_lt_of_le this.2 hf.size⟩
theorem w3k {σ:Mem} {β:Lab} {k:Nat} {c c':Chunk} {rest:Heap} {w w':World} {i':BInfo} (h:HRel σ β ((k,c)::rest) w) (hk:2000≤k) (hf:Frm (fun _=>False) w w') (hb:i'.blk=w.heap.size) (hs:i'.subs=[]) (hlt:w.heap.size<w'.heap.size)
  (hfree : ∀ j d,(j,d)∈rest→d.free k=true) (hnew:c'.holds σ (β.set k (some i')) w' k) :
  HRel σ (β.set k (some i')) ((k,c')::rest) w'∧Later σ β ((k,c)::rest) w σ (β.set k (some i')) ((k,c')::rest) w':=by
 have hkr : ∀ j∈rest.map (·.1),j≠k:=fun j hj he=>by
  have:=h.nodup
  simp only [List.map_cons,List.nodup_cons] at this
  exact this.1 (he▸hj)
 have hset : ∀ j,j≠k→(β.set k (some i')) j=β j:=fun j hj=>by simp [Lab.set,hj]
 have hsetk:(β.set k (some i')) k=some i':=by simp [Lab.set]
 have hhas : ∀ b,i'.has b→b=w.heap.size:=fun b hbb=>by
  rcases hbb with hbb|⟨_,hbb⟩
  ·rw [← hbb,hb]
  ·rw [hs] at hbb;cases hbb
 refine ⟨⟨fun b cs hb => ?_,fun j d hj => ?_,h.nodup,fun j hj i1 hi1 b hb => ?_,fun j hj j' hj' i1 i2 h1 h2 b hb1 hb2 => ?_⟩,Mem.le_refl σ,hf.weak fun _ h=>h.elim,
  fun b h0 h1=>absurd h0 h1,fun b ⟨j,hj,i1,h1,hb1⟩ => ?_,fun j h0 h1=>hset j (by omega)⟩
 ·obtain ⟨e,fr,hh⟩:=h.mem b cs hb
  exact ⟨e,fr,(hf.block b (Array.getElem?_eq_some_iff.1 hh).1 id).trans hh⟩
 ·rcases List.mem_cons.1 hj with he|hj
  ·cases he
   exact hnew
  ·have hjm:j∈rest.map (·.1):=List.mem_map.2 ⟨_,hj,rfl⟩
   exact ((h.chunks j d (List.mem_cons_of_mem _ hj)).mono (Mem.le_refl σ) fun i1 hi1 b hb=>hf.block b (h.apart j (List.mem_cons_of_mem _ hjm) i1 hi1 b hb).2 id).set _ (hkr j hjm) (hfree j d hj)
 ·by_cases hjk:j=k
  ·subst hjk
   rw [hsetk] at hi1;cases hi1
   have hbs:=hhas b hb
   refine ⟨?_,by omega⟩
   cases hσ:σ b with
   | none=>rfl
   | some cs =>
     obtain ⟨e,fr,hh⟩:=h.mem b cs hσ
     have:=(Array.getElem?_eq_some_iff.1 hh).1
     omega
  ·rw [hset j hjk] at hi1
   have:=h.apart j hj i1 hi1 b hb
   exact ⟨this.1,Nat.lt_of_lt_of_le this.2 hf.size⟩
 ·by_cases hjk:j=k<;>by_cases hjk':j'=k
  ·rw [hjk,hjk']
  ·subst hjk
   rw [hsetk] at h1;cases h1
   rw [hset j' hjk'] at h2
   have:=(h.apart j' hj' i2 h2 b hb2).2
   have:=hhas b hb1
   omega
  ·subst hjk'
   rw [hsetk] at h2;cases h2
   rw [hset j hjk] at h1
   have:=(h.apart j hj i1 h1 b hb1).2
   have:=hhas b hb2
   omega
  ·rw [hset j hjk] at h1
   rw [hset j' hjk'] at h2
   exact h.inj j hj j' hj' i1 i2 h1 h2 b hb1 hb2
 ·by_cases hjk:j=k
  ·subst hjk
   rw [hsetk] at h1;cases h1
   exact .inr (by rw [hhas b hb1];exact Nat.le_refl _)
  ·rw [hset j hjk] at h1
   exact .inl ⟨j,hj,i1,h1,hb1⟩
def w4c (cs:Array Value):Nat→List Value→Array Value
 | _,[]=>cs
 | o,v::r=>w4c (cs.setIfInBounds o v) (o+1) r
theorem VF : ∀ (vs:List Value) (cs:Array Value) (o:Nat),(w4c cs o vs).size=cs.size
 | [],_,_=>rfl
 | v::r,cs,o=>by rw [w4c,VF r];simp
theorem HJ : ∀ (vs:List Value) (cs:Array Value) (o j:Nat),o+vs.length≤cs.size→(w4c cs o vs)[j]? = if o≤j∧j<o+vs.length then vs[j-o]? else cs[j]?
 | [],cs,o,j,_=>by simp [w4c];intros;omega
 | v::r,cs,o,j,h=>by
   simp only [List.length_cons] at h
   rw [w4c,HJ r _ (o+1) j (by simp;omega)]
   simp only [List.length_cons]
   by_cases h1:j=o
   ·subst h1
    rw [if_neg (by omega),if_pos (by omega),Array.getElem?_setIfInBounds_self_of_lt (by omega)]
    simp
   ·by_cases h2:o+1≤j∧j<o+1+r.length
    ·rw [if_pos h2,if_pos (by omega),show j-o=(j-(o+1))+1 by omega]
     simp
    ·rw [if_neg h2,if_neg (by omega),Array.getElem?_setIfInBounds_ne (Ne.symm h1)]
theorem WW {b:Nat} {e:TypeId} : ∀ (vs:List Value) (o:Nat) {w:World} {cs:Array Value},w.heap[b]? = some (.cells cs e (0,0)) →
  (w.setCells b o vs).heap[b]? = some (.cells (w4c cs o vs) e (0,0))∧Frm (fun x=>x=b) w (w.setCells b o vs)
 | [],_,w,cs,h=>⟨h,Frm.refl _ _⟩
 | v::r,o,w,cs,h=>by
   have h1:(w.setCell ⟨b,o,none⟩ v).heap[b]? = some (.cells (cs.setIfInBounds o v) e (0,0)):=by
    simp [World.setCell,Array.getElem?_modify,h]
   have h2:Frm (fun x=>x=b) w (w.setCell ⟨b,o,none⟩ v):=⟨rfl,rfl,rfl,Nat.le_refl _,by simp [World.setCell],fun k _ hn=>by simp [World.setCell,Array.getElem?_modify,Ne.symm hn]⟩
   obtain ⟨h3,h4⟩:=WW r (o+1) h1
   exact ⟨h3,h2.trans h4⟩
theorem z2f {σ:Mem} {l:List Int} {vs:Array Value} (h : ∀ (m:Nat) (x:AV),(l.map (AV.int .i64))[m]? = some x→x.cells.length=1 ∧ ∀ (j:Nat) (c:AV),x.cells[j]? = some c → ∃ u:Value,vs[m*1+j]? = some u∧Rep σ c u) {j:Nat} (hj:j<l.length) :
  vs[j]? = some (.int .i64 l[j]):=by
 obtain ⟨u,h1,h2⟩:=(h j (.int .i64 l[j]) (by simp [hj])).2 0 (.int .i64 l[j]) rfl
 cases h2 with
 | int=>simpa using h1
theorem w1j {σ:Mem} {l:List Int} {vs:Array Value} (h : ∀ j (hj:j<l.length),vs[j]? = some (.int .i64 l[j])) : ∀ (m:Nat) (x:AV),(l.map (AV.int .i64))[m]? = some x→x.cells.length=1 ∧ ∀ (j:Nat) (c:AV),x.cells[j]? = some c → ∃ u:Value,vs[m*1+j]? = some u∧Rep σ c u:=by
 intro m x hx
 rw [List.getElem?_map] at hx
 cases hq:l[m]? with
 | none=>rw [hq] at hx;cases hx
 | some s =>
   rw [hq] at hx;cases hx
   obtain ⟨hm,rfl⟩:=List.getElem?_eq_some_iff.1 hq
   refine ⟨rfl,fun j c hj => ?_⟩
   have hj0:j=0:=by
    have:=(List.getElem?_eq_some_iff.1 hj).1
    simpa [AV.cells] using this
   subst hj0
   simp only [AV.cells,List.getElem?_cons_zero,Option.some.injEq] at hj
   subst hj
   exact ⟨_,by simpa using h m hm,.int _ _⟩
theorem w8p {vals:Array Value} {l l':LV} (h:vals.size=[l,l'].length) : ∃ v u,vals = #[v,u]:=by
 obtain ⟨vs⟩:=vals
 match vs,h with
 | [a,b],_=>exact ⟨a,b,rfl⟩
theorem v0z {vals:Array Value} {l l' l'':LV} (h:vals.size=[l,l',l''].length) : ∃ v u t,vals = #[v,u,t]:=by
 obtain ⟨vs⟩:=vals
 match vs,h with
 | [a,b,c],_=>exact ⟨a,b,c,rfl⟩
theorem w5s {σ:Mem} {β:Lab} {k:IntKind} {n:Int} {v:Value} (h:RepL σ β (.p (.int k n)) v):v = .int k n:=by
 cases h with
 | p h=>cases h;rfl
theorem Rep.tup2 {σ:Mem} {n:Int} {b:Bool}:Rep σ (.tup [.int .i64 n,.bool b]) (.tuple #[.int .i64 n,.bool b]) :=
 .tup _ _ (fun j=>(#[Value.int .i64 n,.bool b]).getD j undef) rfl (fun j c hj=>by
  match j,hj with
  | 0,_=>rfl
  | 1,_=>rfl) (fun j c hj=>by
  match j,hj with
  | 0,hj=>cases hj;exact .int _ _
  | 1,hj=>cases hj;exact .bool _)
theorem YZ (l:List Int) (x:Int) (hs:l.Pairwise (· ≤ ·)) (hlen:l.length≤1000000000) :
  SpecP Tryz.prog 299 [.sl (l.map (.int .i64)),.int .i64 x] (fun r=>r = .tup [.int .i64 (l.countP (· < x):Nat),.bool (l.contains x)]):=by
 refine ⟨Tryz.call299,fun σ w vals hn hv hw => ?_⟩
 obtain ⟨v,u,rfl⟩:=w8p (l := .p .und) (l' := .p .und) hn
 have hv1:Rep σ (.sl (l.map (.int .i64))) v:=by simpa using hv 0 _ rfl
 have hv2:Rep σ (.int .i64 x) u:=by simpa using hv 1 _ rfl
 obtain rfl:u = .int .i64 x:=by cases hv2;rfl
 have empty : ∀ a c,l=[]→Calls Tryz.prog 299 #[.slice a 0 c,.int .i64 x] w fun e w' => ∃ c u σ',e = .returned u∧c=AV.tup [.int .i64 (l.countP (· < x):Nat),.bool (l.contains x)]∧Rep σ' c u∧σ.le σ'∧σ'.lies w'∧Frm (fun _=>False) w w' ∧ ∀ b,σ b=none→σ' b≠none→w.heap.size≤b:=by
  intro a c hl
  subst hl
  have hc:=Any.slices_BinarySearch_int_empty Tryz.laysB a c x w
  change Calls Tryz.prog 299 _ _ _ at hc
  refine hc.mono ?_
  rintro e w' ⟨rfl,rfl⟩
  exact ⟨_,_,σ,rfl,rfl,Rep.tup2,Mem.le_refl σ,hw,Frm.refl _ _,fun b h h'=>absurd h h'⟩
 generalize hes:l.map (AV.int .i64)=es at hv1
 cases hv1 with
 | nilsl=>exact empty _ _ (by simpa using hes)
 | slz b=>exact empty _ _ (by simpa using hes)
 | sl _ b off cap sz cells ug hb hcap hmax hsz hc hr =>
   subst hes
   by_cases hl:l=[]
   ·have:=empty (some ⟨b,off,none⟩) cap hl
    subst hl
    exact this
   ·have hl0:0<l.length:=List.length_pos_iff.2 hl
    have hsz1:sz=1:=(hsz 0 (.int .i64 l[0]) (by simp [hl0])).symm
    subst hsz1
    obtain ⟨e,fr,hh⟩:=hw b cells hb
    rw [List.length_map]
    have hcc:=Any.slices_BinarySearch_int Tryz.laysB b off l.length cap l x w (Nat.le_refl _) (by omega) (fun j hj=>by
     have h1:=hc j (.int .i64 l[j]) 0 (.int .i64 l[j]) (by simp [hj]) rfl
     have h2:=hr j (.int .i64 l[j]) 0 (.int .i64 l[j]) (by simp [hj]) rfl
     rw [show w.cell? ⟨b,off+j,none⟩=cells[off+j]? by simp [World.cell?,hh]]
     simp only [Nat.mul_one,Nat.add_zero] at h1
     rw [h1]
     generalize ug j 0=z at h2
     cases h2
     simp [hj]) (by rw [List.take_length];exact hs)
    change Calls Tryz.prog 299 _ _ _ at hcc
    refine hcc.mono ?_
    rintro e w' ⟨rfl,q,rfl⟩
    rw [List.take_length]
    exact ⟨_,_,σ,rfl,rfl,Rep.tup2,Mem.le_refl σ,hw,Frm.drewN _ w q,fun b h h'=>absurd h h'⟩
def q4q (l:List Int) (k:Nat) (x:Int):List Int:=l.take k++x::l.drop k
theorem q5x {l:List Int} {k:Nat} {x:Int} (h:k≤l.length):(q4q l k x).length=l.length+1:=by simp [q4q];omega
theorem q5z {l:List Int} {k j:Nat} {x:Int} (h:k≤l.length):(q4q l k x)[j]? = if j<k then l[j]? else if j=k then some x else l[j-1]? := by
 unfold q4q
 rw [List.getElem?_append]
 simp only [List.length_take,Nat.min_eq_left h]
 by_cases h1:j<k
 ·rw [if_pos h1,if_pos h1,List.getElem?_take_of_lt h1]
 ·rw [if_neg h1,if_neg h1]
  by_cases h2:j=k
  ·subst h2;simp
  ·rw [if_neg h2,show j-k=(j-1-k)+1 by omega,List.getElem?_cons_succ,List.getElem?_drop]
   congr 1;omega
theorem x7y {σ:Mem} {l:List Int} {vs:Array Value} (h : ∀ j,j<l.length→vs[j]? = (l[j]?).map (Value.int .i64)) : ∀ (m:Nat) (x:AV),(l.map (AV.int .i64))[m]? = some x→x.cells.length=1 ∧ ∀ (j:Nat) (c:AV),x.cells[j]? = some c → ∃ u:Value,vs[m*1+j]? = some u∧Rep σ c u :=
 w1j fun j hj=>by rw [h j hj,List.getElem?_eq_getElem hj];rfl
theorem Frm.new {w w':World} (h:Frm (fun x=>x=w.heap.size) w w'):Frm (fun _=>False) w w' :=
 ⟨h.os,h.tape,h.output,h.drawn,h.size,fun k hk _=>h.block k hk (by omega)⟩
theorem q7h (w:World) (o:Obj) (B:Nat→Prop):Frm B w (w.alloc o):=⟨rfl,rfl,rfl,Nat.le_refl _,show w.heap.size≤(w.heap.push o).size by simp,fun k hk _=>heap_alloc_old w o hk⟩
theorem x5v {w:World} {b:Nat} {vs:Array Value} {e:TypeId} (h:w.heap[b]? = some (.cells vs e (0,0))):w.shape? b=some (e,vs.size):=by
 simp [World.shape?,h]
theorem q7d (n:Nat):(Builtin.zeroCells (Value.int .i64 0).cells n).size=n:=by
 rw [size_zeroCells]
 exact Nat.mul_one n
theorem q1p (l:List Int) (k:Nat) (x:Int) (hk:k≤l.length) (hlen:l.length≤1000000000) :
  SpecH Tryz.prog 300 [.hd 2000 0 l.length,.p (.int .i64 k),.hd 1000 0 1] [(2000,.own 3 1 (l.map (.int .i64))),(1000,.own 3 1 [.int .i64 x])]
   (fun r H=>r = .hd 2000 0 (l.length+1)∧H=[(2000,.own 3 1 ((q4q l k x).map (.int .i64))),(1000,.own 3 1 [.int .i64 x])]):=by
 refine ⟨Tryz.call300,fun σ β w vals hn hv hH => ?_⟩
 obtain ⟨v,u,t,rfl⟩:=v0z hn
 have hv1:RepL σ β (.hd 2000 0 l.length) v:=by simpa using hv 0 _ rfl
 have hv2:RepL σ β (.p (.int .i64 k)) u:=by simpa using hv 1 _ rfl
 have hv3:RepL σ β (.hd 1000 0 1) t:=by simpa using hv 2 _ rfl
 cases w5s hv2
 have hil:=q5x (x:=x) hk
 obtain ⟨cs,hcs⟩ : ∃ cs,cs=l.map (Value.int .i64):=⟨_,rfl⟩
 have hcl:cs.length=l.length:=by rw [hcs];simp
 have hcg : ∀ j:Nat,cs[j]? = (l[j]?).map (Value.int .i64):=fun j=>by rw [hcs];simp
 have h1c : ∀ v∈cs,v.oneCell'=true:=fun v hv=>by
  rw [hcs] at hv
  obtain ⟨z,_,rfl⟩:=List.mem_map.1 hv
  rfl
 have h1v : ∀ v∈[Value.int .i64 x],v.oneCell'=true:=fun v hv=>by
  rcases List.mem_singleton.1 hv with rfl
  rfl
 have hch1:(Chunk.own 3 1 [.int .i64 x]).holds σ β w 1000:=hH.chunks 1000 _ (List.mem_cons_of_mem _ List.mem_cons_self)
 rcases hch1 with ⟨_,hes⟩|⟨iv,vv,hiv,hszv,hhv,hv5,hv6,hv7,hv8⟩
 ·cases hes
 have hte:=x4n hv3 hiv
 subst hte
 have hvx:vv[0]? = some (.int .i64 x):=by
  have:=z2f (σ:=σ) (l:=[x]) hv8 (j:=0) (by simp)
  simpa using this
 have hvs : ∀ j v,[Value.int .i64 x][j]? = some v→w.cell? ⟨iv.blk,0+j,none⟩=some v:=fun j v hj=>by
  rw [HL hhv]
  match j,hj with
  | 0,hj=>cases hj;simpa using hvx
 have hv6':1≤iv.cap:=by simpa using hv6
 have hltv:=(hH.apart 1000 (by simp) iv hiv iv.blk iv.has_blk).2
 have grown : ∀ (w':World) (vs':Array Value) (cap:Nat),Frm (fun x=>x=w.heap.size) w w'→w'.heap[w.heap.size]? = some (.cells vs' 3 (0,0))→vs'.size=cap→l.length+1≤cap→cap≤maxLen →
   (∀ j,j<l.length+1→vs'[j]? = ((q4q l k x)[j]?).map (Value.int .i64)) →
   ∃ β',RepL σ β' (.hd 2000 0 (l.length+1)) (.slice (some ⟨w.heap.size,0,none⟩) (l.length+1) cap)∧HRel σ β' [(2000,.own 3 1 ((q4q l k x).map (.int .i64))),(1000,.own 3 1 [.int .i64 x])] w'∧Later σ β [(2000,.own 3 1 (l.map (.int .i64))),(1000,.own 3 1 [.int .i64 x])] w σ β' [(2000,.own 3 1 ((q4q l k x).map (.int .i64))),(1000,.own 3 1 [.int .i64 x])] w':=by
  intro w' vs' cap hf hb hsz hle hmax hget
  obtain ⟨hH',hL⟩:=w3k (c' := .own 3 1 ((q4q l k x).map (.int .i64))) (i':=⟨w.heap.size,cap,1,[],hmax⟩) hH (Nat.le_refl _) hf.new rfl rfl (Array.getElem?_eq_some_iff.1 hb).1 (fun j d hj=>by
   simp at hj;rw [hj.2];rfl) (.inr ⟨⟨w.heap.size,cap,1,[],hmax⟩,vs',by simp [Lab.set],rfl,hb,by simp [hsz],by simp [hil,hle],hmax,x7y fun j hj=>hget j (by omega)⟩)
  refine ⟨_,?_,hH',hL⟩
  have:=RepL.hd (σ:=σ) (β:=β.set 2000 (some ⟨w.heap.size,cap,1,[],hmax⟩)) 2000 0 (l.length+1) ⟨w.heap.size,cap,1,[],hmax⟩ 0 (by simp [Lab.set]) (by simpa using hle) (.inl (by simp))
  simpa using this
 rcases hH.chunks 2000 _ List.mem_cons_self with ⟨hb0,hes⟩|⟨i,vs,hi,hsz,hh,h2,h3,h4,h5⟩
 ·have hl0:l=[]:=by simpa using hes
  subst hl0
  obtain ⟨rfl,_⟩:=z0c hv1 hb0
  obtain rfl:k=0:=by simpa using hk
  have hc:=Any2.slices_Insert_int_end_grow Tryz.laysI none 0 0 iv.blk 0 1 iv.cap [] [.int .i64 x] w (by omega) (by omega) (by omega) (by omega) rfl rfl (fun _=>rfl) (fun _ h=>by cases h) hvs h1v
  change Calls Tryz.prog 300 _ _ _ at hc
  refine hc.mono ?_
  rintro e w' ⟨rfl,rfl⟩
  have hge:=grownCap_ge w (0+1) 0 (Tryz.laysI_ren.t 3)
  have hmx:=grownCap_le_maxLen w (0+1) 0 (Tryz.laysI_ren.t 3) (by unfold maxLen;omega)
  generalize grownCap w (0+1) 0 (Tryz.laysI_ren.t 3)=cap at hge hmx ⊢
  obtain ⟨A,hA⟩ : ∃ A,A=([]++[Value.int .i64 x]:List Value).toArray++Builtin.zeroCells (Value.int .i64 0).cells (cap-(0+1)):=⟨_,rfl⟩
  rw [← hA]
  obtain ⟨β',g1,g2,g3⟩:=grown _ A cap ((Frm.drewN _ w 1).trans (q7h _ _ _)) (heap_alloc_new w.drew _) (by rw [hA];simp [q7d];omega) hge hmx (fun j hj=>by
   have hj0:j=0:=by simpa using hj
   subst hj0
   rw [hA,Array.getElem?_append_left (by simp)]
   rfl)
  exact ⟨_,_,σ,β',_,rfl,⟨rfl,rfl⟩,g1,g2,g3⟩
 ·have hve:=x4n hv1 hi
  subst hve
  have hlt:=(hH.apart 2000 (by simp) i hi i.blk i.has_blk).2
  have hget:=fun j hj=>z2f (σ:=σ) (l:=l) h5 (j:=j) hj
  have hne:iv.blk≠i.blk:=fun he=>by
   have:=hH.inj 1000 (by simp) 2000 (by simp) iv i hiv hi iv.blk iv.has_blk (.inl he.symm)
   omega
  have hcap:l.length≤i.cap:=by simpa using h3
  have hvsz:vs.size=i.cap:=by simpa using h2
  have hgetc : ∀ j v,cs[j]? = some v→w.cell? ⟨i.blk,0+j,none⟩=some v:=fun j v hj=>by
   rw [hcg] at hj
   cases hq:l[j]? with
   | none=>rw [hq] at hj;cases hj
   | some z =>
     rw [hq] at hj;cases hj
     obtain ⟨hjl,rfl⟩:=List.getElem?_eq_some_iff.1 hq
     rw [HL hh,Nat.zero_add,hget j hjl]
  have placed : ∀ (w':World) (vs':Array Value),Frm (fun x=>x=i.blk) w w'→w'.heap[i.blk]? = some (.cells vs' 3 (0,0))→vs'.size=i.cap→l.length+1≤i.cap →
    (∀ j,j<l.length+1→vs'[j]? = ((q4q l k x)[j]?).map (Value.int .i64)) →
    RepL σ β (.hd 2000 0 (l.length+1)) (.slice (some ⟨i.blk,0,none⟩) (l.length+1) i.cap)∧HRel σ β [(2000,.own 3 1 ((q4q l k x).map (.int .i64))),(1000,.own 3 1 [.int .i64 x])] w'∧Later σ β [(2000,.own 3 1 (l.map (.int .i64))),(1000,.own 3 1 [.int .i64 x])] w σ β [(2000,.own 3 1 ((q4q l k x).map (.int .i64))),(1000,.own 3 1 [.int .i64 x])] w':=by
   intro w' vs' hf hb hsz' hle hget'
   obtain ⟨hH',hL⟩:=z6k (c' := .own 3 1 ((q4q l k x).map (.int .i64))) hH hi hf (.inr ⟨i,vs',hi,hsz,hb,by simp [hsz'],by simp [hil,hle],h4,x7y fun j hj=>hget' j (by omega)⟩)
   refine ⟨?_,hH',hL⟩
   have:=RepL.hd (σ:=σ) (β:=β) 2000 0 (l.length+1) i 0 hi (by simpa using hle) (.inl (by simp))
   simpa using this
  by_cases hroom:l.length+1≤i.cap
  ·by_cases hkn:k<l.length
   ·have hc:=Any2.slices_Insert_int_shift Tryz.laysI i.blk 0 l.length i.cap k iv.blk 0 1 iv.cap cs [.int .i64 x] w hkn (by omega) hroom h4 hne hcl rfl hgetc
     (fun j hj=>by rw [HL hh,Nat.zero_add,Array.getElem?_eq_getElem (by omega)];rfl) (fun j hj=>UV hh _) hvs h1c h1v _ _ _ _ (x5v hhv) (x5v hh) (by omega) (UV hhv _) (UV hhv _)
    change Calls Tryz.prog 300 _ _ _ at hc
    refine hc.mono ?_
    rintro e w' ⟨rfl,rfl⟩
    obtain ⟨s1,s2⟩:=WW (cs.drop k) (0+(k+1)) (w:=w.drew) hh
    obtain ⟨s3,s4⟩:=WW [Value.int .i64 x] (0+k) s1
    have hdl:(cs.drop k).length=l.length-k:=by simp [hcl]
    obtain ⟨g1,g2,g3⟩:=placed _ _ (((Frm.drewN _ w 1).trans s2).trans s4) s3 (by rw [VF,VF,hvsz]) hroom (fun j hj=>by
     rw [HJ _ _ _ _ (by rw [VF];simp;omega),HJ _ _ _ _ (by rw [hdl];omega),q5z hk,hdl]
     simp only [Nat.zero_add,List.length_singleton]
     by_cases e1:j<k
     ·rw [if_neg (by omega),if_neg (by omega),if_pos e1,hget j (by omega),List.getElem?_eq_getElem (by omega)];rfl
     ·rw [if_neg e1]
      by_cases e2:j=k
      ·subst e2;rw [if_pos (by omega),if_pos rfl];simp
      ·rw [if_neg (by omega),if_pos (by omega),if_neg e2,List.getElem?_drop,hcg]
       congr 2;omega)
    exact ⟨_,_,σ,β,_,rfl,⟨rfl,rfl⟩,g1,g2,g3⟩
   ·obtain rfl:k=l.length:=by omega
    have hc:=Any2.slices_Insert_int_end_room Tryz.laysI i.blk 0 l.length i.cap iv.blk 0 1 iv.cap [.int .i64 x] w (by omega) hroom h4 rfl
     (fun j hj=>by rw [HL hh,Array.getElem?_eq_getElem (by omega)];rfl) (fun j hj=>UV hh _) hvs h1v
    change Calls Tryz.prog 300 _ _ _ at hc
    refine hc.mono ?_
    rintro e w' ⟨rfl,rfl⟩
    obtain ⟨s3,s4⟩:=WW [Value.int .i64 x] (0+l.length) hh
    obtain ⟨g1,g2,g3⟩:=placed _ _ s4 s3 (by rw [VF,hvsz]) hroom (fun j hj=>by
     rw [HJ _ _ _ _ (by simp;omega),q5z hk]
     simp only [Nat.zero_add,List.length_singleton]
     by_cases e1:j<l.length
     ·rw [if_neg (by omega),if_pos e1,hget j (by omega),List.getElem?_eq_getElem (by omega)];rfl
     ·obtain rfl:j=l.length:=by omega
      simp)
    exact ⟨_,_,σ,β,_,rfl,⟨rfl,rfl⟩,g1,g2,g3⟩
  ·by_cases hkn:k<l.length
   ·have hc:=Any2.slices_Insert_int_grow Tryz.laysI i.blk 0 l.length i.cap k iv.blk 0 1 iv.cap cs [.int .i64 x] w hkn (by omega) hcap (by omega) (by omega) hcl rfl hgetc hvs h1c h1v
    change Calls Tryz.prog 300 _ _ _ at hc
    refine hc.mono ?_
    rintro e w' ⟨rfl,rfl⟩
    have hge:=grownCap_ge w (l.length+1) i.cap (Tryz.laysI_ren.t 3)
    have hmx:=grownCap_le_maxLen w (l.length+1) i.cap (Tryz.laysI_ren.t 3) (by unfold maxLen;omega)
    generalize grownCap w (l.length+1) i.cap (Tryz.laysI_ren.t 3)=cap at hge hmx ⊢
    have hdl:(cs.drop k).length=l.length-k:=by simp [hcl]
    obtain ⟨A,hA⟩ : ∃ A,A=(cs.take k).toArray++Builtin.zeroCells (Value.int .i64 0).cells (l.length+1-k)++Builtin.zeroCells (Value.int .i64 0).cells (cap-(l.length+1)):=⟨_,rfl⟩
    have hAs:A.size=cap:=by rw [hA];simp [q7d,hcl];omega
    have hAg : ∀ j,j<k→A[j]? = (l[j]?).map (Value.int .i64):=fun j hj=>by
     rw [hA,Array.getElem?_append_left (by simp [hcl];omega),Array.getElem?_append_left (by simp [hcl];omega)]
     simp [hj,hcg]
    rw [← hA]
    have s0:(w.alloc (.cells A (Tryz.laysI_ren.t 3))).drew.heap[w.heap.size]? = some (.cells A 3 (0,0)):=heap_alloc_new w _
    obtain ⟨s1,s2⟩:=WW [Value.int .i64 x] k s0
    obtain ⟨s3,s4⟩:=WW (cs.drop k) (k+1) (w:=(((w.alloc (.cells A (Tryz.laysI_ren.t 3))).drew.setCells w.heap.size k [Value.int .i64 x]).drew)) s1
    obtain ⟨β',g1,g2,g3⟩:=grown _ _ cap ((((q7h w _ _).trans (Frm.drewN _ _ 1)).trans s2).trans ((Frm.drewN _ _ 1).trans s4)) s3 (by rw [VF,VF,hAs]) hge hmx (fun j hj=>by
     rw [HJ _ _ _ _ (by rw [VF];omega),HJ _ _ _ _ (by simp;omega),q5z hk,hdl]
     simp only [List.length_singleton]
     by_cases e1:j<k
     ·rw [if_neg (by omega),if_neg (by omega),if_pos e1,hAg j e1]
     ·rw [if_neg e1]
      by_cases e2:j=k
      ·subst e2;rw [if_neg (by omega),if_pos (by omega),if_pos rfl];simp
      ·rw [if_pos (by omega),if_neg e2,List.getElem?_drop,hcg]
       congr 2;omega)
    exact ⟨_,_,σ,β',_,rfl,⟨rfl,rfl⟩,g1,g2,g3⟩
   ·obtain rfl:k=l.length:=by omega
    have hc:=Any2.slices_Insert_int_end_grow Tryz.laysI (some ⟨i.blk,0,none⟩) l.length i.cap iv.blk 0 1 iv.cap cs [.int .i64 x] w (by omega) hcap (by omega) (by omega) hcl rfl (fun h=>by cases h) (fun a ha j v hj=>by
     cases ha
     rw [Addr.add_lit]
     exact hgetc j v hj) hvs h1v
    change Calls Tryz.prog 300 _ _ _ at hc
    refine hc.mono ?_
    rintro e w' ⟨rfl,rfl⟩
    have hge:=grownCap_ge w (l.length+1) i.cap (Tryz.laysI_ren.t 3)
    have hmx:=grownCap_le_maxLen w (l.length+1) i.cap (Tryz.laysI_ren.t 3) (by unfold maxLen;omega)
    generalize grownCap w (l.length+1) i.cap (Tryz.laysI_ren.t 3)=cap at hge hmx ⊢
    obtain ⟨A,hA⟩ : ∃ A,A=(cs++[Value.int .i64 x]).toArray++Builtin.zeroCells (Value.int .i64 0).cells (cap-(l.length+1)):=⟨_,rfl⟩
    rw [← hA]
    obtain ⟨β',g1,g2,g3⟩:=grown _ A cap ((Frm.drewN _ w 1).trans (q7h _ _ _)) (heap_alloc_new w.drew _) (by rw [hA];simp [q7d,hcl];omega) hge hmx (fun j hj=>by
     rw [hA,Array.getElem?_append_left (by simp [hcl];omega),q5z hk]
     simp only [List.getElem?_toArray,List.getElem?_append,hcl]
     by_cases e1:j<l.length
     ·rw [if_pos e1,if_pos e1,hcg]
     ·obtain rfl:j=l.length:=by omega
      simp)
    exact ⟨_,_,σ,β',_,rfl,⟨rfl,rfl⟩,g1,g2,g3⟩
open Go.Proofs
def avI (rows:List (List Int)):List (List AV):=rows.map fun r=>r.map (.int .i64)
def q3i (n:Nat) (N P:List (List Int)):Heap:=[(1000,.obj 213 [.hd 2001 0 n,.hd 2002 0 n]),(2001,.ext (.mat 36 3 1 (avI N) [])),(2002,.ext (.mat 36 3 1 (avI P) []))]
def WD (n:Nat) (a:Int):Bool:=decide (0≤a)&&decide (a<n)
theorem x3b (n:Nat) (N P:List (List Int)) (a:Int) :
  SpecH Tryz.prog 210 [.ptr 1000 0,.p (.int .i64 a)] (q3i n N P) (fun r H=>r = .p (.bool (WD n a))∧H=q3i n N P):=by
 refine SpecH.body GE QQ Tryz.func210 rfl Tryz.call210 (by show 2≤_;decide) ?_
 conv=>whnf
 repeat' (refine Br.dec (fun _=>?_) (fun _=>?_)<;>first|(exfalso;omega)|conv=>whnf)
 ·exact ⟨_,LSub.p (Sub.bool (by unfold WD;simp;omega)),rfl,rfl⟩
 ·exact ⟨_,LSub.p (Sub.ff (by unfold WD;simp;omega)),rfl,rfl⟩
def v1b (N:List (List Int)):Prop := ∀ r∈N,r.Pairwise (· ≤ ·)∧r.length≤100000000
def x0g (N:List (List Int)) (a:Nat) (b:Int):List (List Int):=N.set a (q4q (N.getD a []) ((N.getD a []).countP (· < b)) b)
theorem z5l {N:List (List Int)} {i:Nat} (hi:i<N.length) (b:Int):avI (x0g N i b)=(avI N).set i ((q4q N[i] (N[i].countP (· < b)) b).map (.int .i64)):=by
 unfold avI x0g
 rw [List.map_set]
 simp [hi]
theorem x5c (n:Nat) (N P:List (List Int)) (a b:Int) (hN:N.length=n) (hP:P.length=n) (hn:n≤5000) (sN:v1b N) (sP:v1b P) :
  SpecH Tryz.prog 275 [.ptr 1000 0,.p (.int .i64 a),.p (.int .i64 b)] (q3i n N P) (fun r H => ∃ t,r = .p (.bool t)∧H=q3i n
   (bif WD n a&&WD n b && !(N.getD a.toNat []).contains b then x0g N a.toNat b else N) (bif WD n a&&WD n b && !(N.getD a.toNat []).contains b then x0g P b.toNat a else P)):=by
 refine SpecH.body q2e QQ Tryz.func275 rfl Tryz.call275 (by show 3≤_;decide) ?_
 conv=>whnf
 repeat' (first|(refine And.intro rfl ?_;conv=>whnf)|(refine Br.n (fun _=>?_) (fun _=>?_)<;>conv=>whnf)|(refine CallK.heap [(1000,1000),(2001,2001),(2002,2002)] 0 (by repeat' (first|exact ArgsH.nil|refine ArgsH.cons ?_ ?_|exact LSub.refl _|exact LSub.p Sub.nils|exact LSub.p (Sub.tt rfl)|exact LSub.p (Sub.ff rfl)|exact LSub.p (Sub.int (by omega)))) (by refine BlksH.cons (j:=1000) rfl rfl ?_ ?_;exact CSub.refl _;refine BlksH.cons (j:=2001) rfl rfl ?_ ?_;exact CSub.refl _;refine BlksH.cons (j:=2002) rfl rfl ?_ ?_;exact CSub.refl _;exact BlksH.nil) (x3b n N P _) rfl rfl ?_;rintro l' H' ⟨rfl,rfl⟩;conv=>whnf))
 rotate_left 1
 ·exact ⟨_,LSub.p (Sub.ff rfl),false,rfl,by simp [*];rfl⟩
 ·exact ⟨_,LSub.p (Sub.ff rfl),false,rfl,by simp [*];rfl⟩
 have ha:0≤a∧a<n:=by rename_i h _;unfold WD at h;simpa using h
 have hb:0≤b∧b<n:=by rename_i h;unfold WD at h;simpa using h
 have hA:WD n a=true:=by assumption
 have hB:WD n b=true:=by assumption
 obtain ⟨i,rfl⟩ : ∃ i:Nat,a=i:=⟨a.toNat,by omega⟩
 obtain ⟨j,rfl⟩ : ∃ j:Nat,b=j:=⟨b.toNat,by omega⟩
 have hi:i<N.length:=by omega
 have hj:j<P.length:=by omega
 obtain ⟨sn1,sn2⟩:=sN _ (List.getElem_mem hi)
 obtain ⟨sp1,sp2⟩:=sP _ (List.getElem_mem hj)
 have hNi:(avI N)[i]? = some (N[i].map (.int .i64)):=by unfold avI;simp [hi]
 have hPj:(avI P)[j]? = some (P[j].map (.int .i64)):=by unfold avI;simp [hj]
 have gN:N.getD (i:Int).toNat []=N[i]:=by simp [hi]
 have gP:P.getD (j:Int).toNat []=P[j]:=by simp [hj]
 refine IdxL.mk i rfl (by omega) ?_
 conv=>whnf
 repeat' (first|(refine RowK.mk i _ (by omega) hNi (by simp) ?_;conv=>whnf)|(refine Br.b (fun _=>?_) (fun _=>?_)<;>conv=>whnf)|(refine CallK.borrow (YZ N[i] j sn1 (by omega)) (.cons (.row rfl hNi (by simp)) (.cons (.p (Sub.refl _)) .nil)) (by rintro _ rfl;rfl) ?_;rintro _ rfl;conv=>whnf))
 ·exact ⟨_,LSub.p (Sub.ff rfl),false,rfl,by rw [gN,hA,hB,show N[i].contains (j:Int)=true by assumption];rfl⟩
 have hcn:N[i].countP (· < (j:Int))≤N[i].length:=List.countP_le_length
 refine DrawK.join ⟨[(0,.ptr 1000 0),(1,.p (.int .i64 i)),(2,.p (.int .i64 j))],q3i n (x0g N i j) P⟩ ?_ ?_
 ·refine DrawK.of QQ mixed (.cons 13 true (.cons 0 false (.cons 1 false (.cons 2 false (.cons 4 false (.cons 5 false (.cons 6 false (.cons 7 false (.cons 9 false (.alo 8 (.alo 10 (.alo 11 (.alo 12 (.fork 3 (.cons 14 true (.cons 15 true (.cons 16 true (.cons 17 true .nil)))) 14 (.fork 3 (.cons 15 true (.cons 16 true (.cons 17 true .nil))) 15 (.cons 3 true (.cons 16 true (.cons 17 true .nil)))))))))))))))))) (by kernel_rfl) ?_
  conv=>whnf
  repeat' (first|((first|refine And.intro rfl ?_|(refine And.intro ⟨by decide,by decide⟩ ?_)|refine IdxL.mk i rfl (by omega) ?_|refine RowK.mk i _ (by omega) hNi (by simp) ?_|refine BsK.own (fun x hx=>by rcases List.mem_singleton.1 hx with rfl;rfl) rfl ?_|(refine OpK.stMat QQ rfl rfl rfl rfl rfl rfl rfl rfl rfl (by decide) i [] (by omega) (by unfold avI;rw [List.length_map];omega) (by rw [List.length_map,q5x hcn]) ⟨by simp,by simp,by simp⟩ ?_));conv=>whnf)|(refine CallK.focus 2001 i 1 rfl rfl hNi (by simp) rfl (.row (.cons rfl (.cons rfl .nil))) ?_;conv=>whnf)|(refine CallK.heap [(2000,1),(1000,0)] 0 (ArgsH.cons (LSub.of_eq (by rw [List.length_map];rfl)) (ArgsH.cons (LSub.refl _) (ArgsH.cons (LSub.refl _) ArgsH.nil))) (by refine BlksH.cons (j:=1) rfl rfl ?_ ?_;exact CSub.refl _;refine BlksH.cons (j:=0) rfl rfl ?_ ?_;exact CSub.refl _;exact BlksH.nil) (q1p N[i] (N[i].countP (· < (j:Int))) j hcn (by omega)) rfl rfl ?_;rintro l' H' ⟨rfl,rfl⟩;conv=>whnf)|(refine And.intro ?_ ?_<;>conv=>whnf))
  all_goals exact Le.of_eq (by unfold q3i;rw [z5l hi])
 conv=>whnf
 have hcp:P[j].countP (· < (i:Int))≤P[j].length:=List.countP_le_length
 repeat' (first|((first|refine And.intro rfl ?_|refine IdxL.mk j rfl (by omega) ?_|refine RowK.mk j _ (by omega) hPj (by simp) ?_);conv=>whnf)|(refine CallK.borrow (YZ P[j] i sp1 (by omega)) (.cons (.row rfl hPj (by simp)) (.cons (.p (Sub.refl _)) .nil)) (by rintro _ rfl;rfl) ?_;rintro _ rfl;conv=>whnf))
 refine DrawK.join ⟨[],q3i n (x0g N i j) (x0g P j i)⟩ ?_ ?_
 ·refine DrawK.of QQ mixed (.cons 13 true (.cons 0 false (.cons 1 false (.cons 2 false (.cons 4 false (.cons 5 false (.cons 6 false (.cons 7 false (.cons 9 false (.alo 8 (.alo 10 (.alo 11 (.alo 12 (.fork 3 (.cons 14 true (.cons 15 true (.cons 16 true (.cons 17 true .nil)))) 14 (.fork 3 (.cons 15 true (.cons 16 true (.cons 17 true .nil))) 15 (.cons 3 true (.cons 16 true (.cons 17 true .nil)))))))))))))))))) (by kernel_rfl) ?_
  conv=>whnf
  repeat' (first|((first|refine And.intro rfl ?_|(refine And.intro ⟨by decide,by decide⟩ ?_)|refine IdxL.mk j rfl (by omega) ?_|refine RowK.mk j _ (by omega) hPj (by simp) ?_|refine BsK.own (fun x hx=>by rcases List.mem_singleton.1 hx with rfl;rfl) rfl ?_|(refine OpK.stMat QQ rfl rfl rfl rfl rfl rfl rfl rfl rfl (by decide) j [] (by omega) (by unfold avI;rw [List.length_map];omega) (by rw [List.length_map,q5x hcp]) ⟨by simp,by simp,by simp⟩ ?_));conv=>whnf)|(refine CallK.focus 2002 j 1 rfl rfl hPj (by simp) rfl (.row (.cons rfl (.cons rfl .nil))) ?_;conv=>whnf)|(refine CallK.heap [(2000,1),(1000,0)] 0 (ArgsH.cons (LSub.of_eq (by rw [List.length_map];rfl)) (ArgsH.cons (LSub.refl _) (ArgsH.cons (LSub.refl _) ArgsH.nil))) (by refine BlksH.cons (j:=1) rfl rfl ?_ ?_;exact CSub.refl _;refine BlksH.cons (j:=0) rfl rfl ?_ ?_;exact CSub.refl _;exact BlksH.nil) (q1p P[j] (P[j].countP (· < (i:Int))) i hcp (by omega)) rfl rfl ?_;rintro l' H' ⟨rfl,rfl⟩;conv=>whnf)|(refine And.intro ?_ ?_<;>conv=>whnf))
  all_goals exact Le.of_eq (by unfold q3i;rw [z5l hj])
 conv=>whnf
 skip
 exact ⟨_,LSub.p (Sub.tt rfl),true,rfl,by rw [gN,hA,hB,show N[i].contains (j:Int)=false by assumption];rfl⟩
open Go.Proofs Go.Sort Go.RowKit Go.Lib
theorem Frm.grown {w w':World} (h:Frm (fun _=>False) w w') : ∃ q os,w'=grow (w.drewN q) os:=by
 obtain ⟨hh,ht,hd,ho,hp⟩:=w
 obtain ⟨hh',ht',hd',ho',hp'⟩:=w'
 obtain ⟨h1,h2,h3,h4,h5,h6⟩:=h
 simp only at h1 h2 h3 h4 h5 h6
 refine ⟨hd'-hd,hh'.extract hh.size hh'.size,?_⟩
 subst h1 h2 h3
 have e:hd+(hd'-hd)=hd':=by omega
 show World.mk hh' ht' hd' ho' hp'=World.mk (hh++hh'.extract hh.size hh'.size) ht' (hd+(hd'-hd)) ho' hp'
 rw [e]
 congr 1
 apply Array.ext
 ·simp;omega
 ·intro i hi1 hi2
  by_cases hi:i<hh.size
  ·have:=h6 i hi id
   rw [Array.getElem?_eq_getElem hi1,Array.getElem?_eq_getElem hi] at this
   rw [Array.getElem_append_left hi]
   exact Option.some.inj this
  ·rw [Array.getElem_append_right (by omega)]
   simp
   congr 1;omega
def FG (a b:Step):Bool:=decide (x9r a b<0)
theorem w5d (a b c:Int):orI [a,b,c]<0↔a<0∨a=0∧(b<0∨b=0∧c<0):=by
 by_cases h1:a=0<;>by_cases h2:b=0<;>by_cases h3:c=0<;>simp [orI,h1,h2,h3]
theorem BO (x y:Int):z0a x y<0↔x<y:=by
 unfold z0a
 split
 ·omega
 ·split<;>omega
theorem JU (x y:Int):z0a x y=0↔x=y:=by
 unfold z0a
 split
 ·omega
 ·split<;>omega
theorem z1h (a b:Step):x9r a b<0↔XE a.src<XE b.src∨XE a.src=XE b.src∧(XE a.dst<XE b.dst∨XE a.dst=XE b.dst∧a.kind<b.kind):=by
 unfold x9r
 rw [w5d,BO,BO,BO,JU,JU]
def okSt (s:Step):Prop:=s.src≠9223372036854775807∧s.dst≠9223372036854775807
abbrev OSt:={s:Step // okSt s}
instance:Inhabited OSt:=⟨⟨⟨0,0,0⟩,by constructor<;>decide⟩⟩
def cfO (a b:OSt):Int:=x9r a.1 b.1
theorem HX {x y:Int} (hx:x≠9223372036854775807) (hy:y≠9223372036854775807) (h:XE x=XE y):x=y:=by
 unfold XE at h
 split at h<;>split at h<;>omega
theorem w5v:SWO (ltOf cfO):=by
 refine ⟨fun x => ?_,fun x y z h1 h2 => ?_,fun x y z h1 h2 => ?_⟩
 all_goals
  unfold ltOf cfO at *
  simp only [decide_eq_true_eq,decide_eq_false_iff_not,z1h] at *
  omega
theorem w5o (x y:OSt) (h1:ltOf cfO x y=false) (h2:ltOf cfO y x=false):x=y:=by
 unfold ltOf cfO at *
 simp only [decide_eq_false_iff_not,z1h] at h1 h2
 obtain ⟨⟨a,b,c⟩,h3,h4⟩:=x
 obtain ⟨⟨d,e,f⟩,h5,h6⟩:=y
 simp only at *
 have e1:=HX (x:=a) (y:=d) h3 h5 (by omega)
 have e2:=HX (x:=b) (y:=e) h4 h6 (by omega)
 have e3:c=f:=by omega
 subst e1 e2 e3
 rfl
def x4u (s:OSt):List Value:=[.int .i64 s.1.src,.int .i64 s.1.dst,.int .i64 s.1.kind]
theorem q7u {σ:Mem} (s:OSt):Rep σ (.agg s.1.cells) (.agg (x4u s).toArray):=by
 refine .agg _ _ (fun j=>(x4u s).toArray.getD j undef) rfl (fun j c hj => ?_) (fun j c hj => ?_)
 ·match j,hj with
  | 0,_=>rfl
  | 1,_=>rfl
  | 2,_=>rfl
 ·match j,hj with
  | 0,hj=>cases hj;exact .int _ _
  | 1,hj=>cases hj;exact .int _ _
  | 2,hj=>cases hj;exact .int _ _
theorem w1b (W:World) (x y:OSt):Calls Tryz.prog 228 (#[.agg (x4u x).toArray,.agg (x4u y).toArray] ++ #[]) W fun e w'=>e = .returned (.int .i64 (cfO x y)) ∧ ∃ q os',w'=grow (W.drewN q) os':=by
 refine ((x9f x.1 y.1).ok (fun _=>none) W #[.agg (x4u x).toArray,.agg (x4u y).toArray] rfl (fun j c hj => ?_) (fun b c h=>by cases h)).mono ?_
 ·match j,hj with
  | 0,hj=>cases hj;exact q7u x
  | 1,hj=>cases hj;exact q7u y
 ·rintro e w' ⟨c,u,σ',rfl,rfl,hr,_,_,hf,_⟩
  cases hr
  exact ⟨rfl,hf.grown⟩
theorem z6r {σ:Mem} {l:List OSt} {vs:Array Value} (h : ∀ (m:Nat) (x:AV),(l.map fun s=>AV.agg s.1.cells)[m]? = some x→x.cells.length=3 ∧ ∀ (j:Nat) (c:AV),x.cells[j]? = some c → ∃ u:Value,vs[m*3+j]? = some u∧Rep σ c u) {m j:Nat} (hm:m<l.length) (hj:j<3) :
  vs[m*3+j]? = (x4u l[m])[j]? := by
 have h1:=(h m (.agg l[m].1.cells) (by simp [hm])).2
 match j,hj with
 | 0,_ =>
   obtain ⟨u,h2,h3⟩:=h1 0 (.int .i64 l[m].1.src) rfl
   cases h3;exact h2
 | 1,_ =>
   obtain ⟨u,h2,h3⟩:=h1 1 (.int .i64 l[m].1.dst) rfl
   cases h3;exact h2
 | 2,_ =>
   obtain ⟨u,h2,h3⟩:=h1 2 (.int .i64 l[m].1.kind) rfl
   cases h3;exact h2
theorem z7e {σ:Mem} {l:List OSt} {vs:Array Value} (h : ∀ (m:Nat) (hm:m<l.length) (j:Nat),j<3→vs[m*3+j]? = (x4u l[m])[j]?) : ∀ (m:Nat) (x:AV),(l.map fun s=>AV.agg s.1.cells)[m]? = some x→x.cells.length=3 ∧ ∀ (j:Nat) (c:AV),x.cells[j]? = some c → ∃ u:Value,vs[m*3+j]? = some u∧Rep σ c u:=by
 intro m x hx
 rw [List.getElem?_map] at hx
 cases hq:l[m]? with
 | none=>rw [hq] at hx;cases hx
 | some s =>
   rw [hq] at hx;cases hx
   obtain ⟨hm,rfl⟩:=List.getElem?_eq_some_iff.1 hq
   refine ⟨rfl,fun j c hj => ?_⟩
   match j,hj with
   | 0,hj=>cases hj;exact ⟨_,h m hm 0 (by omega),.int _ _⟩
   | 1,hj=>cases hj;exact ⟨_,h m hm 1 (by omega),.int _ _⟩
   | 2,hj=>cases hj;exact ⟨_,h m hm 2 (by omega),.int _ _⟩
theorem x6s {d:Array OSt} {t:Nat} (h:t<d.size*3):(flatK x4u 3 d)[t]? = (x4u (d[t / 3]'(by omega)))[t % 3]? := by
 have h1:=get_flatK x4u 3 d t h
 rw [getElem!_pos _ t (by simpa using h),getElem!_pos d (t / 3) (by omega)] at h1
 rw [Array.getElem?_eq_getElem (by simpa using h),h1]
 have h3:t % 3<(x4u (d[t / 3]'(by omega))).length:=by simp [x4u];omega
 rw [List.getElem?_eq_getElem h3,getElem!_pos (x4u (d[t / 3]'(by omega))) (t % 3) h3]
def YQ (l:List Step):List Step:=l.mergeSort fun x y => !FG y x
theorem q2o {l:List Step}:(YQ l).length=l.length:=by unfold YQ;simp
theorem q5r (l:List Step):(YQ l).Perm l:=List.mergeSort_perm _ _
theorem PW (l:List OSt) (hlen:l.length≤1000000000) :
  SpecH Tryz.prog 227 [.hd 1000 0 l.length,.p (.fn 228 [])] [(1000,.own 79 3 (l.map fun s => .agg s.1.cells))]
   (fun r H=>r = .p (.tup [])∧H=[(1000,.own 79 3 ((l.mergeSort fun x y => !(ltOf cfO) y x).map fun s => .agg s.1.cells))]):=by
 refine ⟨Tryz.call227,fun σ β w vals hn hv hH => ?_⟩
 obtain ⟨v,u,rfl⟩:=w8p hn
 have hv1:RepL σ β (.hd 1000 0 l.length) v:=by simpa using hv 0 _ rfl
 have hv2:RepL σ β (.p (.fn 228 [])) u:=by simpa using hv 1 _ rfl
 obtain rfl:u = .func (.func 228) #[] #[]:=by
  cases hv2 with
  | p h=>cases h with
    | fn _ _ vs u hn' hc hr =>
      obtain rfl:vs = #[]:=Array.size_eq_zero_iff.1 hn'
      rfl
 have hch:=hH.chunks 1000 _ List.mem_cons_self
 rcases hch with ⟨hb0,hes⟩|⟨i,vs,hi,hsz,hh,h2,h3,h4,h5⟩
 ·have hl0:l=[]:=List.map_eq_nil_iff.1 hes
  subst hl0
  obtain ⟨rfl,_⟩:=z0c hv1 hb0
  have hc:=AnyF.slices_SortFunc_none Tryz.laysF none 0 (.func (.func 228) #[] #[]) w
  change Calls Tryz.prog 227 _ _ _ at hc
  refine hc.mono ?_
  rintro e w' ⟨rfl,rfl⟩
  exact ⟨.p (.tup []),.tuple #[],σ,β,_,rfl,⟨rfl,rfl⟩,.p (.tup [] #[] (fun _=>undef) rfl (by simp) (by simp)),by simpa using hH,by simpa using Later.refl _ _ _ _⟩
 ·have hve:=x4n hv1 hi
  subst hve
  have hlt:=(hH.apart 1000 (by simp) i hi i.blk i.has_blk).2
  have hcap:l.length≤i.cap:=by simpa using h3
  have hle:l.length*3≤vs.size:=by rw [h2];omega
  have hget:=fun m j hm hj=>z6r (σ:=σ) (l:=l) h5 (m:=m) (j:=j) hm hj
  have hc:=AnyQ.slices_SortFunc_total Tryz.laysF 3 Tryz.isAgg79 Tryz.sizeOf79 x4u (fun _=>rfl) (fun x v hv=>by simp [x4u] at hv;rcases hv with rfl|rfl|rfl<;>rfl) cfO w5v 228 #[] i.blk 0 i.cap l.toArray w
   Tryz.call228 (fun m os dk _ x y=>w1b _ x y) (fun t ht=>by
    have ht':t<l.toArray.size*3:=by simpa using ht
    refine ⟨?_,UV hh _⟩
    have h6:=x6s ht'
    have h7:=hget (t / 3) (t % 3) (by simp at ht';omega) (by omega)
    rw [Nat.div_add_mod'] at h7
    rw [HL hh,Nat.zero_add,h7,getElem!_pos _ t (by simpa using ht')]
    rw [Array.getElem?_eq_getElem (by simpa using ht')] at h6
    simpa using h6.symm) hlt (by simp;omega) w5o
  simp only [List.size_toArray] at hc
  change Calls Tryz.prog 227 _ _ _ at hc
  refine hc.mono ?_
  rintro e w' ⟨rfl,n,os,rfl⟩
  generalize hS:(l.mergeSort fun x y => !(ltOf cfO) y x)=S
  have hSl:S.length=l.length:=by rw [← hS];simp
  obtain ⟨hf,hb⟩:=q1i (enc:=id) (n:=n) (os:=os) (d:=flatK x4u 3 S.toArray) hh hlt
  obtain ⟨hH',hL⟩:=x1h (c' := .own 79 3 (S.map fun s => .agg s.1.cells)) hH hi hf (.inr ⟨i,_,hi,hsz,hb,by rw [LT];exact h2,by simp [hSl];exact hcap,h4,z7e fun m hm j hj=>by
   have h6:=DV (enc:=id) (d:=flatK x4u 3 S.toArray) (vs:=vs) (by simp [hSl];omega) (k:=m*3+j) (by simp;omega)
   have h7:=x6s (d:=S.toArray) (t:=m*3+j) (by simp;omega)
   rw [Array.getElem?_eq_getElem (by simp;omega)] at h7
   rw [h6]
   simp only [id]
   rw [h7]
   simp [show (m*3+j) / 3=m by omega,show (m*3+j) % 3=j by omega]⟩)
  exact ⟨.p (.tup []),.tuple #[],σ,β,_,rfl,⟨rfl,rfl⟩,.p (.tup [] #[] (fun _=>undef) rfl (by simp) (by simp)),hH',hL⟩
theorem q5l (l:List Step) (hok : ∀ s∈l,okSt s) (hlen:l.length≤1000000000) :
  SpecH Tryz.prog 227 [.hd 1000 0 l.length,.p (.fn 228 [])] [(1000,.own 79 3 (l.map fun s => .agg s.cells))]
   (fun r H=>r = .p (.tup [])∧H=[(1000,.own 79 3 ((YQ l).map fun s => .agg s.cells))]):=by
 have h:=PW (l.attachWith okSt hok) (by simpa using hlen)
 have e1:((l.attachWith okSt hok).map fun s=>AV.agg s.1.cells)=l.map fun s=>AV.agg s.cells:=by
  have:=congrArg (List.map fun s:Step=>AV.agg s.cells) (List.attachWith_map_subtype_val (l:=l) (p:=okSt) hok)
  simp
 have e2:(((l.attachWith okSt hok).mergeSort fun x y => !(ltOf cfO) y x).map fun s=>AV.agg s.1.cells)=(YQ l).map fun s=>AV.agg s.cells:=by
  have h1:=List.map_mergeSort (l:=l.attachWith okSt hok) (f:=Subtype.val) (r:=fun x y => !(ltOf cfO) y x) (s:=fun x y => !FG y x) (fun a _ b _=>rfl)
  rw [List.attachWith_map_subtype_val] at h1
  unfold YQ
  rw [← h1,List.map_map]
  rfl
 rw [e1,e2] at h
 simpa using h
section
variable {P:Program} {T:Tab} {N:Nat}
theorem w6q {σ:Mem} {β:Lab} {k:Nat} {H H':Heap} {d:Chunk} {w w':World} {i:BInfo} (h:HRel σ β H w) (hk:k∈H.map (·.1)) (hi:β k=some i) (hf:Frm (fun b=>b=i.blk) w w')
  (h3:H'.map (·.1)=H.map (·.1)) (h4 : ∀ j c,(j,c)∈H'→j≠k→(j,c)∈H) (h5 : ∀ c,(k,c)∈H'→c=d) (hnew:d.holds σ β w' k):HRel σ β H' w'∧Later σ β H w σ β H' w':=by
 have hap:=h.apart k hk i hi
 refine ⟨⟨fun b cs hb => ?_,fun j c hj => ?_,by rw [h3];exact h.nodup,fun j hj i' hi' b hb => ?_,fun j hj j' hj'=>h.inj j (h3▸hj) j' (h3▸hj')⟩,Mem.le_refl σ,⟨hf.os,hf.tape,hf.output,hf.drawn,hf.size,fun b hb hn=>hf.block b hb fun he=>hn ⟨k,hk,i,hi,.inl he.symm⟩⟩,
  fun b h0 h1=>absurd h0 h1,fun b ⟨j,hj,r⟩ => .inl ⟨j,h3▸hj,r⟩,fun _ _ _=>rfl⟩
 ·obtain ⟨e,fr,hh⟩:=h.mem b cs hb
  exact ⟨e,fr,(hf.block b (Array.getElem?_eq_some_iff.1 hh).1 fun he=>by rw [he,(hap _ i.has_blk).1] at hb;cases hb).trans hh⟩
 ·by_cases hjk:j=k
  ·subst hjk
   rw [h5 c hj]
   exact hnew
  ·have hm:=h4 j c hj hjk
   have hjm:j∈H.map (·.1):=List.mem_map.2 ⟨_,hm,rfl⟩
   exact (h.chunks j c hm).mono (Mem.le_refl σ) fun i' hi' b hb=>hf.block b (h.apart j hjm i' hi' b hb).2 fun he=>hjk (h.inj j hjm k hk i' i hi' hi b hb (.inl he.symm))
 ·have:=h.apart j (h3▸hj) i' hi' b hb
  exact ⟨this.1,Nat.lt_of_lt_of_le this.2 hf.size⟩
theorem OpK.clear (hT:TabOK P T) {s:St} {o:Oper} {K:St→Prop} {t:TypeId} {x:Operand} (hop:o.op = .call { callee := .builtin .clear,args := #[x],argTypes := #[t] }) {k off len:Nat} (hx:QI s.sl x = .hd k off len) {e sz:Nat} {es:List AV} (hg:getH s.H k=some (.own e sz es))
  {i ie:TyI} (ht:T.get t=some i) (hd:i.desc = .slice e) (hte:T.get e=some ie) (hz:ie.zero.cells.size=sz) (hone:ie.zero.cells.all (·.oneCell')=true) (hpos:0<sz)
  (h:x2x s.H k (.own e sz (es.take off)) fun H=>setD N s.sl o.dst (.p (.tup [])) fun sl=>K ⟨sl,H⟩):OpK P N s o K:=by
 refine ⟨fun σ β a w hr Q => ?_⟩
 have hx':=QU hr.slots x
 rw [hx] at hx'
 generalize hxe:a.eval x=v at hx'
 obtain ⟨H',hK,h3,h4,h5⟩:=GZ hr.heap.nodup h
 have hlab:=XQ hg
 have hu:=hT.of ht
 rw [hd] at hu
 have hue:=hT _ _ hte
 have htup:RepL σ β (.p (.tup [])) (.tuple #[]) := .p (.tup [] #[] (fun _=>undef) rfl (by simp) (by simp))
 have hbc : ∀ {w'} ,(Builtin.clear_ #[t] o.type #[v]).run P w = .ok (.tuple #[]) w'→(execOp a.eval o).run P w = .ok (.value (.tuple #[])) w':=fun {w'} hc=>by
  simp [execOp,hop,resolve,invoke,builtin,hxe,hc]
 have hch:=hr.heap.chunks k _ (QP hg)
 have none':len=0→(Builtin.clear_ #[t] o.type #[v]).run P w = .ok (.tuple #[]) w→(o.wp P a w (fun a' w' => ∃ σ' β' s',K s'∧Rel N σ' β' s' a' w'∧Later σ β s.H w σ' β' s'.H w') Q):=fun _ hrun=>by
  have hheap:HRel σ β H' w∧Later σ β s.H w σ β H' w:=by
   refine ⟨⟨hr.heap.mem,fun j c hj => ?_,by rw [h3];exact hr.heap.nodup,fun j hj=>hr.heap.apart j (h3▸hj),fun j hj j' hj'=>hr.heap.inj j (h3▸hj) j' (h3▸hj')⟩,Mem.le_refl σ,Frm.refl _ w,fun b h0 h1=>absurd h0 h1,fun b ⟨j,hj,r⟩ => .inl ⟨j,h3▸hj,r⟩,fun _ _ _=>rfl⟩
   by_cases hjk:j=k
   ·subst hjk
    rw [h5 c hj]
    rcases hch with ⟨h6,h7⟩|⟨bi,vs,h6,h7,h8,h9,h10,h11,h12⟩
    ·exact .inl ⟨h6,by rw [h7];simp⟩
    ·exact .inr ⟨bi,vs,h6,h7,h8,h9,by simp;omega,h11,fun m x hx=>h12 m x (by rw [List.getElem?_take] at hx;split at hx;exact hx;cases hx)⟩
   ·exact hr.heap.chunks j c (h4 j c hj hjk)
  have hr1:Rel N σ β ⟨s.sl,H'⟩ a w:=⟨hr.size,hr.defers,hr.slots,hheap.1⟩
  obtain ⟨sl,hK,hr2⟩:=hr1.setD htup hK
  exact VB (hbc hrun) ⟨σ,β,_,hK,hr2,hheap.2⟩
 rcases hx'.hdI with ⟨hk0,hoff,hlen,hv⟩|⟨bi,oo,hk,hfit,hoo,hv⟩
 ·subst hv
  refine none' hlen ?_
  simp [Builtin.clear_,run_underlying hu]
 by_cases hl0:len=0
 ·subst hl0 hv
  refine none' rfl ?_
  simp [Builtin.clear_,run_underlying hu]
 rcases hch with ⟨h6,_⟩|⟨bi',vs,h6,h7,h8,h9,h10,h11,h12⟩
 ·rw [hk] at h6;cases h6
 rw [hk] at h6;cases h6
 have hoo:oo=off*sz:=by
  rcases hoo with hoo|⟨h13,_⟩
  ·rw [hoo,h7]
  ·omega
 obtain ⟨zs,hzs⟩ : ∃ zs,zs=(Builtin.zeroCells ie.zero.cells len).toList:=⟨_,rfl⟩
 have hzl:zs.length=len*sz:=by rw [hzs];simp [Builtin.zeroCells,hz]
 have hz1 : ∀ v∈zs,v.oneCell'=true:=fun v hv=>by
  rw [hzs] at hv
  simp only [Builtin.zeroCells,Array.toList_map,List.mem_map] at hv
  obtain ⟨q,hq,rfl⟩:=hv
  have hlt:q % ie.zero.cells.size<ie.zero.cells.size:=Nat.mod_lt _ (by omega)
  rw [getElem!_pos ie.zero.cells (q % ie.zero.cells.size) hlt]
  exact Array.all_eq_true.1 hone _ hlt
 have hend:off*sz+len*sz≤vs.size:=by
  rw [h9,← Nat.add_mul]
  exact Nat.mul_le_mul_right _ hfit
 have hst:=run_storeCells_cells (P:=P) bi.blk oo zs 0 w (fun j hj=>by
   have:oo+0+j<vs.size:=by omega
   simp only [World.cell?,h8]
   rw [Array.getElem?_eq_getElem this]
   rfl) (fun j hj=>by simp [World.frozen?,h8]) hz1
 have hrun:(Builtin.clear_ #[t] o.type #[v]).run P w = .ok (.tuple #[]) (w.setCells bi.blk oo zs):=by
  subst hv
  have hzv:(zeroValue e).run P w = .ok ie.zero w:=by
   have:=hue.info
   cases hq:P.info? e with
   | none=>rw [hq] at this;cases this
   | some f =>
     rw [hq] at this
     simp at this
     simp [zeroValue,typeInfo,hq,this]
  obtain ⟨len',rfl⟩ : ∃ l',len=l'+1:=⟨len-1,by omega⟩
  simp only [Nat.add_zero] at hst
  simp [Builtin.clear_,Sem.run_bind,run_underlying hu,hzv,← hzs,hst]
 obtain ⟨s1,s2⟩:=WW zs oo h8
 have hnew:(Chunk.own e sz (es.take off)).holds σ β (w.setCells bi.blk oo zs) k:=by
  refine .inr ⟨bi,_,hk,h7,s1,by rw [VF];exact h9,by simp;omega,h11,fun m x hx => ?_⟩
  rw [List.getElem?_take] at hx
  split at hx
  ·rename_i hm
   obtain ⟨h13,h14⟩:=h12 m x hx
   refine ⟨h13,fun j c hj => ?_⟩
   obtain ⟨u,h15,h16⟩:=h14 j c hj
   have hjl:j<sz:=by rw [← h13];exact (List.getElem?_eq_some_iff.1 hj).1
   have hlt:m*sz+j<off*sz:=by
    have:(m+1)*sz≤off*sz:=Nat.mul_le_mul_right _ hm
    rw [Nat.add_mul] at this
    omega
   exact ⟨u,by rw [HJ _ _ _ _ (by omega),if_neg (by omega)];exact h15,h16⟩
  ·cases hx
 obtain ⟨hh,hl⟩:=w6q hr.heap hlab hk s2 h3 h4 h5 hnew
 have hr1:Rel N σ β ⟨s.sl,H'⟩ a (w.setCells bi.blk oo zs):=⟨hr.size,hr.defers,hr.slots,hh⟩
 obtain ⟨sl,hK,hr2⟩:=hr1.setD htup hK
 exact VB (hbc hrun) ⟨σ,β,_,hK,hr2,hl⟩
end
open Go.Proofs
def XZ (p:Step):List Step→List Step
 | []=>[]
 | b::r=>bif ZU b p then XZ b r else b::XZ b r
def NE:List Step→List Step
 | []=>[]
 | a::r=>a::XZ a r
theorem z0v {l:List Step} (h:l.length<2):NE l=l:=by
 match l,h with
 | [],_=>rfl
 | [a],_=>rfl
def avS (l:List Step):List AV:=l.map fun s => .agg s.cells
theorem LP (l:List Step) (hlen:l.length≤1000000000) :
  SpecH Tryz.prog 232 [.hd 1000 0 l.length,.p (.fn 233 [])] [(1000,.own 79 3 (avS l))]
   (fun r H=>r = .hd 1000 0 (NE l).length∧H=[(1000,.own 79 3 (avS (NE l)))]):=by
 refine SpecH.body WX QQ Tryz.func232 rfl Tryz.call232 (by show 2≤_;decide) ?_
 conv=>whnf
 repeat' (first|(intro (_:_≤9223372036854775807);conv=>whnf)|(refine Br.dec (fun _=>?_) (fun _=>?_)<;>first|(exfalso;omega)|conv=>whnf))
 ·have e:NE l=l:=z0v (by omega)
  rw [e]
  exact ⟨_,LSub.refl _,rfl,rfl⟩
 refine LoopK.inv QQ (fun k:Nat=>⟨[(0,.hd 1000 0 l.length),(1,.p (.fn 233 [])),(5,.p (.int .i64 k))],[(1000,.own 79 3 (avS l))]⟩)
  (fun k=>1≤k∧k≤l.length ∧ ∃ a,l[k-1]? = some a∧l.take k++XZ a (l.drop k)=NE l) (fun k=>l.length-k) 1 (Le.of_eq rfl) ⟨Nat.le_refl _,by omega,?_⟩ ?_
 ·cases l with
  | nil=>simp at *
  | cons a r=>exact ⟨a,rfl,rfl⟩
 rintro k ⟨h1,h2,a,ha,h3⟩
 rcases Nat.lt_or_ge k l.length with hk|hk
 rotate_left 1
 ·rw [List.drop_eq_nil_of_le hk,List.take_of_length_le hk] at h3
  conv=>whnf
  repeat' (first|(intro (_:_≤9223372036854775807);conv=>whnf)|(refine Br.dec (fun _=>?_) (fun _=>?_)<;>first|(exfalso;omega)|conv=>whnf))
  rw [← h3,XZ,List.append_nil]
  exact ⟨_,LSub.refl _,rfl,rfl⟩
 rw [List.drop_eq_getElem_cons hk,XZ] at h3
 have hk1:k-1<l.length:=by omega
 obtain ⟨_,ha'⟩:=List.getElem?_eq_some_iff.1 ha
 have gk:(avS l)[k]? = some (.agg l[k].cells):=by simp [avS,hk]
 have gk1:(avS l)[k-1]? = some (.agg a.cells):=by simp [avS,ha]
 conv=>whnf
 repeat' (first|((first|intro (_:_≤9223372036854775807)|(refine CallK.pure (q7j _ _) (by repeat' (first|exact ArgP.nil|refine ArgP.cons ?_ ?_|exact Sub.refl _|exact Sub.tt rfl|exact Sub.ff rfl)) ?_;rintro _ rfl)|refine DrawK.auto QQ mixed (by kernel_rfl) ?_|refine And.intro rfl ?_|refine Wr.i64 (by omega) (by omega) ?_|refine IdxL.mk k (by omega) (by omega) ?_|refine IdxL.mk (k-1) (by omega) (by omega) ?_|refine LdOwn.mk k 0 (.agg l[k].cells) (by omega) gk ?_|refine LdOwn.mk (k-1) 0 (.agg a.cells) (by omega) gk1 ?_|refine SlK.mk k l.length rfl rfl (by omega) (by omega) ?_);conv=>whnf)|(refine Br.dec (fun _=>?_) (fun _=>?_)<;>first|(exfalso;omega)|conv=>whnf)|(refine Br.b (fun _=>?_) (fun _=>?_)<;>conv=>whnf))
 rotate_left 1
 ·have hsm:ZU l[k] a=false:=by assumption
  rw [hsm,cond_false] at h3
  exact ⟨k+1,⟨by omega,by omega,l[k],by simp [hk],by rw [← h3,List.take_succ_eq_append_getElem hk,List.append_assoc];rfl⟩,by omega,Le.of_eq rfl⟩
 have hsm:ZU l[k] a=true:=by assumption
 rw [hsm,cond_true] at h3
 clear ha ha' gk gk1 hk1 hsm
 refine LoopK.inv QQ (fun x:Nat×Nat×List Step=>⟨[(0,.hd 1000 0 l.length),(1,.p (.fn 233 [])),(5,.p (.int .i64 x.2.1)),(6,.hd 1000 (0+k) (l.length-k)),(7,.p (.int .i64 x.1))],[(1000,.own 79 3 (avS x.2.2))]⟩)
  (fun x=>1≤x.1∧x.1≤l.length-k∧x.2.1≤k+x.1-1∧x.2.2.length=l.length∧x.2.2.drop (k+x.1-1)=l.drop (k+x.1-1) ∧ ∃ a,l[k+x.1-1]? = some a∧x.2.2.take x.2.1++XZ a (l.drop (k+x.1))=NE l) (fun x=>l.length-k-x.1) (1,k,l) (Le.of_eq rfl) ⟨Nat.le_refl _,by simp only;omega,by simp only;omega,rfl,rfl,l[k],by simp [hk],h3⟩ ?_
 rintro ⟨q,i,es⟩ ⟨h4,h5,h6,h7,h8,a,ha,h9⟩
 clear h3
 simp only at h4 h5 h6 h7 h8 ha h9 ⊢
 have hes:(avS es).length=l.length:=by simp [avS,h7]
 rcases Nat.lt_or_ge q (l.length-k) with hq|hq
 ·have hkq:k+q<l.length:=by omega
  have e1:es[k+q]? = l[k+q]? := by
   have:=congrArg (fun x=>x[1]?) h8
   simp only [List.getElem?_drop] at this
   rwa [show k+q-1+1=k+q by omega] at this
  have e2:es[k+q-1]? = some a:=by
   have:=congrArg (fun x=>x[0]?) h8
   simp only [List.getElem?_drop,Nat.add_zero] at this
   rw [this,ha]
  rw [List.getElem?_eq_getElem hkq] at e1
  have gk:(avS es)[k+q]? = some (.agg l[k+q].cells):=by simp [avS,e1]
  have gk1:(avS es)[k+q-1]? = some (.agg a.cells):=by simp [avS,e2]
  have hi:i<es.length:=by omega
  have gi:(avS es)[i]? = some (.agg es[i].cells):=by simp [avS,hi]
  rw [List.drop_eq_getElem_cons hkq,XZ] at h9
  conv=>whnf
  repeat' (first|((first|intro (_:_≤9223372036854775807)|(refine CallK.pure (q7j _ _) (by repeat' (first|exact ArgP.nil|refine ArgP.cons ?_ ?_|exact Sub.refl _|exact Sub.tt rfl|exact Sub.ff rfl)) ?_;rintro _ rfl)|refine DrawK.auto QQ mixed (by kernel_rfl) ?_|refine And.intro rfl ?_|refine Wr.i64 (by omega) (by omega) ?_|refine IdxL.mk q (by omega) (by omega) ?_|refine IdxL.mk (q-1) (by omega) (by omega) ?_|refine IdxL.mk i (by omega) (by omega) ?_|refine LdOwn.mk (k+q) 0 (.agg l[k+q].cells) (by omega) gk ?_|refine LdOwn.mk (k+q-1) 0 (.agg a.cells) (by omega) gk1 ?_|refine StOwn.mk i 0 (.agg es[i].cells) (.agg l[k+q].cells) (by omega) gi (show 3≤3 from Nat.le_refl 3) rfl ?_);conv=>whnf)|(refine Br.dec (fun _=>?_) (fun _=>?_)<;>first|(exfalso;omega)|conv=>whnf)|(refine Br.n (fun _=>?_) (fun _=>?_)<;>conv=>whnf))
  ·have hsm:ZU l[k+q] a=true:=by assumption
   rw [hsm,cond_true] at h9
   exact ⟨(q+1,i,es),⟨by simp only;omega,by simp only;omega,by simp only;omega,h7,by
    have:=congrArg (List.drop 1) h8
    simp only [List.drop_drop] at this
    simpa only [show k+(q+1)-1=k+q-1+1 by omega] using this,l[k+q],by simp [hkq],h9⟩,by simp only;omega,Le.of_eq rfl⟩
  ·have hsm:ZU l[k+q] a=false:=by assumption
   rw [hsm,cond_false] at h9
   have h10:(es.set i l[k+q]).drop (k+q)=l.drop (k+q):=by
    rw [List.drop_set_of_lt (by omega)]
    have:=congrArg (List.drop 1) h8
    simp only [List.drop_drop] at this
    rwa [show k+q-1+1=k+q by omega] at this
   exact ⟨(q+1,i+1,es.set i l[k+q]),⟨by simp only;omega,by simp only;omega,by simp only;omega,by simp only [List.length_set];exact h7,h10,l[k+q],by simp [hkq],by
    simp only
    rw [← h9,List.take_succ_eq_append_getElem (by simp;omega),List.take_set_of_le (by omega),List.getElem_set_self,List.append_assoc]
    rfl⟩,by simp only;omega,Le.of_eq (by simp only [avS,List.map_set];rfl)⟩
 ·have hqe:k+q=l.length:=by omega
  rw [hqe,List.drop_length,XZ,List.append_nil] at h9
  conv=>whnf
  repeat' (first|((first|intro (_:_≤9223372036854775807)|refine And.intro rfl ?_|refine SlK.mk i l.length rfl rfl (by omega) (by omega) ?_);conv=>whnf)|(refine Br.dec (fun _=>?_) (fun _=>?_)<;>first|(exfalso;omega)|conv=>whnf))
  refine OpK.clear QQ rfl rfl rfl rfl rfl rfl rfl (by kernel_rfl) (by decide) ?_
  conv=>whnf
  repeat' ((first|refine And.intro rfl ?_|refine SlK.mk 0 i rfl rfl (by omega) (by omega) ?_);conv=>whnf)
  have hl:i=(NE l).length:=by rw [← h9];simp;omega
  exact ⟨_,LSub.of_eq (by rw [← hl];rfl),rfl,by rw [Nat.zero_add,← h9];simp [avS,List.map_take]⟩
def ZM (l:List Step):List Step:=NE (YQ l)
theorem x5h (l:List Step) (hok : ∀ s∈l,okSt s) (hlen:l.length≤1000000000) :
  SpecH Tryz.prog 160 [.hd 1000 0 l.length] [(1000,.own 79 3 (avS l))] (fun r H=>r = .hd 1000 0 (ZM l).length∧H=[(1000,.own 79 3 (avS (ZM l)))]):=by
 refine SpecH.body x8z QQ Tryz.func160 rfl Tryz.call160 (by show 1≤_;decide) ?_
 conv=>whnf
 repeat' (first|(refine CallK.heap [(1000,1000)] 0 (by repeat' (first|exact ArgsH.nil|refine ArgsH.cons ?_ ?_|exact LSub.refl _|exact LSub.p Sub.nils|exact LSub.p (Sub.tt rfl)|exact LSub.p (Sub.ff rfl)|exact LSub.p (Sub.int (by omega)))) (by refine BlksH.cons (j:=1000) rfl rfl ?_ ?_;exact CSub.refl _;exact BlksH.nil) (q5l l hok hlen) rfl rfl ?_;rintro l' H' ⟨rfl,rfl⟩;conv=>whnf)|(refine CallK.heap [(1000,1000)] 0 (ArgsH.cons (LSub.of_eq (by rw [q2o];rfl)) (ArgsH.cons (LSub.refl _) ArgsH.nil)) (by refine BlksH.cons (j:=1000) rfl rfl ?_ ?_;exact CSub.refl _;exact BlksH.nil) (LP (YQ l) (by rw [q2o];exact hlen)) rfl rfl ?_;rintro l' H' ⟨rfl,rfl⟩;conv=>whnf))
 exact ⟨_,LSub.refl _,rfl,rfl⟩
open Go.Proofs
def WY (sh:Sheet) (f:Pr) (it:Item):List Int :=
 if it.s.kind=5 then [q8o it.s.thn it.next,q8o it.s.els it.next]
 else if it.s.kind=6 then [q8o it.s.thn it.s.id,it.next]
 else if it.s.kind=7 then [((sh.l[(it.loop-1).toNat]?).map Item.next).getD 0]
 else if it.s.kind=8 then [it.loop]
 else if it.s.kind=9 then [-1]
 else if it.s.kind=10 then [(atB f it.s.name).1]
 else [it.next]
theorem x0t (l:List S) (o:Int):SpecP Tryz.prog 274 [eSs l,.int .i64 o] (fun r=>r = .int .i64 (q8o l o)):=by
 unfold eSs
 rw [S.avs_eq]
 exact z7w l o
theorem q8b (p:Pg) (j:Nat) (f:Pr) (hj:p.procs[j]? = some f) (hc:cntP p.procs≤1000) (it:Item) (hp:it.proc=j) (hl:it.s.kind=7→1≤it.loop∧it.loop≤(sheetOf p).l.length):SpecP Tryz.prog 208 [.ip (sheetOf p).cells,.agg it.cells] (fun r=>r=QF (WY (sheetOf p) f it)):=by
 refine SpecP.body q3f QQ Tryz.func208 rfl Tryz.call208 (by show 2≤_;decide) ?_
 conv=>whnf
 have hlen:=(QJ p).2.2.2.1
 have hx:it.s.kind=7 → ∃ u,(sheetOf p).l[(it.loop-1).toNat]? = some u∧((sheetOf p).l.map fun i=>AV.agg i.cells)[(it.loop-1).toNat]? = some (.agg u.cells):=fun h=>by
  have:=hl h
  have hlt:(it.loop-1).toNat<(sheetOf p).l.length:=by omega
  exact ⟨_,List.getElem?_eq_getElem hlt,by rw [List.getElem?_map,List.getElem?_eq_getElem hlt];rfl⟩
 repeat' (first|((first|refine DrawK.auto QQ mixed (by kernel_rfl) ?_|refine And.intro rfl ?_|(refine And.intro ⟨by decide,by decide⟩ ?_)|refine BsK.pure (fun x hx=>by rcases List.mem_singleton.1 hx with rfl;rfl) rfl ?_|refine Wr.i64 (by omega) (by omega) ?_|(refine CallK.pure (q0r p j f hj hc it.s.name) (.cons (Sub.refl _) (.cons (Sub.int hp) (.cons (Sub.refl _) .nil))) ?_;rintro _ rfl)|refine BsK.pureL rfl rfl ?_|(refine CallK.pure (x0t it.s.thn _) (.cons (Sub.refl _) (.cons (Sub.refl _) .nil)) ?_;rintro _ rfl)|(refine CallK.pure (x0t it.s.els _) (.cons (Sub.refl _) (.cons (Sub.refl _) .nil)) ?_;rintro _ rfl)|(obtain ⟨u,hu1,hu2⟩:=hx (by assumption);refine IdxK.at (by have:=hl (by assumption);omega) hu2 rfl ?_));conv=>whnf)|(refine Br.dec (fun _=>?_) (fun _=>?_)<;>first|(exfalso;omega)|conv=>whnf))
 all_goals first
  | exact RetK.p (by unfold WY;rw [if_neg (by assumption),if_neg (by assumption),if_pos (by assumption),hu1];rfl)
  | exact RetK.p (by unfold WY;rw [if_pos (by assumption)];rfl)
  | exact RetK.p (by unfold WY;rw [if_neg (by assumption),if_pos (by assumption)];rfl)
  | exact RetK.p (by unfold WY;rw [if_neg (by assumption),if_neg (by assumption),if_neg (by assumption),if_pos (by assumption)];rfl)
  | exact RetK.p (by unfold WY;rw [if_neg (by assumption),if_neg (by assumption),if_neg (by assumption),if_neg (by assumption),if_pos (by assumption)];rfl)
  | exact RetK.p (by unfold WY;rw [if_neg (by assumption),if_neg (by assumption),if_neg (by assumption),if_neg (by assumption),if_neg (by assumption),if_pos (by assumption)];rfl)
  | exact RetK.p (by unfold WY;rw [if_neg (by assumption),if_neg (by assumption),if_neg (by assumption),if_neg (by assumption),if_neg (by assumption),if_neg (by assumption)];rfl)
def QH (p:Pg) (j:Nat) (f:Pr):List Step :=
 ⟨0,if QN p.procs j<QN p.procs j+QY f.body then ((QN p.procs j:Nat)+1:Int) else -1,1⟩::(itL j 0 (-1) 0 (QN p.procs j) f.body).flatMap fun it=>(WY (sheetOf p) f it).map (Step.mk it.s.id · 1)
def itsOf (p:Pg) (j:Nat) (f:Pr):List Item:=itL j 0 (-1) 0 (QN p.procs j) f.body
theorem q4g (p:Pg) (j:Nat) (f:Pr) (hj:p.procs[j]? = some f) (hc:cntP p.procs≤1000) (hl : ∀ it∈itsOf p j f,it.s.kind=7→1≤it.loop∧it.loop≤(sheetOf p).l.length) (hok : ∀ s∈QH p j f,okSt s):SpecP Tryz.prog 149 [.ip (sheetOf p).cells,.int .i64 j] (fun r=>r=QL (ZM (QH p j f))):=by
 refine SpecP.body q0h QQ Tryz.func149 rfl Tryz.call149 (by show 2≤_;decide) ?_
 conv=>whnf
 obtain ⟨_,_,_,hlen,hsp⟩:=QJ p
 obtain ⟨hlo,hhi,hle,_⟩:=hsp j f hj
 repeat' ((first|intro (_:_≤9223372036854775807)|refine And.intro rfl ?_|(refine And.intro ⟨by decide,by decide⟩ ?_)|(refine CallK.pure (q4d (sheetOf p) j _ _ hlo hhi) (.cons (Sub.refl _) (.cons (Sub.refl _) .nil)) ?_;rintro _ rfl)|(refine CallK.pure (x9w p hj hc) (.cons (Sub.refl _) (.cons (Sub.refl _) .nil)) ?_;rintro _ rfl)|refine BsK.own (fun x hx=>by rcases List.mem_singleton.1 hx with rfl;rfl) rfl ?_);conv=>whnf)
 have hraw:QH p j f=⟨0,if QN p.procs j<QN p.procs j+QY f.body then ((QN p.procs j:Nat)+1:Int) else -1,1⟩::(itsOf p j f).flatMap fun it=>(WY (sheetOf p) f it).map (Step.mk it.s.id · 1):=rfl
 have hits:itL j 0 (-1) 0 (QN p.procs j) f.body=itsOf p j f:=rfl
 have hpr : ∀ it∈itsOf p j f,it.proc=j:=fun it h=>q0u _ _ _ _ _ _ it h
 have hib:(itsOf p j f).length≤1000:=by rw [← hits,XR];omega
 rw [hits]
 generalize itsOf p j f=its at hl hraw hpr hib ⊢
 have hil:=WJ its
 refine LoopK.inv QQ (fun i:Nat×List Step=>⟨[(0,.p (.ip (sheetOf p).cells)),(5,.hd 0 0 i.2.length),(17,.p (JI its)),(18,.p (.int .i64 (its.map fun i=>AV.agg i.cells).length)),(19,.p (.int .i64 i.1))],[(0,.own 79 3 (avS i.2))]⟩)
  (fun i=>i.1≤its.length∧i.2.length≤1+2*i.1∧i.2++(its.drop i.1).flatMap (fun it=>(WY (sheetOf p) f it).map (Step.mk it.s.id · 1))=QH p j f) (fun i=>its.length-i.1) (0,[⟨0,if QN p.procs j<QN p.procs j+QY f.body then ((QN p.procs j:Nat)+1:Int) else -1,1⟩]) (Le.of_eq rfl) ⟨Nat.zero_le _,by simp,by rw [hraw];rfl⟩ ?_
 rintro ⟨m,acc⟩ ⟨h2,h3,h4⟩
 simp only at h2 h3 h4 ⊢
 rcases Nat.lt_or_ge m its.length with hm|hm
 rotate_left 1
 ·have hacc:acc=QH p j f:=by
   rw [List.drop_eq_nil_of_le hm] at h4
   simpa using h4
  rw [← hacc] at hok ⊢
  conv=>whnf
  repeat' (first|(refine Br.dec (fun _=>?_) (fun _=>?_)<;>first|(exfalso;omega)|conv=>whnf)|(refine CallK.heap [(1000,0)] 0 (by repeat' (first|exact ArgsH.nil|refine ArgsH.cons ?_ ?_|exact LSub.refl _|exact LSub.p Sub.nils|exact LSub.p (Sub.tt rfl)|exact LSub.p (Sub.ff rfl)|exact LSub.p (Sub.int (by omega)))) (by refine BlksH.cons (j:=0) rfl rfl ?_ ?_;exact CSub.refl _;exact BlksH.nil) (x5h acc hok (by omega)) rfl rfl ?_;rintro l' H' ⟨rfl,rfl⟩;conv=>whnf))
  exact ⟨_,.hd rfl (by simp [avS]),rfl⟩
 have hgl:(WY (sheetOf p) f its[m]).length≤2:=by unfold WY;split<;>(try split)<;>(try split)<;>(try split)<;>(try split)<;>(try split)<;>simp
 rw [VG hm] at h4
 have him:=List.getElem_mem hm
 conv=>whnf
 repeat' (first|((first|intro (_:_≤9223372036854775807)|refine And.intro rfl ?_|refine IdxK.map (by omega) (fun _=>rfl) ?_|(refine CallK.pure (q8b p j f hj hc its[m] (hpr _ him) (hl _ him)) (.cons (Sub.refl _) (.cons (Sub.refl _) .nil)) ?_;rintro _ rfl));conv=>whnf)|(refine Br.dec (fun _=>?_) (fun _=>?_)<;>first|(exfalso;omega)|conv=>whnf))
 generalize hgs:WY (sheetOf p) f its[m]=gs at hgl h4 ⊢
 have hgsl:(gs.map (AV.int .i64)).length=gs.length:=List.length_map _
 refine LoopK.inv QQ (fun i:Nat×List Step=>⟨[(0,.p (.ip (sheetOf p).cells)),(5,.hd 0 0 i.2.length),(7,.p (.ip its[m].cells)),(17,.p (JI its)),(18,.p (.int .i64 (its.map fun i=>AV.agg i.cells).length)),(19,.p (.int .i64 m)),(25,.p (QF gs)),(26,.p (.int .i64 (gs.map (AV.int .i64)).length)),(27,.p (.int .i64 i.1))],[(0,.own 79 3 (avS i.2))]⟩)
  (fun i=>i.1≤gs.length∧i.2.length≤acc.length+i.1∧i.2++((gs.drop i.1).map (Step.mk its[m].s.id · 1)++(its.drop (m+1)).flatMap (fun it=>(WY (sheetOf p) f it).map (Step.mk it.s.id · 1)))=QH p j f) (fun i=>gs.length-i.1) (0,acc) (Le.of_eq rfl) ⟨Nat.zero_le _,by simp,h4⟩ ?_
 rintro ⟨q,acc2⟩ ⟨h5,h6,h7⟩
 simp only at h5 h6 h7 ⊢
 rcases Nat.lt_or_ge q gs.length with hq|hq
 rotate_left 1
 ·rw [List.drop_eq_nil_of_le hq] at h7
  conv=>whnf
  repeat' (first|(refine Wr.i64 (by omega) (by omega) ?_;conv=>whnf)|(refine Br.dec (fun _=>?_) (fun _=>?_)<;>first|(exfalso;omega)|conv=>whnf))
  exact ⟨(m+1,acc2),⟨by simp only;omega,by simp only;omega,by simpa using h7⟩,by simp only;omega,Le.of_eq rfl⟩
 rw [List.drop_eq_getElem_cons hq,List.map_cons] at h7
 conv=>whnf
 repeat' (first|((first|refine And.intro rfl ?_|(refine And.intro ⟨by decide,by decide⟩ ?_)|refine BsK.pure (fun x hx=>by rcases List.mem_singleton.1 hx with rfl;rfl) rfl ?_|refine IdxK.map (by omega) (fun _=>rfl) ?_|refine Wr.i64 (by omega) (by omega) ?_|refine AppK.mk (by simp [avS]) rfl (by show (acc2.length+1)*24≤140737488355328;omega) (by show acc2.length+1≤9223372036854775807;omega) (fun x hx=>by rcases List.mem_singleton.1 hx with rfl;exact ⟨rfl,rfl⟩) ?_);conv=>whnf)|(refine Br.dec (fun _=>?_) (fun _=>?_)<;>first|(exfalso;omega)|conv=>whnf))
 exact ⟨(q+1,acc2++[⟨its[m].s.id,gs[q],1⟩]),⟨by simp only;omega,by simp;omega,by simpa using h7⟩,by simp only;omega,Le.of_eq (by simp only [avS,List.length_append,List.map_append];rfl)⟩
end Go.Ab
