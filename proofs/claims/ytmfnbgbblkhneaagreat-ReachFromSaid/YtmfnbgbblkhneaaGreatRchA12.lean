/- The library's contracts on rows, as contracts on rows of the caller's own: slices.BinarySearch, slices.Insert at int. Conditions: the rows' lengths. -/
import Derived.Test.YtmfnbgbblkhneaaGreatRchA11
set_option linter.unusedSimpArgs false
set_option linter.unusedVariables false
set_option maxRecDepth 100000
set_option maxHeartbeats 16000000
namespace Go.Ab
open Go.Proofs.Tryz
open Go.Proofs Go.Sort
variable {k:Nat}{l:List Int}{vs:Array Value}{w w':World}{β:Lab}{σ:Mem}
theorem Frm.trans{B:Nat->Prop}{w w' w'':World}(h:Frm B w w')(k:Frm B w' w''):Frm B w w'':=
 ⟨k.os.trans h.os,k.tape.trans h.tape,k.output.trans h.output,q8i h.drawn k.drawn,q8i h.size k.size,fun j hj hn=>(k.block j (x1y hj h.size) hn).trans (h.block j hj hn)⟩
theorem Frm.weak{B B':Nat->Prop}(h:Frm B w w')(hB:∀k,B k->B' k):Frm B' w w':=
 ⟨h.os,h.tape,h.output,h.drawn,h.size,fun j hj hn=>h.block j hj fun hb=>hn (hB j hb)⟩
theorem Frm.drewN(B:Nat->Prop)(w:World)(n:Nat):Frm B w (w.drewN n):=⟨rfl,rfl,rfl,Nat.le_add_right _ _,q8z _,fun _ _ _=>rfl⟩
theorem Cv{c c':Chunk}{rest:Heap}{i:BInfo}(h:HRel σ β ((k,c)::rest) w)(hi:β k=some i)(hf:Frm (fun b=>b=i.blk) w w')(hnew:c'.holds σ β w' k):HRel σ β ((k,c')::rest) w'/\Later σ β ((k,c)::rest) w σ β ((k,c')::rest) w':=by
 have hap:=h.apart k (by simp) i hi;have hkr:∀j∈rest.map (·.1),j≠k:=fun j hj he=>by
  have:=h.nodup;simp only[q8f,q9v]at this;exact this.1 (he▸hj)
 refine⟨⟨fun b cs hb=>?_,fun j d hj=>?_,h.nodup,fun j hj i' hi' b hb=>?_,h.inj⟩,Mem.le_refl σ,⟨hf.os,hf.tape,hf.output,hf.drawn,hf.size,fun b hb hn=>hf.block b hb fun he=>hn ⟨k,by simp,i,hi,.inl he.symm⟩⟩,
  fun b h0 h1=>absurd h0 h1,fun b ho=>.inl ho,fun _ _ _=>rfl⟩
 ·obtain⟨e,fr,hh⟩:=h.mem b cs hb;exact⟨e,fr,(hf.block b (q8h.1 hh).1 fun he=>by rw[he,(hap _ i.has_blk).1]at hb;cases hb).trans hh⟩
 ·rcases q7r.1 hj with he|hj
  ·cases he;exact hnew
  ·have hjm:j∈rest.map (·.1):=q7s.2 ⟨_,hj,rfl⟩;refine(h.chunks j d (q7n _ hj)).mono (Mem.le_refl σ) fun i' hi' b hb=>hf.block b (h.apart j (q7n _ hjm) i' hi' b hb).2 fun he=>?_;exact hkr j hjm (h.inj j (q7n _ hjm) k (by simp) i' i hi' hi b hb (.inl he.symm))
 ·have:=h.apart j hj i' hi' b hb;exact⟨this.1,x1y this.2 hf.size⟩
theorem EK{c c':Chunk}{rest:Heap}{i':BInfo}(h:HRel σ β ((k,c)::rest) w)(hk:2000<=k)(hf:Frm (fun _=>False) w w')(hb:i'.blk=w.heap.size)(hs:i'.subs=[])(hlt:w.heap.size<w'.heap.size)(hfree:∀j d,(j,d)∈rest->d.free k=true)(hnew:c'.holds σ (β.set k (some i')) w' k):
  HRel σ (β.set k (some i')) ((k,c')::rest) w'/\Later σ β ((k,c)::rest) w σ (β.set k (some i')) ((k,c')::rest) w':=by
 have hkr:∀j∈rest.map (·.1),j≠k:=fun j hj he=>by
  have:=h.nodup;simp only[q8f,q9v]at this;exact this.1 (he▸hj)
 have hset:∀j,j≠k->(β.set k (some i')) j=β j:=fun j hj=>by simp[Lab.set,hj]
 have hsetk:(β.set k (some i')) k=some i':=by simp[Lab.set]
 have hhas:∀b,i'.has b->b=w.heap.size:=fun b hbb=>by
  rcases hbb with hbb|⟨_,hbb⟩
  ·rw[<-hbb,hb]
  ·rw[hs]at hbb;cases hbb
 refine⟨⟨fun b cs hb=>?_,fun j d hj=>?_,h.nodup,fun j hj i1 hi1 b hb=>?_,fun j hj j' hj' i1 i2 h1 h2 b hb1 hb2=>?_⟩,Mem.le_refl σ,hf.weak fun _ h=>h.elim,
  fun b h0 h1=>absurd h0 h1,fun b ⟨j,hj,i1,h1,hb1⟩=>?_,fun j h0 h1=>hset j (by omega)⟩
 ·obtain⟨e,fr,hh⟩:=h.mem b cs hb;exact⟨e,fr,(hf.block b (q8h.1 hh).1 id).trans hh⟩
 ·rcases q7r.1 hj with he|hj
  ·cases he;exact hnew
  ·have hjm:j∈rest.map (·.1):=q7s.2 ⟨_,hj,rfl⟩;exact((h.chunks j d (q7n _ hj)).mono (Mem.le_refl σ) fun i1 hi1 b hb=>hf.block b (h.apart j (q7n _ hjm) i1 hi1 b hb).2 id).set _ (hkr j hjm) (hfree j d hj)
 ·by_cases hjk:j=k
  ·subst hjk;rw[hsetk]at hi1;cases hi1;have hbs:=hhas b hb;refine⟨?_,by omega⟩;cases hσ:σ b with
   |none=>rfl
   | some cs=>
     obtain⟨e,fr,hh⟩:=h.mem b cs hσ;have:=(q8h.1 hh).1;omega
  ·rw[hset j hjk]at hi1;have:=h.apart j hj i1 hi1 b hb;exact⟨this.1,x1y this.2 hf.size⟩
 ·by_cases hjk:j=k<;>by_cases hjk':j'=k
  ·rw[hjk,hjk']
  ·subst hjk;rw[hsetk]at h1;cases h1;rw[hset j' hjk']at h2;have:=(h.apart j' hj' i2 h2 b hb2).2;have:=hhas b hb1;omega
  ·subst hjk';rw[hsetk]at h2;cases h2;rw[hset j hjk]at h1;have:=(h.apart j hj i1 h1 b hb1).2;have:=hhas b hb2;omega
  ·rw[hset j hjk]at h1;rw[hset j' hjk']at h2;exact h.inj j hj j' hj' i1 i2 h1 h2 b hb1 hb2
 ·by_cases hjk:j=k
  ·subst hjk;rw[hsetk]at h1;cases h1;exact .inr (by rw[hhas b hb1];exact q8z _)
  ·rw[hset j hjk]at h1;exact .inl ⟨j,hj,i1,h1,hb1⟩
def OY(cs:Array Value):Nat->List Value->Array Value
 |_,[]=>cs
 |o,v::r=>OY (cs.setIfInBounds o v) (o+1) r
theorem VA:∀(vs:List Value)(cs:Array Value)(o:Nat),(OY cs o vs).size=cs.size
 |[],_,_=>rfl
 |v::r,cs,o=>by rw[OY,VA r];simp
theorem GB:∀(vs:List Value)(cs:Array Value)(o j:Nat),o+vs.length<=cs.size->(OY cs o vs)[j]?=if o<=j/\j<o+vs.length then vs[j-o]?else cs[j]?
 |[],cs,o,j,_=>by simp[OY];intros;omega
 | v::r,cs,o,j,h=>by
   simp only[q8s]at h;rw[OY,GB r _ (o+1) j (by simp;omega)];simp only[q8s];by_cases h1:j=o
   ·subst h1;rw[if_neg (by omega),if_pos (by omega),Array.getElem?_setIfInBounds_self_of_lt (by omega)];simp
   ·by_cases h2:o+1<=j/\j<o+1+r.length
    ·rw[if_pos h2,if_pos (by omega),show j-o=(j-(o+1))+1 by omega];simp
    ·rw[if_neg h2,if_neg (by omega),x1v (x1k h1)]
theorem ZE{b:Nat}{e:TypeId}:∀(vs:List Value)(o:Nat){w:World}{cs:Array Value},w.heap[b]?=some (.cells cs e (0,0))->
  (w.setCells b o vs).heap[b]?=some (.cells (OY cs o vs) e (0,0))/\Frm (fun x=>x=b) w (w.setCells b o vs)
 |[],_,w,cs,h=>⟨h,Frm.refl _ _⟩
 | v::r,o,w,cs,h=>by
   have h1:(w.setCell ⟨b,o,none⟩ v).heap[b]?=some (.cells (cs.setIfInBounds o v) e (0,0)):=by
    simp[World.setCell,x1f,h]
   have h2:Frm (fun x=>x=b) w (w.setCell ⟨b,o,none⟩ v):=⟨rfl,rfl,rfl,q8z _,by simp[World.setCell],fun k _ hn=>by simp[World.setCell,x1f,x1k hn]⟩;obtain⟨h3,h4⟩:=ZE r (o+1) h1;exact⟨h3,h2.trans h4⟩
theorem L3(h:∀(m:Nat)(x:AV),(l.map (AV.int .i64))[m]?=some x->x.cells.length=1/\∀(j:Nat)(c:AV),x.cells[j]?=some c->∃u:Value,vs[m*1+j]?=some u/\Rep σ c u){j:Nat}(hj:j<l.length):
  vs[j]?=some (.int .i64 l[j]):=by
 obtain⟨u,h1,h2⟩:=(h j (.int .i64 l[j]) (by simp[hj])).2 0 (.int .i64 l[j]) rfl;cases h2 with
 |int=>simpa using h1
theorem AI(h:∀j (hj:j<l.length),vs[j]?=some (.int .i64 l[j])):∀(m:Nat)(x:AV),(l.map (AV.int .i64))[m]?=some x->x.cells.length=1/\∀(j:Nat)(c:AV),x.cells[j]?=some c->∃u:Value,vs[m*1+j]?=some u/\Rep σ c u:=by
 intro m x hx;rw[q7l]at hx;cases hq:l[m]?with
 |none=>rw[hq]at hx;cases hx
 | some s=>
   rw[hq]at hx;cases hx;obtain⟨hm,rfl⟩:=q7t.1 hq;refine⟨rfl,fun j c hj=>?_⟩;have hj0:j=0:=by
    have:=(q7t.1 hj).1;simpa[AV.cells]using this
   subst hj0;simp only[AV.cells,x3w,x1w]at hj;subst hj;exact⟨_,by simpa using h m hm,.int _ _⟩
theorem q0x{vals:Array Value}{l l':LV}(h:vals.size=[l,l'].length):∃v u,vals=#[v,u]:=by
 obtain⟨vs⟩:=vals
 match vs,h with
 |[a,b],_=>exact⟨a,b,rfl⟩
theorem q5l{vals:Array Value}{l l' l'':LV}(h:vals.size=[l,l',l''].length):∃v u t,vals=#[v,u,t]:=by
 obtain⟨vs⟩:=vals
 match vs,h with
 |[a,b,c],_=>exact⟨a,b,c,rfl⟩
theorem Ou{k:IntKind}{n:Int}{v:Value}(h:RepL σ β (.p (.int k n)) v):v=.int k n:=by
 cases h with
 |p h=>cases h;rfl
theorem Rep.tup2{n:Int}{b:Bool}:Rep σ (.tup [.int .i64 n,.bool b]) (.tuple #[.int .i64 n,.bool b]):=
 .tup _ _ (fun j=>(#[Value.int .i64 n,.bool b]).getD j undef) rfl (fun j c hj=>by
  match j,hj with
  |0,_=>rfl
  |1,_=>rfl) (fun j c hj=>by
  match j,hj with
  |0,hj=>cases hj;exact .int _ _
  |1,hj=>cases hj;exact .bool _)
theorem YY(l:List Int)(x:Int)(hs:l.Pairwise (· <= ·))(hlen:l.length<=1000000000):
  SpecP prog 251 [.sl (l.map (.int .i64)),.int .i64 x] (fun r=>r=.tup [.int .i64 (l.countP (· < x):Nat),.bool (l.contains x)]):=by
 refine⟨call251,fun σ w vals hn hv hw=>?_⟩;obtain⟨v,u,rfl⟩:=q0x (l:=.p .und) (l':=.p .und) hn;have hv1:Rep σ (.sl (l.map (.int .i64))) v:=by simpa using hv 0 _ rfl
 have hv2:Rep σ (.int .i64 x) u:=by simpa using hv 1 _ rfl
 obtain rfl:u=.int .i64 x:=by cases hv2;rfl
 have empty:∀a c,l=[]->Calls prog 251 #[.slice a 0 c,.int .i64 x] w fun e w'=>∃c u σ',e=.returned u/\c=AV.tup [.int .i64 (l.countP (· < x):Nat),.bool (l.contains x)]/\Rep σ' c u/\σ.le σ'/\σ'.lies w'/\Frm (fun _=>False) w w'/\∀b,σ b=none->σ' b≠none->w.heap.size<=b:=by
  intro a c hl;subst hl;have hc:=Any.slices_BinarySearch_int_empty Yn a c x w;change Calls prog 251 _ _ _ at hc;refine hc.mono ?_;rintro e w' ⟨rfl,rfl⟩;exact⟨_,_,σ,rfl,rfl,Rep.tup2,Mem.le_refl σ,hw,Frm.refl _ _,fun b h h'=>absurd h h'⟩
 generalize hes:l.map (AV.int .i64)=es at hv1;cases hv1 with
 |nilsl=>exact empty _ _ (by simpa using hes)
 |slz b=>exact empty _ _ (by simpa using hes)
 | sl _ b off cap sz cells ug hb hcap hmax hsz hc hr=>
   subst hes;by_cases hl:l=[]
   ·have:=empty (some ⟨b,off,none⟩) cap hl;subst hl;exact this
   ·have hl0:0<l.length:=x3o.2 hl;have hsz1:sz=1:=(hsz 0 (.int .i64 l[0]) (by simp[hl0])).symm;subst hsz1;obtain⟨e,fr,hh⟩:=hw b cells hb;rw[q7f];have hcc:=Any.slices_BinarySearch_int Yn b off l.length cap l x w (q8z _) (by omega) (fun j hj=>by
     have h1:=hc j (.int .i64 l[j]) 0 (.int .i64 l[j]) (by simp[hj]) rfl;have h2:=hr j (.int .i64 l[j]) 0 (.int .i64 l[j]) (by simp[hj]) rfl;rw[show w.cell? ⟨b,off+j,none⟩=cells[off+j]? by simp[World.cell?,hh]];simp only[x4w,x2l]at h1;rw[h1];generalize ug j 0=z at h2;cases h2;simp[hj]) (by rw[x2w];exact hs)
    change Calls prog 251 _ _ _ at hcc;refine hcc.mono ?_;rintro e w' ⟨rfl,q,rfl⟩;rw[x2w];exact⟨_,_,σ,rfl,rfl,Rep.tup2,Mem.le_refl σ,hw,Frm.drewN _ w q,fun b h h'=>absurd h h'⟩
def Xc(l:List Int)(k:Nat)(x:Int):List Int:=l.take k++x::l.drop k
theorem Za{x:Int}(h:k<=l.length):(Xc l k x).length=l.length+1:=by simp[Xc];omega
theorem Zc{j:Nat}{x:Int}(h:k<=l.length):(Xc l k x)[j]?=if j<k then l[j]?else if j=k then some x else l[j-1]?:=by
 unfold Xc;rw[x1u];simp only[q8n,Nat.min_eq_left h];by_cases h1:j<k
 ·rw[if_pos h1,if_pos h1,List.getElem?_take_of_lt h1]
 ·rw[if_neg h1,if_neg h1];by_cases h2:j=k
  ·subst h2;simp
  ·rw[if_neg h2,show j-k=(j-1-k)+1 by omega,List.getElem?_cons_succ,q9f];congr 1;omega
theorem B4(h:∀j,j<l.length->vs[j]?=(l[j]?).map (Value.int .i64)):∀(m:Nat)(x:AV),(l.map (AV.int .i64))[m]?=some x->x.cells.length=1/\∀(j:Nat)(c:AV),x.cells[j]?=some c->∃u:Value,vs[m*1+j]?=some u/\Rep σ c u:=
 AI fun j hj=>by rw[h j hj,q7g hj];rfl
theorem Frm.new(h:Frm (fun x=>x=w.heap.size) w w'):Frm (fun _=>False) w w':=
 ⟨h.os,h.tape,h.output,h.drawn,h.size,fun k hk _=>h.block k hk (by omega)⟩
theorem Wm(w:World)(o:Obj)(B:Nat->Prop):Frm B w (w.alloc o):=⟨rfl,rfl,rfl,q8z _,show w.heap.size<=(w.heap.push o).size by simp,fun k hk _=>heap_alloc_old w o hk⟩
theorem Be{b:Nat}{e:TypeId}(h:w.heap[b]?=some (.cells vs e (0,0))):w.shape? b=some (e,vs.size):=by
 simp[World.shape?,h]
theorem Y2(n:Nat):(Builtin.zeroCells (Value.int .i64 0).cells n).size=n:=by
 rw[size_zeroCells];exact x4w n
theorem LU(l:List Int)(k:Nat)(x:Int)(hk:k<=l.length)(hlen:l.length<=1000000000):
  SpecH prog 252 [.hd 2000 0 l.length,.p (.int .i64 k),.hd 1000 0 1] [(2000,.own 3 1 (l.map (.int .i64))),(1000,.own 3 1 [.int .i64 x])]
   (fun r H=>r=.hd 2000 0 (l.length+1)/\H=[(2000,.own 3 1 ((Xc l k x).map (.int .i64))),(1000,.own 3 1 [.int .i64 x])]):=by
 refine⟨call252,fun σ β w vals hn hv hH=>?_⟩;obtain⟨v,u,t,rfl⟩:=q5l hn;have hv1:RepL σ β (.hd 2000 0 l.length) v:=by simpa using hv 0 _ rfl
 have hv2:RepL σ β (.p (.int .i64 k)) u:=by simpa using hv 1 _ rfl
 have hv3:RepL σ β (.hd 1000 0 1) t:=by simpa using hv 2 _ rfl
 cases Ou hv2;have hil:=Za (x:=x) hk;obtain⟨cs,hcs⟩ : ∃cs,cs=l.map (Value.int .i64):=⟨_,rfl⟩;have hcl:cs.length=l.length:=by rw[hcs];simp
 have hcg:∀j:Nat,cs[j]?=(l[j]?).map (Value.int .i64):=fun j=>by rw[hcs];simp
 have h1c:∀v∈cs,v.oneCell'=true:=fun v hv=>by
  rw[hcs]at hv;obtain⟨z,_,rfl⟩:=q7s.1 hv;rfl
 have h1v:∀v∈[Value.int .i64 x],v.oneCell'=true:=fun v hv=>by
  rcases q7m.1 hv with rfl;rfl
 have hch1:(Chunk.own 3 1 [.int .i64 x]).holds σ β w 1000:=hH.chunks 1000 _ (q7n _ q7d);rcases hch1 with⟨_,hes⟩|⟨iv,vv,hiv,hszv,hhv,hv5,hv6,hv7,hv8⟩
 ·cases hes
 have hte:=Jh hv3 hiv;subst hte;have hvx:vv[0]?=some (.int .i64 x):=by
  have:=L3 (σ:=σ) (l:=[x]) hv8 (j:=0) (by simp);simpa using this
 have hvs:∀j v,[Value.int .i64 x][j]?=some v->w.cell? ⟨iv.blk,0+j,none⟩=some v:=fun j v hj=>by
  rw[JG hhv]
  match j,hj with
  |0,hj=>cases hj;simpa using hvx
 have hv6':1<=iv.cap:=by simpa using hv6
 have hltv:=(hH.apart 1000 (by simp) iv hiv iv.blk iv.has_blk).2;have grown:∀(w':World)(vs':Array Value)(cap:Nat),Frm (fun x=>x=w.heap.size) w w'->w'.heap[w.heap.size]?=some (.cells vs' 3 (0,0))->vs'.size=cap->l.length+1<=cap->cap<=maxLen->
   (∀j,j<l.length+1->vs'[j]?=((Xc l k x)[j]?).map (Value.int .i64))->
   ∃β',RepL σ β' (.hd 2000 0 (l.length+1)) (.slice (some ⟨w.heap.size,0,none⟩) (l.length+1) cap)/\HRel σ β' [(2000,.own 3 1 ((Xc l k x).map (.int .i64))),(1000,.own 3 1 [.int .i64 x])] w'/\Later σ β [(2000,.own 3 1 (l.map (.int .i64))),(1000,.own 3 1 [.int .i64 x])] w σ β' [(2000,.own 3 1 ((Xc l k x).map (.int .i64))),(1000,.own 3 1 [.int .i64 x])] w':=by
  intro w' vs' cap hf hb hsz hle hmax hget;obtain⟨hH',hL⟩:=EK (c':=.own 3 1 ((Xc l k x).map (.int .i64))) (i':=⟨w.heap.size,cap,1,[],hmax⟩) hH (q8z _) hf.new rfl rfl (q8h.1 hb).1 (fun j d hj=>by
   simp at hj;rw[hj.2];rfl) (.inr ⟨⟨w.heap.size,cap,1,[],hmax⟩,vs',by simp[Lab.set],rfl,hb,by simp[hsz],by simp[hil,hle],hmax,B4 fun j hj=>hget j (by omega)⟩)
  refine⟨_,?_,hH',hL⟩;have:=x4z (σ:=σ) (β:=β.set 2000 (some ⟨w.heap.size,cap,1,[],hmax⟩)) 2000 0 (l.length+1) ⟨w.heap.size,cap,1,[],hmax⟩ 0 (by simp[Lab.set]) (by simpa using hle) (.inl (by simp));simpa using this
 rcases hH.chunks 2000 _ q7d with⟨hb0,hes⟩|⟨i,vs,hi,hsz,hh,h2,h3,h4,h5⟩
 ·have hl0:l=[]:=by simpa using hes
  subst hl0;obtain⟨rfl,_⟩:=B0 hv1 hb0;obtain rfl:k=0:=by simpa using hk
  have hc:=Any2.slices_Insert_int_end_grow KD none 0 0 iv.blk 0 1 iv.cap [] [.int .i64 x] w (by omega) (by omega) (by omega) (by omega) rfl rfl (fun _=>rfl) (fun _ h=>by cases h) hvs h1v;change Calls prog 252 _ _ _ at hc;refine hc.mono ?_;rintro e w' ⟨rfl,rfl⟩;have hge:=grownCap_ge w (0+1) 0 (Tryz.laysI_ren.t 3);have hmx:=grownCap_le_maxLen w (0+1) 0 (Tryz.laysI_ren.t 3) (by unfold maxLen;omega);generalize grownCap w (0+1) 0 (Tryz.laysI_ren.t 3)=cap at hge hmx⊢;obtain⟨A,hA⟩ : ∃A,A=([]++[Value.int .i64 x]:List Value).toArray++Builtin.zeroCells (Value.int .i64 0).cells (cap-(0+1)):=⟨_,rfl⟩;rw[<-hA];obtain⟨β',g1,g2,g3⟩:=grown _ A cap ((Frm.drewN _ w 1).trans (Wm _ _ _)) (heap_alloc_new w.drew _) (by rw[hA];simp[Y2];omega) hge hmx (fun j hj=>by
   have hj0:j=0:=by simpa using hj
   subst hj0;rw[hA,x1r (by simp)];rfl)
  exact⟨_,_,σ,β',_,rfl,⟨rfl,rfl⟩,g1,g2,g3⟩
 ·have hve:=Jh hv1 hi;subst hve;have hlt:=(hH.apart 2000 (by simp) i hi i.blk i.has_blk).2;have hget:=fun j hj=>L3 (σ:=σ) (l:=l) h5 (j:=j) hj;have hne:iv.blk≠i.blk:=fun he=>by
   have:=hH.inj 1000 (by simp) 2000 (by simp) iv i hiv hi iv.blk iv.has_blk (.inl he.symm);omega
  have hcap:l.length<=i.cap:=by simpa using h3
  have hvsz:vs.size=i.cap:=by simpa using h2
  have hgetc:∀j v,cs[j]?=some v->w.cell? ⟨i.blk,0+j,none⟩=some v:=fun j v hj=>by
   rw[hcg]at hj;cases hq:l[j]?with
   |none=>rw[hq]at hj;cases hj
   | some z=>
     rw[hq]at hj;cases hj;obtain⟨hjl,rfl⟩:=q7t.1 hq;rw[JG hh,x0j,hget j hjl]
  have placed:∀(w':World)(vs':Array Value),Frm (fun x=>x=i.blk) w w'->w'.heap[i.blk]?=some (.cells vs' 3 (0,0))->vs'.size=i.cap->l.length+1<=i.cap->
    (∀j,j<l.length+1->vs'[j]?=((Xc l k x)[j]?).map (Value.int .i64))->
    RepL σ β (.hd 2000 0 (l.length+1)) (.slice (some ⟨i.blk,0,none⟩) (l.length+1) i.cap)/\HRel σ β [(2000,.own 3 1 ((Xc l k x).map (.int .i64))),(1000,.own 3 1 [.int .i64 x])] w'/\Later σ β [(2000,.own 3 1 (l.map (.int .i64))),(1000,.own 3 1 [.int .i64 x])] w σ β [(2000,.own 3 1 ((Xc l k x).map (.int .i64))),(1000,.own 3 1 [.int .i64 x])] w':=by
   intro w' vs' hf hb hsz' hle hget';obtain⟨hH',hL⟩:=Cv (c':=.own 3 1 ((Xc l k x).map (.int .i64))) hH hi hf (.inr ⟨i,vs',hi,hsz,hb,by simp[hsz'],by simp[hil,hle],h4,B4 fun j hj=>hget' j (by omega)⟩);refine⟨?_,hH',hL⟩;have:=x4z (σ:=σ) (β:=β) 2000 0 (l.length+1) i 0 hi (by simpa using hle) (.inl (by simp));simpa using this
  by_cases hroom:l.length+1<=i.cap
  ·by_cases hkn:k<l.length
   ·have hc:=Any2.slices_Insert_int_shift KD i.blk 0 l.length i.cap k iv.blk 0 1 iv.cap cs [.int .i64 x] w hkn (by omega) hroom h4 hne hcl rfl hgetc
     (fun j hj=>by rw[JG hh,x0j,q9n (by omega)];rfl) (fun j hj=>VV hh _) hvs h1c h1v _ _ _ _ (Be hhv) (Be hh) (by omega) (VV hhv _) (VV hhv _)
    change Calls prog 252 _ _ _ at hc;refine hc.mono ?_;rintro e w' ⟨rfl,rfl⟩;obtain⟨s1,s2⟩:=ZE (cs.drop k) (0+(k+1)) (w:=w.drew) hh;obtain⟨s3,s4⟩:=ZE [Value.int .i64 x] (0+k) s1;have hdl:(cs.drop k).length=l.length-k:=by simp[hcl]
    obtain⟨g1,g2,g3⟩:=placed _ _ (((Frm.drewN _ w 1).trans s2).trans s4) s3 (by rw[VA,VA,hvsz]) hroom (fun j hj=>by
     rw[GB _ _ _ _ (by rw[VA];simp;omega),GB _ _ _ _ (by rw[hdl];omega),Zc hk,hdl];simp only[x0j,q8p];by_cases e1:j<k
     ·rw[if_neg (by omega),if_neg (by omega),if_pos e1,hget j (by omega),q7g (by omega)];rfl
     ·rw[if_neg e1];by_cases e2:j=k
      ·subst e2;rw[if_pos (by omega),if_pos rfl];simp
      ·rw[if_neg (by omega),if_pos (by omega),if_neg e2,q9f,hcg];congr 2;omega)
    exact⟨_,_,σ,β,_,rfl,⟨rfl,rfl⟩,g1,g2,g3⟩
   ·obtain rfl:k=l.length:=by omega
    have hc:=Any2.slices_Insert_int_end_room KD i.blk 0 l.length i.cap iv.blk 0 1 iv.cap [.int .i64 x] w (by omega) hroom h4 rfl
     (fun j hj=>by rw[JG hh,q9n (by omega)];rfl) (fun j hj=>VV hh _) hvs h1v
    change Calls prog 252 _ _ _ at hc;refine hc.mono ?_;rintro e w' ⟨rfl,rfl⟩;obtain⟨s3,s4⟩:=ZE [Value.int .i64 x] (0+l.length) hh;obtain⟨g1,g2,g3⟩:=placed _ _ s4 s3 (by rw[VA,hvsz]) hroom (fun j hj=>by
     rw[GB _ _ _ _ (by simp;omega),Zc hk];simp only[x0j,q8p];by_cases e1:j<l.length
     ·rw[if_neg (by omega),if_pos e1,hget j (by omega),q7g (by omega)];rfl
     ·obtain rfl:j=l.length:=by omega
      simp)
    exact⟨_,_,σ,β,_,rfl,⟨rfl,rfl⟩,g1,g2,g3⟩
  ·by_cases hkn:k<l.length
   ·have hc:=Any2.slices_Insert_int_grow KD i.blk 0 l.length i.cap k iv.blk 0 1 iv.cap cs [.int .i64 x] w hkn (by omega) hcap (by omega) (by omega) hcl rfl hgetc hvs h1c h1v;change Calls prog 252 _ _ _ at hc;refine hc.mono ?_;rintro e w' ⟨rfl,rfl⟩;have hge:=grownCap_ge w (l.length+1) i.cap (Tryz.laysI_ren.t 3);have hmx:=grownCap_le_maxLen w (l.length+1) i.cap (Tryz.laysI_ren.t 3) (by unfold maxLen;omega);generalize grownCap w (l.length+1) i.cap (Tryz.laysI_ren.t 3)=cap at hge hmx⊢;have hdl:(cs.drop k).length=l.length-k:=by simp[hcl]
    obtain⟨A,hA⟩ : ∃A,A=(cs.take k).toArray++Builtin.zeroCells (Value.int .i64 0).cells (l.length+1-k)++Builtin.zeroCells (Value.int .i64 0).cells (cap-(l.length+1)):=⟨_,rfl⟩;have hAs:A.size=cap:=by rw[hA];simp[Y2,hcl];omega
    have hAg:∀j,j<k->A[j]?=(l[j]?).map (Value.int .i64):=fun j hj=>by
     rw[hA,x1r (by simp[hcl];omega),x1r (by simp[hcl];omega)];simp[hj,hcg]
    rw[<-hA];have s0:(w.alloc (.cells A (Tryz.laysI_ren.t 3))).drew.heap[w.heap.size]?=some (.cells A 3 (0,0)):=heap_alloc_new w _;obtain⟨s1,s2⟩:=ZE [Value.int .i64 x] k s0;obtain⟨s3,s4⟩:=ZE (cs.drop k) (k+1) (w:=(((w.alloc (.cells A (Tryz.laysI_ren.t 3))).drew.setCells w.heap.size k [Value.int .i64 x]).drew)) s1;obtain⟨β',g1,g2,g3⟩:=grown _ _ cap ((((Wm w _ _).trans (Frm.drewN _ _ 1)).trans s2).trans ((Frm.drewN _ _ 1).trans s4)) s3 (by rw[VA,VA,hAs]) hge hmx (fun j hj=>by
     rw[GB _ _ _ _ (by rw[VA];omega),GB _ _ _ _ (by simp;omega),Zc hk,hdl];simp only[q8p];by_cases e1:j<k
     ·rw[if_neg (by omega),if_neg (by omega),if_pos e1,hAg j e1]
     ·rw[if_neg e1];by_cases e2:j=k
      ·subst e2;rw[if_neg (by omega),if_pos (by omega),if_pos rfl];simp
      ·rw[if_pos (by omega),if_neg e2,q9f,hcg];congr 2;omega)
    exact⟨_,_,σ,β',_,rfl,⟨rfl,rfl⟩,g1,g2,g3⟩
   ·obtain rfl:k=l.length:=by omega
    have hc:=Any2.slices_Insert_int_end_grow KD (some ⟨i.blk,0,none⟩) l.length i.cap iv.blk 0 1 iv.cap cs [.int .i64 x] w (by omega) hcap (by omega) (by omega) hcl rfl (fun h=>by cases h) (fun a ha j v hj=>by
     cases ha;rw[Addr.add_lit];exact hgetc j v hj) hvs h1v
    change Calls prog 252 _ _ _ at hc;refine hc.mono ?_;rintro e w' ⟨rfl,rfl⟩;have hge:=grownCap_ge w (l.length+1) i.cap (Tryz.laysI_ren.t 3);have hmx:=grownCap_le_maxLen w (l.length+1) i.cap (Tryz.laysI_ren.t 3) (by unfold maxLen;omega);generalize grownCap w (l.length+1) i.cap (Tryz.laysI_ren.t 3)=cap at hge hmx⊢;obtain⟨A,hA⟩ : ∃A,A=(cs++[Value.int .i64 x]).toArray++Builtin.zeroCells (Value.int .i64 0).cells (cap-(l.length+1)):=⟨_,rfl⟩;rw[<-hA];obtain⟨β',g1,g2,g3⟩:=grown _ A cap ((Frm.drewN _ w 1).trans (Wm _ _ _)) (heap_alloc_new w.drew _) (by rw[hA];simp[Y2,hcl];omega) hge hmx (fun j hj=>by
     rw[hA,x1r (by simp[hcl];omega),Zc hk];simp only[x3l,x1u,hcl];by_cases e1:j<l.length
     ·rw[if_pos e1,if_pos e1,hcg]
     ·obtain rfl:j=l.length:=by omega
      simp)
    exact⟨_,_,σ,β',_,rfl,⟨rfl,rfl⟩,g1,g2,g3⟩
def avI(rows:List (List Int)):List (List AV):=rows.map fun r=>r.map (.int .i64)
def Xs(n:Nat)(N P:List (List Int)):Heap:=[(1000,.obj 230 [.hd 2001 0 n,.hd 2002 0 n]),(2001,.ext (.mat 29 3 1 (avI N) [])),(2002,.ext (.mat 29 3 1 (avI P) []))]
def ZG(n:Nat)(a:Int):Bool:=decide (0<=a)&&decide (a<n)
theorem Gm(n:Nat)(N P:List (List Int))(a:Int):
  SpecH prog 185 [.ptr 1000 0,.p (.int .i64 a)] (Xs n N P) (fun r H=>r=.p (.bool (ZG n a))/\H=Xs n N P):=by
 refine sH KJ func185 rfl call185 ?_;conv=>whnf
 repeat' (apply bD<;>intro _<;>first|omega|conv=>whnf)
 ·exact⟨_,q8m (Sub.bool (by unfold ZG;simp;omega)),rfl,rfl⟩
 ·exact⟨_,q8m (Sub.ff (by unfold ZG;simp;omega)),rfl,rfl⟩
def q6y(N:List (List Int)):Prop:=∀r∈N,r.Pairwise (· <= ·)/\r.length<=100000000
def Ji(N:List (List Int))(a:Nat)(b:Int):List (List Int):=N.set a (Xc (N.getD a []) ((N.getD a []).countP (· < b)) b)
theorem TP{N:List (List Int)}{i:Nat}(hi:i<N.length)(b:Int):avI (Ji N i b)=(avI N).set i ((Xc N[i] (N[i].countP (· < b)) b).map (.int .i64)):=by
 unfold avI Ji;rw[q9k];simp[hi]
theorem Da(n:Nat)(N P:List (List Int))(a b:Int)(hN:N.length=n)(hP:P.length=n)(hn:n<=5000)(sN:q6y N)(sP:q6y P):
  SpecH prog 224 [.ptr 1000 0,.p (.int .i64 a),.p (.int .i64 b)] (Xs n N P) (fun r H=>∃t,r=.p (.bool t)/\H=Xs n
   (bif ZG n a&&ZG n b && !(N.getD a.toNat []).contains b then Ji N a.toNat b else N) (bif ZG n a&&ZG n b && !(N.getD a.toNat []).contains b then Ji P b.toNat a else P)):=by
 refine sH Q0 func224 rfl call224 ?_;conv=>whnf
 repeat' (first|(refine q7p rfl ?_;conv=>whnf)|(apply bN<;>intro _<;>conv=>whnf)|(refine CallK.heap [(1000,1000),(2001,2001),(2002,2002)] 0 (by repeat' (first|exact q8c|refine q8w ?_ ?_|exact q8k _|exact q8m Sub.nils|exact q8m (Sub.tt rfl)|exact q8m (Sub.ff rfl)|exact q8m (Sub.int (by omega)))) (by refine q8x (j:=1000) rfl rfl ?_ ?_;exact CSub.refl _;refine q8x (j:=2001) rfl rfl ?_ ?_;exact CSub.refl _;refine q8x (j:=2002) rfl rfl ?_ ?_;exact CSub.refl _;exact q8a) (Gm n N P _) rfl rfl ?_;rintro l' H' ⟨rfl,rfl⟩;conv=>whnf))
 rotate_left 1
 ·exact⟨_,q8m (Sub.ff rfl),false,rfl,by simp[*];rfl⟩
 ·exact⟨_,q8m (Sub.ff rfl),false,rfl,by simp[*];rfl⟩
 have ha:0<=a/\a<n:=by rename_i h _;unfold ZG at h;simpa using h
 have hb:0<=b/\b<n:=by rename_i h;unfold ZG at h;simpa using h
 have hA:ZG n a=true:=by assumption
 have hB:ZG n b=true:=by assumption
 obtain⟨i,rfl⟩ : ∃i:Nat,a=i:=⟨a.toNat,by omega⟩;obtain⟨j,rfl⟩ : ∃j:Nat,b=j:=⟨b.toNat,by omega⟩;have hi:i<N.length:=by omega
 have hj:j<P.length:=by omega
 obtain⟨sn1,sn2⟩:=sN _ (q7i hi);obtain⟨sp1,sp2⟩:=sP _ (q7i hj);have hNi:(avI N)[i]?=some (N[i].map (.int .i64)):=by unfold avI;simp[hi]
 have hPj:(avI P)[j]?=some (P[j].map (.int .i64)):=by unfold avI;simp[hj]
 have gN:N.getD (i:Int).toNat []=N[i]:=by simp[hi]
 have gP:P.getD (j:Int).toNat []=P[j]:=by simp[hj]
 refine q9x i rfl (by omega) ?_;conv=>whnf
 repeat' (first|(refine RowK.mk i _ (by omega) hNi (by simp) ?_;conv=>whnf)|(apply bB<;>intro _<;>conv=>whnf)|(refine XU (YY N[i] j sn1 (by omega)) (.cons (.row rfl hNi (by simp)) (.cons (.p (Sub.refl _)) .nil)) (by rintro _ rfl;rfl) ?_;rintro _ rfl;conv=>whnf))
 ·exact⟨_,q8m (Sub.ff rfl),false,rfl,by rw[gN,hA,hB,show N[i].contains (j:Int)=true by assumption];rfl⟩
 have hcn:N[i].countP (· < (j:Int))<=N[i].length:=x3m;refine LM ⟨[(0,.ptr 1000 0),(1,.p (.int .i64 i)),(2,.p (.int .i64 j))],Xs n (Ji N i j) P⟩ ?_ ?_
 ·refine DrawK.of QK mixed (.cons 13 true (.cons 0 false (.cons 1 false (.cons 2 false (.cons 4 false (.cons 5 false (.cons 6 false (.cons 7 false (.cons 9 false (.alo 8 (.alo 10 (.alo 11 (.alo 12 (.fork 3 (.cons 14 true (.cons 15 true (.cons 16 true (.cons 17 true .nil)))) 14 (.fork 3 (.cons 15 true (.cons 16 true (.cons 17 true .nil))) 15 (.cons 3 true (.cons 16 true (.cons 17 true .nil)))))))))))))))))) (by kernel_rfl) ?_;conv=>whnf
  repeat' (first|((first|refine q7p rfl ?_|refine aD ?_|refine q9x i rfl (by omega) ?_|refine RowK.mk i _ (by omega) hNi (by simp) ?_|refine x3e (fun x hx=>by rcases q7m.1 hx with rfl;rfl) rfl ?_|(refine HR QK rfl rfl rfl rfl rfl rfl rfl rfl rfl (by decide) i [] (by omega) (by unfold avI;rw[q7f];omega) (by rw[q7f,Za hcn]) ⟨by simp,by simp,by simp⟩ ?_));conv=>whnf)|(refine CallK.focus 2001 i 1 rfl rfl hNi (by simp) rfl (.row (.cons rfl (.cons rfl .nil))) ?_;conv=>whnf)|(refine CallK.heap [(2000,1),(1000,0)] 0 (q8w (x2b (by rw[q7f];rfl)) (q8w (q8k _) (q8w (q8k _) q8c))) (by refine q8x (j:=1) rfl rfl ?_ ?_;exact CSub.refl _;refine q8x (j:=0) rfl rfl ?_ ?_;exact CSub.refl _;exact q8a) (LU N[i] (N[i].countP (· < (j:Int))) j hcn (by omega)) rfl rfl ?_;rintro l' H' ⟨rfl,rfl⟩;conv=>whnf)|(refine q7p ?_ ?_<;>conv=>whnf))
  all_goals exact Le.of_eq (by unfold Xs;rw[TP hi])
 conv=>whnf
 have hcp:P[j].countP (· < (i:Int))<=P[j].length:=x3m;repeat' (first|((first|refine q7p rfl ?_|refine q9x j rfl (by omega) ?_|refine RowK.mk j _ (by omega) hPj (by simp) ?_);conv=>whnf)|(refine XU (YY P[j] i sp1 (by omega)) (.cons (.row rfl hPj (by simp)) (.cons (.p (Sub.refl _)) .nil)) (by rintro _ rfl;rfl) ?_;rintro _ rfl;conv=>whnf))
 refine LM ⟨[],Xs n (Ji N i j) (Ji P j i)⟩ ?_ ?_
 ·refine DrawK.of QK mixed (.cons 13 true (.cons 0 false (.cons 1 false (.cons 2 false (.cons 4 false (.cons 5 false (.cons 6 false (.cons 7 false (.cons 9 false (.alo 8 (.alo 10 (.alo 11 (.alo 12 (.fork 3 (.cons 14 true (.cons 15 true (.cons 16 true (.cons 17 true .nil)))) 14 (.fork 3 (.cons 15 true (.cons 16 true (.cons 17 true .nil))) 15 (.cons 3 true (.cons 16 true (.cons 17 true .nil)))))))))))))))))) (by kernel_rfl) ?_;conv=>whnf
  repeat' (first|((first|refine q7p rfl ?_|refine aD ?_|refine q9x j rfl (by omega) ?_|refine RowK.mk j _ (by omega) hPj (by simp) ?_|refine x3e (fun x hx=>by rcases q7m.1 hx with rfl;rfl) rfl ?_|(refine HR QK rfl rfl rfl rfl rfl rfl rfl rfl rfl (by decide) j [] (by omega) (by unfold avI;rw[q7f];omega) (by rw[q7f,Za hcp]) ⟨by simp,by simp,by simp⟩ ?_));conv=>whnf)|(refine CallK.focus 2002 j 1 rfl rfl hPj (by simp) rfl (.row (.cons rfl (.cons rfl .nil))) ?_;conv=>whnf)|(refine CallK.heap [(2000,1),(1000,0)] 0 (q8w (x2b (by rw[q7f];rfl)) (q8w (q8k _) (q8w (q8k _) q8c))) (by refine q8x (j:=1) rfl rfl ?_ ?_;exact CSub.refl _;refine q8x (j:=0) rfl rfl ?_ ?_;exact CSub.refl _;exact q8a) (LU P[j] (P[j].countP (· < (i:Int))) i hcp (by omega)) rfl rfl ?_;rintro l' H' ⟨rfl,rfl⟩;conv=>whnf)|(refine q7p ?_ ?_<;>conv=>whnf))
  all_goals exact Le.of_eq (by unfold Xs;rw[TP hj])
 conv=>whnf
 skip
 exact⟨_,q8m (Sub.tt rfl),true,rfl,by rw[gN,hA,hB,show N[i].contains (j:Int)=false by assumption];rfl⟩
end Go.Ab
