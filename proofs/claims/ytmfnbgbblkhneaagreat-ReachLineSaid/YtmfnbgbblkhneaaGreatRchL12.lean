/- The library's contracts on rows, as contracts on rows of the caller's own: slices.BinarySearch, slices.Insert at int. Conditions: the rows' lengths. -/
import Derived.Test.YtmfnbgbblkhneaaGreatRchL11
set_option linter.unusedSimpArgs false
set_option linter.unusedVariables false
set_option maxRecDepth 100000
set_option maxHeartbeats 16000000
namespace Go.Ab
open Go.Proofs.Tryz
open Go.Proofs Go.Sort
variable {k:Nat}{l:List Int}{vs:Array Value}{w w':World}{β:Lab}{σ:Mem}
theorem Frm.trans{B:Nat->Prop}{w w' w'':World}(h:Frm B w w')(k:Frm B w' w''):Frm B w w'':=
 ⟨k.os.trans h.os,k.tape.trans h.tape,k.output.trans h.output,x4k h.drawn k.drawn,x4k h.size k.size,fun j hj hn=>(k.block j (x6a hj h.size) hn).trans (h.block j hj hn)⟩
theorem Frm.weak{B B':Nat->Prop}(h:Frm B w w')(hB:∀k,B k->B' k):Frm B' w w':=
 ⟨h.os,h.tape,h.output,h.drawn,h.size,fun j hj hn=>h.block j hj fun hb=>hn (hB j hb)⟩
theorem Frm.drewN(B:Nat->Prop)(w:World)(n:Nat):Frm B w (w.drewN n):=⟨rfl,rfl,rfl,Nat.le_add_right _ _,x3g _,fun _ _ _=>rfl⟩
theorem E5{c c':Chunk}{rest:Heap}{i:BInfo}(h:HRel σ β ((k,c)::rest) w)(hi:β k=some i)(hf:Frm (fun b=>b=i.blk) w w')(hnew:c'.holds σ β w' k):HRel σ β ((k,c')::rest) w'/\Later σ β ((k,c)::rest) w σ β ((k,c')::rest) w':=by
 have hap:=h.apart k (by simp) i hi;have hkr:∀j∈rest.map (·.1),j≠k:=fun j hj he=>by
  have:=h.nodup;simp only[x3l,x4r]at this;exact this.1 (he▸hj)
 refine⟨⟨fun b cs hb=>?_,fun j d hj=>?_,h.nodup,fun j hj i' hi' b hb=>?_,h.inj⟩,Mem.le_refl σ,⟨hf.os,hf.tape,hf.output,hf.drawn,hf.size,fun b hb hn=>hf.block b hb fun he=>hn ⟨k,by simp,i,hi,.inl he.symm⟩⟩,
  fun b h0 h1=>absurd h0 h1,fun b ho=>.inl ho,fun _ _ _=>rfl⟩
 ·obtain⟨e,fr,hh⟩:=h.mem b cs hb;exact⟨e,fr,(hf.block b (x3r.1 hh).1 fun he=>by rw[he,(hap _ i.has_blk).1]at hb;cases hb).trans hh⟩
 ·rcases x2i.1 hj with he|hj
  ·cases he;exact hnew
  ·have hjm:j∈rest.map (·.1):=x3q.2 ⟨_,hj,rfl⟩;refine(h.chunks j d (x2c _ hj)).mono (Mem.le_refl σ) fun i' hi' b hb=>hf.block b (h.apart j (x2c _ hjm) i' hi' b hb).2 fun he=>?_;exact hkr j hjm (h.inj j (x2c _ hjm) k (by simp) i' i hi' hi b hb (.inl he.symm))
 ·have:=h.apart j hj i' hi' b hb;exact⟨this.1,x6a this.2 hf.size⟩
theorem OD{c c':Chunk}{rest:Heap}{i':BInfo}(h:HRel σ β ((k,c)::rest) w)(hk:2000<=k)(hf:Frm (fun _=>False) w w')(hb:i'.blk=w.heap.size)(hs:i'.subs=[])(hlt:w.heap.size<w'.heap.size)(hfree:∀j d,(j,d)∈rest->d.free k=true)(hnew:c'.holds σ (β.set k (some i')) w' k):
  HRel σ (β.set k (some i')) ((k,c')::rest) w'/\Later σ β ((k,c)::rest) w σ (β.set k (some i')) ((k,c')::rest) w':=by
 have hkr:∀j∈rest.map (·.1),j≠k:=fun j hj he=>by
  have:=h.nodup;simp only[x3l,x4r]at this;exact this.1 (he▸hj)
 have hset:∀j,j≠k->(β.set k (some i')) j=β j:=fun j hj=>by simp[Lab.set,hj]
 have hsetk:(β.set k (some i')) k=some i':=by simp[Lab.set]
 have hhas:∀b,i'.has b->b=w.heap.size:=fun b hbb=>by
  rcases hbb with hbb|⟨_,hbb⟩
  ·rw[<-hbb,hb]
  ·rw[hs]at hbb;cases hbb
 refine⟨⟨fun b cs hb=>?_,fun j d hj=>?_,h.nodup,fun j hj i1 hi1 b hb=>?_,fun j hj j' hj' i1 i2 h1 h2 b hb1 hb2=>?_⟩,Mem.le_refl σ,hf.weak fun _ h=>h.elim,
  fun b h0 h1=>absurd h0 h1,fun b ⟨j,hj,i1,h1,hb1⟩=>?_,fun j h0 h1=>hset j (by omega)⟩
 ·obtain⟨e,fr,hh⟩:=h.mem b cs hb;exact⟨e,fr,(hf.block b (x3r.1 hh).1 id).trans hh⟩
 ·rcases x2i.1 hj with he|hj
  ·cases he;exact hnew
  ·have hjm:j∈rest.map (·.1):=x3q.2 ⟨_,hj,rfl⟩;exact((h.chunks j d (x2c _ hj)).mono (Mem.le_refl σ) fun i1 hi1 b hb=>hf.block b (h.apart j (x2c _ hjm) i1 hi1 b hb).2 id).set _ (hkr j hjm) (hfree j d hj)
 ·by_cases hjk:j=k
  ·subst hjk;rw[hsetk]at hi1;cases hi1;have hbs:=hhas b hb;refine⟨?_,by omega⟩;cases hσ:σ b with
   |none=>rfl
   | some cs=>
     obtain⟨e,fr,hh⟩:=h.mem b cs hσ;have:=(x3r.1 hh).1;omega
  ·rw[hset j hjk]at hi1;have:=h.apart j hj i1 hi1 b hb;exact⟨this.1,x6a this.2 hf.size⟩
 ·by_cases hjk:j=k<;>by_cases hjk':j'=k
  ·rw[hjk,hjk']
  ·subst hjk;rw[hsetk]at h1;cases h1;rw[hset j' hjk']at h2;have:=(h.apart j' hj' i2 h2 b hb2).2;have:=hhas b hb1;omega
  ·subst hjk';rw[hsetk]at h2;cases h2;rw[hset j hjk]at h1;have:=(h.apart j hj i1 h1 b hb1).2;have:=hhas b hb2;omega
  ·rw[hset j hjk]at h1;rw[hset j' hjk']at h2;exact h.inj j hj j' hj' i1 i2 h1 h2 b hb1 hb2
 ·by_cases hjk:j=k
  ·subst hjk;rw[hsetk]at h1;cases h1;exact .inr (by rw[hhas b hb1];exact x3g _)
  ·rw[hset j hjk]at h1;exact .inl ⟨j,hj,i1,h1,hb1⟩
def q4v(cs:Array Value):Nat->List Value->Array Value
 |_,[]=>cs
 |o,v::r=>q4v (cs.setIfInBounds o v) (o+1) r
theorem VO:∀(vs:List Value)(cs:Array Value)(o:Nat),(q4v cs o vs).size=cs.size
 |[],_,_=>rfl
 |v::r,cs,o=>by rw[q4v,VO r];simp
theorem HR:∀(vs:List Value)(cs:Array Value)(o j:Nat),o+vs.length<=cs.size->(q4v cs o vs)[j]?=if o<=j/\j<o+vs.length then vs[j-o]?else cs[j]?
 |[],cs,o,j,_=>by simp[q4v];intros;omega
 | v::r,cs,o,j,h=>by
   simp only[x4q]at h;rw[q4v,HR r _ (o+1) j (by simp;omega)];simp only[x4q];by_cases h1:j=o
   ·subst h1;rw[if_neg (by omega),if_pos (by omega),Array.getElem?_setIfInBounds_self_of_lt (by omega)];simp
   ·by_cases h2:o+1<=j/\j<o+1+r.length
    ·rw[if_pos h2,if_pos (by omega),show j-o=(j-(o+1))+1 by omega];simp
    ·rw[if_neg h2,if_neg (by omega),x6t (x6o h1)]
theorem WX{b:Nat}{e:TypeId}:∀(vs:List Value)(o:Nat){w:World}{cs:Array Value},w.heap[b]?=some (.cells cs e (0,0))->
  (w.setCells b o vs).heap[b]?=some (.cells (q4v cs o vs) e (0,0))/\Frm (fun x=>x=b) w (w.setCells b o vs)
 |[],_,w,cs,h=>⟨h,Frm.refl _ _⟩
 | v::r,o,w,cs,h=>by
   have h1:(w.setCell ⟨b,o,none⟩ v).heap[b]?=some (.cells (cs.setIfInBounds o v) e (0,0)):=by
    simp[World.setCell,x7z,h]
   have h2:Frm (fun x=>x=b) w (w.setCell ⟨b,o,none⟩ v):=⟨rfl,rfl,rfl,x3g _,by simp[World.setCell],fun k _ hn=>by simp[World.setCell,x7z,x6o hn]⟩;obtain⟨h3,h4⟩:=WX r (o+1) h1;exact⟨h3,h2.trans h4⟩
theorem RT(h:∀(m:Nat)(x:AV),(l.map (AV.int .i64))[m]?=some x->x.cells.length=1/\∀(j:Nat)(c:AV),x.cells[j]?=some c->∃u:Value,vs[m*1+j]?=some u/\Rep σ c u){j:Nat}(hj:j<l.length):
  vs[j]?=some (.int .i64 l[j]):=by
 obtain⟨u,h1,h2⟩:=(h j (.int .i64 l[j]) (by simp[hj])).2 0 (.int .i64 l[j]) rfl;cases h2 with
 |int=>simpa using h1
theorem IL(h:∀j (hj:j<l.length),vs[j]?=some (.int .i64 l[j])):∀(m:Nat)(x:AV),(l.map (AV.int .i64))[m]?=some x->x.cells.length=1/\∀(j:Nat)(c:AV),x.cells[j]?=some c->∃u:Value,vs[m*1+j]?=some u/\Rep σ c u:=by
 intro m x hx;rw[x2e]at hx;cases hq:l[m]?with
 |none=>rw[hq]at hx;cases hx
 | some s=>
   rw[hq]at hx;cases hx;obtain⟨hm,rfl⟩:=x2o.1 hq;refine⟨rfl,fun j c hj=>?_⟩;have hj0:j=0:=by
    have:=(x2o.1 hj).1;simpa[AV.cells]using this
   subst hj0;simp only[AV.cells,x8n,x6r]at hj;subst hj;exact⟨_,by simpa using h m hm,.int _ _⟩
theorem q4i{vals:Array Value}{l l':LV}(h:vals.size=[l,l'].length):∃v u,vals=#[v,u]:=by
 obtain⟨vs⟩:=vals
 match vs,h with
 |[a,b],_=>exact⟨a,b,rfl⟩
theorem x0s{vals:Array Value}{l l' l'':LV}(h:vals.size=[l,l',l''].length):∃v u t,vals=#[v,u,t]:=by
 obtain⟨vs⟩:=vals
 match vs,h with
 |[a,b,c],_=>exact⟨a,b,c,rfl⟩
theorem q3z{k:IntKind}{n:Int}{v:Value}(h:RepL σ β (.p (.int k n)) v):v=.int k n:=by
 cases h with
 |p h=>cases h;rfl
theorem Rep.tup2{n:Int}{b:Bool}:Rep σ (.tup [.int .i64 n,.bool b]) (.tuple #[.int .i64 n,.bool b]):=
 .tup _ _ (fun j=>(#[Value.int .i64 n,.bool b]).getD j undef) rfl (fun j c hj=>by
  match j,hj with
  |0,_=>rfl
  |1,_=>rfl) (fun j c hj=>by
  match j,hj with
  |0,hj=>cases hj;exact .int _ _
  |1,hj=>cases hj;exact .bool _)
theorem YS(l:List Int)(x:Int)(hs:l.Pairwise (· <= ·))(hlen:l.length<=1000000000):
  SpecP prog 251 [.sl (l.map (.int .i64)),.int .i64 x] (fun r=>r=.tup [.int .i64 (l.countP (· < x):Nat),.bool (l.contains x)]):=by
 refine⟨call251,fun σ w vals hn hv hw=>?_⟩;obtain⟨v,u,rfl⟩:=q4i (l:=.p .und) (l':=.p .und) hn;have hv1:Rep σ (.sl (l.map (.int .i64))) v:=by simpa using hv 0 _ rfl
 have hv2:Rep σ (.int .i64 x) u:=by simpa using hv 1 _ rfl
 obtain rfl:u=.int .i64 x:=by cases hv2;rfl
 have empty:∀a c,l=[]->Calls prog 251 #[.slice a 0 c,.int .i64 x] w fun e w'=>∃c u σ',e=.returned u/\c=AV.tup [.int .i64 (l.countP (· < x):Nat),.bool (l.contains x)]/\Rep σ' c u/\σ.le σ'/\σ'.lies w'/\Frm (fun _=>False) w w'/\∀b,σ b=none->σ' b≠none->w.heap.size<=b:=by
  intro a c hl;subst hl;have hc:=Any.slices_BinarySearch_int_empty K5 a c x w;change Calls prog 251 _ _ _ at hc;refine hc.mono ?_;rintro e w' ⟨rfl,rfl⟩;exact⟨_,_,σ,rfl,rfl,Rep.tup2,Mem.le_refl σ,hw,Frm.refl _ _,fun b h h'=>absurd h h'⟩
 generalize hes:l.map (AV.int .i64)=es at hv1;cases hv1 with
 |nilsl=>exact empty _ _ (by simpa using hes)
 |slz b=>exact empty _ _ (by simpa using hes)
 | sl _ b off cap sz cells ug hb hcap hmax hsz hc hr=>
   subst hes;by_cases hl:l=[]
   ·have:=empty (some ⟨b,off,none⟩) cap hl;subst hl;exact this
   ·have hl0:0<l.length:=x9m.2 hl;have hsz1:sz=1:=(hsz 0 (.int .i64 l[0]) (by simp[hl0])).symm;subst hsz1;obtain⟨e,fr,hh⟩:=hw b cells hb;rw[x2m];have hcc:=Any.slices_BinarySearch_int K5 b off l.length cap l x w (x3g _) (by omega) (fun j hj=>by
     have h1:=hc j (.int .i64 l[j]) 0 (.int .i64 l[j]) (by simp[hj]) rfl;have h2:=hr j (.int .i64 l[j]) 0 (.int .i64 l[j]) (by simp[hj]) rfl;rw[show w.cell? ⟨b,off+j,none⟩=cells[off+j]? by simp[World.cell?,hh]];simp only[x9c,x8u]at h1;rw[h1];generalize ug j 0=z at h2;cases h2;simp[hj]) (by rw[x8x];exact hs)
    change Calls prog 251 _ _ _ at hcc;refine hcc.mono ?_;rintro e w' ⟨rfl,q,rfl⟩;rw[x8x];exact⟨_,_,σ,rfl,rfl,Rep.tup2,Mem.le_refl σ,hw,Frm.drewN _ w q,fun b h h'=>absurd h h'⟩
def W5(l:List Int)(k:Nat)(x:Int):List Int:=l.take k++x::l.drop k
theorem Vz{x:Int}(h:k<=l.length):(W5 l k x).length=l.length+1:=by simp[W5];omega
theorem Vx{j:Nat}{x:Int}(h:k<=l.length):(W5 l k x)[j]?=if j<k then l[j]?else if j=k then some x else l[j-1]?:=by
 unfold W5;rw[x6c];simp only[x3m,Nat.min_eq_left h];by_cases h1:j<k
 ·rw[if_pos h1,if_pos h1,List.getElem?_take_of_lt h1]
 ·rw[if_neg h1,if_neg h1];by_cases h2:j=k
  ·subst h2;simp
  ·rw[if_neg h2,show j-k=(j-1-k)+1 by omega,x8p,x4c];congr 1;omega
theorem Ny(h:∀j,j<l.length->vs[j]?=(l[j]?).map (Value.int .i64)):∀(m:Nat)(x:AV),(l.map (AV.int .i64))[m]?=some x->x.cells.length=1/\∀(j:Nat)(c:AV),x.cells[j]?=some c->∃u:Value,vs[m*1+j]?=some u/\Rep σ c u:=
 IL fun j hj=>by rw[h j hj,x2n hj];rfl
theorem Frm.new(h:Frm (fun x=>x=w.heap.size) w w'):Frm (fun _=>False) w w':=
 ⟨h.os,h.tape,h.output,h.drawn,h.size,fun k hk _=>h.block k hk (by omega)⟩
theorem U1(w:World)(o:Obj)(B:Nat->Prop):Frm B w (w.alloc o):=⟨rfl,rfl,rfl,x3g _,show w.heap.size<=(w.heap.push o).size by simp,fun k hk _=>heap_alloc_old w o hk⟩
theorem Mq{b:Nat}{e:TypeId}(h:w.heap[b]?=some (.cells vs e (0,0))):w.shape? b=some (e,vs.size):=by
 simp[World.shape?,h]
theorem Jg(n:Nat):(Builtin.zeroCells (Value.int .i64 0).cells n).size=n:=by
 rw[size_zeroCells];exact x9c n
theorem Qr(l:List Int)(k:Nat)(x:Int)(hk:k<=l.length)(hlen:l.length<=1000000000):
  SpecH prog 252 [.hd 2000 0 l.length,.p (.int .i64 k),.hd 1000 0 1] [(2000,.own 3 1 (l.map (.int .i64))),(1000,.own 3 1 [.int .i64 x])]
   (fun r H=>r=.hd 2000 0 (l.length+1)/\H=[(2000,.own 3 1 ((W5 l k x).map (.int .i64))),(1000,.own 3 1 [.int .i64 x])]):=by
 refine⟨call252,fun σ β w vals hn hv hH=>?_⟩;obtain⟨v,u,t,rfl⟩:=x0s hn;have hv1:RepL σ β (.hd 2000 0 l.length) v:=by simpa using hv 0 _ rfl
 have hv2:RepL σ β (.p (.int .i64 k)) u:=by simpa using hv 1 _ rfl
 have hv3:RepL σ β (.hd 1000 0 1) t:=by simpa using hv 2 _ rfl
 cases q3z hv2;have hil:=Vz (x:=x) hk;obtain⟨cs,hcs⟩ : ∃cs,cs=l.map (Value.int .i64):=⟨_,rfl⟩;have hcl:cs.length=l.length:=by rw[hcs];simp
 have hcg:∀j:Nat,cs[j]?=(l[j]?).map (Value.int .i64):=fun j=>by rw[hcs];simp
 have h1c:∀v∈cs,v.oneCell'=true:=fun v hv=>by
  rw[hcs]at hv;obtain⟨z,_,rfl⟩:=x3q.1 hv;rfl
 have h1v:∀v∈[Value.int .i64 x],v.oneCell'=true:=fun v hv=>by
  rcases x2a.1 hv with rfl;rfl
 have hch1:(Chunk.own 3 1 [.int .i64 x]).holds σ β w 1000:=hH.chunks 1000 _ (x2c _ x2r);rcases hch1 with⟨_,hes⟩|⟨iv,vv,hiv,hszv,hhv,hv5,hv6,hv7,hv8⟩
 ·cases hes
 have hte:=G8 hv3 hiv;subst hte;have hvx:vv[0]?=some (.int .i64 x):=by
  have:=RT (σ:=σ) (l:=[x]) hv8 (j:=0) (by simp);simpa using this
 have hvs:∀j v,[Value.int .i64 x][j]?=some v->w.cell? ⟨iv.blk,0+j,none⟩=some v:=fun j v hj=>by
  rw[KW hhv]
  match j,hj with
  |0,hj=>cases hj;simpa using hvx
 have hv6':1<=iv.cap:=by simpa using hv6
 have hltv:=(hH.apart 1000 (by simp) iv hiv iv.blk iv.has_blk).2;have grown:∀(w':World)(vs':Array Value)(cap:Nat),Frm (fun x=>x=w.heap.size) w w'->w'.heap[w.heap.size]?=some (.cells vs' 3 (0,0))->vs'.size=cap->l.length+1<=cap->cap<=maxLen->
   (∀j,j<l.length+1->vs'[j]?=((W5 l k x)[j]?).map (Value.int .i64))->
   ∃β',RepL σ β' (.hd 2000 0 (l.length+1)) (.slice (some ⟨w.heap.size,0,none⟩) (l.length+1) cap)/\HRel σ β' [(2000,.own 3 1 ((W5 l k x).map (.int .i64))),(1000,.own 3 1 [.int .i64 x])] w'/\Later σ β [(2000,.own 3 1 (l.map (.int .i64))),(1000,.own 3 1 [.int .i64 x])] w σ β' [(2000,.own 3 1 ((W5 l k x).map (.int .i64))),(1000,.own 3 1 [.int .i64 x])] w':=by
  intro w' vs' cap hf hb hsz hle hmax hget;obtain⟨hH',hL⟩:=OD (c':=.own 3 1 ((W5 l k x).map (.int .i64))) (i':=⟨w.heap.size,cap,1,[],hmax⟩) hH (x3g _) hf.new rfl rfl (x3r.1 hb).1 (fun j d hj=>by
   simp at hj;rw[hj.2];rfl) (.inr ⟨⟨w.heap.size,cap,1,[],hmax⟩,vs',by simp[Lab.set],rfl,hb,by simp[hsz],by simp[hil,hle],hmax,Ny fun j hj=>hget j (by omega)⟩)
  refine⟨_,?_,hH',hL⟩;have:=x9s (σ:=σ) (β:=β.set 2000 (some ⟨w.heap.size,cap,1,[],hmax⟩)) 2000 0 (l.length+1) ⟨w.heap.size,cap,1,[],hmax⟩ 0 (by simp[Lab.set]) (by simpa using hle) (.inl (by simp));simpa using this
 rcases hH.chunks 2000 _ x2r with⟨hb0,hes⟩|⟨i,vs,hi,hsz,hh,h2,h3,h4,h5⟩
 ·have hl0:l=[]:=by simpa using hes
  subst hl0;obtain⟨rfl,_⟩:=Nw hv1 hb0;obtain rfl:k=0:=by simpa using hk
  have hc:=Any2.slices_Insert_int_end_grow GU none 0 0 iv.blk 0 1 iv.cap [] [.int .i64 x] w (by omega) (by omega) (by omega) (by omega) rfl rfl (fun _=>rfl) (fun _ h=>by cases h) hvs h1v;change Calls prog 252 _ _ _ at hc;refine hc.mono ?_;rintro e w' ⟨rfl,rfl⟩;have hge:=grownCap_ge w (0+1) 0 (Tryz.laysI_ren.t 3);have hmx:=grownCap_le_maxLen w (0+1) 0 (Tryz.laysI_ren.t 3) (by unfold maxLen;omega);generalize grownCap w (0+1) 0 (Tryz.laysI_ren.t 3)=cap at hge hmx⊢;obtain⟨A,hA⟩ : ∃A,A=([]++[Value.int .i64 x]:List Value).toArray++Builtin.zeroCells (Value.int .i64 0).cells (cap-(0+1)):=⟨_,rfl⟩;rw[<-hA];obtain⟨β',g1,g2,g3⟩:=grown _ A cap ((Frm.drewN _ w 1).trans (U1 _ _ _)) (heap_alloc_new w.drew _) (by rw[hA];simp[Jg];omega) hge hmx (fun j hj=>by
   have hj0:j=0:=by simpa using hj
   subst hj0;rw[hA,x7w (by simp)];rfl)
  exact⟨_,_,σ,β',_,rfl,⟨rfl,rfl⟩,g1,g2,g3⟩
 ·have hve:=G8 hv1 hi;subst hve;have hlt:=(hH.apart 2000 (by simp) i hi i.blk i.has_blk).2;have hget:=fun j hj=>RT (σ:=σ) (l:=l) h5 (j:=j) hj;have hne:iv.blk≠i.blk:=fun he=>by
   have:=hH.inj 1000 (by simp) 2000 (by simp) iv i hiv hi iv.blk iv.has_blk (.inl he.symm);omega
  have hcap:l.length<=i.cap:=by simpa using h3
  have hvsz:vs.size=i.cap:=by simpa using h2
  have hgetc:∀j v,cs[j]?=some v->w.cell? ⟨i.blk,0+j,none⟩=some v:=fun j v hj=>by
   rw[hcg]at hj;cases hq:l[j]?with
   |none=>rw[hq]at hj;cases hj
   | some z=>
     rw[hq]at hj;cases hj;obtain⟨hjl,rfl⟩:=x2o.1 hq;rw[KW hh,x5m,hget j hjl]
  have placed:∀(w':World)(vs':Array Value),Frm (fun x=>x=i.blk) w w'->w'.heap[i.blk]?=some (.cells vs' 3 (0,0))->vs'.size=i.cap->l.length+1<=i.cap->
    (∀j,j<l.length+1->vs'[j]?=((W5 l k x)[j]?).map (Value.int .i64))->
    RepL σ β (.hd 2000 0 (l.length+1)) (.slice (some ⟨i.blk,0,none⟩) (l.length+1) i.cap)/\HRel σ β [(2000,.own 3 1 ((W5 l k x).map (.int .i64))),(1000,.own 3 1 [.int .i64 x])] w'/\Later σ β [(2000,.own 3 1 (l.map (.int .i64))),(1000,.own 3 1 [.int .i64 x])] w σ β [(2000,.own 3 1 ((W5 l k x).map (.int .i64))),(1000,.own 3 1 [.int .i64 x])] w':=by
   intro w' vs' hf hb hsz' hle hget';obtain⟨hH',hL⟩:=E5 (c':=.own 3 1 ((W5 l k x).map (.int .i64))) hH hi hf (.inr ⟨i,vs',hi,hsz,hb,by simp[hsz'],by simp[hil,hle],h4,Ny fun j hj=>hget' j (by omega)⟩);refine⟨?_,hH',hL⟩;have:=x9s (σ:=σ) (β:=β) 2000 0 (l.length+1) i 0 hi (by simpa using hle) (.inl (by simp));simpa using this
  by_cases hroom:l.length+1<=i.cap
  ·by_cases hkn:k<l.length
   ·have hc:=Any2.slices_Insert_int_shift GU i.blk 0 l.length i.cap k iv.blk 0 1 iv.cap cs [.int .i64 x] w hkn (by omega) hroom h4 hne hcl rfl hgetc
     (fun j hj=>by rw[KW hh,x5m,x5v (by omega)];rfl) (fun j hj=>VJ hh _) hvs h1c h1v _ _ _ _ (Mq hhv) (Mq hh) (by omega) (VJ hhv _) (VJ hhv _)
    change Calls prog 252 _ _ _ at hc;refine hc.mono ?_;rintro e w' ⟨rfl,rfl⟩;obtain⟨s1,s2⟩:=WX (cs.drop k) (0+(k+1)) (w:=w.drew) hh;obtain⟨s3,s4⟩:=WX [Value.int .i64 x] (0+k) s1;have hdl:(cs.drop k).length=l.length-k:=by simp[hcl]
    obtain⟨g1,g2,g3⟩:=placed _ _ (((Frm.drewN _ w 1).trans s2).trans s4) s3 (by rw[VO,VO,hvsz]) hroom (fun j hj=>by
     rw[HR _ _ _ _ (by rw[VO];simp;omega),HR _ _ _ _ (by rw[hdl];omega),Vx hk,hdl];simp only[x5m,x3a];by_cases e1:j<k
     ·rw[if_neg (by omega),if_neg (by omega),if_pos e1,hget j (by omega),x2n (by omega)];rfl
     ·rw[if_neg e1];by_cases e2:j=k
      ·subst e2;rw[if_pos (by omega),if_pos rfl];simp
      ·rw[if_neg (by omega),if_pos (by omega),if_neg e2,x4c,hcg];congr 2;omega)
    exact⟨_,_,σ,β,_,rfl,⟨rfl,rfl⟩,g1,g2,g3⟩
   ·obtain rfl:k=l.length:=by omega
    have hc:=Any2.slices_Insert_int_end_room GU i.blk 0 l.length i.cap iv.blk 0 1 iv.cap [.int .i64 x] w (by omega) hroom h4 rfl
     (fun j hj=>by rw[KW hh,x5v (by omega)];rfl) (fun j hj=>VJ hh _) hvs h1v
    change Calls prog 252 _ _ _ at hc;refine hc.mono ?_;rintro e w' ⟨rfl,rfl⟩;obtain⟨s3,s4⟩:=WX [Value.int .i64 x] (0+l.length) hh;obtain⟨g1,g2,g3⟩:=placed _ _ s4 s3 (by rw[VO,hvsz]) hroom (fun j hj=>by
     rw[HR _ _ _ _ (by simp;omega),Vx hk];simp only[x5m,x3a];by_cases e1:j<l.length
     ·rw[if_neg (by omega),if_pos e1,hget j (by omega),x2n (by omega)];rfl
     ·obtain rfl:j=l.length:=by omega
      simp)
    exact⟨_,_,σ,β,_,rfl,⟨rfl,rfl⟩,g1,g2,g3⟩
  ·by_cases hkn:k<l.length
   ·have hc:=Any2.slices_Insert_int_grow GU i.blk 0 l.length i.cap k iv.blk 0 1 iv.cap cs [.int .i64 x] w hkn (by omega) hcap (by omega) (by omega) hcl rfl hgetc hvs h1c h1v;change Calls prog 252 _ _ _ at hc;refine hc.mono ?_;rintro e w' ⟨rfl,rfl⟩;have hge:=grownCap_ge w (l.length+1) i.cap (Tryz.laysI_ren.t 3);have hmx:=grownCap_le_maxLen w (l.length+1) i.cap (Tryz.laysI_ren.t 3) (by unfold maxLen;omega);generalize grownCap w (l.length+1) i.cap (Tryz.laysI_ren.t 3)=cap at hge hmx⊢;have hdl:(cs.drop k).length=l.length-k:=by simp[hcl]
    obtain⟨A,hA⟩ : ∃A,A=(cs.take k).toArray++Builtin.zeroCells (Value.int .i64 0).cells (l.length+1-k)++Builtin.zeroCells (Value.int .i64 0).cells (cap-(l.length+1)):=⟨_,rfl⟩;have hAs:A.size=cap:=by rw[hA];simp[Jg,hcl];omega
    have hAg:∀j,j<k->A[j]?=(l[j]?).map (Value.int .i64):=fun j hj=>by
     rw[hA,x7w (by simp[hcl];omega),x7w (by simp[hcl];omega)];simp[hj,hcg]
    rw[<-hA];have s0:(w.alloc (.cells A (Tryz.laysI_ren.t 3))).drew.heap[w.heap.size]?=some (.cells A 3 (0,0)):=heap_alloc_new w _;obtain⟨s1,s2⟩:=WX [Value.int .i64 x] k s0;obtain⟨s3,s4⟩:=WX (cs.drop k) (k+1) (w:=(((w.alloc (.cells A (Tryz.laysI_ren.t 3))).drew.setCells w.heap.size k [Value.int .i64 x]).drew)) s1;obtain⟨β',g1,g2,g3⟩:=grown _ _ cap ((((U1 w _ _).trans (Frm.drewN _ _ 1)).trans s2).trans ((Frm.drewN _ _ 1).trans s4)) s3 (by rw[VO,VO,hAs]) hge hmx (fun j hj=>by
     rw[HR _ _ _ _ (by rw[VO];omega),HR _ _ _ _ (by simp;omega),Vx hk,hdl];simp only[x3a];by_cases e1:j<k
     ·rw[if_neg (by omega),if_neg (by omega),if_pos e1,hAg j e1]
     ·rw[if_neg e1];by_cases e2:j=k
      ·subst e2;rw[if_neg (by omega),if_pos (by omega),if_pos rfl];simp
      ·rw[if_pos (by omega),if_neg e2,x4c,hcg];congr 2;omega)
    exact⟨_,_,σ,β',_,rfl,⟨rfl,rfl⟩,g1,g2,g3⟩
   ·obtain rfl:k=l.length:=by omega
    have hc:=Any2.slices_Insert_int_end_grow GU (some ⟨i.blk,0,none⟩) l.length i.cap iv.blk 0 1 iv.cap cs [.int .i64 x] w (by omega) hcap (by omega) (by omega) hcl rfl (fun h=>by cases h) (fun a ha j v hj=>by
     cases ha;rw[Addr.add_lit];exact hgetc j v hj) hvs h1v
    change Calls prog 252 _ _ _ at hc;refine hc.mono ?_;rintro e w' ⟨rfl,rfl⟩;have hge:=grownCap_ge w (l.length+1) i.cap (Tryz.laysI_ren.t 3);have hmx:=grownCap_le_maxLen w (l.length+1) i.cap (Tryz.laysI_ren.t 3) (by unfold maxLen;omega);generalize grownCap w (l.length+1) i.cap (Tryz.laysI_ren.t 3)=cap at hge hmx⊢;obtain⟨A,hA⟩ : ∃A,A=(cs++[Value.int .i64 x]).toArray++Builtin.zeroCells (Value.int .i64 0).cells (cap-(l.length+1)):=⟨_,rfl⟩;rw[<-hA];obtain⟨β',g1,g2,g3⟩:=grown _ A cap ((Frm.drewN _ w 1).trans (U1 _ _ _)) (heap_alloc_new w.drew _) (by rw[hA];simp[Jg,hcl];omega) hge hmx (fun j hj=>by
     rw[hA,x7w (by simp[hcl];omega),Vx hk];simp only[x9v,x6c,hcl];by_cases e1:j<l.length
     ·rw[if_pos e1,if_pos e1,hcg]
     ·obtain rfl:j=l.length:=by omega
      simp)
    exact⟨_,_,σ,β',_,rfl,⟨rfl,rfl⟩,g1,g2,g3⟩
def avI(rows:List (List Int)):List (List AV):=rows.map fun r=>r.map (.int .i64)
def W4(n:Nat)(N P:List (List Int)):Heap:=[(1000,.obj 230 [.hd 2001 0 n,.hd 2002 0 n]),(2001,.ext (.mat 29 3 1 (avI N) [])),(2002,.ext (.mat 29 3 1 (avI P) []))]
def ZF(n:Nat)(a:Int):Bool:=decide (0<=a)&&decide (a<n)
theorem Fs(n:Nat)(N P:List (List Int))(a:Int):
  SpecH prog 185 [.ptr 1000 0,.p (.int .i64 a)] (W4 n N P) (fun r H=>r=.p (.bool (ZF n a))/\H=W4 n N P):=by
 refine sH GQ func185 rfl call185 ?_;conv=>whnf
 repeat' (apply bD<;>intro _<;>first|omega|conv=>whnf)
 ·exact⟨_,x3e (Sub.bool (by unfold ZF;simp;omega)),rfl,rfl⟩
 ·exact⟨_,x3e (Sub.ff (by unfold ZF;simp;omega)),rfl,rfl⟩
def x1h(N:List (List Int)):Prop:=∀r∈N,r.Pairwise (· <= ·)/\r.length<=100000000
def Gl(N:List (List Int))(a:Nat)(b:Int):List (List Int):=N.set a (W5 (N.getD a []) ((N.getD a []).countP (· < b)) b)
theorem Cb{N:List (List Int)}{i:Nat}(hi:i<N.length)(b:Int):avI (Gl N i b)=(avI N).set i ((W5 N[i] (N[i].countP (· < b)) b).map (.int .i64)):=by
 unfold avI Gl;rw[x4m];simp[hi]
theorem N9(n:Nat)(N P:List (List Int))(a b:Int)(hN:N.length=n)(hP:P.length=n)(hn:n<=5000)(sN:x1h N)(sP:x1h P):
  SpecH prog 224 [.ptr 1000 0,.p (.int .i64 a),.p (.int .i64 b)] (W4 n N P) (fun r H=>∃t,r=.p (.bool t)/\H=W4 n
   (bif ZF n a&&ZF n b && !(N.getD a.toNat []).contains b then Gl N a.toNat b else N) (bif ZF n a&&ZF n b && !(N.getD a.toNat []).contains b then Gl P b.toNat a else P)):=by
 refine sH Xv func224 rfl call224 ?_;conv=>whnf
 repeat' (first|(refine x2t rfl ?_;conv=>whnf)|(apply bN<;>intro _<;>conv=>whnf)|(refine CallK.heap [(1000,1000),(2001,2001),(2002,2002)] 0 (by repeat' (first|exact x4x|refine x3d ?_ ?_|exact x3n _|exact x3e Sub.nils|exact x3e (Sub.tt rfl)|exact x3e (Sub.ff rfl)|exact x3e (Sub.int (by omega)))) (by refine x3j (j:=1000) rfl rfl ?_ ?_;exact CSub.refl _;refine x3j (j:=2001) rfl rfl ?_ ?_;exact CSub.refl _;refine x3j (j:=2002) rfl rfl ?_ ?_;exact CSub.refl _;exact x4z) (Fs n N P _) rfl rfl ?_;rintro l' H' ⟨rfl,rfl⟩;conv=>whnf))
 rotate_left 1
 ·exact⟨_,x3e (Sub.ff rfl),false,rfl,by simp[*];rfl⟩
 ·exact⟨_,x3e (Sub.ff rfl),false,rfl,by simp[*];rfl⟩
 have ha:0<=a/\a<n:=by rename_i h _;unfold ZF at h;simpa using h
 have hb:0<=b/\b<n:=by rename_i h;unfold ZF at h;simpa using h
 have hA:ZF n a=true:=by assumption
 have hB:ZF n b=true:=by assumption
 obtain⟨i,rfl⟩ : ∃i:Nat,a=i:=⟨a.toNat,by omega⟩;obtain⟨j,rfl⟩ : ∃j:Nat,b=j:=⟨b.toNat,by omega⟩;have hi:i<N.length:=by omega
 have hj:j<P.length:=by omega
 obtain⟨sn1,sn2⟩:=sN _ (x3w hi);obtain⟨sp1,sp2⟩:=sP _ (x3w hj);have hNi:(avI N)[i]?=some (N[i].map (.int .i64)):=by unfold avI;simp[hi]
 have hPj:(avI P)[j]?=some (P[j].map (.int .i64)):=by unfold avI;simp[hj]
 have gN:N.getD (i:Int).toNat []=N[i]:=by simp[hi]
 have gP:P.getD (j:Int).toNat []=P[j]:=by simp[hj]
 refine x4j i rfl (by omega) ?_;conv=>whnf
 repeat' (first|(refine RowK.mk i _ (by omega) hNi (by simp) ?_;conv=>whnf)|(apply bB<;>intro _<;>conv=>whnf)|(refine XB (YS N[i] j sn1 (by omega)) (.cons (.row rfl hNi (by simp)) (.cons (.p (Sub.refl _)) .nil)) (by rintro _ rfl;rfl) ?_;rintro _ rfl;conv=>whnf))
 ·exact⟨_,x3e (Sub.ff rfl),false,rfl,by rw[gN,hA,hB,show N[i].contains (j:Int)=true by assumption];rfl⟩
 have hcn:N[i].countP (· < (j:Int))<=N[i].length:=x9w;refine X4 ⟨[(0,.ptr 1000 0),(1,.p (.int .i64 i)),(2,.p (.int .i64 j))],W4 n (Gl N i j) P⟩ ?_ ?_
 ·refine DrawK.of QY mixed (.cons 13 true (.cons 0 false (.cons 1 false (.cons 2 false (.cons 4 false (.cons 5 false (.cons 6 false (.cons 7 false (.cons 9 false (.alo 8 (.alo 10 (.alo 11 (.alo 12 (.fork 3 (.cons 14 true (.cons 15 true (.cons 16 true (.cons 17 true .nil)))) 14 (.fork 3 (.cons 15 true (.cons 16 true (.cons 17 true .nil))) 15 (.cons 3 true (.cons 16 true (.cons 17 true .nil)))))))))))))))))) (by kernel_rfl) ?_;conv=>whnf
  repeat' (first|((first|refine x2t rfl ?_|refine aD ?_|refine x4j i rfl (by omega) ?_|refine RowK.mk i _ (by omega) hNi (by simp) ?_|refine x9b (fun x hx=>by rcases x2a.1 hx with rfl;rfl) rfl ?_|(refine FA QY rfl rfl rfl rfl rfl rfl rfl rfl rfl (by decide) i [] (by omega) (by unfold avI;rw[x2m];omega) (by rw[x2m,Vz hcn]) ⟨by simp,by simp,by simp⟩ ?_));conv=>whnf)|(refine CallK.focus 2001 i 1 rfl rfl hNi (by simp) rfl (.row (.cons rfl (.cons rfl .nil))) ?_;conv=>whnf)|(refine CallK.heap [(2000,1),(1000,0)] 0 (x3d (x8z (by rw[x2m];rfl)) (x3d (x3n _) (x3d (x3n _) x4x))) (by refine x3j (j:=1) rfl rfl ?_ ?_;exact CSub.refl _;refine x3j (j:=0) rfl rfl ?_ ?_;exact CSub.refl _;exact x4z) (Qr N[i] (N[i].countP (· < (j:Int))) j hcn (by omega)) rfl rfl ?_;rintro l' H' ⟨rfl,rfl⟩;conv=>whnf)|(refine x2t ?_ ?_<;>conv=>whnf))
  all_goals exact Le.of_eq (by unfold W4;rw[Cb hi])
 conv=>whnf
 have hcp:P[j].countP (· < (i:Int))<=P[j].length:=x9w;repeat' (first|((first|refine x2t rfl ?_|refine x4j j rfl (by omega) ?_|refine RowK.mk j _ (by omega) hPj (by simp) ?_);conv=>whnf)|(refine XB (YS P[j] i sp1 (by omega)) (.cons (.row rfl hPj (by simp)) (.cons (.p (Sub.refl _)) .nil)) (by rintro _ rfl;rfl) ?_;rintro _ rfl;conv=>whnf))
 refine X4 ⟨[],W4 n (Gl N i j) (Gl P j i)⟩ ?_ ?_
 ·refine DrawK.of QY mixed (.cons 13 true (.cons 0 false (.cons 1 false (.cons 2 false (.cons 4 false (.cons 5 false (.cons 6 false (.cons 7 false (.cons 9 false (.alo 8 (.alo 10 (.alo 11 (.alo 12 (.fork 3 (.cons 14 true (.cons 15 true (.cons 16 true (.cons 17 true .nil)))) 14 (.fork 3 (.cons 15 true (.cons 16 true (.cons 17 true .nil))) 15 (.cons 3 true (.cons 16 true (.cons 17 true .nil)))))))))))))))))) (by kernel_rfl) ?_;conv=>whnf
  repeat' (first|((first|refine x2t rfl ?_|refine aD ?_|refine x4j j rfl (by omega) ?_|refine RowK.mk j _ (by omega) hPj (by simp) ?_|refine x9b (fun x hx=>by rcases x2a.1 hx with rfl;rfl) rfl ?_|(refine FA QY rfl rfl rfl rfl rfl rfl rfl rfl rfl (by decide) j [] (by omega) (by unfold avI;rw[x2m];omega) (by rw[x2m,Vz hcp]) ⟨by simp,by simp,by simp⟩ ?_));conv=>whnf)|(refine CallK.focus 2002 j 1 rfl rfl hPj (by simp) rfl (.row (.cons rfl (.cons rfl .nil))) ?_;conv=>whnf)|(refine CallK.heap [(2000,1),(1000,0)] 0 (x3d (x8z (by rw[x2m];rfl)) (x3d (x3n _) (x3d (x3n _) x4x))) (by refine x3j (j:=1) rfl rfl ?_ ?_;exact CSub.refl _;refine x3j (j:=0) rfl rfl ?_ ?_;exact CSub.refl _;exact x4z) (Qr P[j] (P[j].countP (· < (i:Int))) i hcp (by omega)) rfl rfl ?_;rintro l' H' ⟨rfl,rfl⟩;conv=>whnf)|(refine x2t ?_ ?_<;>conv=>whnf))
  all_goals exact Le.of_eq (by unfold W4;rw[Cb hj])
 conv=>whnf
 skip
 exact⟨_,x3e (Sub.tt rfl),true,rfl,by rw[gN,hA,hB,show N[i].contains (j:Int)=false by assumption];rfl⟩
end Go.Ab
