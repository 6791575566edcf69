/- An append onto a slice of a row of the call's own that does not begin at the row's own beginning. Conditions: the table of types is the program's own. -/
import Derived.Laws.StructEq
import Derived.ChangeKeysEq
import Derived.Test.YtonbdgcjnecapaaGreatRchR4
import Derived.Test.YtonbdgcjnecapaaGreatRchR6
import Derived.Test.YtonbdgcjnecapaaGreatRchR8
import Derived.Test.YtonbdgcjnecapaaGreatRchR9
import Derived.Test.YtonbdgcjnecapaaGreatRchR10
import Derived.Test.YtonbdgcjnecapaaGreatRchR13
set_option linter.all false
set_option maxRecDepth 100000
set_option maxHeartbeats 16000000
open Nat (beq blt)
namespace Go.Ab
open Go.Proofs.Tryz
variable {H:Heap}{K:St->Prop}{N j k sz:Nat}{P:Program}{T:Tab}{e:TypeId}{es:List AV}{f:Pr}{it:Item}{o:Oper}{p:Pg}{s:St}{w:World}{β:Lab}{σ:Mem}
theorem RepE.drop{σ:Mem}{sz:Nat}{es:List AV}{vs:List Value}(h:RepE σ sz es vs)(k:Nat):RepE σ sz (es.drop k) (vs.drop (k*sz)):=by
 refine⟨by rw[x9i,x9i,h.len,Nat.sub_mul],fun i e l=>?_,fun i e j c l m=>?_⟩
 .rw [x9f]at l;exact h.size _ e l
 .rw [x9f]at l;obtain⟨u,q,hr⟩:=h.rep _ e j c l m;exact⟨u,by rw[x9f,<-z0l,<-x9a];exact q,hr⟩
def F9{l:TyI}{xs:List AV}(t ty:TypeId)(ht:P.underlying t=some (.slice e))(hie:TyOK P e l)(hz:l.zero.cells.size=l.size)(hown:(Chunk.own e l.size es).holds σ β w k){off n:Nat}(hoff:0<off)(hn:off+n=es.length){v:Value}(hv:RepL σ β (.hd k off n) v){x:Value}{h:List Value}{O:Addr}{c:Nat}(hx:x=.slice (some O) xs.length c)(a:∀(j:Nat)(u:Value),h[j]?=some u->w.cell? (O.add j)=some u)(r:RepE σ l.size xs h)(h1:∀u∈h,u.oneCell'=true)(hxs:0<xs.length)(Q:n+xs.length<=maxLen)(B:(n+xs.length)*l.bytes<=140737488355328)(hlt:∀i,β k=some i->∀b,i.has b->b<w.heap.size):
  ∃v' w' i',(Builtin.append_ #[t,t] ty #[v,x]).run P w=.ok v' w'/\Frm (fun b=>∃i,β k=some i/\i.has b) w w'/\
   (∀i,i'=some i->∀b,i.has b->b<w'.heap.size/\((∃i0,β k=some i0/\i0.has b)\/w.heap.size<=b))/\
   (((Chunk.own e l.size (es++xs)).holds σ (β.set k i') w' k/\RepL σ (β.set k i') (.hd k off (n+xs.length)) v')\/
     ((Chunk.own e l.size (es.drop off++xs)).holds σ (β.set k i') w' k/\RepL σ (β.set k i') (.hd k 0 (n+xs.length)) v')):=by
 obtain⟨fi,R,d,hfb,hfz⟩:=hie.getInfo;have g:∀i':Option BInfo,(β.set k i') k=i':=fun i'=>by simp[Lab.set]
 have Z:(n+xs.length:Nat)<=(9223372036854775807:Int):=by simp only[maxLen]at Q;omega
 rcases ZG.1 hown with⟨hb0,rfl⟩|⟨i,vs,D,y,hh,hvs,hlen,G,hE⟩
 .simp at hn;omega
 rcases hv.hdI with⟨V,_⟩|⟨i',o,V,hl,F,hvv⟩
 .rw [D]at V;cases V
 rw[D]at V;cases V;subst hx hvv;have E:=r.len;by_cases L:n+xs.length<=i.cap-off
 .have hoo:o=off*l.size:=by
   rcases F with F|F
   .rw [<-y];exact F
   .omega
  subst hoo;have hrm:es.length+xs.length<=i.cap:=by omega
  have e1:off*l.size+n*l.size=es.length*l.size:=by rw[<-x9a,hn]
  have U:off*l.size+n*l.size+h.length<=vs.size:=by rw[e1,E,hvs,<-x9a];exact x9x _ hrm
  have hr:(Builtin.append_ #[t,t] ty #[.slice (some ⟨i.blk,off*l.size,none⟩) n (i.cap-off),.slice (some O) xs.length c]).run P w =
    .ok (.slice (some ⟨i.blk,off*l.size,none⟩) (n+xs.length) (i.cap-off)) (w.setRow i.blk (vs.toList.take (off*l.size+n*l.size)++h++vs.toList.drop (off*l.size+n*l.size+h.length)).toArray):=by
   have hf:=run_firstCells_some (P:=P) w fi.size xs.length O xs.length c h (by rw[d];exact E) a;rw[d]at hf;have hst:=run_storeCells_at P i.blk (off*l.size+n*l.size) e h 0 vs w hh (by simpa using U) h1;simp only[z2x]at hst;simp[Builtin.append_,run_underlying ht,sizeOf,typeInfo,R,Builtin.lenOf,L,hf,JF,d,hst]
  have A:β.set k (some i)=β:=by funext j;unfold Lab.set;split<;>simp_all
  refine⟨_,_,some i,hr,⟨rfl,rfl,rfl,x7s _,by simp,fun b _ hnb=>setRow_other w i.blk b _ fun he=>hnb ⟨i,D,.inl he.symm⟩⟩,fun i1 h1 b A=>?_,.inl ⟨?_,?_⟩⟩
  .cases h1;exact⟨by simpa using hlt i D b A,.inl ⟨i,D,A⟩⟩
  .rw [A,e1];refine ZG.2 (.inr ⟨i,_,D,y,setRow_heap w i.blk vs _ e _ hh,?_,by simpa using hrm,G,?_⟩)
   .simp only[z1z,x7u,x8q,x9i,x9e];omega
   .have q:=hE.append r;rw[show(vs.toList.take (es.length*l.size)++h++vs.toList.drop (es.length*l.size+h.length)).toArray.toList.take ((es++xs).length*l.size)=vs.toList.take (es.length*l.size)++h by
     rw[<-q.len];simp only[List.take_left]]
    exact q
  .rw [A];exact .hd k off (n+xs.length) i (off*l.size) D (by omega) (.inl (by rw[y]))
 .obtain ⟨m,hO,C⟩ : ∃m,RepE σ l.size (es.drop off) m/\∀(j:Nat)(u:Value),m[j]?=some u->w.cell? ((⟨i.blk,o,none⟩:Addr).add j)=some u:=by
   refine⟨_,hE.drop off,fun j u M=>?_⟩;have hu0:=M;rw[x9f,x8r]at M;rcases F with F|F
   .rw [JF,F,y];split at M
    .simp only[World.cell?,hh];simpa using M
    .cases M
   .have hn0:n=0:=by omega
    split at M
    .rename_i Y;have:es.length=off:=by omega
     rw[this]at Y;omega
    .cases M
  have I:(es.drop off).length=n:=by rw[x9i];omega
  have hr:=run_append_grow (P:=P) w t ty e fi l.zero ht R hfz ⟨i.blk,o,none⟩ n (i.cap-off) m (by rw[d,hO.len,I]) C O xs.length c h (by rw[d];exact E) a (by omega) Z (by rw[hfb];exact growslice_fits (by omega) B);have J:=grownCap_ge w (n+xs.length) (i.cap-off) e;have z:=grownCap_le_maxLen w (n+xs.length) (i.cap-off) e Q;generalize grownCap w (n+xs.length) (i.cap-off) e=cap at J z hr;have hsz:(w.drew.alloc (.cells (m.toArray++h.toArray++Builtin.zeroCells l.zero.cells (cap-(n+xs.length))) e)).heap.size=w.heap.size+1:=by
   show(w.heap.push _).size=_;simp
  have q:=hO.append r;have hnew:(w.drew.alloc (.cells (m.toArray++h.toArray++Builtin.zeroCells l.zero.cells (cap-(n+xs.length))) e)).heap[w.heap.size]?=some (.cells (m.toArray++h.toArray++Builtin.zeroCells l.zero.cells (cap-(n+xs.length))) e (0,0)):=heap_alloc_new w.drew _;refine⟨_,_,some ⟨w.heap.size,cap,l.size,[],z⟩,hr,⟨rfl,rfl,rfl,z4v _,by omega,fun b A _=>by first|exact heap_alloc_old w.drew _ b A|exact heap_alloc_old w.drew _ A⟩,fun i D b A=>?_,.inr ⟨ZG.2 (.inr ⟨⟨w.heap.size,cap,l.size,[],z⟩,_,g _,rfl,hnew,?_,by rw[x7u,I];exact J,z,?_⟩),?_⟩⟩
  .cases D;rw[GT]at A;exact⟨by omega,.inr (by omega)⟩
  .simp only[Array.size_append,z1z,size_zeroCells,hz,hO.len,E,I];rw[<-x9a,<-x9a];congr 1;omega
  .rw [show(m.toArray++h.toArray++Builtin.zeroCells l.zero.cells (cap-(n+xs.length))).toList.take ((es.drop off++xs).length*l.size)=m++h by
    rw[<-q.len];simp only[Array.toList_append];exact List.take_left]
   exact q
  .have:=z4w (σ:=σ) (β:=β.set k (some ⟨w.heap.size,cap,l.size,[],z⟩)) k 0 (n+xs.length) ⟨w.heap.size,cap,l.size,[],z⟩ 0 (g _) (by simpa using J) (.inl (by simp));simpa using this
def Sp(hT:TabOK P T){x y:Operand}{t:TypeId}(hop:o.op=.call {callee:=.builtin .append,args:=#[x,y],argTypes:=#[t,t]}){off n:Nat}(L:QN s.sl x=.hd k off n)(D:0<off){i q:TyI}(ht:T.get t=some i)(hd:i.desc=.slice e)(hie:T.get e=some q)(hg:getH s.H k=some (.own e sz es))(hsz:sz=q.size)(hz:q.zero.cells.size=q.size)(d:0<q.size)(hn:off+n=es.length){xs:List AV}(hy:QN s.sl y=.p (.sl xs))(hxl:0<xs.length)(O:∀x∈xs,x.cells.length=q.size/\x.cells.all AV.one=true)(Z:n+xs.length<=maxLen)(hb:(n+xs.length)*q.bytes<=140737488355328)(r:q8g k <|Yg s.sl k fun sl=>DU s.H k (.own e sz (es++xs)) fun H=>setD N sl o.dst (.hd k off (n+xs.length)) fun sl=>K ⟨sl,H⟩)(Y:q8g k <|Yg s.sl k fun sl=>DU s.H k (.own e sz (es.drop off++xs)) fun H=>setD N sl o.dst (.hd k 0 (n+xs.length)) fun sl=>K ⟨sl,H⟩):OpK P N s o K:=by
 refine⟨fun σ β a w hr Q=>?_⟩;subst hsz;have M:=QQ hr.E x;rw[L]at M;have hu:=hT.of ht;rw[hd]at hu;have z:=QD hg;obtain⟨U,m,⟨rfl,rfl⟩,J⟩:=TC hr (y:=y) (C:=fun ys m=>ys=xs/\m=xs.length) (sz:=q.size) (by unfold q3a;rw[hy];exact⟨rfl,rfl⟩) d;obtain⟨news,A,hE⟩:=J rfl fun x L=>(O x L).1;have F:=hE.oneAll d fun x L=>(O x L).2;rcases A with⟨_,hnn⟩|⟨ad,c,A,g⟩
 .have:=hE.len;rw[hnn,z0p]at this;rcases Nat.mul_eq_zero.1 this.symm with h|h<;>omega
 obtain⟨v',w',i',I,B,hi',v⟩:=F9 (P:=P) t o.type hu (hT _ _ hie) hz (hr.heap.chunks k _ (QJ hg)) D hn M A g hE F hxl Z hb (fun i hi b hb=>(hr.heap.apart k z i hi b hb).2);have fin:∀(es':List AV)(l:Nat),(Chunk.own e q.size es').holds σ (β.set k i') w' k->RepL σ (β.set k i') (.hd k l (n+U.length)) v'->(q8g k <|Yg s.sl k fun sl=>DU s.H k (.own e q.size es') fun H=>setD N sl o.dst (.hd k l (n+U.length)) fun sl=>K ⟨sl,H⟩)->
   o.wp P a w (fun a' w'=>∃σ' β' s',K s'/\Rel N σ' β' s' a' w'/\Later σ β s.H w σ' β' s'.H w') Q:=fun es' l hch hv' u=>by
  obtain⟨hpk,u⟩:=M7 u;obtain⟨R,u,hs1⟩:=NR u;obtain⟨H1,u,hH1,hH2,hH3⟩:=HK u;obtain⟨hh,hl⟩:=Ny hr.heap hpk z B hi' hH1 (fun j c hj hne=>by
   obtain⟨c0,r,rfl⟩:=hH2 j c hj hne;exact⟨Chunk.kill_free k c0,(hr.heap.chunks j c0 r).kill k⟩) (fun c hc=>by rw[hH3 c hc];exact hch)
  have G:Rel N σ (β.set k i') ⟨R,H1⟩ a w':=⟨hr.size,hr.defers,fun i=>by
   obtain⟨r,Y⟩:=hs1 i;have:RepL σ β (getS R i) (a.tmps.getD i undef):=by
    rcases r with r|r
    .rw [r];exact hr.E i
    .rw [r];exact .p (.any _)
   exact this.set i' Y,hh⟩
  obtain⟨sl,u,hr'⟩:=G.setD hv' u;refine XE (w':=w') ?_ ⟨σ,_,_,u,hr',hl⟩;simp[execOp,hop,resolve,invoke,builtin,I]
 rcases v with⟨g1,V⟩|⟨g1,V⟩
 .exact fin _ _ g1 V r
 .exact fin _ _ g1 V Y
open Go.Proofs
def Sr(k t:Nat)(cs:List AV):List (Nat×LV)->(List (Nat×LV)->Prop)->Prop
 |[],K=>K []
 |(j,l)::r,K=>bif beq j t then Sr k t cs r fun r=>K ((j,.p (.agg cs))::r)else YL (l.kill k) fun l=>Sr k t cs r fun r=>K ((j,l)::r)
theorem X7{k t:Nat}{cs:List AV}:∀{sl:List (Nat×LV)}{K:List (Nat×LV)->Prop},Sr k t cs sl K->∃sl',K sl'/\∀i,getS sl' i=(getS sl i).kill k\/(i=t/\getS sl' i=.p (.agg cs))
 |[],_,h=>⟨[],h,fun _=>.inl rfl⟩
 | (j,l)::r,K,h=>by
   unfold Sr at h;cases n:beq j t with
   | true=>
     rw[n,x7c]at h;have v:j=t:=Nat.eq_of_beq_eq_true n;obtain⟨sl',m,q⟩:=X7 h;refine⟨_,m,fun i=>?_⟩;simp only[getS];cases u:j==i with
     |true=>exact .inr ⟨by rw[<-v];exact(by simpa using u:j=i).symm,rfl⟩
     |false=>exact q i
   | false=>
     rw[n,x7o,XK]at h;obtain⟨sl',m,q⟩:=X7 h;refine⟨_,m,fun i=>?_⟩;simp only[getS];cases u:j==i with
     |true=>exact .inl rfl
     |false=>exact q i
def CF{t:Nat}{ls:List LV}{cs:List AV}(hg:getH s.H k=some (.own e sz es))(ht:getS s.sl t=.agg ls)(D:ls.length=cs.length)(R:∀(j:Nat)(l:LV)(c:AV),ls[j]?=some l->cs[j]?=some c->(∃a,l=.p a/\Sub a c)\/(∃n,l=.hd k 0 n/\n=es.length/\c=.sl es))(h:Sr k t cs s.sl fun sl=>PQ k s.H fun H=>K ⟨sl,H⟩):∃s',K s'/\Le N s s':=by
 obtain⟨sl,h,L⟩:=X7 h;obtain⟨H,h,y,hH⟩:=BN h;have agg:∀{σ τ:Mem}{β:Lab}{v:Value},σ.le τ->RepL σ β (.agg ls) v->(∀v,RepL σ β (.hd k 0 es.length) v->Rep τ (.sl es) v)->Rep τ (.agg cs) v:=fun {σ τ β v} z A J=>by
  cases A with
  | agg _ vs u hn hc Z=>
    refine Rep.agg cs vs u (by rw[hn,D]) (fun j c q=>?_) fun j c q=>?_
    .have B:j<ls.length:=by rw[D];exact(x7h.1 q).1
     exact hc j _ (x7x B)
    .have B:j<ls.length:=by rw[D];exact(x7h.1 q).1
     have d:=Z j _ (x7x B);rcases R j _ c (x7x B) q with⟨a,g,h3⟩|⟨n,g,rfl,rfl⟩
     .rw [g]at d;cases d with
      |p hp=>exact h3 _ _ (hp.mono z)
     .rw [g]at d;exact J _ d
 refine⟨_,h,fun σ β a w hr=>?_⟩;rcases ZG.1 (hr.heap.chunks k _ (QJ hg))with⟨Q,rfl⟩|⟨i,vs,U,hisz,hh,hn,hle',hmax,hE⟩
 .refine ⟨σ,β,⟨hr.size,hr.defers,fun j=>?_,⟨hr.heap.mem,fun j c' q=>?_,y.nodup hr.heap.nodup,fun j q=>hr.heap.apart j (y.subset q),fun j q j' V=>hr.heap.inj j (y.subset q) j' (y.subset V)⟩⟩,Mem.le_refl σ,Frm.refl _ _,fun _ h0 d=>absurd h0 d,fun b ⟨j,q,r⟩=>.inl ⟨j,y.subset q,r⟩,fun _ _ _=>rfl⟩
  .show RepL σ β (getS sl j) _;have A:=hr.E j;rcases L j with G|⟨rfl,g⟩
   .rw [G];exact A.kill k
   .rw [g];rw[ht]at A;refine .p (agg (Mem.le_refl σ) A fun v A=>?_);rcases A.hdI with⟨_,_,_,G⟩|⟨i,_,C,_⟩
    .rw [G];exact .nilsl
    .rw [Q]at C;cases C
  .obtain ⟨_,c,g,rfl⟩:=hH j c' q;exact(hr.heap.chunks j c g).kill k
 .refine hr.lay U (QD hg) hh (fun τ z hτ j v A=>?_) (fun τ z hτ j c' q=>?_) (y.nodup hr.heap.nodup)
  .show RepL τ β (getS sl j) v;rcases L j with G|⟨rfl,g⟩
   .rw [G];exact(A.kill k).mono z
   .rw [g];rw[ht]at A;refine .p (agg z A fun v A=>?_);rcases A.hdI with⟨C,_⟩|⟨i',oo,C,hl,O,rfl⟩
    .rw [U]at C;cases C
    .rw [U]at C;cases C;have Y:oo=0:=by
      rcases O with O|O
      .simpa using O
      .omega
     subst Y;obtain⟨u,hu⟩ : ∃u:Nat->Nat->Value,∀(m:Nat)(x:AV)(j:Nat)(c:AV),es[m]?=some x->x.cells[j]?=some c->vs[m*sz+j]?=some (u m j)/\Rep σ c (u m j):=by
      refine⟨fun m j=>(vs[m*sz+j]?).getD undef,fun m x j c M q=>?_⟩;obtain⟨v,d,g⟩:=hE.rep m x j c M q;rw[x8r]at d;split at d
      .have F:vs[m*sz+j]?=some v:=by simpa using d
       exact⟨by simp[F],by simpa[F]using g⟩
      .cases d
     exact .sl es i.blk 0 _ sz vs u hτ (by omega) (by omega) hE.size (fun m x j c M q=>by simpa using(hu m x j c M q).1) fun m x j c M q=>(hu m x j c M q).2.mono z
  .obtain ⟨d,c,g,rfl⟩:=hH j c' q;exact⟨d,c,g,fun I=>(I.kill k).mono z fun _ _ _ _=>rfl⟩
def Sn(hT:TabOK P T)(t:Nat){ls:List LV}(cs:List AV)(z:getH s.H k=some (.own e sz es))(d:getS s.sl t=.agg ls)(r:ls.length=cs.length)(i:∀(j:Nat)(l:LV)(c:AV),ls[j]?=some l->cs[j]?=some c->(∃a,l=.p a/\Sub a c)\/(∃n,l=.hd k 0 n/\n=es.length/\c=.sl es))(h:Sr k t cs s.sl fun sl=>PQ k s.H fun H=>opW P T N ⟨sl,H⟩ o K):OpK P N s o K:=⟨fun σ β a w hr Q=>by
 obtain⟨B,x,q⟩:=CF (N:=N) z d r i (K:=fun s'=>opW P T N s' o K) h;obtain⟨σ1,β1,v,m⟩:=q σ β a w hr;exact Oper.wp_mono (fun A w' ⟨σ',β',g,y,u,b⟩=>⟨σ',β',g,y,u,m.trans b⟩) (DG hT x v Q)⟩
def cpA(b:Nat):AV:=.raw (.pointer (some ⟨b,0,none⟩))
def LV.cl(k b:Nat):LV->LV
 |.p a=>.p a
 | .ptr j off=>bif j==k then(match off with
   |0=>.p (cpA b)
   |_+1=>.p .any)else .ptr j off
 |.hd j off n=>bif j==k then .p .any else .hd j off n
 |.agg vs=>.agg (cls k b vs)
 |.tup vs=>.tup (cls k b vs)
 |.ext j d=>bif j==k then .p .any else .ext j d
where cls (k b:Nat):List LV->List LV
 |[]=>[]
 |v::r=>LV.cl k b v::cls k b r
theorem Az(k b:Nat):∀ls:List LV,LV.cl.cls k b ls=ls.map (LV.cl k b)
 |[]=>rfl
 |v::r=>by rw[LV.cl.cls,Az k b r];rfl
theorem RepL.cl{σ:Mem}{β γ:Lab}{k kc:Nat}{i:BInfo}(b:β k=some i)(x:∀j,j≠k->j≠kc->γ j=β j){l:LV}{v:Value}(hr:RepL σ β l v)(t:l.free kc=true):RepL σ γ (l.cl k i.blk) v:=by
 induction hr with
 |p h=>exact .p h
 | ptr j off i' m=>
   have q:j≠kc:=by simpa[LV.free]using t
   by_cases h:j=k
   .subst h;rw[b]at m;cases m;simp only[LV.cl,x9o,x7c];cases off with
    |zero=>exact .p (.raw _)
    |succ off=>exact .p (.any _)
   .have:(j==k)=false:=by simp[h]
    simp only[LV.cl,this,x7o];exact .ptr j off i' (by rw[x j h q];exact m)
 | hdn j m=>
   have q:j≠kc:=by simpa[LV.free]using t
   by_cases h:j=k
   .subst h;simp only[LV.cl,x9o,x7c];exact .p (.any _)
   .have:(j==k)=false:=by simp[h]
    simp only[LV.cl,this,x7o];exact .hdn j (by rw[x j h q];exact m)
 | hd j off len i' o m c g=>
   have q:j≠kc:=by simpa[LV.free]using t
   by_cases h:j=k
   .subst h;simp only[LV.cl,x9o,x7c];exact .p (.any _)
   .have:(j==k)=false:=by simp[h]
    simp only[LV.cl,this,x7o];exact .hd j off len i' o (by rw[x j h q];exact m) c g
 | agg ls vs u z y _ a=>
   simp only[LV.cl,Az];refine .agg _ vs u (by rw[x7z];exact z) (fun j l' m=>?_) fun j l' m=>?_
   .rw [x7k]at m;cases r:ls[j]?with
    |none=>rw[r]at m;cases m
    |some l=>exact y j l r
   .rw [x7k]at m;cases r:ls[j]?with
    |none=>rw[r]at m;cases m
    | some l=>
      rw[r]at m;cases m;exact a j l r (QA (by simpa[LV.free]using t) j l r)
 | tup ls vs u z y _ a=>
   simp only[LV.cl,Az];refine .tup _ vs u (by rw[x7z];exact z) (fun j l' m=>?_) fun j l' m=>?_
   .rw [x7k]at m;cases r:ls[j]?with
    |none=>rw[r]at m;cases m
    |some l=>exact y j l r
   .rw [x7k]at m;cases r:ls[j]?with
    |none=>rw[r]at m;cases m
    | some l=>
      rw[r]at m;cases m;exact a j l r (QA (by simpa[LV.free]using t) j l r)
 | ext j d i' v m hd=>
   have q:j≠kc:=by simpa[LV.free]using t
   by_cases h:j=k
   .subst h;simp only[LV.cl,x9o,x7c];exact .p (.any _)
   .have:(j==k)=false:=by simp[h]
    simp only[LV.cl,this,x7o];exact .ext j d i' v (by rw[x j h q];exact m) hd
def x1e(k kc b:Nat)(c:AV)(j:Nat)(ch:Chunk):Chunk:=bif j==kc then(match ch with
 |.ext (.cells e l)=>.ext (.cells e (l++[(b,c)]))
 |ch=>ch)else ch.mapL (LV.cl k b)
def q4g(k kc b:Nat)(c:AV)(H:Heap):Heap:=(H.filter fun x=> !(x.1==k)).map fun x=>(x.1,x1e k kc b c x.1 x.2)
def Ln(k kc b:Nat)(c:AV):Heap->(Heap->Prop)->Prop
 |[],K=>K []
 |(j,ch)::r,K=>bif j==k then Ln k kc b c r K else bif j==kc then(match ch with
     |.ext (.cells e l)=>Ln k kc b c r fun r=>K ((j,.ext (.cells e (l++[(b,c)])))::r)
     |ch=>Ln k kc b c r fun r=>K ((j,ch)::r))else SA (LV.cl k b) ch fun ch=>Ln k kc b c r fun r=>K ((j,ch)::r)
theorem RF(k kc b:Nat)(c:AV):∀(H:Heap)(K:Heap->Prop),Ln k kc b c H K=K (q4g k kc b c H)
 |[],K=>rfl
 | (j,ch)::r,K=>by
   have i:=RF k kc b c r;unfold Ln q4g;by_cases h:j=k
   .have e:(j==k)=true:=by simp[h]
    rw[e,x7c,i,z0j (by simp[e])];rfl
   .have e:(j==k)=false:=by simp[h]
    rw[e,x7o,z0x (by simp[e]),x8v];simp only[x1e];by_cases l:j=kc
    .have e2:(j==kc)=true:=by simp[l]
     rw[e2,x7c,x7c];split<;>rw[i]<;>first|rfl|skip
    .have e2:(j==kc)=false:=by simp[l]
     rw[e2,x7o,x7o,BF,i];rfl
def x0g(k kc:Nat)(s:St):Bool:=(!(k==kc)&&(Nat.ble 2000 kc&&blt k 1000))&&((s.sl.all fun x=>x.2.free kc)&&s.H.all fun x=>x.2.free kc)
def x1i(k kc:Nat)(s:St)(K:St->Prop):Prop:=match getH s.H k,getH s.H kc with
 |some (.obj e [.p c]),some (.ext (.cells e' l))=>(e=e'/\x0g k kc s=true)/\∀b,(∀x∈l,x.1≠b)->Wm (LV.cl k b) s.sl fun sl=>Ln k kc b c s.H fun H=>K ⟨sl,H⟩
 |_,_=>False
def CR{a:Act}{kc:Nat}(h:x1i k kc s K)(hr:Rel N σ β s a w):∃σ' β' s',K s'/\Rel N σ' β' s' a w/\Later σ β s.H w σ' β' s'.H w:=by
 unfold x1i at h;split at h<;>first|exact h.elim|skip
 rename_i e c e' l hgk hgc;obtain⟨⟨rfl,hok⟩,h⟩:=h;simp only[x0g,x7i,x8a,x9r,z1o,ne_eq]at hok;obtain⟨⟨hne,hkc,hk⟩,hf1,hf2⟩:=hok;have hkc:2000<=kc:=z2w hkc;have hk:k<1000:=by simpa[blt,Nat.lt_iff_add_one_le]using hk
 have hmk:=QJ hgk;have Z:=QJ hgc;have hlk:k∈s.H.map (·.1):=x7d.2 ⟨_,hmk,rfl⟩;have hlc:kc∈s.H.map (·.1):=x7d.2 ⟨_,Z,rfl⟩;obtain⟨i,vs,hi,hh,hn,hc⟩:=hr.heap.chunks k _ hmk;have hcc:XC.holds (.cells e l) σ (β kc) w:=hr.heap.chunks kc _ Z;obtain⟨hnd,hcl⟩:=hcc;have Q:∀x∈l,x.1≠i.blk:=fun x q L=>by
  obtain⟨A,_,n,b,_⟩:=hcl x q;exact hne (hr.heap.inj k hlk kc hlc i A hi n i.blk i.has_blk (L▸b))
 have h:=h i.blk Q;obtain⟨sl,h,hsl⟩:=ZT (by rfl) h;rw[RF]at h;obtain⟨B,Y⟩ : ∃B:BInfo,∀x,B.has x↔x=i.blk\/∃A,β kc=some A/\A.has x:=by
  cases hq:β kc with
  | none=>
    refine⟨⟨i.blk,0,1,[],x7p _⟩,fun x=>?_⟩;rw[GT];exact⟨fun h=>.inl h.symm,fun h=>h.elim (fun h=>h.symm) fun⟨_,h,_⟩=>by cases h⟩
  | some A=>
    refine⟨⟨A.blk,A.cap,A.sz,some (i.blk,0)::A.subs,A.ok⟩,fun x=>?_⟩;constructor
    .rintro (h|⟨c,h⟩)
     .exact .inr ⟨A,rfl,.inl h⟩
     .rcases x7f.1 h with h|h
      .cases h;exact .inl rfl
      .exact .inr ⟨A,rfl,.inr ⟨c,h⟩⟩
    .rintro (rfl|⟨_,h,h'⟩)
     .exact .inr ⟨0,x7v⟩
     .cases h;rcases h' with h'|⟨c,h'⟩
      .exact .inl h'
      .exact .inr ⟨c,x7j _ h'⟩
 let β':Lab:=fun j=>if j=kc then some B else if j=k then none else β j;have hβc:β' kc=some B:=if_pos rfl;have hβ:∀j,j≠k->j≠kc->β' j=β j:=fun j n b=>by
  show(if j=kc then some B else if j=k then none else β j)=β j;rw[if_neg b,if_neg n]
 have V:∀i,(getS s.sl i).free kc=true:=fun i=>by
  have key:∀sl:List (Nat×LV),(∀x∈sl,x.2.free kc=true)->(getS sl i).free kc=true:=fun sl=>by
   induction sl with
   |nil=>exact fun _=>rfl
   | cons x r ih=>
     intro q;obtain⟨j,v⟩:=x;simp only[getS];cases j==i with
     |true=>exact q _ x7v
     |false=>exact ih fun y hy=>q y (x7j _ hy)
  exact key _ hf1
 have C:∀j∈(q4g k kc i.blk c s.H).map (·.1),j≠k/\j∈s.H.map (·.1):=fun j G=>by
  obtain⟨x,q,rfl⟩:=x7d.1 G;obtain⟨y,hy,rfl⟩:=x7d.1 q;obtain⟨n,b⟩:=x8d.1 hy;exact⟨by simpa using b,x7d.2 ⟨y,n,rfl⟩⟩
 have F:∀j∈(q4g k kc i.blk c s.H).map (·.1),∀i',β' j=some i'->∀x,i'.has x->∃m∈s.H.map (·.1),∃R,β m=some R/\R.has x/\(m=j\/(m=k/\j=kc)):=fun j G i' g x q=>by
  by_cases t:j=kc
  .subst t;rw[hβc]at g;cases g;rcases(Y x).1 q with rfl|⟨A,n,b⟩
   .exact ⟨k,hlk,i,hi,i.has_blk,.inr ⟨rfl,rfl⟩⟩
   .exact ⟨j,hlc,A,n,b,.inl rfl⟩
  .rw [hβ j (C j G).1 t]at g;exact⟨j,(C j G).2,i',g,q,.inl rfl⟩
 refine⟨σ,β',⟨sl,q4g k kc i.blk c s.H⟩,h,⟨hr.size,hr.defers,fun m=>?_,⟨hr.heap.mem,fun j ch G=>?_,?_,fun j G i' g x q=>?_,fun j G j' hj' i1 i2 n b x hx1 hx2=>?_⟩⟩,Mem.le_refl σ,Frm.refl _ _,fun _ h0 n=>absurd h0 n,fun x ⟨j,G,i',g,q⟩=>?_,fun j n b=>hβ j (by omega) (by omega)⟩
 .show RepL σ β' (getS sl m) _;rw[hsl];exact(hr.E m).cl hi hβ (V m)
 .obtain ⟨y,hy,L⟩:=x7d.1 G;cases L;obtain⟨n,b⟩:=x8d.1 hy;have hyk:y.1≠k:=by simpa using b
  unfold x1e;by_cases t:y.1=kc
  .have:y.2=.ext (.cells e l):=by
    have M:(kc,y.2)∈s.H:=by rw[<-t];exact n
    have O:=hr.heap.nodup;have key:∀(H:Heap),(H.map (·.1)).Nodup->∀{c1 c2},(kc,c1)∈H->(kc,c2)∈H->c1=c2:=fun H=>by
     induction H with
     |nil=>intro _ c1 c2 h;cases h
     | cons z r ih=>
       intro hn c1 c2 n b;rw[x8v,x8i]at hn;rcases x7f.1 n with e1|n<;>rcases x7f.1 b with e2|b
       .rw [<-e1]at e2;cases e2;rfl
       .exact absurd (x7d.2 ⟨_,b,by rw[<-e1]⟩) hn.1
       .exact absurd (x7d.2 ⟨_,n,by rw[<-e2]⟩) hn.1
       .exact ih hn.2 n b
    exact key _ O M Z
   rw[this,t];simp only[x9o,x7c];show XC.holds (.cells e (l++[(i.blk,c)])) σ (β' kc) w;rw[hβc];refine⟨?_,fun x q=>?_⟩
   .rw [x7n,x9k];refine⟨hnd,by simp,fun x q y hy L=>?_⟩;obtain⟨z,hz,rfl⟩:=x7d.1 q;rw[x7y.1 hy]at L;exact Q z hz L
   .rcases x7b.1 q with q|q;rotate_left
    .rw [x7y.1 q];obtain⟨u,J,U⟩:=hc 0 (.p c) rfl;refine⟨B,u,rfl,(Y _).2 (.inl rfl),?_,?_⟩
     .have:vs=#[u]:=by
       have h7:vs.size=1:=hn;obtain⟨ls⟩:=vs
       match ls,h7,J with
       |[v],_,J=>simp at J;rw[J]
      rw[<-this];exact hh
     .cases U with
      |p U=>exact U
    .obtain ⟨A,u,J,U,h7,h8⟩:=hcl x q;exact⟨B,u,rfl,(Y _).2 (.inr ⟨A,J,U⟩),h7,h8⟩
  .have e2:(y.1==kc)=false:=by simp[t]
   rw[e2,x7o];have D:=hr.heap.chunks y.1 y.2 n;have hfr:=hf2 y n;obtain⟨j,ch⟩:=y;cases ch with
   | obj e' ls=>
     obtain⟨i',vs',M,O,J,U⟩:=D;refine⟨i',vs',by rw[hβ j hyk t];exact M,O,by rw[x7z];exact J,fun m l' I=>?_⟩;rw[x7k]at I;cases hq:ls[m]?with
     |none=>rw[hq]at I;cases I
     | some lv=>
       rw[hq]at I;cases I;obtain⟨u,h7,h8⟩:=U m lv hq;exact⟨u,h7,h8.cl hi hβ (QA hfr m lv hq)⟩
   | own e' sz es=>
     show Chunk.holds σ β' w j (.own e' sz es);unfold Chunk.holds at D⊢;rw[hβ j hyk t];exact D
   | ext d=>
     show XC.holds d σ (β' j) w;rw[hβ j hyk t];exact D
 .have:((q4g k kc i.blk c s.H).map (·.1)).Sublist (s.H.map (·.1)):=by
   unfold q4g;rw[z1s];exact(List.filter_sublist (l:=s.H)).map _
  exact this.nodup hr.heap.nodup
 .obtain ⟨m,I,R,M,O,_⟩:=F j G i' g x q;exact hr.heap.apart m I R M x O
 .obtain ⟨m,I,R,M,O,J⟩:=F j G i1 n x hx1;obtain⟨m',hm',im',h3',h4',h5'⟩:=F j' hj' i2 b x hx2;have L:=hr.heap.inj m I m' hm' R im' M h3' x O h4';have hjk:=(C j G).1;have hjk':=(C j' hj').1;rcases J with rfl|⟨rfl,rfl⟩<;>rcases h5' with rfl|⟨rfl,rfl⟩
  .exact L
  .exact absurd L hjk
  .exact absurd L.symm hjk'
  .rfl
 .obtain ⟨m,I,R,M,O,_⟩:=F j G i' g x q;exact .inl ⟨m,I,R,M,O⟩
section
variable {P:Program}{T:Tab}{N:Nat}{o:Oper}{K:St->Prop}{s:St}
def X6(hT:TabOK P T)(k kc:Nat)(h:x1i k kc s fun s'=>opW P T N s' o K):OpK P N s o K:=by
 refine⟨fun σ β a w hr Q=>?_⟩;obtain⟨σ1,β1,v,n,m,i⟩:=CR h hr;refine Oper.wp_mono (fun u w' r=>?_) (DG hT n m Q);obtain⟨σ',β',s',q,l,t⟩:=r;exact⟨σ',β',s',q,l,i.trans t⟩
def CG{sl:List (Nat×LV)}(kc:Nat)(e:TypeId)(h:((sl.all fun x=>x.2.free kc)&&H.all fun x=> !(x.1==kc)&&x.2.free kc)=true)(R:2000<=kc):Le N ⟨sl,H⟩ ⟨sl,(kc,.ext (.cells e []))::H⟩:=fun σ β a w hr=>by
 simp only[x7i,x8a,x9r,z1o,ne_eq]at h;obtain⟨D,G⟩:=h;have u:∀j∈H.map (·.1),j≠kc:=fun j l=>by
  obtain⟨x,A,rfl⟩:=x7d.1 l;exact(G x A).1
 have q:∀j,j≠kc->(β.set kc none) j=β j:=fun j l=>by simp[Lab.set,l]
 have m:(β.set kc none) kc=none:=by simp[Lab.set]
 have g:∀i,(getS sl i).free kc=true:=fun i=>by
  have key:∀sl:List (Nat×LV),(∀x∈sl,x.2.free kc=true)->(getS sl i).free kc=true:=fun sl=>by
   induction sl with
   |nil=>exact fun _=>rfl
   | cons x r M=>
     intro A;obtain⟨j,v⟩:=x;simp only[getS];cases j==i with
     |true=>exact A _ x7v
     |false=>exact M fun y L=>A y (x7j _ L)
  exact key _ D
 refine⟨σ,β.set kc none,⟨hr.size,hr.defers,fun i=>(hr.E i).set none (g i),⟨hr.heap.mem,fun j c l=>?_,?_,fun j l i t b B=>?_,fun j l C d i i' t z b B F=>?_⟩⟩,Mem.le_refl σ,Frm.refl _ _,fun _ I D=>absurd I D,fun b ⟨j,l,i,t,B⟩=>?_,fun j O Q=>q j (by omega)⟩
 .rcases x7f.1 l with n|l
  .cases n;exact⟨z3c,fun x A=>by cases A⟩
  .exact (hr.heap.chunks j c l).set none (u j (x7d.2 ⟨_,l,rfl⟩)) (G _ l).2
 .exact x8i.2 ⟨fun J=>u kc J rfl,hr.heap.nodup⟩
 .rcases x7f.1 l with n|l
  .have n:j=kc:=n;rw[n,m]at t;cases t
  .rw [q j (u j l)]at t;exact hr.heap.apart j l i t b B
 .rcases x7f.1 l with n|l
  .have n:j=kc:=n;rw[n,m]at t;cases t
  .rcases x7f.1 d with n|d
   .have n:C=kc:=n;rw[n,m]at z;cases z
   .rw [q j (u j l)]at t;rw[q C (u C d)]at z;exact hr.heap.inj j l C d i i' t z b B F
 .rcases x7f.1 l with n|l
  .have n:j=kc:=n;rw[n,m]at t;cases t
  .rw [q j (u j l)]at t;exact .inl ⟨j,l,i,t,B⟩
end
section
variable {P:Program}{T:Tab}{N:Nat}{o:Oper}{s:St}{hr:Bool}
def JO{K:LV->Prop}{x:Operand}(i:o.op=.nilCheck x){b:Nat}(q:QN s.sl x=.p (cpA b))(l:K (.p (cpA b))):ValO P hr s o K:=by
 refine⟨fun σ β a w m _=>?_⟩;have h:=QQ m x;rw[q]at h;refine⟨_,.pointer (some ⟨b,0,none⟩),l,.p (.raw _),fun w' _ _=>?_⟩;generalize n:a.eval x=v at h;cases h with
 | p h=>cases h with
   |raw=>simp[execOp,i,n]
def Lp(hT:TabOK P T){K:LV->Prop}{t:TypeId}{x:Operand}(r:o.op=.load t x){i:TyI}(E:T.get t=some i)(m:PK i.desc=false){b:Nat}(L:QN s.sl x=.p (cpA b)){kc:Nat}{l:List (Nat×AV)}(y:getH s.H kc=some (.ext (.cells e l))){c:AV}(F:(b,c)∈l)(D:K (.p c)):ValO P true s o K:=by
 refine⟨fun σ β a w I hH=>?_⟩;have h:=QQ I x;rw[L]at h;have n:XC.holds (.cells e l) σ (β kc) w:=hH.chunks kc _ (QJ y);obtain⟨M,u,z,d,g,A⟩:=n.2 _ F;refine⟨_,u,D,.p A,fun w' _ G=>?_⟩;have q:=(hH.apart kc (x7d.2 ⟨_,QJ y,rfl⟩) M z b d).2;have B:w'.heap[b]?=some (.cells #[u] e (0,0)):=(G rfl b q).trans g;have C:=(WK (P:=P) hT E B (off:=0)).2 m u (by simp);generalize J:a.eval x=v at h;cases h with
 | p h=>cases h with
   |raw=>simp[execOp,r,J,C]
def AT(h:HRel σ β H w){n:Nat}{i:BInfo}(g:k∈H.map (·.1))(a:β k=some i)(r:i.has n){vs:Array Value}{H':Heap}(hH:H'.map (·.1)=H.map (·.1))(x:∀j c,(j,c)∈H'->j≠k->(j,c)∈H)(v:∀c,(k,c)∈H'->c.holds σ β (w.setRow n vs) k):
  HRel σ β H' (w.setRow n vs)/\Later σ β H w σ β H' (w.setRow n vs):=by
 have y:=h.apart k g i a n r;have u:∀b,b≠n->(w.setRow n vs).heap[b]?=w.heap[b]?:=fun b l=>setRow_other w n b vs l;refine⟨⟨fun b c l=>?_,fun j c q=>?_,by rw[hH];exact h.nodup,fun j q i' m b l=>?_,fun j q I d=>h.inj j (hH▸q) I (hH▸d)⟩,Mem.le_refl σ,⟨rfl,rfl,rfl,x7s _,by simp,fun b _ G=>u b fun e=>G ⟨k,g,i,a,e.symm▸r⟩⟩,fun b D E=>absurd D E,fun b l=>?_,fun _ _ _=>rfl⟩
 .have A:b≠n:=fun e=>by rw[e,y.1]at l;cases l
  obtain⟨e,C,F⟩:=h.mem b c l;exact⟨e,C,(u b A).trans F⟩
 .by_cases t:j=k
  .subst t;exact v c q
  .have B:=x j c q t;refine(h.chunks j c B).mono (Mem.le_refl σ) fun i' m b l=>u _ fun e=>t ?_;exact h.inj j (x7d.2 ⟨_,B,rfl⟩) k g i' i m a b l (e.symm▸r)
 .have:=h.apart j (hH▸q) i' m b l;exact⟨this.1,by simpa using this.2⟩
 .obtain ⟨j,q,i',m,z⟩:=l;exact .inl ⟨j,hH▸q,i',m,z⟩
def setCell(b:Nat)(c:AV)(l:List (Nat×AV)):List (Nat×AV):=l.map fun x=>if x.1=b then(b,c)else x
end
def G5{n:Nat}{c t:Chunk}(h:KN s k n c t K):∃u,K u/\KN s k n c t fun v=>v=u:=by
 unfold KN at h⊢;obtain⟨sl,y,_⟩:=ZT (by rfl) h;have key:∀{f:LV->LV}{l:List (Nat×LV)}{K:List (Nat×LV)->Prop},Wm f l K↔K (l.map fun x=>(x.1,f x.2)):=fun {f} l=>by
  induction l with
  |nil=>intro K;rfl
  |cons x r q=>intro K;simp only[Wm,XK,q,x8v]
 have m:∀{f:LV->LV}{c:Chunk}{H:Heap},∃H',∀K:Heap->Prop,Xl k n f c H K↔K H':=fun {f c} H=>by
  induction H with
  |nil=>exact⟨[],fun K=>Iff.rfl⟩
  | cons x r q=>
    obtain⟨H',i⟩:=q;obtain⟨j,d⟩:=x;simp only[Xl,BF];cases j==n with
    |true=>exact⟨H',fun K=>by simp only[x7c];exact i _⟩
    | false=>
      cases j==k with
      |true=>exact⟨(j,c)::H',fun K=>by simp only[x7c,x7o];exact i _⟩
      |false=>exact⟨(j,d.mapL f)::H',fun K=>by simp only[x7o];exact i _⟩
 rw[key]at h;simp only[key];obtain⟨H',i⟩:=m (f:=LV.xkill k) (c:=c) (H:=s.H);rw[i]at h;exact⟨_,h,(i _).2 rfl⟩
theorem OpK.focus(hT:TabOK P T)(t k a x:Nat){e e2:Nat}{rows:List (List AV)}{l:List Nat}{row:List AV}(L:WV x s=true)(F:getH s.H k=some (.ext (.mat e e2 sz rows l)))(v:rows[a]?=some row)(z:a∉l)(u:ZH k=false)(J:getS s.sl t=.ext k (.row a row.length))(h:KN s k x (.ext (.mat e e2 sz rows (a::l))) (.own e2 sz row) fun r=>opW P T N ⟨(t,.hd x 0 row.length)::r.sl,r.H⟩ o K):OpK P N s o K:=by
 obtain⟨r,h,D⟩:=G5 h;refine⟨fun σ β B w hr Q=>?_⟩;obtain⟨β',m,I,A,q⟩:=T5 hr L F v z u D;have b:Rel N σ β' ⟨(t,.hd x 0 row.length)::r.sl,r.H⟩ B w:=⟨m.size,m.defers,fun i=>by
  show RepL σ β' (getS ((t,.hd x 0 row.length)::r.sl) i) _;simp only[getS];cases G:t==i with
  | true=>
    have:t=i:=by simpa using G
    subst this;have g:=hr.E t;rw[J]at g;exact q _ g
  |false=>exact m.E i,m.heap⟩
 exact Oper.wp_mono (fun O w' ⟨σ',β'',M,C,c,y⟩=>⟨σ',β'',M,C,c,I.trans y⟩) (DG hT h b Q)
theorem Rel.layI{s':St}{a:Act}(hr:Rel N σ β s a w){i:BInfo}(I:β k=some i)(O:k∈s.H.map (·.1))(y:∀b,i.has b->∃c e u,w.heap[b]?=some (.cells c e u))(R:∀τ:Mem,σ.le τ->(∀b c e u,i.has b->w.heap[b]?=some (.cells c e u)->τ b=some c)->∀j v,RepL σ β (getS s.sl j) v->RepL τ β (getS s'.sl j) v)(C:∀τ:Mem,σ.le τ->∀j c',(j,c')∈s'.H->j≠k/\∃c,(j,c)∈s.H/\(c.holds σ β w j->c'.holds τ β w j))(Q:(s'.H.map (·.1)).Nodup):
  ∃σ' β',Rel N σ' β' s' a w/\Later σ β s.H w σ' β' s'.H w:=by
 let τ:Mem:=fun b=>@ite _ (i.has b) (Classical.propDecidable _) (match w.heap[b]?with
  |some (.cells c _ _)=>some c
  |_=>none) (σ b)
 have x:∀b c e u,i.has b->w.heap[b]?=some (.cells c e u)->τ b=some c:=fun b c e u l F=>by
  show @ite _ (i.has b) (Classical.propDecidable _) _ _=_;rw[if_pos l,F]
 have q:∀b,¬i.has b->τ b=σ b:=fun b l=>by
  show @ite _ (i.has b) (Classical.propDecidable _) _ _=_;rw[if_neg l]
 have t:σ.le τ:=fun b c l=>by
  rw[q b]
  .exact l
  .intro J;rw[(hr.heap.apart k O i I b J).1]at l;cases l
 have m:∀j∈s'.H.map (·.1),j≠k/\j∈s.H.map (·.1):=fun j r=>by
  obtain⟨⟨G,c'⟩,hm,rfl⟩:=x7d.1 r;obtain⟨A,c,z,_⟩:=C τ t G c' hm;exact⟨A,x7d.2 ⟨_,z,rfl⟩⟩
 refine⟨τ,β,⟨hr.size,hr.defers,fun j=>R τ t x j _ (hr.E j),⟨fun b c l=>?_,fun j c' r=>?_,Q,fun j r U D b l=>?_,fun j r G L=>hr.heap.inj j (m j r).2 G (m G L).2⟩⟩,t,Frm.refl _ _,fun b l B=>.inl ?_,fun b ⟨j,r,M⟩=>.inl ⟨j,(m j r).2,M⟩,fun _ _ _=>rfl⟩
 .by_cases g:i.has b
  .obtain ⟨V,e,u,F⟩:=y b g;rw[x b V e u g F]at l;cases l;exact⟨_,_,F⟩
  .rw [q b g]at l;exact hr.heap.mem b c l
 .obtain ⟨_,c,z,Y⟩:=C τ t j c' r;exact Y (hr.heap.chunks j c z)
 .have A:=m j r;have z:=hr.heap.apart j A.2 U D b l;refine⟨?_,z.2⟩;rw[q b fun Z=>A.1 (hr.heap.inj j A.2 k O U i D I b l Z)];exact z.1
 .by_cases g:i.has b
  .exact ⟨k,O,i,I,g⟩
  .rw [q b g]at B;exact absurd l B
def IC{sl sl':List (Nat×LV)}{H':Heap}{e2:TypeId}{rows:List (List AV)}(hg:getH H k=some (.ext (.mat e e2 sz rows [])))(M:∀i,getS sl' i=(getS sl i).kill k\/(getS sl i=.hd k 0 rows.length/\getS sl' i=.p (.sl (rows.map .sl))))(h:(H'.map (·.1)).Sublist (H.map (·.1)))(hH:∀j c',(j,c')∈H'->j≠k/\(j,c')∈H/\c'.kill k=c'):Le N ⟨sl,H⟩ ⟨sl',H'⟩:=fun σ β a w hr=>by
 have Q:=QD hg;rcases hr.heap.chunks k _ (QJ hg)with⟨Z,hr0⟩|⟨i,vs,hi,h1,h2,h3,h4,h5,h6,h7,h8⟩
 .refine ⟨σ,β,⟨hr.size,hr.defers,fun j=>?_,⟨hr.heap.mem,fun j c' l=>?_,h.nodup hr.heap.nodup,fun j l=>hr.heap.apart j (h.subset l),fun j l j' hj'=>hr.heap.inj j (h.subset l) j' (h.subset hj')⟩⟩,Mem.le_refl σ,Frm.refl _ _,fun _ h0 h1=>absurd h0 h1,fun b ⟨j,l,r⟩=>.inl ⟨j,h.subset l,r⟩,fun _ _ _=>rfl⟩
  .show RepL σ β (getS sl' j) _;have y:=hr.E j;rcases M j with F|⟨g1,C⟩
   .rw [F];exact y.kill k
   .rw [C];have y:RepL σ β (getS sl j) _:=y;rw[g1]at y;rcases y.hdI with⟨_,_,_,F⟩|⟨i,_,Q,_⟩
    .rw [F,hr0];exact .p .nilsl
    .rw [Z]at Q;cases Q
  .exact hr.heap.chunks j c' (hH j c' l).2.1
 .have J:∀(b c B:Nat),i.subs[B]?=some (some (b,c))->∃ws,w.heap[b]?=some (.cells ws e2 (0,0)):=fun b c B L=>by
   have ha:B<rows.length:=by rw[<-h6];exact(x7h.1 L).1
   rcases(h8 B _ (x7x ha)).2 (by simp)with⟨d,_⟩|⟨b',c',ws,d,_,O,_⟩
   .rw [L]at d;cases d
   .rw [L]at d;cases d;exact⟨ws,O⟩
  refine hr.layI hi Q (fun b Y=>?_) (fun τ z hτ j v y=>?_) (fun τ z j c' l=>?_) (h.nodup hr.heap.nodup)
  .rcases Y with rfl|⟨c,Y⟩
   .exact ⟨_,_,_,h2⟩
   .obtain ⟨B,V,L⟩:=x9s.1 Y;obtain⟨ws,hw⟩:=J b c B (by rw[x7x V,L]);exact⟨_,_,_,hw⟩
  .show RepL τ β (getS sl' j) v;have y:RepL σ β (getS sl j) v:=y;rcases M j with F|⟨g1,C⟩
   .rw [F];exact(y.kill k).mono z
   .rw [C];rw[g1]at y;rcases y.hdI with⟨t,_⟩|⟨i',oo,t,hl,R,rfl⟩
    .rw [hi]at t;cases t
    .rw [hi]at t;cases t;have hoo:oo=0:=by
      rcases R with R|R
      .simpa using R
      .omega
     subst hoo;have A:∀(m:Nat)(x:AV),(rows.map AV.sl)[m]?=some x->∃row,rows[m]?=some row/\x=.sl row:=fun m x n=>by
      rw[x7k]at n;cases hq:rows[m]?with
      |none=>rw[hq]at n;cases n
      |some row=>rw[hq]at n;cases n;exact⟨row,rfl,rfl⟩
     have q:∀(m:Nat)(row:List AV),rows[m]?=some row->∃u,vs[m]?=some u/\Rep τ (.sl row) u:=fun m row hm=>by
      rcases(h8 m row hm).2 (by simp)with⟨d,rfl,O⟩|⟨b,c,ws,d,q2,O,q4,q5,q6,q7⟩
      .exact ⟨_,O,.nilsl⟩
      .refine ⟨_,q2,.sl row b 0 c sz ws (fun m j=>(ws[m*sz+j]?).getD undef) (hτ b ws _ _ (.inr ⟨c,x7t d⟩) O) q5 q6 (fun m x n=>(q7 m x n).1) (fun m x j c' n l=>?_) fun m x j c' n l=>?_⟩
       .obtain ⟨u,r4,_⟩:=(q7 m x n).2 j c' l;simp[r4]
       .obtain ⟨u,r4,r5⟩:=(q7 m x n).2 j c' l;simpa[r4]using r5.mono z
     have G:Rep τ (.sl (rows.map .sl)) (.slice (some ⟨i.blk,0,none⟩) (rows.map AV.sl).length i.cap):=by
      refine .sl (rows.map .sl) i.blk 0 i.cap 1 vs (fun m j=>(vs[m*1+j]?).getD undef) (hτ _ _ _ _ i.has_blk h2) (by simpa using h4) h5 (fun m x n=>?_) (fun m x j c' n l=>?_) fun m x j c' n l=>?_
      .obtain ⟨row,_,rfl⟩:=A m x n;rfl
      .obtain ⟨row,D,rfl⟩:=A m x n;obtain⟨u,U,g5⟩:=q m row D;have g:j=0:=by
        have:=(x7h.1 l).1;simpa[AV.cells]using this
       subst g;simp[U]
      .obtain ⟨row,D,rfl⟩:=A m x n;obtain⟨u,U,g5⟩:=q m row D;have g:j=0:=by
        have:=(x7h.1 l).1;simpa[AV.cells]using this
       subst g;cases l;simpa[U]using g5
     have:RepL τ β (.p (.sl (rows.map .sl))) (.slice (some ⟨i.blk,0,none⟩) (rows.map AV.sl).length i.cap):=.p G;simpa using this
  .obtain ⟨g1,C,D⟩:=hH j c' l;refine⟨g1,c',C,fun I=>?_⟩;have:=(I.kill k).mono z fun _ _ _ _=>rfl
   rwa[D]at this
def Ib{α:Type}{l m:List α}(h:l.take j=m.take j)(n:j<l.length)(q:j<m.length)(i:l[j]=m[j]):l.take (j+1)=m.take (j+1):=by
 rw[x7r n,x7r q,h,i]
def Oq{α:Type}{l m:List α}(h:l.take j=m.take j)(i:l.length<=j)(n:m.length<=j):l=m:=by
 rwa[x7a i,x7a n]at h
def PU(l m:List Int):SpecP prog 44 [QB l,QB m] (fun r=>r=.bool (decide (l=m))):=by
 refine sB FV func44 rfl call44 ?_;conv=>whnf
 have t:(l.map (AV.int .i64)).length=l.length:=x7z _;have u:(m.map (AV.int .i64)).length=m.length:=x7z _;repeat' (first|(refine iM fun _=>?_;conv=>whnf)|(apply bE<;>intro _<;>first|omega|conv=>whnf))
 all_goals first
  |exact RetK.ff (x9m fun h=>by subst h;omega)
  |skip
 have q:l.length=m.length:=by omega
 refine LoopK.inv QV (fun j:Nat=>⟨[(0,.p (QB l)),(1,.p (QB m)),(12,.p (.int .i64 (l.map (AV.int .i64)).length)),(13,.j j)],[]⟩) (fun j=>j<=l.length/\l.take j=m.take j) (fun j=>l.length-j) 0 (Le.of_eq rfl) ⟨x7p _,rfl⟩ ?_;rintro j ⟨v,n⟩;rcases x7m j l.length with i|i
 .conv=>whnf
  repeat' (first|((first|refine dA ?_|(refine iA fun _=>?_)|refine wI ?_);conv=>whnf)|(apply bD<;>intro _<;>first|omega|conv=>whnf)|(apply bE<;>intro _<;>first|omega|conv=>whnf))
  all_goals first
   |exact RetK.ff (x9m fun h=>by subst h;simp_all)
   |exact⟨j+1,⟨by omega,Ib n i (by omega) (by simp_all)⟩,by omega,Le.of_eq rfl⟩
 .conv=>whnf
  repeat' (apply bD<;>intro _<;>first|omega|conv=>whnf)
  exact RetK.tt (z0y (Oq n i (by omega)))
def B5(w:Way)(f:Pr)(n:Nat)(t:w.n=n)(m:w.p.A[w.j]?=some f)(i:cntP w.p.A<=1000)(q:n<=5000)(l:List Step)(h:l.length<=1000000):SpecP prog 159 [.ip w.cells,eSteps l] (fun r=>r=VW (QL n (l.map (ixP w.p w.j f w.n)))):=by
 refine sB FP func159 rfl call159 ?_;conv=>whnf
 repeat' ((first|refine dA ?_|(refine CallK.pure (JU w f m i (by omega) l h) (.cons (Sub.refl _) (.cons (Sub.refl _) .nil)) ?_;rintro _ rfl)|(refine CallK.pure (Y6 n q (l.map (ixP w.p w.j f w.n)) (by rw[x7z];exact h)) (.cons (Sub.int t) (.cons (Sub.refl _) .nil)) ?_;rintro _ rfl));conv=>whnf)
 exact RetK.p rfl
def B6(p:Pg)(j:Nat)(f:Pr)(n:Nat)(h:AV)(m:List AV)(t:p.A[j]?=some f)(q:cntP p.A<=1000)(u:n<=5000)(l:List Step)(i:l.length<=1000000):
  SpecH prog 159 [.ptr 1000 0,.p (eSteps l)] (q2g p j n h m) (fun r H=>r=.p (VW (QL n (l.map (ixP p j f n))))/\H=q2g p j n h m):=by
 refine sH FP func159 rfl call159 ?_;conv=>whnf
 refine DrawK.of QV mixed (.cons 0 false (.cons 1 false (.cons 2 false (.cons 4 false (.cons 5 false (.fork 3 (.cons 6 true (.cons 7 true (.cons 8 true .nil))) 6 (.cons 3 true (.cons 7 true (.cons 8 true .nil))))))))) (by kernel_rfl) ?_;conv=>whnf
 repeat' (first|(refine CallK.pure (Y6 n u (l.map (ixP p j f n)) (by rw[x7z];exact i)) (.cons (Sub.refl _) (.cons (Sub.refl _) .nil)) ?_;rintro _ rfl;conv=>whnf)|(refine x7g ?_ ?_<;>conv=>whnf)|(refine cJ [(1000,1000),(2000,2000)] 0 (B2 p j f n h m t q (by omega) l i) ?_;rintro l' H' ⟨es,rfl,rfl,rfl⟩;conv=>whnf))
 all_goals exact⟨_,x8z _,rfl,rfl⟩
def H4{n:Nat}{N:List (List Int)}(h:XG n N){a:Nat}{b:Int}(q:0<=b/\b<n):XG n (Gs N a b):=by
 unfold Gs;refine⟨by rw[x9d];exact h.1,fun r hr x i=>?_⟩;rcases z1f hr with hr|rfl
 .exact h.2 r hr x i
 .unfold W0 at i;have m:∀y∈N.getD a [],0<=y/\y<n:=fun y l=>by
   rcases x7m a N.length with ha|ha
   .rw [x7w,x7x ha]at l;exact h.2 _ (x7l ha) y l
   .rw [x7w,x9z ha]at l;cases l
  rcases x7b.1 i with i|i
  .exact m x (z2i i)
  .rcases x7f.1 i with rfl|i
   .exact q
   .exact m x (List.mem_of_mem_drop i)
def q4h{n:Nat}{g:List (List Int)×List (List Int)}(h:XG n g.1/\XG n g.2)(e:Int×Int):XG n (B9 n g e).1/\XG n (B9 n g e).2:=by
 rw[U1,Kj];cases i:ZB n e.1&&ZB n e.2 && !(g.1.getD e.1.toNat []).contains e.2
 .exact h
 .simp only[x7i]at i;exact⟨H4 h.1 (XO i.1.2),H4 h.2 (XO i.1.1)⟩
def OQ{n:Nat}(l:List (Int×Int)):∀{g:List (List Int)×List (List Int)},XG n g.1/\XG n g.2->XG n (l.foldl (B9 n) g).1/\XG n (l.foldl (B9 n) g).2:=by
 induction l with
 |nil=>intro g h;exact h
 |cons e r i=>intro g h;exact i (q4h h e)
def JD(n:Nat)(l:List (Int×Int)):XG n (QL n l).1/\XG n (QL n l).2:=by
 have h:XG n (List.replicate n []):=⟨by simp,fun r hr=>by rw[z0r hr];simp⟩;exact OQ l ⟨h,h⟩
theorem Wr.eq{n m:Int}{K:Int->Prop}(h:n=m)(i : -9223372036854775808<=m)(l:m<=9223372036854775807)(q:K m):Wr .i64 n K:=by
 subst h;exact Wr.i64 i l q
theorem Zr:∀(a:Step)(l:List Step),(XU a l).length<=l.length
 |_,[]=>x7s _
 | a,b::r=>by
   have:=Zr b r;rw[XU];cases ZK b a<;>simp<;>omega
def Nc(l:List Step):(WC l).length<=l.length:=by
 unfold WC;rw[<-Z6 (l:=l)];cases JZ l with
 |nil=>exact x7s _
 | cons a r=>
   have:=Zr a r;simp[NH];omega
def AM(h:Sheet)(f:Pr)(it:Item):(VR h f it).length<=2:=by
 unfold VR;split<;>(try split)<;>(try split)<;>(try split)<;>(try split)<;>(try split)<;>simp
theorem Ze{α β:Type}{g:α->List β}(h:∀x,(g x).length<=2):∀l:List α,(l.flatMap g).length<=2*l.length
 |[]=>by simp
 | a::r=>by
   have:=Ze h r;have:=h a;rw[x9v,x7u,x8j];omega
def W4(p:Pg)(j:Nat)(f:Pr):(QF p j f).length<=1+2*cntL f.body:=by
 unfold QF;have:=Ze (g:=fun it=>(VR (sheetOf p) f it).map (Step.mk it.s.id · 1)) (fun it=>by rw[x7z];exact AM _ _ _) (itL j 0 (-1) 0 (QP p.A j) f.body);rw[ZC]at this;rw[x8j];omega
theorem D5:∀(i:Nat)(l:List Bool)(a:Int),a∈HI i l->(i:Int)<=a/\a<i+l.length
 |_,[],_,h=>by rw[HI]at h;cases h
 | i,b::r,a,h=>by
   rw[HI]at h;have key:a∈HI (i+1) r->(i:Int)<=a/\a<i+(b::r).length:=fun h=>by
    have:=D5 (i+1) r a h;simp only[x8j];omega
   cases b with
   |false=>exact key h
   | true=>
     rcases x7f.1 h with rfl|h
     .simp only[x8j];omega
     .exact key h
def Cr(n:Nat)(l:List Int):wkInv n (DL n l):=by
 unfold DL;have:∀(l:List Int)(st:List Bool×List Int),wkInv n st->wkInv n (l.foldl (fun st a=>bif ZB n a then KG st a else st) st):=fun l=>by
  induction l with
  |nil=>intro st h;exact h
  | cons a r m=>
    intro st h;refine m _ ?_;show wkInv n (bif ZB n a then KG st a else st);cases i:ZB n a with
    |true=>exact Q9 h (XO i)
    |false=>exact h
 exact this l _ (MU n)
def Cw{n:Nat}{rows:List (List Int)}(h:XG n rows)(l:List Int):(ZN rows l).length=n:=by
 unfold ZN;rw[h.1];exact(DC h _ _ (Cr n l)).1
def KH(l:List Int)(b:List Bool):List Bool:=l.foldl (fun b a=>b.set a.toNat true) b
def newWay(p:Pg)(j:Nat)(f:Pr):Way:=
 let h:=WC (QF p j f);let n:=cntL f.body+2
 ⟨p,j,n,h,KH (HI 0 (ZN (QL n (h.map (ixP p j f n))).1 [0])) (List.replicate n false)⟩
def q8x(p:Pg)(j:Nat)(f:Pr)(B:p.A[j]?=some f)(J:cntP p.A<=1000)(O:∀it∈itsOf p j f,it.s.kind=7->1<=it.loop/\it.loop<=(sheetOf p).l.length)(F:∀s∈QF p j f,okSt s):SpecP prog 93 [.ip (sheetOf p).cells,.int .i64 j] (fun r=>r=.ip (newWay p j f).cells):=by
 refine sB CK func93 rfl call93 ?_;conv=>whnf
 obtain⟨_,_,_,L,I⟩:=QU p;obtain⟨D,g,Q,_⟩:=I j f B;repeat' ((first|refine dA ?_|refine x7g rfl ?_|refine aR ?_|(refine IdxK.at rfl (VM D) rfl ?_)|(refine IdxK.at rfl (VM g) rfl ?_)|refine cP (Wg p j f B J O F) ?_|refine Wr.eq (m:=cntL f.body) (by omega) (by omega) (by omega) ?_|refine Wr.eq (m:=(cntL f.body+2:Nat)) (by omega) (by omega) (by omega) ?_|refine z2b (cntL f.body+2) rfl (by show 1*_<=140737488355328;omega) (by unfold maxLen;omega) ?_);conv=>whnf)
 have G:(WC (QF p j f)).length<=1000000:=by have:=Nc (QF p j f);have:=W4 p j f;omega
 refine cJ [(1000,0),(2000,1)] 0 (B6 p j f (cntL f.body+2) (eSteps (WC (QF p j f))) (List.replicate (cntL f.body+2) .ff) B J (by omega) (WC (QF p j f)) G) ?_ (hH:=x8u (j:=0) rfl rfl (CSub.of_eq (by rw[x9w];rfl)) (x8u (j:=1) rfl rfl (CSub.refl _) z0z));rintro l' H' ⟨rfl,rfl⟩;conv=>whnf
 obtain⟨t,_⟩:=JD (cntL f.body+2) ((WC (QF p j f)).map (ixP p j f (cntL f.body+2:Nat)));repeat' ((first|(refine iM fun _=>?_)|refine x7g rfl ?_|refine aD ?_|refine bP ?_|(refine CallK.pure (Xg (cntL f.body+2) (by omega) _ t [0] (by simp)) (.cons (Sub.refl _) (.cons (Sub.refl _) .nil)) ?_;rintro _ rfl));conv=>whnf)
 have u:∀a∈HI 0 (ZN (QL (cntL f.body+2) ((WC (QF p j f)).map (ixP p j f (cntL f.body+2:Nat)))).1 [0]),0<=a/\a<(cntL f.body+2:Nat):=fun a ha=>by
  have:=D5 _ _ _ ha;rw[Cw t]at this;omega
 have E:newWay p j f=⟨p,j,(cntL f.body+2:Nat),WC (QF p j f),KH (HI 0 (ZN (QL (cntL f.body+2) ((WC (QF p j f)).map (ixP p j f (cntL f.body+2:Nat)))).1 [0])) (List.replicate (cntL f.body+2) false)⟩:=rfl;rw[E];have C:((HI 0 (ZN (QL (cntL f.body+2) ((WC (QF p j f)).map (ixP p j f (cntL f.body+2:Nat)))).1 [0])).map (AV.int .i64)).length<=9223372036854775807:=by assumption
 generalize HI 0 (ZN (QL (cntL f.body+2) ((WC (QF p j f)).map (ixP p j f (cntL f.body+2:Nat)))).1 [0])=lst at u C⊢;have R:(lst.map (AV.int .i64)).length=lst.length:=x7z _;refine LoopK.inv QV (fun x:Nat×List Bool=>⟨[(5,.ptr 0 0),(46,.p (QB lst)),(47,.p (.int .i64 (lst.map (AV.int .i64)).length)),(48,.j x.1)],[(0,.obj 127 [.p (.ip (sheetOf p).cells),.j j,.j (cntL f.body+2:Nat),.p (eSteps (WC (QF p j f))),.hd 1 0 (cntL f.body+2)]),(1,.own 4 1 (x.2.map bv))]⟩)
  (fun x=>x.1<=lst.length/\x.2.length=cntL f.body+2/\KH (lst.drop x.1) x.2=KH lst (List.replicate (cntL f.body+2) false)) (fun x=>lst.length-x.1) (0,List.replicate (cntL f.body+2) false)
  (Le.of_eq (by simp only[z0n,x9w];rfl)) ⟨x7p _,by simp,rfl⟩ ?_
 rintro⟨m,b⟩ ⟨M,y,q⟩;simp only at M y q⊢;rcases x7m m lst.length with v|v;rotate_left 1
 .rw [x7e v]at q;rw[<-q];conv=>whnf
  repeat' (apply bD<;>intro _<;>first|omega|conv=>whnf)
  exact⟨_,.ptr (cs:=[.ip (sheetOf p).cells,.int .i64 j,.int .i64 (cntL f.body+2:Nat),eSteps (WC (QF p j f)),.sl (b.map bv)]) rfl rfl (fun i x c h n=>by
   match i,h,n with
   |0,h,n=>cases h;cases n;exact .p (Sub.refl _)
   |1,h,n=>cases h;cases n;exact .p (Sub.refl _)
   |2,h,n=>cases h;cases n;exact .p (Sub.refl _)
   |3,h,n=>cases h;cases n;exact .p (Sub.refl _)
   |4,h,n=>cases h;cases n;exact .hd rfl (by rw[x7z,y])),rfl⟩
 rw[x8b v]at q;have ha:=u _ (x7l v);have z:lst[m].toNat<b.length:=by omega
 have d:(b.map bv)[lst[m].toNat]?=some (bv b[lst[m].toNat]):=by simp[z]
 conv=>whnf
 repeat' (first|((first|refine x7g rfl ?_|(refine iA fun _=>?_)|refine wI ?_|refine x8p lst[m].toNat (by omega) (by omega) ?_|refine z0d lst[m].toNat 0 (bv b[lst[m].toNat]) .tt (by omega) d (x7s 1) (by cases b[lst[m].toNat]<;>rfl) ?_);conv=>whnf)|(apply bD<;>intro _<;>first|omega|conv=>whnf))
 exact⟨(m+1,b.set lst[m].toNat true),⟨by simp only;omega,by simp only[x9d];exact y,q⟩,by simp only;omega,Le.of_eq (by simp only[x8o];rfl)⟩
def V6(n c:Nat):List Int:=(List.range' (n+1) c).map fun(k:Nat)=>(k:Int)
def V7(n a b:Nat):V6 n (a+b)=V6 n a++V6 (n+a) b:=by
 unfold V6;rw[<-x7n,show n+a+1=n+1+1*a by omega,List.range'_append]
def OF(n:Nat):V6 n 1=[((n+1:Nat):Int)]:=by simp[V6]
mutual
theorem q1k(nest:Int):∀(t:S){n:Nat}{m:Int},Df nest n t=some m->(flS t).map S.id=V6 n (ZU t)
 | .mk id kind G name D x has args L M,n,m,h=>by
   simp only[Df]at h;split at h
   ·cases h
   split at h
   ·cases h
   rename_i hid;cases hn:namesB G<;>rw[hn]at h
   ·cases h
   cases hf:ZM (.mk id kind G name D x has args L M)<;>rw[hf]at h
   ·cases h
   simp only[x7c]at h;split at h
   ·rename_i m1 h1;have h1':UR (nest+1) ((n+1:Nat):Int) L=some m1:=by rw[<-h1];rfl
    have h2:=KJ _ _ L h1';have h3:=Q6 (nest+1) L h1';have h':UR (nest+1) ((n+1+cntL L:Nat):Int) M=some m:=by rw[<-h,h2];rfl
    have h4:=Q6 (nest+1) M h';rw[flS,ZU,x8v,x7n,h3,h4,show 1+cntL L+cntL M=1+(cntL L+cntL M) by omega,V7,OF,V7];have:id=((n+1:Nat):Int):=by omega
    rw[show(S.mk id kind G name D x has args L M).id=id from rfl,this];rfl
   ·cases h
theorem Q6(nest:Int):∀(l:List S){n:Nat}{m:Int},UR nest n l=some m->(flL l).map S.id=V6 n (cntL l)
 |[],n,m,h=>by rw[flL,cntL];rfl
 | t::r,n,m,h=>by
   simp only[UR]at h;split at h
   ·cases h
   split at h
   ·rename_i m1 h1;have h2:=TN _ _ t h1;have h3:=q1k nest t h1;have h':UR nest ((n+ZU t:Nat):Int) r=some m:=by rw[<-h,h2];rfl
    have h4:=Q6 nest r h';rw[flL,cntL,x7n,h3,h4,V7]
   ·cases h
end
theorem Gp:∀(l:List Pr){n:Nat}{m:Int},XL n l=some m->∀(j:Nat)(f:Pr),l[j]?=some f->(flL f.body).map S.id=V6 (n+QP l j) (cntL f.body)
 |[],_,_,_,j,f,hj=>by simp at hj
 | g::r,n,m,h,j,f,hj=>by
   rw[XL]at h;cases u:DJ g<;>rw[u]at h
   .cases h
   simp only[x7c]at h;split at h
   .rename_i v i;cases j with
    | zero=>
      simp at hj;subst hj;exact Q6 1 g.body i
    | succ j=>
      have t:=KJ _ _ g.body i;have q:XL ((n+cntL g.body:Nat):Int) r=some m:=by rw[<-h,t];rfl
      have:=Gp r q j f (by simpa using hj);rw[QP,this,z0l]
   .cases h
def Ry(h:KR p=true)(l:p.A[j]?=some f):(flL f.body).map S.id=V6 (QP p.A j) (cntL f.body):=by
 unfold KR at h;simp only[x7i]at h;cases i:XL 0 p.A with
 |none=>rw[i]at h;cases h.2
 | some m=>
   have:=Gp p.A (n:=0) i j f l;simpa using this
def OH{n c:Nat}{a:Int}(h:a∈V6 n c):(n:Int)+1<=a/\a<=n+c:=by
 unfold V6 at h;obtain⟨k,l,rfl⟩:=x7d.1 h;rw[List.mem_range']at l;obtain⟨i,m,rfl⟩:=l;omega
def okI(i h:Nat)(x:Int):Prop:=x = -1\/((i:Int)+1<=x/\x<=h)
mutual
theorem q5e(D:Int)(lo hi:Nat):∀(t:S)(up nx loop:Int)(n:Nat)(it:Item),it∈itS D up nx loop n t->okI lo hi nx->(loop=0\/((lo:Int)+1<=loop/\loop<=hi))->lo<=n->n+ZU t<=hi->
  okI lo hi it.next/\(it.loop=0\/((lo:Int)+1<=it.loop/\it.loop<=hi))
 | .mk id kind G name pr x has args L M,up,nx,loop,n,it,h,h1,h2,h3,h4=>by
   rw[itS]at h;rw[ZU]at h4;rcases x7f.1 h with rfl|h
   ·exact⟨h1,h2⟩
   ·have h5:okI lo hi (if kind=6 then((n:Int)+1)else nx):=by
     split
     ·exact .inr ⟨by omega,by omega⟩
     ·exact h1
    have h6:(if kind=6 then((n:Int)+1)else loop)=0\/((lo:Int)+1<=(if kind=6 then((n:Int)+1)else loop)/\(if kind=6 then((n:Int)+1)else loop)<=hi):=by
     split
     ·exact .inr ⟨by omega,by omega⟩
     ·exact h2
    rcases x7b.1 h with h|h
    ·exact Fo D lo hi L _ _ _ _ it h h5 h6 (by omega) (by omega)
    ·exact Fo D lo hi M _ _ _ _ it h h5 h6 (by omega) (by omega)
theorem Fo(D:Int)(lo hi:Nat):∀(l:List S)(up nx loop:Int)(n:Nat)(it:Item),it∈itL D up nx loop n l->okI lo hi nx->(loop=0\/((lo:Int)+1<=loop/\loop<=hi))->lo<=n->n+cntL l<=hi->
  okI lo hi it.next/\(it.loop=0\/((lo:Int)+1<=it.loop/\it.loop<=hi))
 |[],up,nx,loop,n,it,h,h1,h2,h3,h4=>by rw[itL]at h;cases h
 | t::r,up,nx,loop,n,it,h,h1,h2,h3,h4=>by
   rw[itL]at h;rw[cntL]at h4;rcases x7b.1 h with h|h
   ·refine q5e D lo hi t _ _ _ _ it h ?_ h2 h3 (by omega);cases r with
    |nil=>exact h1
    | cons u r=>
      have:1<=cntL (u::r):=by rw[cntL,WQ];omega
      exact .inr ⟨by simp;omega,by simp;omega⟩
   ·exact Fo D lo hi r _ _ _ _ it h h1 h2 (by omega) (by omega)
end
theorem BK:∀(l:List S)(v:S),v∈l->v∈flL l
 |[],v,h=>by cases h
 | t::r,v,h=>by
   rw[flL];rcases x7f.1 h with rfl|h
   .refine x7b.2 (.inl ?_);rw[G2];exact x7v
   .exact x7b.2 (.inr (BK r v h))
def QY(h:chkB p=true):KR p=true/\(QI p).1=0/\(VZ p).1=0/\(BO p).1=0/\(GZ p).1=0:=by
 unfold chkB q4f at h;simp only[x8l]at h;by_cases i:KR p=false
 .rw [if_pos i]at h;cases h
 rw[if_neg i]at h;by_cases l:(QI p).1=0
 .rw [if_neg (by omega)]at h;by_cases m:(VZ p).1=0
  .rw [if_neg (by omega)]at h;by_cases n:(BO p).1=0
   .rw [if_neg (by omega)]at h;exact⟨by simpa using i,l,m,n,h⟩
   .rw [if_pos n]at h;exact absurd h n
  .rw [if_pos m]at h;exact absurd h m
 .rw [if_pos l]at h;exact absurd h l
theorem Yj{f:Pr}:∀(l:List Item)(seen:List Str){s:List Str},YR f l seen=.ok s->∀it∈l,VS f it=true
 |[],_,_,_,it,h=>by cases h
 | a::r,seen,s,h,it,i=>by
   rw[YR]at h;cases n:VT seen a.s.G with
   |none=>rw[n]at h;cases h
   | some q=>
     rw[n]at h;simp only at h;cases m:VS f a with
     |false=>rw[m]at h;cases h
     | true=>
       rw[m,x7c]at h;rcases x7f.1 i with rfl|i
       .exact m
       .exact Yj r q h it i
def K4(q:(QI p).1=0)(h:(BO p).1=0)(l:p.A[j]?=some f):∀it∈itsOf p j f,VS f it=true:=by
 unfold BO at h;rw[if_neg (by omega)]at h;have m:(List.range p.A.length).findSome? (YZ p)=none:=by
  cases n:(List.range p.A.length).findSome? (YZ p)with
  |none=>rfl
  |some a=>rw[n]at h;cases h
 rw[z1t]at m;have i:j<p.A.length:=(x7h.1 l).1;have:=m j (x8n.2 i);unfold YZ at this;rw[l]at this;simp only at this;cases hr:YR f (itL (j:Nat) 0 (-1) 0 (QP p.A j) f.body) []with
 |error id=>rw[hr]at this;cases this
 |ok seen=>exact Yj _ _ hr
mutual
theorem Oe:∀(t u v:S),u∈flS t->v∈u.L\/v∈u.M->v∈flS t
 | .mk id kind G name D x has args L M,u,v,h,hv=>by
   rw[flS]at h⊢;rcases x7f.1 h with rfl|h
   ·refine x7j _ (x7b.2 ?_);rcases hv with hv|hv
    ·exact .inl (BK L v hv)
    ·exact .inr (BK M v hv)
   ·rcases x7b.1 h with h|h
    ·exact x7j _ (x7b.2 (.inl (V4 L u v h hv)))
    ·exact x7j _ (x7b.2 (.inr (V4 M u v h hv)))
theorem V4:∀(l:List S)(u v:S),u∈flL l->v∈u.L\/v∈u.M->v∈flL l
 |[],u,v,h,hv=>by rw[flL]at h;cases h
 | t::r,u,v,h,hv=>by
   rw[flL]at h⊢;rcases x7b.1 h with h|h
   ·exact x7b.2 (.inl (Oe t u v h hv))
   ·exact x7b.2 (.inr (V4 r u v h hv))
end
def KM(h:it∈itsOf p j f):it.s∈flL f.body:=by
 unfold itsOf at h;rw[<-BI (j:Nat) 0 (-1) 0 (QP p.A j) f.body];exact x7d.2 ⟨it,h,rfl⟩
def ZS(n:KR p=true)(m:p.A[j]?=some f){t:S}(h:t∈flL f.body):(QP p.A j:Int)+1<=t.id/\t.id<=(QP p.A j+cntL f.body:Nat):=by
 have i:=Ry n m;have l:t.id∈V6 (QP p.A j) (cntL f.body):=by
  rw[<-i];exact x7d.2 ⟨t,h,rfl⟩
 have:=OH l;omega
def Xb(h:it∈itsOf p j f):okI (QP p.A j) (QP p.A j+cntL f.body) it.next/\(it.loop=0\/((QP p.A j:Int)+1<=it.loop/\it.loop<=(QP p.A j+cntL f.body:Nat))):=
 Fo (j:Nat) _ _ f.body 0 (-1) 0 _ it h (.inl rfl) (.inl rfl) (x7s _) (x7s _)
def GD(q:p.A[j]?=some f)(t:QP p.A j<=k)(u:k<QP p.A j+cntL f.body):∃it,(sheetOf p).l[k]?=some it/\it∈itsOf p j f:=by
 obtain⟨_,_,_,m,h⟩:=QU p;obtain⟨_,_,r,n⟩:=h j f q;have i:k<(sheetOf p).l.length:=by omega
 refine⟨(sheetOf p).l[k],x7x i,?_⟩;unfold itsOf;rw[<-n];refine x9c.2 ⟨k-QP p.A j,?_⟩;rw[x9f,x8r,if_pos (by omega),show QP p.A j+(k-QP p.A j)=k by omega,x7x i]
def q5p(C:KR p=true)(c:p.A[j]?=some f)(h:it∈itsOf p j f)(n:VS f it=true):∀x∈VR (sheetOf p) f it,okI (QP p.A j) (QP p.A j+cntL f.body) x:=by
 obtain⟨y,B⟩:=Xb h;have F:=KM h;have g:=ZS C c F;have m:∀(l:List S)(o:Int),(∀v∈l,v∈it.s.L\/v∈it.s.M)->okI (QP p.A j) (QP p.A j+cntL f.body) o->okI (QP p.A j) (QP p.A j+cntL f.body) (LR l o):=fun l o a J=>by
  cases l with
  |nil=>exact J
  |cons v r=>exact .inr (ZS C c (V4 f.body it.s v F (a v x7v)))
 have q:it.s.kind=7\/it.s.kind=8->(QP p.A j:Int)+1<=it.loop/\it.loop<=(QP p.A j+cntL f.body:Nat):=fun z=>by
  unfold VS at n;rw[if_pos z]at n;rcases B with d|d
  .rw [d]at n;cases n
  .exact d
 intro x i;unfold VR at i;split at i
 .simp only[x7f,z2m,or_false]at i;rcases i with rfl|rfl
  .exact m _ _ (fun v a=>.inl a) y
  .exact m _ _ (fun v a=>.inr a) y
 split at i
 .simp only[x7f,z2m,or_false]at i;rcases i with rfl|rfl
  .exact m _ _ (fun v a=>.inl a) (.inr g)
  .exact y
 split at i
 .rename_i z;have G:=q (.inl z);obtain⟨u,D,E⟩:=GD c (k:=(it.loop-1).toNat) (by omega) (by omega);rw[D]at i;rw[x7y.1 i];exact(Xb E).1
 split at i
 .rename_i z;rw[x7y.1 i];exact .inr (q (.inr z))
 split at i
 .rw [x7y.1 i];exact .inl rfl
 split at i
 .rename_i Q R _ z;rw[x7y.1 i];unfold VS at n;rw[if_neg (by omega),if_pos z]at n;unfold atB at n⊢;split
  .rename_i t O;exact .inr (ZS C c (z0g O))
  .rename_i I;rw[I]at n;simp only at n;cases b:f.fin.any fun s=>it.s.name==s with
   |true=>exact .inl rfl
   |false=>rw[b]at n;cases n
 .rw [x7y.1 i];exact y
def NK(h:chkB p=true)(q:p.A[j]?=some f):(∀it∈itsOf p j f,it.s.kind=7->1<=it.loop/\it.loop<=(sheetOf p).l.length)/\
  (∀s∈QF p j f,(s.src=0\/((QP p.A j:Int)+1<=s.src/\s.src<=(QP p.A j+cntL f.body:Nat)))/\okI (QP p.A j) (QP p.A j+cntL f.body) s.dst)/\∀s∈QF p j f,okSt s:=by
 obtain⟨u,d,_,t,_⟩:=QY h;have n:=K4 d t q;obtain⟨_,_,_,z,v⟩:=QU p;obtain⟨_,_,c,_⟩:=v j f q;obtain⟨_,_,a⟩:=WO u;have key:∀s∈QF p j f,(s.src=0\/((QP p.A j:Int)+1<=s.src/\s.src<=(QP p.A j+cntL f.body:Nat)))/\okI (QP p.A j) (QP p.A j+cntL f.body) s.dst:=fun s m=>by
  unfold QF at m;rcases x7f.1 m with rfl|m
  .refine ⟨.inl rfl,?_⟩;show okI _ _ (if QP p.A j<QP p.A j+cntL f.body then((QP p.A j:Nat)+1:Int)else -1);split
   .exact .inr ⟨by omega,by omega⟩
   .exact .inl rfl
  .obtain ⟨it,i,B⟩:=x8h.1 m;obtain⟨y,g,rfl⟩:=x7d.1 B;exact⟨.inr (ZS u q (KM i)),q5p u q i (n it i) y g⟩
 refine⟨fun it i b=>?_,key,fun s m=>?_⟩
 .have r:=n it i;unfold VS at r;rw[if_pos (.inl b)]at r;rcases(Xb i).2 with x|x
  .rw [x]at r;cases r
  .omega
 .obtain ⟨C,D⟩:=key s m;unfold okSt okI at*
  omega
def wayO(p:Pg)(n:Str):Option Way:=bif chkB p then(match p.A.find? (fun f=>f.name==n)with
 |some f=>some (newWay p (p.A.findIdx fun f=>f.name==n) f)
 |none=>none)else none
def XQ(h:chkB p=true):p.B.length<=16/\p.A.length<=16/\cntP p.A<=200:=WO (QY h).1
def OD{n:Str}(h:¬n∈procsN p):idxF (fun f=>f.name==n) p.A = -1/\p.A.find? (fun f=>f.name==n)=none:=by
 have l:p.A.any (fun f=>f.name==n)=false:=by
  rw[z2k];intro f i m;exact h (x7d.2 ⟨f,i,by simpa using m⟩)
 refine⟨by unfold idxF;rw[l];rfl,?_⟩;rw[z0t];intro f i;have:=z2k.1 l f i;simpa using this
def Yq{n:Str}(h:n∈procsN p):∃(k:Nat) (l:k<p.A.length),idxF (fun f=>f.name==n) p.A=k/\p.A.findIdx (fun f=>f.name==n)=k/\p.A.find? (fun f=>f.name==n)=some p.A[k]/\p.A[k].name=n:=by
 obtain⟨k,l,i,m,q⟩:=Dv h;refine⟨k,l,i,?_,m,q⟩;unfold idxF at i;cases ha:p.A.any (fun f=>f.name==n)with
 |true=>rw[ha,x7c]at i;omega
 |false=>rw[ha,x7o]at i;omega
def L0{n:Str}{w:Way}(h:wayO p n=some w):∃(k:Nat) (f:Pr),p.A[k]?=some f/\w=newWay p k f/\chkB p=true/\f.name=n/\p.A.find? (fun f=>f.name==n)=some f:=by
 unfold wayO at h;cases l:chkB p with
 |false=>rw[l]at h;cases h
 | true=>
   rw[l,x7c]at h;by_cases m:n∈procsN p
   .obtain ⟨k,u,t,q,i,r⟩:=Yq m;rw[i,q]at h;cases h;exact⟨k,p.A[k],by simp,rfl,rfl,r,i⟩
   .rw [(OD m).2]at h;cases h
def q9f(p:Pg)(k:Nat)(f:Pr):Int:=if QP p.A k<QP p.A k+cntL f.body then((QP p.A k:Nat)+1:Int)else -1
def x5k(p:Pg)(id:Int):Int×Bool:=bif chkB p&&(decide (1<=id)&&decide (id<=(sheetOf p).l.length))then(((sheetOf p).l[(id-1).toNat]?.map Item.next).getD 0,true)else(0,false)
def QT(p:Pg)(j:Nat)(n i:Int):Int:=if i=0 then 0 else if i=n-1 then -1 else loI p j+i-1
def UX(w:Way)(f:Pr)(t:w.p.A[w.j]?=some f)(v:cntP w.p.A<=1000)(y:0<=w.n/\w.n<=5000)(i:Int)(x:0<=i/\i<=5000):SpecP prog 65 [.ip w.cells,.int .i64 i] (fun r=>r=.int .i64 (QT w.p w.j w.n i)):=by
 refine sB Vi func65 rfl call65 ?_;conv=>whnf
 obtain⟨_,_,_,m,l⟩:=QU w.p;obtain⟨h,q,u,_⟩:=l w.j f t;repeat' (first|((first|refine dA ?_|refine wI ?_|(refine IdxK.at rfl (VM h) rfl ?_));conv=>whnf)|(apply bD<;>intro _<;>first|omega|conv=>whnf))
 all_goals exact RetK.int (by unfold QT loI;(repeat' split)<;>omega)
def Z5(l:List Int):∀b:List Bool,(KH l b).length=b.length:=by
 induction l with
 |nil=>intro b;rfl
 | cons a r h=>
   intro b;show(KH r (b.set a.toNat true)).length=b.length;rw[h,x9d]
def IT(p:Pg)(id:Int):Option S:=((sheetOf p).l[(id-1).toNat]?).map Item.s
def Nd(p:Pg)(h:List Str)(t:Step):Bool:=decide (t.src=0)||match IT p t.src with
 |some s=> !(decide (s.kind=4) && !(h.any fun x=>s.D==x))
 |none=>true
def Ar(w:Way)(f:Pr)(h:List Str):Bool:=
 (HI 0 (ZN (QL (cntL f.body+2) ((w.real.filter (Nd w.p h)).map (ixP w.p w.j f w.n))).1 [0])).any fun s=>decide (w.n-1=s)
def Fk(p:Pg)(st:List Str×Bool)(k:Nat):List Str×Bool:=match p.A[k]?with
 |some f=>bif !(st.1.any fun s=>f.name==s)&&Ar (newWay p k f) f st.1 then(st.1++[f.name],true)else st
 |none=>st
def Ge(p:Pg)(out:List Str):List Str×Bool:=(List.range p.A.length).foldl (Fk p) (out,false)
def R1(p:Pg):Nat->List Str->List Str
 |0,out=>out
 |k+1,out=>bif (Ge p out).2 then R1 p k (Ge p out).1 else(Ge p out).1
def Yh(p:Pg)(out:List Str):Nat:=p.A.countP fun f=> !(out.any fun s=>f.name==s)
theorem Ug{α:Type}{p q:α->Bool}:∀{l:List α},(∀x∈l,q x=true->p x=true)->(∃x∈l,p x=true/\q x=false)->l.countP q<l.countP p
 |[],_,h=>by obtain⟨x,i,_⟩:=h;cases i
 | a::r,h1,h2=>by
   have t:r.countP q<=r.countP p:=List.countP_mono_left fun x i=>h1 x (x7j _ i);rw[List.countP_cons,List.countP_cons];have ha:=h1 a x7v;obtain⟨x,i,m,n⟩:=h2;rcases x7f.1 i with rfl|i
   .rw [m,n];simp;omega
   .have:=Ug (fun y v=>h1 y (x7j _ v)) ⟨x,i,m,n⟩;cases u:q a with
    |true=>rw[ha u];simp;omega
    |false=>cases p a<;>simp<;>omega
def E8{out:List Str}(l:f∈p.A)(h:(out.any fun s=>f.name==s)=false):Yh p (out++[f.name])<Yh p out:=by
 unfold Yh;refine Ug (fun g _ i=>?_) ⟨f,l,by rw[h];rfl,by rw[List.any_append];simp⟩;rw[List.any_append]at i;cases m:out.any fun s=>g.name==s with
 |false=>rfl
 |true=>rw[m]at i;cases i
def endsR(p:Pg):List Str:=bif chkB p then JV (R1 p (p.A.length+1) [])else []
def Xn(a b:Step):Prop:=QR a.src<QR b.src\/(QR a.src=QR b.src/\QR a.dst<QR b.dst)
def IN(s:Step):Prop:=okSt s/\s.kind=1
def GQ{a b:Step}(h:a.src=b.src)(i:a.dst=b.dst)(l:a.kind=b.kind):a=b:=by
 cases a;cases b;simp_all
def GN{a b:Step}:FX a b=true↔QR a.src<QR b.src\/(QR a.src=QR b.src/\(QR a.dst<QR b.dst\/(QR a.dst=QR b.dst/\a.kind<b.kind))):=by
 have h:FX a b=decide (RX a b<0):=rfl;rw[h,x8l];unfold RX;simp only[orI];split
 .rename_i i;rw[VP]at i;split
  .rename_i l;rw[VP]at l;split
   .rename_i m;rw[VP]at m;omega
   .rw [KX];omega
  .rename_i l;rw[VP]at l;rw[KX];omega
 .rename_i i;rw[VP]at i;rw[KX];omega
def Qv(l:List Step):(JZ l).Pairwise fun a b=>FX b a=false:=by
 have:=List.pairwise_mergeSort (le:=fun x y=> !FX y x) (fun a b c i m=>by
  simp only[x9r]at i m⊢;rw[z2a,ne_eq,GN]at i m⊢;omega) (fun a b=>by
  cases i:FX b a with
  |false=>rfl
  | true=>
    have m:FX a b=false:=by
     rw[z2a,ne_eq,GN];rw[GN]at i;omega
    rw[m];rfl) l
 refine List.Pairwise.imp ?_ this;intro a b h;simpa using h
def W3{a b:Step}(ha:IN a)(i:IN b):ZK a b=true↔a=b:=by
 unfold ZK;simp only[x7i,x8l];refine⟨fun h=>GQ h.1 h.2 (by rw[ha.2,i.2]),fun h=>by rw[h];exact⟨rfl,rfl⟩⟩
def q6z{a b:Step}(ha:IN a)(i:IN b)(h:FX b a=false)(l:a≠b):Xn a b:=by
 rw[z2a,ne_eq,GN]at h;unfold Xn;by_cases m:QR a.src=QR b.src
 .by_cases n:QR a.dst=QR b.dst
  .exact absurd (GQ (YU ha.1.1 i.1.1 m) (YU ha.1.2 i.1.2 n) (by rw[ha.2,i.2])) l
  .omega
 .omega
def Xm{a b c:Step}(h:Xn a b)(i:Xn b c):Xn a c:=by unfold Xn at*;omega
def HG{a:Step}(h:Xn a a):False:=by unfold Xn at h;omega
theorem LJ:∀(l:List Step)(a:Step),IN a->(∀s∈l,IN s)->(a::l).Pairwise (fun a b=>FX b a=false)->(a::XU a l).Pairwise Xn/\∀s,s∈a::XU a l↔s∈a::l
 |[],a,_,_,_=>⟨by simp[XU],by simp[XU]⟩
 | b::r,a,ha,hl,h=>by
   have q:=hl b x7v;have hr:∀s∈r,IN s:=fun s n=>hl s (x7j _ n);rw[z0a]at h;obtain⟨x,y⟩:=h;obtain⟨u,v⟩:=LJ r b q hr y;rw[XU];cases n:ZK b a with
   | true=>
     obtain rfl:=(W3 q ha).1 n;rw[x7c];exact⟨u,fun s=>by rw[v];simp⟩
   | false=>
     rw[x7o];have t:a≠b:=fun e=>by
      rw[(W3 q ha).2 e.symm]at n;cases n
     have m:=q6z ha q (x b x7v) t;refine⟨?_,fun s=>by rw[x7f,v,<-x7f (a:=s) (b:=a)]⟩;rw[z0a];refine⟨fun s i=>?_,u⟩;rcases x7f.1 i with rfl|i
     .exact m
     .exact Xm m ((z0a.1 u).1 s i)
def C5{l:List Step}(n:∀s∈l,IN s):(WC l).Pairwise Xn/\∀s,s∈WC l↔s∈l:=by
 have m:∀s,s∈JZ l↔s∈l:=fun s=>(Jj l).mem_iff;have t:=Qv l;unfold WC;cases q:JZ l with
 | nil=>
   rw[q]at m;exact⟨by simp[NH],fun s=>by rw[<-m];simp[NH]⟩
 | cons a r=>
   rw[q]at m t;have i:∀s∈a::r,IN s:=fun s h=>n s ((m s).1 h);obtain⟨u,v⟩:=LJ r a (i a x7v) (fun s h=>i s (x7j _ h)) t;exact⟨u,fun s=>by rw[NH,v,m]⟩
theorem Hv:∀{l m:List Step},l.Pairwise Xn->m.Pairwise Xn->(∀s,s∈l↔s∈m)->l=m
 |[],[],_,_,_=>rfl
 |[],b::m,_,_,h=>by have:=(h b).2 x7v;cases this
 |a::l,[],_,_,h=>by have:=(h a).1 x7v;cases this
 | a::l,b::m,hl,hm,h=>by
   rw[z0a]at hl hm;have q:a=b:=by
    rcases x7f.1 ((h a).1 x7v)with e|ha
    .exact e
    .rcases x7f.1 ((h b).2 x7v)with e|r
     .exact e.symm
     .exact (HG (Xm (hl.1 b r) (hm.1 a ha))).elim
   subst q;congr 1;refine Hv hl.2 hm.2 fun s=>⟨fun i=>?_,fun i=>?_⟩
   .rcases x7f.1 ((h s).1 (x7j _ i))with rfl|n
    .exact (HG (hl.1 _ i)).elim
    .exact n
   .rcases x7f.1 ((h s).2 (x7j _ i))with rfl|n
    .exact (HG (hm.1 _ i)).elim
    .exact n
def Mp(h:chkB p=true)(m:p.A[j]?=some f):∀s∈QF p j f,IN s:=by
 obtain⟨_,_,l⟩:=NK h m;intro s i;refine⟨l s i,?_⟩;unfold QF at i;rcases x7f.1 i with rfl|i
 .rfl
 .obtain ⟨it,_,n⟩:=x8h.1 i;obtain⟨y,_,rfl⟩:=x7d.1 n;rfl
def YY(h:chkB p=true)(i:p.A[j]?=some f):(newWay p j f).real.Pairwise Xn/\∀s,s∈(newWay p j f).real↔s∈QF p j f:=C5 (Mp h i)
def q1x(h:chkB p=true)(n:p.A[j]?=some f){s:Step}(i:s∈QF p j f):s=⟨0,q9f p j f,1⟩\/(1<=s.src/\s.src<=9223372036854775806):=by
 obtain⟨_,_,r⟩:=XQ h;obtain⟨_,_,_,q,m⟩:=QU p;obtain⟨_,_,t,_⟩:=m j f n;unfold QF at i;rcases x7f.1 i with rfl|i
 .exact .inl rfl
 .obtain ⟨it,l,u⟩:=x8h.1 i;obtain⟨y,_,rfl⟩:=x7d.1 u;have:=ZS (QY h).1 n (KM l);refine .inr ?_;simp only;omega
def Ni(x:X):Bool:=decide (Wn x.op=(x.kids.length:Int))&&(decide (x.op=1)||decide (x.n=0))&&decide (0<=x.n)&&(decide (x.op=2) == !(x.name==[]))&&((x.name==[])||isName x.name)
def OX:Nat->X->Bool
 |0,_=>true
 |k+1,x=>Ni x&&x.kids.all (OX k)
end Go.Ab
