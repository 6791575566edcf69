/- The library's contracts on rows, as contracts on rows of the caller's own: slices.BinarySearch, slices.Insert at int. Conditions: the rows' lengths. -/
import Derived.Test.YtgpjfppgphaobaaGreatEndA10
set_option linter.all false
set_option maxRecDepth 100000
set_option maxHeartbeats 16000000
namespace Go.Ab
open Go.Proofs.Tryz
open Go.Proofs Go.Sort
variable {k:Nat}{l:List Int}{vs:Array Value}{w w':World}{β:Lab}{σ:Mem}
theorem Frm.trans{B:Nat->Prop}{w w' i:World}(h:Frm B w w')(k:Frm B w' i):Frm B w i:=
 ⟨k.os.trans h.os,k.tape.trans h.tape,k.output.trans h.output,x5y h.drawn k.drawn,x5y h.size k.size,fun j m o=>(k.block j (x7o m h.size) o).trans (h.block j m o)⟩
theorem Frm.weak{B i:Nat->Prop}(h:Frm B w w')(m:∀k,B k->i k):Frm i w w':=
 ⟨h.os,h.tape,h.output,h.drawn,h.size,fun j q r=>h.block j q fun o=>r (m j o)⟩
theorem Frm.drewN(B:Nat->Prop)(w:World)(n:Nat):Frm B w (w.drewN n):=⟨rfl,rfl,rfl,Nat.le_add_right _ _,x4m _,fun _ _ _=>rfl⟩
def Ez{c c':Chunk}{m:Heap}{i:BInfo}(h:HRel σ β ((k,c)::m) w)(v:β k=some i)(p:Frm (fun b=>b=i.blk) w w')(t:c'.holds σ β w' k):HRel σ β ((k,c')::m) w'/\Later σ β ((k,c)::m) w σ β ((k,c')::m) w':=by
 have u:=h.apart k (by simp) i v;have x:∀j∈m.map (·.1),j≠k:=fun j r o=>by
  have:=h.nodup;simp only[x4o,x6q]at this;exact this.1 (o▸r)
 refine⟨⟨fun b cs n=>?_,fun j d r=>?_,h.nodup,fun j r i' q b n=>?_,h.inj⟩,Mem.le_refl σ,⟨p.os,p.tape,p.output,p.drawn,p.size,fun b n g=>p.block b n fun o=>g ⟨k,by simp,i,v,.inl o.symm⟩⟩,
  fun b a f=>absurd a f,fun b A=>.inl A,fun _ _ _=>rfl⟩
 .obtain ⟨e,z,y⟩:=h.mem b cs n;exact⟨e,z,(p.block b (x4t.1 y).1 fun o=>by rw[o,(u _ i.has_blk).1]at n;cases n).trans y⟩
 .rcases x4v.1 r with o|r
  .cases o;exact t
  .have s:j∈m.map (·.1):=x4y.2 ⟨_,r,rfl⟩;refine(h.chunks j d (x4x _ r)).mono (Mem.le_refl σ) fun i' q b n=>p.block b (h.apart j (x4x _ s) i' q b n).2 fun o=>?_;exact x j s (h.inj j (x4x _ s) k (by simp) i' i q v b n (.inl o.symm))
 .have:=h.apart j r i' q b n;exact⟨this.1,x7o this.2 p.size⟩
def q0y{c c':Chunk}{m:Heap}{i':BInfo}(h:HRel σ β ((k,c)::m) w)(O:2000<=k)(D:Frm (fun _=>False) w w')(x:i'.blk=w.heap.size)(M:i'.subs=[])(L:w.heap.size<w'.heap.size)(a:∀j d,(j,d)∈m->d.free k=true)(B:c'.holds σ (β.set k (some i')) w' k):
  HRel σ (β.set k (some i')) ((k,c')::m) w'/\Later σ β ((k,c)::m) w σ (β.set k (some i')) ((k,c')::m) w':=by
 have G:∀j∈m.map (·.1),j≠k:=fun j p F=>by
  have:=h.nodup;simp only[x4o,x6q]at this;exact this.1 (F▸p)
 have i:∀j,j≠k->(β.set k (some i')) j=β j:=fun j p=>by simp[Lab.set,p]
 have o:(β.set k (some i')) k=some i':=by simp[Lab.set]
 have r:∀b,i'.has b->b=w.heap.size:=fun b u=>by
  rcases u with u|⟨_,u⟩
  .rw [<-u,x]
  .rw [M]at u;cases u
 refine⟨⟨fun b cs x=>?_,fun j d p=>?_,h.nodup,fun j p y v b x=>?_,fun j p C g y J q f b t z=>?_⟩,Mem.le_refl σ,D.weak fun _ h=>h.elim,
  fun b I q=>absurd I q,fun b ⟨j,p,y,q,t⟩=>?_,fun j I q=>i j (by omega)⟩
 .obtain ⟨e,H,E⟩:=h.mem b cs x;exact⟨e,H,(D.block b (x4t.1 E).1 id).trans E⟩
 .rcases x4v.1 p with F|p
  .cases F;exact B
  .have A:j∈m.map (·.1):=x4y.2 ⟨_,p,rfl⟩;exact((h.chunks j d (x4x _ p)).mono (Mem.le_refl σ) fun y v b x=>D.block b (h.apart j (x4x _ A) y v b x).2 id).set _ (G j A) (a j d p)
 .by_cases n:j=k
  .subst n;rw[o]at v;cases v;have K:=r b x;refine⟨?_,by omega⟩;cases N:σ b with
   |none=>rfl
   | some cs=>
     obtain⟨e,H,E⟩:=h.mem b cs N;have:=(x4t.1 E).1;omega
  .rw [i j n]at v;have:=h.apart j p y v b x;exact⟨this.1,x7o this.2 D.size⟩
 .by_cases n:j=k<;>by_cases s:C=k
  .rw [n,s]
  .subst n;rw[o]at q;cases q;rw[i C s]at f;have:=(h.apart C g J f b z).2;have:=r b t;omega
  .subst s;rw[o]at f;cases f;rw[i j n]at q;have:=(h.apart j p y q b t).2;have:=r b z;omega
  .rw [i j n]at q;rw[i C s]at f;exact h.inj j p C g y J q f b t z
 .by_cases n:j=k
  .subst n;rw[o]at q;cases q;exact .inr (by rw[r b t];exact x4m _)
  .rw [i j n]at q;exact .inl ⟨j,p,y,q,t⟩
def q5w(cs:Array Value):Nat->List Value->Array Value
 |_,[]=>cs
 |o,v::r=>q5w (cs.setIfInBounds o v) (o+1) r
theorem UP:∀(vs:List Value)(cs:Array Value)(o:Nat),(q5w cs o vs).size=cs.size
 |[],_,_=>rfl
 |v::r,cs,o=>by rw[q5w,UP r];simp
theorem HD:∀(vs:List Value)(cs:Array Value)(o j:Nat),o+vs.length<=cs.size->(q5w cs o vs)[j]?=if o<=j/\j<o+vs.length then vs[j-o]?else cs[j]?
 |[],cs,o,j,_=>by simp[q5w];intros;omega
 | v::r,cs,o,j,h=>by
   simp only[x5g]at h;rw[q5w,HD r _ (o+1) j (by simp;omega)];simp only[x5g];by_cases i:j=o
   .subst i;rw[if_neg (by omega),if_pos (by omega),Array.getElem?_setIfInBounds_self_of_lt (by omega)];simp
   .by_cases m:o+1<=j/\j<o+1+r.length
    .rw [if_pos m,if_pos (by omega),show j-o=(j-(o+1))+1 by omega];simp
    .rw [if_neg m,if_neg (by omega),x7n (x7d i)]
theorem WP{b:Nat}{e:TypeId}:∀(vs:List Value)(o:Nat){w:World}{cs:Array Value},w.heap[b]?=some (.cells cs e (0,0))->
  (w.setCells b o vs).heap[b]?=some (.cells (q5w cs o vs) e (0,0))/\Frm (fun x=>x=b) w (w.setCells b o vs)
 |[],_,w,cs,h=>⟨h,Frm.refl _ _⟩
 | v::r,o,w,cs,h=>by
   have i:(w.setCell ⟨b,o,none⟩ v).heap[b]?=some (.cells (cs.setIfInBounds o v) e (0,0)):=by
    simp[World.setCell,x7l,h]
   have j:Frm (fun x=>x=b) w (w.setCell ⟨b,o,none⟩ v):=⟨rfl,rfl,rfl,x4m _,by simp[World.setCell],fun k _ p=>by simp[World.setCell,x7l,x7d p]⟩;obtain⟨m,n⟩:=WP r (o+1) i;exact⟨m,j.trans n⟩
def RP(h:∀(m:Nat)(x:AV),(l.map (AV.int .i64))[m]?=some x->x.cells.length=1/\∀(j:Nat)(c:AV),x.cells[j]?=some c->∃u:Value,vs[m*1+j]?=some u/\Rep σ c u){j:Nat}(o:j<l.length):
  vs[j]?=some (.int .i64 l[j]):=by
 obtain⟨u,i,n⟩:=(h j (.int .i64 l[j]) (by simp[o])).2 0 (.int .i64 l[j]) rfl;cases n with
 |int=>simpa using i
def Ou(h:∀j (n:j<l.length),vs[j]?=some (.int .i64 l[j])):∀(m:Nat)(x:AV),(l.map (AV.int .i64))[m]?=some x->x.cells.length=1/\∀(j:Nat)(c:AV),x.cells[j]?=some c->∃u:Value,vs[m*1+j]?=some u/\Rep σ c u:=by
 intro m x i;rw[x4q]at i;cases p:l[m]?with
 |none=>rw[p]at i;cases i
 | some s=>
   rw[p]at i;cases i;obtain⟨q,rfl⟩:=x4u.1 p;refine⟨rfl,fun j c n=>?_⟩;have o:j=0:=by
    have:=(x4u.1 n).1;simpa[AV.cells]using this
   subst o;simp only[AV.cells,x9a,x7c]at n;subst n;exact⟨_,by simpa using h m q,.int _ _⟩
def q8g{i:Array Value}{l l':LV}(h:i.size=[l,l'].length):∃v u,i=#[v,u]:=by
 obtain⟨vs⟩:=i
 match vs,h with
 |[a,b],_=>exact⟨a,b,rfl⟩
def x2x{i:Array Value}{l l' j:LV}(h:i.size=[l,l',j].length):∃v u t,i=#[v,u,t]:=by
 obtain⟨vs⟩:=i
 match vs,h with
 |[a,b,c],_=>exact⟨a,b,c,rfl⟩
def q4w{k:IntKind}{n:Int}{v:Value}(h:RepL σ β (.p (.int k n)) v):v=.int k n:=by
 cases h with
 |p h=>cases h;rfl
theorem Rep.tup2{n:Int}{b:Bool}:Rep σ (.tup [.int .i64 n,.bool b]) (.tuple #[.int .i64 n,.bool b]):=
 .tup _ _ (fun j=>(#[Value.int .i64 n,.bool b]).getD j undef) rfl (fun j c i=>by
  match j,i with
  |0,_=>rfl
  |1,_=>rfl) (fun j c i=>by
  match j,i with
  |0,i=>cases i;exact .int _ _
  |1,i=>cases i;exact .bool _)
def JZ(l:List Int)(x:Int)(N:l.Pairwise (· <= ·))(F:l.length<=1000000000):
  SpecP prog 267 [.sl (l.map (.int .i64)),.int .i64 x] (fun r=>r=.tup [.int .i64 (l.countP (· < x):Nat),.bool (l.contains x)]):=by
 refine⟨call267,fun σ w I L H B=>?_⟩;obtain⟨v,u,rfl⟩:=q8g (l:=.p .und) (l':=.p .und) L;have s:Rep σ (.sl (l.map (.int .i64))) v:=by simpa using H 0 _ rfl
 have A:Rep σ (.int .i64 x) u:=by simpa using H 1 _ rfl
 obtain rfl:u=.int .i64 x:=by cases A;rfl
 have empty:∀a c,l=[]->Calls prog 267 #[.slice a 0 c,.int .i64 x] w fun e w'=>∃c u σ',e=.returned u/\c=AV.tup [.int .i64 (l.countP (· < x):Nat),.bool (l.contains x)]/\Rep σ' c u/\σ.le σ'/\σ'.lies w'/\Frm (fun _=>False) w w'/\∀b,σ b=none->σ' b≠none->w.heap.size<=b:=by
  intro a c n;subst n;have t:=Any.slices_BinarySearch_int_empty K8 a c x w;change Calls prog 267 _ _ _ at t;refine t.mono ?_;rintro e w' ⟨rfl,rfl⟩;exact⟨_,_,σ,rfl,rfl,Rep.tup2,Mem.le_refl σ,B,Frm.refl _ _,fun b h y=>absurd h y⟩
 generalize i:l.map (AV.int .i64)=es at s;cases s with
 |nilsl=>exact empty _ _ (by simpa using i)
 |slz b=>exact empty _ _ (by simpa using i)
 | sl _ b off cap sz cells O J E G g t M=>
   subst i;by_cases n:l=[]
   .have:=empty (some ⟨b,off,none⟩) cap n;subst n;exact this
   .have f:0<l.length:=z0a.2 n;have o:sz=1:=(g 0 (.int .i64 l[0]) (by simp[f])).symm;subst o;obtain⟨e,P,K⟩:=B b cells J;rw[x3a];have m:=Any.slices_BinarySearch_int K8 b off l.length cap l x w (x4m _) (by omega) (fun j d=>by
     have C:=t j (.int .i64 l[j]) 0 (.int .i64 l[j]) (by simp[d]) rfl;have D:=M j (.int .i64 l[j]) 0 (.int .i64 l[j]) (by simp[d]) rfl;rw[show w.cell? ⟨b,off+j,none⟩=cells[off+j]? by simp[World.cell?,K]];simp only[x9f,x8d]at C;rw[C];generalize O j 0=z at D;cases D;simp[d]) (by rw[z0t];exact N)
    change Calls prog 267 _ _ _ at m;refine m.mono ?_;rintro e w' ⟨rfl,q,rfl⟩;rw[z0t];exact⟨_,_,σ,rfl,rfl,Rep.tup2,Mem.le_refl σ,B,Frm.drewN _ w q,fun b h y=>absurd h y⟩
def Zp(l:List Int)(k:Nat)(x:Int):List Int:=l.take k++x::l.drop k
def Ws{x:Int}(h:k<=l.length):(Zp l k x).length=l.length+1:=by simp[Zp];omega
def Wt{j:Nat}{x:Int}(h:k<=l.length):(Zp l k x)[j]?=if j<k then l[j]?else if j=k then some x else l[j-1]?:=by
 unfold Zp;rw[x7e];simp only[x5z,Nat.min_eq_left h];by_cases i:j<k
 .rw [if_pos i,if_pos i,List.getElem?_take_of_lt i]
 .rw [if_neg i,if_neg i];by_cases m:j=k
  .subst m;simp
  .rw [if_neg m,show j-k=(j-1-k)+1 by omega,List.getElem?_cons_succ,x5o];congr 1;omega
def P8(h:∀j,j<l.length->vs[j]?=(l[j]?).map (Value.int .i64)):∀(m:Nat)(x:AV),(l.map (AV.int .i64))[m]?=some x->x.cells.length=1/\∀(j:Nat)(c:AV),x.cells[j]?=some c->∃u:Value,vs[m*1+j]?=some u/\Rep σ c u:=
 Ou fun j i=>by rw[h j i,x3e i];rfl
theorem Frm.new(h:Frm (fun x=>x=w.heap.size) w w'):Frm (fun _=>False) w w':=
 ⟨h.os,h.tape,h.output,h.drawn,h.size,fun k i _=>h.block k i (by omega)⟩
def Vl(w:World)(o:Obj)(B:Nat->Prop):Frm B w (w.alloc o):=⟨rfl,rfl,rfl,x4m _,show w.heap.size<=(w.heap.push o).size by simp,fun k h _=>heap_alloc_old w o h⟩
def Ny{b:Nat}{e:TypeId}(h:w.heap[b]?=some (.cells vs e (0,0))):w.shape? b=some (e,vs.size):=by
 simp[World.shape?,h]
def Ju(n:Nat):(Builtin.zeroCells (Value.int .i64 0).cells n).size=n:=by
 rw[size_zeroCells];exact x9f n
def Qy(l:List Int)(k:Nat)(x:Int)(hk:k<=l.length)(hlen:l.length<=1000000000):
  SpecH prog 268 [.hd 2000 0 l.length,.j k,.hd 1000 0 1] [(2000,.own 3 1 (l.map (.int .i64))),(1000,.own 3 1 [.int .i64 x])]
   (fun r H=>r=.hd 2000 0 (l.length+1)/\H=[(2000,.own 3 1 ((Zp l k x).map (.int .i64))),(1000,.own 3 1 [.int .i64 x])]):=by
 refine⟨call268,fun σ β w vals hn Q hH=>?_⟩;obtain⟨v,u,t,rfl⟩:=x2x hn;have hv1:RepL σ β (.hd 2000 0 l.length) v:=by simpa using Q 0 _ rfl
 have hv2:RepL σ β (.p (.int .i64 k)) u:=by simpa using Q 1 _ rfl
 have hv3:RepL σ β (.hd 1000 0 1) t:=by simpa using Q 2 _ rfl
 cases q4w hv2;have hil:=Ws (x:=x) hk;obtain⟨cs,U⟩ : ∃cs,cs=l.map (Value.int .i64):=⟨_,rfl⟩;have n:cs.length=l.length:=by rw[U];simp
 have G:∀j:Nat,cs[j]?=(l[j]?).map (Value.int .i64):=fun j=>by rw[U];simp
 have h1c:∀v∈cs,v.oneCell'=true:=fun v Q=>by
  rw[U]at Q;obtain⟨z,_,rfl⟩:=x4y.1 Q;rfl
 have E:∀v∈[Value.int .i64 x],v.oneCell'=true:=fun v Q=>by
  rcases x4w.1 Q with rfl;rfl
 have hch1:(Chunk.own 3 1 [.int .i64 x]).holds σ β w 1000:=hH.chunks 1000 _ (x4x _ x4z);rcases hch1 with⟨_,V⟩|⟨s,vv,Z,hszv,N,hv5,hv6,hv7,hv8⟩
 .cases V
 have hte:=P5 hv3 Z;subst hte;have hvx:vv[0]?=some (.int .i64 x):=by
  have:=RP (σ:=σ) (l:=[x]) hv8 (j:=0) (by simp);simpa using this
 have J:∀j v,[Value.int .i64 x][j]?=some v->w.cell? ⟨s.blk,0+j,none⟩=some v:=fun j v m=>by
  rw[HX N]
  match j,m with
  |0,m=>cases m;simpa using hvx
 have hv6':1<=s.cap:=by simpa using hv6
 have hltv:=(hH.apart 1000 (by simp) s Z s.blk s.has_blk).2;have grown:∀(w':World)(o:Array Value)(cap:Nat),Frm (fun x=>x=w.heap.size) w w'->w'.heap[w.heap.size]?=some (.cells o 3 (0,0))->o.size=cap->l.length+1<=cap->cap<=maxLen->
   (∀j,j<l.length+1->o[j]?=((Zp l k x)[j]?).map (Value.int .i64))->
   ∃β',RepL σ β' (.hd 2000 0 (l.length+1)) (.slice (some ⟨w.heap.size,0,none⟩) (l.length+1) cap)/\HRel σ β' [(2000,.own 3 1 ((Zp l k x).map (.int .i64))),(1000,.own 3 1 [.int .i64 x])] w'/\Later σ β [(2000,.own 3 1 (l.map (.int .i64))),(1000,.own 3 1 [.int .i64 x])] w σ β' [(2000,.own 3 1 ((Zp l k x).map (.int .i64))),(1000,.own 3 1 [.int .i64 x])] w':=by
  intro w' o cap hf hb hsz I c b;obtain⟨T,hL⟩:=q0y (c':=.own 3 1 ((Zp l k x).map (.int .i64))) (i':=⟨w.heap.size,cap,1,[],c⟩) hH (x4m _) hf.new rfl rfl (x4t.1 hb).1 (fun j d m=>by
   simp at m;rw[m.2];rfl) (.inr ⟨⟨w.heap.size,cap,1,[],c⟩,o,by simp[Lab.set],rfl,hb,by simp[hsz],by simp[hil,I],c,P8 fun j m=>b j (by omega)⟩)
  refine⟨_,?_,T,hL⟩;have:=z1v (σ:=σ) (β:=β.set 2000 (some ⟨w.heap.size,cap,1,[],c⟩)) 2000 0 (l.length+1) ⟨w.heap.size,cap,1,[],c⟩ 0 (by simp[Lab.set]) (by simpa using I) (.inl (by simp));simpa using this
 rcases hH.chunks 2000 _ x4z with⟨hb0,V⟩|⟨i,vs,hi,hsz,P,h2,h3,h4,h5⟩
 .have hl0:l=[]:=by simpa using V
  subst hl0;obtain⟨rfl,_⟩:=RK hv1 hb0;obtain rfl:k=0:=by simpa using hk
  have B:=Any2.slices_Insert_int_end_grow GU none 0 0 s.blk 0 1 s.cap [] [.int .i64 x] w (by omega) (by omega) (by omega) (by omega) rfl rfl (fun _=>rfl) (fun _ h=>by cases h) J E;change Calls prog 268 _ _ _ at B;refine B.mono ?_;rintro e w' ⟨rfl,rfl⟩;have y:=grownCap_ge w (0+1) 0 (Tryz.laysI_ren.t 3);have f:=grownCap_le_maxLen w (0+1) 0 (Tryz.laysI_ren.t 3) (by unfold maxLen;omega);generalize grownCap w (0+1) 0 (Tryz.laysI_ren.t 3)=cap at y f⊢;obtain⟨A,F⟩ : ∃A,A=([]++[Value.int .i64 x]:List Value).toArray++Builtin.zeroCells (Value.int .i64 0).cells (cap-(0+1)):=⟨_,rfl⟩;rw[<-F];obtain⟨β',g1,K,L⟩:=grown _ A cap ((Frm.drewN _ w 1).trans (Vl _ _ _)) (heap_alloc_new w.drew _) (by rw[F];simp[Ju];omega) y f (fun j m=>by
   have hj0:j=0:=by simpa using m
   subst hj0;rw[F,x8r (by simp)];rfl)
  exact⟨_,_,σ,β',_,rfl,⟨rfl,rfl⟩,g1,K,L⟩
 .have hve:=P5 hv1 hi;subst hve;have hlt:=(hH.apart 2000 (by simp) i hi i.blk i.has_blk).2;have b:=fun j m=>RP (σ:=σ) (l:=l) h5 (j:=j) m;have hne:s.blk≠i.blk:=fun he=>by
   have:=hH.inj 1000 (by simp) 2000 (by simp) s i Z hi s.blk s.has_blk (.inl he.symm);omega
  have O:l.length<=i.cap:=by simpa using h3
  have R:vs.size=i.cap:=by simpa using h2
  have g:∀j v,cs[j]?=some v->w.cell? ⟨i.blk,0+j,none⟩=some v:=fun j v m=>by
   rw[G]at m;cases hq:l[j]?with
   |none=>rw[hq]at m;cases m
   | some z=>
     rw[hq]at m;cases m;obtain⟨hjl,rfl⟩:=x4u.1 hq;rw[HX P,x6i,b j hjl]
  have C:∀(w':World)(o:Array Value),Frm (fun x=>x=i.blk) w w'->w'.heap[i.blk]?=some (.cells o 3 (0,0))->o.size=i.cap->l.length+1<=i.cap->
    (∀j,j<l.length+1->o[j]?=((Zp l k x)[j]?).map (Value.int .i64))->
    RepL σ β (.hd 2000 0 (l.length+1)) (.slice (some ⟨i.blk,0,none⟩) (l.length+1) i.cap)/\HRel σ β [(2000,.own 3 1 ((Zp l k x).map (.int .i64))),(1000,.own 3 1 [.int .i64 x])] w'/\Later σ β [(2000,.own 3 1 (l.map (.int .i64))),(1000,.own 3 1 [.int .i64 x])] w σ β [(2000,.own 3 1 ((Zp l k x).map (.int .i64))),(1000,.own 3 1 [.int .i64 x])] w':=by
   intro w' o hf hb hsz' I Y;obtain⟨T,hL⟩:=Ez (c':=.own 3 1 ((Zp l k x).map (.int .i64))) hH hi hf (.inr ⟨i,o,hi,hsz,hb,by simp[hsz'],by simp[hil,I],h4,P8 fun j m=>Y j (by omega)⟩);refine⟨?_,T,hL⟩;have:=z1v (σ:=σ) (β:=β) 2000 0 (l.length+1) i 0 hi (by simpa using I) (.inl (by simp));simpa using this
  by_cases q:l.length+1<=i.cap
  .by_cases hkn:k<l.length
   .have B:=Any2.slices_Insert_int_shift GU i.blk 0 l.length i.cap k s.blk 0 1 s.cap cs [.int .i64 x] w hkn (by omega) q h4 hne n rfl g
     (fun j m=>by rw[HX P,x6i,x6o (by omega)];rfl) (fun j m=>YZ P _) J h1c E _ _ _ _ (Ny N) (Ny P) (by omega) (YZ N _) (YZ N _)
    change Calls prog 268 _ _ _ at B;refine B.mono ?_;rintro e w' ⟨rfl,rfl⟩;obtain⟨s1,s2⟩:=WP (cs.drop k) (0+(k+1)) (w:=w.drew) P;obtain⟨s3,s4⟩:=WP [Value.int .i64 x] (0+k) s1;have M:(cs.drop k).length=l.length-k:=by simp[n]
    obtain⟨g1,K,L⟩:=C _ _ (((Frm.drewN _ w 1).trans s2).trans s4) s3 (by rw[UP,UP,R]) q (fun j m=>by
     rw[HD _ _ _ _ (by rw[UP];simp;omega),HD _ _ _ _ (by rw[M];omega),Wt hk,M];simp only[x6i,x4i];by_cases D:j<k
     .rw [if_neg (by omega),if_neg (by omega),if_pos D,b j (by omega),x3e (by omega)];rfl
     .rw [if_neg D];by_cases e2:j=k
      .subst e2;rw[if_pos (by omega),if_pos rfl];simp
      .rw [if_neg (by omega),if_pos (by omega),if_neg e2,x5o,G];congr 2;omega)
    exact⟨_,_,σ,β,_,rfl,⟨rfl,rfl⟩,g1,K,L⟩
   .obtain rfl:k=l.length:=by omega
    have B:=Any2.slices_Insert_int_end_room GU i.blk 0 l.length i.cap s.blk 0 1 s.cap [.int .i64 x] w (by omega) q h4 rfl
     (fun j m=>by rw[HX P,x6o (by omega)];rfl) (fun j m=>YZ P _) J E
    change Calls prog 268 _ _ _ at B;refine B.mono ?_;rintro e w' ⟨rfl,rfl⟩;obtain⟨s3,s4⟩:=WP [Value.int .i64 x] (0+l.length) P;obtain⟨g1,K,L⟩:=C _ _ s4 s3 (by rw[UP,R]) q (fun j m=>by
     rw[HD _ _ _ _ (by simp;omega),Wt hk];simp only[x6i,x4i];by_cases D:j<l.length
     .rw [if_neg (by omega),if_pos D,b j (by omega),x3e (by omega)];rfl
     .obtain rfl:j=l.length:=by omega
      simp)
    exact⟨_,_,σ,β,_,rfl,⟨rfl,rfl⟩,g1,K,L⟩
  .by_cases hkn:k<l.length
   .have B:=Any2.slices_Insert_int_grow GU i.blk 0 l.length i.cap k s.blk 0 1 s.cap cs [.int .i64 x] w hkn (by omega) O (by omega) (by omega) n rfl g J h1c E;change Calls prog 268 _ _ _ at B;refine B.mono ?_;rintro e w' ⟨rfl,rfl⟩;have y:=grownCap_ge w (l.length+1) i.cap (Tryz.laysI_ren.t 3);have f:=grownCap_le_maxLen w (l.length+1) i.cap (Tryz.laysI_ren.t 3) (by unfold maxLen;omega);generalize grownCap w (l.length+1) i.cap (Tryz.laysI_ren.t 3)=cap at y f⊢;have M:(cs.drop k).length=l.length-k:=by simp[n]
    obtain⟨A,F⟩ : ∃A,A=(cs.take k).toArray++Builtin.zeroCells (Value.int .i64 0).cells (l.length+1-k)++Builtin.zeroCells (Value.int .i64 0).cells (cap-(l.length+1)):=⟨_,rfl⟩;have hAs:A.size=cap:=by rw[F];simp[Ju,n];omega
    have hAg:∀j,j<k->A[j]?=(l[j]?).map (Value.int .i64):=fun j m=>by
     rw[F,x8r (by simp[n];omega),x8r (by simp[n];omega)];simp[m,G]
    rw[<-F];have s0:(w.alloc (.cells A (Tryz.laysI_ren.t 3))).drew.heap[w.heap.size]?=some (.cells A 3 (0,0)):=heap_alloc_new w _;obtain⟨s1,s2⟩:=WP [Value.int .i64 x] k s0;obtain⟨s3,s4⟩:=WP (cs.drop k) (k+1) (w:=(((w.alloc (.cells A (Tryz.laysI_ren.t 3))).drew.setCells w.heap.size k [Value.int .i64 x]).drew)) s1;obtain⟨β',g1,K,L⟩:=grown _ _ cap ((((Vl w _ _).trans (Frm.drewN _ _ 1)).trans s2).trans ((Frm.drewN _ _ 1).trans s4)) s3 (by rw[UP,UP,hAs]) y f (fun j m=>by
     rw[HD _ _ _ _ (by rw[UP];omega),HD _ _ _ _ (by simp;omega),Wt hk,M];simp only[x4i];by_cases D:j<k
     .rw [if_neg (by omega),if_neg (by omega),if_pos D,hAg j D]
     .rw [if_neg D];by_cases e2:j=k
      .subst e2;rw[if_neg (by omega),if_pos (by omega),if_pos rfl];simp
      .rw [if_pos (by omega),if_neg e2,x5o,G];congr 2;omega)
    exact⟨_,_,σ,β',_,rfl,⟨rfl,rfl⟩,g1,K,L⟩
   .obtain rfl:k=l.length:=by omega
    have B:=Any2.slices_Insert_int_end_grow GU (some ⟨i.blk,0,none⟩) l.length i.cap s.blk 0 1 s.cap cs [.int .i64 x] w (by omega) O (by omega) (by omega) n rfl (fun h=>by cases h) (fun a ha j v m=>by
     cases ha;rw[Addr.add_lit];exact g j v m) J E
    change Calls prog 268 _ _ _ at B;refine B.mono ?_;rintro e w' ⟨rfl,rfl⟩;have y:=grownCap_ge w (l.length+1) i.cap (Tryz.laysI_ren.t 3);have f:=grownCap_le_maxLen w (l.length+1) i.cap (Tryz.laysI_ren.t 3) (by unfold maxLen;omega);generalize grownCap w (l.length+1) i.cap (Tryz.laysI_ren.t 3)=cap at y f⊢;obtain⟨A,F⟩ : ∃A,A=(cs++[Value.int .i64 x]).toArray++Builtin.zeroCells (Value.int .i64 0).cells (cap-(l.length+1)):=⟨_,rfl⟩;rw[<-F];obtain⟨β',g1,K,L⟩:=grown _ A cap ((Frm.drewN _ w 1).trans (Vl _ _ _)) (heap_alloc_new w.drew _) (by rw[F];simp[Ju,n];omega) y f (fun j m=>by
     rw[F,x8r (by simp[n];omega),Wt hk];simp only[x9n,x7e,n];by_cases D:j<l.length
     .rw [if_pos D,if_pos D,G]
     .obtain rfl:j=l.length:=by omega
      simp)
    exact⟨_,_,σ,β',_,rfl,⟨rfl,rfl⟩,g1,K,L⟩
end Go.Ab
