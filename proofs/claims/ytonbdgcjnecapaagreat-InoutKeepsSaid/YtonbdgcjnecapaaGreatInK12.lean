/- The library's contracts on rows, as contracts on rows of the caller's own: slices.BinarySearch, slices.Insert at int. Conditions: the rows' lengths. -/
import Derived.Test.YtonbdgcjnecapaaGreatInK11
set_option linter.all false
set_option maxRecDepth 100000
set_option maxHeartbeats 16000000
namespace Go.Ab
open Go.Proofs.Tryz
open Go.Proofs Go.Sort
variable {k:Nat}{l:List Int}{vs:Array Value}{w w':World}{β:Lab}{σ:Mem}
theorem Frm.trans{B:Nat->Prop}{w w' i:World}(h:Frm B w w')(k:Frm B w' i):Frm B w i:=
 ⟨k.os.trans h.os,k.tape.trans h.tape,k.output.trans h.output,x8s h.drawn k.drawn,x8s h.size k.size,fun j m o=>(k.block j (x9o m h.size) o).trans (h.block j m o)⟩
theorem Frm.weak{B i:Nat->Prop}(h:Frm B w w')(m:∀k,B k->i k):Frm i w w':=
 ⟨h.os,h.tape,h.output,h.drawn,h.size,fun j q r=>h.block j q fun o=>r (m j o)⟩
theorem Frm.drewN(B:Nat->Prop)(w:World)(n:Nat):Frm B w (w.drewN n):=⟨rfl,rfl,rfl,Nat.le_add_right _ _,x7u _,fun _ _ _=>rfl⟩
def Ix{c c':Chunk}{m:Heap}{i:BInfo}(h:HRel σ β ((k,c)::m) w)(v:β k=some i)(p:Frm (fun b=>b=i.blk) w w')(t:c'.holds σ β w' k):HRel σ β ((k,c')::m) w'/\Later σ β ((k,c)::m) w σ β ((k,c')::m) w':=by
 have u:=h.apart k (by simp) i v;have x:∀j∈m.map (·.1),j≠k:=fun j r o=>by
  have:=h.nodup;simp only[x7l,x8k]at this;exact this.1 (o▸r)
 refine⟨⟨fun b cs n=>?_,fun j d r=>?_,h.nodup,fun j r i' q b n=>?_,h.inj⟩,Mem.le_refl σ,⟨p.os,p.tape,p.output,p.drawn,p.size,fun b n g=>p.block b n fun o=>g ⟨k,by simp,i,v,.inl o.symm⟩⟩,
  fun b a f=>absurd a f,fun b A=>.inl A,fun _ _ _=>rfl⟩
 .obtain ⟨e,z,y⟩:=h.mem b cs n;exact⟨e,z,(p.block b (x7p.1 y).1 fun o=>by rw[o,(u _ i.has_blk).1]at n;cases n).trans y⟩
 .rcases x6m.1 r with o|r
  .cases o;exact t
  .have s:j∈m.map (·.1):=x6r.2 ⟨_,r,rfl⟩;refine(h.chunks j d (x6b _ r)).mono (Mem.le_refl σ) fun i' q b n=>p.block b (h.apart j (x6b _ s) i' q b n).2 fun o=>?_;exact x j s (h.inj j (x6b _ s) k (by simp) i' i q v b n (.inl o.symm))
 .have:=h.apart j r i' q b n;exact⟨this.1,x9o this.2 p.size⟩
def q0a{c c':Chunk}{m:Heap}{i':BInfo}(h:HRel σ β ((k,c)::m) w)(O:2000<=k)(D:Frm (fun _=>False) w w')(x:i'.blk=w.heap.size)(M:i'.subs=[])(L:w.heap.size<w'.heap.size)(a:∀j d,(j,d)∈m->d.free k=true)(B:c'.holds σ (β.set k (some i')) w' k):
  HRel σ (β.set k (some i')) ((k,c')::m) w'/\Later σ β ((k,c)::m) w σ (β.set k (some i')) ((k,c')::m) w':=by
 have G:∀j∈m.map (·.1),j≠k:=fun j p F=>by
  have:=h.nodup;simp only[x7l,x8k]at this;exact this.1 (F▸p)
 have i:∀j,j≠k->(β.set k (some i')) j=β j:=fun j p=>by simp[Lab.set,p]
 have o:(β.set k (some i')) k=some i':=by simp[Lab.set]
 have r:∀b,i'.has b->b=w.heap.size:=fun b u=>by
  rcases u with u|⟨_,u⟩
  .rw [<-u,x]
  .rw [M]at u;cases u
 refine⟨⟨fun b cs x=>?_,fun j d p=>?_,h.nodup,fun j p y v b x=>?_,fun j p C g y J q f b t z=>?_⟩,Mem.le_refl σ,D.weak fun _ h=>h.elim,
  fun b I q=>absurd I q,fun b ⟨j,p,y,q,t⟩=>?_,fun j I q=>i j (by omega)⟩
 .obtain ⟨e,H,E⟩:=h.mem b cs x;exact⟨e,H,(D.block b (x7p.1 E).1 id).trans E⟩
 .rcases x6m.1 p with F|p
  .cases F;exact B
  .have A:j∈m.map (·.1):=x6r.2 ⟨_,p,rfl⟩;exact((h.chunks j d (x6b _ p)).mono (Mem.le_refl σ) fun y v b x=>D.block b (h.apart j (x6b _ A) y v b x).2 id).set _ (G j A) (a j d p)
 .by_cases n:j=k
  .subst n;rw[o]at v;cases v;have K:=r b x;refine⟨?_,by omega⟩;cases N:σ b with
   |none=>rfl
   | some cs=>
     obtain⟨e,H,E⟩:=h.mem b cs N;have:=(x7p.1 E).1;omega
  .rw [i j n]at v;have:=h.apart j p y v b x;exact⟨this.1,x9o this.2 D.size⟩
 .by_cases n:j=k<;>by_cases s:C=k
  .rw [n,s]
  .subst n;rw[o]at q;cases q;rw[i C s]at f;have:=(h.apart C g J f b z).2;have:=r b t;omega
  .subst s;rw[o]at f;cases f;rw[i j n]at q;have:=(h.apart j p y q b t).2;have:=r b z;omega
  .rw [i j n]at q;rw[i C s]at f;exact h.inj j p C g y J q f b t z
 .by_cases n:j=k
  .subst n;rw[o]at q;cases q;exact .inr (by rw[r b t];exact x7u _)
  .rw [i j n]at q;exact .inl ⟨j,p,y,q,t⟩
def q6u(cs:Array Value):Nat->List Value->Array Value
 |_,[]=>cs
 |o,v::r=>q6u (cs.setIfInBounds o v) (o+1) r
theorem UD:∀(vs:List Value)(cs:Array Value)(o:Nat),(q6u cs o vs).size=cs.size
 |[],_,_=>rfl
 |v::r,cs,o=>by rw[q6u,UD r];simp
theorem DJ:∀(vs:List Value)(cs:Array Value)(o j:Nat),o+vs.length<=cs.size->(q6u cs o vs)[j]?=if o<=j/\j<o+vs.length then vs[j-o]?else cs[j]?
 |[],cs,o,j,_=>by simp[q6u];intros;omega
 | v::r,cs,o,j,h=>by
   simp only[x7g]at h;rw[q6u,DJ r _ (o+1) j (by simp;omega)];simp only[x7g];by_cases i:j=o
   .subst i;rw[if_neg (by omega),if_pos (by omega),Array.getElem?_setIfInBounds_self_of_lt (by omega)];simp
   .by_cases m:o+1<=j/\j<o+1+r.length
    .rw [if_pos m,if_pos (by omega),show j-o=(j-(o+1))+1 by omega];simp
    .rw [if_neg m,if_neg (by omega),z1v (z1f i)]
theorem WL{b:Nat}{e:TypeId}:∀(vs:List Value)(o:Nat){w:World}{cs:Array Value},w.heap[b]?=some (.cells cs e (0,0))->
  (w.setCells b o vs).heap[b]?=some (.cells (q6u cs o vs) e (0,0))/\Frm (fun x=>x=b) w (w.setCells b o vs)
 |[],_,w,cs,h=>⟨h,Frm.refl _ _⟩
 | v::r,o,w,cs,h=>by
   have i:(w.setCell ⟨b,o,none⟩ v).heap[b]?=some (.cells (cs.setIfInBounds o v) e (0,0)):=by
    simp[World.setCell,z1w,h]
   have j:Frm (fun x=>x=b) w (w.setCell ⟨b,o,none⟩ v):=⟨rfl,rfl,rfl,x7u _,by simp[World.setCell],fun k _ p=>by simp[World.setCell,z1w,z1f p]⟩;obtain⟨m,n⟩:=WL r (o+1) i;exact⟨m,j.trans n⟩
def TI(h:∀(m:Nat)(x:AV),(l.map (AV.int .i64))[m]?=some x->x.cells.length=1/\∀(j:Nat)(c:AV),x.cells[j]?=some c->∃u:Value,vs[m*1+j]?=some u/\Rep σ c u){j:Nat}(o:j<l.length):
  vs[j]?=some (.int .i64 l[j]):=by
 obtain⟨u,i,n⟩:=(h j (.int .i64 l[j]) (by simp[o])).2 0 (.int .i64 l[j]) rfl;cases n with
 |int=>simpa using i
def OY(h:∀j (n:j<l.length),vs[j]?=some (.int .i64 l[j])):∀(m:Nat)(x:AV),(l.map (AV.int .i64))[m]?=some x->x.cells.length=1/\∀(j:Nat)(c:AV),x.cells[j]?=some c->∃u:Value,vs[m*1+j]?=some u/\Rep σ c u:=by
 intro m x i;rw[x6a]at i;cases p:l[m]?with
 |none=>rw[p]at i;cases i
 | some s=>
   rw[p]at i;cases i;obtain⟨q,rfl⟩:=x6n.1 p;refine⟨rfl,fun j c n=>?_⟩;have o:j=0:=by
    have:=(x6n.1 n).1;simpa[AV.cells]using this
   subst o;simp only[AV.cells,z1k,x9a]at n;subst n;exact⟨_,by simpa using h m q,.int _ _⟩
def q9e{i:Array Value}{l l':LV}(h:i.size=[l,l'].length):∃v u,i=#[v,u]:=by
 obtain⟨vs⟩:=i
 match vs,h with
 |[a,b],_=>exact⟨a,b,rfl⟩
def x4q{i:Array Value}{l l' j:LV}(h:i.size=[l,l',j].length):∃v u t,i=#[v,u,t]:=by
 obtain⟨vs⟩:=i
 match vs,h with
 |[a,b,c],_=>exact⟨a,b,c,rfl⟩
def q4t{k:IntKind}{n:Int}{v:Value}(h:RepL σ β (.p (.int k n)) v):v=.int k n:=by
 cases h with
 |p h=>cases h;rfl
theorem Rep.tup2{n:Int}{b:Bool}:Rep σ (.tup [.int .i64 n,.bool b]) (.tuple #[.int .i64 n,.bool b]):=
 .tup _ _ (fun j=>(#[Value.int .i64 n,.bool b]).getD j undef) rfl (fun j c i=>by
  match j,i with
  |0,_=>rfl
  |1,_=>rfl) (fun j c i=>by
  match j,i with
  |0,i=>cases i;exact .int _ _
  |1,i=>cases i;exact .bool _)
def JN(l:List Int)(x:Int)(N:l.Pairwise (· <= ·))(F:l.length<=1000000000):
  SpecP prog 305 [.sl (l.map (.int .i64)),.int .i64 x] (fun r=>r=.tup [.int .i64 (l.countP (· < x):Nat),.bool (l.contains x)]):=by
 refine⟨call305,fun σ w I L H B=>?_⟩;obtain⟨v,u,rfl⟩:=q9e (l:=.p .und) (l':=.p .und) L;have s:Rep σ (.sl (l.map (.int .i64))) v:=by simpa using H 0 _ rfl
 have A:Rep σ (.int .i64 x) u:=by simpa using H 1 _ rfl
 obtain rfl:u=.int .i64 x:=by cases A;rfl
 have empty:∀a c,l=[]->Calls prog 305 #[.slice a 0 c,.int .i64 x] w fun e w'=>∃c u σ',e=.returned u/\c=AV.tup [.int .i64 (l.countP (· < x):Nat),.bool (l.contains x)]/\Rep σ' c u/\σ.le σ'/\σ'.lies w'/\Frm (fun _=>False) w w'/\∀b,σ b=none->σ' b≠none->w.heap.size<=b:=by
  intro a c n;subst n;have t:=Any.slices_BinarySearch_int_empty H6 a c x w;change Calls prog 305 _ _ _ at t;refine t.mono ?_;rintro e w' ⟨rfl,rfl⟩;exact⟨_,_,σ,rfl,rfl,Rep.tup2,Mem.le_refl σ,B,Frm.refl _ _,fun b h y=>absurd h y⟩
 generalize i:l.map (AV.int .i64)=es at s;cases s with
 |nilsl=>exact empty _ _ (by simpa using i)
 |slz b=>exact empty _ _ (by simpa using i)
 | sl _ b off cap sz cells O J E G g t M=>
   subst i;by_cases n:l=[]
   .have:=empty (some ⟨b,off,none⟩) cap n;subst n;exact this
   .have f:0<l.length:=z2p.2 n;have o:sz=1:=(g 0 (.int .i64 l[0]) (by simp[f])).symm;subst o;obtain⟨e,P,K⟩:=B b cells J;rw[x6j];have m:=Any.slices_BinarySearch_int H6 b off l.length cap l x w (x7u _) (by omega) (fun j d=>by
     have C:=t j (.int .i64 l[j]) 0 (.int .i64 l[j]) (by simp[d]) rfl;have D:=M j (.int .i64 l[j]) 0 (.int .i64 l[j]) (by simp[d]) rfl;rw[show w.cell? ⟨b,off+j,none⟩=cells[off+j]? by simp[World.cell?,K]];simp only[Nat.mul_one,z0r]at C;rw[C];generalize O j 0=z at D;cases D;simp[d]) (by rw[z1z];exact N)
    change Calls prog 305 _ _ _ at m;refine m.mono ?_;rintro e w' ⟨rfl,q,rfl⟩;rw[z1z];exact⟨_,_,σ,rfl,rfl,Rep.tup2,Mem.le_refl σ,B,Frm.drewN _ w q,fun b h y=>absurd h y⟩
def U6(l:List Int)(k:Nat)(x:Int):List Int:=l.take k++x::l.drop k
def Yx{x:Int}(h:k<=l.length):(U6 l k x).length=l.length+1:=by simp[U6];omega
def Yq{j:Nat}{x:Int}(h:k<=l.length):(U6 l k x)[j]?=if j<k then l[j]?else if j=k then some x else l[j-1]?:=by
 unfold U6;rw[z0n];simp only[x7m,Nat.min_eq_left h];by_cases i:j<k
 .rw [if_pos i,if_pos i,List.getElem?_take_of_lt i]
 .rw [if_neg i,if_neg i];by_cases m:j=k
  .subst m;simp
  .rw [if_neg m,show j-k=(j-1-k)+1 by omega,z0w,x8t];congr 1;omega
def Mb(h:∀j,j<l.length->vs[j]?=(l[j]?).map (Value.int .i64)):∀(m:Nat)(x:AV),(l.map (AV.int .i64))[m]?=some x->x.cells.length=1/\∀(j:Nat)(c:AV),x.cells[j]?=some c->∃u:Value,vs[m*1+j]?=some u/\Rep σ c u:=
 OY fun j i=>by rw[h j i,x6k i];rfl
theorem Frm.new(h:Frm (fun x=>x=w.heap.size) w w'):Frm (fun _=>False) w w':=
 ⟨h.os,h.tape,h.output,h.drawn,h.size,fun k i _=>h.block k i (by omega)⟩
def J1(w:World)(o:Obj)(B:Nat->Prop):Frm B w (w.alloc o):=⟨rfl,rfl,rfl,x7u _,show w.heap.size<=(w.heap.push o).size by simp,fun k h _=>heap_alloc_old w o h⟩
def Lk{b:Nat}{e:TypeId}(h:w.heap[b]?=some (.cells vs e (0,0))):w.shape? b=some (e,vs.size):=by
 simp[World.shape?,h]
def Gx(n:Nat):(Builtin.zeroCells (Value.int .i64 0).cells n).size=n:=by
 rw[size_zeroCells];exact Nat.mul_one n
def Zj(l:List Int)(k:Nat)(x:Int)(hk:k<=l.length)(hlen:l.length<=1000000000):
  SpecH prog 306 [.hd 2000 0 l.length,.p (.int .i64 k),.hd 1000 0 1] [(2000,.own 3 1 (l.map (.int .i64))),(1000,.own 3 1 [.int .i64 x])]
   (fun r H=>r=.hd 2000 0 (l.length+1)/\H=[(2000,.own 3 1 ((U6 l k x).map (.int .i64))),(1000,.own 3 1 [.int .i64 x])]):=by
 refine⟨call306,fun σ β w vals hn Q T=>?_⟩;obtain⟨v,u,t,rfl⟩:=x4q hn;have hv1:RepL σ β (.hd 2000 0 l.length) v:=by simpa using Q 0 _ rfl
 have hv2:RepL σ β (.p (.int .i64 k)) u:=by simpa using Q 1 _ rfl
 have hv3:RepL σ β (.hd 1000 0 1) t:=by simpa using Q 2 _ rfl
 cases q4t hv2;have hil:=Yx (x:=x) hk;obtain⟨cs,V⟩ : ∃cs,cs=l.map (Value.int .i64):=⟨_,rfl⟩;have n:cs.length=l.length:=by rw[V];simp
 have G:∀j:Nat,cs[j]?=(l[j]?).map (Value.int .i64):=fun j=>by rw[V];simp
 have h1c:∀v∈cs,v.oneCell'=true:=fun v Q=>by
  rw[V]at Q;obtain⟨z,_,rfl⟩:=x6r.1 Q;rfl
 have E:∀v∈[Value.int .i64 x],v.oneCell'=true:=fun v Q=>by
  rcases x6p.1 Q with rfl;rfl
 have hch1:(Chunk.own 3 1 [.int .i64 x]).holds σ β w 1000:=T.chunks 1000 _ (x6b _ x6g);rcases hch1 with⟨_,Y⟩|⟨s,vv,hiv,hszv,N,hv5,hv6,hv7,hv8⟩
 .cases Y
 have hte:=Mf hv3 hiv;subst hte;have hvx:vv[0]?=some (.int .i64 x):=by
  have:=TI (σ:=σ) (l:=[x]) hv8 (j:=0) (by simp);simpa using this
 have J:∀j v,[Value.int .i64 x][j]?=some v->w.cell? ⟨s.blk,0+j,none⟩=some v:=fun j v m=>by
  rw[FR N]
  match j,m with
  |0,m=>cases m;simpa using hvx
 have hv6':1<=s.cap:=by simpa using hv6
 have hltv:=(T.apart 1000 (by simp) s hiv s.blk s.has_blk).2;have grown:∀(w':World)(o:Array Value)(cap:Nat),Frm (fun x=>x=w.heap.size) w w'->w'.heap[w.heap.size]?=some (.cells o 3 (0,0))->o.size=cap->l.length+1<=cap->cap<=maxLen->
   (∀j,j<l.length+1->o[j]?=((U6 l k x)[j]?).map (Value.int .i64))->
   ∃β',RepL σ β' (.hd 2000 0 (l.length+1)) (.slice (some ⟨w.heap.size,0,none⟩) (l.length+1) cap)/\HRel σ β' [(2000,.own 3 1 ((U6 l k x).map (.int .i64))),(1000,.own 3 1 [.int .i64 x])] w'/\Later σ β [(2000,.own 3 1 (l.map (.int .i64))),(1000,.own 3 1 [.int .i64 x])] w σ β' [(2000,.own 3 1 ((U6 l k x).map (.int .i64))),(1000,.own 3 1 [.int .i64 x])] w':=by
  intro w' o cap hf hb hsz I c b;obtain⟨U,hL⟩:=q0a (c':=.own 3 1 ((U6 l k x).map (.int .i64))) (i':=⟨w.heap.size,cap,1,[],c⟩) T (x7u _) hf.new rfl rfl (x7p.1 hb).1 (fun j d m=>by
   simp at m;rw[m.2];rfl) (.inr ⟨⟨w.heap.size,cap,1,[],c⟩,o,by simp[Lab.set],rfl,hb,by simp[hsz],by simp[hil,I],c,Mb fun j m=>b j (by omega)⟩)
  refine⟨_,?_,U,hL⟩;have:=RepL.hd (σ:=σ) (β:=β.set 2000 (some ⟨w.heap.size,cap,1,[],c⟩)) 2000 0 (l.length+1) ⟨w.heap.size,cap,1,[],c⟩ 0 (by simp[Lab.set]) (by simpa using I) (.inl (by simp));simpa using this
 rcases T.chunks 2000 _ x6g with⟨hb0,Y⟩|⟨i,vs,hi,hsz,P,h2,h3,h4,h5⟩
 .have hl0:l=[]:=by simpa using Y
  subst hl0;obtain⟨rfl,_⟩:=TL hv1 hb0;obtain rfl:k=0:=by simpa using hk
  have B:=Any2.slices_Insert_int_end_grow HQ none 0 0 s.blk 0 1 s.cap [] [.int .i64 x] w (by omega) (by omega) (by omega) (by omega) rfl rfl (fun _=>rfl) (fun _ h=>by cases h) J E;change Calls prog 306 _ _ _ at B;refine B.mono ?_;rintro e w' ⟨rfl,rfl⟩;have y:=grownCap_ge w (0+1) 0 (Tryz.laysI_ren.t 3);have f:=grownCap_le_maxLen w (0+1) 0 (Tryz.laysI_ren.t 3) (by unfold maxLen;omega);generalize grownCap w (0+1) 0 (Tryz.laysI_ren.t 3)=cap at y f⊢;obtain⟨A,F⟩ : ∃A,A=([]++[Value.int .i64 x]:List Value).toArray++Builtin.zeroCells (Value.int .i64 0).cells (cap-(0+1)):=⟨_,rfl⟩;rw[<-F];obtain⟨β',g1,K,L⟩:=grown _ A cap ((Frm.drewN _ w 1).trans (J1 _ _ _)) (heap_alloc_new w.drew _) (by rw[F];simp[Gx];omega) y f (fun j m=>by
   have hj0:j=0:=by simpa using m
   subst hj0;rw[F,z0l (by simp)];rfl)
  exact⟨_,_,σ,β',_,rfl,⟨rfl,rfl⟩,g1,K,L⟩
 .have hve:=Mf hv1 hi;subst hve;have hlt:=(T.apart 2000 (by simp) i hi i.blk i.has_blk).2;have b:=fun j m=>TI (σ:=σ) (l:=l) h5 (j:=j) m;have hne:s.blk≠i.blk:=fun he=>by
   have:=T.inj 1000 (by simp) 2000 (by simp) s i hiv hi s.blk s.has_blk (.inl he.symm);omega
  have O:l.length<=i.cap:=by simpa using h3
  have R:vs.size=i.cap:=by simpa using h2
  have g:∀j v,cs[j]?=some v->w.cell? ⟨i.blk,0+j,none⟩=some v:=fun j v m=>by
   rw[G]at m;cases hq:l[j]?with
   |none=>rw[hq]at m;cases m
   | some z=>
     rw[hq]at m;cases m;obtain⟨hjl,rfl⟩:=x6n.1 hq;rw[FR P,x8d,b j hjl]
  have C:∀(w':World)(o:Array Value),Frm (fun x=>x=i.blk) w w'->w'.heap[i.blk]?=some (.cells o 3 (0,0))->o.size=i.cap->l.length+1<=i.cap->
    (∀j,j<l.length+1->o[j]?=((U6 l k x)[j]?).map (Value.int .i64))->
    RepL σ β (.hd 2000 0 (l.length+1)) (.slice (some ⟨i.blk,0,none⟩) (l.length+1) i.cap)/\HRel σ β [(2000,.own 3 1 ((U6 l k x).map (.int .i64))),(1000,.own 3 1 [.int .i64 x])] w'/\Later σ β [(2000,.own 3 1 (l.map (.int .i64))),(1000,.own 3 1 [.int .i64 x])] w σ β [(2000,.own 3 1 ((U6 l k x).map (.int .i64))),(1000,.own 3 1 [.int .i64 x])] w':=by
   intro w' o hf hb hsz' I Z;obtain⟨U,hL⟩:=Ix (c':=.own 3 1 ((U6 l k x).map (.int .i64))) T hi hf (.inr ⟨i,o,hi,hsz,hb,by simp[hsz'],by simp[hil,I],h4,Mb fun j m=>Z j (by omega)⟩);refine⟨?_,U,hL⟩;have:=RepL.hd (σ:=σ) (β:=β) 2000 0 (l.length+1) i 0 hi (by simpa using I) (.inl (by simp));simpa using this
  by_cases q:l.length+1<=i.cap
  .by_cases hkn:k<l.length
   .have B:=Any2.slices_Insert_int_shift HQ i.blk 0 l.length i.cap k s.blk 0 1 s.cap cs [.int .i64 x] w hkn (by omega) q h4 hne n rfl g
     (fun j m=>by rw[FR P,x8d,x9q (by omega)];rfl) (fun j m=>YY P _) J h1c E _ _ _ _ (Lk N) (Lk P) (by omega) (YY N _) (YY N _)
    change Calls prog 306 _ _ _ at B;refine B.mono ?_;rintro e w' ⟨rfl,rfl⟩;obtain⟨s1,s2⟩:=WL (cs.drop k) (0+(k+1)) (w:=w.drew) P;obtain⟨s3,s4⟩:=WL [Value.int .i64 x] (0+k) s1;have M:(cs.drop k).length=l.length-k:=by simp[n]
    obtain⟨g1,K,L⟩:=C _ _ (((Frm.drewN _ w 1).trans s2).trans s4) s3 (by rw[UD,UD,R]) q (fun j m=>by
     rw[DJ _ _ _ _ (by rw[UD];simp;omega),DJ _ _ _ _ (by rw[M];omega),Yq hk,M];simp only[x8d,x7r];by_cases D:j<k
     .rw [if_neg (by omega),if_neg (by omega),if_pos D,b j (by omega),x6k (by omega)];rfl
     .rw [if_neg D];by_cases e2:j=k
      .subst e2;rw[if_pos (by omega),if_pos rfl];simp
      .rw [if_neg (by omega),if_pos (by omega),if_neg e2,x8t,G];congr 2;omega)
    exact⟨_,_,σ,β,_,rfl,⟨rfl,rfl⟩,g1,K,L⟩
   .obtain rfl:k=l.length:=by omega
    have B:=Any2.slices_Insert_int_end_room HQ i.blk 0 l.length i.cap s.blk 0 1 s.cap [.int .i64 x] w (by omega) q h4 rfl
     (fun j m=>by rw[FR P,x9q (by omega)];rfl) (fun j m=>YY P _) J E
    change Calls prog 306 _ _ _ at B;refine B.mono ?_;rintro e w' ⟨rfl,rfl⟩;obtain⟨s3,s4⟩:=WL [Value.int .i64 x] (0+l.length) P;obtain⟨g1,K,L⟩:=C _ _ s4 s3 (by rw[UD,R]) q (fun j m=>by
     rw[DJ _ _ _ _ (by simp;omega),Yq hk];simp only[x8d,x7r];by_cases D:j<l.length
     .rw [if_neg (by omega),if_pos D,b j (by omega),x6k (by omega)];rfl
     .obtain rfl:j=l.length:=by omega
      simp)
    exact⟨_,_,σ,β,_,rfl,⟨rfl,rfl⟩,g1,K,L⟩
  .by_cases hkn:k<l.length
   .have B:=Any2.slices_Insert_int_grow HQ i.blk 0 l.length i.cap k s.blk 0 1 s.cap cs [.int .i64 x] w hkn (by omega) O (by omega) (by omega) n rfl g J h1c E;change Calls prog 306 _ _ _ at B;refine B.mono ?_;rintro e w' ⟨rfl,rfl⟩;have y:=grownCap_ge w (l.length+1) i.cap (Tryz.laysI_ren.t 3);have f:=grownCap_le_maxLen w (l.length+1) i.cap (Tryz.laysI_ren.t 3) (by unfold maxLen;omega);generalize grownCap w (l.length+1) i.cap (Tryz.laysI_ren.t 3)=cap at y f⊢;have M:(cs.drop k).length=l.length-k:=by simp[n]
    obtain⟨A,F⟩ : ∃A,A=(cs.take k).toArray++Builtin.zeroCells (Value.int .i64 0).cells (l.length+1-k)++Builtin.zeroCells (Value.int .i64 0).cells (cap-(l.length+1)):=⟨_,rfl⟩;have hAs:A.size=cap:=by rw[F];simp[Gx,n];omega
    have hAg:∀j,j<k->A[j]?=(l[j]?).map (Value.int .i64):=fun j m=>by
     rw[F,z0l (by simp[n];omega),z0l (by simp[n];omega)];simp[m,G]
    rw[<-F];have s0:(w.alloc (.cells A (Tryz.laysI_ren.t 3))).drew.heap[w.heap.size]?=some (.cells A 3 (0,0)):=heap_alloc_new w _;obtain⟨s1,s2⟩:=WL [Value.int .i64 x] k s0;obtain⟨s3,s4⟩:=WL (cs.drop k) (k+1) (w:=(((w.alloc (.cells A (Tryz.laysI_ren.t 3))).drew.setCells w.heap.size k [Value.int .i64 x]).drew)) s1;obtain⟨β',g1,K,L⟩:=grown _ _ cap ((((J1 w _ _).trans (Frm.drewN _ _ 1)).trans s2).trans ((Frm.drewN _ _ 1).trans s4)) s3 (by rw[UD,UD,hAs]) y f (fun j m=>by
     rw[DJ _ _ _ _ (by rw[UD];omega),DJ _ _ _ _ (by simp;omega),Yq hk,M];simp only[x7r];by_cases D:j<k
     .rw [if_neg (by omega),if_neg (by omega),if_pos D,hAg j D]
     .rw [if_neg D];by_cases e2:j=k
      .subst e2;rw[if_neg (by omega),if_pos (by omega),if_pos rfl];simp
      .rw [if_pos (by omega),if_neg e2,x8t,G];congr 2;omega)
    exact⟨_,_,σ,β',_,rfl,⟨rfl,rfl⟩,g1,K,L⟩
   .obtain rfl:k=l.length:=by omega
    have B:=Any2.slices_Insert_int_end_grow HQ (some ⟨i.blk,0,none⟩) l.length i.cap s.blk 0 1 s.cap cs [.int .i64 x] w (by omega) O (by omega) (by omega) n rfl (fun h=>by cases h) (fun a ha j v m=>by
     cases ha;rw[Addr.add_lit];exact g j v m) J E
    change Calls prog 306 _ _ _ at B;refine B.mono ?_;rintro e w' ⟨rfl,rfl⟩;have y:=grownCap_ge w (l.length+1) i.cap (Tryz.laysI_ren.t 3);have f:=grownCap_le_maxLen w (l.length+1) i.cap (Tryz.laysI_ren.t 3) (by unfold maxLen;omega);generalize grownCap w (l.length+1) i.cap (Tryz.laysI_ren.t 3)=cap at y f⊢;obtain⟨A,F⟩ : ∃A,A=(cs++[Value.int .i64 x]).toArray++Builtin.zeroCells (Value.int .i64 0).cells (cap-(l.length+1)):=⟨_,rfl⟩;rw[<-F];obtain⟨β',g1,K,L⟩:=grown _ A cap ((Frm.drewN _ w 1).trans (J1 _ _ _)) (heap_alloc_new w.drew _) (by rw[F];simp[Gx,n];omega) y f (fun j m=>by
     rw[F,z0l (by simp[n];omega),Yq hk];simp only[z2k,z0n,n];by_cases D:j<l.length
     .rw [if_pos D,if_pos D,G]
     .obtain rfl:j=l.length:=by omega
      simp)
    exact⟨_,_,σ,β',_,rfl,⟨rfl,rfl⟩,g1,K,L⟩
def avI(h:List (List Int)):List (List AV):=h.map fun r=>r.map (.int .i64)
def U5(n:Nat)(N P:List (List Int)):Heap:=[(1000,.obj 256 [.hd 2001 0 n,.hd 2002 0 n]),(2001,.ext (.mat 54 3 1 (avI N) [])),(2002,.ext (.mat 54 3 1 (avI P) []))]
def WV(n:Nat)(a:Int):Bool:=decide (0<=a)&&decide (a<n)
def B7(n:Nat)(N P:List (List Int))(a:Int):
  SpecH prog 217 [.ptr 1000 0,.p (.int .i64 a)] (U5 n N P) (fun r H=>r=.p (.bool (WV n a))/\H=U5 n N P):=by
 refine sH GA func217 rfl call217 ?_;conv=>whnf
 repeat' (apply bD<;>intro _<;>first|omega|conv=>whnf)
 .exact ⟨_,x7q (Sub.bool (by unfold WV;simp;omega)),rfl,rfl⟩
 .exact ⟨_,x7q (Sub.ff (by unfold WV;simp;omega)),rfl,rfl⟩
def x4c(N:List (List Int)):Prop:=∀r∈N,r.Pairwise (· <= ·)/\r.length<=100000000
def Fk(N:List (List Int))(a:Nat)(b:Int):List (List Int):=N.set a (U6 (N.getD a []) ((N.getD a []).countP (· < b)) b)
def Ae{N:List (List Int)}{i:Nat}(h:i<N.length)(b:Int):avI (Fk N i b)=(avI N).set i ((U6 N[i] (N[i].countP (· < b)) b).map (.int .i64)):=by
 unfold avI Fk;rw[x9w];simp[h]
def My(n:Nat)(N P:List (List Int))(a b:Int)(E:N.length=n)(F:P.length=n)(J:n<=5000)(g:x4c N)(A:x4c P):
  SpecH prog 271 [.ptr 1000 0,.p (.int .i64 a),.p (.int .i64 b)] (U5 n N P) (fun r H=>∃t,r=.p (.bool t)/\H=U5 n
   (bif WV n a&&WV n b && !(N.getD a.toNat []).contains b then Fk N a.toNat b else N) (bif WV n a&&WV n b && !(N.getD a.toNat []).contains b then Fk P b.toNat a else P)):=by
 refine sH W7 func271 rfl call271 ?_;conv=>whnf
 repeat' (first|(refine x6d rfl ?_;conv=>whnf)|(apply bN<;>intro _<;>conv=>whnf)|(refine CallK.heap [(1000,1000),(2001,2001),(2002,2002)] 0 (by repeat' (first|exact x7h|refine x6i ?_ ?_|exact x6e _|exact x7q Sub.nils|exact x7q (Sub.tt rfl)|exact x7q (Sub.ff rfl)|exact x7q (Sub.int (by omega)))) (by refine x6y (j:=1000) rfl rfl ?_ ?_;exact CSub.refl _;refine x6y (j:=2001) rfl rfl ?_ ?_;exact CSub.refl _;refine x6y (j:=2002) rfl rfl ?_ ?_;exact CSub.refl _;exact x7f) (B7 n N P _) rfl rfl ?_;rintro l' H' ⟨rfl,rfl⟩;conv=>whnf))
 rotate_left 1
 .exact ⟨_,x7q (Sub.ff rfl),false,rfl,by simp[*];rfl⟩
 .exact ⟨_,x7q (Sub.ff rfl),false,rfl,by simp[*];rfl⟩
 have G:0<=a/\a<n:=by rename_i h _;unfold WV at h;simpa using h
 have I:0<=b/\b<n:=by rename_i h;unfold WV at h;simpa using h
 have e:WV n a=true:=by assumption
 have f:WV n b=true:=by assumption
 obtain⟨i,rfl⟩ : ∃i:Nat,a=i:=⟨a.toNat,by omega⟩;obtain⟨j,rfl⟩ : ∃j:Nat,b=j:=⟨b.toNat,by omega⟩;have u:i<N.length:=by omega
 have v:j<P.length:=by omega
 obtain⟨z,B⟩:=g _ (x6o u);obtain⟨c,C⟩:=A _ (x6o v);have m:(avI N)[i]?=some (N[i].map (.int .i64)):=by unfold avI;simp[u]
 have o:(avI P)[j]?=some (P[j].map (.int .i64)):=by unfold avI;simp[v]
 have d:N.getD (i:Int).toNat []=N[i]:=by simp[u]
 have D:P.getD (j:Int).toNat []=P[j]:=by simp[v]
 refine x8q i rfl (by omega) ?_;conv=>whnf
 repeat' (first|(refine RowK.mk i _ (by omega) m (by simp) ?_;conv=>whnf)|(apply bB<;>intro _<;>conv=>whnf)|(refine QB (JN N[i] j z (by omega)) (.cons (.row rfl m (by simp)) (.cons (.p (Sub.refl _)) .nil)) (by rintro _ rfl;rfl) ?_;rintro _ rfl;conv=>whnf))
 .exact ⟨_,x7q (Sub.ff rfl),false,rfl,by rw[d,e,f,show N[i].contains (j:Int)=true by assumption];rfl⟩
 have q:N[i].countP (· < (j:Int))<=N[i].length:=z2j;refine W3 ⟨[(0,.ptr 1000 0),(1,.p (.int .i64 i)),(2,.p (.int .i64 j))],U5 n (Fk N i j) P⟩ ?_ ?_
 .refine DrawK.of QW mixed (.cons 13 true (.cons 0 false (.cons 1 false (.cons 2 false (.cons 4 false (.cons 5 false (.cons 6 false (.cons 7 false (.cons 9 false (.alo 8 (.alo 10 (.alo 11 (.alo 12 (.fork 3 (.cons 14 true (.cons 15 true (.cons 16 true (.cons 17 true .nil)))) 14 (.fork 3 (.cons 15 true (.cons 16 true (.cons 17 true .nil))) 15 (.cons 3 true (.cons 16 true (.cons 17 true .nil)))))))))))))))))) (by kernel_rfl) ?_;conv=>whnf
  repeat' (first|((first|refine x6d rfl ?_|refine aD ?_|refine x8q i rfl (by omega) ?_|refine RowK.mk i _ (by omega) m (by simp) ?_|refine z1c (fun x y=>by rcases x6p.1 y with rfl;rfl) rfl ?_|(refine Yi QW rfl rfl rfl rfl rfl rfl rfl rfl rfl (by decide) i [] (by omega) (by unfold avI;rw[x6j];omega) (by rw[x6j,Yx q]) ⟨by simp,by simp,by simp⟩ ?_));conv=>whnf)|(refine CallK.focus 2001 i 1 rfl rfl m (by simp) rfl (.row (.cons rfl (.cons rfl .nil))) ?_;conv=>whnf)|(refine CallK.heap [(2000,1),(1000,0)] 0 (x6i (z1m (by rw[x6j];rfl)) (x6i (x6e _) (x6i (x6e _) x7h))) (by refine x6y (j:=1) rfl rfl ?_ ?_;exact CSub.refl _;refine x6y (j:=0) rfl rfl ?_ ?_;exact CSub.refl _;exact x7f) (Zj N[i] (N[i].countP (· < (j:Int))) j q (by omega)) rfl rfl ?_;rintro l' H' ⟨rfl,rfl⟩;conv=>whnf)|(refine x6d ?_ ?_<;>conv=>whnf))
  all_goals exact Le.of_eq (by unfold U5;rw[Ae u])
 conv=>whnf
 have s:P[j].countP (· < (i:Int))<=P[j].length:=z2j;repeat' (first|((first|refine x6d rfl ?_|refine x8q j rfl (by omega) ?_|refine RowK.mk j _ (by omega) o (by simp) ?_);conv=>whnf)|(refine QB (JN P[j] i c (by omega)) (.cons (.row rfl o (by simp)) (.cons (.p (Sub.refl _)) .nil)) (by rintro _ rfl;rfl) ?_;rintro _ rfl;conv=>whnf))
 refine W3 ⟨[],U5 n (Fk N i j) (Fk P j i)⟩ ?_ ?_
 .refine DrawK.of QW mixed (.cons 13 true (.cons 0 false (.cons 1 false (.cons 2 false (.cons 4 false (.cons 5 false (.cons 6 false (.cons 7 false (.cons 9 false (.alo 8 (.alo 10 (.alo 11 (.alo 12 (.fork 3 (.cons 14 true (.cons 15 true (.cons 16 true (.cons 17 true .nil)))) 14 (.fork 3 (.cons 15 true (.cons 16 true (.cons 17 true .nil))) 15 (.cons 3 true (.cons 16 true (.cons 17 true .nil)))))))))))))))))) (by kernel_rfl) ?_;conv=>whnf
  repeat' (first|((first|refine x6d rfl ?_|refine aD ?_|refine x8q j rfl (by omega) ?_|refine RowK.mk j _ (by omega) o (by simp) ?_|refine z1c (fun x y=>by rcases x6p.1 y with rfl;rfl) rfl ?_|(refine Yi QW rfl rfl rfl rfl rfl rfl rfl rfl rfl (by decide) j [] (by omega) (by unfold avI;rw[x6j];omega) (by rw[x6j,Yx s]) ⟨by simp,by simp,by simp⟩ ?_));conv=>whnf)|(refine CallK.focus 2002 j 1 rfl rfl o (by simp) rfl (.row (.cons rfl (.cons rfl .nil))) ?_;conv=>whnf)|(refine CallK.heap [(2000,1),(1000,0)] 0 (x6i (z1m (by rw[x6j];rfl)) (x6i (x6e _) (x6i (x6e _) x7h))) (by refine x6y (j:=1) rfl rfl ?_ ?_;exact CSub.refl _;refine x6y (j:=0) rfl rfl ?_ ?_;exact CSub.refl _;exact x7f) (Zj P[j] (P[j].countP (· < (i:Int))) i s (by omega)) rfl rfl ?_;rintro l' H' ⟨rfl,rfl⟩;conv=>whnf)|(refine x6d ?_ ?_<;>conv=>whnf))
  all_goals exact Le.of_eq (by unfold U5;rw[Ae v])
 conv=>whnf
 skip
 exact⟨_,x7q (Sub.tt rfl),true,rfl,by rw[d,e,f,show N[i].contains (j:Int)=false by assumption];rfl⟩
end Go.Ab
