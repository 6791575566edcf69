/- What 'opW' asks suffices: slice literals, make, append, calls; the whole. Conditions: the table of types is the program's own. -/
import Derived.Tactics
import Derived.Scope
import Derived.Test.YtgpjfppgphaobaaGreatEndA3
set_option linter.all false
set_option maxRecDepth 100000
set_option maxHeartbeats 16000000
open Array (ext')
open Nat (beq ble)
namespace Go.Ab
variable {sz:Nat}{t:TypeId}
section
variable {P:Program}{T:Tab}{N:Nat}{σ:Mem}{β:Lab}{a:Act}{w:World}{o:Oper}{K:St->Prop}{s:St}
theorem Ri{sz:Nat}:∀{es:List AV},(∀e∈es,e.cells.length=sz)->∀(i:Nat)(e:AV)(j:Nat)(c:AV),es[i]?=some e->e.cells[j]?=some c->(es.flatMap AV.cells)[i*sz+j]?=some c
 |[],_,_,_,_,_,h,_=>by simp at h
 | x::r,hs,0,e,j,c,hi,hj=>by
   simp at hi;subst hi;have:j<x.cells.length:=(x4u.1 hj).1;simp only[x6d,Nat.zero_mul,x6i];rw[x5i this];exact hj
 | x::r,hs,i+1,e,j,c,hi,hj=>by
   have k:=hs x (by simp);simp only[x6d];rw[x5t (by rw[k,x6r];omega),k];rw[show(i+1)*sz+j-sz=i*sz+j by rw[x6r];omega];exact Ri (fun e l=>hs e (by simp[l])) i e j c (by simpa using hi) hj
theorem Ro{sz:Nat}:∀{es:List AV},(∀e∈es,e.cells.length=sz)->(es.flatMap AV.cells).length=es.length*sz
 |[],_=>by simp
 | x::r,hs=>by
   simp only[x6d,x3o,x5g,x6r,hs x (by simp),Ro (es:=r) fun e h=>hs e (by simp[h])];omega
theorem RepC.flat{es:List AV}(m:∀e∈es,e.cells.length=sz){vs:List Value}(h:RepC σ β ((es.flatMap AV.cells).map .p) vs):RepE σ sz es vs:=by
 refine⟨by rw[h.1,x3a,Ro m],fun i e l=>m e (x4p l),fun i e j c l v=>?_⟩;obtain⟨u,q,r⟩:=h.2 (i*sz+j) (.p c) (by simp[Ri m i e j c l v]);refine⟨u,q,?_⟩;cases r with
 |p h=>exact h
def W6(n:Nat)(vs:List Value)(h:vs.length=n):RepC σ β (List.replicate n (.p .any)) vs:=by
 refine⟨by simp[h],fun j l i=>?_⟩;rw[x5v]at i;split at i
 .rename_i k;cases i;exact⟨vs[j]'(by omega),by simp[h,k],.p (.any _)⟩
 .cases i
def Eb(e:TypeId){n:Nat}{es:List AV}{vs:Array Value}(B:(execOp a.eval o).run P w=.ok (.value (.slice (some ⟨w.heap.size,0,none⟩) n n)) (w.alloc (.cells vs e)))(r:Rel N σ β s a w)(hn:es.length=n)(L:RepE σ sz es vs.toList)(Y:n<=maxLen)(h:setD N s.sl o.dst (.p (.sl es)) fun sl=>K ⟨sl,s.H⟩):Mp P N σ β a w s o K:=by
 intro Q;have d:σ w.heap.size=none:=by
  cases hs:σ w.heap.size with
  |none=>rfl
  | some c=>
    obtain⟨e,J,C⟩:=r.heap.mem _ c hs;have:=(x4t.1 C).1;omega
 let τ:Mem:=fun b=>if b=w.heap.size then some vs else σ b;have y:σ.le τ:=fun b c l=>by
  show(if b=w.heap.size then some vs else σ b)=some c;split
  .rename_i F;rw[F,d]at l;cases l
  .exact l
 have q:∀b,b<w.heap.size->(w.alloc (.cells vs e)).heap[b]?=w.heap[b]?:=fun b l=>heap_alloc_old w _ b l;have I:(w.alloc (.cells vs e)).heap.size=w.heap.size+1:=by show(w.heap.push _).size=_;simp
 have hH:HRel τ β s.H (w.alloc (.cells vs e)):=by
  refine⟨fun b c l=>?_,fun k c M=>(r.heap.chunks k c M).mono y fun i x b l=>q _ (r.heap.apart k (x4y.2 ⟨_,M,rfl⟩) i x b l).2,r.heap.nodup,fun k hk i x b l=>?_,r.heap.inj⟩
  .have z:(if b=w.heap.size then some vs else σ b)=some c:=l;split at z
   .rename_i F;cases z;subst F;exact⟨e,(0,0),heap_alloc_new w _⟩
   .obtain ⟨R,J,C⟩:=r.heap.mem b c z;exact⟨R,J,(q b (x4t.1 C).1).trans C⟩
  .have:=r.heap.apart k hk i x b l;refine⟨?_,by omega⟩;show(if b=w.heap.size then some vs else σ b)=none;rw[if_neg (by omega)];exact this.1
 have g:Rel N τ β s a (w.alloc (.cells vs e)):=⟨r.size,r.defers,fun i=>(r.E i).mono y,hH⟩;have hτ:τ w.heap.size=some vs:=by show(if w.heap.size=w.heap.size then some vs else _)=_;simp
 obtain⟨u,O⟩ : ∃u:Nat->Nat->Value,∀(i:Nat)(e:AV)(j:Nat)(c:AV),es[i]?=some e->e.cells[j]?=some c->vs[i*sz+j]?=some (u i j)/\Rep σ c (u i j):=by
  refine⟨fun i j=>(vs[i*sz+j]?).getD undef,fun i e j c x f=>?_⟩;obtain⟨v,D,V⟩:=L.rep i e j c x f;have m:vs[i*sz+j]?=some v:=by simpa using D
  exact⟨by simp[m],by simpa[m]using V⟩
 have A:Rep τ (.sl es) (.slice (some ⟨w.heap.size,0,none⟩) n n):=by
  rw[<-hn];exact .sl es w.heap.size 0 es.length sz vs u hτ (x4m _) (by omega) L.size (fun i e j c x f=>by simpa using(O i e j c x f).1) fun i e j c x f=>(O i e j c x f).2.mono y
 obtain⟨sl,Z,G⟩:=g.setD (.p A) h;refine XT B ⟨τ,β,_,Z,G,y,⟨rfl,rfl,rfl,x4m _,by omega,fun b l _=>q b l⟩,fun b U D=>.inr ?_,fun b l=>.inl l,fun _ _ _=>rfl⟩;have m:(if b=w.heap.size then some vs else σ b)≠none:=D;split at m
 .omega
 .exact absurd U m
def Ya(hT:TabOK P T){n:Nat}{parts:Array (Nat×Operand)}(v:o.op=.buildSlice t n parts)(h:opW P T N s o K)(z:Rel N σ β s a w):Mp P N σ β a w s o K:=by
 simp only[opW,v]at h;split at h
 .rename_i e _ _ _ L;split at h
  .rename_i k D;split at h
   .rename_i es out M c;obtain⟨⟨O,d⟩,h⟩:=h;have u:=hT _ _ D;have g:∀(j:Nat)(x:Nat×LV)(y:Nat×Value),(parts.toList.map fun x=>(x.1,QD s.sl x.2))[j]?=some x->(parts.toList.map fun x=>(x.1,a.eval x.2))[j]?=some y->RepL σ β x.2 y.2:=fun j x y p G=>by
     rw[x4q]at p G;cases J:parts.toList[j]?with
     |none=>rw[J]at p;cases p
     |some q=>rw[J]at p G;cases p;cases G;exact QX z.E _
    let zs:Array Value:=(Array.range (n*k.size)).map (k.zero.cells[· % k.zero.cells.size]!);obtain⟨cs,C,f⟩:=Wp (σ:=σ) (β:=β) (place:=fun i=>some (i*k.size,k.size)) (placeL:=fun i=>some (i*k.size,k.size)) (fun _ _ h=>h) _ (parts.toList.map fun x=>(x.1,a.eval x.2)) _ zs out (by simp) g (W6 (n*k.size) zs.toList (by simp[zs])) c;have r:(execOp a.eval o).run P w=.ok (.value (.slice (some ⟨w.heap.size,0,none⟩) n n)) (w.alloc (.cells cs e)):=by
     have l:Instr.fill (fun i=>some (i*k.size,k.size)) zs ((parts.map fun(i,x)=>(i,a.eval x)).toList)=some cs:=by
      rw[<-C];congr 1;simp
     by_cases A:n*k.size=0
     .have Q:zs=#[]:=by apply Array.eq_empty_of_size_eq_zero;simp[zs,A]
      have H:zs=(Array.range (n*k.size)).map ((#[]:Array Value)[· % (#[]:Array Value).size]!):=by rw[Q,A];simp[Array.range_zero']
      have:¬n*k.size>16777216:=by omega
      rw[H]at l;simp only[execOp,v,Instr.buildSlice,Sem.run_bind,run_underlying (hT.of L),Result.andThen_ok,u.sizeOf,Nat.reducePow,if_neg this,if_pos A,Sem.run_pure,l,newRow,run_newObj];rfl
     .have:¬n*k.size>16777216:=by omega
      simp only[execOp,v,Instr.buildSlice,Sem.run_bind,run_underlying (hT.of L),Result.andThen_ok,u.sizeOf,Nat.reducePow,if_neg this,if_neg A,u.zeroValue,Sem.run_pure,zs]at l⊢;simp only[l,Sem.run_bind,newRow,run_newObj,Result.andThen_ok,Sem.run_pure];rfl
    have b:n<=maxLen:=by
     have:n*1<=n*k.size:=Nat.mul_le_mul_left _ d;simp only[maxLen];omega
    rcases h with⟨p,F,m,B⟩|⟨p,F,m,B⟩
    .subst F;exact Eb e r z m (f.flat p) b B
    .subst F;have I:=f.flat p;exact Tm e r z m (by have:=I.len;simpa[m]using this) I b B
   .exact h.ok σ β a w z
  .exact h.ok σ β a w z
 .exact h.ok σ β a w z
def SZ(v:Value)(cs:List AV):AV.ofS v ≠ .agg cs:=by
 unfold AV.ofS;split<;>try (intro h;cases h;done)
 rename_i s;intro h;cases i:ble s.size maxLen<;>simp[i]at h
def SW(v:Value)(h:∀cs,v ≠ .agg cs)(cs:List AV):AV.ofV v ≠ .agg cs:=by
 unfold AV.ofV;split
 .exact absurd rfl (h _)
 .split<;>(intro h;cases h)
 .exact SZ _ _
def Oa(z:Value)(sz n:Nat)(m:z.cells.size=sz):RepE σ sz (List.replicate n (AV.ofV z)) (madeCells z.cells (n*sz)).toList:=by
 have p:(AV.ofV z).cells.length=sz/\∀(j:Nat)(c:AV),(AV.ofV z).cells[j]?=some c->∃u:Value,z.cells[j]?=some u/\Rep σ c u:=by
  have key:∀(b:AV),Rep σ b z->(∀cs,z ≠ .agg cs)->(∀cs,b ≠ .agg cs)->b.cells.length=sz/\∀(j:Nat)(c:AV),b.cells[j]?=some c->∃u:Value,z.cells[j]?=some u/\Rep σ c u:=fun b B A d=>by
   have x:z.cells=#[z]:=by cases z<;>first|rfl|exact absurd rfl (A _)
   have y:b.cells=[b]:=by cases b<;>first|rfl|exact absurd rfl (d _)
   rw[x]at m⊢;rw[y];refine⟨by simpa using m,fun j c k=>?_⟩;cases j with
   |zero=>simp at k;subst k;exact⟨z,rfl,B⟩
   |succ j=>simp at k
  cases z with
  | agg cs=>
    simp only[AV.ofV,AV.cells,Value.cells]at m⊢;refine⟨by simpa using m,fun j c k=>?_⟩;rw[x4q]at k;cases g:cs.toList[j]?with
    |none=>rw[g]at k;cases k
    |some u=>rw[g]at k;cases k;exact⟨u,by simpa using g,Rep.ofS σ u⟩
  |_=>exact key _ (Rep.ofV σ _) (fun cs h=>by cases h) fun cs h=>SW _ (fun cs h=>by cases h) cs h
 refine⟨by simp[madeCells],fun i e l=>?_,fun i e j c l k=>?_⟩
 .rw [x5v]at l;split at l
  .cases l;exact p.1
  .cases l
 .rw [x5v]at l;split at l
  .rename_i f;cases l;obtain⟨u,x,y⟩:=p.2 j c k;have q:j<sz:=by rw[<-m];exact(x4t.1 x).1
   refine⟨u,?_,y⟩;have r:=AQ f q;have v:(i*sz+j)%z.cells.size=j:=by
    rw[m,z0p,Nat.add_mul_mod_self_right];exact Nat.mod_eq_of_lt q
   simp only[madeCells,x7f,Array.getElem?_map];rw[x6o (by simpa using r)];simp only[Array.getElem_range,x7t,v];rw[z1z z.cells j (by omega)];have:=(x4t.1 x).2;rw[<-this]
  .cases l
def K3(hT:TabOK P T){l c:Operand}(r:o.op=.makeSlice t l c)(h:opW P T N s o K)(u:Rel N σ β s a w):Mp P N σ β a w s o K:=by
 simp only[opW,r]at h;split at h
 .rename_i e _ _ _ G l' F c' C A g;split at h<;>first|exact h.elim|skip
  rename_i m d;obtain⟨⟨rfl,D,_⟩,n,B,H,p,h⟩:=h;obtain⟨f,y,z,x,b⟩:=(hT _ _ d).getInfo;have j:=QX u.E l;rw[A]at j;have i:=QX u.E c;rw[g]at i;have j:=j.int;have i:=i.int;subst B;have v:((f.bytes:Nat):Int)*(n:Int)<=281474976710656:=by
   rw[x];have:((m.bytes*n:Nat):Int)<=140737488355328:=by omega
   rw[Int.natCast_mul]at this;omega
  have q:(n:Int)<=9223372036854775807:=by simp only[maxLen]at p;omega
  have k:=run_make (P:=P) w t e f m.zero (hT.of C) y b G F n n (by omega) (Int.le_refl _) v q;simp only[x5u,z]at k;refine Tm e (vs:=madeCells m.zero.cells (n*m.size)) ?_ u (by simp) (by simp[madeCells]) (Oa m.zero m.size n D) p h;simp[execOp,r,j,i,k]
 .exact h.ok σ β a w u
end
section
variable {P:Program}{T:Tab}{N:Nat}{σ:Mem}{β:Lab}{a:Act}{w:World}{o:Oper}{K:St->Prop}{s:St}
theorem RepE.oneAll{es:List AV}{vs:List Value}(h:RepE σ sz es vs)(i:0<sz)(v:∀x∈es,x.cells.all AV.one=true):∀u∈vs,u.oneCell'=true:=fun u b=>by
 obtain⟨p,r,rfl⟩:=x6u.1 b;have q:p<es.length*sz:=by rw[<-h.len];exact r
 have j:p/sz<es.length:=z0s (by rwa[z1x]);have z:=h.size (p/sz) es[p/sz] (by simp[j]);have m:p%sz<es[p/sz].cells.length:=by rw[z];exact Nat.mod_lt _ i
 obtain⟨u,l,y⟩:=h.rep (p/sz) es[p/sz] (p%sz) (es[p/sz].cells[p%sz]) (by simp[j]) (by simp[m]);rw[Nat.div_add_mod',x3e r]at l;cases l;exact y.oneCell (x6w.1 (v _ (x4h j)) _ (x4h m))
def Ts(V:Rel N σ β s a w){y:Operand}{C:List AV->Nat->Prop}(h:q2l s.sl s.H y C)(hpos:0<sz):
  ∃xs m,C xs m/\(m=xs.length->(∀x∈xs,x.cells.length=sz)->∃r,((a.eval y=.slice none 0 0/\r=[])\/∃ad c,a.eval y=.slice (some ad) xs.length c/\∀(j:Nat)(u:Value),r[j]?=some u->w.cell? (ad.add j)=some u)/\RepE σ sz xs r):=by
 unfold q2l at h;have q:=QX V.E y;split at h
 .rename_i xs B;rw[B]at q;refine⟨xs,_,h,fun _ I=>?_⟩;generalize G:a.eval y=v at q;cases q with
  | p q=>cases q with
    |nilsl=>exact⟨[],.inl ⟨rfl,rfl⟩,RepE.nil σ sz⟩
    |slz b=>exact⟨[],.inr ⟨b,0,rfl,by simp⟩,RepE.nil σ sz⟩
    | sl _ b off cap k cells u hb hcap D g hc Y=>
      obtain⟨e,fr,L⟩:=V.heap.mem b cells hb;by_cases A:xs=[]
      .subst A;exact⟨[],.inr ⟨⟨b,off,none⟩,cap,rfl,by simp⟩,RepE.nil σ sz⟩
      .have l:0<xs.length:=z0a.2 A;have f:k=sz:=by
        rw[<-g 0 xs[0] (by simp[l]),I xs[0] (x4h l)]
       subst f;have R:off+xs.length*k<=cells.size:=by
        have Q:xs.length-1<xs.length:=by omega
        have h2:=I xs[xs.length-1] (x4h Q);have:=hc (xs.length-1) xs[xs.length-1] (k-1) (xs[xs.length-1].cells[k-1]'(by omega)) (by simp) (by simp);have:=(x4t.1 this).1;have e1:xs.length*k=(xs.length-1)*k+k:=by
         have:xs.length=xs.length-1+1:=by omega
         rw[this,x6r,z1u];simp
        omega
       refine⟨(cells.toList.drop off).take (xs.length*k),.inr ⟨⟨b,off,none⟩,cap,rfl,fun j u n=>?_⟩,⟨by simp;omega,fun i e z=>g i e z,fun i e j c z n=>⟨u i j,?_,Y i e j c z n⟩⟩⟩
       .rw [x5s]at n;split at n
        .rw [JF];simp only[World.cell?,L];simpa using n
        .cases n
       .have h2:=hc i e j c z n;have M:i<xs.length:=(x4u.1 z).1;have O:j<k:=by rw[<-g i e z];exact(x4u.1 n).1
        rw[x5s,if_pos (AQ M O),x5o];simpa[x8j]using h2
 .rename_i B;rw[B]at q;refine⟨[],0,h,fun _ _=>⟨[],.inl ⟨?_,rfl⟩,RepE.nil σ sz⟩⟩;generalize G:a.eval y=v at q;cases q with
  |p q=>cases q;rfl
 .rename_i k2 m B;rw[B]at q;split at h<;>first|exact h.elim|skip
  rename_i e' Z xs hg;refine⟨xs,m,h,fun hm I=>?_⟩;subst hm;rcases WD.1 (V.heap.chunks k2 _ (QG hg))with⟨J,rfl⟩|⟨i,vs,z,hisz,L,hn,hle,D,hE⟩
  .refine ⟨[],.inl ⟨?_,rfl⟩,RepE.nil σ sz⟩;rcases q.hdI with⟨_,_,_,h⟩|⟨i,_,d,_⟩
   .exact h
   .rw [J]at d;cases d
  .rcases q.hdI with⟨d,_⟩|⟨i',oo,d,hl,F,G⟩
   .rw [z]at d;cases d
   .rw [z]at d;cases d;have U:oo=0:=by
     rcases F with F|F
     .simpa using F
     .omega
    subst U;by_cases A:xs=[]
    .subst A;exact⟨[],.inr ⟨⟨i.blk,0,none⟩,i.cap-0,G,by simp⟩,RepE.nil σ sz⟩
    .have l:0<xs.length:=z0a.2 A;have f:Z=sz:=by
      rw[<-hE.size 0 xs[0] (by simp[l]),I xs[0] (x4h l)]
     subst f;refine⟨_,.inr ⟨⟨i.blk,0,none⟩,i.cap-0,G,fun j u n=>?_⟩,hE⟩;rw[x5s]at n;split at n
     .rw [JF];simp only[World.cell?,L];simpa using n
     .cases n
 .exact h.elim
theorem NH:∀{sl:List (Nat×LV)}{k:Nat}{C:List (Nat×LV)->Prop},Y5 sl k C->∃m,C m/\∀i,(getS m i=getS sl i\/getS m i=.p .any)/\(getS m i).free k=true
 |[],_,_,h=>⟨[],h,fun _=>⟨.inl rfl,rfl⟩⟩
 | (j,l)::r,k,C,h=>by
   simp only[Y5,XB]at h;obtain⟨m,n,q⟩:=NH h;refine⟨_,n,fun i=>?_⟩;simp only[getS];cases u:j==i with
   | true=>
     refine⟨?_,LV.kill_free k l⟩;simp only[x4s,LV.kill];cases l.free k
     .exact .inr rfl
     .exact .inl rfl
   |false=>exact q i
theorem HY:∀{H:Heap}{k:Nat}{d:Chunk}{C:Heap->Prop},DK H k d C->
  ∃H',C H'/\H'.map (·.1)=H.map (·.1)/\(∀j c,(j,c)∈H'->j≠k->∃n,(j,n)∈H/\c=n.kill k)/\∀c,(k,c)∈H'->c=d
 |[],_,_,_,h=>⟨[],h,rfl,by simp,by simp⟩
 | (j,c)::r,k,d,C,h=>by
   simp only[DK]at h;by_cases z:j=k
   .subst z;simp only[x8k,x4s]at h;obtain⟨H',y,p,q,u⟩:=HY h;refine⟨_,y,by simp[p],fun i e l m=>?_,fun e l=>?_⟩
    .rcases x4v.1 l with l|l
     .cases l;exact absurd rfl m
     .obtain ⟨n,v,x⟩:=q i e l m;exact⟨n,x4x _ v,x⟩
    .rcases x4v.1 l with l|l
     .cases l;rfl
     .exact u e l
   .have b:(j==k)=false:=by simp[z]
    rw[b,x5q]at h;have key:DK r k d (fun r=>C ((j,c.kill k)::r)):=by
     cases c with
     |obj e cs=>simp only[VU]at h;exact h
     |own e sz es=>exact h
     |ext d=>exact h
    obtain⟨H',y,p,q,u⟩:=HY key;refine⟨_,y,by simp[p],fun i e l m=>?_,fun e l=>?_⟩
    .rcases x4v.1 l with l|l
     .cases l;exact⟨c,by simp,rfl⟩
     .obtain ⟨n,v,x⟩:=q i e l m;exact⟨n,x4x _ v,x⟩
    .rcases x4v.1 l with l|l
     .cases l;exact absurd rfl z
     .exact u e l
def Vt(u:Rel N σ β s a w){x y:Operand}(Y:o.op=.call {callee:=.builtin .append,args:=#[x,y],argTypes:=#[t,t]}){e:TypeId}{z:TyI}(ht:P.underlying t=some (.slice e))(U:TyOK P e z)(hz:z.zero.cells.size=z.size)(l:0<z.size){k n:Nat}{es:List AV}(hg:(k,Chunk.own e z.size es)∈s.H)(C:RepL σ β (.hd k 0 n) (a.eval x))(h:q2l s.sl s.H y fun xs m=>Hp N s o.dst k e z.size n es xs m z.bytes K):Mp P N σ β a w s o K:=by
 obtain⟨xs,m,⟨hn,hm,M,G,D,q⟩,B⟩:=Ts u h l;obtain⟨news,hy,hE⟩:=B hm fun x C=>(D x C).1;subst hn hm;obtain⟨Z,q⟩:=N1 q;have f:=hE.oneAll l fun x C=>(D x C).2;have r:k∈s.H.map (·.1):=x4y.2 ⟨_,hg,rfl⟩;obtain⟨v',w',i',A,d,R,O,hv'⟩:=S4 (P:=P) t o.type ht U hz (u.heap.chunks k _ hg) C hy hE f G M l (fun i hi b M=>(u.heap.apart k r i hi b M).2);obtain⟨F,q,hs1⟩:=NH q;obtain⟨H1,q,I,J,L⟩:=HY q;obtain⟨hh,hl⟩:=P6 u.heap Z r d R I (fun j c hj V=>by
  obtain⟨c0,v,rfl⟩:=J j c hj V;exact⟨Chunk.kill_free k c0,(u.heap.chunks j c0 v).kill k⟩) (fun c hc=>by rw[L c hc];exact O)
 have g:Rel N σ (β.set k i') ⟨F,H1⟩ a w':=⟨u.size,u.defers,fun i=>by
  obtain⟨v,h2⟩:=hs1 i;have:RepL σ β (getS F i) (a.tmps.getD i undef):=by
   rcases v with v|v
   .rw [v];exact u.E i
   .rw [v];exact .p (.any _)
  exact this.set i' h2,hh⟩
 obtain⟨sl,q,hr'⟩:=g.setD hv' q;intro Q;refine XT (w':=w') ?_ ⟨σ,_,_,q,hr',hl⟩;simp[execOp,Y,resolve,invoke,builtin,A]
def x2j{A:Type}{l:Array A}{x y:A}(h:l.toList=[x,y]):l=#[x,y]:=by
 apply ext';simpa using h
def Ll(hT:TabOK P T){args:Array Operand}{argTypes:Array TypeId}(D:o.op=.call {callee:=.builtin .append,args,argTypes})(h:opW P T N s o K)(r:Rel N σ β s a w):Mp P N σ β a w s o K:=by
 simp only[opW,D]at h;split at h
 .rename_i x y t t' ha F;have ha:=x2j ha;have F:=x2j F;subst ha F;split at h
  .rename_i e _ _ _ ht;split at h<;>first|exact h.elim|skip
   rename_i L R;obtain⟨⟨rfl,hz,A⟩,h⟩:=h;have J:=QX r.E x;split at h
   .rename_i k n O;rw[O]at J;split at h<;>first|exact h.elim|skip
    rename_i e' sz es hg;obtain⟨⟨rfl,rfl⟩,h⟩:=h;exact Vt r D (hT.of ht) (hT _ _ R) hz A (QG hg) J h
   .rename_i O;rw[O]at J;obtain⟨k,hk,h⟩:=YX h;obtain⟨I,hu2⟩:=XI hk;have C:k∉s.H.map (·.1):=K1 I;have hr2:Rel N σ (β.set k none) ⟨s.sl,(k,.own e L.size [])::s.H⟩ a w:=by
     refine⟨r.size,r.defers,fun i=>(r.E i).set _ (hu2 i),⟨r.heap.mem,fun j c l=>?_,by simp only[x4o,x6q];exact⟨C,r.heap.nodup⟩,fun j l i f=>?_,fun j l j' U i1 i2 B h2 O=>?_⟩⟩
     .rcases x4v.1 l with l|l
      .cases l;exact .inl ⟨by simp[Lab.set],rfl⟩
      .exact (r.heap.chunks j c l).set none (I j c l).1 (I j c l).2
     .simp only[x4o,x4v]at l;rcases l with rfl|l
      .simp [Lab.set]at f
      .have:j≠k:=fun e=>C (e▸l);simp[Lab.set,this]at f;exact r.heap.apart j l i f
     .simp only[x4o,x4v]at l U;have g:j≠k:=fun e=>by subst e;simp[Lab.set]at B
      have n2:j'≠k:=fun e=>by subst e;simp[Lab.set]at h2
      simp[Lab.set,g]at B;simp[Lab.set,n2]at h2;exact r.heap.inj j (l.resolve_left g) j' (U.resolve_left n2) i1 i2 B h2 O
    have u:∀b,owns (β.set k none) ((k,.own e L.size [])::s.H) b->owns β s.H b:=by
     rintro b ⟨j,l,i,f,d⟩;simp only[x4o,x4v]at l;have g:j≠k:=fun e=>by subst e;simp[Lab.set]at f
     simp[Lab.set,g]at f;exact⟨j,l.resolve_left g,i,f,d⟩
    have hown':∀b,owns β s.H b->owns (β.set k none) ((k,.own e L.size [])::s.H) b:=by
     rintro b ⟨j,l,i,f,d⟩;have g:j≠k:=fun e=>C (e▸l);exact⟨j,by simp only[x4o,x4v];exact .inr l,i,by simp[Lab.set,g,f],d⟩
    have V:∀j,1000<=j->(β.set k none) j=β j:=fun j M=>by
     have:=YR hk;have g:j≠k:=by omega
     simp[Lab.set,g]
    have hxv:RepL σ (β.set k none) (.hd k 0 0) (a.eval x):=by
     generalize hv:a.eval x=v at J;cases J with
     |p J=>cases J;exact .hdn k (by simp[Lab.set])
    have Z:q2l s.sl ((k,.own e L.size [])::s.H) y fun xs m=>Hp N ⟨s.sl,(k,.own e L.size [])::s.H⟩ o.dst k e L.size 0 [] xs m L.bytes K:=by
     unfold q2l at h⊢;generalize hy:QD s.sl y=ly at h;have q:=Kb hk y;rw[hy]at q;cases ly with
     |p c=>cases c<;>exact h
     | hd k2 o2 m=>
       cases o2 with
       | zero=>
         simp only[LV.free,x7w,x9c,ne_eq]at q;have d:(k==k2)=false:=by simp[x7d q]
         simp only[getH,d,x5q];exact h
       |succ o2=>exact h
     |_=>exact h
    have:=Vt hr2 D (hT.of ht) (hT _ _ R) hz A (by simp) hxv Z;intro Q;refine Oper.wp_mono (fun a' w' hk'=>?_) (this Q);obtain⟨σ',β',s',hK,Y,z⟩:=hk';refine⟨σ',β',s',hK,Y,z.le,⟨z.G.os,z.G.tape,z.G.output,z.G.drawn,z.G.size,fun b d hn=>z.G.block b d fun hb'=>hn (u b hb')⟩,fun b M B=>(z.mem b M B).imp (u b) id,fun b d=>(z.own b d).imp (u b) id,fun j M B=>(z.pin j M B).trans (V j M)⟩
   .exact h.ok σ β a w r
  .exact h.ok σ β a w r
 .exact h.ok σ β a w r
def Ed{f:Operand}{args:Array Operand}{argTypes:Array TypeId}(y:o.op=.call {callee:=.value f,args,argTypes})(h:opW P T N s o K)(A:Rel N σ β s a w):Mp P N σ β a w s o K:=by
 simp only[opW,y]at h;split at h
 .rename_i g q B;rw[VU]at h;have r:=QX A.E f;rw[B]at r;generalize R:a.eval f=v at r;cases r with
  | p r=>cases r with
    | fn _ _ H u O L G=>
      let i:Array Value:=args.map a.eval++H;obtain⟨D,m⟩:=h.ok σ β a w A i (by simp[i,O]) (fun j l k=>by
       rw[x7e]at k;split at k
       .rename_i F;have n:j<args.size:=by simpa using F
        rw[x4q]at k;simp only[x7f]at k;rw[x6o n]at k;simp only[x7t,x7c]at k;subst k;have:i.getD j undef=a.eval args[j]:=by
         simp[i,z0k,n]
        rw[this];exact QX A.E _
       .rename_i C;have x:args.size<=j:=by simpa using C
        rw[x4q]at k;cases z:q[j-(args.toList.map (QD s.sl)).length]?with
        |none=>rw[z]at k;cases k
        | some c=>
          rw[z]at k;cases k;simp only[x3a,x6g]at z;have I:=L _ _ z;have:i.getD j undef=u (j-args.size):=by
           simp[i,z0k,Nat.not_lt.2 x,I]
          rw[this];exact .p (G _ _ z))
      intro Q;have d:(execOp a.eval o).run P w=.ok (.enter g i) w:=by
       simp only[execOp,y,resolve,Sem.run_bind,R,Deferred.ofValue,Sem.run_pure,Result.andThen_ok,invoke];simp only[Array.empty_append];exact D w
      unfold Oper.wp;rw[d,Oper.upon_enter];refine m.mono fun e w' B=>?_;obtain⟨U,σ',β',s',rfl,J,b,M⟩:=B;exact⟨σ',β',s',J,b,M⟩
 .exact h.ok σ β a w A
def Yy(hT:TabOK P T)(h:opW P T N s o K)(j:Rel N σ β s a w):Mp P N σ β a w s o K:=by
 have gen:OpK P N s o K->Mp P N σ β a w s o K:=fun h=>h.ok σ β a w j;cases i:o.op with
 |alloc e=>exact SF hT i h j
 |box e x=>exact q0p i h j
 |store t x v=>exact SD hT i h j
 |buildSlice t n k=>exact Ya hT i h j
 |makeSlice t l c=>exact K3 hT i h j
 | call c=>
   obtain⟨callee,args,argTypes⟩:=c;cases callee with
   | builtin b=>
     cases b with
     |append=>exact Ll hT i h j
     |_=>simp only[opW,i]at h;exact gen h
   |value f=>exact Ed i h j
   |_=>simp only[opW,i]at h;exact gen h
 |_=>simp only[opW,i]at h;exact gen h
end
def LV.fz(k:Nat)(cs:List AV):LV->LV
 |.p a=>.p a
 |.ptr j off=>bif j==k then .p (.ip (cs.drop off))else .ptr j off
 |.hd j o n=>bif j==k then .p .any else .hd j o n
 |.agg ls=>bif LV.free.freeAll k ls then .agg ls else mkAgg (fzs k cs ls)
 |.tup ls=>bif LV.free.freeAll k ls then .tup ls else mkTup (fzs k cs ls)
 |.ext j d=>.ext j d
where fzs (k:Nat) (cs:List AV):List LV->List LV
 |[]=>[]
 |l::r=>LV.fz k cs l::fzs k cs r
theorem A8(k:Nat)(cs:List AV):∀ls:List LV,LV.fz.fzs k cs ls=ls.map (LV.fz k cs)
 |[]=>rfl
 |l::r=>by rw[LV.fz.fzs,A8 k cs r];rfl
theorem RepL.fz{σ τ:Mem}{β:Lab}{l:LV}{v:Value}(B:RepL σ β l v)(x:σ.le τ){k:Nat}{cs:List AV}{i:BInfo}(e:β k=some i)(A:∀off,Rep τ (.ip (cs.drop off)) (.pointer (some ⟨i.blk,off,none⟩))):RepL τ β (l.fz k cs) v:=by
 induction B with
 |p h=>exact .p (h.mono x)
 | ptr j off i' q=>
   unfold LV.fz;by_cases m:j=k
   .subst m;rw[e]at q;cases q;simp only[x8k,x4s];exact .p (A off)
   .have:(j==k)=false:=by simp[m]
    simp only[this,x5q];exact .ptr j off i' q
 | hdn j q=>
   unfold LV.fz;by_cases m:j=k
   .subst m;rw[e]at q;cases q
   .have:(j==k)=false:=by simp[m]
    simp only[this,x5q];exact .hdn j q
 | hd j off len i' o q f g=>
   unfold LV.fz;by_cases m:j=k
   .subst m;simp only[x8k,x4s];exact .p (.any _)
   .have:(j==k)=false:=by simp[m]
    simp only[this,x5q];exact .hd j off len i' o q f g
 | agg ls vs u b z y c=>
   unfold LV.fz;cases LV.free.freeAll k ls with
   |true=>exact(RepL.agg ls vs u b z y).mono x
   | false=>
     rw [x5q,A8];refine RepL.mkAgg u (by simpa using b) (fun j l m=>?_) fun j l m=>?_;all_goals
      rw[x4q]at m;cases r:ls[j]?with
      |none=>rw[r]at m;cases m
      | some l'=>
        rw[r]at m;cases m;first
         |exact z j l' r
         |exact c j l' r
 | tup ls vs u b z y c=>
   unfold LV.fz;cases LV.free.freeAll k ls with
   |true=>exact(RepL.tup ls vs u b z y).mono x
   | false=>
     rw [x5q,A8];refine RepL.mkTup u (by simpa using b) (fun j l m=>?_) fun j l m=>?_;all_goals
      rw[x4q]at m;cases r:ls[j]?with
      |none=>rw[r]at m;cases m
      | some l'=>
        rw[r]at m;cases m;first
         |exact z j l' r
         |exact c j l' r
 |ext j d i v h hd=>exact .ext j d i v h hd
theorem Rel.lay{N:Nat}{σ:Mem}{β:Lab}{s s':St}{a:Act}{w:World}(y:Rel N σ β s a w){k:Nat}{i:BInfo}(D:β k=some i)(I:k∈s.H.map (·.1)){cells:Array Value}{e:TypeId}{M:Nat×Nat}(U:w.heap[i.blk]?=some (.cells cells e M))(hsl:∀τ:Mem,σ.le τ->τ i.blk=some cells->∀j v,RepL σ β (getS s.sl j) v->RepL τ β (getS s'.sl j) v)(A:∀τ:Mem,σ.le τ->τ i.blk=some cells->∀j c',(j,c')∈s'.H->j≠k/\∃c,(j,c)∈s.H/\(c.holds σ β w j->c'.holds τ β w j))(hnd:(s'.H.map (·.1)).Nodup):
  ∃σ' β',Rel N σ' β' s' a w/\Later σ β s.H w σ' β' s'.H w:=by
 let τ:Mem:=fun b=>if b=i.blk then some cells else σ b;have O:=y.heap.apart k I i D i.blk i.has_blk;have x:σ.le τ:=fun b c r=>by
  show(if b=i.blk then some cells else σ b)=some c;by_cases l:b=i.blk
  .subst l;rw[O.1]at r;cases r
  .rw [if_neg l];exact r
 have J:τ i.blk=some cells:=if_pos rfl;have m:∀j∈s'.H.map (·.1),j≠k/\j∈s.H.map (·.1):=fun j u=>by
  obtain⟨⟨C,c'⟩,V,rfl⟩:=x4y.1 u;obtain⟨g,c,f,_⟩:=A τ x J C c' V;exact⟨g,x4y.2 ⟨_,f,rfl⟩⟩
 refine⟨τ,β,⟨y.size,y.defers,fun j=>hsl τ x J j _ (y.E j),⟨fun b c r=>?_,fun j c' u=>?_,hnd,fun j u L B b r=>?_,fun j u C F=>y.heap.inj j (m j u).2 C (m C F).2⟩⟩,x,Frm.refl _ _,fun b r q=>.inl ?_,fun b ⟨j,u,G⟩=>.inl ⟨j,(m j u).2,G⟩,fun _ _ _=>rfl⟩
 .have q:(if b=i.blk then some cells else σ b)=some c:=r;by_cases l:b=i.blk
  .subst l;rw[if_pos rfl]at q;cases q;exact⟨_,_,U⟩
  .rw [if_neg l]at q;exact y.heap.mem b c q
 .obtain ⟨_,c,f,Q⟩:=A τ x J j c' u;exact Q (y.heap.chunks j c f)
 .have g:=m j u;have f:=y.heap.apart j g.2 L B b r;refine⟨?_,f.2⟩;show(if b=i.blk then some cells else σ b)=none;rw[if_neg fun R=>g.1 (y.heap.inj j g.2 k I L i B D b r (.inl R.symm))];exact f.1
 .have z:(if b=i.blk then some cells else σ b)≠none:=q;by_cases l:b=i.blk
  .exact ⟨k,I,i,D,.inl l.symm⟩
  .rw [if_neg l]at z;exact absurd r z
def q7y(k:Nat)(cs:List AV):List (Nat×LV)->(List (Nat×LV)->Prop)->Prop
 |[],K=>K []
 |(j,l)::r,K=>JB (l.fz k cs) fun l=>q7y k cs r fun r=>K ((j,l)::r)
def q1i(k:Nat)(cs:List AV):Heap->(Heap->Prop)->Prop
 |[],K=>K []
 | (j,c)::r,K=>bif j==k then q1i k cs r K else
   match c with
   |.obj e ls=>FI (ls.map (LV.fz k cs)) fun ls=>q1i k cs r fun r=>K ((j,.obj e ls)::r)
   |.own e sz es=>q1i k cs r fun r=>K ((j,.own e sz es)::r)
   |.ext x=>q1i k cs r fun r=>K ((j,.ext x)::r)
theorem Bc{k:Nat}{cs:List AV}:∀{sl:List (Nat×LV)}{K:List (Nat×LV)->Prop},q7y k cs sl K->∃m,K m/\∀i,getS m i=(getS sl i).fz k cs
 |[],_,h=>⟨[],h,fun _=>rfl⟩
 | (j,l)::r,K,h=>by
   simp only[q7y,XB]at h;obtain⟨m,n,p⟩:=Bc h;refine⟨_,n,fun i=>?_⟩;simp only[getS];cases j==i
   .exact p i
   .rfl
theorem FO{k:Nat}{cs:List AV}:∀{H:Heap}{K:Heap->Prop},q1i k cs H K->∃H',K H'/\(H'.map (·.1)).Sublist (H.map (·.1))/\∀j c',(j,c')∈H'->j≠k/\∃c,(j,c)∈H/\c'=match c with
   |.obj e ls=>.obj e (ls.map (LV.fz k cs))
   |.own e sz es=>.own e sz es
   |.ext x=>.ext x
 |[],_,h=>⟨[],h,z0v _,by simp⟩
 | (j,c)::r,K,h=>by
   simp only[q1i]at h;by_cases b:j=k
   .subst b;simp only[x8k,x4s]at h;obtain⟨H',v,m,n⟩:=FO h;exact⟨H',v,m.cons _,fun y c' i=>let ⟨p,l,q,u⟩:=n y c' i;⟨p,l,x4x _ q,u⟩⟩
   .have d:(j==k)=false:=by simp[b]
    simp only[d,x5q]at h;cases c with
    | obj e ls=>
      simp only[VU]at h;obtain⟨H',v,m,n⟩:=FO h;refine⟨_,v,m.cons_cons _,fun y c' i=>?_⟩;rcases x4v.1 i with z|i
      .cases z;exact⟨b,_,x4z,rfl⟩
      .obtain ⟨p,l,q,u⟩:=n y c' i;exact⟨p,l,x4x _ q,u⟩
    | own e sz es=>
      simp only at h;obtain⟨H',v,m,n⟩:=FO h;refine⟨_,v,m.cons_cons _,fun y c' i=>?_⟩;rcases x4v.1 i with z|i
      .cases z;exact⟨b,_,x4z,rfl⟩
      .obtain ⟨p,l,q,u⟩:=n y c' i;exact⟨p,l,x4x _ q,u⟩
    | ext x=>
      simp only at h;obtain⟨H',v,m,n⟩:=FO h;refine⟨_,v,m.cons_cons _,fun y c' i=>?_⟩;rcases x4v.1 i with z|i
      .cases z;exact⟨b,_,x4z,rfl⟩
      .obtain ⟨p,l,q,u⟩:=n y c' i;exact⟨p,l,x4x _ q,u⟩
theorem Le.fz{N:Nat}{s:St}{k:Nat}{e:TypeId}{cs:List AV}(J:getH s.H k=some (.obj e (cs.map .p))){K:St->Prop}(h:q7y k cs s.sl fun sl=>q1i k cs s.H fun H=>K ⟨sl,H⟩):∃s',K s'/\Le N s s':=by
 obtain⟨sl,h,hsl⟩:=Bc h;obtain⟨H,h,f,hH⟩:=FO h;refine⟨_,h,fun σ β a w G=>?_⟩;obtain⟨i,vs,C,R,V,Q⟩:=G.heap.chunks k _ (QG J);have L:∀τ:Mem,σ.le τ->τ i.blk=some vs->∀off,Rep τ (.ip (cs.drop off)) (.pointer (some ⟨i.blk,off,none⟩)):=fun τ m g off=>by
  have y:∀(j:Nat)(c:AV),cs[j]?=some c->∃u:Value,vs[j]?=some u/\Rep τ c u:=fun j c q=>by
   obtain⟨u,z,b⟩:=Q j (.p c) (by simp[q]);cases b with
   |p b=>exact⟨u,z,b.mono m⟩
  refine .ip _ i.blk off vs (fun j=>(vs[off+j]?).getD undef) g (fun j c q=>?_) fun j c q=>?_
  .obtain ⟨u,z,_⟩:=y (off+j) c (by simpa using q);simp[z]
  .obtain ⟨u,z,b⟩:=y (off+j) c (by simpa using q);simpa[z]using b
 refine G.lay C (QP J) R (fun τ m g j v U=>?_) (fun τ m g j c' q=>?_) (f.nodup G.heap.nodup)
 .show RepL τ β (getS sl j) v;rw[hsl];exact U.fz m C (L τ m g)
 .obtain ⟨z,c,b,rfl⟩:=hH j c' q;refine⟨z,c,b,fun r=>?_⟩;cases c with
  |own e sz es=>exact r.mono m fun _ _ _ _=>rfl
  |ext x=>exact r.mono m fun _ _ _ _=>rfl
  | obj e ls=>
    obtain⟨i',I,D,B,E,A⟩:=r;refine⟨i',I,D,B,by simpa using E,fun j l q=>?_⟩;rw[x4q]at q;cases F:ls[j]?with
    |none=>rw[F]at q;cases q
    | some l'=>
      rw[F]at q;cases q;obtain⟨u,M,O⟩:=A j l' F;exact⟨u,M,O.fz m C (L τ m g)⟩
inductive LenK(n:Nat)(es:List AV)(K:Prop):Prop
 |mk (hn:n=es.length) (hK:K)
def rowSK(k:Nat)(es:List AV)(zs:List Nat):List (Nat×LV)->(List (Nat×LV)->Prop)->Prop
 |[],K=>K []
 | (j,l)::r,K=>match l with
   | .hd k' o n=>bif k'==k then
      bif (bif beq o 0 then memN' j zs else false)then LenK n es (rowSK k es zs r fun r=>K ((j,.p (.sl es))::r))else rowSK k es zs r fun r=>K ((j,.p .any)::r)
     else rowSK k es zs r fun r=>K ((j,.hd k' o n)::r)
   |l=>JB (l.kill k) fun l=>rowSK k es zs r fun r=>K ((j,l)::r)
where memN' (i:Nat):List Nat->Bool
 |[]=>false
 |j::r=>bif beq j i then true else memN' i r
def Q8(k:Nat):Heap->(Heap->Prop)->Prop
 |[],K=>K []
 | (j,c)::r,K=>bif j==k then Q8 k r K else
   match c with
   |.obj e ls=>FI (ls.map (LV.kill k)) fun ls=>Q8 k r fun r=>K ((j,.obj e ls)::r)
   |.own e sz es=>Q8 k r fun r=>K ((j,.own e sz es)::r)
   |.ext x=>Q8 k r fun r=>K ((j,.ext x)::r)
theorem Gj{k:Nat}{es:List AV}{zs:List Nat}:∀{sl:List (Nat×LV)}{K:List (Nat×LV)->Prop},rowSK k es zs sl K->∃m,K m/\∀i,getS m i=(getS sl i).kill k\/(getS sl i=.hd k 0 es.length/\getS m i=.p (.sl es))
 |[],_,h=>⟨[],h,fun _=>.inl rfl⟩
 | (j,l)::r,K,h=>by
   have key:∀l',(l'=l.kill k\/(l=.hd k 0 es.length/\l'=.p (.sl es)))->(rowSK k es zs r fun r=>K ((j,l')::r))->∃m,K m/\∀i,getS m i=(getS ((j,l)::r) i).kill k\/(getS ((j,l)::r) i=.hd k 0 es.length/\getS m i=.p (.sl es)):=fun l' u h=>by
    obtain⟨m,y,c⟩:=Gj h;refine⟨_,y,fun i=>?_⟩;simp only[getS];cases j==i
    .exact c i
    .exact u
   unfold rowSK at h;split at h
   .rename_i x o n;by_cases v:x=k
    .subst v;simp only[x8k,x4s]at h;cases q:(bif beq o 0 then rowSK.memN' j zs else false)with
     | false=>
       rw[q,x5q]at h;exact key _ (.inl (by simp[LV.kill,LV.free])) h
     | true=>
       rw[q,x4s]at h;obtain⟨z,h⟩:=h;have b:o=0:=by
        cases o with
        |zero=>rfl
        |succ o=>cases q
       subst b z;exact key _ (.inr ⟨rfl,rfl⟩) h
    .have q:(x==k)=false:=by simp[v]
     simp only[q,x5q]at h;exact key _ (.inl (by simp[LV.kill,LV.free,q])) h
   .rw [XB]at h;exact key _ (.inl rfl) h
theorem Xl{k:Nat}:∀{H:Heap}{K:Heap->Prop},Q8 k H K->∃H',K H'/\(H'.map (·.1)).Sublist (H.map (·.1))/\∀j c',(j,c')∈H'->j≠k/\∃c,(j,c)∈H/\c'=c.kill k
 |[],_,h=>⟨[],h,z0v _,by simp⟩
 | (j,c)::r,K,h=>by
   simp only[Q8]at h;by_cases z:j=k
   .subst z;simp only[x8k,x4s]at h;obtain⟨H',y,n,p⟩:=Xl h;exact⟨H',y,n.cons _,fun i c' m=>let ⟨q,l,u,v⟩:=p i c' m;⟨q,l,x4x _ u,v⟩⟩
   .have b:(j==k)=false:=by simp[z]
    simp only[b,x5q]at h;have key:(Q8 k r fun r=>K ((j,c.kill k)::r))->∃H',K H'/\(H'.map (·.1)).Sublist (((j,c)::r).map (·.1))/\∀i c',(i,c')∈H'->i≠k/\∃l,(i,l)∈(j,c)::r/\c'=l.kill k:=fun h=>by
     obtain⟨H',y,n,p⟩:=Xl h;refine⟨_,y,n.cons_cons _,fun i c' m=>?_⟩;rcases x4v.1 m with d|m
     .cases d;exact⟨z,_,x4z,rfl⟩
     .obtain ⟨q,l,u,v⟩:=p i c' m;exact⟨q,l,x4x _ u,v⟩
    cases c with
    |obj e ls=>simp only[VU]at h;exact key h
    |own e sz es=>exact key h
    |ext x=>exact key h
theorem Le.row{N:Nat}{s:St}{k:Nat}{e:TypeId}{sz:Nat}{es:List AV}{zs:List Nat}(R:getH s.H k=some (.own e sz es)){K:St->Prop}(h:rowSK k es zs s.sl fun sl=>Q8 k s.H fun H=>K ⟨sl,H⟩):∃s',K s'/\Le N s s':=by
 obtain⟨sl,h,hsl⟩:=Gj h;obtain⟨H,h,l,hH⟩:=Xl h;refine⟨_,h,fun σ β a w z=>?_⟩;rcases WD.1 (z.heap.chunks k _ (QG R))with⟨J,rfl⟩|⟨i,vs,L,U,hh,hn,V,Y,Q⟩
 .refine ⟨σ,β,⟨z.size,z.defers,fun j=>?_,⟨z.heap.mem,fun j c' q=>?_,l.nodup z.heap.nodup,fun j q=>z.heap.apart j (l.subset q),fun j q j' M=>z.heap.inj j (l.subset q) j' (l.subset M)⟩⟩,Mem.le_refl σ,Frm.refl _ _,fun _ h0 y=>absurd h0 y,fun b ⟨j,q,r⟩=>.inl ⟨j,l.subset q,r⟩,fun _ _ _=>rfl⟩
  .show RepL σ β (getS sl j) _;have B:=z.E j;rcases hsl j with D|⟨y,f⟩
   .rw [D];exact B.kill k
   .rw [f];rw[y]at B;rcases B.hdI with⟨_,_,_,D⟩|⟨i,_,A,_⟩
    .rw [D];exact .p .nilsl
    .rw [J]at A;cases A
  .obtain ⟨_,c,f,rfl⟩:=hH j c' q;exact(z.heap.chunks j c f).kill k
 .refine z.lay L (QP R) hh (fun τ g hτ j v B=>?_) (fun τ g hτ j c' q=>?_) (l.nodup z.heap.nodup)
  .show RepL τ β (getS sl j) v;rcases hsl j with D|⟨y,f⟩
   .rw [D];exact(B.kill k).mono g
   .rw [f];rw[y]at B;rcases B.hdI with⟨A,_⟩|⟨i',oo,A,hl,I,rfl⟩
    .rw [L]at A;cases A
    .rw [L]at A;cases A;have O:oo=0:=by
      rcases I with I|I
      .simpa using I
      .omega
     subst O;obtain⟨u,Z⟩ : ∃u:Nat->Nat->Value,∀(m:Nat)(x:AV)(j:Nat)(c:AV),es[m]?=some x->x.cells[j]?=some c->vs[m*sz+j]?=some (u m j)/\Rep σ c (u m j):=by
      refine⟨fun m j=>(vs[m*sz+j]?).getD undef,fun m x j c G q=>?_⟩;obtain⟨v,y,f⟩:=Q.rep m x j c G q;rw[x5s]at y;split at y
      .have C:vs[m*sz+j]?=some v:=by simpa using y
       exact⟨by simp[C],by simpa[C]using f⟩
      .cases y
     exact .p (.sl es i.blk 0 _ sz vs u hτ (by omega) (by omega) Q.size (fun m x j c G q=>by simpa using(Z m x j c G q).1) fun m x j c G q=>(Z m x j c G q).2.mono g)
  .obtain ⟨y,c,f,rfl⟩:=hH j c' q;exact⟨y,c,f,fun F=>(F.kill k).mono g fun _ _ _ _=>rfl⟩
def q9f(zs:List Nat)(s:St)(K:St->Prop):Prop:=
 match zs with
 |[]=>K s
 | t::r=>match getS s.sl t with
   | .ptr k _=>match getH s.H k with
     | some (.obj _ ls)=>match Bq ls with
       |some cs=>q7y k cs s.sl fun sl=>q1i k cs s.H fun H=>K ⟨sl,H⟩
       |none=>K s
     |_=>K s
   | .hd k _ _=>match getH s.H k with
     |some (.own _ _ es)=>rowSK k es (t::r) s.sl fun sl=>Q8 k s.H fun H=>K ⟨sl,H⟩
     |_=>K s
   |_=>K s
def q8t:List (List Nat)->St->(St->Prop)->Prop
 |[],s,K=>K s
 |g::r,s,K=>q9f g s fun s=>q8t r s K
def A6{N:Nat}{zs:List Nat}{s:St}{K:St->Prop}(h:q9f zs s K):∃s',K s'/\Le N s s':=by
 unfold q9f at h;split at h
 .exact ⟨s,h,Le.refl s⟩
 .split at h
  .split at h
   .rename_i i;split at h
    .rename_i cs j;rw[GY j]at i;exact Le.fz i h
    .exact ⟨s,h,Le.refl s⟩
   .exact ⟨s,h,Le.refl s⟩
  .split at h
   .rename_i i;exact Le.row i h
   .exact ⟨s,h,Le.refl s⟩
  .exact ⟨s,h,Le.refl s⟩
theorem Uy{N:Nat}:∀{gs:List (List Nat)}{s:St}{K:St->Prop},q8t gs s K->∃s',K s'/\Le N s s'
 |[],s,_,h=>⟨s,h,Le.refl s⟩
 | g::r,s,K,h=>by
   obtain⟨n,k,i⟩:=A6 (N:=N) h;obtain⟨m,l,j⟩:=Uy (N:=N) k;exact⟨m,l,i.trans j⟩
def JX(i:Nat):List Nat->Bool
 |[]=>false
 |j::r=>bif j==i then true else JX i r
def Of:List Nat->List (Nat×LV)->(List (Nat×LV)->Prop)->Prop
 |_,[],K=>K []
 |ks,(i,v)::r,K=>Of ks r fun r=>bif JX i ks then K ((i,v)::r)else K r
theorem G1:∀{ks:List Nat}{sl:List (Nat×LV)}{K:List (Nat×LV)->Prop},Of ks sl K->∃k,K k/\∀i,(JX i ks=true->getS k i=getS sl i)/\(JX i ks=false->getS k i=.p .any)
 |_,[],_,h=>⟨[],h,fun _=>⟨fun _=>rfl,fun _=>rfl⟩⟩
 | ks,(j,v)::r,K,h=>by
   simp only[Of]at h;obtain⟨k,l,q⟩:=G1 h;cases m:JX j ks with
   | true=>
     rw[m,x4s]at l;refine⟨_,l,fun i=>?_⟩;simp only[getS];by_cases u:j=i
     .subst u;simp[m]
     .have:(j==i)=false:=by simp[u]
      simp only[this,x5q];exact q i
   | false=>
     rw[m,x5q]at l;refine⟨_,l,fun i=>⟨fun n=>?_,(q i).2⟩⟩;simp only[getS];have:(j==i)=false:=by
      simp only[x9c,ne_eq];rintro rfl;rw[m]at n;cases n
     simp only[this,x5q];exact(q i).1 n
def labs:LV->List Nat
 |.ptr k _ |.hd k _ _=>[k]
 |.agg vs |.tup vs=>labsAll vs
 |.p _=>[]
 |.ext k _=>[k]
where labsAll:List LV->List Nat
 |[]=>[]
 |v::r=>labs v++labsAll r
def q9l:Chunk->List Nat
 |.obj _ cs=>labs.labsAll cs
 |.own _ _ _=>[]
 |.ext _=>[]
def Om:Heap->List Nat->List Nat
 |[],zs=>zs
 |(k,c)::r,zs=>bif JX k zs then q9l c++Om r zs else Om r zs
def gcK:Heap->List Nat->(Heap->Prop)->Prop
 |[],_,K=>K []
 |(k,c)::r,zs,K=>gcK r zs fun r=>bif (bif ble 1000 k then true else JX k zs)then K ((k,c)::r)else K r
theorem RV:∀{H:Heap}{zs:List Nat}{K:Heap->Prop},gcK H zs K->∃H',K H'/\H'.Sublist H
 |[],_,_,h=>⟨[],h,z0v _⟩
 | (k,c)::r,zs,K,h=>by
   simp only[gcK]at h;obtain⟨H',i,l⟩:=RV h;cases j:(bif ble 1000 k then true else JX k zs)with
   |true=>rw[j,x4s]at i;exact⟨_,i,l.cons_cons _⟩
   |false=>rw[j,x5q]at i;exact⟨_,i,l.cons _⟩
def Ks:List Nat->(List Nat->Prop)->Prop
 |[],K=>K []
 |n::r,K=>Ks r fun r=>bif JX n r then K r else K (n::r)
theorem HW:∀{l:List Nat}{K:List Nat->Prop},Ks l K->∃l',K l'
 |[],_,h=>⟨[],h⟩
 | n::r,K,h=>by
   simp only[Ks]at h;obtain⟨l',i⟩:=HW h;cases j:JX n l' with
   |true=>rw[j,x4s]at i;exact⟨_,i⟩
   |false=>rw[j,x5q]at i;exact⟨_,i⟩
def Kj(ks:List Nat)(s:St)(K:St->Prop):Prop:=
 Of ks s.sl fun sl=>Ks (labs.labsAll (sl.map (·.2))) fun h=>Ks (Om s.H h) fun i=>Ks (Om s.H i) fun j=>gcK s.H j fun H=>K ⟨sl,H⟩
def Ms{N:Nat}{ks:List Nat}{s:St}{K:St->Prop}(h:Kj ks s K):∃s',K s'/\Le N s s':=by
 obtain⟨sl,h,k⟩:=G1 h;obtain⟨_,h⟩:=HW h;obtain⟨_,h⟩:=HW h;obtain⟨_,h⟩:=HW h;obtain⟨H,h,hH⟩:=RV h;refine⟨_,h,Cj (fun i=>?_) hH⟩;cases j:JX i ks with
 |true=>exact .inl ((k i).1 j)
 |false=>exact .inr ((k i).2 j)
def q6c(ops:Array Oper)(j:Nat):Option Nat:=
 match ops[j]?with
 |some o=>o.dst
 |none=>none
def DU(ops:Array Oper)(s:St)(o:Oper)(h skip:St->Prop):Prop:=
 match o.guard with
 |none=>h s
 | some (j,b)=>match q6c ops j with
   |none=>False
   | some d=>match getS s.sl d with
     | .p .tt=>match b with
       |true=>h s
       |false=>skip s
     | .p .ff=>match b with
       |true=>skip s
       |false=>h s
     |.p .und=>skip s
     |.p (.bool t)=>Br t (q4i s.sl d (.p .tt) fun sl=>match b with
        |true=>h ⟨sl,s.H⟩
        |false=>skip ⟨sl,s.H⟩) (q4i s.sl d (.p .ff) fun sl=>match b with
        |true=>skip ⟨sl,s.H⟩
        |false=>h ⟨sl,s.H⟩)
     |_=>False
def Qg(P:Program)(T:Tab)(N:Nat)(h:Bool)(s:St)(o:Oper)(K:St->Prop):Prop:=
 bif isV o.op then HL P T h s o fun v=>JB v fun v=>setD N s.sl o.dst v fun sl=>K ⟨sl,s.H⟩else opW P T N s o K
def D3(N:Nat)(s:St)(o:Oper)(K:St->Prop):Prop:=setD N s.sl o.dst (.p .und) fun sl=>K ⟨sl,s.H⟩
def ZK(s:St)(K:St->Prop):Prop:=match s with
 |⟨sl,[]⟩=>K ⟨sl,[]⟩
 |⟨sl,c::r⟩=>K ⟨sl,c::r⟩
def VA(s:St)(K:St->Prop):ZK s K=K s:=by
 obtain⟨sl,H⟩:=s;cases H<;>rfl
def run(P:Program)(T:Tab)(N:Nat)(ops:Array Oper):List Oper->St->(St->Prop)->Prop
 |[],s,K=>K s
 |o::r,s,K=>DU ops s o (fun s=>Qg P T N true s o fun s=>ZK s fun s=>run P T N ops r s K) fun s=>D3 N s o fun s=>ZK s fun s=>run P T N ops r s K
section
variable {P:Program}{T:Tab}{N:Nat}{σ:Mem}{β:Lab}{a:Act}{w:World}{o:Oper}{K:St->Prop}{s:St}{ops:Array Oper}
theorem Rel.lit(m:Rel N σ β s a w){d:Nat}{t:Bool}(q:getS s.sl d=.p (.bool t)){l:LV}(u:l=.p (if t then .tt else .ff)):Rel N σ β ⟨M6 s.sl d l,s.H⟩ a w:=by
 subst u;refine⟨m.size,m.defers,fun i=>?_,m.heap⟩;have j:=m.E i;show RepL σ β (getS (M6 s.sl d _) i) _;rw[F6];split
 .rename_i r;subst r;rw[q]at j;generalize a.tmps.getD d undef=v at j⊢;cases j with
  | p j=>
    cases j with
    | bool=>
      cases t
      .exact .p .ff
      .exact .p .tt
 .exact j
def HV{c skip:St->Prop}(h:DU ops s o c skip)(n:Rel N σ β s a w):
  ∃s',s'.H=s.H/\Rel N σ β s' a w/\((Region.wanted o (yielded ops a.tmps)=true/\c s')\/(Region.wanted o (yielded ops a.tmps)=false/\skip s')):=by
 unfold DU at h;split at h
 .rename_i x;exact⟨s,rfl,n,.inl ⟨by simp[Region.wanted,x],h⟩⟩
 .rename_i j b x;split at h
  .exact h.elim
  rename_i d u;have r:(ops[j]?).bind (·.dst)=some d:=by
   unfold q6c at u;split at u
   .rename_i f y;rw[y];exact u
   .cases u
  have i:∀t,a.tmps.getD d undef=.bool t->Region.wanted o (yielded ops a.tmps)=(t==b):=fun t z=>by
   have q:a.tmps[d]?=some (.bool t):=by
    by_cases q:d<a.tmps.size
    .simp [q]at z⊢;exact z
    .simp [q,undef]at z
   simp[Region.wanted,x,yielded,r,q]
  have k:=n.E d;split at h<;>first|exact h.elim|skip
  .rename_i m;rw[m]at k;have l:a.tmps.getD d undef=.bool true:=by
    generalize a.tmps.getD d undef=v at k;cases k with
    |p k=>cases k;rfl
   cases b
   .exact ⟨s,rfl,n,.inr ⟨i _ l,h⟩⟩
   .exact ⟨s,rfl,n,.inl ⟨i _ l,h⟩⟩
  .rename_i m;rw[m]at k;have l:a.tmps.getD d undef=.bool false:=by
    generalize a.tmps.getD d undef=v at k;cases k with
    |p k=>cases k;rfl
   cases b
   .exact ⟨s,rfl,n,.inl ⟨i _ l,h⟩⟩
   .exact ⟨s,rfl,n,.inr ⟨i _ l,h⟩⟩
  .rename_i m;rw[m]at k;have l:a.tmps.getD d undef=undef:=by
    generalize a.tmps.getD d undef=v at k;cases k with
    |p k=>cases k;rfl
   refine⟨s,rfl,n,.inr ⟨?_,h⟩⟩;have:yielded ops a.tmps j=none:=by
    unfold yielded;rw[r];simp only[Option.bind_some];cases e:a.tmps[d]?with
    |none=>rfl
    | some v=>
      have:v=undef:=by simpa[e]using l
      subst this;rfl
   simp[Region.wanted,x,this]
  .rename_i t m;rw[m]at k;have l:a.tmps.getD d undef=.bool t:=by
    generalize a.tmps.getD d undef=v at k;cases k with
    |p k=>cases k;rfl
   cases t with
   | true=>
     have h:=h.yes rfl;rw[Yf]at h;cases b
     .exact ⟨⟨M6 s.sl d (.p .tt),s.H⟩,rfl,n.lit m rfl,.inr ⟨i _ l,h⟩⟩
     .exact ⟨⟨M6 s.sl d (.p .tt),s.H⟩,rfl,n.lit m rfl,.inl ⟨i _ l,h⟩⟩
   | false=>
     have h:=h.no rfl;rw[Yf]at h;cases b
     .exact ⟨⟨M6 s.sl d (.p .ff),s.H⟩,rfl,n.lit m rfl,.inl ⟨i _ l,h⟩⟩
     .exact ⟨⟨M6 s.sl d (.p .ff),s.H⟩,rfl,n.lit m rfl,.inr ⟨i _ l,h⟩⟩
def J1(hT:TabOK P T)(h:Qg P T N true s o K)(i:Rel N σ β s a w):Mp P N σ β a w s o K:=by
 unfold Qg at h;cases n:isV o.op with
 | true=>
   rw[n,x4s]at h;obtain⟨v,u,l,j,k⟩:=PX hT h i.E i.heap;rw[XB]at l;intro Q;obtain⟨sl,l,m⟩:=i.setD j l;exact XT (k w i.heap.mem fun _=>Old.refl w) ⟨σ,β,_,l,m,Later.refl _ _ _ _⟩
 | false=>
   rw[n,x5q]at h;exact Yy hT h i
theorem Yn(hT:TabOK P T):∀(l:List Oper){s:St}{K:St->Prop}{σ:Mem}{β:Lab}{a:Act}{w:World}{Q:Exit->Act->World->Prop},run P T N ops l s K->Rel N σ β s a w->
  (∀z w' σ' β' s',K s'->Rel N σ' β' s' z w'->Later σ β s.H w σ' β' s'.H w'->Q .normal z w')->wpList P ops Q l a w
 |[],s,K,σ,β,a,w,Q,h,hr,hQ=>hQ a w σ β s h hr (Later.refl _ _ _ _)
 | o::r,s,K,σ,β,a,w,Q,h,hr,hQ=>by
   simp only[run,VA]at h;obtain⟨e,hH,x,y⟩:=HV h hr;unfold wpList;rcases y with⟨y,h⟩|⟨y,h⟩
   .rw [if_pos y];refine .inl (Oper.wp_mono (fun z w' d=>?_) (J1 hT h x Q));obtain⟨σ',β',s',b,n,c⟩:=d;rw[hH]at c;exact Yn hT r b n fun j v σ'' β'' q k i m=>hQ j v σ'' β'' q k i (c.trans m)
   .rw [if_neg (by rw[y];simp)];obtain⟨sl,b,n⟩:=x.setD (u:=undef) (.p .und) h;exact Yn hT r b n fun j v σ'' β'' q k i m=>hQ j v σ'' β'' q k i (hH▸m)
end
inductive Sched where
 |nil
 |cons (i:Nat) (strict:Bool) (r:Sched)
 |alo (i:Nat) (r:Sched)
 |fork (i:Nat) (a:Sched) (j:Nat) (b:Sched)
 |fork3 (i:Nat) (a:Sched) (j:Nat) (b:Sched) (k:Nat) (c:Sched)
structure Info where
 keep:Nat->List Nat
 sched:Nat->Sched
 frz:Nat->List (List Nat):=fun _=>[]
structure AWp(P:Program)(N:Nat)(c:Code)(K:Exit->St->Prop)(s:St):Prop where
 ok:∀(σ:Mem)(β:Lab)(a:Act)(w:World),Rel N σ β s a w->c.wp P (fun e a' w'=>∃σ' β' s',K e s'/\Rel N σ' β' s' a' w'/\Later σ β s.H w σ' β' s'.H w') a w
structure LoopK(P:Program)(T:Tab)(N:Nat)(info:Info)(c:Code)(K:Exit->St->Prop)(s:St):Prop where
 ok:AWp P N (.loop c) K s
structure DrawK(P:Program)(T:Tab)(N:Nat)(info:Info)(id:Nat)(ops:Array Oper)(K:St->Prop)(s:St):Prop where
 ok:AWp P N (.region id ops true) (fun e s'=>match e with |.normal=>K s'|_=>False) s
structure ScopeK(P:Program)(T:Tab)(N:Nat)(info:Info)(c:Code)(K:Exit->St->Prop)(s:St):Prop where
 ok:AWp P N (.scope c) K s
def Nn(h:Info)(id:Nat)(s:St)(K:St->Prop):Prop:=q8t (h.frz id) s fun s=>Kj (h.keep id) s fun s=>ZK s K
def Z1{N:Nat}{i:Info}{id:Nat}{s:St}{K:St->Prop}(h:Nn i id s K):∃s',K s'/\Le N s s':=by
 obtain⟨p,m,j⟩:=Uy (N:=N) h;obtain⟨n,l,k⟩:=Ms (N:=N) m;rw[VA]at l;exact⟨n,l,j.trans k⟩
def W(P:Program)(T:Tab)(N:Nat)(h:Info):Code->(Exit->St->Prop)->St->Prop
 |.skip,K,s=>K .normal s
 |.region id ops false,K,s=>run P T N ops ops.toList s fun s=>Nn h id s (K .normal)
 |.region id ops true,K,s=>DrawK P T N h id ops (fun s=>Nn h id s (K .normal)) s
 |.seq a b,K,s=>W P T N h a (fun e s=>match e with
    |.normal=>W P T N h b K s
    |e=>K e s) s
 | .cond c a b,K,s=>match QD s.sl c with
   |.p .tt=>W P T N h a K s
   |.p .ff=>W P T N h b K s
   |.p (.bool t)=>Br t (W P T N h a K s) (W P T N h b K s)
   |_=>False
 |.block id b,K,s=>W P T N h b (fun e s=>match e with
    |.exit i=>bif i==id then K .normal s else K (.exit i) s
    |e=>K e s) s
 |.loop b,K,s=>LoopK P T N h b K s
 |.exit id,K,s=>K (.exit id) s
 |.ret,K,s=>K .ret s
 |.label _,K,s=>K .normal s
 |.scope b,K,s=>ScopeK P T N h b K s
 |.goto l,K,s=>K (.goto l) s
 |_,_,_=>False
theorem Later.le'{N:Nat}{σ σ':Mem}{β β':Lab}{s s' i:St}{a:Act}{w w':World}(h:Later σ β s.H w σ' β' s'.H w')(j:Le N s' i)(q:Rel N σ' β' s' a w'):
  ∃σ'' β'',Rel N σ'' β'' i a w'/\Later σ β s.H w σ'' β'' i.H w':=by
 obtain⟨σ'',β'',l,m⟩:=j σ' β' a w' q;exact⟨σ'',β'',l,h.trans m⟩
theorem KL{P:Program}{T:Tab}{N:Nat}{A:Info}(hT:TabOK P T):∀(c:Code)(K:Exit->St->Prop)(s:St),W P T N A c K s->AWp P N c K s
 |.skip,K,s,h=>⟨fun σ β a w j=>wp_skip ⟨σ,β,s,h,j,Later.refl _ _ _ _⟩⟩
 |.label _,K,s,h=>⟨fun σ β a w j=>wp_label ⟨σ,β,s,h,j,Later.refl _ _ _ _⟩⟩
 |.exit id,K,s,h=>⟨fun σ β a w j=>wp_exit ⟨σ,β,s,h,j,Later.refl _ _ _ _⟩⟩
 |.ret,K,s,h=>⟨fun σ β a w j=>wp_ret ⟨σ,β,s,h,j,Later.refl _ _ _ _⟩⟩
 |.region id ops false,K,s,h=>⟨fun σ β a w j=>wp_region_list (Yn hT ops.toList h j fun B w' σ' β' s' n k u=>by
    obtain⟨r,q,z⟩:=Z1 (N:=N) n;obtain⟨σ'',β'',C,D⟩:=u.le' z k;exact⟨σ'',β'',r,q,C,D⟩)⟩
 |.region id ops true,K,s,h=>⟨fun σ β a w j=>wp_mono (h.ok.ok σ β a w j) fun e B w' ⟨σ',β',s',n,k,u⟩=>by
    cases e<;>first|exact n.elim|skip
    obtain⟨r,q,z⟩:=Z1 (N:=N) n;obtain⟨σ'',β'',C,D⟩:=u.le' z k;exact⟨σ'',β'',r,q,C,D⟩⟩
 |.seq x y,K,s,h=>⟨fun σ β a w j=>wp_seq (wp_mono ((KL hT x _ s h).ok σ β a w j) fun e B w' ⟨σ',β',s',n,k,u⟩=>by
    cases e with
    |normal=>exact wp_mono ((KL hT y K s' n).ok σ' β' B w' k) fun e I J ⟨σ'',β'',r,q,f,G⟩=>⟨σ'',β'',r,q,f,u.trans G⟩
    |_=>exact⟨σ',β',s',n,k,u⟩)⟩
 |.cond c x y,K,s,h=>⟨fun σ β a w j=>by
    simp only[W]at h;have m:=QX j.E c;split at h
    .rename_i d;rw[d]at m;generalize g:a.eval c=v at m;cases m with
     |p m=>cases m;exact wp_cond_true g ((KL hT x K s h).ok σ β a w j)
    .rename_i d;rw[d]at m;generalize g:a.eval c=v at m;cases m with
     |p m=>cases m;exact wp_cond_false g ((KL hT y K s h).ok σ β a w j)
    .rename_i t d;rw[d]at m;generalize g:a.eval c=v at m;cases m with
     | p m=>
       cases m;exact wp_cond_split g (fun H=>(KL hT x K s (h.yes H)).ok σ β a w j) fun H=>(KL hT y K s (h.no H)).ok σ β a w j
    .exact h.elim⟩
 |.block id b,K,s,h=>⟨fun σ β a w j=>wp_block (wp_mono ((KL hT b _ s h).ok σ β a w j) fun e B w' ⟨σ',β',s',n,k,u⟩=>by
    cases e with
    | exit i=>
      simp only[Exit.inBlock];by_cases F:i=id
      .subst F;rw[if_pos rfl];simp only[x8k,x4s]at n;exact⟨σ',β',s',n,k,u⟩
      .rw [if_neg F];have:(i==id)=false:=by simp[F]
       simp only[this,x5q]at n;exact⟨σ',β',s',n,k,u⟩
    |_=>exact⟨σ',β',s',n,k,u⟩)⟩
 |.loop b,K,s,h=>h.ok
 |.rangeFunc _ _ _ _,_,_,h=>h.elim
 |.scope _,_,_,h=>h.ok
 |.goto l,K,s,h=>⟨fun σ β a w j=>wp_goto ⟨σ,β,s,h,j,Later.refl _ _ _ _⟩⟩
 |.refuse _,_,_,h=>h.elim
theorem LoopK.inv{P:Program}{T:Tab}{N:Nat}{v:Info}(hT:TabOK P T){c:Code}{K:Exit->St->Prop}{s:St}{ι:Type}(I:ι->St)(φ:ι->Prop)(μ:ι->Nat)(Q:ι)(U:Le N s (I Q))(hφ:φ Q)(step:∀i,φ i->W P T N v c (fun e s'=>match e with |.normal=>∃j,φ j/\μ j<μ i/\Le N s' (I j) |e=>K e s') (I i)):LoopK P T N v c K s:=by
 refine⟨⟨fun σ β a w hr b k cs=>?_⟩⟩;have key:∀n i,φ i->μ i=n->∀σ' β' g w',Rel N σ' β' (I i) g w'->Later σ β s.H w σ' β' (I i).H w'->
   ∃e C f,(∃σ'' β'' s',K e s'/\Rel N σ'' β'' s' C f/\Later σ β s.H w σ'' β'' s'.H f)/\Arrives P (lone (b.at g (.code c :: .inLoop c::k)) cs w') b k cs e C f:=by
  intro n;induction n using Nat.strongRecOn with
  | _ n ih=>
    intro i V Z σ' β' g w' z E;obtain⟨e,A,B,⟨σ₁,β₁,D,u,r,J⟩,m⟩:=(KL hT c _ (I i) (step i V)).ok σ' β' g w' z b (.inLoop c::k) cs;have q:=E.trans J;cases e with
    | normal=>
      obtain⟨j,Y,G,F⟩:=u;obtain⟨σ₂,β₂,O,L⟩:=q.le' F r;obtain⟨e,R,w₃,M,y⟩:=ih (μ j) (Z▸G) j Y rfl σ₂ β₂ A B O L;exact⟨e,R,w₃,M,.of_steps (Steps.trans m (.one step_inLoop)) y⟩
    |exit id=>exact⟨_,A,B,⟨σ₁,β₁,D,u,r,q⟩,.pass (x:=.inLoop c) rfl (fun _ _=>.inl (by simp)) m⟩
    |goto l=>exact⟨_,A,B,⟨σ₁,β₁,D,u,r,q⟩,.pass (x:=.inLoop c) rfl (fun _ _=>.inl (by simp)) m⟩
    |ret=>exact⟨_,A,B,⟨σ₁,β₁,D,u,r,q⟩,.pass (x:=.inLoop c) rfl (fun _ _=>.inl (by simp)) m⟩
    |panic ch=>exact⟨_,A,B,⟨σ₁,β₁,D,u,r,q⟩,.pass (x:=.inLoop c) rfl (fun _ _=>.inl (by simp)) m⟩
    |outgrown=>exact⟨_,A,B,⟨σ₁,β₁,D,u,r,q⟩,.pass (x:=.inLoop c) rfl (fun _ _=>.inl (by simp)) m⟩
 obtain⟨σ',β',z,E⟩:=(Later.refl σ β s.H w).le' U hr;obtain⟨e,g,w',u,m⟩:=key _ Q hφ rfl σ' β' a w z E;exact⟨e,g,w',u,.of_steps (.one step_loop) m⟩
end Go.Ab
