/- What 'opW' asks suffices: slice literals, make, append, calls; the whole. Conditions: the table of types is the program's own. -/
import Derived.Tactics
import Derived.Scope
import Derived.Test.YtmfnbgbblkhneaaGreatRchL3
set_option linter.unusedSimpArgs false
set_option linter.unusedVariables false
set_option maxRecDepth 100000
set_option maxHeartbeats 16000000
open Array (ext')
open Nat (beq ble)
namespace Go.Ab
variable {sz:Nat}{t:TypeId}
section
variable {P:Program}{T:Tab}{N:Nat}{σ:Mem}{β:Lab}{a:Act}{w:World}{o:Oper}{K:St->Prop}{s:St}
theorem RW{sz:Nat}:∀{es:List AV},(∀e∈es,e.cells.length=sz)->∀(i:Nat)(e:AV)(j:Nat)(c:AV),es[i]?=some e->e.cells[j]?=some c->(es.flatMap AV.cells)[i*sz+j]?=some c
 |[],_,_,_,_,_,h,_=>by simp at h
 | x::r,hs,0,e,j,c,hi,hj=>by
   simp at hi;subst hi;have:j<x.cells.length:=(x2o.1 hj).1;simp only[x4n,Nat.zero_mul,x5m];rw[x4p this];exact hj
 | x::r,hs,i+1,e,j,c,hi,hj=>by
   have hx:=hs x (by simp);simp only[x4n];rw[x4u (by rw[hx,x5d];omega),hx];rw[show(i+1)*sz+j-sz=i*sz+j by rw[x5d];omega];exact RW (fun e he=>hs e (by simp[he])) i e j c (by simpa using hi) hj
theorem RV{sz:Nat}:∀{es:List AV},(∀e∈es,e.cells.length=sz)->(es.flatMap AV.cells).length=es.length*sz
 |[],_=>by simp
 | x::r,hs=>by
   simp only[x4n,x2s,x4q,x5d,hs x (by simp),RV (es:=r) fun e he=>hs e (by simp[he])];omega
theorem RepC.flat{es:List AV}(hs:∀e∈es,e.cells.length=sz){vs:List Value}(h:RepC σ β ((es.flatMap AV.cells).map .p) vs):RepE σ sz es vs:=by
 refine⟨by rw[h.1,x2m,RV hs],fun i e hi=>hs e (x3k hi),fun i e j c hi hj=>?_⟩;obtain⟨u,h1,h2⟩:=h.2 (i*sz+j) (.p c) (by simp[RW hs i e j c hi hj]);refine⟨u,h1,?_⟩;cases h2 with
 |p h=>exact h
theorem Wb(n:Nat)(vs:List Value)(h:vs.length=n):RepC σ β (List.replicate n (.p .any)) vs:=by
 refine⟨by simp[h],fun j l hj=>?_⟩;rw[x3o]at hj;split at hj
 ·rename_i hlt;cases hj;exact⟨vs[j]'(by omega),by simp[h,hlt],.p (.any _)⟩
 ·cases hj
theorem Ey(e:TypeId){n:Nat}{es:List AV}{vs:Array Value}(hrun:(execOp a.eval o).run P w=.ok (.value (.slice (some ⟨w.heap.size,0,none⟩) n n)) (w.alloc (.cells vs e)))(hr:Rel N σ β s a w)(hn:es.length=n)(hE:RepE σ sz es vs.toList)(h63:n<=maxLen)(h:setD N s.sl o.dst (.p (.sl es)) fun sl=>K ⟨sl,s.H⟩):Lx P N σ β a w s o K:=by
 intro Q;have hnone:σ w.heap.size=none:=by
  cases hs:σ w.heap.size with
  |none=>rfl
  | some c=>
    obtain⟨e,fr,hh⟩:=hr.heap.mem _ c hs;have:=(x3r.1 hh).1;omega
 let τ:Mem:=fun b=>if b=w.heap.size then some vs else σ b;have hle:σ.le τ:=fun b c hb=>by
  show(if b=w.heap.size then some vs else σ b)=some c;split
  ·rename_i he;rw[he,hnone]at hb;cases hb
  ·exact hb
 have hold:∀b,b<w.heap.size->(w.alloc (.cells vs e)).heap[b]?=w.heap[b]?:=fun b hb=>heap_alloc_old w _ b hb;have hsize:(w.alloc (.cells vs e)).heap.size=w.heap.size+1:=by show(w.heap.push _).size=_;simp
 have hH:HRel τ β s.H (w.alloc (.cells vs e)):=by
  refine⟨fun b c hb=>?_,fun k c hc=>(hr.heap.chunks k c hc).mono hle fun i hi b hb=>hold _ (hr.heap.apart k (x3q.2 ⟨_,hc,rfl⟩) i hi b hb).2,hr.heap.nodup,fun k hk i hi b hb=>?_,hr.heap.inj⟩
  ·have hb':(if b=w.heap.size then some vs else σ b)=some c:=hb;split at hb'
   ·rename_i he;cases hb';subst he;exact⟨e,(0,0),heap_alloc_new w _⟩
   ·obtain⟨e',fr,hh⟩:=hr.heap.mem b c hb';exact⟨e',fr,(hold b (x3r.1 hh).1).trans hh⟩
  ·have:=hr.heap.apart k hk i hi b hb;refine⟨?_,by omega⟩;show(if b=w.heap.size then some vs else σ b)=none;rw[if_neg (by omega)];exact this.1
 have hrel:Rel N τ β s a (w.alloc (.cells vs e)):=⟨hr.size,hr.defers,fun i=>(hr.slots i).mono hle,hH⟩;have hτ:τ w.heap.size=some vs:=by show(if w.heap.size=w.heap.size then some vs else _)=_;simp
 obtain⟨u,hu⟩ : ∃u:Nat->Nat->Value,∀(i:Nat)(e:AV)(j:Nat)(c:AV),es[i]?=some e->e.cells[j]?=some c->vs[i*sz+j]?=some (u i j)/\Rep σ c (u i j):=by
  refine⟨fun i j=>(vs[i*sz+j]?).getD undef,fun i e j c hi hj=>?_⟩;obtain⟨v,h1,h2⟩:=hE.rep i e j c hi hj;have h1':vs[i*sz+j]?=some v:=by simpa using h1
  exact⟨by simp[h1'],by simpa[h1']using h2⟩
 have hrep:Rep τ (.sl es) (.slice (some ⟨w.heap.size,0,none⟩) n n):=by
  rw[<-hn];exact .sl es w.heap.size 0 es.length sz vs u hτ (x3g _) (by omega) hE.size (fun i e j c hi hj=>by simpa using(hu i e j c hi hj).1) fun i e j c hi hj=>(hu i e j c hi hj).2.mono hle
 obtain⟨sl,hK,hr'⟩:=hrel.setD (.p hrep) h;refine XS hrun ⟨τ,β,_,hK,hr',hle,⟨rfl,rfl,rfl,x3g _,by omega,fun b hb _=>hold b hb⟩,fun b h0 h1=>.inr ?_,fun b hb=>.inl hb,fun _ _ _=>rfl⟩;have h1':(if b=w.heap.size then some vs else σ b)≠none:=h1;split at h1'
 ·omega
 ·exact absurd h0 h1'
theorem J7(hT:TabOK P T){n:Nat}{parts:Array (Nat×Operand)}(hop:o.op=.buildSlice t n parts)(h:opW P T N s o K)(hr:Rel N σ β s a w):Lx P N σ β a w s o K:=by
 simp only[opW,hop]at h;split at h
 ·rename_i e _ _ _ ht;split at h
  ·rename_i ie hie;split at h
   ·rename_i es out hes hout;obtain⟨⟨hsm,hpos⟩,h⟩:=h;have hok:=hT _ _ hie;have hrep:∀(j:Nat)(x:Nat×LV)(y:Nat×Value),(parts.toList.map fun x=>(x.1,QM s.sl x.2))[j]?=some x->(parts.toList.map fun x=>(x.1,a.eval x.2))[j]?=some y->RepL σ β x.2 y.2:=fun j x y hx hy=>by
     rw[x2e]at hx hy;cases hq:parts.toList[j]?with
     |none=>rw[hq]at hx;cases hx
     |some q=>rw[hq]at hx hy;cases hx;cases hy;exact QZ hr.slots _
    let zs:Array Value:=(Array.range (n*ie.size)).map (ie.zero.cells[· % ie.zero.cells.size]!);obtain⟨cs,hcs,hrc⟩:=V8 (σ:=σ) (β:=β) (place:=fun i=>some (i*ie.size,ie.size)) (placeL:=fun i=>some (i*ie.size,ie.size)) (fun _ _ h=>h) _ (parts.toList.map fun x=>(x.1,a.eval x.2)) _ zs out (by simp) hrep (Wb (n*ie.size) zs.toList (by simp[zs])) hout;have hrun:(execOp a.eval o).run P w=.ok (.value (.slice (some ⟨w.heap.size,0,none⟩) n n)) (w.alloc (.cells cs e)):=by
     have hcs':Instr.fill (fun i=>some (i*ie.size,ie.size)) zs ((parts.map fun(i,x)=>(i,a.eval x)).toList)=some cs:=by
      rw[<-hcs];congr 1;simp
     by_cases h0:n*ie.size=0
     ·have hz:zs=#[]:=by apply Array.eq_empty_of_size_eq_zero;simp[zs,h0]
      have hz':zs=(Array.range (n*ie.size)).map ((#[]:Array Value)[· % (#[]:Array Value).size]!):=by rw[hz,h0];simp[Array.range_zero']
      have:¬n*ie.size>16777216:=by omega
      rw[hz']at hcs';simp only[execOp,hop,Instr.buildSlice,Sem.run_bind,run_underlying (hT.of ht),Result.andThen_ok,hok.sizeOf,Nat.reducePow,if_neg this,if_pos h0,Sem.run_pure,hcs',newRow,run_newObj];rfl
     ·have:¬n*ie.size>16777216:=by omega
      simp only[execOp,hop,Instr.buildSlice,Sem.run_bind,run_underlying (hT.of ht),Result.andThen_ok,hok.sizeOf,Nat.reducePow,if_neg this,if_neg h0,hok.zeroValue,Sem.run_pure,zs]at hcs'⊢;simp only[hcs',Sem.run_bind,newRow,run_newObj,Result.andThen_ok,Sem.run_pure];rfl
    have h63:n<=maxLen:=by
     have:n*1<=n*ie.size:=Nat.mul_le_mul_left _ hpos;simp only[maxLen];omega
    rcases h with⟨hx,ho,hlen,hK⟩|⟨hx,ho,hlen,hK⟩
    ·subst ho;exact Ey e hrun hr hlen (hrc.flat hx) h63 hK
    ·subst ho;have hE:=hrc.flat hx;exact Tt e hrun hr hlen (by have:=hE.len;simpa[hlen]using this) hE h63 hK
   ·exact h.ok σ β a w hr
  ·exact h.ok σ β a w hr
 ·exact h.ok σ β a w hr
theorem SU(v:Value)(cs:List AV):AV.ofS v ≠ .agg cs:=by
 unfold AV.ofS;split<;>try (intro h;cases h;done)
 rename_i s;intro h;cases hb:ble s.size maxLen<;>simp[hb]at h
theorem SY(v:Value)(h:∀cs,v ≠ .agg cs)(cs:List AV):AV.ofV v ≠ .agg cs:=by
 unfold AV.ofV;split
 ·exact absurd rfl (h _)
 ·split<;>(intro h;cases h)
 ·exact SU _ _
theorem Ow(z:Value)(sz n:Nat)(hz:z.cells.size=sz):RepE σ sz (List.replicate n (AV.ofV z)) (madeCells z.cells (n*sz)).toList:=by
 have hcz:(AV.ofV z).cells.length=sz/\∀(j:Nat)(c:AV),(AV.ofV z).cells[j]?=some c->∃u:Value,z.cells[j]?=some u/\Rep σ c u:=by
  have key:∀(b:AV),Rep σ b z->(∀cs,z ≠ .agg cs)->(∀cs,b ≠ .agg cs)->b.cells.length=sz/\∀(j:Nat)(c:AV),b.cells[j]?=some c->∃u:Value,z.cells[j]?=some u/\Rep σ c u:=fun b hb hz' hb'=>by
   have h1:z.cells=#[z]:=by cases z<;>first|rfl|exact absurd rfl (hz' _)
   have h2:b.cells=[b]:=by cases b<;>first|rfl|exact absurd rfl (hb' _)
   rw[h1]at hz⊢;rw[h2];refine⟨by simpa using hz,fun j c hj=>?_⟩;cases j with
   |zero=>simp at hj;subst hj;exact⟨z,rfl,hb⟩
   |succ j=>simp at hj
  cases z with
  | agg cs=>
    simp only[AV.ofV,AV.cells,Value.cells]at hz⊢;refine⟨by simpa using hz,fun j c hj=>?_⟩;rw[x2e]at hj;cases hq:cs.toList[j]?with
    |none=>rw[hq]at hj;cases hj
    |some u=>rw[hq]at hj;cases hj;exact⟨u,by simpa using hq,Rep.ofS σ u⟩
  |_=>exact key _ (Rep.ofV σ _) (fun cs h=>by cases h) fun cs h=>SY _ (fun cs h=>by cases h) cs h
 refine⟨by simp[madeCells],fun i e hi=>?_,fun i e j c hi hj=>?_⟩
 ·rw[x3o]at hi;split at hi
  ·cases hi;exact hcz.1
  ·cases hi
 ·rw[x3o]at hi;split at hi
  ·rename_i hlt;cases hi;obtain⟨u,h1,h2⟩:=hcz.2 j c hj;have hjs:j<sz:=by rw[<-hz];exact(x3r.1 h1).1
   refine⟨u,?_,h2⟩;have hlt':=An hlt hjs;have hmod:(i*sz+j)%z.cells.size=j:=by
    rw[hz,x9j,Nat.add_mul_mod_self_right];exact Nat.mod_eq_of_lt hjs
   simp only[madeCells,x6g,Array.getElem?_map];rw[x5v (by simpa using hlt')];simp only[Array.getElem_range,x6e,hmod];rw[x7e z.cells j (by omega)];have:=(x3r.1 h1).2;rw[<-this]
  ·cases hi
theorem K2(hT:TabOK P T){l c:Operand}(hop:o.op=.makeSlice t l c)(h:opW P T N s o K)(hr:Rel N σ β s a w):Lx P N σ β a w s o K:=by
 simp only[opW,hop]at h;split at h
 ·rename_i e _ _ _ kl l' kc c' ht hl hc;split at h<;>first|exact h.elim|skip
  rename_i ie hie;obtain⟨⟨rfl,hz,_⟩,n,hn,hb,h63,h⟩:=h;obtain⟨fi,hfi,hfs,hfb,hfz⟩:=(hT _ _ hie).getInfo;have hl':=QZ hr.slots l;rw[hl]at hl';have hc':=QZ hr.slots c;rw[hc]at hc';have hl':=hl'.int;have hc':=hc'.int;subst hn;have hb':((fi.bytes:Nat):Int)*(n:Int)<=281474976710656:=by
   rw[hfb];have:((ie.bytes*n:Nat):Int)<=140737488355328:=by omega
   rw[Int.natCast_mul]at this;omega
  have h63':(n:Int)<=9223372036854775807:=by simp only[maxLen]at h63;omega
  have hrun:=run_make (P:=P) w t e fi ie.zero (hT.of ht) hfi hfz kl kc n n (by omega) (Int.le_refl _) hb' h63';simp only[x5c,hfs]at hrun;refine Tt e (vs:=madeCells ie.zero.cells (n*ie.size)) ?_ hr (by simp) (by simp[madeCells]) (Ow ie.zero ie.size n hz) h63 h;simp[execOp,hop,hl',hc',hrun]
 ·exact h.ok σ β a w hr
end
section
variable {P:Program}{T:Tab}{N:Nat}{σ:Mem}{β:Lab}{a:Act}{w:World}{o:Oper}{K:St->Prop}{s:St}
theorem RepE.oneAll{es:List AV}{vs:List Value}(h:RepE σ sz es vs)(hpos:0<sz)(h1:∀x∈es,x.cells.all AV.one=true):∀u∈vs,u.oneCell'=true:=fun u hu=>by
 obtain⟨p,hp,rfl⟩:=x4t.1 hu;have hlen:p<es.length*sz:=by rw[<-h.len];exact hp
 have hi:p/sz<es.length:=Nat.div_lt_of_lt_mul (by rwa[Nat.mul_comm]);have hs:=h.size (p/sz) es[p/sz] (by simp[hi]);have hj:p%sz<es[p/sz].cells.length:=by rw[hs];exact Nat.mod_lt _ hpos
 obtain⟨u,h2,h3⟩:=h.rep (p/sz) es[p/sz] (p%sz) (es[p/sz].cells[p%sz]) (by simp[hi]) (by simp[hj]);rw[Nat.div_add_mod',x2n hp]at h2;cases h2;exact h3.oneCell (x4d.1 (h1 _ (x3w hi)) _ (x3w hj))
theorem Ta(hr:Rel N σ β s a w){y:Operand}{C:List AV->Nat->Prop}(h:q1m s.sl s.H y C)(hpos:0<sz):
  ∃xs m,C xs m/\(m=xs.length->(∀x∈xs,x.cells.length=sz)->∃news,((a.eval y=.slice none 0 0/\news=[])\/∃ad c,a.eval y=.slice (some ad) xs.length c/\∀(j:Nat)(u:Value),news[j]?=some u->w.cell? (ad.add j)=some u)/\RepE σ sz xs news):=by
 unfold q1m at h;have hy:=QZ hr.slots y;split at h
 ·rename_i xs he;rw[he]at hy;refine⟨xs,_,h,fun _ hx=>?_⟩;generalize hv:a.eval y=v at hy;cases hy with
  | p hy=>cases hy with
    |nilsl=>exact⟨[],.inl ⟨rfl,rfl⟩,RepE.nil σ sz⟩
    |slz b=>exact⟨[],.inr ⟨b,0,rfl,by simp⟩,RepE.nil σ sz⟩
    | sl _ b off cap sz' cells u hb hcap hmax hsz hc hrr=>
      obtain⟨e,fr,hh⟩:=hr.heap.mem b cells hb;by_cases h0:xs=[]
      ·subst h0;exact⟨[],.inr ⟨⟨b,off,none⟩,cap,rfl,by simp⟩,RepE.nil σ sz⟩
      ·have hlen:0<xs.length:=x9m.2 h0;have hss:sz'=sz:=by
        rw[<-hsz 0 xs[0] (by simp[hlen]),hx xs[0] (x3w hlen)]
       subst hss;have hlast:off+xs.length*sz'<=cells.size:=by
        have hl1:xs.length-1<xs.length:=by omega
        have h2:=hx xs[xs.length-1] (x3w hl1);have:=hc (xs.length-1) xs[xs.length-1] (sz'-1) (xs[xs.length-1].cells[sz'-1]'(by omega)) (by simp) (by simp);have:=(x3r.1 this).1;have e1:xs.length*sz'=(xs.length-1)*sz'+sz':=by
         have:xs.length=xs.length-1+1:=by omega
         rw[this,x5d,Nat.one_mul];simp
        omega
       refine⟨(cells.toList.drop off).take (xs.length*sz'),.inr ⟨⟨b,off,none⟩,cap,rfl,fun j u hj=>?_⟩,⟨by simp;omega,fun i e hi=>hsz i e hi,fun i e j c hi hj=>⟨u i j,?_,hrr i e j c hi hj⟩⟩⟩
       ·rw[x4g]at hj;split at hj
        ·rw[JP];simp only[World.cell?,hh];simpa using hj
        ·cases hj
       ·have h2:=hc i e j c hi hj;have hil:i<xs.length:=(x2o.1 hi).1;have hjl:j<sz':=by rw[<-hsz i e hi];exact(x2o.1 hj).1
        rw[x4g,if_pos (An hil hjl),x4c];simpa[x6z]using h2
 ·rename_i he;rw[he]at hy;refine⟨[],0,h,fun _ _=>⟨[],.inl ⟨?_,rfl⟩,RepE.nil σ sz⟩⟩;generalize hv:a.eval y=v at hy;cases hy with
  |p hy=>cases hy;rfl
 ·rename_i k2 m he;rw[he]at hy;split at h<;>first|exact h.elim|skip
  rename_i e' sz2 xs hg;refine⟨xs,m,h,fun hm hx=>?_⟩;subst hm;rcases ZL.1 (hr.heap.chunks k2 _ (QG hg))with⟨hb0,rfl⟩|⟨i,vs,hi,hisz,hh,hn,hle,hmax,hE⟩
  ·refine⟨[],.inl ⟨?_,rfl⟩,RepE.nil σ sz⟩;rcases hy.hdI with⟨_,_,_,h⟩|⟨i,_,hk,_⟩
   ·exact h
   ·rw[hb0]at hk;cases hk
  ·rcases hy.hdI with⟨hk,_⟩|⟨i',oo,hk,hl,ho,hv⟩
   ·rw[hi]at hk;cases hk
   ·rw[hi]at hk;cases hk;have hoo:oo=0:=by
     rcases ho with ho|ho
     ·simpa using ho
     ·omega
    subst hoo;by_cases h0:xs=[]
    ·subst h0;exact⟨[],.inr ⟨⟨i.blk,0,none⟩,i.cap-0,hv,by simp⟩,RepE.nil σ sz⟩
    ·have hlen:0<xs.length:=x9m.2 h0;have hss:sz2=sz:=by
      rw[<-hE.size 0 xs[0] (by simp[hlen]),hx xs[0] (x3w hlen)]
     subst hss;refine⟨_,.inr ⟨⟨i.blk,0,none⟩,i.cap-0,hv,fun j u hj=>?_⟩,hE⟩;rw[x4g]at hj;split at hj
     ·rw[JP];simp only[World.cell?,hh];simpa using hj
     ·cases hj
 ·exact h.elim
theorem NE:∀{sl:List (Nat×LV)}{k:Nat}{C:List (Nat×LV)->Prop},Yz sl k C->∃sl',C sl'/\∀i,(getS sl' i=getS sl i\/getS sl' i=.p .any)/\(getS sl' i).free k=true
 |[],_,_,h=>⟨[],h,fun _=>⟨.inl rfl,rfl⟩⟩
 | (j,l)::r,k,C,h=>by
   simp only[Yz,XW]at h;obtain⟨sl',hC,hs⟩:=NE h;refine⟨_,hC,fun i=>?_⟩;simp only[getS];cases hj:j==i with
   | true=>
     refine⟨?_,LV.kill_free k l⟩;simp only[x3p,LV.kill];cases l.free k
     ·exact .inr rfl
     ·exact .inl rfl
   |false=>exact hs i
theorem HH:∀{H:Heap}{k:Nat}{d:Chunk}{C:Heap->Prop},DB H k d C->
  ∃H',C H'/\H'.map (·.1)=H.map (·.1)/\(∀j c,(j,c)∈H'->j≠k->∃c0,(j,c0)∈H/\c=c0.kill k)/\∀c,(k,c)∈H'->c=d
 |[],_,_,_,h=>⟨[],h,rfl,by simp,by simp⟩
 | (j,c)::r,k,d,C,h=>by
   simp only[DB]at h;by_cases hj:j=k
   ·subst hj;simp only[x6u,x3p]at h;obtain⟨H',hC,h1,h2,h3⟩:=HH h;refine⟨_,hC,by simp[h1],fun i e he hne=>?_,fun e he=>?_⟩
    ·rcases x2i.1 he with he|he
     ·cases he;exact absurd rfl hne
     ·obtain⟨c0,h4,h5⟩:=h2 i e he hne;exact⟨c0,x2c _ h4,h5⟩
    ·rcases x2i.1 he with he|he
     ·cases he;rfl
     ·exact h3 e he
   ·have hb:(j==k)=false:=by simp[hj]
    rw[hb,x3t]at h;have key:DB r k d (fun r=>C ((j,c.kill k)::r)):=by
     cases c with
     |obj e cs=>simp only[WS]at h;exact h
     |own e sz es=>exact h
     |ext d=>exact h
    obtain⟨H',hC,h1,h2,h3⟩:=HH key;refine⟨_,hC,by simp[h1],fun i e he hne=>?_,fun e he=>?_⟩
    ·rcases x2i.1 he with he|he
     ·cases he;exact⟨c,by simp,rfl⟩
     ·obtain⟨c0,h4,h5⟩:=h2 i e he hne;exact⟨c0,x2c _ h4,h5⟩
    ·rcases x2i.1 he with he|he
     ·cases he;exact absurd rfl hj
     ·exact h3 e he
theorem U2(hr:Rel N σ β s a w){x y:Operand}(hop:o.op=.call {callee:=.builtin .append,args:=#[x,y],argTypes:=#[t,t]}){e:TypeId}{ie:TyI}(ht:P.underlying t=some (.slice e))(hie:TyOK P e ie)(hz:ie.zero.cells.size=ie.size)(hpos:0<ie.size){k n:Nat}{es:List AV}(hg:(k,Chunk.own e ie.size es)∈s.H)(hx:RepL σ β (.hd k 0 n) (a.eval x))(h:q1m s.sl s.H y fun xs m=>Fq N s o.dst k e ie.size n es xs m ie.bytes K):Lx P N σ β a w s o K:=by
 obtain⟨xs,m,⟨hn,hm,hb,h63,hxs,hK⟩,hsrc⟩:=Ta hr h hpos;obtain⟨news,hy,hE⟩:=hsrc hm fun x hx=>(hxs x hx).1;subst hn hm;obtain⟨hpk,hK⟩:=M2 hK;have hone:=hE.oneAll hpos fun x hx=>(hxs x hx).2;have hlab:k∈s.H.map (·.1):=x3q.2 ⟨_,hg,rfl⟩;obtain⟨v',w',i',hrun,hfrm,hi',hch,hv'⟩:=S3 (P:=P) t o.type ht hie hz (hr.heap.chunks k _ hg) hx hy hE hone h63 hb hpos (fun i hi b hb=>(hr.heap.apart k hlab i hi b hb).2);obtain⟨sl1,hK,hs1⟩:=NE hK;obtain⟨H1,hK,hH1,hH2,hH3⟩:=HH hK;obtain⟨hh,hl⟩:=Nv hr.heap hpk hlab hfrm hi' hH1 (fun j c hj hne=>by
  obtain⟨c0,h1,rfl⟩:=hH2 j c hj hne;exact⟨Chunk.kill_free k c0,(hr.heap.chunks j c0 h1).kill k⟩) (fun c hc=>by rw[hH3 c hc];exact hch)
 have hrel:Rel N σ (β.set k i') ⟨sl1,H1⟩ a w':=⟨hr.size,hr.defers,fun i=>by
  obtain⟨h1,h2⟩:=hs1 i;have:RepL σ β (getS sl1 i) (a.tmps.getD i undef):=by
   rcases h1 with h1|h1
   ·rw[h1];exact hr.slots i
   ·rw[h1];exact .p (.any _)
  exact this.set i' h2,hh⟩
 obtain⟨sl,hK,hr'⟩:=hrel.setD hv' hK;intro Q;refine XS (w':=w') ?_ ⟨σ,_,_,hK,hr',hl⟩;simp[execOp,hop,resolve,invoke,builtin,hrun]
theorem x1w{A:Type}{l:Array A}{x y:A}(h:l.toList=[x,y]):l=#[x,y]:=by
 apply ext';simpa using h
theorem Rv(hT:TabOK P T){args:Array Operand}{argTypes:Array TypeId}(hop:o.op=.call {callee:=.builtin .append,args,argTypes})(h:opW P T N s o K)(hr:Rel N σ β s a w):Lx P N σ β a w s o K:=by
 simp only[opW,hop]at h;split at h
 ·rename_i x y t t' ha hta;have ha:=x1w ha;have hta:=x1w hta;subst ha hta;split at h
  ·rename_i e _ _ _ ht;split at h<;>first|exact h.elim|skip
   rename_i ie hie;obtain⟨⟨rfl,hz,hpos⟩,h⟩:=h;have hx:=QZ hr.slots x;split at h
   ·rename_i k n he;rw[he]at hx;split at h<;>first|exact h.elim|skip
    rename_i e' sz es hg;obtain⟨⟨rfl,rfl⟩,h⟩:=h;exact U2 hr hop (hT.of ht) (hT _ _ hie) hz hpos (QG hg) hx h
   ·rename_i he;rw[he]at hx;obtain⟨k,hk,h⟩:=UP h;obtain⟨hu1,hu2⟩:=XL hk;have hnk:k∉s.H.map (·.1):=Jo hu1;have hr2:Rel N σ (β.set k none) ⟨s.sl,(k,.own e ie.size [])::s.H⟩ a w:=by
     refine⟨hr.size,hr.defers,fun i=>(hr.slots i).set _ (hu2 i),⟨hr.heap.mem,fun j c hj=>?_,by simp only[x3l,x4r];exact⟨hnk,hr.heap.nodup⟩,fun j hj i hi=>?_,fun j hj j' hj' i1 i2 h1 h2 he=>?_⟩⟩
     ·rcases x2i.1 hj with hj|hj
      ·cases hj;exact .inl ⟨by simp[Lab.set],rfl⟩
      ·exact(hr.heap.chunks j c hj).set none (hu1 j c hj).1 (hu1 j c hj).2
     ·simp only[x3l,x2i]at hj;rcases hj with rfl|hj
      ·simp[Lab.set]at hi
      ·have:j≠k:=fun e=>hnk (e▸hj);simp[Lab.set,this]at hi;exact hr.heap.apart j hj i hi
     ·simp only[x3l,x2i]at hj hj';have n1:j≠k:=fun e=>by subst e;simp[Lab.set]at h1
      have n2:j'≠k:=fun e=>by subst e;simp[Lab.set]at h2
      simp[Lab.set,n1]at h1;simp[Lab.set,n2]at h2;exact hr.heap.inj j (hj.resolve_left n1) j' (hj'.resolve_left n2) i1 i2 h1 h2 he
    have hown:∀b,owns (β.set k none) ((k,.own e ie.size [])::s.H) b->owns β s.H b:=by
     rintro b ⟨j,hj,i,hi,hb⟩;simp only[x3l,x2i]at hj;have n1:j≠k:=fun e=>by subst e;simp[Lab.set]at hi
     simp[Lab.set,n1]at hi;exact⟨j,hj.resolve_left n1,i,hi,hb⟩
    have hown':∀b,owns β s.H b->owns (β.set k none) ((k,.own e ie.size [])::s.H) b:=by
     rintro b ⟨j,hj,i,hi,hb⟩;have n1:j≠k:=fun e=>hnk (e▸hj);exact⟨j,by simp only[x3l,x2i];exact .inr hj,i,by simp[Lab.set,n1,hi],hb⟩
    have hpin:∀j,1000<=j->(β.set k none) j=β j:=fun j h0=>by
     have:=YW hk;have n1:j≠k:=by omega
     simp[Lab.set,n1]
    have hxv:RepL σ (β.set k none) (.hd k 0 0) (a.eval x):=by
     generalize hv:a.eval x=v at hx;cases hx with
     |p hx=>cases hx;exact .hdn k (by simp[Lab.set])
    have hsrc:q1m s.sl ((k,.own e ie.size [])::s.H) y fun xs m=>Fq N ⟨s.sl,(k,.own e ie.size [])::s.H⟩ o.dst k e ie.size 0 [] xs m ie.bytes K:=by
     unfold q1m at h⊢;generalize hy:QM s.sl y=ly at h;have hfree:=Kd hk y;rw[hy]at hfree;cases ly with
     |p c=>cases c<;>exact h
     | hd k2 o2 m=>
       cases o2 with
       | zero=>
         simp only[LV.free,x5l,x9r,ne_eq]at hfree;have hb:(k==k2)=false:=by simp[x6o hfree]
         simp only[getH,hb,x3t];exact h
       |succ o2=>exact h
     |_=>exact h
    have:=U2 hr2 hop (hT.of ht) (hT _ _ hie) hz hpos (by simp) hxv hsrc;intro Q;refine Oper.wp_mono (fun a' w' hk'=>?_) (this Q);obtain⟨σ',β',s',hK,hrel,hl⟩:=hk';refine⟨σ',β',s',hK,hrel,hl.le,⟨hl.frm.os,hl.frm.tape,hl.frm.output,hl.frm.drawn,hl.frm.size,fun b hb hn=>hl.frm.block b hb fun hb'=>hn (hown b hb')⟩,fun b h0 h1=>(hl.mem b h0 h1).imp (hown b) id,fun b hb=>(hl.own b hb).imp (hown b) id,fun j h0 h1=>(hl.pin j h0 h1).trans (hpin j h0)⟩
   ·exact h.ok σ β a w hr
  ·exact h.ok σ β a w hr
 ·exact h.ok σ β a w hr
theorem Eu{f:Operand}{args:Array Operand}{argTypes:Array TypeId}(hop:o.op=.call {callee:=.value f,args,argTypes})(h:opW P T N s o K)(hr:Rel N σ β s a w):Lx P N σ β a w s o K:=by
 simp only[opW,hop]at h;split at h
 ·rename_i g caps he;rw[WS]at h;have hf:=QZ hr.slots f;rw[he]at hf;generalize hv:a.eval f=v at hf;cases hf with
  | p hf=>cases hf with
    | fn _ _ cv u hn hc hrr=>
      let vals:Array Value:=args.map a.eval++cv;obtain⟨hgo,hcalls⟩:=h.ok σ β a w hr vals (by simp[vals,hn]) (fun j l hj=>by
       rw[x6c]at hj;split at hj
       ·rename_i hlt;have hlt':j<args.size:=by simpa using hlt
        rw[x2e]at hj;simp only[x6g]at hj;rw[x5v hlt']at hj;simp only[x6e,x6r]at hj;subst hj;have:vals.getD j undef=a.eval args[j]:=by
         simp[vals,x9z,hlt']
        rw[this];exact QZ hr.slots _
       ·rename_i hge;have hge':args.size<=j:=by simpa using hge
        rw[x2e]at hj;cases hq:caps[j-(args.toList.map (QM s.sl)).length]?with
        |none=>rw[hq]at hj;cases hj
        | some c=>
          rw[hq]at hj;cases hj;simp only[x2m,x5b]at hq;have h1:=hc _ _ hq;have:vals.getD j undef=u (j-args.size):=by
           simp[vals,x9z,Nat.not_lt.2 hge',h1]
          rw[this];exact .p (hrr _ _ hq))
      intro Q;have hrun:(execOp a.eval o).run P w=.ok (.enter g vals) w:=by
       simp only[execOp,hop,resolve,Sem.run_bind,hv,Deferred.ofValue,Sem.run_pure,Result.andThen_ok,invoke];simp only[Array.empty_append];exact hgo w
      unfold Oper.wp;rw[hrun,Oper.upon_enter];refine hcalls.mono fun e w' he=>?_;obtain⟨u',σ',β',s',rfl,hK,hrel,hl⟩:=he;exact⟨σ',β',s',hK,hrel,hl⟩
 ·exact h.ok σ β a w hr
theorem Qg(hT:TabOK P T)(h:opW P T N s o K)(hr:Rel N σ β s a w):Lx P N σ β a w s o K:=by
 have gen:OpK P N s o K->Lx P N σ β a w s o K:=fun h=>h.ok σ β a w hr;cases hop:o.op with
 |alloc e=>exact SD hT hop h hr
 |box e x=>exact OR hop h hr
 |store t x v=>exact SB hT hop h hr
 |buildSlice t n ps=>exact J7 hT hop h hr
 |makeSlice t l c=>exact K2 hT hop h hr
 | call c=>
   obtain⟨callee,args,argTypes⟩:=c;cases callee with
   | builtin b=>
     cases b with
     |append=>exact Rv hT hop h hr
     |_=>simp only[opW,hop]at h;exact gen h
   |value f=>exact Eu hop h hr
   |_=>simp only[opW,hop]at h;exact gen h
 |_=>simp only[opW,hop]at h;exact gen h
end
def LV.fz(k:Nat)(cs:List AV):LV->LV
 |.p a=>.p a
 |.ptr j off=>bif j==k then .p (.ip (cs.drop off))else .ptr j off
 |.hd j o n=>bif j==k then .p .any else .hd j o n
 |.agg ls=>bif LV.free.freeAll k ls then .agg ls else mkAgg (fzs k cs ls)
 |.tup ls=>bif LV.free.freeAll k ls then .tup ls else mkTup (fzs k cs ls)
 |.ext j d=>.ext j d
where fzs (k:Nat) (cs:List AV):List LV->List LV
 |[]=>[]
 |l::r=>LV.fz k cs l::fzs k cs r
theorem CC(k:Nat)(cs:List AV):∀ls:List LV,LV.fz.fzs k cs ls=ls.map (LV.fz k cs)
 |[]=>rfl
 |l::r=>by rw[LV.fz.fzs,CC k cs r];rfl
theorem RepL.fz{σ τ:Mem}{β:Lab}{l:LV}{v:Value}(hr:RepL σ β l v)(hle:σ.le τ){k:Nat}{cs:List AV}{i:BInfo}(hi:β k=some i)(hp:∀off,Rep τ (.ip (cs.drop off)) (.pointer (some ⟨i.blk,off,none⟩))):RepL τ β (l.fz k cs) v:=by
 induction hr with
 |p h=>exact .p (h.mono hle)
 | ptr j off i' hk=>
   unfold LV.fz;by_cases hj:j=k
   ·subst hj;rw[hi]at hk;cases hk;simp only[x6u,x3p];exact .p (hp off)
   ·have:(j==k)=false:=by simp[hj]
    simp only[this,x3t];exact .ptr j off i' hk
 | hdn j hk=>
   unfold LV.fz;by_cases hj:j=k
   ·subst hj;rw[hi]at hk;cases hk
   ·have:(j==k)=false:=by simp[hj]
    simp only[this,x3t];exact .hdn j hk
 | hd j off len i' o hk hl ho=>
   unfold LV.fz;by_cases hj:j=k
   ·subst hj;simp only[x6u,x3p];exact .p (.any _)
   ·have:(j==k)=false:=by simp[hj]
    simp only[this,x3t];exact .hd j off len i' o hk hl ho
 | agg ls vs u hn hc hrr ih=>
   unfold LV.fz;cases LV.free.freeAll k ls with
   |true=>exact(RepL.agg ls vs u hn hc hrr).mono hle
   | false=>
     rw [x3t,CC];refine RepL.mkAgg u (by simpa using hn) (fun j l hj=>?_) fun j l hj=>?_;all_goals
      rw[x2e]at hj;cases hq:ls[j]?with
      |none=>rw[hq]at hj;cases hj
      | some l'=>
        rw[hq]at hj;cases hj;first
         |exact hc j l' hq
         |exact ih j l' hq
 | tup ls vs u hn hc hrr ih=>
   unfold LV.fz;cases LV.free.freeAll k ls with
   |true=>exact(RepL.tup ls vs u hn hc hrr).mono hle
   | false=>
     rw [x3t,CC];refine RepL.mkTup u (by simpa using hn) (fun j l hj=>?_) fun j l hj=>?_;all_goals
      rw[x2e]at hj;cases hq:ls[j]?with
      |none=>rw[hq]at hj;cases hj
      | some l'=>
        rw[hq]at hj;cases hj;first
         |exact hc j l' hq
         |exact ih j l' hq
 |ext j d i v h hd=>exact .ext j d i v h hd
theorem Rel.lay{N:Nat}{σ:Mem}{β:Lab}{s s':St}{a:Act}{w:World}(hr:Rel N σ β s a w){k:Nat}{i:BInfo}(hi:β k=some i)(hk:k∈s.H.map (·.1)){cells:Array Value}{e:TypeId}{fr:Nat×Nat}(hh:w.heap[i.blk]?=some (.cells cells e fr))(hsl:∀τ:Mem,σ.le τ->τ i.blk=some cells->∀j v,RepL σ β (getS s.sl j) v->RepL τ β (getS s'.sl j) v)(hch:∀τ:Mem,σ.le τ->τ i.blk=some cells->∀j c',(j,c')∈s'.H->j≠k/\∃c,(j,c)∈s.H/\(c.holds σ β w j->c'.holds τ β w j))(hnd:(s'.H.map (·.1)).Nodup):
  ∃σ' β',Rel N σ' β' s' a w/\Later σ β s.H w σ' β' s'.H w:=by
 let τ:Mem:=fun b=>if b=i.blk then some cells else σ b;have h0:=hr.heap.apart k hk i hi i.blk i.has_blk;have hle:σ.le τ:=fun b c hb=>by
  show(if b=i.blk then some cells else σ b)=some c;by_cases hbi:b=i.blk
  ·subst hbi;rw[h0.1]at hb;cases hb
  ·rw[if_neg hbi];exact hb
 have hτ:τ i.blk=some cells:=if_pos rfl;have hlab:∀j∈s'.H.map (·.1),j≠k/\j∈s.H.map (·.1):=fun j hj=>by
  obtain⟨⟨j',c'⟩,hm,rfl⟩:=x3q.1 hj;obtain⟨h1,c,h2,_⟩:=hch τ hle hτ j' c' hm;exact⟨h1,x3q.2 ⟨_,h2,rfl⟩⟩
 refine⟨τ,β,⟨hr.size,hr.defers,fun j=>hsl τ hle hτ j _ (hr.slots j),⟨fun b c hb=>?_,fun j c' hj=>?_,hnd,fun j hj ij hij b hb=>?_,fun j hj j' hj'=>hr.heap.inj j (hlab j hj).2 j' (hlab j' hj').2⟩⟩,hle,Frm.refl _ _,fun b hb hb'=>.inl ?_,fun b ⟨j,hj,hjb⟩=>.inl ⟨j,(hlab j hj).2,hjb⟩,fun _ _ _=>rfl⟩
 ·have hb':(if b=i.blk then some cells else σ b)=some c:=hb;by_cases hbi:b=i.blk
  ·subst hbi;rw[if_pos rfl]at hb';cases hb';exact⟨_,_,hh⟩
  ·rw[if_neg hbi]at hb';exact hr.heap.mem b c hb'
 ·obtain⟨_,c,h2,h3⟩:=hch τ hle hτ j c' hj;exact h3 (hr.heap.chunks j c h2)
 ·have h1:=hlab j hj;have h2:=hr.heap.apart j h1.2 ij hij b hb;refine⟨?_,h2.2⟩;show(if b=i.blk then some cells else σ b)=none;rw[if_neg fun he=>h1.1 (hr.heap.inj j h1.2 k hk ij i hij hi b hb (.inl he.symm))];exact h2.1
 ·have hb'':(if b=i.blk then some cells else σ b)≠none:=hb';by_cases hbi:b=i.blk
  ·exact⟨k,hk,i,hi,.inl hbi.symm⟩
  ·rw[if_neg hbi]at hb'';exact absurd hb hb''
def q6g(k:Nat)(cs:List AV):List (Nat×LV)->(List (Nat×LV)->Prop)->Prop
 |[],K=>K []
 |(j,l)::r,K=>YF (l.fz k cs) fun l=>q6g k cs r fun r=>K ((j,l)::r)
def q0m(k:Nat)(cs:List AV):Heap->(Heap->Prop)->Prop
 |[],K=>K []
 | (j,c)::r,K=>bif j==k then q0m k cs r K else
   match c with
   |.obj e ls=>DZ (ls.map (LV.fz k cs)) fun ls=>q0m k cs r fun r=>K ((j,.obj e ls)::r)
   |.own e sz es=>q0m k cs r fun r=>K ((j,.own e sz es)::r)
   |.ext x=>q0m k cs r fun r=>K ((j,.ext x)::r)
theorem N1{k:Nat}{cs:List AV}:∀{sl:List (Nat×LV)}{K:List (Nat×LV)->Prop},q6g k cs sl K->∃sl',K sl'/\∀i,getS sl' i=(getS sl i).fz k cs
 |[],_,h=>⟨[],h,fun _=>rfl⟩
 | (j,l)::r,K,h=>by
   simp only[q6g,XW]at h;obtain⟨sl',hK,hs⟩:=N1 h;refine⟨_,hK,fun i=>?_⟩;simp only[getS];cases j==i
   ·exact hs i
   ·rfl
theorem DU{k:Nat}{cs:List AV}:∀{H:Heap}{K:Heap->Prop},q0m k cs H K->∃H',K H'/\(H'.map (·.1)).Sublist (H.map (·.1))/\∀j c',(j,c')∈H'->j≠k/\∃c,(j,c)∈H/\c'=match c with
   |.obj e ls=>.obj e (ls.map (LV.fz k cs))
   |.own e sz es=>.own e sz es
   |.ext x=>.ext x
 |[],_,h=>⟨[],h,x8o _,by simp⟩
 | (j,c)::r,K,h=>by
   simp only[q0m]at h;by_cases hj:j=k
   ·subst hj;simp only[x6u,x3p]at h;obtain⟨H',hK,h1,h2⟩:=DU h;exact⟨H',hK,h1.cons _,fun j' c' hm=>let ⟨h3,c0,h4,h5⟩:=h2 j' c' hm;⟨h3,c0,x2c _ h4,h5⟩⟩
   ·have hb:(j==k)=false:=by simp[hj]
    simp only[hb,x3t]at h;cases c with
    | obj e ls=>
      simp only[WS]at h;obtain⟨H',hK,h1,h2⟩:=DU h;refine⟨_,hK,h1.cons_cons _,fun j' c' hm=>?_⟩;rcases x2i.1 hm with he|hm
      ·cases he;exact⟨hj,_,x2r,rfl⟩
      ·obtain⟨h3,c0,h4,h5⟩:=h2 j' c' hm;exact⟨h3,c0,x2c _ h4,h5⟩
    | own e sz es=>
      simp only at h;obtain⟨H',hK,h1,h2⟩:=DU h;refine⟨_,hK,h1.cons_cons _,fun j' c' hm=>?_⟩;rcases x2i.1 hm with he|hm
      ·cases he;exact⟨hj,_,x2r,rfl⟩
      ·obtain⟨h3,c0,h4,h5⟩:=h2 j' c' hm;exact⟨h3,c0,x2c _ h4,h5⟩
    | ext x=>
      simp only at h;obtain⟨H',hK,h1,h2⟩:=DU h;refine⟨_,hK,h1.cons_cons _,fun j' c' hm=>?_⟩;rcases x2i.1 hm with he|hm
      ·cases he;exact⟨hj,_,x2r,rfl⟩
      ·obtain⟨h3,c0,h4,h5⟩:=h2 j' c' hm;exact⟨h3,c0,x2c _ h4,h5⟩
theorem Le.fz{N:Nat}{s:St}{k:Nat}{e:TypeId}{cs:List AV}(hg:getH s.H k=some (.obj e (cs.map .p))){K:St->Prop}(h:q6g k cs s.sl fun sl=>q0m k cs s.H fun H=>K ⟨sl,H⟩):∃s',K s'/\Le N s s':=by
 obtain⟨sl,h,hsl⟩:=N1 h;obtain⟨H,h,hsub,hH⟩:=DU h;refine⟨_,h,fun σ β a w hr=>?_⟩;obtain⟨i,vs,hi,hh,hn,hc⟩:=hr.heap.chunks k _ (QG hg);have hp:∀τ:Mem,σ.le τ->τ i.blk=some vs->∀off,Rep τ (.ip (cs.drop off)) (.pointer (some ⟨i.blk,off,none⟩)):=fun τ hle hτ off=>by
  have hget:∀(j:Nat)(c:AV),cs[j]?=some c->∃u:Value,vs[j]?=some u/\Rep τ c u:=fun j c hj=>by
   obtain⟨u,h1,h2⟩:=hc j (.p c) (by simp[hj]);cases h2 with
   |p h2=>exact⟨u,h1,h2.mono hle⟩
  refine .ip _ i.blk off vs (fun j=>(vs[off+j]?).getD undef) hτ (fun j c hj=>?_) fun j c hj=>?_
  ·obtain⟨u,h1,_⟩:=hget (off+j) c (by simpa using hj);simp[h1]
  ·obtain⟨u,h1,h2⟩:=hget (off+j) c (by simpa using hj);simpa[h1]using h2
 refine hr.lay hi (QN hg) hh (fun τ hle hτ j v hv=>?_) (fun τ hle hτ j c' hj=>?_) (hsub.nodup hr.heap.nodup)
 ·show RepL τ β (getS sl j) v;rw[hsl];exact hv.fz hle hi (hp τ hle hτ)
 ·obtain⟨h1,c,h2,rfl⟩:=hH j c' hj;refine⟨h1,c,h2,fun hold=>?_⟩;cases c with
  |own e sz es=>exact hold.mono hle fun _ _ _ _=>rfl
  |ext x=>exact hold.mono hle fun _ _ _ _=>rfl
  | obj e ls=>
    obtain⟨i',vs',hi',hh',hn',hc'⟩:=hold;refine⟨i',vs',hi',hh',by simpa using hn',fun j l hj=>?_⟩;rw[x2e]at hj;cases hq:ls[j]?with
    |none=>rw[hq]at hj;cases hj
    | some l'=>
      rw[hq]at hj;cases hj;obtain⟨u,h3,h4⟩:=hc' j l' hq;exact⟨u,h3,h4.fz hle hi (hp τ hle hτ)⟩
inductive LenK(n:Nat)(es:List AV)(K:Prop):Prop
 |mk (hn:n=es.length) (hK:K)
def rowSK(k:Nat)(es:List AV)(zs:List Nat):List (Nat×LV)->(List (Nat×LV)->Prop)->Prop
 |[],K=>K []
 | (j,l)::r,K=>match l with
   | .hd k' o n=>bif k'==k then
      bif (bif beq o 0 then memN' j zs else false)then LenK n es (rowSK k es zs r fun r=>K ((j,.p (.sl es))::r))else rowSK k es zs r fun r=>K ((j,.p .any)::r)
     else rowSK k es zs r fun r=>K ((j,.hd k' o n)::r)
   |l=>YF (l.kill k) fun l=>rowSK k es zs r fun r=>K ((j,l)::r)
where memN' (i:Nat):List Nat->Bool
 |[]=>false
 |j::r=>bif beq j i then true else memN' i r
def PH(k:Nat):Heap->(Heap->Prop)->Prop
 |[],K=>K []
 | (j,c)::r,K=>bif j==k then PH k r K else
   match c with
   |.obj e ls=>DZ (ls.map (LV.kill k)) fun ls=>PH k r fun r=>K ((j,.obj e ls)::r)
   |.own e sz es=>PH k r fun r=>K ((j,.own e sz es)::r)
   |.ext x=>PH k r fun r=>K ((j,.ext x)::r)
theorem Gc{k:Nat}{es:List AV}{zs:List Nat}:∀{sl:List (Nat×LV)}{K:List (Nat×LV)->Prop},rowSK k es zs sl K->∃sl',K sl'/\∀i,getS sl' i=(getS sl i).kill k\/(getS sl i=.hd k 0 es.length/\getS sl' i=.p (.sl es))
 |[],_,h=>⟨[],h,fun _=>.inl rfl⟩
 | (j,l)::r,K,h=>by
   have key:∀l',(l'=l.kill k\/(l=.hd k 0 es.length/\l'=.p (.sl es)))->(rowSK k es zs r fun r=>K ((j,l')::r))->∃sl',K sl'/\∀i,getS sl' i=(getS ((j,l)::r) i).kill k\/(getS ((j,l)::r) i=.hd k 0 es.length/\getS sl' i=.p (.sl es)):=fun l' hl' h=>by
    obtain⟨sl',hK,hs⟩:=Gc h;refine⟨_,hK,fun i=>?_⟩;simp only[getS];cases j==i
    ·exact hs i
    ·exact hl'
   unfold rowSK at h;split at h
   ·rename_i k' o n;by_cases hk:k'=k
    ·subst hk;simp only[x6u,x3p]at h;cases hb:(bif beq o 0 then rowSK.memN' j zs else false)with
     | false=>
       rw[hb,x3t]at h;exact key _ (.inl (by simp[LV.kill,LV.free])) h
     | true=>
       rw[hb,x3p]at h;obtain⟨hn,h⟩:=h;have ho:o=0:=by
        cases o with
        |zero=>rfl
        |succ o=>cases hb
       subst ho hn;exact key _ (.inr ⟨rfl,rfl⟩) h
    ·have hb:(k'==k)=false:=by simp[hk]
     simp only[hb,x3t]at h;exact key _ (.inl (by simp[LV.kill,LV.free,hb])) h
   ·rw[XW]at h;exact key _ (.inl rfl) h
theorem BA{k:Nat}:∀{H:Heap}{K:Heap->Prop},PH k H K->∃H',K H'/\(H'.map (·.1)).Sublist (H.map (·.1))/\∀j c',(j,c')∈H'->j≠k/\∃c,(j,c)∈H/\c'=c.kill k
 |[],_,h=>⟨[],h,x8o _,by simp⟩
 | (j,c)::r,K,h=>by
   simp only[PH]at h;by_cases hj:j=k
   ·subst hj;simp only[x6u,x3p]at h;obtain⟨H',hK,h1,h2⟩:=BA h;exact⟨H',hK,h1.cons _,fun j' c' hm=>let ⟨h3,c0,h4,h5⟩:=h2 j' c' hm;⟨h3,c0,x2c _ h4,h5⟩⟩
   ·have hb:(j==k)=false:=by simp[hj]
    simp only[hb,x3t]at h;have key:(PH k r fun r=>K ((j,c.kill k)::r))->∃H',K H'/\(H'.map (·.1)).Sublist (((j,c)::r).map (·.1))/\∀j' c',(j',c')∈H'->j'≠k/\∃c0,(j',c0)∈(j,c)::r/\c'=c0.kill k:=fun h=>by
     obtain⟨H',hK,h1,h2⟩:=BA h;refine⟨_,hK,h1.cons_cons _,fun j' c' hm=>?_⟩;rcases x2i.1 hm with he|hm
     ·cases he;exact⟨hj,_,x2r,rfl⟩
     ·obtain⟨h3,c0,h4,h5⟩:=h2 j' c' hm;exact⟨h3,c0,x2c _ h4,h5⟩
    cases c with
    |obj e ls=>simp only[WS]at h;exact key h
    |own e sz es=>exact key h
    |ext x=>exact key h
theorem Le.row{N:Nat}{s:St}{k:Nat}{e:TypeId}{sz:Nat}{es:List AV}{zs:List Nat}(hg:getH s.H k=some (.own e sz es)){K:St->Prop}(h:rowSK k es zs s.sl fun sl=>PH k s.H fun H=>K ⟨sl,H⟩):∃s',K s'/\Le N s s':=by
 obtain⟨sl,h,hsl⟩:=Gc h;obtain⟨H,h,hsub,hH⟩:=BA h;refine⟨_,h,fun σ β a w hr=>?_⟩;rcases ZL.1 (hr.heap.chunks k _ (QG hg))with⟨hb0,rfl⟩|⟨i,vs,hi,hisz,hh,hn,hle',hmax,hE⟩
 ·refine⟨σ,β,⟨hr.size,hr.defers,fun j=>?_,⟨hr.heap.mem,fun j c' hj=>?_,hsub.nodup hr.heap.nodup,fun j hj=>hr.heap.apart j (hsub.subset hj),fun j hj j' hj'=>hr.heap.inj j (hsub.subset hj) j' (hsub.subset hj')⟩⟩,Mem.le_refl σ,Frm.refl _ _,fun _ h0 h1=>absurd h0 h1,fun b ⟨j,hj,r⟩=>.inl ⟨j,hsub.subset hj,r⟩,fun _ _ _=>rfl⟩
  ·show RepL σ β (getS sl j) _;have hv:=hr.slots j;rcases hsl j with he|⟨h1,h2⟩
   ·rw[he];exact hv.kill k
   ·rw[h2];rw[h1]at hv;rcases hv.hdI with⟨_,_,_,he⟩|⟨i,_,hk,_⟩
    ·rw[he];exact .p .nilsl
    ·rw[hb0]at hk;cases hk
  ·obtain⟨_,c,h2,rfl⟩:=hH j c' hj;exact(hr.heap.chunks j c h2).kill k
 ·refine hr.lay hi (QN hg) hh (fun τ hle hτ j v hv=>?_) (fun τ hle hτ j c' hj=>?_) (hsub.nodup hr.heap.nodup)
  ·show RepL τ β (getS sl j) v;rcases hsl j with he|⟨h1,h2⟩
   ·rw[he];exact(hv.kill k).mono hle
   ·rw [h2];rw[h1]at hv;rcases hv.hdI with⟨hk,_⟩|⟨i',oo,hk,hl,ho,rfl⟩
    ·rw[hi]at hk;cases hk
    ·rw[hi]at hk;cases hk;have hoo:oo=0:=by
      rcases ho with ho|ho
      ·simpa using ho
      ·omega
     subst hoo;obtain⟨u,hu⟩ : ∃u:Nat->Nat->Value,∀(m:Nat)(x:AV)(j:Nat)(c:AV),es[m]?=some x->x.cells[j]?=some c->vs[m*sz+j]?=some (u m j)/\Rep σ c (u m j):=by
      refine⟨fun m j=>(vs[m*sz+j]?).getD undef,fun m x j c hx hj=>?_⟩;obtain⟨v,h1,h2⟩:=hE.rep m x j c hx hj;rw[x4g]at h1;split at h1
      ·have h1':vs[m*sz+j]?=some v:=by simpa using h1
       exact⟨by simp[h1'],by simpa[h1']using h2⟩
      ·cases h1
     exact .p (.sl es i.blk 0 _ sz vs u hτ (by omega) (by omega) hE.size (fun m x j c hx hj=>by simpa using(hu m x j c hx hj).1) fun m x j c hx hj=>(hu m x j c hx hj).2.mono hle)
  ·obtain⟨h1,c,h2,rfl⟩:=hH j c' hj;exact⟨h1,c,h2,fun hold=>(hold.kill k).mono hle fun _ _ _ _=>rfl⟩
def q8m(zs:List Nat)(s:St)(K:St->Prop):Prop:=
 match zs with
 |[]=>K s
 | t::r=>match getS s.sl t with
   | .ptr k _=>match getH s.H k with
     | some (.obj _ ls)=>match P7 ls with
       |some cs=>q6g k cs s.sl fun sl=>q0m k cs s.H fun H=>K ⟨sl,H⟩
       |none=>K s
     |_=>K s
   | .hd k _ _=>match getH s.H k with
     |some (.own _ _ es)=>rowSK k es (t::r) s.sl fun sl=>PH k s.H fun H=>K ⟨sl,H⟩
     |_=>K s
   |_=>K s
def q7o:List (List Nat)->St->(St->Prop)->Prop
 |[],s,K=>K s
 |g::r,s,K=>q8m g s fun s=>q7o r s K
theorem CT{N:Nat}{zs:List Nat}{s:St}{K:St->Prop}(h:q8m zs s K):∃s',K s'/\Le N s s':=by
 unfold q8m at h;split at h
 ·exact⟨s,h,Le.refl s⟩
 ·split at h
  ·split at h
   ·rename_i hg;split at h
    ·rename_i cs hcs;rw[GG hcs]at hg;exact Le.fz hg h
    ·exact⟨s,h,Le.refl s⟩
   ·exact⟨s,h,Le.refl s⟩
  ·split at h
   ·rename_i hg;exact Le.row hg h
   ·exact⟨s,h,Le.refl s⟩
  ·exact⟨s,h,Le.refl s⟩
theorem Ub{N:Nat}:∀{gs:List (List Nat)}{s:St}{K:St->Prop},q7o gs s K->∃s',K s'/\Le N s s'
 |[],s,_,h=>⟨s,h,Le.refl s⟩
 | g::r,s,K,h=>by
   obtain⟨s1,h1,hl1⟩:=CT (N:=N) h;obtain⟨s2,h2,hl2⟩:=Ub (N:=N) h1;exact⟨s2,h2,hl1.trans hl2⟩
def YR(i:Nat):List Nat->Bool
 |[]=>false
 |j::r=>bif j==i then true else YR i r
def IE:List Nat->List (Nat×LV)->(List (Nat×LV)->Prop)->Prop
 |_,[],K=>K []
 |ks,(i,v)::r,K=>IE ks r fun r=>bif YR i ks then K ((i,v)::r)else K r
theorem Gw:∀{ks:List Nat}{sl:List (Nat×LV)}{K:List (Nat×LV)->Prop},IE ks sl K->∃sl',K sl'/\∀i,(YR i ks=true->getS sl' i=getS sl i)/\(YR i ks=false->getS sl' i=.p .any)
 |_,[],_,h=>⟨[],h,fun _=>⟨fun _=>rfl,fun _=>rfl⟩⟩
 | ks,(j,v)::r,K,h=>by
   simp only[IE]at h;obtain⟨sl',hK,hs⟩:=Gw h;cases hm:YR j ks with
   | true=>
     rw[hm,x3p]at hK;refine⟨_,hK,fun i=>?_⟩;simp only[getS];by_cases hj:j=i
     ·subst hj;simp[hm]
     ·have:(j==i)=false:=by simp[hj]
      simp only[this,x3t];exact hs i
   | false=>
     rw[hm,x3t]at hK;refine⟨_,hK,fun i=>⟨fun hi=>?_,(hs i).2⟩⟩;simp only[getS];have:(j==i)=false:=by
      simp only[x9r,ne_eq];rintro rfl;rw[hm]at hi;cases hi
     simp only[this,x3t];exact(hs i).1 hi
def labs:LV->List Nat
 |.ptr k _ |.hd k _ _=>[k]
 |.agg vs |.tup vs=>labsAll vs
 |.p _=>[]
 |.ext k _=>[k]
where labsAll:List LV->List Nat
 |[]=>[]
 |v::r=>labs v++labsAll r
def q8i:Chunk->List Nat
 |.obj _ cs=>labs.labsAll cs
 |.own _ _ _=>[]
 |.ext _=>[]
def O3:Heap->List Nat->List Nat
 |[],zs=>zs
 |(k,c)::r,zs=>bif YR k zs then q8i c++O3 r zs else O3 r zs
def gcK:Heap->List Nat->(Heap->Prop)->Prop
 |[],_,K=>K []
 |(k,c)::r,zs,K=>gcK r zs fun r=>bif (bif ble 1000 k then true else YR k zs)then K ((k,c)::r)else K r
theorem RG:∀{H:Heap}{zs:List Nat}{K:Heap->Prop},gcK H zs K->∃H',K H'/\H'.Sublist H
 |[],_,_,h=>⟨[],h,x8o _⟩
 | (k,c)::r,zs,K,h=>by
   simp only[gcK]at h;obtain⟨H',hK,hs⟩:=RG h;cases hm:(bif ble 1000 k then true else YR k zs)with
   |true=>rw[hm,x3p]at hK;exact⟨_,hK,hs.cons_cons _⟩
   |false=>rw[hm,x3t]at hK;exact⟨_,hK,hs.cons _⟩
def Kc:List Nat->(List Nat->Prop)->Prop
 |[],K=>K []
 |n::r,K=>Kc r fun r=>bif YR n r then K r else K (n::r)
theorem HY:∀{l:List Nat}{K:List Nat->Prop},Kc l K->∃l',K l'
 |[],_,h=>⟨[],h⟩
 | n::r,K,h=>by
   simp only[Kc]at h;obtain⟨l',h'⟩:=HY h;cases hm:YR n l' with
   |true=>rw[hm,x3p]at h';exact⟨_,h'⟩
   |false=>rw[hm,x3t]at h';exact⟨_,h'⟩
def Kj(ks:List Nat)(s:St)(K:St->Prop):Prop:=
 IE ks s.sl fun sl=>Kc (labs.labsAll (sl.map (·.2))) fun l0=>Kc (O3 s.H l0) fun l1=>Kc (O3 s.H l1) fun l2=>gcK s.H l2 fun H=>K ⟨sl,H⟩
theorem Lv{N:Nat}{ks:List Nat}{s:St}{K:St->Prop}(h:Kj ks s K):∃s',K s'/\Le N s s':=by
 obtain⟨sl,h,hs⟩:=Gw h;obtain⟨_,h⟩:=HY h;obtain⟨_,h⟩:=HY h;obtain⟨_,h⟩:=HY h;obtain⟨H,h,hH⟩:=RG h;refine⟨_,h,Cq (fun i=>?_) hH⟩;cases hm:YR i ks with
 |true=>exact .inl ((hs i).1 hm)
 |false=>exact .inr ((hs i).2 hm)
def q5e(ops:Array Oper)(j:Nat):Option Nat:=
 match ops[j]?with
 |some o=>o.dst
 |none=>none
def DH(ops:Array Oper)(s:St)(o:Oper)(go skip:St->Prop):Prop:=
 match o.guard with
 |none=>go s
 | some (j,b)=>match q5e ops j with
   |none=>False
   | some d=>match getS s.sl d with
     | .p .tt=>match b with
       |true=>go s
       |false=>skip s
     | .p .ff=>match b with
       |true=>skip s
       |false=>go s
     |.p .und=>skip s
     |.p (.bool t)=>Br t (q3e s.sl d (.p .tt) fun sl=>match b with
        |true=>go ⟨sl,s.H⟩
        |false=>skip ⟨sl,s.H⟩) (q3e s.sl d (.p .ff) fun sl=>match b with
        |true=>skip ⟨sl,s.H⟩
        |false=>go ⟨sl,s.H⟩)
     |_=>False
def Qs(P:Program)(T:Tab)(N:Nat)(hr:Bool)(s:St)(o:Oper)(K:St->Prop):Prop:=
 bif isV o.op then HC P T hr s o fun v=>YF v fun v=>setD N s.sl o.dst v fun sl=>K ⟨sl,s.H⟩else opW P T N s o K
def Dl(N:Nat)(s:St)(o:Oper)(K:St->Prop):Prop:=setD N s.sl o.dst (.p .und) fun sl=>K ⟨sl,s.H⟩
def ZU(s:St)(K:St->Prop):Prop:=match s with
 |⟨sl,[]⟩=>K ⟨sl,[]⟩
 |⟨sl,c::r⟩=>K ⟨sl,c::r⟩
theorem VY(s:St)(K:St->Prop):ZU s K=K s:=by
 obtain⟨sl,H⟩:=s;cases H<;>rfl
def run(P:Program)(T:Tab)(N:Nat)(ops:Array Oper):List Oper->St->(St->Prop)->Prop
 |[],s,K=>K s
 |o::r,s,K=>DH ops s o (fun s=>Qs P T N true s o fun s=>ZU s fun s=>run P T N ops r s K) fun s=>Dl N s o fun s=>ZU s fun s=>run P T N ops r s K
section
variable {P:Program}{T:Tab}{N:Nat}{σ:Mem}{β:Lab}{a:Act}{w:World}{o:Oper}{K:St->Prop}{s:St}{ops:Array Oper}
theorem Rel.lit(hr:Rel N σ β s a w){d:Nat}{t:Bool}(hd:getS s.sl d=.p (.bool t)){l:LV}(hl:l=.p (if t then .tt else .ff)):Rel N σ β ⟨Mc s.sl d l,s.H⟩ a w:=by
 subst hl;refine⟨hr.size,hr.defers,fun i=>?_,hr.heap⟩;have h0:=hr.slots i;show RepL σ β (getS (Mc s.sl d _) i) _;rw[Fr];split
 ·rename_i he;subst he;rw[hd]at h0;generalize a.tmps.getD d undef=v at h0⊢;cases h0 with
  | p h0=>
    cases h0 with
    | bool=>
      cases t
      ·exact .p .ff
      ·exact .p .tt
 ·exact h0
theorem HK{go skip:St->Prop}(h:DH ops s o go skip)(hr:Rel N σ β s a w):
  ∃s',s'.H=s.H/\Rel N σ β s' a w/\((Region.wanted o (yielded ops a.tmps)=true/\go s')\/(Region.wanted o (yielded ops a.tmps)=false/\skip s')):=by
 unfold DH at h;split at h
 ·rename_i hg;exact⟨s,rfl,hr,.inl ⟨by simp[Region.wanted,hg],h⟩⟩
 ·rename_i j b hg;split at h
  ·exact h.elim
  rename_i d hd;have hdst:(ops[j]?).bind (·.dst)=some d:=by
   unfold q5e at hd;split at hd
   ·rename_i o' ho';rw[ho'];exact hd
   ·cases hd
  have hwant:∀t,a.tmps.getD d undef=.bool t->Region.wanted o (yielded ops a.tmps)=(t==b):=fun t ht=>by
   have hlt:a.tmps[d]?=some (.bool t):=by
    by_cases hlt:d<a.tmps.size
    ·simp[hlt]at ht⊢;exact ht
    ·simp[hlt,undef]at ht
   simp[Region.wanted,hg,yielded,hdst,hlt]
  have hs:=hr.slots d;split at h<;>first|exact h.elim|skip
  ·rename_i he;rw[he]at hs;have hv:a.tmps.getD d undef=.bool true:=by
    generalize a.tmps.getD d undef=v at hs;cases hs with
    |p hs=>cases hs;rfl
   cases b
   ·exact⟨s,rfl,hr,.inr ⟨hwant _ hv,h⟩⟩
   ·exact⟨s,rfl,hr,.inl ⟨hwant _ hv,h⟩⟩
  ·rename_i he;rw[he]at hs;have hv:a.tmps.getD d undef=.bool false:=by
    generalize a.tmps.getD d undef=v at hs;cases hs with
    |p hs=>cases hs;rfl
   cases b
   ·exact⟨s,rfl,hr,.inl ⟨hwant _ hv,h⟩⟩
   ·exact⟨s,rfl,hr,.inr ⟨hwant _ hv,h⟩⟩
  ·rename_i he;rw[he]at hs;have hv:a.tmps.getD d undef=undef:=by
    generalize a.tmps.getD d undef=v at hs;cases hs with
    |p hs=>cases hs;rfl
   refine⟨s,rfl,hr,.inr ⟨?_,h⟩⟩;have:yielded ops a.tmps j=none:=by
    unfold yielded;rw[hdst];simp only[Option.bind_some];cases hq:a.tmps[d]?with
    |none=>rfl
    | some v=>
      have:v=undef:=by simpa[hq]using hv
      subst this;rfl
   simp[Region.wanted,hg,this]
  ·rename_i t he;rw[he]at hs;have hv:a.tmps.getD d undef=.bool t:=by
    generalize a.tmps.getD d undef=v at hs;cases hs with
    |p hs=>cases hs;rfl
   cases t with
   | true=>
     have h:=h.yes rfl;rw[Ye]at h;cases b
     ·exact⟨⟨Mc s.sl d (.p .tt),s.H⟩,rfl,hr.lit he rfl,.inr ⟨hwant _ hv,h⟩⟩
     ·exact⟨⟨Mc s.sl d (.p .tt),s.H⟩,rfl,hr.lit he rfl,.inl ⟨hwant _ hv,h⟩⟩
   | false=>
     have h:=h.no rfl;rw[Ye]at h;cases b
     ·exact⟨⟨Mc s.sl d (.p .ff),s.H⟩,rfl,hr.lit he rfl,.inl ⟨hwant _ hv,h⟩⟩
     ·exact⟨⟨Mc s.sl d (.p .ff),s.H⟩,rfl,hr.lit he rfl,.inr ⟨hwant _ hv,h⟩⟩
theorem Jx(hT:TabOK P T)(h:Qs P T N true s o K)(hr:Rel N σ β s a w):Lx P N σ β a w s o K:=by
 unfold Qs at h;cases hv:isV o.op with
 | true=>
   rw[hv,x3p]at h;obtain⟨v,u,hK,hrep,hrun⟩:=BI hT h hr.slots hr.heap;rw[XW]at hK;intro Q;obtain⟨sl,hK,hr'⟩:=hr.setD hrep hK;exact XS (hrun w hr.heap.mem fun _=>Old.refl w) ⟨σ,β,_,hK,hr',Later.refl _ _ _ _⟩
 | false=>
   rw[hv,x3t]at h;exact Qg hT h hr
theorem J1(hT:TabOK P T):∀(l:List Oper){s:St}{K:St->Prop}{σ:Mem}{β:Lab}{a:Act}{w:World}{Q:Exit->Act->World->Prop},run P T N ops l s K->Rel N σ β s a w->
  (∀a' w' σ' β' s',K s'->Rel N σ' β' s' a' w'->Later σ β s.H w σ' β' s'.H w'->Q .normal a' w')->wpList P ops Q l a w
 |[],s,K,σ,β,a,w,Q,h,hr,hQ=>hQ a w σ β s h hr (Later.refl _ _ _ _)
 | o::r,s,K,σ,β,a,w,Q,h,hr,hQ=>by
   simp only[run,VY]at h;obtain⟨s1,hH,hr1,hw⟩:=HK h hr;unfold wpList;rcases hw with⟨hw,h⟩|⟨hw,h⟩
   ·rw[if_pos hw];refine .inl (Oper.wp_mono (fun a' w' hk=>?_) (Jx hT h hr1 Q));obtain⟨σ',β',s',hK,hr',hl⟩:=hk;rw[hH]at hl;exact J1 hT r hK hr' fun a'' w'' σ'' β'' s'' hK' hr'' hl'=>hQ a'' w'' σ'' β'' s'' hK' hr'' (hl.trans hl')
   ·rw[if_neg (by rw[hw];simp)];obtain⟨sl,hK,hr'⟩:=hr1.setD (u:=undef) (.p .und) h;exact J1 hT r hK hr' fun a'' w'' σ'' β'' s'' hK' hr'' hl'=>hQ a'' w'' σ'' β'' s'' hK' hr'' (hH▸hl')
end
inductive Sched where
 |nil
 |cons (i:Nat) (strict:Bool) (r:Sched)
 |alo (i:Nat) (r:Sched)
 |fork (i:Nat) (a:Sched) (j:Nat) (b:Sched)
 |fork3 (i:Nat) (a:Sched) (j:Nat) (b:Sched) (k:Nat) (c:Sched)
structure Info where
 keep:Nat->List Nat
 sched:Nat->Sched
 frz:Nat->List (List Nat):=fun _=>[]
structure AWp(P:Program)(N:Nat)(c:Code)(K:Exit->St->Prop)(s:St):Prop where
 ok:∀(σ:Mem)(β:Lab)(a:Act)(w:World),Rel N σ β s a w->c.wp P (fun e a' w'=>∃σ' β' s',K e s'/\Rel N σ' β' s' a' w'/\Later σ β s.H w σ' β' s'.H w') a w
structure LoopK(P:Program)(T:Tab)(N:Nat)(info:Info)(c:Code)(K:Exit->St->Prop)(s:St):Prop where
 ok:AWp P N (.loop c) K s
structure DrawK(P:Program)(T:Tab)(N:Nat)(info:Info)(id:Nat)(ops:Array Oper)(K:St->Prop)(s:St):Prop where
 ok:AWp P N (.region id ops true) (fun e s'=>match e with |.normal=>K s'|_=>False) s
structure ScopeK(P:Program)(T:Tab)(N:Nat)(info:Info)(c:Code)(K:Exit->St->Prop)(s:St):Prop where
 ok:AWp P N (.scope c) K s
def Mk(info:Info)(id:Nat)(s:St)(K:St->Prop):Prop:=q7o (info.frz id) s fun s=>Kj (info.keep id) s fun s=>ZU s K
theorem Zx{N:Nat}{info:Info}{id:Nat}{s:St}{K:St->Prop}(h:Mk info id s K):∃s',K s'/\Le N s s':=by
 obtain⟨s1,h1,hl1⟩:=Ub (N:=N) h;obtain⟨s2,h2,hl2⟩:=Lv (N:=N) h1;rw[VY]at h2;exact⟨s2,h2,hl1.trans hl2⟩
def W(P:Program)(T:Tab)(N:Nat)(info:Info):Code->(Exit->St->Prop)->St->Prop
 |.skip,K,s=>K .normal s
 |.region id ops false,K,s=>run P T N ops ops.toList s fun s=>Mk info id s (K .normal)
 |.region id ops true,K,s=>DrawK P T N info id ops (fun s=>Mk info id s (K .normal)) s
 |.seq a b,K,s=>W P T N info a (fun e s=>match e with
    |.normal=>W P T N info b K s
    |e=>K e s) s
 | .cond c a b,K,s=>match QM s.sl c with
   |.p .tt=>W P T N info a K s
   |.p .ff=>W P T N info b K s
   |.p (.bool t)=>Br t (W P T N info a K s) (W P T N info b K s)
   |_=>False
 |.block id b,K,s=>W P T N info b (fun e s=>match e with
    |.exit i=>bif i==id then K .normal s else K (.exit i) s
    |e=>K e s) s
 |.loop b,K,s=>LoopK P T N info b K s
 |.exit id,K,s=>K (.exit id) s
 |.ret,K,s=>K .ret s
 |.label _,K,s=>K .normal s
 |.scope b,K,s=>ScopeK P T N info b K s
 |.goto l,K,s=>K (.goto l) s
 |_,_,_=>False
theorem Later.le'{N:Nat}{σ σ':Mem}{β β':Lab}{s s' s'':St}{a:Act}{w w':World}(h:Later σ β s.H w σ' β' s'.H w')(hle:Le N s' s'')(hr:Rel N σ' β' s' a w'):
  ∃σ'' β'',Rel N σ'' β'' s'' a w'/\Later σ β s.H w σ'' β'' s''.H w':=by
 obtain⟨σ'',β'',h1,h2⟩:=hle σ' β' a w' hr;exact⟨σ'',β'',h1,h.trans h2⟩
theorem KT{P:Program}{T:Tab}{N:Nat}{info:Info}(hT:TabOK P T):∀(c:Code)(K:Exit->St->Prop)(s:St),W P T N info c K s->AWp P N c K s
 |.skip,K,s,h=>⟨fun σ β a w hr=>wp_skip ⟨σ,β,s,h,hr,Later.refl _ _ _ _⟩⟩
 |.label _,K,s,h=>⟨fun σ β a w hr=>wp_label ⟨σ,β,s,h,hr,Later.refl _ _ _ _⟩⟩
 |.exit id,K,s,h=>⟨fun σ β a w hr=>wp_exit ⟨σ,β,s,h,hr,Later.refl _ _ _ _⟩⟩
 |.ret,K,s,h=>⟨fun σ β a w hr=>wp_ret ⟨σ,β,s,h,hr,Later.refl _ _ _ _⟩⟩
 |.region id ops false,K,s,h=>⟨fun σ β a w hr=>wp_region_list (J1 hT ops.toList h hr fun a' w' σ' β' s' hK hr' hl=>by
    obtain⟨s'',hK',hle⟩:=Zx (N:=N) hK;obtain⟨σ'',β'',h1,h2⟩:=hl.le' hle hr';exact⟨σ'',β'',s'',hK',h1,h2⟩)⟩
 |.region id ops true,K,s,h=>⟨fun σ β a w hr=>wp_mono (h.ok.ok σ β a w hr) fun e a' w' ⟨σ',β',s',hK,hr',hl⟩=>by
    cases e<;>first|exact hK.elim|skip
    obtain⟨s'',hK',hle⟩:=Zx (N:=N) hK;obtain⟨σ'',β'',h1,h2⟩:=hl.le' hle hr';exact⟨σ'',β'',s'',hK',h1,h2⟩⟩
 |.seq x y,K,s,h=>⟨fun σ β a w hr=>wp_seq (wp_mono ((KT hT x _ s h).ok σ β a w hr) fun e a' w' ⟨σ',β',s',hK,hr',hl⟩=>by
    cases e with
    |normal=>exact wp_mono ((KT hT y K s' hK).ok σ' β' a' w' hr') fun e a'' w'' ⟨σ'',β'',s'',hK',hr'',hl'⟩=>⟨σ'',β'',s'',hK',hr'',hl.trans hl'⟩
    |_=>exact⟨σ',β',s',hK,hr',hl⟩)⟩
 |.cond c x y,K,s,h=>⟨fun σ β a w hr=>by
    simp only[W]at h;have hc:=QZ hr.slots c;split at h
    ·rename_i he;rw[he]at hc;generalize hv:a.eval c=v at hc;cases hc with
     |p hc=>cases hc;exact wp_cond_true hv ((KT hT x K s h).ok σ β a w hr)
    ·rename_i he;rw[he]at hc;generalize hv:a.eval c=v at hc;cases hc with
     |p hc=>cases hc;exact wp_cond_false hv ((KT hT y K s h).ok σ β a w hr)
    ·rename_i t he;rw[he]at hc;generalize hv:a.eval c=v at hc;cases hc with
     | p hc=>
       cases hc;exact wp_cond_split hv (fun ht=>(KT hT x K s (h.yes ht)).ok σ β a w hr) fun ht=>(KT hT y K s (h.no ht)).ok σ β a w hr
    ·exact h.elim⟩
 |.block id b,K,s,h=>⟨fun σ β a w hr=>wp_block (wp_mono ((KT hT b _ s h).ok σ β a w hr) fun e a' w' ⟨σ',β',s',hK,hr',hl⟩=>by
    cases e with
    | exit i=>
      simp only[Exit.inBlock];by_cases hi:i=id
      ·subst hi;rw[if_pos rfl];simp only[x6u,x3p]at hK;exact⟨σ',β',s',hK,hr',hl⟩
      ·rw[if_neg hi];have:(i==id)=false:=by simp[hi]
       simp only[this,x3t]at hK;exact⟨σ',β',s',hK,hr',hl⟩
    |_=>exact⟨σ',β',s',hK,hr',hl⟩)⟩
 |.loop b,K,s,h=>h.ok
 |.rangeFunc _ _ _ _,_,_,h=>h.elim
 |.scope _,_,_,h=>h.ok
 |.goto l,K,s,h=>⟨fun σ β a w hr=>wp_goto ⟨σ,β,s,h,hr,Later.refl _ _ _ _⟩⟩
 |.refuse _,_,_,h=>h.elim
theorem LoopK.inv{P:Program}{T:Tab}{N:Nat}{info:Info}(hT:TabOK P T){c:Code}{K:Exit->St->Prop}{s:St}{ι:Type}(I:ι->St)(φ:ι->Prop)(μ:ι->Nat)(i0:ι)(h0:Le N s (I i0))(hφ:φ i0)(step:∀i,φ i->W P T N info c (fun e s'=>match e with |.normal=>∃j,φ j/\μ j<μ i/\Le N s' (I j) |e=>K e s') (I i)):LoopK P T N info c K s:=by
 refine⟨⟨fun σ β a w hr b k cs=>?_⟩⟩;have key:∀n i,φ i->μ i=n->∀σ' β' a' w',Rel N σ' β' (I i) a' w'->Later σ β s.H w σ' β' (I i).H w'->
   ∃e a'' w'',(∃σ'' β'' s',K e s'/\Rel N σ'' β'' s' a'' w''/\Later σ β s.H w σ'' β'' s'.H w'')/\Arrives P (lone (b.at a' (.code c :: .inLoop c::k)) cs w') b k cs e a'' w'':=by
  intro n;induction n using Nat.strongRecOn with
  | _ n ih=>
    intro i hi hn σ' β' a' w' hr' hl;obtain⟨e,a₁,w₁,⟨σ₁,β₁,s₁,hq,hr₁,hl₁⟩,harr⟩:=(KT hT c _ (I i) (step i hi)).ok σ' β' a' w' hr' b (.inLoop c::k) cs;have hl₂:=hl.trans hl₁;cases e with
    | normal=>
      obtain⟨j,hj,hlt,hle⟩:=hq;obtain⟨σ₂,β₂,hr₂,hl₃⟩:=hl₂.le' hle hr₁;obtain⟨e,a₃,w₃,hq',harr'⟩:=ih (μ j) (hn▸hlt) j hj rfl σ₂ β₂ a₁ w₁ hr₂ hl₃;exact⟨e,a₃,w₃,hq',.of_steps (Steps.trans harr (.one step_inLoop)) harr'⟩
    |exit id=>exact⟨_,a₁,w₁,⟨σ₁,β₁,s₁,hq,hr₁,hl₂⟩,.pass (x:=.inLoop c) rfl (fun _ _=>.inl (by simp)) harr⟩
    |goto l=>exact⟨_,a₁,w₁,⟨σ₁,β₁,s₁,hq,hr₁,hl₂⟩,.pass (x:=.inLoop c) rfl (fun _ _=>.inl (by simp)) harr⟩
    |ret=>exact⟨_,a₁,w₁,⟨σ₁,β₁,s₁,hq,hr₁,hl₂⟩,.pass (x:=.inLoop c) rfl (fun _ _=>.inl (by simp)) harr⟩
    |panic ch=>exact⟨_,a₁,w₁,⟨σ₁,β₁,s₁,hq,hr₁,hl₂⟩,.pass (x:=.inLoop c) rfl (fun _ _=>.inl (by simp)) harr⟩
    |outgrown=>exact⟨_,a₁,w₁,⟨σ₁,β₁,s₁,hq,hr₁,hl₂⟩,.pass (x:=.inLoop c) rfl (fun _ _=>.inl (by simp)) harr⟩
 obtain⟨σ',β',hr',hl⟩:=(Later.refl σ β s.H w).le' h0 hr;obtain⟨e,a',w',hq,harr⟩:=key _ i0 hφ rfl σ' β' a w hr' hl;exact⟨e,a',w',hq,.of_steps (.one step_loop) harr⟩
end Go.Ab
