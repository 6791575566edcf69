/- Contracts of functions that touch no memory but what they make ('SpecP'): proved by their text, used at a call. Conditions: the table of types is the program's own. -/
import Derived.Orders
import Derived.Test.YtmfnbgbblkhneaaGreatRchL4
set_option linter.unusedSimpArgs false
set_option linter.unusedVariables false
set_option maxRecDepth 100000
set_option maxHeartbeats 16000000
open Nat (ble)
namespace Go.Ab
variable {L:List Nat}{N:Nat}{T:Tab}{fn:Func}{listed:Array Bool}{s:St}{β:Lab}
def Sub(a b:AV):Prop:=∀(σ:Mem)(v:Value),Rep σ a v->Rep σ b v
theorem Sub.refl(a:AV):Sub a a:=fun _ _ h=>h
theorem Sub.of_eq{a b:AV}(h:a=b):Sub a b:=h▸Sub.refl a
theorem Sub.tt{b:Bool}(h:b=true):Sub .tt (.bool b):=fun _ _ hr=>by cases hr;rw[h];exact .bool true
theorem Sub.ff{b:Bool}(h:b=false):Sub .ff (.bool b):=fun _ _ hr=>by cases hr;rw[h];exact .bool false
theorem Sub.bool{a b:Bool}(h:a=b):Sub (.bool a) (.bool b):=h▸Sub.refl _
theorem Sub.int{k:IntKind}{m n:Int}(h:m=n):Sub (.int k m) (.int k n):=h▸Sub.refl _
theorem Sub.nils:Sub .nils (.sl []):=fun _ _ hr=>by cases hr;exact .nilsl
def SubL(as bs:List AV):Prop:=as.length=bs.length/\∀(j:Nat)(a b:AV),as[j]?=some a->bs[j]?=some b->Sub a b
theorem SubL.nil:SubL [] []:=⟨rfl,by simp⟩
theorem SubL.cons{a b:AV}{as bs:List AV}(h:Sub a b)(h':SubL as bs):SubL (a::as) (b::bs):=
 ⟨by simp[h'.1],fun j x y hx hy=>by
   cases j with
   |zero=>simp at hx hy;subst hx hy;exact h
   |succ j=>exact h'.2 j x y (by simpa using hx) (by simpa using hy)⟩
theorem SubL.get{as bs:List AV}(h:SubL as bs){j:Nat}{b:AV}(hb:bs[j]?=some b):∃a,as[j]?=some a/\Sub a b:=by
 have hlt:j<as.length:=by rw[h.1];exact(x2o.1 hb).1
 exact⟨as[j],by simp[hlt],h.2 j _ _ (by simp[hlt]) hb⟩
theorem Sub.agg{as bs:List AV}(h:SubL as bs):Sub (.agg as) (.agg bs):=fun σ v hr=>by
 cases hr with
 |agg _ vs u hn hc hr=>exact .agg bs vs u (by rw[hn,h.1]) (fun j b hb=>let ⟨a,ha,_⟩:=h.get hb;hc j a ha) fun j b hb=>let ⟨a,ha,hs⟩:=h.get hb;hs _ _ (hr j a ha)
theorem Sub.tup{as bs:List AV}(h:SubL as bs):Sub (.tup as) (.tup bs):=fun σ v hr=>by
 cases hr with
 |tup _ vs u hn hc hr=>exact .tup bs vs u (by rw[hn,h.1]) (fun j b hb=>let ⟨a,ha,_⟩:=h.get hb;hc j a ha) fun j b hb=>let ⟨a,ha,hs⟩:=h.get hb;hs _ _ (hr j a ha)
inductive Frz(H:Heap):LV->AV->Prop
 |p {a b:AV} (h:Sub a b):Frz H (.p a) b
 |hd {k n:Nat} {e sz:Nat} {es:List AV} (hg:getH H k=some (.own e sz es)) (hn:n=es.length):Frz H (.hd k 0 n) (.sl es)
 |ptr {k off:Nat} {e:Nat} {ls:List LV} {cs:List AV} (hg:getH H k=some (.obj e ls)) (hl:ls.length=cs.length)
    (h:∀(j:Nat)(l:LV)(c:AV),ls[j]?=some l->cs[j]?=some c->Frz H l c):Frz H (.ptr k off) (.ip (cs.drop off))
 |row {k a:Nat} {e e2 sz:Nat} {rows:List (List AV)} {hole:List Nat} {row:List AV} (hg:getH H k=some (.ext (.mat e e2 sz rows hole))) (hr:rows[a]?=some row) (hh:a∉hole):Frz H (.ext k (.row a row.length)) (.sl row)
 |mat {k n:Nat} {e e2 sz:Nat} {rows:List (List AV)} (hg:getH H k=some (.ext (.mat e e2 sz rows []))) (hn:n=rows.length):Frz H (.hd k 0 n) (.sl (rows.map .sl))
 |hdo {k n e sz:Nat} {ls:List LV} {cs es:List AV} (hg:getH H k=some (.obj e ls)) (hl:ls.length=cs.length)
    (h:∀(j:Nat)(l:LV)(c:AV),ls[j]?=some l->cs[j]?=some c->Frz H l c) (hn:n=es.length) (hz:∀(m:Nat)(x:AV),es[m]?=some x->x.cells.length=sz)
    (hx:∀(m:Nat)(x:AV)(j:Nat)(c:AV),es[m]?=some x->x.cells[j]?=some c->cs[m*sz+j]?=some c):Frz H (.hd k 0 n) (.sl es)
 |sub {l:LV} {a b:AV} (h:Frz H l a) (hs:Sub a b):Frz H l b
 |agg {ls:List LV} {cs:List AV} (hl:ls.length=cs.length) (h:∀(j:Nat)(l:LV)(c:AV),ls[j]?=some l->cs[j]?=some c->Frz H l c):Frz H (.agg ls) (.agg cs)
 |tup {ls:List LV} {cs:List AV} (hl:ls.length=cs.length) (h:∀(j:Nat)(l:LV)(c:AV),ls[j]?=some l->cs[j]?=some c->Frz H l c):Frz H (.tup ls) (.tup cs)
theorem DW{σ:Mem}{H:Heap}{w:World}(h:HRel σ β H w):
  ∃τ:Mem,σ.le τ/\τ.lies w/\(∀b,τ b≠none->σ b≠none\/owns β H b)/\∀l v c,RepL σ β l v->Frz H l c->Rep τ c v:=by
 let τ:Mem:=fun b=>@ite _ (owns β H b) (Classical.propDecidable _) (match w.heap[b]?with
  |some (.cells c _ _)=>some c
  |_=>none) (σ b)
 have hpos:∀b,owns β H b->∀c e fr,w.heap[b]?=some (.cells c e fr)->τ b=some c:=fun b hb c e fr hh=>by
  show @ite _ (owns β H b) (Classical.propDecidable _) _ _=_;rw[if_pos hb,hh]
 have hneg:∀b,¬owns β H b->τ b=σ b:=fun b hb=>by
  show @ite _ (owns β H b) (Classical.propDecidable _) _ _=_;rw[if_neg hb]
 have hle:σ.le τ:=fun b c hb=>by
  rw[hneg b]
  ·exact hb
  ·rintro⟨k,hk,i,hi,hib⟩;rw[(h.apart k hk i hi b hib).1]at hb;cases hb
 have Jb:∀{e2 sz b c:Nat}{row:List AV}{ws:Array Value},owns β H b->w.heap[b]?=some (.cells ws e2 (0,0))->row.length<=c->c<=maxLen->
   (∀(m:Nat)(x:AV),row[m]?=some x->x.cells.length=sz/\∀(j:Nat)(c':AV),x.cells[j]?=some c'->∃u:Value,ws[m*sz+j]?=some u/\Rep σ c' u)->Rep τ (.sl row) (.slice (some ⟨b,0,none⟩) row.length c):=fun {e2 sz b c row ws} hb hh h1 h2 h3=>by
  refine .sl row b 0 c sz ws (fun m j=>(ws[m*sz+j]?).getD undef) (hpos b hb _ _ _ hh) h1 h2 (fun m x hx=>(h3 m x hx).1) (fun m x j c' hx hj=>?_) fun m x j c' hx hj=>?_
  ·obtain⟨u,h4,_⟩:=(h3 m x hx).2 j c' hj;simp[h4]
  ·obtain⟨u,h4,h5⟩:=(h3 m x hx).2 j c' hj;simpa[h4]using h5.mono hle
 refine⟨τ,hle,fun b c hb=>?_,fun b hb=>?_,fun l v c hr hf=>?_⟩
 ·by_cases ho:owns β H b
  ·have hb':@ite _ (owns β H b) (Classical.propDecidable _) (match w.heap[b]?with
    |some (.cells c _ _)=>some c
    |_=>none) (σ b)=some c:=hb
   rw[if_pos ho]at hb';split at hb'
   ·rename_i c' e fr hh;cases hb';exact⟨e,fr,hh⟩
   ·cases hb'
  ·rw[hneg b ho]at hb;exact h.mem b c hb
 ·by_cases ho:owns β H b
  ·exact .inr ho
  ·rw[hneg b ho]at hb;exact .inl hb
 ·induction hf generalizing v with
  | p hs=>
    cases hr with
    |p hr=>exact hs _ _ (hr.mono hle)
  | @hd k n e sz es hg hn=>
    subst hn;have hlab:=QN hg;rcases ZL.1 (h.chunks k _ (QG hg))with⟨hb0,rfl⟩|⟨i,vs,hi,hisz,hh,hn,hle',hmax,hE⟩
    ·rcases hr.hdI with⟨_,_,_,rfl⟩|⟨i,_,hk,_⟩
     ·exact .nilsl
     ·rw[hb0]at hk;cases hk
    ·rcases hr.hdI with⟨hk,_⟩|⟨i',oo,hk,hl,ho,rfl⟩
     ·rw[hi]at hk;cases hk
     ·rw[hi]at hk;cases hk;have hoo:oo=0:=by
       rcases ho with ho|ho
       ·simpa using ho
       ·omega
      subst hoo;have hown:owns β H i.blk:=⟨k,hlab,i,hi,.inl rfl⟩;obtain⟨u,hu⟩ : ∃u:Nat->Nat->Value,∀(m:Nat)(x:AV)(j:Nat)(c:AV),es[m]?=some x->x.cells[j]?=some c->vs[m*sz+j]?=some (u m j)/\Rep σ c (u m j):=by
       refine⟨fun m j=>(vs[m*sz+j]?).getD undef,fun m x j c hx hj=>?_⟩;obtain⟨v,h1,h2⟩:=hE.rep m x j c hx hj;rw[x4g]at h1;split at h1
       ·have h1':vs[m*sz+j]?=some v:=by simpa using h1
        exact⟨by simp[h1'],by simpa[h1']using h2⟩
       ·cases h1
      exact .sl es i.blk 0 _ sz vs u (hpos _ hown _ _ _ hh) (by omega) (by omega) hE.size (fun m x j c hx hj=>by simpa using(hu m x j c hx hj).1) fun m x j c hx hj=>(hu m x j c hx hj).2.mono hle
  | @row k a e e2 sz rows hole row hg hrow hnh=>
    have hlab:=QN hg;cases hr with
    | ext _ _ i _ hk hd=>
      rcases h.chunks k _ (QG hg)with h0|⟨i',vs,hi,h1,hh,h2,h3,h4,h5,h6,hc⟩
      ·rw[hk]at h0;cases h0.1
      ·rw[hk]at hi;cases hi;rcases(hc a row hrow).2 hnh with⟨h7,h8,_⟩|⟨b,c,ws,h7,h8,h9,h10,h11,h12,h13⟩
       ·rcases hd with⟨_,_,rfl⟩|⟨b,c,hb,_,_⟩
        ·rw[h8];exact .nilsl
        ·rw[hb]at h7;cases h7
       ·rcases hd with⟨hb,_,_⟩|⟨b',c',hb,_,rfl⟩
        ·rw[hb]at h7;cases h7
        ·rw[hb]at h7;cases h7;exact Jb ⟨k,hlab,i,hk,.inr ⟨c,x3k hb⟩⟩ h9 h11 h12 h13
  | @mat k n e e2 sz rows hg hn=>
    subst hn;have hlab:=QN hg;rcases h.chunks k _ (QG hg)with⟨hb0,rfl⟩|⟨i,vs,hi,h1,hh,h2,h3,h4,h5,h6,hc⟩
    ·rcases hr.hdI with⟨_,_,_,rfl⟩|⟨i,_,hk,_⟩
     ·exact .nilsl
     ·rw[hb0]at hk;cases hk
    ·rcases hr.hdI with⟨hk,_⟩|⟨i',oo,hk,hl,ho,rfl⟩
     ·rw[hi]at hk;cases hk
     ·rw [hi]at hk;cases hk;have hoo:oo=0:=by
       rcases ho with ho|ho
       ·simpa using ho
       ·omega
      subst hoo;have hown:owns β H i.blk:=⟨k,hlab,i,hi,.inl rfl⟩;have hrow:∀(a:Nat)(row:List AV),rows[a]?=some row->∃u:Value,vs[a]?=some u/\Rep τ (.sl row) u:=fun a row hrow=>by
       rcases(hc a row hrow).2 (by simp)with⟨h7,h8,h9⟩|⟨b,c,ws,h7,h8,h9,h10,h11,h12,h13⟩
       ·exact⟨_,h9,h8 ▸ .nilsl⟩
       ·exact⟨_,h8,Jb ⟨k,hlab,i,hi,.inr ⟨c,x3k h7⟩⟩ h9 h11 h12 h13⟩
      have hel:∀(m:Nat)(x:AV),(rows.map AV.sl)[m]?=some x->∃row,rows[m]?=some row/\x=.sl row:=fun m x hx=>by
       rw[x2e]at hx;cases hq:rows[m]?with
       |none=>rw[hq]at hx;cases hx
       |some row=>rw[hq]at hx;cases hx;exact⟨row,rfl,rfl⟩
      have hpr:Rep τ (.sl (rows.map AV.sl)) (.slice (some ⟨i.blk,0,none⟩) (rows.map AV.sl).length i.cap):=by
       refine .sl (rows.map .sl) i.blk 0 i.cap 1 vs (fun m _=>(vs[m]?).getD undef) (hpos _ hown _ _ _ hh) (by simpa using h3) h4 (fun m x hx=>?_) (fun m x j c hx hj=>?_) fun m x j c hx hj=>?_
       ·obtain⟨row,_,rfl⟩:=hel m x hx;rfl
       ·obtain⟨row,hq,rfl⟩:=hel m x hx;obtain⟨u,h7,_⟩:=hrow m row hq;have hj0:j=0:=by
         have:=(x2o.1 hj).1;simpa[AV.cells]using this
        subst hj0;simp[h7]
       ·obtain⟨row,hq,rfl⟩:=hel m x hx;obtain⟨u,h7,h8⟩:=hrow m row hq;have hj0:j=0:=by
         have:=(x2o.1 hj).1;simpa[AV.cells]using this
        subst hj0;simp only[AV.cells,x8n,x6r]at hj;subst hj;simpa[h7]using h8
      simpa using hpr
  |sub _ hs ih=>exact hs _ _ (ih v hr)
  | @hdo k n e sz ls cs es hg hl _ hn hz hx ih=>
    subst hn;have hlab:=QN hg;obtain⟨i,vs,hi,hh,hvn,hc⟩:=h.chunks k _ (QG hg);rcases hr.hdI with⟨hk,_⟩|⟨i',oo,hk,hlen,ho,rfl⟩
    ·rw[hi]at hk;cases hk
    ·rw[hi]at hk;cases hk;have hoo:oo=0:=by
      rcases ho with ho|ho
      ·simpa using ho
      ·omega
     subst hoo;have hown:owns β H i.blk:=⟨k,hlab,i,hi,.inl rfl⟩;have hcap:=i.ok;have hget:∀(j:Nat)(c:AV),cs[j]?=some c->∃u:Value,vs[j]?=some u/\Rep τ c u:=fun j c hj=>by
      have hlt:j<ls.length:=by rw[hl];exact(x2o.1 hj).1
      obtain⟨u,h1,h2⟩:=hc j ls[j] (by simp[hlt]);exact⟨u,h1,ih j _ c (by simp[hlt]) hj u h2⟩
     refine .sl es i.blk 0 _ sz vs (fun m j=>(vs[m*sz+j]?).getD undef) (hpos _ hown _ _ _ hh) (by omega) (by omega) hz (fun m x j c hx1 hj=>?_) fun m x j c hx1 hj=>?_
     ·obtain⟨u,h1,_⟩:=hget _ c (hx m x j c hx1 hj);simp[h1]
     ·obtain⟨u,h1,h2⟩:=hget _ c (hx m x j c hx1 hj);simpa[h1]using h2
  | @ptr k off e ls cs hg hl _ ih=>
    have hlab:=QN hg;obtain⟨i,vs,hi,hh,hn,hc⟩:=h.chunks k _ (QG hg);cases hr with
    | ptr _ _ i' hk=>
      rw[hi]at hk;cases hk;have hown:owns β H i.blk:=⟨k,hlab,i,hi,.inl rfl⟩;have hget:∀(j:Nat)(c:AV),cs[j]?=some c->∃u:Value,vs[j]?=some u/\Rep τ c u:=fun j c hj=>by
       have hlt:j<ls.length:=by rw[hl];exact(x2o.1 hj).1
       obtain⟨u,h1,h2⟩:=hc j ls[j] (by simp[hlt]);exact⟨u,h1,ih j _ c (by simp[hlt]) hj u h2⟩
      refine .ip _ i.blk off vs (fun j=>(vs[off+j]?).getD undef) (hpos _ hown _ _ _ hh) (fun j c hj=>?_) fun j c hj=>?_
      ·obtain⟨u,h1,_⟩:=hget (off+j) c (by simpa using hj);simp[h1]
      ·obtain⟨u,h1,h2⟩:=hget (off+j) c (by simpa using hj);simpa[h1]using h2
  | @agg ls cs hl _ ih=>
    cases hr with
    | agg _ vs u hn hc hrr=>
      refine .agg cs vs u (by rw[hn,hl]) (fun j c hj=>?_) fun j c hj=>?_
      ·have hlt:j<ls.length:=by rw[hl];exact(x2o.1 hj).1
       exact hc j ls[j] (by simp[hlt])
      ·have hlt:j<ls.length:=by rw[hl];exact(x2o.1 hj).1
       exact ih j ls[j] c (by simp[hlt]) hj _ (hrr j ls[j] (by simp[hlt]))
  | @tup ls cs hl _ ih=>
    cases hr with
    | tup _ vs u hn hc hrr=>
      refine .tup cs vs u (by rw[hn,hl]) (fun j c hj=>?_) fun j c hj=>?_
      ·have hlt:j<ls.length:=by rw[hl];exact(x2o.1 hj).1
       exact hc j ls[j] (by simp[hlt])
      ·have hlt:j<ls.length:=by rw[hl];exact(x2o.1 hj).1
       exact ih j ls[j] c (by simp[hlt]) hj _ (hrr j ls[j] (by simp[hlt]))
structure SpecP(P:Program)(f:FuncId)(args:List AV)(R:AV->Prop):Prop where
 go:∀(vals:Array Value)(w:World),(callFunc f vals).run P w=.ok (.enter f vals) w
 ok:∀(σ:Mem)(w:World)(vals:Array Value),vals.size=args.length->(∀(j:Nat)(c:AV),args[j]?=some c->Rep σ c (vals.getD j undef))->σ.lies w->
  Calls P f vals w fun e w'=>∃c u σ',e=.returned u/\R c/\Rep σ' c u/\σ.le σ'/\σ'.lies w'/\Frm (fun _=>False) w w'/\∀b,σ b=none->σ' b≠none->w.heap.size<=b
theorem SpecP.mono{P:Program}{f:FuncId}{args:List AV}{R R':AV->Prop}(h:SpecP P f args R)(hR:∀x,R x->R' x):SpecP P f args R':=
 ⟨h.go,fun σ w vals h1 h2 h3=>(h.ok σ w vals h1 h2 h3).mono fun _ _ ⟨c,u,σ',he,hc,rest⟩=>⟨c,u,σ',he,hR c hc,rest⟩⟩
inductive RetK(H:Heap)(v:LV)(R:AV->Prop):Prop
 |mk (c:AV) (hf:Frz H v c) (hR:R c)
def E0(T:Tab)(s:St):List ResultVar->(List LV->Prop)->Prop
 |[],K=>K []
 |.tmp t::r,K=>YF (getS s.sl t) fun v=>E0 T s r fun vs=>K (v::vs)
 | .cell a t::r,K=>match getS s.sl a with
   | .ptr k off=>match getH s.H k with
     |some (.obj _ cs)=>ldL T t (cs.drop off) fun v=>E0 T s r fun vs=>K (v::vs)
     |_=>False
   |_=>False
def Dx(vs:List LV):LV:=match vs with
 |[v]=>v
 |vs=>mkTup vs
def x1x(T:Tab)(rs:Array ResultVar)(R:AV->Prop):Exit->St->Prop
 |.ret,s |.normal,s=>E0 T s rs.toList fun vs=>RetK s.H (Dx vs) R
 |_,_=>False
theorem Vy{P:Program}{T:Tab}{N:Nat}{σ:Mem}{β:Lab}{s:St}{a:Act}{w:World}(hT:TabOK P T)(hr:Rel N σ β s a w):∀(rs:List ResultVar){K:List LV->Prop},E0 T s rs K->
  ∃ls vs,K ls/\RepC σ β ls vs/\(rs.mapM fun
   |.tmp t=>pure (a.tmps.getD t undef)
   |.cell c t=>do loadVar t (<-asAddr (a.tmps.getD c undef)):Sem (List Value)).run P w=.ok vs w
 |[],K,h=>⟨[],[],h,⟨rfl,by simp⟩,rfl⟩
 | .tmp t::r,K,h=>by
   simp only[E0,XW]at h;obtain⟨ls,vs,hK,hc,hrun⟩:=Vy hT hr r h;refine⟨_,a.tmps.getD t undef::vs,hK,⟨by simp[hc.1],fun j l hj=>?_⟩,by simp only[List.mapM_cons,Sem.run_bind,Sem.run_pure,Result.andThen_ok,hrun]⟩;cases j with
   |zero=>simp at hj;subst hj;exact⟨_,rfl,hr.slots t⟩
   |succ j=>exact hc.2 j l (by simpa using hj)
 | .cell c t::r,K,h=>by
   simp only[E0]at h;have hs:=hr.slots c;split at h<;>first|exact h.elim|skip
   rename_i k off he;split at h<;>first|exact h.elim|skip
   rename_i e cs hg;rw[he]at hs;obtain⟨i,cur,hi,hh,hn,hcc⟩:=hr.heap.chunks k _ (QG hg);generalize hv:a.tmps.getD c undef=v at hs;cases hs with
   | ptr _ _ i' hk=>
     rw[hi]at hk;cases hk;obtain⟨l,u,hK,hrep,hl⟩:=Qq (P:=P) hT h (off:=off) hh (fun j l hj=>hcc (off+j) l (by simpa using hj));obtain⟨ls,vs,hK,hc,hrun⟩:=Vy hT hr r hK;refine⟨_,u::vs,hK,⟨by simp[hc.1],fun j l' hj=>?_⟩,?_⟩
     ·cases j with
      |zero=>simp at hj;subst hj;exact⟨_,rfl,hrep⟩
      |succ j=>exact hc.2 j l' (by simpa using hj)
     ·have hl':(loadVar t ⟨i.blk,off,none⟩).run P w=.ok u w:=by simpa[Instr.loadAt,Instr.sureAddr]using hl w rfl
      have hasA:(asAddr (.pointer (some ⟨i.blk,off,none⟩))).run P w=.ok ⟨i.blk,off,none⟩ w:=rfl;simp only[List.mapM_cons,Sem.run_bind,hv,hasA,Sem.run_pure,Result.andThen_ok,hl',hrun]
theorem RepC.mkTup{σ:Mem}{β:Lab}{ls:List LV}{vs:List Value}(h:RepC σ β ls vs):RepL σ β (mkTup ls) (.tuple vs.toArray):=by
 refine RepL.mkTup (fun j=>(vs[j]?).getD undef) (by simpa using h.1) (fun j l hj=>?_) fun j l hj=>?_
 ·obtain⟨u,h1,_⟩:=h.2 j l hj;simp[h1]
 ·obtain⟨u,h1,h2⟩:=h.2 j l hj;simpa[h1]using h2
theorem I9{P:Program}{σ:Mem}{a:Act}{w:World}{R:AV->Prop}(hT:TabOK P T)(hr:Rel N σ β s a w)(h:E0 T s fn.results.toList fun vs=>RetK s.H (Dx vs) R):
  ∃v u,RetK s.H v R/\RepL σ β v u/\(results fn a.tmps).run P w=.ok u w:=by
 obtain⟨ls,vs,hK,hc,hrun⟩:=Vy hT hr fn.results.toList h;have hm:(fn.results.mapM fun
   |.tmp t=>pure (a.tmps.getD t undef)
   |.cell c t=>do loadVar t (<-asAddr (a.tmps.getD c undef)):Sem (Array Value)).run P w=.ok vs.toArray w:=by
  rw[Array.mapM_eq_mapM_toList];simp only[Sem.run_map,hrun,Result.andThen_ok]
 refine⟨Dx ls,if h:vs.toArray.size=1 then vs.toArray[0]else .tuple vs.toArray,hK,?_,?_⟩
 ·unfold Dx;split
  ·rename_i v;have h1:vs.length=1:=hc.1;obtain⟨u,h2,h3⟩:=hc.2 0 v rfl;rw[dif_pos (by simpa using h1)];have:vs.toArray[0]'(by simp[h1])=u:=by
    have:=(x2o.1 h2).2;simpa using this
   rw[this];exact h3
  ·rename_i hne;rw[dif_neg]
   ·exact hc.mkTup
   ·intro h1;have h1':ls.length=1:=by rw[<-hc.1];simpa using h1
    obtain⟨x,hx⟩:=List.length_eq_one_iff.1 h1';exact hne x hx
 ·unfold results;rw[Sem.run_bind]
  erw [hm]
  rfl
theorem Cv{P:Program}{σ:Mem}{a:Act}{w:World}{K:List LV->Prop}(hT:TabOK P T)(hr:Rel N σ β s a w)(h:E0 T s fn.results.toList K):
  ∃ls u,K ls/\RepL σ β (Dx ls) u/\(results fn a.tmps).run P w=.ok u w:=by
 obtain⟨ls,vs,hK,hc,hrun⟩:=Vy hT hr fn.results.toList h;have hm:(fn.results.mapM fun
   |.tmp t=>pure (a.tmps.getD t undef)
   |.cell c t=>do loadVar t (<-asAddr (a.tmps.getD c undef)):Sem (Array Value)).run P w=.ok vs.toArray w:=by
  rw[Array.mapM_eq_mapM_toList];simp only[Sem.run_map,hrun,Result.andThen_ok]
 refine⟨ls,if h:vs.toArray.size=1 then vs.toArray[0]else .tuple vs.toArray,hK,?_,?_⟩
 ·unfold Dx;split
  ·rename_i v;have h1:vs.length=1:=hc.1;obtain⟨u,h2,h3⟩:=hc.2 0 v rfl;rw[dif_pos (by simpa using h1)];have:vs.toArray[0]'(by simp[h1])=u:=by
    have:=(x2o.1 h2).2;simpa using this
   rw[this];exact h3
  ·rename_i hne;rw[dif_neg]
   ·exact hc.mkTup
   ·intro h1;have h1':ls.length=1:=by rw[<-hc.1];simpa using h1
    obtain⟨x,hx⟩:=List.length_eq_one_iff.1 h1';exact hne x hx
 ·unfold results;rw[Sem.run_bind]
  erw [hm]
  rfl
def P9:List AV->Nat->List (Nat×LV)
 |[],_=>[]
 |a::r,i=>(i,.p a)::P9 r (i+1)
theorem RH:∀(args:List AV)(k i:Nat),getS (P9 args k) i=if k<=i then((args[i-k]?).map LV.p).getD (.p .any)else .p .any
 |[],k,i=>by simp[P9,getS]
 | a::r,k,i=>by
   simp only[P9,getS,Xd,RH r];by_cases h:k=i
   ·subst h;simp
   ·rw[if_neg h];by_cases h1:k<=i
    ·rw[if_pos h1,if_pos (by omega)];rw[show i-k=(i-(k+1))+1 by omega];simp
    ·rw[if_neg h1,if_neg (by omega)]
theorem SpecP.body{P:Program}(info:Info)(hT:TabOK P T){f:FuncId}{c:Code}(hf:P.funcs[f]?=some fn)(hb:fn.body=some c)(hgo:∀(vals:Array Value)(w:World),(callFunc f vals).run P w=.ok (.enter f vals) w){args:List AV}(hlen:args.length<=fn.ntmps){R:AV->Prop}(h:W P T fn.ntmps info c (x1x T fn.results R) ⟨P9 args 0,[]⟩):SpecP P f args R:=by
 refine⟨hgo,fun σ w vals h1 h2 h3=>calls_of_wp hf hb ?_⟩;have hrel:Rel fn.ntmps σ (fun _=>none) ⟨P9 args 0,[]⟩ {tmps:=vals++Array.replicate (fn.ntmps-vals.size) undef,defers:=[]} w:=by
  refine⟨by simp;omega,rfl,fun i=>?_,⟨h3,by simp,by simp,by simp,by simp⟩⟩;show RepL σ _ (getS (P9 args 0) i) _;rw[RH,if_pos (x3z i)];cases hi:args[i-0]?with
  |none=>exact .p (.any _)
  | some c=>
    simp only[Nat.sub_zero]at hi;have hlt:i<vals.size:=by rw[h1];exact(x2o.1 hi).1
    have:=h2 i c hi;have he:(vals++Array.replicate (fn.ntmps-vals.size) undef).getD i undef=vals.getD i undef:=by simp[x9z,hlt]
    show RepL σ _ (.p c) ((vals++Array.replicate (fn.ntmps-vals.size) undef).getD i undef);rw[he];exact .p this
 refine wp_mono ((KT hT c _ _ h).ok σ (fun _=>none) _ w hrel) fun e a' w' ⟨σ',β',s',hK,hr',hl⟩=>?_;have fin:E0 T s' fn.results.toList (fun vs=>RetK s'.H (Dx vs) R)->a'.defers=[]/\∃v,(results fn a'.tmps).run P w'=.ok v w'/\∃c u σ',Ending.returned v=Ending.returned u/\R c/\Rep σ' c u/\σ.le σ'/\σ'.lies w'/\Frm (fun _=>False) w w'/\∀b,σ b=none->σ' b≠none->w.heap.size<=b:=fun hres=>by
  obtain⟨v,u,⟨c,hfz,hR⟩,hrep,hrun⟩:=I9 hT hr' hres;obtain⟨τ,h5,h6,h7,h8⟩:=DW hr'.heap;have hno:∀b,¬owns (fun _=>none) [] b:=by rintro b ⟨k,hk,_⟩;cases hk
  refine⟨hr'.defers,u,hrun,c,u,τ,rfl,hR,h8 v u c hrep hfz,Mem.le_trans hl.le h5,h6,⟨hl.frm.os,hl.frm.tape,hl.frm.output,hl.frm.drawn,hl.frm.size,fun b hb _=>hl.frm.block b hb (hno b)⟩,fun b hb hb'=>?_⟩;rcases h7 b hb' with h9|h9
  ·exact(hl.mem b hb h9).resolve_left (hno b)
  ·exact(hl.own b h9).resolve_left (hno b)
 cases e with
 |normal=>exact fin hK
 |ret=>exact fin hK
 |_=>exact hK.elim
inductive FrzL(H:Heap):List LV->List AV->Prop
 |nil:FrzL H [] []
 |cons {l:LV} {c:AV} {ls:List LV} {cs:List AV} (h:Frz H l c) (hs:FrzL H ls cs):FrzL H (l::ls) (c::cs)
theorem FrzL.get{H:Heap}:∀{ls:List LV}{cs:List AV},FrzL H ls cs->ls.length=cs.length/\∀(j:Nat)(c:AV),cs[j]?=some c->∃l,ls[j]?=some l/\Frz H l c
 |_,_,.nil=>⟨rfl,by simp⟩
 |_,_,.cons h hs=>⟨by simp[hs.get.1],fun j c hj=>by
    cases j with
    |zero=>simp at hj;subst hj;exact⟨_,rfl,h⟩
    |succ j=>exact hs.get.2 j c (by simpa using hj)⟩
inductive ArgP:List LV->List AV->Prop
 |nil:ArgP [] []
 |cons {a c:AV} {ls:List LV} {cs:List AV} (h:Sub a c) (hs:ArgP ls cs):ArgP (.p a::ls) (c::cs)
theorem ArgP.get:∀{ls:List LV}{cs:List AV},ArgP ls cs->ls.length=cs.length/\∀(j:Nat)(c:AV),cs[j]?=some c->∃a,ls[j]?=some (.p a)/\Sub a c
 |_,_,.nil=>⟨rfl,by simp⟩
 |_,_,.cons h hs=>⟨by simp[hs.get.1],fun j c hj=>by
    cases j with
    |zero=>simp at hj;subst hj;exact⟨_,rfl,h⟩
    |succ j=>exact hs.get.2 j c (by simpa using hj)⟩
def AV.flat:AV->Bool
 |.any |.und |.tt |.ff |.bool _ |.int _ _ |.str _ |.nilp |.nilf |.nils |.raw _=>true
 |.agg cs=>flatAll cs
 |.tup cs=>flatAll cs
 |_=>false
where flatAll:List AV->Bool
 |[]=>true
 |c::r=>AV.flat c&&flatAll r
theorem NN:∀{cs:List AV},AV.flat.flatAll cs=true->∀(j:Nat)(c:AV),cs[j]?=some c->c.flat=true
 |[],_,_,_,h=>by simp at h
 | x::r,h,0,c,hj=>by
   simp only[AV.flat.flatAll,x3h]at h;simp at hj;subst hj;exact h.1
 | x::r,h,j+1,c,hj=>by
   simp only[AV.flat.flatAll,x3h]at h;exact NN h.2 j c (by simpa using hj)
theorem Rep.flat{σ τ:Mem}{c:AV}{v:Value}(h:Rep σ c v)(hf:c.flat=true):Rep τ c v:=by
 induction h with
 |any v=>exact .any v
 |und=>exact .und
 |tt=>exact .tt
 |ff=>exact .ff
 |bool b=>exact .bool b
 |int k n=>exact .int k n
 |str s h=>exact .str s h
 |nilp=>exact .nilp
 |nilf=>exact .nilf
 |nils=>exact .nils
 |raw v=>exact .raw v
 |ip=>simp[AV.flat]at hf
 |nilsl=>exact .nilsl
 |slz b=>exact .slz b
 |sl=>simp[AV.flat]at hf
 |agg cs vs u hn hc _ ih=>exact .agg cs vs u hn hc fun j c hj=>ih j c hj (NN (by simpa[AV.flat]using hf) j c hj)
 |tup cs vs u hn hc _ ih=>exact .tup cs vs u hn hc fun j c hj=>ih j c hj (NN (by simpa[AV.flat]using hf) j c hj)
 |fn=>simp[AV.flat]at hf
theorem HRel.kept{σ σ':Mem}{H:Heap}{w w':World}(h:HRel σ β H w)(hle:σ.le σ')(hl:σ'.lies w')(hf:Frm (fun _=>False) w w')(hn:∀b,σ b=none->σ' b≠none->w.heap.size<=b):HRel σ' β H w':=by
 refine⟨hl,fun k c hc=>(h.chunks k c hc).mono hle fun i hi b hb=>hf.block _ (h.apart k (x3q.2 ⟨_,hc,rfl⟩) i hi b hb).2 id,h.nodup,fun k hk i hi b hb=>?_,h.inj⟩;have:=h.apart k hk i hi b hb;refine⟨?_,x6a this.2 hf.size⟩;cases hs:σ' b with
 |none=>rfl
 | some c=>
   have:=hn _ this.1 (by simp[hs]);omega
section
variable {P:Program}{N:Nat}{g:FuncId}{args:List LV}{dst:Option Nat}{s:St}{K:St->Prop}{avs:List AV}{R:AV->Prop}
theorem CallK.pure(hs:SpecP P g avs R)(ha:ArgP args avs)(h:∀c,R c->setD N s.sl dst (.p c) fun sl=>K ⟨sl,s.H⟩):CallK P N g args dst s K:=by
 refine⟨fun σ β a w hr vals hn hv=>⟨hs.go vals,?_⟩⟩;obtain⟨hlen,hget⟩:=ha.get;refine(hs.ok σ w vals (hn.trans hlen) (fun j c hj=>?_) hr.heap.mem).mono fun e w' ⟨c,u,σ',he,hR,hrep,hle,hl,hf,hnew⟩=>?_
 ·obtain⟨x,h1,h2⟩:=hget j c hj;have:=hv j _ h1;cases this with
  |p h=>exact h2 _ _ h
 ·have hr':Rel N σ' β s a w':=⟨hr.size,hr.defers,fun i=>(hr.slots i).mono hle,hr.heap.kept hle hl hf hnew⟩;obtain⟨sl,hK,hr''⟩:=hr'.setD (.p hrep) (h c hR);exact⟨u,σ',β,_,he,hK,hr'',hle,⟨hf.os,hf.tape,hf.output,hf.drawn,hf.size,fun b hb _=>hf.block b hb id⟩,fun b h0 h1=>.inr (hnew b h0 h1),fun b hb=>.inl hb,fun _ _ _=>rfl⟩
theorem XB(hs:SpecP P g avs R)(ha:FrzL s.H args avs)(hflat:∀c,R c->c.flat=true)(h:∀c,R c->setD N s.sl dst (.p c) fun sl=>K ⟨sl,s.H⟩):CallK P N g args dst s K:=by
 refine⟨fun σ β a w hr vals hn hv=>⟨hs.go vals,?_⟩⟩;obtain⟨hlen,hget⟩:=ha.get;obtain⟨τ,h5,h6,h7,h8⟩:=DW hr.heap;refine(hs.ok τ w vals (hn.trans hlen) (fun j c hj=>?_) h6).mono fun e w' ⟨c,u,σ',he,hR,hrep,hle,hl,hf,hnew⟩=>?_
 ·obtain⟨l,h1,h2⟩:=hget j c hj;exact h8 l _ c (hv j l h1) h2
 ·have hlies:σ.lies w':=fun b c hb=>hl b c (hle b c (h5 b c hb));have hr':Rel N σ β s a w':=⟨hr.size,hr.defers,hr.slots,hr.heap.kept (Mem.le_refl σ) hlies hf fun b h0 h1=>absurd h0 h1⟩;obtain⟨sl,hK,hr''⟩:=hr'.setD (.p (hrep.flat (hflat c hR))) (h c hR);exact⟨u,σ,β,_,he,hK,hr'',Mem.le_refl σ,⟨hf.os,hf.tape,hf.output,hf.drawn,hf.size,fun b hb _=>hf.block b hb id⟩,fun b h0 h1=>absurd h0 h1,fun b hb=>.inl hb,fun _ _ _=>rfl⟩
end
section
variable {P:Program}{ops:Array Oper}{Q:Exit->Act->World->Prop}{J J':World->Prop}
def stepJ(P:Program)(ops:Array Oper)(Q:Exit->Act->World->Prop)(J:World->Prop)(i:Nat)(K:Act->World->Prop)(a:Act)(w:World):Prop:=
 match ops[i]?with
 |none=>K a w
 | some o=>if Region.wanted o (yielded ops a.tmps)=true then
    (if isV o.op=true then ∃u,(execOp a.eval o).run P w=.ok (.value u) w/\K (a.put o.dst u) w else o.wp P a w (fun a' w'=>J w'/\K a' w') Q)
   else K (a.put o.dst undef) w
def anyJ(P:Program)(ops:Array Oper)(Q:Exit->Act->World->Prop)(J:World->Prop):Nat->Array Bool->Act->World->Prop
 |0,listed,a,w=>Region.ready .any ops listed=[]/\Q .normal a w
 | fuel+1,listed,a,w=>(Region.ready .any ops listed=[]->Q .normal a w)/\
   ∀i∈Region.ready .any ops listed,stepJ P ops Q J i (anyJ P ops Q J fuel (listed.setIfInBounds i true)) a w
theorem Hq{i:Nat}{a:Act}{w:World}{K K':Act->World->Prop}(hJ:∀w,J w->J' w)(h:∀a w,K a w->K' a w)(hh:stepJ P ops Q J i K a w):stepJ P ops Q J' i K' a w:=by
 unfold stepJ at*
 split
 ·rename_i ho;simp only[ho]at hh;exact h _ _ hh
 ·rename_i o ho;simp only[ho]at hh;split
  ·rename_i hw;simp only[hw,if_true]at hh;split
   ·rename_i hv;simp only[hv,if_true]at hh;obtain⟨u,h1,h2⟩:=hh;exact⟨u,h1,h _ _ h2⟩
   ·rename_i hv;simp only[hv]at hh;exact Oper.wp_mono (fun a w hk=>⟨hJ _ hk.1,h _ _ hk.2⟩) hh
  ·rename_i hw;simp only[hw]at hh;exact h _ _ hh
theorem P8(hJ:∀w,J w->J' w):∀(fuel:Nat)(listed:Array Bool)(a:Act)(w:World),anyJ P ops Q J fuel listed a w->anyJ P ops Q J' fuel listed a w
 |0,_,_,_,h=>h
 |fuel+1,_,_,_,h=>⟨h.1,fun i hi=>Hq hJ (fun a w=>P8 hJ fuel _ a w) (h.2 i hi)⟩
theorem stepJ.wpOp{i:Nat}{a:Act}{w:World}{K:Act->World->Prop}(h:stepJ P ops Q J i K a w):wpOp P ops Q i K a w:=by
 unfold stepJ at h;unfold Go.wpOp;split
 ·rename_i ho;simp only[ho]at h;exact h
 ·rename_i o ho;simp only[ho]at h;split
  ·rename_i hw;simp only[hw,if_true]at h;split at h
   ·obtain⟨u,h1,h2⟩:=h;exact .inl (XS h1 h2)
   ·exact .inl (Oper.wp_mono (fun a w hk=>hk.2) h)
  ·rename_i hw;simp only[hw]at h;exact h
theorem Kx:∀(fuel:Nat)(listed:Array Bool)(a:Act)(w:World),anyJ P ops Q J fuel listed a w->wpAny P .any ops Q fuel listed a w
 |0,_,_,_,h=>h
 |fuel+1,_,_,_,h=>⟨h.1,fun i hi=>wpOp_mono (fun a w=>Kx fuel _ a w) (h.2 i hi).wpOp⟩
def Yl(P:Program)(ops:Array Oper)(S:World->Prop)(o:Oper)(v:Value)(a:Act):Prop:=
 (Region.wanted o (yielded ops a.tmps)=true/\∀w,S w->(execOp a.eval o).run P w=.ok (.value v) w)\/(Region.wanted o (yielded ops a.tmps)=false/\v=undef)
theorem Yl.of_same{S:World->Prop}{o:Oper}{v:Value}{a a':Act}(hy:Yl P ops S o v a)(he:execOp a'.eval o=execOp a.eval o)(hw:Region.wanted o (yielded ops a'.tmps)=Region.wanted o (yielded ops a.tmps)):Yl P ops S o v a':=by
 unfold Yl at*
 rw[he,hw];exact hy
theorem Yl.stepJ{S:World->Prop}{i:Nat}{o:Oper}{v:Value}{a:Act}(hi:ops[i]?=some o)(hv:isV o.op=true)(hy:Yl P ops S o v a){K:Act->World->Prop}{w:World}(hS:S w)(h:K (a.put o.dst v) w):stepJ P ops Q J i K a w:=by
 unfold Ab.stepJ;simp only[hi,hv,if_true];rcases hy with⟨hw,hr⟩|⟨hw,rfl⟩
 ·simp only[hw,if_true];exact⟨v,hr w hS,h⟩
 ·simp only[hw,Bool.false_eq_true,if_false];exact h
def q5f(P:Program)(o:Oper)(S J:World->Prop):Prop:=(∀w,J w->S w)\/∀a w n w',S w->(execOp (Act.eval a) o).run P w=.ok n w'->(J w'->S w')/\∃v,n=.value v
theorem Ec{S:World->Prop}{j:Nat}{oi oj:Oper}{v:Value}(hj:ops[j]?=some oj)(hap:oi.apart ops oj=true)(hsi:∀cs b,oi.op ≠ .select cs b)(hsj:∀cs b,oj.op ≠ .select cs b)(hQ:∀c a w,¬Q (.panic c) a w){K:Act->World->Prop}{a:Act}{w:World}(hS:S w)(hSJ:isV oj.op=false->q5f P oj S J)(hy:Yl P ops S oi v a)(h:stepJ P ops Q J j K (a.put oi.dst v) w):
  stepJ P ops Q J j (fun a' w'=>S w'/\Yl P ops S oi v a'/\K (a'.put oi.dst v) w') a w:=by
 obtain⟨h1,h2,h3⟩:=Oper.apart_spec hap;have keep:∀(a:Act),Yl P ops S oi v a->∀u,Yl P ops S oi v (a.put oj.dst u):=fun a hy u=>
  hy.of_same (execOp_put oi hsi a oj.dst u h3) (wanted_put oi a oj.dst u h3)
 have keepD:∀d,Yl P ops S oi v {a with defers:=d::a.defers}:=fun d=>hy.of_same rfl rfl;unfold stepJ at*
 simp only[hj]at*
 rw[wanted_put oj a oi.dst v h1]at h;split
 ·rename_i hw;simp only[hw,if_true]at h;split
  ·rename_i hv;simp only[hv,if_true]at h;obtain⟨u,hr,hk⟩:=h;rw[execOp_put oj hsj a oi.dst v h1]at hr;exact⟨u,hr,hS,keep a hy u,by rw[<-Act.put_comm a v u h2];exact hk⟩
  ·rename_i hv;simp only[hv,Bool.false_eq_true,if_false]at h;have hSJ:=hSJ (by simpa using hv);unfold Oper.wp at*
   rw[execOp_put oj hsj a oi.dst v h1]at h;generalize hrr:(execOp a.eval oj).run P w=r at*
   cases r with
   | ok n w'=>
     have hS':J w'->S w':=fun hJw=>hSJ.elim (fun h=>h _ hJw) fun h=>(h a w n w' hS hrr).1 hJw;have hno:(∀v,n ≠ .value v)->∀w,J w->S w:=fun hn=>hSJ.elim id fun h=>(let ⟨v,hv⟩:=(h a w n w' hS hrr).2;absurd hv (hn v));cases n<;>simp only[Oper.upon]at h⊢;case value u=>exact⟨h.1,hS' h.1,keep a hy u,by rw[<-Act.put_comm a v u h2];exact h.2⟩
     case skip=>exact⟨h.1,hS' h.1,keep a hy _,by rw[<-Act.put_comm a v undef h2];exact h.2⟩
     case defer d=>
      refine⟨h.1,hS' h.1,keep _ (keepD d) _,?_⟩;rw[<-Act.put_comm _ v undef h2,<-Act.put_defers];exact h.2
     case enter f args=>
      refine Calls.mono h fun e w'' he=>?_;cases e with
      |returned u=>exact⟨he.1,hno (by simp) _ he.1,keep a hy u,by rw[<-Act.put_comm a v u h2];exact he.2⟩
      |panicked c=>exact(hQ _ _ _ he).elim
      |outgrown=>exact he
     case row row args=>exact Rows.mono h fun u w'' he=>⟨he.1,hno (by simp) _ he.1,keep a hy u,by rw[<-Act.put_comm a v u h2];exact he.2⟩
   | halt x w'=>
     cases x<;>simp only[Oper.upon]at h⊢;case panic u=>exact(hQ _ _ _ h).elim
 ·rename_i hw;simp only[hw]at h;exact⟨hS,keep a hy _,by rw[<-Act.put_comm a v undef h2];exact h⟩
theorem BG{i:Nat}{oi:Oper}{v:Value}{S:World->Prop}(B:Nat->Prop)(hi:ops[i]?=some oi)(hiv:isV oi.op=true)(hsel:∀(j:Nat)(o:Oper) cs b,ops[j]?=some o->o.op ≠ .select cs b)(hQ:∀c a w,¬Q (.panic c) a w)(hB:∀j,B j->j≠i->∀oj,ops[j]?=some oj->∃e∈oj.after,Region.binds .any e=true/\B e.on):
  ∀(fuel:Nat)(listed:Array Bool)(a:Act)(w:World),(∀j,B j->listed.getD j false=false)->
   (∀j oj,ops[j]?=some oj->j≠i->listed.getD j true=false->¬B j->oi.apart ops oj=true/\(isV oj.op=false->q5f P oj S J))->
   i∈Region.ready .any ops listed->S w->Yl P ops S oi v a->
   anyJ P ops Q J fuel (listed.setIfInBounds i true) (a.put oi.dst v) w->anyJ P ops Q J (fuel+1) listed a w:=by
 intro fuel;induction fuel with
 | zero=>
   intro listed a w _ _ hr hS hy H;refine⟨fun h=>(by rw[h]at hr;cases hr),fun j hj=>?_⟩;by_cases hji:j=i
   ·subst hji;exact hy.stepJ hi hiv hS H
   ·have:=ready_mono hj hji;rw[H.1]at this;cases this
 | succ fuel ih=>
   intro listed a w hun hfree hr hS hy H;refine⟨fun h=>(by rw[h]at hr;cases hr),fun j hj=>?_⟩;by_cases hji:j=i
   ·subst hji;exact hy.stepJ hi hiv hS H
   ·have h1:=H.2 j (ready_mono hj hji);obtain⟨hjun,oj,hoj,hall⟩:=mem_ready.1 hj;have hnot:¬B j:=fun hb=>by
     obtain⟨e,he,hbi,hbo⟩:=hB j hb hji oj hoj;have h1:=hall e he hbi;rw[hun _ hbo]at h1;cases h1
    obtain⟨hap,hSJ⟩:=hfree j oj hoj hji hjun hnot;have h2:=Ec hoj hap (fun cs b=>hsel i oi cs b hi) (fun cs b=>hsel j oj cs b hoj) hQ hS hSJ hy h1;have hfree':∀k ok,ops[k]?=some ok->k≠i->(listed.setIfInBounds j true).getD k true=false->
      ¬B k->oi.apart ops ok=true/\(isV ok.op=false->q5f P ok S J):=fun k ok hk hki hun hno=>by
     refine hfree k ok hk hki ?_ hno;by_cases hjk:j=k
     ·subst hjk;exact hjun
     ·rw[getD_set_ne true hjk]at hun;exact hun
    refine Hq (fun _ h=>h) (fun a' w' h3=>ih (listed.setIfInBounds j true) a' w' (fun k hk=>?_) hfree' (ready_mono hr (x6o hji)) h3.1 h3.2.1 ?_) h2
    ·rw[getD_set_ne false (fun he:j=k=>hnot (by rw[he];exact hk))];exact hun k hk
    ·rw[Array.setIfInBounds_comm _ _ hji];exact h3.2.2
end
def Rt(p:Nat->Oper->Bool):List Oper->Nat->Bool
 |[],_=>true
 |o::r,i=>bif p i o then Rt p r (i+1)else false
theorem UA{p:Nat->Oper->Bool}:∀{l:List Oper}{k:Nat},Rt p l k=true->∀(j:Nat)(o:Oper),l[j]?=some o->p (k+j) o=true
 |[],_,_,j,o,h=>by simp at h
 | x::r,k,h,j,o,hj=>by
   unfold Rt at h;cases hp:p k x with
   |false=>rw[hp]at h;cases h
   | true=>
     rw[hp,x3p]at h;cases j with
     |zero=>simp at hj;subst hj;exact hp
     | succ j=>
       have:=UA h j o (by simpa using hj)
       rwa[x6z,x9j 1 j]at this
def q0d(p:Edge->Bool):List Edge->Bool
 |[]=>true
 |e::r=>bif p e then q0d p r else false
theorem LF{p:Edge->Bool}:∀{l:List Edge},q0d p l=true ↔ ∀e∈l,p e=true
 |[]=>by simp[q0d]
 | x::r=>by
   unfold q0d;cases hp:p x with
   |false=>simp[hp]
   |true=>simp[hp,LF (l:=r)]
def rdy(L:List Nat)(i:Nat)(o:Oper):Bool:=bif YR i L then false else q0d (fun e=>bif Region.binds .any e then YR e.on L else true) o.after.toList
def KQ(L:List Nat):List Oper->Nat->List Nat->List Nat
 |[],_,B=>B
 |o::r,k,B=>KQ L r (k+1) (bif YR k L then B else bif q0d (fun e=>bif Region.binds .any e then bif YR e.on B then false else true else true) o.after.toList then B else k::B)
theorem HD{i:Nat}:∀{l:List Nat},YR i l=true↔i∈l
 |[]=>by simp[YR]
 | j::r=>by
   unfold YR;by_cases h:j=i
   ·simp[h]
   ·have:(j==i)=false:=by simp[h]
    simp[this,HD (l:=r),x6o h]
theorem GI{L:List Nat}{i:Nat}{ops:List Oper}:∀(r:List Oper)(k:Nat)(B:List Nat),(∀j o,r[j]?=some o->ops[k+j]?=some o)->(∀j∈B,YR j L=false/\(j≠i->∃o,ops[j]?=some o/\∃e∈o.after,Region.binds .any e=true/\e.on∈B))->
  ∀j∈KQ L r k B,YR j L=false/\(j≠i->∃o,ops[j]?=some o/\∃e∈o.after,Region.binds .any e=true/\e.on∈KQ L r k B)
 |[],_,_,_,h=>h
 | o::r,k,B,hr,h=>by
   unfold KQ;have hr':∀j x,r[j]?=some x->ops[k+1+j]?=some x:=fun j x hj=>by
    have:=hr (j+1) x (by simpa using hj)
    rwa[x6z,x9j 1 j]
   cases hm:YR k L with
   |true=>rw[x3p];exact GI r (k+1) B hr' h
   | false=>
     rw[x3t];cases ha:q0d (fun e=>bif Region.binds .any e then bif YR e.on B then false else true else true) o.after.toList with
     |true=>rw[x3p];exact GI r (k+1) B hr' h
     | false=>
       rw[x3t];refine GI r (k+1) (k::B) hr' fun j hj=>?_;rcases x2i.1 hj with rfl|hj
       ·refine⟨hm,fun _=>⟨o,hr 0 o rfl,?_⟩⟩;apply x5p;intro hn;rw[<-x8q]at ha;apply ha;rw[LF];intro e he;cases hb:Region.binds .any e with
        |false=>rfl
        | true=>
          cases hmb:YR e.on B with
          |false=>rfl
          |true=>exact absurd ⟨e,by simpa using he,hb,x2c _ (HD.1 hmb)⟩ hn
       ·obtain⟨h1,h2⟩:=h j hj;refine⟨h1,fun hne=>?_⟩;obtain⟨x,h3,e,h4,h5,h6⟩:=h2 hne;exact⟨x,h3,e,h4,h5,x2c _ h6⟩
def Oh(o:Oper):Bool:=match o.op with |.select .. => false|_=>true
def q8y:Op->Bool
 |.buildSlice .. => true
 |_=>false
theorem AD(w:World)(o:Obj):Old w {w with heap:=w.heap.push o}:=fun b hb=>by
 show(w.heap.push o)[b]?=_;rw[x8d,if_neg (by omega)]
inductive Newy:{α:Type}->Sem α->Prop
 |pure {α:Type} (a:α):Newy (.pure a)
 |new {α:Type} (o:Obj) (k:Nat->Sem α) (h:∀r,Newy (k r)):Newy (.new o k)
 |program {α:Type} (k:Program->Sem α) (h:∀p,Newy (k p)):Newy (.program k)
 |halt {α:Type} (x:Halt):Newy (α:=α) (.halt x)
theorem Newy.bind{α β:Type}{m:Sem α}{f:α->Sem β}(h:Newy m)(hf:∀a,Newy (f a)):Newy (m.bind f):=by
 induction h with
 |pure a=>exact hf a
 |new o k _ ih=>exact .new o _ fun r=>ih r
 |program k _ ih=>exact .program _ fun p=>ih p
 |halt x=>exact .halt x
theorem Newy.old{α:Type}{m:Sem α}(h:Newy m){P:Program}:∀{w w':World}{n:α},m.run P w=.ok n w'->Old w w':=by
 induction h with
 |pure a=>intro w w' n h;cases h;exact Old.refl w
 |new o k _ ih=>intro w w' n h;exact(AD w o).trans (ih _ h)
 |program k _ ih=>intro w w' n h;exact ih _ h
 |halt x=>intro w w' n h;cases h
theorem Yf(t:TypeId):Newy (underlying t):=by
 refine .program _ fun p=>?_;show Newy (match p.underlying t with|some d=>_|none=>_);split
 ·exact .pure _
 ·exact .halt _
theorem Qj(t:TypeId):Newy (typeInfo t):=by
 refine .program _ fun p=>?_;show Newy (match p.info? t with|some d=>_|none=>_);split
 ·exact .pure _
 ·exact .halt _
theorem Ji(t:TypeId):Newy (zeroValue t):=by
 refine(Qj t).bind fun i=>?_;show Newy (match i.zero with|some v=>_|none=>_);split
 ·exact .pure _
 ·exact .halt _
theorem Yh(t:TypeId)(n:Nat)(parts:Array (Nat×Value)):Newy (Instr.buildSlice t n parts):=by
 unfold Instr.buildSlice;refine(Yf t).bind fun d=>?_;split
 ·refine Newy.bind (.bind (Qj _) fun i=>.pure _) fun sz=>?_;have hrest:∀(el:TypeId)(zero:Array Value),Newy (match Instr.fill (fun i=>some (i*sz,sz)) (Array.map (fun x=>zero[x%zero.size]!) (Array.range (n*sz))) parts.toList with
    |some cells=>(do pure (Value.slice (some (<-newRow el cells)) n n):Sem Value)
    |_=>stuck "buildSlice: a part of the wrong size"):=fun el zero=>by
   split
   ·exact Newy.bind (.new _ _ fun r=>.pure _) fun r=>.pure _
   ·exact .halt _
  split<;>split;all_goals first
   |exact Newy.halt _
   |exact hrest _ _
   |exact Newy.bind (m:=zeroValue _) (Ji _) fun v=>hrest _ v.cells
 ·exact .halt _
theorem Cf{P:Program}{o:Oper}(ho:q8y o.op=true){a:Act}{w w':World}{n:Next}(h:(execOp a.eval o).run P w=.ok n w'):Old w w'/\∃v,n=.value v:=by
 cases hop:o.op<;>rw[hop]at ho<;>first|cases ho|skip
 rename_i t len parts;simp only[execOp,hop,Sem.run_bind]at h;cases hr:(Instr.buildSlice t len (parts.map fun x=>(x.1,a.eval x.2))).run P w with
 | ok v w1=>
   rw[hr]at h;cases h;exact⟨(Yh _ _ _).old hr,v,rfl⟩
 | halt x w1=>
   rw[hr]at h;cases h
def WN(ops:Array Oper):List Nat->Sched->Bool
 |L,.nil=>Rt (fun j o=>bif rdy L j o then false else true) ops.toList 0
 | L,.cons i strict r=>match ops[i]?with
   |none=>false
   | some oi=>bif rdy L i oi then
      bif (bif isV oi.op then Rt (fun j o=>bif j==i then true else bif YR j L then true else bif YR j (KQ L ops.toList 0 [i])then true else bif oi.apart ops o then(bif isV o.op then true else bif strict then false else true)else false) ops.toList 0
       else Rt (fun j o=>bif j==i then true else bif rdy L j o then false else true) ops.toList 0)then WN ops (i::L) r else false
     else false
 | L,.alo i r=>match ops[i]?with
   |none=>false
   | some oi=>bif rdy L i oi then
      bif isV oi.op then bif Rt (fun j o=>bif j==i then true else bif YR j L then true else bif YR j (KQ L ops.toList 0 [i])then true else bif oi.apart ops o then(bif isV o.op then true else q8y o.op)else false) ops.toList 0 then WN ops (i::L) r else false
      else false
     else false
 | L,.fork i a j b=>match ops[i]?,ops[j]?with
   |some oi,some oj=>bif (bif rdy L i oi then bif rdy L j oj then Rt (fun k o=>bif k==i then true else bif k==j then true else bif rdy L k o then false else true) ops.toList 0 else false else false)then
      bif WN ops (i::L) a then WN ops (j::L) b else false else false
   |_,_=>false
 | L,.fork3 i a j b k c=>match ops[i]?,ops[j]?,ops[k]?with
   |some oi,some oj,some ok=>bif (bif rdy L i oi then bif rdy L j oj then bif rdy L k ok then Rt (fun m o=>bif m==i then true else bif m==j then true else bif m==k then true else bif rdy L m o then false else true) ops.toList 0 else false else false else false)then
      bif WN ops (i::L) a then bif WN ops (j::L) b then WN ops (k::L) c else false else false else false
   |_,_,_=>false
def drW(P:Program)(T:Tab)(N:Nat)(ops:Array Oper):Sched->St->(St->Prop)->Prop
 |.nil,s,K=>K s
 | .cons i strict r,s,K=>match ops[i]?with
   |none=>False
   |some o=>DH ops s o (fun s=>Qs P T N (bif isV o.op then strict else true) s o fun s=>ZU s fun s=>drW P T N ops r s K) fun s=>Dl N s o fun s=>ZU s fun s=>drW P T N ops r s K
 | .alo i r,s,K=>match ops[i]?with
   |none=>False
   |some o=>DH ops s o (fun s=>Qs P T N true s o fun s=>ZU s fun s=>drW P T N ops r s K) fun s=>Dl N s o fun s=>ZU s fun s=>drW P T N ops r s K
 | .fork i a j b,s,K=>match ops[i]?,ops[j]?with
   |some oi,some oj=>DH ops s oi (fun s=>Qs P T N true s oi fun s=>ZU s fun s=>drW P T N ops a s K) (fun s=>Dl N s oi fun s=>ZU s fun s=>drW P T N ops a s K)/\
      DH ops s oj (fun s=>Qs P T N true s oj fun s=>ZU s fun s=>drW P T N ops b s K) (fun s=>Dl N s oj fun s=>ZU s fun s=>drW P T N ops b s K)
   |_,_=>False
 | .fork3 i a j b k c,s,K=>match ops[i]?,ops[j]?,ops[k]?with
   |some oi,some oj,some ok=>DH ops s oi (fun s=>Qs P T N true s oi fun s=>ZU s fun s=>drW P T N ops a s K) (fun s=>Dl N s oi fun s=>ZU s fun s=>drW P T N ops a s K)/\
      DH ops s oj (fun s=>Qs P T N true s oj fun s=>ZU s fun s=>drW P T N ops b s K) (fun s=>Dl N s oj fun s=>ZU s fun s=>drW P T N ops b s K)/\
      DH ops s ok (fun s=>Qs P T N true s ok fun s=>ZU s fun s=>drW P T N ops c s K) (fun s=>Dl N s ok fun s=>ZU s fun s=>drW P T N ops c s K)
   |_,_,_=>False
section
variable {P:Program}{T:Tab}{N:Nat}{ops:Array Oper}
def Ls(n:Nat)(L:List Nat)(listed:Array Bool):Prop:=listed.size=n/\∀j,j<n->listed[j]?=some (YR j L)
theorem Ls.set{n:Nat}(h:Ls n L listed){i:Nat}:Ls n (i::L) (listed.setIfInBounds i true):=by
 refine⟨by simpa using h.1,fun j hj=>?_⟩;by_cases hij:i=j
 ·subst hij;simp[YR,h.1,hj]
 ·rw[x6t hij,h.2 j hj];have:(i==j)=false:=by simp[hij]
  simp[YR,this]
theorem Ls.getT{n:Nat}(h:Ls n L listed){j:Nat}(hj:j<n)(b:Bool):listed.getD j b=YR j L:=by
 have:=h.2 j hj;have hlt:j<listed.size:=by rw[h.1];exact hj
 simp[hlt]at this⊢;exact this
theorem Ls.ready(h:Ls ops.size L listed)(he:∀(i:Nat)(o:Oper),ops[i]?=some o->∀e∈o.after,e.on<ops.size){j:Nat}{o:Oper}(hj:ops[j]?=some o):j∈Region.ready .any ops listed↔rdy L j o=true:=by
 have hlt:=(x3r.1 hj).1;rw[mem_ready,h.getT hlt];unfold rdy;cases hm:YR j L with
 |true=>simp
 | false=>
   simp only[hj,x6r,exists_eq_left',true_and,x3t];rw[LF];constructor
   ·intro h' e hm;have:=h' e (by simpa using hm);cases hb:Region.binds .any e with
    |false=>rfl
    |true=>rw[x3p,<-h.getT (he j o hj e (by simpa using hm)) false];exact this hb
   ·intro h' e hm hb;have:=h' e (by simpa using hm);rw[hb,x3p]at this;rw[h.getT (he j o hj e hm)];exact this
def Fd(n:Nat)(l:List Oper):Bool:=Rt (fun _ o=>bif Oh o then q0d (fun e=>Nat.blt e.on n) o.after.toList else false) l 0
def Sched.len:Sched->Nat
 |.nil=>0
 |.cons _ _ r=>r.len+1
 |.alo _ r=>r.len+1
 |.fork _ a _ b=>max a.len b.len+1
 |.fork3 _ a _ b _ c=>max (max a.len b.len) c.len+1
theorem F8{Q:Exit->Act->World->Prop}{J:World->Prop}{fuel:Nat}{a:Act}{w:World}(ls:List Nat)(hne:ls≠[])(h:Ls ops.size L listed)(he:∀(i:Nat)(o:Oper),ops[i]?=some o->∀e∈o.after,e.on<ops.size)(hr:∀i∈ls,∃o,ops[i]?=some o/\rdy L i o=true)(hx:∀(i:Nat)(o:Oper),ops[i]?=some o->rdy L i o=true->i∈ls)(hs:∀i∈ls,stepJ P ops Q J i (anyJ P ops Q J fuel (listed.setIfInBounds i true)) a w):anyJ P ops Q J (fuel+1) listed a w:=by
 refine⟨fun h0=>?_,fun j hj=>?_⟩
 ·cases ls with
  |nil=>exact absurd rfl hne
  | cons i r=>
    obtain⟨o,ho,hrd⟩:=hr i (by simp);have:=(h.ready he ho).2 hrd;rw[h0]at this;cases this
 ·obtain⟨_,o,ho,_⟩:=mem_ready.1 hj;exact hs j (hx j o ho ((h.ready he ho).1 hj))
theorem CQ(hT:TabOK P T)(hsel:∀(j:Nat)(o:Oper) cs b,ops[j]?=some o->o.op ≠ .select cs b)(he:∀(i:Nat)(o:Oper),ops[i]?=some o->∀e∈o.after,e.on<ops.size):
  ∀(r:Sched){L:List Nat}{listed:Array Bool}{s:St}{K:St->Prop}{σ:Mem}{β:Lab}{a:Act}{w:World}{F:Act->World->Prop}{fuel:Nat},WN ops L r=true->Ls ops.size L listed->drW P T N ops r s K->Rel N σ β s a w->
  (∀a' w' σ' β' s',K s'->Rel N σ' β' s' a' w'->Later σ β s.H w σ' β' s'.H w'->F a' w')->r.len<=fuel->anyJ P ops (fun e a w=>e=.normal/\F a w) σ.lies fuel listed a w:=by
 have step1:∀{i:Nat}{oi:Oper}{listed:Array Bool}{s:St}{K:St->Prop}{σ:Mem}{β:Lab}{a:Act}{w:World}{F:Act->World->Prop}{r:Sched}{fuel:Nat},ops[i]?=some oi->
   (DH ops s oi (fun s=>Qs P T N true s oi fun s=>drW P T N ops r s K) fun s=>Dl N s oi fun s=>drW P T N ops r s K)->Rel N σ β s a w->
   (∀a' w' σ' β' s',K s'->Rel N σ' β' s' a' w'->Later σ β s.H w σ' β' s'.H w'->F a' w')->
   (∀{s:St}{σ':Mem}{β':Lab}{a':Act}{w':World},drW P T N ops r s K->Rel N σ' β' s a' w'->(∀a'' w'' σ'' β'' s'',K s''->Rel N σ'' β'' s'' a'' w''->Later σ' β' s.H w' σ'' β'' s''.H w''->F a'' w'')->
     anyJ P ops (fun e a w=>e=.normal/\F a w) σ'.lies fuel (listed.setIfInBounds i true) a' w')->
   stepJ P ops (fun e a w=>e=.normal/\F a w) σ.lies i (anyJ P ops (fun e a w=>e=.normal/\F a w) σ.lies fuel (listed.setIfInBounds i true)) a w:=by
  intro i oi listed s K σ β a w F r fuel hi h hr hF ih;unfold stepJ;simp only[hi];obtain⟨s1,hH,hr1,hw⟩:=HK h hr;rcases hw with⟨hw,h⟩|⟨hw,h⟩
  ·rw[if_pos hw];split
   ·rename_i hv;unfold Qs at h;simp only[hv,x3p]at h;obtain⟨v,u,hK,hrep,hrun⟩:=BI hT h hr1.slots hr1.heap;rw[XW]at hK;obtain⟨sl,hK,hr'⟩:=hr1.setD hrep hK;exact⟨u,hrun w hr1.heap.mem fun _=>Old.refl w,ih hK hr' fun a'' w'' σ'' β'' s'' hK' hr'' hl'=>hF a'' w'' σ'' β'' s'' hK' hr'' (hH▸hl')⟩
   refine Oper.wp_mono (fun a' w' hk=>?_) (Jx hT h hr1 _);obtain⟨σ',β',s',hK,hr',hl⟩:=hk;rw[hH]at hl;have hmono:∀w,σ'.lies w->σ.lies w:=fun w hw b c hb=>hw b c (hl.le b c hb);exact⟨hmono _ hr'.heap.mem,P8 hmono _ _ _ _ (ih hK hr' fun a'' w'' σ'' β'' s'' hK' hr'' hl'=>hF a'' w'' σ'' β'' s'' hK' hr'' (hl.trans hl'))⟩
  ·rw[if_neg (by rw[hw];simp)];obtain⟨sl,hK,hr'⟩:=hr1.setD (u:=undef) (.p .und) h;exact ih hK hr' fun a'' w'' σ'' β'' s'' hK' hr'' hl'=>hF a'' w'' σ'' β'' s'' hK' hr'' (hH▸hl')
 intro r;induction r with
 | nil=>
   intro L listed s K σ β a w F fuel hok hL h hr hF _;have hno:Region.ready .any ops listed=[]:=by
    refine List.eq_nil_iff_forall_not_mem.2 fun j hj=>?_;obtain⟨_,o,ho,_⟩:=mem_ready.1 hj;have h1:=UA hok j o (by simpa using ho);have h2:=(hL.ready he ho).1 hj;simp[h2]at h1
   have hq:F a w:=hF a w σ β s h hr (Later.refl _ _ _ _);cases fuel with
   |zero=>exact⟨hno,rfl,hq⟩
   |succ fuel=>exact⟨fun _=>⟨rfl,hq⟩,by rw[hno];simp⟩
 | cons i strict r ih=>
   intro L listed s K σ β a w F fuel hok hL h hr hF hfu;obtain⟨fuel,rfl⟩ : ∃f,fuel=f+1:=⟨fuel-1,by simp[Sched.len]at hfu;omega⟩;replace hfu:r.len<=fuel:=by simp[Sched.len]at hfu;omega
   simp only[WN]at hok;simp only[drW,VY]at h;cases hi:ops[i]?with
   |none=>rw[hi]at hok;cases hok
   | some oi =>
     rw[hi]at hok h;simp only at hok h;cases hrd:rdy L i oi with
     |false=>rw[hrd]at hok;cases hok
     | true =>
       rw[hrd,x3p]at hok;cases hv:isV oi.op with
       | false=>
         rw[hv,x3t]at hok;cases hall:Rt (fun j o=>bif j==i then true else bif rdy L j o then false else true) ops.toList 0 with
         |false=>rw[hall]at hok;cases hok
         | true=>
           rw[hall,x3p]at hok;simp only[hv,x3t]at h;refine F8 [i] (by simp) hL he (fun j hj=>?_) (fun j o ho hjr=>?_) fun j hj=>?_
           ·rw[x2a]at hj;subst hj;exact⟨oi,hi,hrd⟩
           ·have h1:=UA hall j o (by simpa using ho);by_cases hji:j=i
            ·simp[hji]
            ·simp[hji,hjr]at h1
           ·rw[x2a]at hj;subst hj;exact step1 hi h hr hF fun hK hr' hF'=>ih hok hL.set hK hr' hF' hfu
       | true =>
         rw[hv,x3p]at hok;cases hall:Rt (fun j o=>bif j==i then true else bif YR j L then true else bif YR j (KQ L ops.toList 0 [i])then true else bif oi.apart ops o then(bif isV o.op then true else bif strict then false else true)else false) ops.toList 0 with
         |false=>rw[hall]at hok;cases hok
         | true=>
           rw[hall,x3p]at hok;have hmi:YR i L=false:=by
            unfold rdy at hrd;cases hm:YR i L with
            |false=>rfl
            |true=>rw[hm]at hrd;cases hrd
           have hwl:=GI (L:=L) (i:=i) (ops:=ops.toList) ops.toList 0 [i] (fun j o hj=>by simpa using hj) (fun j hj=>by
            rw[x2a]at hj;subst hj;exact⟨hmi,fun h=>absurd rfl h⟩)
           have hB:∀j,j∈KQ L ops.toList 0 [i]->j≠i->∀oj,ops[j]?=some oj->∃e∈oj.after,Region.binds .any e=true/\e.on∈KQ L ops.toList 0 [i]:=fun j hj hne oj ho=>by
            obtain⟨x,h1,h2⟩:=(hwl j hj).2 hne;have h1':ops[j]?=some x:=by simpa using h1
            rw[ho]at h1';cases h1';exact h2
           have hun:∀j,j∈KQ L ops.toList 0 [i]->listed.getD j false=false:=fun j hj=>by
            rcases x3v j ops.size with hlt|hge
            ·rw[hL.getT hlt];exact(hwl j hj).1
            ·have:listed.size<=j:=by rw[hL.1];exact hge
             simp[x8a this]
           have hfree:∀(S:World->Prop),(strict=false->∀w,σ.lies w->S w)->∀j oj,ops[j]?=some oj->j≠i->listed.getD j true=false->¬j∈KQ L ops.toList 0 [i]->oi.apart ops oj=true/\(isV oj.op=false->q5f P oj S σ.lies):=fun S hS j oj hj hne hun hno=>by
            have h1:=UA hall j oj (by simpa using hj);have hw:YR j (KQ L ops.toList 0 [i])=false:=by
             rw[<-x8q,HD];exact hno
            have hjl:=(x3r.1 hj).1;rw[hL.getT hjl]at hun;have hb:(j==i)=false:=by simp[hne]
            simp only[x5m,hb,hun,hw,x3t]at h1;cases hap:oi.apart ops oj with
            |false=>rw[hap]at h1;cases h1
            | true=>
              rw[hap,x3p]at h1;refine⟨rfl,fun hvj=>.inl (hS ?_)⟩;rw[hvj,x3t]at h1;cases strict
              ·rfl
              ·cases h1
           have hready:=(hL.ready he hi).2 hrd;obtain⟨s1,hH,hr1,hw⟩:=HK h hr;rcases hw with⟨hw,h⟩|⟨hw,h⟩
           ·unfold Qs at h;simp only[hv,x3p]at h;obtain⟨v,u,hK,hrep,hrun⟩:=BI hT h hr1.slots hr1.heap;rw[XW]at hK;obtain⟨sl,hK,hr'⟩:=hr1.setD hrep hK;refine BG (B:=(· ∈ KQ L ops.toList 0 [i])) (v:=u) (S:=fun w'=>σ.lies w'/\(strict=true->w'=w)) hi hv hsel (by simp) hB fuel listed a w hun (hfree _ fun hs w' hl=>⟨hl,by simp[hs]⟩) hready ⟨hr.heap.mem,fun _=>rfl⟩ (.inl ⟨hw,fun w' hw'=>hrun w' hw'.1 fun hs=>hw'.2 hs▸Old.refl w⟩) ?_;exact ih hok hL.set hK hr' (fun a'' w'' σ'' β'' s'' hK' hr'' hl'=>hF a'' w'' σ'' β'' s'' hK' hr'' (hH▸hl')) hfu
           ·obtain⟨sl,hK,hr'⟩:=hr1.setD (u:=undef) (.p .und) h;refine BG (B:=(· ∈ KQ L ops.toList 0 [i])) (v:=undef) (S:=fun w'=>σ.lies w'/\(strict=true->w'=w)) hi hv hsel (by simp) hB fuel listed a w hun (hfree _ fun hs w' hl=>⟨hl,by simp[hs]⟩) hready ⟨hr.heap.mem,fun _=>rfl⟩ (.inr ⟨hw,rfl⟩) ?_;exact ih hok hL.set hK hr' (fun a'' w'' σ'' β'' s'' hK' hr'' hl'=>hF a'' w'' σ'' β'' s'' hK' hr'' (hH▸hl')) hfu
 | alo i r ih =>
   intro L listed s K σ β a w F fuel hok hL h hr hF hfu;obtain⟨fuel,rfl⟩ : ∃f,fuel=f+1:=⟨fuel-1,by simp[Sched.len]at hfu;omega⟩;replace hfu:r.len<=fuel:=by simp[Sched.len]at hfu;omega
   simp only[WN]at hok;simp only[drW,VY]at h;cases hi:ops[i]?with
   |none=>rw[hi]at hok;cases hok
   | some oi =>
     rw[hi]at hok h;simp only at hok h;cases hrd:rdy L i oi with
     |false=>rw[hrd]at hok;cases hok
     | true =>
       rw[hrd,x3p]at hok;cases hv:isV oi.op with
       |false=>rw[hv]at hok;cases hok
       | true =>
         rw[hv,x3p]at hok;cases hall:Rt (fun j o=>bif j==i then true else bif YR j L then true else bif YR j (KQ L ops.toList 0 [i])then true else bif oi.apart ops o then(bif isV o.op then true else q8y o.op)else false) ops.toList 0 with
         |false=>rw[hall]at hok;cases hok
         | true=>
           rw[hall,x3p]at hok;have hmi:YR i L=false:=by
            unfold rdy at hrd;cases hm:YR i L with
            |false=>rfl
            |true=>rw[hm]at hrd;cases hrd
           have hwl:=GI (L:=L) (i:=i) (ops:=ops.toList) ops.toList 0 [i] (fun j o hj=>by simpa using hj) (fun j hj=>by
            rw[x2a]at hj;subst hj;exact⟨hmi,fun h=>absurd rfl h⟩)
           have hB:∀j,j∈KQ L ops.toList 0 [i]->j≠i->∀oj,ops[j]?=some oj->∃e∈oj.after,Region.binds .any e=true/\e.on∈KQ L ops.toList 0 [i]:=fun j hj hne oj ho=>by
            obtain⟨x,h1,h2⟩:=(hwl j hj).2 hne;have h1':ops[j]?=some x:=by simpa using h1
            rw[ho]at h1';cases h1';exact h2
           have hun:∀j,j∈KQ L ops.toList 0 [i]->listed.getD j false=false:=fun j hj=>by
            rcases x3v j ops.size with hlt|hge
            ·rw[hL.getT hlt];exact(hwl j hj).1
            ·have:listed.size<=j:=by rw[hL.1];exact hge
             simp[x8a this]
           have hfree:∀j oj,ops[j]?=some oj->j≠i->listed.getD j true=false->¬j∈KQ L ops.toList 0 [i]->oi.apart ops oj=true/\(isV oj.op=false->q5f P oj (fun w'=>σ.lies w'/\Old w w') σ.lies):=fun j oj hj hne hun hno=>by
            have h1:=UA hall j oj (by simpa using hj);have hw:YR j (KQ L ops.toList 0 [i])=false:=by
             rw[<-x8q,HD];exact hno
            have hjl:=(x3r.1 hj).1;rw[hL.getT hjl]at hun;have hb:(j==i)=false:=by simp[hne]
            simp only[x5m,hb,hun,hw,x3t]at h1;cases hap:oi.apart ops oj with
            |false=>rw[hap]at h1;cases h1
            | true=>
              rw[hap,x3p]at h1;refine⟨rfl,fun hvj=>.inr fun a' w1 n w2 hS hrun=>?_⟩;rw[hvj,x3t]at h1;obtain⟨h2,h3⟩:=Cf h1 hrun;exact⟨fun hJ=>⟨hJ,hS.2.trans h2⟩,h3⟩
           have hready:=(hL.ready he hi).2 hrd;obtain⟨s1,hH,hr1,hw⟩:=HK h hr;rcases hw with⟨hw,h⟩|⟨hw,h⟩
           ·unfold Qs at h;simp only[hv,x3p]at h;obtain⟨v,u,hK,hrep,hrun⟩:=BI hT h hr1.slots hr1.heap;rw[XW]at hK;obtain⟨sl,hK,hr'⟩:=hr1.setD hrep hK;refine BG (B:=(· ∈ KQ L ops.toList 0 [i])) (v:=u) (S:=fun w'=>σ.lies w'/\Old w w') hi hv hsel (by simp) hB fuel listed a w hun hfree hready ⟨hr.heap.mem,Old.refl w⟩ (.inl ⟨hw,fun w' hw'=>hrun w' hw'.1 fun _=>hw'.2⟩) ?_;exact ih hok hL.set hK hr' (fun a'' w'' σ'' β'' s'' hK' hr'' hl'=>hF a'' w'' σ'' β'' s'' hK' hr'' (hH▸hl')) hfu
           ·obtain⟨sl,hK,hr'⟩:=hr1.setD (u:=undef) (.p .und) h;refine BG (B:=(· ∈ KQ L ops.toList 0 [i])) (v:=undef) (S:=fun w'=>σ.lies w'/\Old w w') hi hv hsel (by simp) hB fuel listed a w hun hfree hready ⟨hr.heap.mem,Old.refl w⟩ (.inr ⟨hw,rfl⟩) ?_;exact ih hok hL.set hK hr' (fun a'' w'' σ'' β'' s'' hK' hr'' hl'=>hF a'' w'' σ'' β'' s'' hK' hr'' (hH▸hl')) hfu
 | fork i ra j rb iha ihb=>
   intro L listed s K σ β a w F fuel hok hL h hr hF hfu;obtain⟨fuel,rfl⟩ : ∃f,fuel=f+1:=⟨fuel-1,by simp[Sched.len]at hfu;omega⟩;have hfa:ra.len<=fuel:=by simp[Sched.len]at hfu;omega
   have hfb:rb.len<=fuel:=by simp[Sched.len]at hfu;omega
   simp only[WN]at hok;simp only[drW,VY]at h;cases hi:ops[i]?with
   |none=>rw[hi]at hok;cases hok
   | some oi =>
     cases hj:ops[j]?with
     |none=>rw[hi,hj]at hok;cases hok
     | some oj =>
       rw[hi,hj]at hok h;simp only at hok h
       ···cases hri:rdy L i oi with
         |false=>rw[hri]at hok;cases hok
         | true=>
           cases hrj:rdy L j oj with
           |false=>rw[hri,hrj]at hok;cases hok
           | true =>
             simp only[hri,hrj,x3p]at hok;cases hall:Rt (fun k o=>bif k==i then true else bif k==j then true else bif rdy L k o then false else true) ops.toList 0 with
             |false=>rw[hall]at hok;cases hok
             | true=>
               rw[hall,x3p]at hok;cases hoa:WN ops (i::L) ra with
               |false=>rw[hoa]at hok;cases hok
               | true=>
                 rw[hoa,x3p]at hok;refine F8 [i,j] (by simp) hL he (fun k hk=>?_) (fun k o ho hkr=>?_) fun k hk=>?_
                 ·rw[x2i,x2a]at hk;rcases hk with rfl|rfl
                  ·exact⟨oi,hi,hri⟩
                  ·exact⟨oj,hj,hrj⟩
                 ·have h1:=UA hall k o (by simpa using ho);by_cases hki:k=i
                  ·simp[hki]
                  ·by_cases hkj:k=j
                   ·simp[hkj]
                   ·simp[hki,hkj,hkr]at h1
                 ·rw[x2i,x2a]at hk;rcases hk with rfl|rfl
                  ·exact step1 hi h.1 hr hF fun hK hr' hF'=>iha hoa hL.set hK hr' hF' hfa
                  ·exact step1 hj h.2 hr hF fun hK hr' hF'=>ihb hok hL.set hK hr' hF' hfb
 | fork3 i ra j rb k rc iha ihb ihc=>
   intro L listed s K σ β a w F fuel hok hL h hr hF hfu;obtain⟨fuel,rfl⟩ : ∃f,fuel=f+1:=⟨fuel-1,by simp[Sched.len]at hfu;omega⟩;have hfa:ra.len<=fuel:=by simp[Sched.len]at hfu;omega
   have hfb:rb.len<=fuel:=by simp[Sched.len]at hfu;omega
   have hfc:rc.len<=fuel:=by simp[Sched.len]at hfu;omega
   simp only[WN]at hok;simp only[drW,VY]at h;cases hi:ops[i]?with
   |none=>rw[hi]at hok;cases hok
   | some oi=>
     cases hj:ops[j]?with
     |none=>rw[hi,hj]at hok;cases hok
     | some oj=>
       cases hk:ops[k]?with
       |none=>rw[hi,hj,hk]at hok;cases hok
       | some ok=>
         rw[hi,hj,hk]at hok h;simp only at hok h;have bifT:∀{a b:Bool},(bif a then b else false)=true->a=true/\b=true:=fun {a b} h=>by cases a<;>simp_all
         obtain⟨h0,h5⟩:=bifT hok;obtain⟨hoa,h6⟩:=bifT h5;obtain⟨hob,hoc⟩:=bifT h6;obtain⟨hri,h7⟩:=bifT h0;obtain⟨hrj,h8⟩:=bifT h7;obtain⟨hrk,hall⟩:=bifT h8;refine F8 [i,j,k] (by simp) hL he (fun m hm=>?_) (fun m o ho hmr=>?_) fun m hm=>?_
         ·rw[x2i,x2i,x2a]at hm;rcases hm with rfl|rfl|rfl
          ·exact⟨oi,hi,hri⟩
          ·exact⟨oj,hj,hrj⟩
          ·exact⟨ok,hk,hrk⟩
         ·have h1:=UA hall m o (by simpa using ho);by_cases hki:m=i
          ·simp[hki]
          ·by_cases hkj:m=j
           ·simp[hkj]
           ·by_cases hkk:m=k
            ·simp[hkk]
            ·simp[hki,hkj,hkk,hmr]at h1
         ·rw[x2i,x2i,x2a]at hm;rcases hm with rfl|rfl|rfl
          ·exact step1 hi h.1 hr hF fun hK hr' hF'=>iha hoa hL.set hK hr' hF' hfa
          ·exact step1 hj h.2.1 hr hF fun hK hr' hF'=>ihb hob hL.set hK hr' hF' hfb
          ·exact step1 hk h.2.2 hr hF fun hK hr' hF'=>ihc hoc hL.set hK hr' hF' hfc
theorem DrawK.of{info:Info}{id:Nat}{K:St->Prop}(hT:TabOK P T)(hm:P.follows .mixedOrders=true)(r:Sched)(hok:(bif Fd ops.size ops.toList then bif ble r.len ops.size then WN ops [] r else false else false)=true)(h:drW P T N ops r s K):DrawK P T N info id ops K s:=by
 cases h1:Fd ops.size ops.toList with
 |false=>rw[h1]at hok;cases hok
 | true =>
   cases h2:ble r.len ops.size with
   |false=>rw[h1,h2]at hok;cases hok
   | true=>
     rw [h1,h2,x3p,x3p]at hok;have hin:∀j o,ops[j]?=some o->Oh o=true/\∀e∈o.after,e.on<ops.size:=fun j o hj=>by
      have h:=UA h1 j o (by simpa using hj);cases hn:Oh o with
      |false=>rw[hn]at h;cases h
      | true=>
        rw[hn,x3p,LF]at h;exact⟨rfl,fun e hm=>by have:=h e (by simpa using hm);simpa[Nat.blt_eq]using this⟩
     have hsel:∀(j:Nat)(o:Oper) cs b,ops[j]?=some o->o.op ≠ .select cs b:=fun j o cs b hj he=>by
      have:=(hin j o hj).1;unfold Oh at this;rw[he]at this;cases this
     refine⟨⟨fun σ β a w hr=>?_⟩⟩;have hr':Rel N σ β s a {w with drawn:=w.drawn+1}:=⟨hr.size,hr.defers,hr.slots,⟨hr.heap.mem,fun k c h=>(hr.heap.chunks k c h).mono (Mem.le_refl σ) fun _ _ _ _=>rfl,hr.heap.nodup,hr.heap.apart,hr.heap.inj⟩⟩;have hinit:Ls ops.size [] (Array.replicate ops.size false):=⟨by simp,fun j hj=>by simp[hj,YR]⟩;refine wp_mono (wp_region_any hm (Kx _ _ _ _ (CQ (F:=fun a' w'=>∃σ' β' s',K s'/\Rel N σ' β' s' a' w'/\Later σ β s.H w σ' β' s'.H w') hT hsel (fun i o hi=>(hin i o hi).2) r hok hinit h hr' (fun a' w' σ' β' s' hK hr'' hl=>⟨σ',β',s',hK,hr'',?_⟩) (x7b h2)))) ?_
     ·exact⟨hl.le,⟨hl.frm.os,hl.frm.tape,hl.frm.output,x4k (Nat.le_succ _) hl.frm.drawn,hl.frm.size,hl.frm.block⟩,hl.mem,hl.own,hl.pin⟩
     ·rintro e a' w' ⟨rfl,h⟩;exact h
end
inductive Wk(new:List (Nat×Chunk)):LV->LV->Prop
 |refl (l:LV):Wk new l l
 |of_eq {l l':LV} (h:l=l'):Wk new l l'
 |any (l:LV):Wk new l (.p .any)
 |p {a b:AV} (h:Sub a b):Wk new (.p a) (.p b)
 |nil {k e sz:Nat} (h:(k,Chunk.own e sz [])∈new):Wk new (.p .nils) (.hd k 0 0)
inductive WkS(new:List (Nat×Chunk))(sl:List (Nat×LV)):List (Nat×LV)->Prop
 |nil:WkS new sl []
 |cons {i:Nat} {l:LV} {r:List (Nat×LV)} (h:Wk new (getS sl i) l) (hr:WkS new sl r):WkS new sl ((i,l)::r)
theorem WkS.r{new:List (Nat×Chunk)}{sl:List (Nat×LV)}{i:Nat}{r:List (Nat×LV)}(h:WkS new sl r):WkS new sl ((i,getS sl i)::r):=.cons (.refl _) h
theorem WkS.get{new:List (Nat×Chunk)}{sl sl':List (Nat×LV)}(h:WkS new sl sl')(i:Nat):Wk new (getS sl i) (getS sl' i):=by
 induction h with
 |nil=>exact .any _
 | @cons j l r h hr ih=>
   simp only[getS];by_cases hj:j=i
   ·subst hj;simpa using h
   ·have:(j==i)=false:=by simp[hj]
    simpa[this]using ih
inductive WkL(new:List (Nat×Chunk)):List LV->List LV->Prop
 |nil:WkL new [] []
 |cons {l l':LV} {r r':List LV} (h:Wk new l l') (hr:WkL new r r'):WkL new (l::r) (l'::r')
theorem WkL.r{new:List (Nat×Chunk)}{l:LV}{r s:List LV}(h:WkL new r s):WkL new (l::r) (l::s):=.cons (.refl _) h
theorem WkL.get{new:List (Nat×Chunk)}{ls ls':List LV}(h:WkL new ls ls'):ls.length=ls'.length/\∀(j:Nat)(l':LV),ls'[j]?=some l'->∃l,ls[j]?=some l/\Wk new l l':=by
 induction h with
 |nil=>exact⟨rfl,by simp⟩
 | cons h hr ih=>
   refine⟨by simp[ih.1],fun j l' hj=>?_⟩;cases j with
   |zero=>simp at hj;subst hj;exact⟨_,rfl,h⟩
   |succ j=>exact ih.2 j l' (by simpa using hj)
inductive CWk(new:List (Nat×Chunk)):Chunk->Chunk->Prop
 |refl (c:Chunk):CWk new c c
 |of_eq {c c':Chunk} (h:c=c'):CWk new c c'
 |obj {e:TypeId} {cs cs':List LV} (h:WkL new cs cs'):CWk new (.obj e cs) (.obj e cs')
inductive WkH(new H:List (Nat×Chunk)):List (Nat×Chunk)->Prop
 |nil:WkH new H []
 |cons {k:Nat} {c c':Chunk} {r:List (Nat×Chunk)} (hg:getH H k=some c) (h:CWk new c c') (hr:WkH new H r):WkH new H ((k,c')::r)
 |new {c:Nat×Chunk} {r:List (Nat×Chunk)} (h:c∈new) (hr:WkH new H r):WkH new H (c::r)
theorem WkH.get{new H H':List (Nat×Chunk)}(h:WkH new H H'):∀x∈H',x∈new\/∃c,(x.1,c)∈H/\CWk new c x.2:=by
 induction h with
 |nil=>simp
 | cons hg h hr ih=>
   intro x hx;rcases x2i.1 hx with rfl|hx
   ·exact .inr ⟨_,QG hg,h⟩
   ·exact ih x hx
 | new h hr ih=>
   intro x hx;rcases x2i.1 hx with rfl|hx
   ·exact .inl h
   ·exact ih x hx
def Chunk.new0:Chunk->Bool
 |.own _ _ []=>true
 |_=>false
theorem Rel.nils{σ:Mem}{v:Value}(h:Rep σ .nils v):v=.slice none 0 0:=by cases h;rfl
theorem P1{N:Nat}{σ:Mem}{s:St}{a:Act}{w:World}:∀(new:List (Nat×Chunk)){β:Lab},(∀c∈new,c.2.new0=true/\WU c.1 s=true)->(new.map (·.1)).Nodup->Rel N σ β s a w->
  ∃β',Rel N σ β' ⟨s.sl,new++s.H⟩ a w/\(∀c∈new,β' c.1=none)/\(∀b,owns β' (new++s.H) b->owns β s.H b)/\∀j,1000<=j->j<2000->β' j=β j
 |[],β,_,_,h=>⟨β,h,by simp,fun _ hb=>hb,fun _ _ _=>rfl⟩
 | (k,c)::r,β,hn,hnd,h=>by
   obtain⟨β1,h1,h2,h3,h4⟩:=P1 r (fun c hc=>hn c (x2c _ hc)) (x4r.1 hnd).2 h;obtain⟨hc0,hk⟩:=hn (k,c) x2r;obtain⟨hu1,hu2⟩:=XL hk;have hkr:k∉r.map (·.1):=(x4r.1 hnd).1;have hall:∀j d,(j,d)∈r++s.H->j≠k/\d.free k=true:=fun j d hd=>by
    rcases x3x.1 hd with hd|hd
    ·refine⟨fun he=>hkr (x3q.2 ⟨_,hd,he⟩),?_⟩;have:=(hn (j,d) (x2c _ hd)).1;cases d with
     |obj=>cases this
     |own=>rfl
     |ext=>cases this
    ·exact hu1 j d hd
   have hset:∀j,j≠k->(β1.set k none) j=β1 j:=fun j hj=>by simp[Lab.set,hj]
   have hsetk:(β1.set k none) k=none:=by simp[Lab.set]
   have hlab:∀j∈(r++s.H).map (·.1),j≠k:=fun j hj=>by
    obtain⟨⟨j',d⟩,hm,rfl⟩:=x3q.1 hj;exact(hall j' d hm).1
   refine⟨β1.set k none,⟨h1.size,h1.defers,fun i=>(h1.slots i).set none (hu2 i),⟨h1.heap.mem,fun j d hd=>?_,?_,fun j hj i hi b hb=>?_,fun j hj j' hj' i i' hi hi' b hb hb'=>?_⟩⟩,fun d hd=>?_,fun b hb=>?_,fun j h0 h5=>?_⟩
   ·rcases x2i.1 hd with he|hd
    ·cases he;cases c with
     |obj=>cases hc0
     |ext=>cases hc0
     | own e sz es=>
       cases es with
       |nil=>exact .inl ⟨hsetk,rfl⟩
       |cons=>cases hc0
    ·exact(h1.heap.chunks j d hd).set none (hall j d hd).1 (hall j d hd).2
   ·exact x4r.2 ⟨fun hk=>hlab k hk rfl,h1.heap.nodup⟩
   ·rcases x2i.1 hj with rfl|hj
    ·rw[hsetk]at hi;cases hi
    ·rw[hset j (hlab j hj)]at hi;exact h1.heap.apart j hj i hi b hb
   ·rcases x2i.1 hj with rfl|hj
    ·rw[hsetk]at hi;cases hi
    ·rcases x2i.1 hj' with rfl|hj'
     ·rw[hsetk]at hi';cases hi'
     ·rw[hset j (hlab j hj)]at hi;rw[hset j' (hlab j' hj')]at hi';exact h1.heap.inj j hj j' hj' i i' hi hi' b hb hb'
   ·rcases x2i.1 hd with rfl|hd
    ·exact hsetk
    ·rw[hset d.1 fun he=>hkr (x3q.2 ⟨_,hd,he⟩)];exact h2 d hd
   ·obtain⟨j,hj,i,hi,hb⟩:=hb;rcases x2i.1 hj with rfl|hj
    ·rw[hsetk]at hi;cases hi
    ·rw[hset j (hlab j hj)]at hi;exact h3 b ⟨j,hj,i,hi,hb⟩
   ·have:=YW hk;rw[hset j (by show j≠k;simp only at this;omega)];exact h4 j h0 h5
theorem Le.mk{sl':List (Nat×LV)}{H':Heap}(new:List (Nat×Chunk))(hnew:∀c∈new,c.2.new0=true/\WU c.1 s=true)(hndn:(new.map (·.1)).Nodup)(hnd:(H'.map (·.1)).Nodup)(hsl:WkS new s.sl sl')(hH:WkH new s.H H'):Le N s ⟨sl',H'⟩:=fun σ β a w h=>by
 obtain⟨β',h1,h2,h3,h4⟩:=P1 new hnew hndn h;have hH:=hH.get;have hlab:∀j∈H'.map (·.1),j∈(new++s.H).map (·.1):=fun j hj=>by
  obtain⟨⟨j',c⟩,hm,rfl⟩:=x3q.1 hj;rcases hH _ hm with hm|⟨c0,hm,_⟩
  ·exact x3q.2 ⟨_,x3x.2 (.inl hm),rfl⟩
  ·exact x3q.2 ⟨(j',c0),x3x.2 (.inr hm),rfl⟩
 have hwk:∀{l l':LV}{v:Value},Wk new l l'->RepL σ β' l v->RepL σ β' l' v:=fun {l l' v} hw hv=>by
  cases hw with
  |refl=>exact hv
  |of_eq he=>exact he▸hv
  |any=>exact .p (.any _)
  | p hs=>cases hv with
    |p hv=>exact .p (hs _ _ hv)
  | nil hm=>
    have hk:=h2 _ hm;cases hv with
    |p hv=>rw[Rel.nils hv];exact .hdn _ hk
 refine⟨σ,β',⟨h1.size,h1.defers,fun i=>hwk (hsl.get i) (h1.slots i),⟨h1.heap.mem,fun j c hc=>?_,hnd,fun j hj=>h1.heap.apart j (hlab j hj),fun j hj j' hj'=>h1.heap.inj j (hlab j hj) j' (hlab j' hj')⟩⟩,
  Mem.le_refl σ,Frm.refl _ _,fun _ h0 h1=>absurd h0 h1,fun b ⟨j,hj,r⟩=>.inl (h3 b ⟨j,hlab j hj,r⟩),h4⟩
 rcases hH _ hc with hm|⟨c0,hm,hw⟩
 ·exact h1.heap.chunks j c (x3x.2 (.inl hm))
 ·have hold:=h1.heap.chunks j c0 (x3x.2 (.inr hm));have hw:CWk new c0 c:=hw;cases hw with
  |refl=>exact hold
  |of_eq he=>exact he▸hold
  | obj hs=>
    obtain⟨i,vs,hi,hb,hn,hc'⟩:=hold;obtain⟨hlen,hget⟩:=hs.get;refine⟨i,vs,hi,hb,by omega,fun m l' hm'=>?_⟩;obtain⟨l,h5,h6⟩:=hget m l' hm';obtain⟨u,h7,h8⟩:=hc' m l h5;exact⟨u,h7,hwk h6 h8⟩
end Go.Ab
