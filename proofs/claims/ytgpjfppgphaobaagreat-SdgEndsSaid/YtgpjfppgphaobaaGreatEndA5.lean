/- Contracts of functions that touch no memory but what they make ('SpecP'): proved by their text, used at a call. Conditions: the table of types is the program's own. -/
import Derived.Test.YtgpjfppgphaobaaGreatEndA4
set_option linter.all false
set_option maxRecDepth 100000
set_option maxHeartbeats 16000000
open Nat (ble)
namespace Go.Ab
variable {L:List Nat}{N:Nat}{T:Tab}{fn:Func}{listed:Array Bool}{s:St}{β:Lab}
def Sub(a b:AV):Prop:=∀(σ:Mem)(v:Value),Rep σ a v->Rep σ b v
theorem Sub.refl(a:AV):Sub a a:=fun _ _ h=>h
theorem Sub.of_eq{a b:AV}(h:a=b):Sub a b:=h▸Sub.refl a
theorem Sub.tt{b:Bool}(h:b=true):Sub .tt (.bool b):=fun _ _ i=>by cases i;rw[h];exact .bool true
theorem Sub.ff{b:Bool}(h:b=false):Sub .ff (.bool b):=fun _ _ i=>by cases i;rw[h];exact .bool false
theorem Sub.bool{a b:Bool}(h:a=b):Sub (.bool a) (.bool b):=h▸Sub.refl _
theorem Sub.int{k:IntKind}{m n:Int}(h:m=n):Sub (.int k m) (.int k n):=h▸Sub.refl _
theorem Sub.nils:Sub .nils (.sl []):=fun _ _ i=>by cases i;exact .nilsl
def SubL(h bs:List AV):Prop:=h.length=bs.length/\∀(j:Nat)(a b:AV),h[j]?=some a->bs[j]?=some b->Sub a b
theorem SubL.nil:SubL [] []:=⟨rfl,by simp⟩
theorem SubL.cons{a b:AV}{m bs:List AV}(h:Sub a b)(o:SubL m bs):SubL (a::m) (b::bs):=
 ⟨by simp[o.1],fun j x y i l=>by
   cases j with
   |zero=>simp at i l;subst i l;exact h
   |succ j=>exact o.2 j x y (by simpa using i) (by simpa using l)⟩
theorem SubL.get{l bs:List AV}(h:SubL l bs){j:Nat}{b:AV}(m:bs[j]?=some b):∃a,l[j]?=some a/\Sub a b:=by
 have i:j<l.length:=by rw[h.1];exact(x4u.1 m).1
 exact⟨l[j],by simp[i],h.2 j _ _ (by simp[i]) m⟩
theorem Sub.agg{m bs:List AV}(h:SubL m bs):Sub (.agg m) (.agg bs):=fun σ v l=>by
 cases l with
 |agg _ vs u q o l=>exact .agg bs vs u (by rw[q,h.1]) (fun j b i=>let ⟨a,ha,_⟩:=h.get i;o j a ha) fun j b i=>let ⟨a,ha,hs⟩:=h.get i;hs _ _ (l j a ha)
theorem Sub.tup{m bs:List AV}(h:SubL m bs):Sub (.tup m) (.tup bs):=fun σ v l=>by
 cases l with
 |tup _ vs u q o l=>exact .tup bs vs u (by rw[q,h.1]) (fun j b i=>let ⟨a,ha,_⟩:=h.get i;o j a ha) fun j b i=>let ⟨a,ha,hs⟩:=h.get i;hs _ _ (l j a ha)
inductive Frz(H:Heap):LV->AV->Prop
 |p {a b:AV} (h:Sub a b):Frz H (.p a) b
 |hd {k n:Nat} {e sz:Nat} {es:List AV} (hg:getH H k=some (.own e sz es)) (hn:n=es.length):Frz H (.hd k 0 n) (.sl es)
 |ptr {k off:Nat} {e:Nat} {ls:List LV} {cs:List AV} (hg:getH H k=some (.obj e ls)) (hl:ls.length=cs.length)
    (h:∀(j:Nat)(l:LV)(c:AV),ls[j]?=some l->cs[j]?=some c->Frz H l c):Frz H (.ptr k off) (.ip (cs.drop off))
 |row {k a:Nat} {e e2 sz:Nat} {rows:List (List AV)} {hole:List Nat} {row:List AV} (hg:getH H k=some (.ext (.mat e e2 sz rows hole))) (hr:rows[a]?=some row) (hh:a∉hole):Frz H (.ext k (.row a row.length)) (.sl row)
 |mat {k n:Nat} {e e2 sz:Nat} {rows:List (List AV)} (hg:getH H k=some (.ext (.mat e e2 sz rows []))) (hn:n=rows.length):Frz H (.hd k 0 n) (.sl (rows.map .sl))
 |hdo {k n e sz:Nat} {ls:List LV} {cs es:List AV} (hg:getH H k=some (.obj e ls)) (hl:ls.length=cs.length)
    (h:∀(j:Nat)(l:LV)(c:AV),ls[j]?=some l->cs[j]?=some c->Frz H l c) (hn:n=es.length) (hz:∀(m:Nat)(x:AV),es[m]?=some x->x.cells.length=sz)
    (hx:∀(m:Nat)(x:AV)(j:Nat)(c:AV),es[m]?=some x->x.cells[j]?=some c->cs[m*sz+j]?=some c):Frz H (.hd k 0 n) (.sl es)
 |sub {l:LV} {a b:AV} (h:Frz H l a) (hs:Sub a b):Frz H l b
 |agg {ls:List LV} {cs:List AV} (hl:ls.length=cs.length) (h:∀(j:Nat)(l:LV)(c:AV),ls[j]?=some l->cs[j]?=some c->Frz H l c):Frz H (.agg ls) (.agg cs)
 |tup {ls:List LV} {cs:List AV} (hl:ls.length=cs.length) (h:∀(j:Nat)(l:LV)(c:AV),ls[j]?=some l->cs[j]?=some c->Frz H l c):Frz H (.tup ls) (.tup cs)
def LG{σ:Mem}{H:Heap}{w:World}(h:HRel σ β H w):
  ∃τ:Mem,σ.le τ/\τ.lies w/\(∀b,τ b≠none->σ b≠none\/owns β H b)/\∀l v c,RepL σ β l v->Frz H l c->Rep τ c v:=by
 let τ:Mem:=fun b=>@ite _ (owns β H b) (Classical.propDecidable _) (match w.heap[b]?with
  |some (.cells c _ _)=>some c
  |_=>none) (σ b)
 have E:∀b,owns β H b->∀c e fr,w.heap[b]?=some (.cells c e fr)->τ b=some c:=fun b z c e fr I=>by
  show @ite _ (owns β H b) (Classical.propDecidable _) _ _=_;rw[if_pos z,I]
 have Z:∀b,¬owns β H b->τ b=σ b:=fun b z=>by
  show @ite _ (owns β H b) (Classical.propDecidable _) _ _=_;rw[if_neg z]
 have hle:σ.le τ:=fun b c z=>by
  rw[Z b]
  .exact z
  .rintro ⟨k,q,i,A,hib⟩;rw[(h.apart k q i A b hib).1]at z;cases z
 have N9:∀{e2 sz b c:Nat}{row:List AV}{ws:Array Value},owns β H b->w.heap[b]?=some (.cells ws e2 (0,0))->row.length<=c->c<=maxLen->
   (∀(m:Nat)(x:AV),row[m]?=some x->x.cells.length=sz/\∀(j:Nat)(c':AV),x.cells[j]?=some c'->∃u:Value,ws[m*sz+j]?=some u/\Rep σ c' u)->Rep τ (.sl row) (.slice (some ⟨b,0,none⟩) row.length c):=fun {e2 sz b c row ws} z I f M h3=>by
  refine .sl row b 0 c sz ws (fun m j=>(ws[m*sz+j]?).getD undef) (E b z _ _ _ I) f M (fun m x y=>(h3 m x y).1) (fun m x j c' y o=>?_) fun m x j c' y o=>?_
  .obtain ⟨u,h4,_⟩:=(h3 m x y).2 j c' o;simp[h4]
  .obtain ⟨u,h4,h5⟩:=(h3 m x y).2 j c' o;simpa[h4]using h5.mono hle
 refine⟨τ,hle,fun b c z=>?_,fun b z=>?_,fun l v c U hf=>?_⟩
 .by_cases B:owns β H b
  .have hb':@ite _ (owns β H b) (Classical.propDecidable _) (match w.heap[b]?with
    |some (.cells c _ _)=>some c
    |_=>none) (σ b)=some c:=z
   rw[if_pos B]at hb';split at hb'
   .rename_i c' e fr I;cases hb';exact⟨e,fr,I⟩
   .cases hb'
  .rw [Z b B]at z;exact h.mem b c z
 .by_cases B:owns β H b
  .exact .inr B
  .rw [Z b B]at z;exact .inl z
 .induction hf generalizing v with
  | p hs=>
    cases U with
    |p U=>exact hs _ _ (U.mono hle)
  | @hd k n e sz es G Y=>
    subst Y;have r:=QP G;rcases WD.1 (h.chunks k _ (QG G))with⟨hb0,rfl⟩|⟨i,vs,A,hisz,I,Y,hle',hmax,hE⟩
    .rcases U.hdI with⟨_,_,_,rfl⟩|⟨i,_,q,_⟩
     .exact .nilsl
     .rw [hb0]at q;cases q
    .rcases U.hdI with⟨q,_⟩|⟨i',oo,q,O,B,rfl⟩
     .rw [A]at q;cases q
     .rw [A]at q;cases q;have hoo:oo=0:=by
       rcases B with B|B
       .simpa using B
       .omega
      subst hoo;have d:owns β H i.blk:=⟨k,r,i,A,.inl rfl⟩;obtain⟨u,hu⟩ : ∃u:Nat->Nat->Value,∀(m:Nat)(x:AV)(j:Nat)(c:AV),es[m]?=some x->x.cells[j]?=some c->vs[m*sz+j]?=some (u m j)/\Rep σ c (u m j):=by
       refine⟨fun m j=>(vs[m*sz+j]?).getD undef,fun m x j c y o=>?_⟩;obtain⟨v,f,M⟩:=hE.rep m x j c y o;rw[x5s]at f;split at f
       .have h1':vs[m*sz+j]?=some v:=by simpa using f
        exact⟨by simp[h1'],by simpa[h1']using M⟩
       .cases f
      exact .sl es i.blk 0 _ sz vs u (E _ d _ _ _ I) (by omega) (by omega) hE.size (fun m x j c y o=>by simpa using(hu m x j c y o).1) fun m x j c y o=>(hu m x j c y o).2.mono hle
  | @row k a e e2 sz rows hole row G C hnh=>
    have r:=QP G;cases U with
    | ext _ _ i _ q hd=>
      rcases h.chunks k _ (QG G)with h0|⟨i',vs,A,f,I,M,h3,h4,h5,h6,V⟩
      .rw [q]at h0;cases h0.1
      .rw [q]at A;cases A;rcases(V a row C).2 hnh with⟨F,h8,_⟩|⟨b,c,ws,F,h8,h9,h10,h11,h12,h13⟩
       .rcases hd with⟨_,_,rfl⟩|⟨b,c,z,_,_⟩
        .rw [h8];exact .nilsl
        .rw [z]at F;cases F
       .rcases hd with⟨z,_,_⟩|⟨b',c',z,_,rfl⟩
        .rw [z]at F;cases F
        .rw [z]at F;cases F;exact N9 ⟨k,r,i,q,.inr ⟨c,x4p z⟩⟩ h9 h11 h12 h13
  | @mat k n e e2 sz rows G Y=>
    subst Y;have r:=QP G;rcases h.chunks k _ (QG G)with⟨hb0,rfl⟩|⟨i,vs,A,f,I,M,h3,h4,h5,h6,V⟩
    .rcases U.hdI with⟨_,_,_,rfl⟩|⟨i,_,q,_⟩
     .exact .nilsl
     .rw [hb0]at q;cases q
    .rcases U.hdI with⟨q,_⟩|⟨i',oo,q,O,B,rfl⟩
     .rw [A]at q;cases q
     .rw [A]at q;cases q;have hoo:oo=0:=by
       rcases B with B|B
       .simpa using B
       .omega
      subst hoo;have d:owns β H i.blk:=⟨k,r,i,A,.inl rfl⟩;have C:∀(a:Nat)(row:List AV),rows[a]?=some row->∃u:Value,vs[a]?=some u/\Rep τ (.sl row) u:=fun a row C=>by
       rcases(V a row C).2 (by simp)with⟨F,h8,h9⟩|⟨b,c,ws,F,h8,h9,h10,h11,h12,h13⟩
       .exact ⟨_,h9,h8 ▸ .nilsl⟩
       .exact ⟨_,h8,N9 ⟨k,r,i,A,.inr ⟨c,x4p F⟩⟩ h9 h11 h12 h13⟩
      have hel:∀(m:Nat)(x:AV),(rows.map AV.sl)[m]?=some x->∃row,rows[m]?=some row/\x=.sl row:=fun m x y=>by
       rw[x4q]at y;cases hq:rows[m]?with
       |none=>rw[hq]at y;cases y
       |some row=>rw[hq]at y;cases y;exact⟨row,rfl,rfl⟩
      have hpr:Rep τ (.sl (rows.map AV.sl)) (.slice (some ⟨i.blk,0,none⟩) (rows.map AV.sl).length i.cap):=by
       refine .sl (rows.map .sl) i.blk 0 i.cap 1 vs (fun m _=>(vs[m]?).getD undef) (E _ d _ _ _ I) (by simpa using h3) h4 (fun m x y=>?_) (fun m x j c y o=>?_) fun m x j c y o=>?_
       .obtain ⟨row,_,rfl⟩:=hel m x y;rfl
       .obtain ⟨row,hq,rfl⟩:=hel m x y;obtain⟨u,F,_⟩:=C m row hq;have hj0:j=0:=by
         have:=(x4u.1 o).1;simpa[AV.cells]using this
        subst hj0;simp[F]
       .obtain ⟨row,hq,rfl⟩:=hel m x y;obtain⟨u,F,h8⟩:=C m row hq;have hj0:j=0:=by
         have:=(x4u.1 o).1;simpa[AV.cells]using this
        subst hj0;simp only[AV.cells,x9a,x7c]at o;subst o;simpa[F]using h8
      simpa using hpr
  |sub _ hs ih=>exact hs _ _ (ih v U)
  | @hdo k n e sz ls cs es G O _ Y hz y ih=>
    subst Y;have r:=QP G;obtain⟨i,vs,A,I,hvn,V⟩:=h.chunks k _ (QG G);rcases U.hdI with⟨q,_⟩|⟨i',oo,q,hlen,B,rfl⟩
    .rw [A]at q;cases q
    .rw [A]at q;cases q;have hoo:oo=0:=by
      rcases B with B|B
      .simpa using B
      .omega
     subst hoo;have d:owns β H i.blk:=⟨k,r,i,A,.inl rfl⟩;have hcap:=i.ok;have D:∀(j:Nat)(c:AV),cs[j]?=some c->∃u:Value,vs[j]?=some u/\Rep τ c u:=fun j c o=>by
      have t:j<ls.length:=by rw[O];exact(x4u.1 o).1
      obtain⟨u,f,M⟩:=V j ls[j] (by simp[t]);exact⟨u,f,ih j _ c (by simp[t]) o u M⟩
     refine .sl es i.blk 0 _ sz vs (fun m j=>(vs[m*sz+j]?).getD undef) (E _ d _ _ _ I) (by omega) (by omega) hz (fun m x j c hx1 o=>?_) fun m x j c hx1 o=>?_
     .obtain ⟨u,f,_⟩:=D _ c (y m x j c hx1 o);simp[f]
     .obtain ⟨u,f,M⟩:=D _ c (y m x j c hx1 o);simpa[f]using M
  | @ptr k off e ls cs G O _ ih=>
    have r:=QP G;obtain⟨i,vs,A,I,Y,V⟩:=h.chunks k _ (QG G);cases U with
    | ptr _ _ i' q=>
      rw[A]at q;cases q;have d:owns β H i.blk:=⟨k,r,i,A,.inl rfl⟩;have D:∀(j:Nat)(c:AV),cs[j]?=some c->∃u:Value,vs[j]?=some u/\Rep τ c u:=fun j c o=>by
       have t:j<ls.length:=by rw[O];exact(x4u.1 o).1
       obtain⟨u,f,M⟩:=V j ls[j] (by simp[t]);exact⟨u,f,ih j _ c (by simp[t]) o u M⟩
      refine .ip _ i.blk off vs (fun j=>(vs[off+j]?).getD undef) (E _ d _ _ _ I) (fun j c o=>?_) fun j c o=>?_
      .obtain ⟨u,f,_⟩:=D (off+j) c (by simpa using o);simp[f]
      .obtain ⟨u,f,M⟩:=D (off+j) c (by simpa using o);simpa[f]using M
  | @agg ls cs O _ ih=>
    cases U with
    | agg _ vs u Y V hrr=>
      refine .agg cs vs u (by rw[Y,O]) (fun j c o=>?_) fun j c o=>?_
      .have t:j<ls.length:=by rw[O];exact(x4u.1 o).1
       exact V j ls[j] (by simp[t])
      .have t:j<ls.length:=by rw[O];exact(x4u.1 o).1
       exact ih j ls[j] c (by simp[t]) o _ (hrr j ls[j] (by simp[t]))
  | @tup ls cs O _ ih=>
    cases U with
    | tup _ vs u Y V hrr=>
      refine .tup cs vs u (by rw[Y,O]) (fun j c o=>?_) fun j c o=>?_
      .have t:j<ls.length:=by rw[O];exact(x4u.1 o).1
       exact V j ls[j] (by simp[t])
      .have t:j<ls.length:=by rw[O];exact(x4u.1 o).1
       exact ih j ls[j] c (by simp[t]) o _ (hrr j ls[j] (by simp[t]))
structure SpecP(P:Program)(f:FuncId)(args:List AV)(R:AV->Prop):Prop where
 go:∀(vals:Array Value)(w:World),(callFunc f vals).run P w=.ok (.enter f vals) w
 ok:∀(σ:Mem)(w:World)(vals:Array Value),vals.size=args.length->(∀(j:Nat)(c:AV),args[j]?=some c->Rep σ c (vals.getD j undef))->σ.lies w->
  Calls P f vals w fun e w'=>∃c u σ',e=.returned u/\R c/\Rep σ' c u/\σ.le σ'/\σ'.lies w'/\Frm (fun _=>False) w w'/\∀b,σ b=none->σ' b≠none->w.heap.size<=b
theorem SpecP.mono{P:Program}{f:FuncId}{args:List AV}{R R':AV->Prop}(h:SpecP P f args R)(q:∀x,R x->R' x):SpecP P f args R':=
 ⟨h.go,fun σ w j l m o=>(h.ok σ w j l m o).mono fun _ _ ⟨c,u,σ',t,r,i⟩=>⟨c,u,σ',t,q c r,i⟩⟩
inductive RetK(H:Heap)(v:LV)(R:AV->Prop):Prop
 |mk (c:AV) (hf:Frz H v c) (hR:R c)
def E5(T:Tab)(s:St):List ResultVar->(List LV->Prop)->Prop
 |[],K=>K []
 |.tmp t::r,K=>JB (getS s.sl t) fun v=>E5 T s r fun vs=>K (v::vs)
 | .cell a t::r,K=>match getS s.sl a with
   | .ptr k off=>match getH s.H k with
     |some (.obj _ cs)=>ldL T t (cs.drop off) fun v=>E5 T s r fun vs=>K (v::vs)
     |_=>False
   |_=>False
def Fh(vs:List LV):LV:=match vs with
 |[v]=>v
 |vs=>mkTup vs
def x2u(T:Tab)(h:Array ResultVar)(R:AV->Prop):Exit->St->Prop
 |.ret,s |.normal,s=>E5 T s h.toList fun vs=>RetK s.H (Fh vs) R
 |_,_=>False
theorem We{P:Program}{T:Tab}{N:Nat}{σ:Mem}{β:Lab}{s:St}{a:Act}{w:World}(hT:TabOK P T)(x:Rel N σ β s a w):∀(rs:List ResultVar){K:List LV->Prop},E5 T s rs K->
  ∃ls vs,K ls/\RepC σ β ls vs/\(rs.mapM fun
   |.tmp t=>pure (a.tmps.getD t undef)
   |.cell c t=>do loadVar t (<-asAddr (a.tmps.getD c undef)):Sem (List Value)).run P w=.ok vs w
 |[],K,h=>⟨[],[],h,⟨rfl,by simp⟩,rfl⟩
 | .tmp t::r,K,h=>by
   simp only[E5,XB]at h;obtain⟨ls,vs,o,q,m⟩:=We hT x r h;refine⟨_,a.tmps.getD t undef::vs,o,⟨by simp[q.1],fun j l n=>?_⟩,by simp only[List.mapM_cons,Sem.run_bind,Sem.run_pure,Result.andThen_ok,m]⟩;cases j with
   |zero=>simp at n;subst n;exact⟨_,rfl,x.E t⟩
   |succ j=>exact q.2 j l (by simpa using n)
 | .cell c t::r,K,h=>by
   simp only[E5]at h;have d:=x.E c;split at h<;>first|exact h.elim|skip
   rename_i k off B;split at h<;>first|exact h.elim|skip
   rename_i e cs C;rw[B]at d;obtain⟨i,A,F,D,I,z⟩:=x.heap.chunks k _ (QG C);generalize H:a.tmps.getD c undef=v at d;cases d with
   | ptr _ _ i' f=>
     rw[F]at f;cases f;obtain⟨l,u,o,y,G⟩:=LP (P:=P) hT h (off:=off) D (fun j l n=>z (off+j) l (by simpa using n));obtain⟨ls,vs,o,q,m⟩:=We hT x r o;refine⟨_,u::vs,o,⟨by simp[q.1],fun j l' n=>?_⟩,?_⟩
     .cases j with
      |zero=>simp at n;subst n;exact⟨_,rfl,y⟩
      |succ j=>exact q.2 j l' (by simpa using n)
     .have b:(loadVar t ⟨i.blk,off,none⟩).run P w=.ok u w:=by simpa[Instr.loadAt,Instr.sureAddr]using G w rfl
      have p:(asAddr (.pointer (some ⟨i.blk,off,none⟩))).run P w=.ok ⟨i.blk,off,none⟩ w:=rfl;simp only[List.mapM_cons,Sem.run_bind,H,p,Sem.run_pure,Result.andThen_ok,b,m]
theorem RepC.mkTup{σ:Mem}{β:Lab}{ls:List LV}{vs:List Value}(h:RepC σ β ls vs):RepL σ β (mkTup ls) (.tuple vs.toArray):=by
 refine RepL.mkTup (fun j=>(vs[j]?).getD undef) (by simpa using h.1) (fun j l m=>?_) fun j l m=>?_
 .obtain ⟨u,i,_⟩:=h.2 j l m;simp[i]
 .obtain ⟨u,i,o⟩:=h.2 j l m;simpa[i]using o
def Im{P:Program}{σ:Mem}{a:Act}{w:World}{R:AV->Prop}(hT:TabOK P T)(r:Rel N σ β s a w)(h:E5 T s fn.results.toList fun vs=>RetK s.H (Fh vs) R):
  ∃v u,RetK s.H v R/\RepL σ β v u/\(results fn a.tmps).run P w=.ok u w:=by
 obtain⟨ls,vs,p,k,i⟩:=We hT r fn.results.toList h;have q:(fn.results.mapM fun
   |.tmp t=>pure (a.tmps.getD t undef)
   |.cell c t=>do loadVar t (<-asAddr (a.tmps.getD c undef)):Sem (Array Value)).run P w=.ok vs.toArray w:=by
  rw[Array.mapM_eq_mapM_toList];simp only[Sem.run_map,i,Result.andThen_ok]
 refine⟨Fh ls,if h:vs.toArray.size=1 then vs.toArray[0]else .tuple vs.toArray,p,?_,?_⟩
 .unfold Fh;split
  .rename_i v;have j:vs.length=1:=k.1;obtain⟨u,n,o⟩:=k.2 0 v rfl;rw[dif_pos (by simpa using j)];have:vs.toArray[0]'(by simp[j])=u:=by
    have:=(x4u.1 n).2;simpa using this
   rw[this];exact o
  .rename_i m;rw[dif_neg]
   .exact k.mkTup
   .intro j;have l:ls.length=1:=by rw[<-k.1];simpa using j
    obtain⟨x,y⟩:=List.length_eq_one_iff.1 l;exact m x y
 .unfold results;rw[Sem.run_bind]
  erw [q]
  rfl
def Cd{P:Program}{σ:Mem}{a:Act}{w:World}{K:List LV->Prop}(hT:TabOK P T)(r:Rel N σ β s a w)(h:E5 T s fn.results.toList K):
  ∃ls u,K ls/\RepL σ β (Fh ls) u/\(results fn a.tmps).run P w=.ok u w:=by
 obtain⟨ls,vs,p,k,i⟩:=We hT r fn.results.toList h;have q:(fn.results.mapM fun
   |.tmp t=>pure (a.tmps.getD t undef)
   |.cell c t=>do loadVar t (<-asAddr (a.tmps.getD c undef)):Sem (Array Value)).run P w=.ok vs.toArray w:=by
  rw[Array.mapM_eq_mapM_toList];simp only[Sem.run_map,i,Result.andThen_ok]
 refine⟨ls,if h:vs.toArray.size=1 then vs.toArray[0]else .tuple vs.toArray,p,?_,?_⟩
 .unfold Fh;split
  .rename_i v;have j:vs.length=1:=k.1;obtain⟨u,n,o⟩:=k.2 0 v rfl;rw[dif_pos (by simpa using j)];have:vs.toArray[0]'(by simp[j])=u:=by
    have:=(x4u.1 n).2;simpa using this
   rw[this];exact o
  .rename_i m;rw[dif_neg]
   .exact k.mkTup
   .intro j;have l:ls.length=1:=by rw[<-k.1];simpa using j
    obtain⟨x,y⟩:=List.length_eq_one_iff.1 l;exact m x y
 .unfold results;rw[Sem.run_bind]
  erw [q]
  rfl
def Bw:List AV->Nat->List (Nat×LV)
 |[],_=>[]
 |a::r,i=>(i,.p a)::Bw r (i+1)
theorem RU:∀(args:List AV)(k i:Nat),getS (Bw args k) i=if k<=i then((args[i-k]?).map LV.p).getD (.p .any)else .p .any
 |[],k,i=>by simp[Bw,getS]
 | a::r,k,i=>by
   simp only[Bw,getS,X9,RU r];by_cases h:k=i
   .subst h;simp
   .rw [if_neg h];by_cases j:k<=i
    .rw [if_pos j,if_pos (by omega)];rw[show i-k=(i-(k+1))+1 by omega];simp
    .rw [if_neg j,if_neg (by omega)]
theorem SpecP.body{P:Program}(z:Info)(hT:TabOK P T){f:FuncId}{c:Code}(hf:P.funcs[f]?=some fn)(q:fn.body=some c)(D:∀(j:Array Value)(w:World),(callFunc f j).run P w=.ok (.enter f j) w){args:List AV}(M:args.length<=fn.ntmps){R:AV->Prop}(h:W P T fn.ntmps z c (x2u T fn.results R) ⟨Bw args 0,[]⟩):SpecP P f args R:=by
 refine⟨D,fun σ w j O U V=>calls_of_wp hf q ?_⟩;have r:Rel fn.ntmps σ (fun _=>none) ⟨Bw args 0,[]⟩ {tmps:=j++Array.replicate (fn.ntmps-j.size) undef,defers:=[]} w:=by
  refine⟨by simp;omega,rfl,fun i=>?_,⟨V,by simp,by simp,by simp,by simp⟩⟩;show RepL σ _ (getS (Bw args 0) i) _;rw[RU,if_pos (x4j i)];cases E:args[i-0]?with
  |none=>exact .p (.any _)
  | some c=>
    simp only[Nat.sub_zero]at E;have F:i<j.size:=by rw[O];exact(x4u.1 E).1
    have:=U i c E;have he:(j++Array.replicate (fn.ntmps-j.size) undef).getD i undef=j.getD i undef:=by simp[z0k,F]
    show RepL σ _ (.p c) ((j++Array.replicate (fn.ntmps-j.size) undef).getD i undef);rw[he];exact .p this
 refine wp_mono ((KL hT c _ _ h).ok σ (fun _=>none) _ w r) fun e I w' ⟨σ',β',s',A,o,l⟩=>?_;have fin:E5 T s' fn.results.toList (fun vs=>RetK s'.H (Fh vs) R)->I.defers=[]/\∃v,(results fn I.tmps).run P w'=.ok v w'/\∃c u σ',Ending.returned v=Ending.returned u/\R c/\Rep σ' c u/\σ.le σ'/\σ'.lies w'/\Frm (fun _=>False) w w'/\∀b,σ b=none->σ' b≠none->w.heap.size<=b:=fun x=>by
  obtain⟨v,u,⟨c,C,hR⟩,t,y⟩:=Im hT o x;obtain⟨τ,Y,Z,h7,h8⟩:=LG o.heap;have m:∀b,¬owns (fun _=>none) [] b:=by rintro b ⟨k,hk,_⟩;cases hk
  refine⟨o.defers,u,y,c,u,τ,rfl,hR,h8 v u c t C,Mem.le_trans l.le Y,Z,⟨l.G.os,l.G.tape,l.G.output,l.G.drawn,l.G.size,fun b q _=>l.G.block b q (m b)⟩,fun b q B=>?_⟩;rcases h7 b B with a|a
  .exact (l.mem b q a).resolve_left (m b)
  .exact (l.own b a).resolve_left (m b)
 cases e with
 |normal=>exact fin A
 |ret=>exact fin A
 |_=>exact A.elim
inductive FrzL(H:Heap):List LV->List AV->Prop
 |nil:FrzL H [] []
 |cons {l:LV} {c:AV} {ls:List LV} {cs:List AV} (h:Frz H l c) (hs:FrzL H ls cs):FrzL H (l::ls) (c::cs)
theorem FrzL.get{H:Heap}:∀{ls:List LV}{cs:List AV},FrzL H ls cs->ls.length=cs.length/\∀(j:Nat)(c:AV),cs[j]?=some c->∃l,ls[j]?=some l/\Frz H l c
 |_,_,.nil=>⟨rfl,by simp⟩
 |_,_,.cons h hs=>⟨by simp[hs.get.1],fun j c i=>by
    cases j with
    |zero=>simp at i;subst i;exact⟨_,rfl,h⟩
    |succ j=>exact hs.get.2 j c (by simpa using i)⟩
inductive ArgP:List LV->List AV->Prop
 |nil:ArgP [] []
 |cons {a c:AV} {ls:List LV} {cs:List AV} (h:Sub a c) (hs:ArgP ls cs):ArgP (.p a::ls) (c::cs)
theorem ArgP.get:∀{ls:List LV}{cs:List AV},ArgP ls cs->ls.length=cs.length/\∀(j:Nat)(c:AV),cs[j]?=some c->∃a,ls[j]?=some (.p a)/\Sub a c
 |_,_,.nil=>⟨rfl,by simp⟩
 |_,_,.cons h hs=>⟨by simp[hs.get.1],fun j c i=>by
    cases j with
    |zero=>simp at i;subst i;exact⟨_,rfl,h⟩
    |succ j=>exact hs.get.2 j c (by simpa using i)⟩
def AV.flat:AV->Bool
 |.any |.und |.tt |.ff |.bool _ |.int _ _ |.str _ |.nilp |.nilf |.nils |.raw _=>true
 |.agg cs=>flatAll cs
 |.tup cs=>flatAll cs
 |_=>false
where flatAll:List AV->Bool
 |[]=>true
 |c::r=>AV.flat c&&flatAll r
theorem NY:∀{cs:List AV},AV.flat.flatAll cs=true->∀(j:Nat)(c:AV),cs[j]?=some c->c.flat=true
 |[],_,_,_,h=>by simp at h
 | x::r,h,0,c,hj=>by
   simp only[AV.flat.flatAll,x4n]at h;simp at hj;subst hj;exact h.1
 | x::r,h,j+1,c,hj=>by
   simp only[AV.flat.flatAll,x4n]at h;exact NY h.2 j c (by simpa using hj)
theorem Rep.flat{σ τ:Mem}{c:AV}{v:Value}(h:Rep σ c v)(i:c.flat=true):Rep τ c v:=by
 induction h with
 |any v=>exact .any v
 |und=>exact .und
 |tt=>exact .tt
 |ff=>exact .ff
 |bool b=>exact .bool b
 |int k n=>exact .int k n
 |str s h=>exact .str s h
 |nilp=>exact .nilp
 |nilf=>exact .nilf
 |nils=>exact .nils
 |raw v=>exact .raw v
 |ip=>simp[AV.flat]at i
 |nilsl=>exact .nilsl
 |slz b=>exact .slz b
 |sl=>simp[AV.flat]at i
 |agg cs vs u o m _ q=>exact .agg cs vs u o m fun j c l=>q j c l (NY (by simpa[AV.flat]using i) j c l)
 |tup cs vs u o m _ q=>exact .tup cs vs u o m fun j c l=>q j c l (NY (by simpa[AV.flat]using i) j c l)
 |fn=>simp[AV.flat]at i
theorem HRel.kept{σ σ':Mem}{H:Heap}{w w':World}(h:HRel σ β H w)(m:σ.le σ')(t:σ'.lies w')(q:Frm (fun _=>False) w w')(u:∀b,σ b=none->σ' b≠none->w.heap.size<=b):HRel σ' β H w':=by
 refine⟨t,fun k c o=>(h.chunks k c o).mono m fun i l b j=>q.block _ (h.apart k (x4y.2 ⟨_,o,rfl⟩) i l b j).2 id,h.nodup,fun k r i l b j=>?_,h.inj⟩;have:=h.apart k r i l b j;refine⟨?_,x7o this.2 q.size⟩;cases v:σ' b with
 |none=>rfl
 | some c=>
   have:=u _ this.1 (by simp[v]);omega
section
variable {P:Program}{N:Nat}{g:FuncId}{args:List LV}{dst:Option Nat}{s:St}{K:St->Prop}{avs:List AV}{R:AV->Prop}
theorem CallK.pure(C:SpecP P g avs R)(ha:ArgP args avs)(h:∀c,R c->setD N s.sl dst (.p c) fun sl=>K ⟨sl,s.H⟩):CallK P N g args dst s K:=by
 refine⟨fun σ β a w v m V Y=>⟨C.go m,?_⟩⟩;obtain⟨t,r⟩:=ha.get;refine(C.ok σ w m (V.trans t) (fun j c O=>?_) v.heap.mem).mono fun e w' ⟨c,u,σ',M,I,z,q,U,o,l⟩=>?_
 .obtain ⟨x,f,F⟩:=r j c O;have:=Y j _ f;cases this with
  |p h=>exact F _ _ h
 .have B:Rel N σ' β s a w':=⟨v.size,v.defers,fun i=>(v.E i).mono q,v.heap.kept q U o l⟩;obtain⟨sl,G,y⟩:=B.setD (.p z) (h c I);exact⟨u,σ',β,_,M,G,y,q,⟨o.os,o.tape,o.output,o.drawn,o.size,fun b A _=>o.block b A id⟩,fun b D f=>.inr (l b D f),fun b A=>.inl A,fun _ _ _=>rfl⟩
def QC(C:SpecP P g avs R)(ha:FrzL s.H args avs)(m:∀c,R c->c.flat=true)(h:∀c,R c->setD N s.sl dst (.p c) fun sl=>K ⟨sl,s.H⟩):CallK P N g args dst s K:=by
 refine⟨fun σ β a w v i Y Z=>⟨C.go i,?_⟩⟩;obtain⟨t,r⟩:=ha.get;obtain⟨τ,F,G,h7,I⟩:=LG v.heap;refine(C.ok τ w i (Y.trans t) (fun j c U=>?_) G).mono fun e w' ⟨c,u,σ',O,A,y,d,V,k,B⟩=>?_
 .obtain ⟨l,o,D⟩:=r j c U;exact I l _ c (Z j l o) D
 .have n:σ.lies w':=fun b c q=>V b c (d b c (F b c q));have f:Rel N σ β s a w':=⟨v.size,v.defers,v.E,v.heap.kept (Mem.le_refl σ) n k fun b z o=>absurd z o⟩;obtain⟨sl,M,x⟩:=f.setD (.p (y.flat (m c A))) (h c A);exact⟨u,σ,β,_,O,M,x,Mem.le_refl σ,⟨k.os,k.tape,k.output,k.drawn,k.size,fun b q _=>k.block b q id⟩,fun b z o=>absurd z o,fun b q=>.inl q,fun _ _ _=>rfl⟩
end
section
variable {P:Program}{ops:Array Oper}{Q:Exit->Act->World->Prop}{J J':World->Prop}
def stepJ(P:Program)(ops:Array Oper)(Q:Exit->Act->World->Prop)(J:World->Prop)(i:Nat)(K:Act->World->Prop)(a:Act)(w:World):Prop:=
 match ops[i]?with
 |none=>K a w
 | some o=>if Region.wanted o (yielded ops a.tmps)=true then
    (if isV o.op=true then ∃u,(execOp a.eval o).run P w=.ok (.value u) w/\K (a.put o.dst u) w else o.wp P a w (fun h w'=>J w'/\K h w') Q)
   else K (a.put o.dst undef) w
def anyJ(P:Program)(ops:Array Oper)(Q:Exit->Act->World->Prop)(J:World->Prop):Nat->Array Bool->Act->World->Prop
 |0,listed,a,w=>Region.ready .any ops listed=[]/\Q .normal a w
 | fuel+1,listed,a,w=>(Region.ready .any ops listed=[]->Q .normal a w)/\
   ∀i∈Region.ready .any ops listed,stepJ P ops Q J i (anyJ P ops Q J fuel (listed.setIfInBounds i true)) a w
def Gb{i:Nat}{a:Act}{w:World}{K n:Act->World->Prop}(t:∀w,J w->J' w)(h:∀a w,K a w->n a w)(j:stepJ P ops Q J i K a w):stepJ P ops Q J' i n a w:=by
 unfold stepJ at*
 split
 .rename_i k;simp only[k]at j;exact h _ _ j
 .rename_i o k;simp only[k]at j;split
  .rename_i m;simp only[m,if_true]at j;split
   .rename_i l;simp only[l,if_true]at j;obtain⟨u,q,r⟩:=j;exact⟨u,q,h _ _ r⟩
   .rename_i l;simp only[l]at j;exact Oper.wp_mono (fun a w p=>⟨t _ p.1,h _ _ p.2⟩) j
  .rename_i m;simp only[m]at j;exact h _ _ j
theorem Bx(j:∀w,J w->J' w):∀(fuel:Nat)(listed:Array Bool)(a:Act)(w:World),anyJ P ops Q J fuel listed a w->anyJ P ops Q J' fuel listed a w
 |0,_,_,_,h=>h
 |fuel+1,_,_,_,h=>⟨h.1,fun i k=>Gb j (fun a w=>Bx j fuel _ a w) (h.2 i k)⟩
theorem stepJ.wpOp{i:Nat}{a:Act}{w:World}{K:Act->World->Prop}(h:stepJ P ops Q J i K a w):wpOp P ops Q i K a w:=by
 unfold stepJ at h;unfold Go.wpOp;split
 .rename_i j;simp only[j]at h;exact h
 .rename_i o j;simp only[j]at h;split
  .rename_i l;simp only[l,if_true]at h;split at h
   .obtain ⟨u,m,q⟩:=h;exact .inl (XT m q)
   .exact .inl (Oper.wp_mono (fun a w r=>r.2) h)
  .rename_i l;simp only[l]at h;exact h
theorem Kz:∀(fuel:Nat)(listed:Array Bool)(a:Act)(w:World),anyJ P ops Q J fuel listed a w->wpAny P .any ops Q fuel listed a w
 |0,_,_,_,h=>h
 |fuel+1,_,_,_,h=>⟨h.1,fun i j=>wpOp_mono (fun a w=>Kz fuel _ a w) (h.2 i j).wpOp⟩
def Yl(P:Program)(ops:Array Oper)(S:World->Prop)(o:Oper)(v:Value)(a:Act):Prop:=
 (Region.wanted o (yielded ops a.tmps)=true/\∀w,S w->(execOp a.eval o).run P w=.ok (.value v) w)\/(Region.wanted o (yielded ops a.tmps)=false/\v=undef)
theorem Yl.of_same{S:World->Prop}{o:Oper}{v:Value}{a i:Act}(m:Yl P ops S o v a)(j:execOp i.eval o=execOp a.eval o)(l:Region.wanted o (yielded ops i.tmps)=Region.wanted o (yielded ops a.tmps)):Yl P ops S o v i:=by
 unfold Yl at*
 rw[j,l];exact m
theorem Yl.stepJ{S:World->Prop}{i:Nat}{o:Oper}{v:Value}{a:Act}(m:ops[i]?=some o)(r:isV o.op=true)(t:Yl P ops S o v a){K:Act->World->Prop}{w:World}(l:S w)(h:K (a.put o.dst v) w):stepJ P ops Q J i K a w:=by
 unfold Ab.stepJ;simp only[m,r,if_true];rcases t with⟨j,q⟩|⟨j,rfl⟩
 .simp only[j,if_true];exact⟨v,q w l,h⟩
 .simp only[j,x8e,x9g];exact h
def q6p(P:Program)(o:Oper)(S J:World->Prop):Prop:=(∀w,J w->S w)\/∀a w n w',S w->(execOp (Act.eval a) o).run P w=.ok n w'->(J w'->S w')/\∃v,n=.value v
def EV{S:World->Prop}{j:Nat}{i k:Oper}{v:Value}(Y:ops[j]?=some k)(F:i.apart ops k=true)(G:∀cs b,i.op ≠ .select cs b)(C:∀cs b,k.op ≠ .select cs b)(U:∀c a w,¬Q (.panic c) a w){K:Act->World->Prop}{a:Act}{w:World}(D:S w)(l:isV k.op=false->q6p P k S J)(o:Yl P ops S i v a)(h:stepJ P ops Q J j K (a.put i.dst v) w):
  stepJ P ops Q J j (fun M w'=>S w'/\Yl P ops S i v M/\K (M.put i.dst v) w') a w:=by
 obtain⟨E,p,O⟩:=Oper.apart_spec F;have keep:∀(a:Act),Yl P ops S i v a->∀u,Yl P ops S i v (a.put k.dst u):=fun a o u=>
  o.of_same (execOp_put i G a k.dst u O) (wanted_put i a k.dst u O)
 have t:∀d,Yl P ops S i v {a with defers:=d::a.defers}:=fun d=>o.of_same rfl rfl;unfold stepJ at*
 simp only[Y]at*
 rw[wanted_put k a i.dst v E]at h;split
 .rename_i H;simp only[H,if_true]at h;split
  .rename_i y;simp only[y,if_true]at h;obtain⟨u,V,Z⟩:=h;rw[execOp_put k C a i.dst v E]at V;exact⟨u,V,D,keep a o u,by rw[<-Act.put_comm a v u p];exact Z⟩
  .rename_i y;simp only[y,x8e,x9g]at h;have l:=l (by simpa using y);unfold Oper.wp at*
   rw[execOp_put k C a i.dst v E]at h;generalize B:(execOp a.eval k).run P w=r at*
   cases r with
   | ok n w'=>
     have q:J w'->S w':=fun z=>l.elim (fun h=>h _ z) fun h=>(h a w n w' D B).1 z;have A:(∀v,n ≠ .value v)->∀w,J w->S w:=fun hn=>l.elim id fun h=>(let ⟨v,y⟩:=(h a w n w' D B).2;absurd y (hn v));cases n<;>simp only[Oper.upon]at h⊢;case value u=>exact⟨h.1,q h.1,keep a o u,by rw[<-Act.put_comm a v u p];exact h.2⟩
     case skip=>exact⟨h.1,q h.1,keep a o _,by rw[<-Act.put_comm a v undef p];exact h.2⟩
     case defer d=>
      refine⟨h.1,q h.1,keep _ (t d) _,?_⟩;rw[<-Act.put_comm _ v undef p,<-Act.put_defers];exact h.2
     case enter f args=>
      refine Calls.mono h fun e I m=>?_;cases e with
      |returned u=>exact⟨m.1,A (by simp) _ m.1,keep a o u,by rw[<-Act.put_comm a v u p];exact m.2⟩
      |panicked c=>exact(U _ _ _ m).elim
      |outgrown=>exact m
     case row row args=>exact Rows.mono h fun u I m=>⟨m.1,A (by simp) _ m.1,keep a o u,by rw[<-Act.put_comm a v u p];exact m.2⟩
   | halt x w'=>
     cases x<;>simp only[Oper.upon]at h⊢;case panic u=>exact(U _ _ _ h).elim
 .rename_i H;simp only[H]at h;exact⟨D,keep a o _,by rw[<-Act.put_comm a v undef p];exact h⟩
def BK{i:Nat}{z:Oper}{v:Value}{S:World->Prop}(B:Nat->Prop)(hi:ops[i]?=some z)(A:isV z.op=true)(y:∀(j:Nat)(o:Oper) cs b,ops[j]?=some o->o.op ≠ .select cs b)(hQ:∀c a w,¬Q (.panic c) a w)(hB:∀j,B j->j≠i->∀q,ops[j]?=some q->∃e∈q.after,Region.binds .any e=true/\B e.on):
  ∀(m:Nat)(listed:Array Bool)(a:Act)(w:World),(∀j,B j->listed.getD j false=false)->
   (∀j q,ops[j]?=some q->j≠i->listed.getD j true=false->¬B j->z.apart ops q=true/\(isV q.op=false->q6p P q S J))->
   i∈Region.ready .any ops listed->S w->Yl P ops S z v a->
   anyJ P ops Q J m (listed.setIfInBounds i true) (a.put z.dst v) w->anyJ P ops Q J (m+1) listed a w:=by
 intro m;induction m with
 | zero=>
   intro listed a w _ _ d E I H;refine⟨fun h=>(by rw[h]at d;cases d),fun j F=>?_⟩;by_cases l:j=i
   .subst l;exact I.stepJ hi A E H
   .have:=ready_mono F l;rw[H.1]at this;cases this
 | succ m ih=>
   intro listed a w p n d E I H;refine⟨fun h=>(by rw[h]at d;cases d),fun j F=>?_⟩;by_cases l:j=i
   .subst l;exact I.stepJ hi A E H
   .have D:=H.2 j (ready_mono F l);obtain⟨u,q,t,f⟩:=mem_ready.1 F;have x:¬B j:=fun hb=>by
     obtain⟨e,Z,V,Y⟩:=hB j hb l q t;have D:=f e Z V;rw[p _ Y]at D;cases D
    obtain⟨U,O⟩:=n j q t l u x;have h2:=EV t U (fun cs b=>y i z cs b hi) (fun cs b=>y j q cs b t) hQ E O I D;have r:∀k ok,ops[k]?=some ok->k≠i->(listed.setIfInBounds j true).getD k true=false->
      ¬B k->z.apart ops ok=true/\(isV ok.op=false->q6p P ok S J):=fun k ok G hki p hno=>by
     refine n k ok G hki ?_ hno;by_cases C:j=k
     .subst C;exact u
     .rw [getD_set_ne true C]at p;exact p
    refine Gb (fun _ h=>h) (fun a' w' M=>ih (listed.setIfInBounds j true) a' w' (fun k G=>?_) r (ready_mono d (x7d l)) M.1 M.2.1 ?_) h2
    .rw [getD_set_ne false (fun Z:j=k=>x (by rw[Z];exact G))];exact p k G
    .rw [Array.setIfInBounds_comm _ _ l];exact M.2.2
end
def Ru(p:Nat->Oper->Bool):List Oper->Nat->Bool
 |[],_=>true
 |o::r,i=>bif p i o then Ru p r (i+1)else false
theorem YD{p:Nat->Oper->Bool}:∀{l:List Oper}{k:Nat},Ru p l k=true->∀(j:Nat)(o:Oper),l[j]?=some o->p (k+j) o=true
 |[],_,_,j,o,h=>by simp at h
 | x::r,k,h,j,o,hj=>by
   unfold Ru at h;cases i:p k x with
   |false=>rw[i]at h;cases h
   | true=>
     rw[i,x4s]at h;cases j with
     |zero=>simp at hj;subst hj;exact i
     | succ j=>
       have:=YD h j o (by simpa using hj)
       rwa[x8j,z0p 1 j]at this
def q1p(p:Edge->Bool):List Edge->Bool
 |[]=>true
 |e::r=>bif p e then q1p p r else false
theorem MR{p:Edge->Bool}:∀{l:List Edge},q1p p l=true ↔ ∀e∈l,p e=true
 |[]=>by simp[q1p]
 | x::r=>by
   unfold q1p;cases h:p x with
   |false=>simp[h]
   |true=>simp[h,MR (l:=r)]
def rdy(L:List Nat)(i:Nat)(o:Oper):Bool:=bif JX i L then false else q1p (fun e=>bif Region.binds .any e then JX e.on L else true) o.after.toList
def JI(L:List Nat):List Oper->Nat->List Nat->List Nat
 |[],_,B=>B
 |o::r,k,B=>JI L r (k+1) (bif JX k L then B else bif q1p (fun e=>bif Region.binds .any e then bif JX e.on B then false else true else true) o.after.toList then B else k::B)
theorem HK{i:Nat}:∀{l:List Nat},JX i l=true↔i∈l
 |[]=>by simp[JX]
 | j::r=>by
   unfold JX;by_cases h:j=i
   .simp [h]
   .have:(j==i)=false:=by simp[h]
    simp[this,HK (l:=r),x7d h]
theorem GT{L:List Nat}{i:Nat}{ops:List Oper}:∀(r:List Oper)(k:Nat)(B:List Nat),(∀j o,r[j]?=some o->ops[k+j]?=some o)->(∀j∈B,JX j L=false/\(j≠i->∃o,ops[j]?=some o/\∃e∈o.after,Region.binds .any e=true/\e.on∈B))->
  ∀j∈JI L r k B,JX j L=false/\(j≠i->∃o,ops[j]?=some o/\∃e∈o.after,Region.binds .any e=true/\e.on∈JI L r k B)
 |[],_,_,_,h=>h
 | o::r,k,B,hr,h=>by
   unfold JI;have l:∀j x,r[j]?=some x->ops[k+1+j]?=some x:=fun j x m=>by
    have:=hr (j+1) x (by simpa using m)
    rwa[x8j,z0p 1 j]
   cases b:JX k L with
   |true=>rw[x4s];exact GT r (k+1) B l h
   | false=>
     rw[x5q];cases ha:q1p (fun e=>bif Region.binds .any e then bif JX e.on B then false else true else true) o.after.toList with
     |true=>rw[x4s];exact GT r (k+1) B l h
     | false=>
       rw[x5q];refine GT r (k+1) (k::B) l fun j m=>?_;rcases x4v.1 m with rfl|m
       .refine ⟨b,fun _=>⟨o,hr 0 o rfl,?_⟩⟩;apply x7p;intro c;rw[<-z0m]at ha;apply ha;rw[MR];intro e a;cases z:Region.binds .any e with
        |false=>rfl
        | true=>
          cases n:JX e.on B with
          |false=>rfl
          |true=>exact absurd ⟨e,by simpa using a,z,x4x _ (HK.1 n)⟩ c
       .obtain ⟨q,t⟩:=h j m;refine⟨q,fun p=>?_⟩;obtain⟨x,u,e,v,w,y⟩:=t p;exact⟨x,u,e,v,w,x4x _ y⟩
def OU(o:Oper):Bool:=match o.op with |.select .. => false|_=>true
def q9w:Op->Bool
 |.buildSlice .. => true
 |_=>false
def AN(w:World)(o:Obj):Old w {w with heap:=w.heap.push o}:=fun b h=>by
 show(w.heap.push o)[b]?=_;rw[x9z,if_neg (by omega)]
inductive Newy:{α:Type}->Sem α->Prop
 |pure {α:Type} (a:α):Newy (.pure a)
 |new {α:Type} (o:Obj) (k:Nat->Sem α) (h:∀r,Newy (k r)):Newy (.new o k)
 |program {α:Type} (k:Program->Sem α) (h:∀p,Newy (k p)):Newy (.program k)
 |halt {α:Type} (x:Halt):Newy (α:=α) (.halt x)
theorem Newy.bind{α β:Type}{m:Sem α}{f:α->Sem β}(h:Newy m)(j:∀a,Newy (f a)):Newy (m.bind f):=by
 induction h with
 |pure a=>exact j a
 |new o k _ i=>exact .new o _ fun r=>i r
 |program k _ i=>exact .program _ fun p=>i p
 |halt x=>exact .halt x
theorem Newy.old{α:Type}{m:Sem α}(h:Newy m){P:Program}:∀{w w':World}{n:α},m.run P w=.ok n w'->Old w w':=by
 induction h with
 |pure a=>intro w w' n h;cases h;exact Old.refl w
 |new o k _ i=>intro w w' n h;exact(AN w o).trans (i _ h)
 |program k _ i=>intro w w' n h;exact i _ h
 |halt x=>intro w w' n h;cases h
def Yv(t:TypeId):Newy (underlying t):=by
 refine .program _ fun p=>?_;show Newy (match p.underlying t with|some d=>_|none=>_);split
 .exact .pure _
 .exact .halt _
def LC(t:TypeId):Newy (typeInfo t):=by
 refine .program _ fun p=>?_;show Newy (match p.info? t with|some d=>_|none=>_);split
 .exact .pure _
 .exact .halt _
def K0(t:TypeId):Newy (zeroValue t):=by
 refine(LC t).bind fun i=>?_;show Newy (match i.zero with|some v=>_|none=>_);split
 .exact .pure _
 .exact .halt _
def Yw(t:TypeId)(n:Nat)(parts:Array (Nat×Value)):Newy (Instr.buildSlice t n parts):=by
 unfold Instr.buildSlice;refine(Yv t).bind fun d=>?_;split
 .refine Newy.bind (.bind (LC _) fun i=>.pure _) fun sz=>?_;have h:∀(j:TypeId)(zero:Array Value),Newy (match Instr.fill (fun i=>some (i*sz,sz)) (Array.map (fun x=>zero[x%zero.size]!) (Array.range (n*sz))) parts.toList with
    |some cells=>(do pure (Value.slice (some (<-newRow j cells)) n n):Sem Value)
    |_=>stuck "buildSlice: a part of the wrong size"):=fun j zero=>by
   split
   .exact Newy.bind (.new _ _ fun r=>.pure _) fun r=>.pure _
   .exact .halt _
  split<;>split;all_goals first
   |exact Newy.halt _
   |exact h _ _
   |exact Newy.bind (m:=zeroValue _) (K0 _) fun v=>h _ v.cells
 .exact .halt _
def Ca{P:Program}{o:Oper}(k:q9w o.op=true){a:Act}{w w':World}{n:Next}(h:(execOp a.eval o).run P w=.ok n w'):Old w w'/\∃v,n=.value v:=by
 cases i:o.op<;>rw[i]at k<;>first|cases k|skip
 rename_i t len parts;simp only[execOp,i,Sem.run_bind]at h;cases j:(Instr.buildSlice t len (parts.map fun x=>(x.1,a.eval x.2))).run P w with
 | ok v l=>
   rw[j]at h;cases h;exact⟨(Yw _ _ _).old j,v,rfl⟩
 | halt x l=>
   rw[j]at h;cases h
def VX(ops:Array Oper):List Nat->Sched->Bool
 |L,.nil=>Ru (fun j o=>bif rdy L j o then false else true) ops.toList 0
 | L,.cons i strict r=>match ops[i]?with
   |none=>false
   | some h=>bif rdy L i h then
      bif (bif isV h.op then Ru (fun j o=>bif j==i then true else bif JX j L then true else bif JX j (JI L ops.toList 0 [i])then true else bif h.apart ops o then(bif isV o.op then true else bif strict then false else true)else false) ops.toList 0
       else Ru (fun j o=>bif j==i then true else bif rdy L j o then false else true) ops.toList 0)then VX ops (i::L) r else false
     else false
 | L,.alo i r=>match ops[i]?with
   |none=>false
   | some h=>bif rdy L i h then
      bif isV h.op then bif Ru (fun j o=>bif j==i then true else bif JX j L then true else bif JX j (JI L ops.toList 0 [i])then true else bif h.apart ops o then(bif isV o.op then true else q9w o.op)else false) ops.toList 0 then VX ops (i::L) r else false
      else false
     else false
 | L,.fork i a j b=>match ops[i]?,ops[j]?with
   |some h,some oj=>bif (bif rdy L i h then bif rdy L j oj then Ru (fun k o=>bif k==i then true else bif k==j then true else bif rdy L k o then false else true) ops.toList 0 else false else false)then
      bif VX ops (i::L) a then VX ops (j::L) b else false else false
   |_,_=>false
 | L,.fork3 i a j b k c=>match ops[i]?,ops[j]?,ops[k]?with
   |some h,some oj,some ok=>bif (bif rdy L i h then bif rdy L j oj then bif rdy L k ok then Ru (fun m o=>bif m==i then true else bif m==j then true else bif m==k then true else bif rdy L m o then false else true) ops.toList 0 else false else false else false)then
      bif VX ops (i::L) a then bif VX ops (j::L) b then VX ops (k::L) c else false else false else false
   |_,_,_=>false
def drW(P:Program)(T:Tab)(N:Nat)(ops:Array Oper):Sched->St->(St->Prop)->Prop
 |.nil,s,K=>K s
 | .cons i strict r,s,K=>match ops[i]?with
   |none=>False
   |some o=>DU ops s o (fun s=>Qg P T N (bif isV o.op then strict else true) s o fun s=>ZK s fun s=>drW P T N ops r s K) fun s=>D3 N s o fun s=>ZK s fun s=>drW P T N ops r s K
 | .alo i r,s,K=>match ops[i]?with
   |none=>False
   |some o=>DU ops s o (fun s=>Qg P T N true s o fun s=>ZK s fun s=>drW P T N ops r s K) fun s=>D3 N s o fun s=>ZK s fun s=>drW P T N ops r s K
 | .fork i a j b,s,K=>match ops[i]?,ops[j]?with
   |some oi,some oj=>DU ops s oi (fun s=>Qg P T N true s oi fun s=>ZK s fun s=>drW P T N ops a s K) (fun s=>D3 N s oi fun s=>ZK s fun s=>drW P T N ops a s K)/\
      DU ops s oj (fun s=>Qg P T N true s oj fun s=>ZK s fun s=>drW P T N ops b s K) (fun s=>D3 N s oj fun s=>ZK s fun s=>drW P T N ops b s K)
   |_,_=>False
 | .fork3 i a j b k c,s,K=>match ops[i]?,ops[j]?,ops[k]?with
   |some oi,some oj,some ok=>DU ops s oi (fun s=>Qg P T N true s oi fun s=>ZK s fun s=>drW P T N ops a s K) (fun s=>D3 N s oi fun s=>ZK s fun s=>drW P T N ops a s K)/\
      DU ops s oj (fun s=>Qg P T N true s oj fun s=>ZK s fun s=>drW P T N ops b s K) (fun s=>D3 N s oj fun s=>ZK s fun s=>drW P T N ops b s K)/\
      DU ops s ok (fun s=>Qg P T N true s ok fun s=>ZK s fun s=>drW P T N ops c s K) (fun s=>D3 N s ok fun s=>ZK s fun s=>drW P T N ops c s K)
   |_,_,_=>False
section
variable {P:Program}{T:Tab}{N:Nat}{ops:Array Oper}
def Ls(n:Nat)(L:List Nat)(listed:Array Bool):Prop:=listed.size=n/\∀j,j<n->listed[j]?=some (JX j L)
theorem Ls.set{n:Nat}(h:Ls n L listed){i:Nat}:Ls n (i::L) (listed.setIfInBounds i true):=by
 refine⟨by simpa using h.1,fun j m=>?_⟩;by_cases l:i=j
 .subst l;simp[JX,h.1,m]
 .rw [x7n l,h.2 j m];have:(i==j)=false:=by simp[l]
  simp[JX,this]
theorem Ls.getT{n:Nat}(h:Ls n L listed){j:Nat}(l:j<n)(b:Bool):listed.getD j b=JX j L:=by
 have:=h.2 j l;have i:j<listed.size:=by rw[h.1];exact l
 simp[i]at this⊢;exact this
theorem Ls.ready(h:Ls ops.size L listed)(u:∀(i:Nat)(o:Oper),ops[i]?=some o->∀e∈o.after,e.on<ops.size){j:Nat}{o:Oper}(m:ops[j]?=some o):j∈Region.ready .any ops listed↔rdy L j o=true:=by
 have t:=(x4t.1 m).1;rw[mem_ready,h.getT t];unfold rdy;cases l:JX j L with
 |true=>simp
 | false=>
   simp only[m,x7c,exists_eq_left',true_and,x5q];rw[MR];constructor
   .intro q e l;have:=q e (by simpa using l);cases r:Region.binds .any e with
    |false=>rfl
    |true=>rw[x4s,<-h.getT (u j o m e (by simpa using l)) false];exact this r
   .intro q e l r;have:=q e (by simpa using l);rw[r,x4s]at this;rw[h.getT (u j o m e l)];exact this
def Ha(n:Nat)(l:List Oper):Bool:=Ru (fun _ o=>bif OU o then q1p (fun e=>Nat.blt e.on n) o.after.toList else false) l 0
def Sched.len:Sched->Nat
 |.nil=>0
 |.cons _ _ r=>r.len+1
 |.alo _ r=>r.len+1
 |.fork _ a _ b=>max a.len b.len+1
 |.fork3 _ a _ b _ c=>max (max a.len b.len) c.len+1
def Hb{Q:Exit->Act->World->Prop}{J:World->Prop}{k:Nat}{a:Act}{w:World}(ls:List Nat)(m:ls≠[])(h:Ls ops.size L listed)(p:∀(i:Nat)(o:Oper),ops[i]?=some o->∀e∈o.after,e.on<ops.size)(u:∀i∈ls,∃o,ops[i]?=some o/\rdy L i o=true)(x:∀(i:Nat)(o:Oper),ops[i]?=some o->rdy L i o=true->i∈ls)(v:∀i∈ls,stepJ P ops Q J i (anyJ P ops Q J k (listed.setIfInBounds i true)) a w):anyJ P ops Q J (k+1) listed a w:=by
 refine⟨fun t=>?_,fun j q=>?_⟩
 .cases ls with
  |nil=>exact absurd rfl m
  | cons i r=>
    obtain⟨o,l,n⟩:=u i (by simp);have:=(h.ready p l).2 n;rw[t]at this;cases this
 .obtain ⟨_,o,l,_⟩:=mem_ready.1 q;exact v j (x j o l ((h.ready p l).1 q))
def CD(hT:TabOK P T)(hsel:∀(j:Nat)(o:Oper) cs b,ops[j]?=some o->o.op ≠ .select cs b)(he:∀(i:Nat)(o:Oper),ops[i]?=some o->∀e∈o.after,e.on<ops.size):
  ∀(r:Sched){L:List Nat}{listed:Array Bool}{s:St}{K:St->Prop}{σ:Mem}{β:Lab}{a:Act}{w:World}{F:Act->World->Prop}{q:Nat},VX ops L r=true->Ls ops.size L listed->drW P T N ops r s K->Rel N σ β s a w->
  (∀a' w' σ' β' s',K s'->Rel N σ' β' s' a' w'->Later σ β s.H w σ' β' s'.H w'->F a' w')->r.len<=q->anyJ P ops (fun e a w=>e=.normal/\F a w) σ.lies q listed a w:=by
 have step1:∀{i:Nat}{oi:Oper}{listed:Array Bool}{s:St}{K:St->Prop}{σ:Mem}{β:Lab}{a:Act}{w:World}{F:Act->World->Prop}{r:Sched}{q:Nat},ops[i]?=some oi->
   (DU ops s oi (fun s=>Qg P T N true s oi fun s=>drW P T N ops r s K) fun s=>D3 N s oi fun s=>drW P T N ops r s K)->Rel N σ β s a w->
   (∀a' w' σ' β' s',K s'->Rel N σ' β' s' a' w'->Later σ β s.H w σ' β' s'.H w'->F a' w')->
   (∀{s:St}{σ':Mem}{β':Lab}{a':Act}{w':World},drW P T N ops r s K->Rel N σ' β' s a' w'->(∀I D σ'' β'' C,K C->Rel N σ'' β'' C I D->Later σ' β' s.H w' σ'' β'' C.H D->F I D)->
     anyJ P ops (fun e a w=>e=.normal/\F a w) σ'.lies q (listed.setIfInBounds i true) a' w')->
   stepJ P ops (fun e a w=>e=.normal/\F a w) σ.lies i (anyJ P ops (fun e a w=>e=.normal/\F a w) σ.lies q (listed.setIfInBounds i true)) a w:=by
  intro i oi listed s K σ β a w F r q Y h hr hF ih;unfold stepJ;simp only[Y];obtain⟨s1,hH,M,hw⟩:=HV h hr;rcases hw with⟨hw,h⟩|⟨hw,h⟩
  .rw [if_pos hw];split
   .rename_i hv;unfold Qg at h;simp only[hv,x4s]at h;obtain⟨v,u,G,hrep,hrun⟩:=PX hT h M.E M.heap;rw[XB]at G;obtain⟨sl,G,y⟩:=M.setD hrep G;exact⟨u,hrun w M.heap.mem fun _=>Old.refl w,ih G y fun I D σ'' β'' C hK' A hl'=>hF I D σ'' β'' C hK' A (hH▸hl')⟩
   refine Oper.wp_mono (fun a' w' hk=>?_) (J1 hT h M _);obtain⟨σ',β',s',G,y,hl⟩:=hk;rw[hH]at hl;have hmono:∀w,σ'.lies w->σ.lies w:=fun w hw b c hb=>hw b c (hl.le b c hb);exact⟨hmono _ y.heap.mem,Bx hmono _ _ _ _ (ih G y fun I D σ'' β'' C hK' A hl'=>hF I D σ'' β'' C hK' A (hl.trans hl'))⟩
  .rw [if_neg (by rw[hw];simp)];obtain⟨sl,G,y⟩:=M.setD (u:=undef) (.p .und) h;exact ih G y fun I D σ'' β'' C hK' A hl'=>hF I D σ'' β'' C hK' A (hH▸hl')
 intro r;induction r with
 | nil=>
   intro L listed s K σ β a w F q l hL h hr hF _;have hno:Region.ready .any ops listed=[]:=by
    refine List.eq_nil_iff_forall_not_mem.2 fun j d=>?_;obtain⟨_,o,ho,_⟩:=mem_ready.1 d;have h1:=YD l j o (by simpa using ho);have h2:=(hL.ready he ho).1 d;simp[h2]at h1
   have hq:F a w:=hF a w σ β s h hr (Later.refl _ _ _ _);cases q with
   |zero=>exact⟨hno,rfl,hq⟩
   |succ q=>exact⟨fun _=>⟨rfl,hq⟩,by rw[hno];simp⟩
 | cons i V r ih=>
   intro L listed s K σ β a w F q l hL h hr hF z;obtain⟨q,rfl⟩ : ∃f,q=f+1:=⟨q-1,by simp[Sched.len]at z;omega⟩;replace z:r.len<=q:=by simp[Sched.len]at z;omega
   simp only[VX]at l;simp only[drW,VA]at h;cases Y:ops[i]?with
   |none=>rw[Y]at l;cases l
   | some oi =>
     rw[Y]at l h;simp only at l h;cases O:rdy L i oi with
     |false=>rw[O]at l;cases l
     | true =>
       rw[O,x4s]at l;cases hv:isV oi.op with
       | false=>
         rw[hv,x5q]at l;cases t:Ru (fun j o=>bif j==i then true else bif rdy L j o then false else true) ops.toList 0 with
         |false=>rw[t]at l;cases l
         | true=>
           rw[t,x4s]at l;simp only[hv,x5q]at h;refine Hb [i] (by simp) hL he (fun j d=>?_) (fun j o ho hjr=>?_) fun j d=>?_
           .rw [x4w]at d;subst d;exact⟨oi,Y,O⟩
           .have h1:=YD t j o (by simpa using ho);by_cases hji:j=i
            .simp [hji]
            .simp [hji,hjr]at h1
           .rw [x4w]at d;subst d;exact step1 Y h hr hF fun G y hF'=>ih l hL.set G y hF' z
       | true =>
         rw[hv,x4s]at l;cases t:Ru (fun j o=>bif j==i then true else bif JX j L then true else bif JX j (JI L ops.toList 0 [i])then true else bif oi.apart ops o then(bif isV o.op then true else bif V then false else true)else false) ops.toList 0 with
         |false=>rw[t]at l;cases l
         | true=>
           rw[t,x4s]at l;have hmi:JX i L=false:=by
            unfold rdy at O;cases hm:JX i L with
            |false=>rfl
            |true=>rw[hm]at O;cases O
           have hwl:=GT (L:=L) (i:=i) (ops:=ops.toList) ops.toList 0 [i] (fun j o d=>by simpa using d) (fun j d=>by
            rw[x4w]at d;subst d;exact⟨hmi,fun h=>absurd rfl h⟩)
           have hB:∀j,j∈JI L ops.toList 0 [i]->j≠i->∀Z,ops[j]?=some Z->∃e∈Z.after,Region.binds .any e=true/\e.on∈JI L ops.toList 0 [i]:=fun j d hne Z ho=>by
            obtain⟨x,h1,h2⟩:=(hwl j d).2 hne;have h1':ops[j]?=some x:=by simpa using h1
            rw[ho]at h1';cases h1';exact h2
           have hun:∀j,j∈JI L ops.toList 0 [i]->listed.getD j false=false:=fun j d=>by
            rcases x4f j ops.size with hlt|hge
            .rw [hL.getT hlt];exact(hwl j d).1
            .have:listed.size<=j:=by rw[hL.1];exact hge
             simp[x9w this]
           have hfree:∀(S:World->Prop),(V=false->∀w,σ.lies w->S w)->∀j Z,ops[j]?=some Z->j≠i->listed.getD j true=false->¬j∈JI L ops.toList 0 [i]->oi.apart ops Z=true/\(isV Z.op=false->q6p P Z S σ.lies):=fun S hS j Z d hne hun hno=>by
            have h1:=YD t j Z (by simpa using d);have hw:JX j (JI L ops.toList 0 [i])=false:=by
             rw[<-z0m,HK];exact hno
            have hjl:=(x4t.1 d).1;rw[hL.getT hjl]at hun;have hb:(j==i)=false:=by simp[hne]
            simp only[x6i,hb,hun,hw,x5q]at h1;cases hap:oi.apart ops Z with
            |false=>rw[hap]at h1;cases h1
            | true=>
              rw[hap,x4s]at h1;refine⟨rfl,fun hvj=>.inl (hS ?_)⟩;rw[hvj,x5q]at h1;cases V
              .rfl
              .cases h1
           have U:=(hL.ready he Y).2 O;obtain⟨s1,hH,M,hw⟩:=HV h hr;rcases hw with⟨hw,h⟩|⟨hw,h⟩
           .unfold Qg at h;simp only[hv,x4s]at h;obtain⟨v,u,G,hrep,hrun⟩:=PX hT h M.E M.heap;rw[XB]at G;obtain⟨sl,G,y⟩:=M.setD hrep G;refine BK (B:=(· ∈ JI L ops.toList 0 [i])) (v:=u) (S:=fun w'=>σ.lies w'/\(V=true->w'=w)) Y hv hsel (by simp) hB q listed a w hun (hfree _ fun hs w' hl=>⟨hl,by simp[hs]⟩) U ⟨hr.heap.mem,fun _=>rfl⟩ (.inl ⟨hw,fun w' hw'=>hrun w' hw'.1 fun hs=>hw'.2 hs▸Old.refl w⟩) ?_;exact ih l hL.set G y (fun I D σ'' β'' C hK' A hl'=>hF I D σ'' β'' C hK' A (hH▸hl')) z
           .obtain ⟨sl,G,y⟩:=M.setD (u:=undef) (.p .und) h;refine BK (B:=(· ∈ JI L ops.toList 0 [i])) (v:=undef) (S:=fun w'=>σ.lies w'/\(V=true->w'=w)) Y hv hsel (by simp) hB q listed a w hun (hfree _ fun hs w' hl=>⟨hl,by simp[hs]⟩) U ⟨hr.heap.mem,fun _=>rfl⟩ (.inr ⟨hw,rfl⟩) ?_;exact ih l hL.set G y (fun I D σ'' β'' C hK' A hl'=>hF I D σ'' β'' C hK' A (hH▸hl')) z
 | alo i r ih =>
   intro L listed s K σ β a w F q l hL h hr hF z;obtain⟨q,rfl⟩ : ∃f,q=f+1:=⟨q-1,by simp[Sched.len]at z;omega⟩;replace z:r.len<=q:=by simp[Sched.len]at z;omega
   simp only[VX]at l;simp only[drW,VA]at h;cases Y:ops[i]?with
   |none=>rw[Y]at l;cases l
   | some oi =>
     rw[Y]at l h;simp only at l h;cases O:rdy L i oi with
     |false=>rw[O]at l;cases l
     | true =>
       rw[O,x4s]at l;cases hv:isV oi.op with
       |false=>rw[hv]at l;cases l
       | true =>
         rw[hv,x4s]at l;cases t:Ru (fun j o=>bif j==i then true else bif JX j L then true else bif JX j (JI L ops.toList 0 [i])then true else bif oi.apart ops o then(bif isV o.op then true else q9w o.op)else false) ops.toList 0 with
         |false=>rw[t]at l;cases l
         | true=>
           rw[t,x4s]at l;have hmi:JX i L=false:=by
            unfold rdy at O;cases hm:JX i L with
            |false=>rfl
            |true=>rw[hm]at O;cases O
           have hwl:=GT (L:=L) (i:=i) (ops:=ops.toList) ops.toList 0 [i] (fun j o d=>by simpa using d) (fun j d=>by
            rw[x4w]at d;subst d;exact⟨hmi,fun h=>absurd rfl h⟩)
           have hB:∀j,j∈JI L ops.toList 0 [i]->j≠i->∀Z,ops[j]?=some Z->∃e∈Z.after,Region.binds .any e=true/\e.on∈JI L ops.toList 0 [i]:=fun j d hne Z ho=>by
            obtain⟨x,h1,h2⟩:=(hwl j d).2 hne;have h1':ops[j]?=some x:=by simpa using h1
            rw[ho]at h1';cases h1';exact h2
           have hun:∀j,j∈JI L ops.toList 0 [i]->listed.getD j false=false:=fun j d=>by
            rcases x4f j ops.size with hlt|hge
            .rw [hL.getT hlt];exact(hwl j d).1
            .have:listed.size<=j:=by rw[hL.1];exact hge
             simp[x9w this]
           have hfree:∀j Z,ops[j]?=some Z->j≠i->listed.getD j true=false->¬j∈JI L ops.toList 0 [i]->oi.apart ops Z=true/\(isV Z.op=false->q6p P Z (fun w'=>σ.lies w'/\Old w w') σ.lies):=fun j Z d hne hun hno=>by
            have h1:=YD t j Z (by simpa using d);have hw:JX j (JI L ops.toList 0 [i])=false:=by
             rw[<-z0m,HK];exact hno
            have hjl:=(x4t.1 d).1;rw[hL.getT hjl]at hun;have hb:(j==i)=false:=by simp[hne]
            simp only[x6i,hb,hun,hw,x5q]at h1;cases hap:oi.apart ops Z with
            |false=>rw[hap]at h1;cases h1
            | true=>
              rw[hap,x4s]at h1;refine⟨rfl,fun hvj=>.inr fun a' w1 n w2 hS hrun=>?_⟩;rw[hvj,x5q]at h1;obtain⟨h2,h3⟩:=Ca h1 hrun;exact⟨fun hJ=>⟨hJ,hS.2.trans h2⟩,h3⟩
           have U:=(hL.ready he Y).2 O;obtain⟨s1,hH,M,hw⟩:=HV h hr;rcases hw with⟨hw,h⟩|⟨hw,h⟩
           .unfold Qg at h;simp only[hv,x4s]at h;obtain⟨v,u,G,hrep,hrun⟩:=PX hT h M.E M.heap;rw[XB]at G;obtain⟨sl,G,y⟩:=M.setD hrep G;refine BK (B:=(· ∈ JI L ops.toList 0 [i])) (v:=u) (S:=fun w'=>σ.lies w'/\Old w w') Y hv hsel (by simp) hB q listed a w hun hfree U ⟨hr.heap.mem,Old.refl w⟩ (.inl ⟨hw,fun w' hw'=>hrun w' hw'.1 fun _=>hw'.2⟩) ?_;exact ih l hL.set G y (fun I D σ'' β'' C hK' A hl'=>hF I D σ'' β'' C hK' A (hH▸hl')) z
           .obtain ⟨sl,G,y⟩:=M.setD (u:=undef) (.p .und) h;refine BK (B:=(· ∈ JI L ops.toList 0 [i])) (v:=undef) (S:=fun w'=>σ.lies w'/\Old w w') Y hv hsel (by simp) hB q listed a w hun hfree U ⟨hr.heap.mem,Old.refl w⟩ (.inr ⟨hw,rfl⟩) ?_;exact ih l hL.set G y (fun I D σ'' β'' C hK' A hl'=>hF I D σ'' β'' C hK' A (hH▸hl')) z
 | fork i ra j rb iha ihb=>
   intro L listed s K σ β a w F q l hL h hr hF z;obtain⟨q,rfl⟩ : ∃f,q=f+1:=⟨q-1,by simp[Sched.len]at z;omega⟩;have hfa:ra.len<=q:=by simp[Sched.len]at z;omega
   have hfb:rb.len<=q:=by simp[Sched.len]at z;omega
   simp only[VX]at l;simp only[drW,VA]at h;cases Y:ops[i]?with
   |none=>rw[Y]at l;cases l
   | some oi =>
     cases d:ops[j]?with
     |none=>rw[Y,d]at l;cases l
     | some Z=>
       rw[Y,d]at l h;simp only at l h
       ··.cases hri:rdy L i oi with
         |false=>rw[hri]at l;cases l
         | true=>
           cases hrj:rdy L j Z with
           |false=>rw[hri,hrj]at l;cases l
           | true =>
             simp only[hri,hrj,x4s]at l;cases t:Ru (fun k o=>bif k==i then true else bif k==j then true else bif rdy L k o then false else true) ops.toList 0 with
             |false=>rw[t]at l;cases l
             | true=>
               rw[t,x4s]at l;cases hoa:VX ops (i::L) ra with
               |false=>rw[hoa]at l;cases l
               | true=>
                 rw[hoa,x4s]at l;refine Hb [i,j] (by simp) hL he (fun k hk=>?_) (fun k o ho hkr=>?_) fun k hk=>?_
                 .rw [x4v,x4w]at hk;rcases hk with rfl|rfl
                  .exact ⟨oi,Y,hri⟩
                  .exact ⟨Z,d,hrj⟩
                 .have h1:=YD t k o (by simpa using ho);by_cases hki:k=i
                  .simp [hki]
                  .by_cases hkj:k=j
                   .simp [hkj]
                   .simp [hki,hkj,hkr]at h1
                 .rw [x4v,x4w]at hk;rcases hk with rfl|rfl
                  .exact step1 Y h.1 hr hF fun G y hF'=>iha hoa hL.set G y hF' hfa
                  .exact step1 d h.2 hr hF fun G y hF'=>ihb l hL.set G y hF' hfb
 | fork3 i ra j rb k rc iha ihb ihc=>
   intro L listed s K σ β a w F q l hL h hr hF z;obtain⟨q,rfl⟩ : ∃f,q=f+1:=⟨q-1,by simp[Sched.len]at z;omega⟩;have hfa:ra.len<=q:=by simp[Sched.len]at z;omega
   have hfb:rb.len<=q:=by simp[Sched.len]at z;omega
   have hfc:rc.len<=q:=by simp[Sched.len]at z;omega
   simp only[VX]at l;simp only[drW,VA]at h;cases Y:ops[i]?with
   |none=>rw[Y]at l;cases l
   | some oi=>
     cases d:ops[j]?with
     |none=>rw[Y,d]at l;cases l
     | some Z=>
       cases hk:ops[k]?with
       |none=>rw[Y,d,hk]at l;cases l
       | some ok=>
         rw[Y,d,hk]at l h;simp only at l h;have bifT:∀{a b:Bool},(bif a then b else false)=true->a=true/\b=true:=fun {a b} h=>by cases a<;>simp_all
         obtain⟨h0,h5⟩:=bifT l;obtain⟨hoa,h6⟩:=bifT h5;obtain⟨hob,hoc⟩:=bifT h6;obtain⟨hri,h7⟩:=bifT h0;obtain⟨hrj,h8⟩:=bifT h7;obtain⟨hrk,t⟩:=bifT h8;refine Hb [i,j,k] (by simp) hL he (fun m hm=>?_) (fun m o ho hmr=>?_) fun m hm=>?_
         .rw [x4v,x4v,x4w]at hm;rcases hm with rfl|rfl|rfl
          .exact ⟨oi,Y,hri⟩
          .exact ⟨Z,d,hrj⟩
          .exact ⟨ok,hk,hrk⟩
         .have h1:=YD t m o (by simpa using ho);by_cases hki:m=i
          .simp [hki]
          .by_cases hkj:m=j
           .simp [hkj]
           .by_cases hkk:m=k
            .simp [hkk]
            .simp [hki,hkj,hkk,hmr]at h1
         .rw [x4v,x4v,x4w]at hm;rcases hm with rfl|rfl|rfl
          .exact step1 Y h.1 hr hF fun G y hF'=>iha hoa hL.set G y hF' hfa
          .exact step1 d h.2.1 hr hF fun G y hF'=>ihb hob hL.set G y hF' hfb
          .exact step1 hk h.2.2 hr hF fun G y hF'=>ihc hoc hL.set G y hF' hfc
theorem DrawK.of{z:Info}{id:Nat}{K:St->Prop}(hT:TabOK P T)(C:P.follows .mixedOrders=true)(r:Sched)(l:(bif Ha ops.size ops.toList then bif ble r.len ops.size then VX ops [] r else false else false)=true)(h:drW P T N ops r s K):DrawK P T N z id ops K s:=by
 cases f:Ha ops.size ops.toList with
 |false=>rw[f]at l;cases l
 | true =>
   cases B:ble r.len ops.size with
   |false=>rw[f,B]at l;cases l
   | true=>
     rw [f,B,x4s,x4s]at l;have u:∀j o,ops[j]?=some o->OU o=true/\∀e∈o.after,e.on<ops.size:=fun j o v=>by
      have h:=YD f j o (by simpa using v);cases I:OU o with
      |false=>rw[I]at h;cases h
      | true=>
        rw[I,x4s,MR]at h;exact⟨rfl,fun e C=>by have:=h e (by simpa using C);simpa[Nat.blt_eq]using this⟩
     have y:∀(j:Nat)(o:Oper) cs b,ops[j]?=some o->o.op ≠ .select cs b:=fun j o cs b v O=>by
      have:=(u j o v).1;unfold OU at this;rw[O]at this;cases this
     refine⟨⟨fun σ β a w q=>?_⟩⟩;have D:Rel N σ β s a {w with drawn:=w.drawn+1}:=⟨q.size,q.defers,q.E,⟨q.heap.mem,fun k c h=>(q.heap.chunks k c h).mono (Mem.le_refl σ) fun _ _ _ _=>rfl,q.heap.nodup,q.heap.apart,q.heap.inj⟩⟩;have t:Ls ops.size [] (Array.replicate ops.size false):=⟨by simp,fun j v=>by simp[v,JX]⟩;refine wp_mono (wp_region_any C (Kz _ _ _ _ (CD (F:=fun A w'=>∃σ' β' s',K s'/\Rel N σ' β' s' A w'/\Later σ β s.H w σ' β' s'.H w') hT y (fun i o U=>(u i o U).2) r l t h D (fun A w' σ' β' s' M x m=>⟨σ',β',s',M,x,?_⟩) (x9m B)))) ?_
     .exact ⟨m.le,⟨m.G.os,m.G.tape,m.G.output,x5y (Nat.le_succ _) m.G.drawn,m.G.size,m.G.block⟩,m.mem,m.own,m.pin⟩
     .rintro e A w' ⟨rfl,h⟩;exact h
end
inductive Wk(new:List (Nat×Chunk)):LV->LV->Prop
 |refl (l:LV):Wk new l l
 |of_eq {l l':LV} (h:l=l'):Wk new l l'
 |any (l:LV):Wk new l (.p .any)
 |p {a b:AV} (h:Sub a b):Wk new (.p a) (.p b)
 |nil {k e sz:Nat} (h:(k,Chunk.own e sz [])∈new):Wk new (.p .nils) (.hd k 0 0)
inductive WkS(new:List (Nat×Chunk))(sl:List (Nat×LV)):List (Nat×LV)->Prop
 |nil:WkS new sl []
 |cons {i:Nat} {l:LV} {r:List (Nat×LV)} (h:Wk new (getS sl i) l) (hr:WkS new sl r):WkS new sl ((i,l)::r)
theorem WkS.r{new:List (Nat×Chunk)}{sl:List (Nat×LV)}{i:Nat}{r:List (Nat×LV)}(h:WkS new sl r):WkS new sl ((i,getS sl i)::r):=.cons (.refl _) h
theorem WkS.get{new:List (Nat×Chunk)}{sl m:List (Nat×LV)}(h:WkS new sl m)(i:Nat):Wk new (getS sl i) (getS m i):=by
 induction h with
 |nil=>exact .any _
 | @cons j l r h t q=>
   simp only[getS];by_cases o:j=i
   .subst o;simpa using h
   .have:(j==i)=false:=by simp[o]
    simpa[this]using q
inductive WkL(new:List (Nat×Chunk)):List LV->List LV->Prop
 |nil:WkL new [] []
 |cons {l l':LV} {r r':List LV} (h:Wk new l l') (hr:WkL new r r'):WkL new (l::r) (l'::r')
theorem WkL.r{new:List (Nat×Chunk)}{l:LV}{r s:List LV}(h:WkL new r s):WkL new (l::r) (l::s):=.cons (.refl _) h
theorem WkL.get{new:List (Nat×Chunk)}{ls i:List LV}(h:WkL new ls i):ls.length=i.length/\∀(j:Nat)(l':LV),i[j]?=some l'->∃l,ls[j]?=some l/\Wk new l l':=by
 induction h with
 |nil=>exact⟨rfl,by simp⟩
 | cons h q o=>
   refine⟨by simp[o.1],fun j l' m=>?_⟩;cases j with
   |zero=>simp at m;subst m;exact⟨_,rfl,h⟩
   |succ j=>exact o.2 j l' (by simpa using m)
inductive CWk(new:List (Nat×Chunk)):Chunk->Chunk->Prop
 |refl (c:Chunk):CWk new c c
 |of_eq {c c':Chunk} (h:c=c'):CWk new c c'
 |obj {e:TypeId} {cs cs':List LV} (h:WkL new cs cs'):CWk new (.obj e cs) (.obj e cs')
inductive WkH(new H:List (Nat×Chunk)):List (Nat×Chunk)->Prop
 |nil:WkH new H []
 |cons {k:Nat} {c c':Chunk} {r:List (Nat×Chunk)} (hg:getH H k=some c) (h:CWk new c c') (hr:WkH new H r):WkH new H ((k,c')::r)
 |new {c:Nat×Chunk} {r:List (Nat×Chunk)} (h:c∈new) (hr:WkH new H r):WkH new H (c::r)
theorem WkH.get{new H H':List (Nat×Chunk)}(h:WkH new H H'):∀x∈H',x∈new\/∃c,(x.1,c)∈H/\CWk new c x.2:=by
 induction h with
 |nil=>simp
 | cons l h m j=>
   intro x i;rcases x4v.1 i with rfl|i
   .exact .inr ⟨_,QG l,h⟩
   .exact j x i
 | new h m j=>
   intro x i;rcases x4v.1 i with rfl|i
   .exact .inl h
   .exact j x i
def Chunk.new0:Chunk->Bool
 |.own _ _ []=>true
 |_=>false
theorem Rel.nils{σ:Mem}{v:Value}(h:Rep σ .nils v):v=.slice none 0 0:=by cases h;rfl
theorem B6{N:Nat}{σ:Mem}{s:St}{a:Act}{w:World}:∀(new:List (Nat×Chunk)){β:Lab},(∀c∈new,c.2.new0=true/\WY c.1 s=true)->(new.map (·.1)).Nodup->Rel N σ β s a w->
  ∃β',Rel N σ β' ⟨s.sl,new++s.H⟩ a w/\(∀c∈new,β' c.1=none)/\(∀b,owns β' (new++s.H) b->owns β s.H b)/\∀j,1000<=j->j<2000->β' j=β j
 |[],β,_,_,h=>⟨β,h,by simp,fun _ u=>u,fun _ _ _=>rfl⟩
 | (k,c)::r,β,hn,hnd,h=>by
   obtain⟨β1,y,M,O,U⟩:=B6 r (fun c Y=>hn c (x4x _ Y)) (x6q.1 hnd).2 h;obtain⟨z,C⟩:=hn (k,c) x4z;obtain⟨F,G⟩:=XI C;have A:k∉r.map (·.1):=(x6q.1 hnd).1;have t:∀j d,(j,d)∈r++s.H->j≠k/\d.free k=true:=fun j d o=>by
    rcases x4g.1 o with o|o
    .refine ⟨fun f=>A (x4y.2 ⟨_,o,f⟩),?_⟩;have:=(hn (j,d) (x4x _ o)).1;cases d with
     |obj=>cases this
     |own=>rfl
     |ext=>cases this
    .exact F j d o
   have m:∀j,j≠k->(β1.set k none) j=β1 j:=fun j n=>by simp[Lab.set,n]
   have l:(β1.set k none) k=none:=by simp[Lab.set]
   have p:∀j∈(r++s.H).map (·.1),j≠k:=fun j n=>by
    obtain⟨⟨B,d⟩,Z,rfl⟩:=x4y.1 n;exact(t B d Z).1
   refine⟨β1.set k none,⟨y.size,y.defers,fun i=>(y.E i).set none (G i),⟨y.heap.mem,fun j d o=>?_,?_,fun j n i q b u=>?_,fun j n B x i i' q v b u D=>?_⟩⟩,fun d o=>?_,fun b u=>?_,fun j I V=>?_⟩
   .rcases x4v.1 o with f|o
    .cases f;cases c with
     |obj=>cases z
     |ext=>cases z
     | own e sz es=>
       cases es with
       |nil=>exact .inl ⟨l,rfl⟩
       |cons=>cases z
    .exact (y.heap.chunks j d o).set none (t j d o).1 (t j d o).2
   .exact x6q.2 ⟨fun C=>p k C rfl,y.heap.nodup⟩
   .rcases x4v.1 n with rfl|n
    .rw [l]at q;cases q
    .rw [m j (p j n)]at q;exact y.heap.apart j n i q b u
   .rcases x4v.1 n with rfl|n
    .rw [l]at q;cases q
    .rcases x4v.1 x with rfl|x
     .rw [l]at v;cases v
     .rw [m j (p j n)]at q;rw[m B (p B x)]at v;exact y.heap.inj j n B x i i' q v b u D
   .rcases x4v.1 o with rfl|o
    .exact l
    .rw [m d.1 fun f=>A (x4y.2 ⟨_,o,f⟩)];exact M d o
   .obtain ⟨j,n,i,q,u⟩:=u;rcases x4v.1 n with rfl|n
    .rw [l]at q;cases q
    .rw [m j (p j n)]at q;exact O b ⟨j,n,i,q,u⟩
   .have:=YR C;rw[m j (by show j≠k;simp only at this;omega)];exact U j I V
theorem Le.mk{D:List (Nat×LV)}{H':Heap}(new:List (Nat×Chunk))(A:∀c∈new,c.2.new0=true/\WY c.1 s=true)(f:(new.map (·.1)).Nodup)(hnd:(H'.map (·.1)).Nodup)(hsl:WkS new s.sl D)(hH:WkH new s.H H'):Le N s ⟨D,H'⟩:=fun σ β a w h=>by
 obtain⟨β',x,h2,h3,h4⟩:=B6 new A f h;have hH:=hH.get;have o:∀j∈H'.map (·.1),j∈(new++s.H).map (·.1):=fun j z=>by
  obtain⟨⟨G,c⟩,q,rfl⟩:=x4y.1 z;rcases hH _ q with q|⟨F,q,_⟩
  .exact x4y.2 ⟨_,x4g.2 (.inl q),rfl⟩
  .exact x4y.2 ⟨(G,F),x4g.2 (.inr q),rfl⟩
 have C:∀{l l':LV}{v:Value},Wk new l l'->RepL σ β' l v->RepL σ β' l' v:=fun {l l' v} B y=>by
  cases B with
  |refl=>exact y
  |of_eq M=>exact M▸y
  |any=>exact .p (.any _)
  | p V=>cases y with
    |p y=>exact .p (V _ _ y)
  | nil q=>
    have hk:=h2 _ q;cases y with
    |p y=>rw[Rel.nils y];exact .hdn _ hk
 refine⟨σ,β',⟨x.size,x.defers,fun i=>C (hsl.get i) (x.E i),⟨x.heap.mem,fun j c hc=>?_,hnd,fun j z=>x.heap.apart j (o j z),fun j z G O=>x.heap.inj j (o j z) G (o G O)⟩⟩,
  Mem.le_refl σ,Frm.refl _ _,fun _ Z x=>absurd Z x,fun b ⟨j,z,r⟩=>.inl (h3 b ⟨j,o j z,r⟩),h4⟩
 rcases hH _ hc with q|⟨F,q,B⟩
 .exact x.heap.chunks j c (x4g.2 (.inl q))
 .have t:=x.heap.chunks j F (x4g.2 (.inr q));have B:CWk new F c:=B;cases B with
  |refl=>exact t
  |of_eq M=>exact M▸t
  | obj V=>
    obtain⟨i,vs,hi,hb,hn,I⟩:=t;obtain⟨Y,e⟩:=V.get;refine⟨i,vs,hi,hb,by omega,fun m l' U=>?_⟩;obtain⟨l,h5,h6⟩:=e m l' U;obtain⟨u,h7,h8⟩:=I m l h5;exact⟨u,h7,C h6 h8⟩
end Go.Ab
