/- A map of rows laid by; a map whose values are data, gone through in whatever order. Conditions: the table of types is the program's own. -/
import Derived.Test.YtgljdhjopolmcaaGreatRcA24
set_option linter.all false
set_option maxRecDepth 100000
set_option maxHeartbeats 16000000
open Nat (blt)
namespace Go.Ab
open Go.Proofs.Tryz
variable {D I O U:List (List Str)}{K:St->Prop}{N k:Nat}{P:Program}{f:Pr}{info:Info}{net:List (List Int)}{o:List Str}{seen:List Bool}{todo:List Int}
section
variable {P:Program}{T:Tab}{N:Nat}
def Cu{sl:List (Nat×LV)}(hsl:(sl.all fun x=>x.2.xfree k)=true)(i:Nat):(getS sl i).xfree k=true:=by
 induction sl with
 |nil=>rfl
 | cons x r h=>
   simp only[List.all_cons,z1p]at hsl;obtain⟨j,l⟩:=x;simp only[getS];cases j==i
   .exact h hsl.2
   .exact hsl.1
def Il{sl:List (Nat×LV)}{H H':Heap}(k:Nat){e sz:Nat}{l:List (List UInt8×List AV)}(hg:getH H k=some (.ext (.mapr e sz l none)))(hpin:WV k=false)(hsl:(sl.all fun x=>x.2.xfree k)=true)(hH:(H.all fun x=>match x.2 with |.obj _ cs=>LV.xfree.xfreeAll k cs|_=>true)=true)(h':H'=H.map fun x=>bif x.1==k then(k,.ext (q2m (l.map fun y=>(y.1,AV.sl y.2))))else x):Le N ⟨sl,H⟩ ⟨sl,H'⟩:=fun σ β a w C=>by
 have hk1:=QT hg;have B:H'.map (·.1)=H.map (·.1):=by
  rw[h',z4e];apply z8k;intro x F;simp only[Function.comp];cases h:x.1==k with
  |true=>simp at h;simp[h]
  |false=>rfl
 have hmem:∀j c,(j,c)∈H'->(j=k/\c=.ext (q2m (l.map fun y=>(y.1,AV.sl y.2))))\/(j≠k/\(j,c)∈H):=fun j c n=>by
  rw[h']at n;obtain⟨x,F,he⟩:=z1z.1 n;cases h:x.1==k with
  | true=>
    rw[h,z1n]at he;cases he;exact .inl ⟨rfl,rfl⟩
  | false=>
    rw[h,z1o]at he;subst he;exact .inr ⟨by simpa using h,F⟩
 obtain⟨i,es,R,hi,hh,hbo,h1,h2,h3,h4,h5⟩:=C.heap.chunks k _ (QD hg);let S:Nat->Prop:=fun b=>∃c,some (b,c)∈i.subs;have hrow:∀(p b c:Nat),i.subs[p]?=some (some (b,c))->∃ws,w.heap[b]?=some (.cells ws e (0,0)):=fun p b c A=>by
  have hlt:p<l.length:=by rw[<-h2];exact(z1k.1 A).1
  obtain⟨e',_,_,_,g4⟩:=h5 p _ (z0c hlt);obtain⟨b',c',ws,q1,_,q3,_⟩:=g4 (by simp);rw[A]at q1;cases q1;exact⟨ws,q3⟩
 have Y:∀b,S b->∃ws,w.heap[b]?=some (.cells ws e (0,0)):=fun b ⟨c,h⟩=>by
  obtain⟨p,A⟩:=z3s.1 h;exact hrow p b c A
 have t:∀b,S b->i.has b:=fun b h=>.inr h;let τ:Mem:=fun b=>@ite _ (S b) (Classical.propDecidable _) (match w.heap[b]?with
  |some (.cells c _ _)=>some c
  |_=>none) (σ b)
 have Q:∀b c e fr,S b->w.heap[b]?=some (.cells c e fr)->τ b=some c:=fun b c e fr h hh=>by
  show @ite _ (S b) (Classical.propDecidable _) _ _=_;rw[if_pos h,hh]
 have z:∀b,¬S b->τ b=σ b:=fun b h=>by
  show @ite _ (S b) (Classical.propDecidable _) _ _=_;rw[if_neg h]
 have J:σ.le τ:=fun b c h=>by
  rw[z b]
  .exact h
  .intro hib;rw[(C.heap.apart k hk1 i hi b (t b hib)).1]at h;cases h
 let i':BInfo:=⟨i.blk,i.cap,i.sz,[],i.ok⟩;have r:∀j,j≠k->(β.set k (some i')) j=β j:=fun j n=>by simp[Lab.set,n]
 have E:(β.set k (some i')) k=some i':=by simp[Lab.set]
 have hhas:∀b,i'.has b->b=i.blk:=fun b h=>by
  rcases h with h|⟨c,h⟩
  .exact h.symm
  .cases h
 have hblk:¬S i.blk:=fun⟨c,h⟩=>by
  obtain⟨p,A⟩:=z3s.1 h;exact(h4 p _ c A).1 rfl
 have g:∀j∈H.map (·.1),∀L,(β.set k (some i')) j=some L->∀b,L.has b->(∃i0,β j=some i0/\i0.has b)/\¬S b:=fun j hin L n b h=>by
  by_cases s:j=k
  .subst s;rw[E]at n;cases n;obtain rfl:=hhas b h;exact⟨⟨i,hi,i.has_blk⟩,hblk⟩
  .rw [r j s]at n;exact⟨⟨L,n,h⟩,fun M=>s (C.heap.inj j hin k hk1 L i n hi b h (t b M))⟩
 have q:∀j∈H'.map (·.1),j∈H.map (·.1):=fun j n=>B▸n;refine⟨τ,β.set k (some i'),⟨C.size,C.defers,fun j=>((C.G j).subs (i':=i') hi ⟨rfl,rfl,rfl⟩ (Cu hsl j)).mono J,⟨fun b c h=>?_,fun j c n=>?_,by rw[B];exact C.heap.nodup,fun j n L hij b h=>?_,fun j n j' hj' i1 i2 g1 V b hb1 hb2=>?_⟩⟩,
  J,Frm.refl _ _,fun b g0 g1=>?_,fun b ⟨j,n,L,hij,h⟩=>?_,fun j g0 g1=>r j (Sk hpin j g0 g1)⟩
 .by_cases M:S b
  .obtain ⟨ws,hw⟩:=Y b M;rw[Q b ws e (0,0) M hw]at h;cases h;exact⟨_,_,hw⟩
  .rw [z b M]at h;exact C.heap.mem b c h
 .rcases hmem j c n with⟨rfl,rfl⟩|⟨s,hm⟩
  .refine ⟨i',es,R,E,hh,hbo,by simpa using h1,fun p x A=>?_⟩;rw[z4e,z1u]at A;cases hq:l[p]?with
   |none=>rw[hq]at A;cases A
   | some y=>
     rw[hq]at A;cases A;obtain⟨e',g1,V,_,g4⟩:=h5 p y hq;obtain⟨b,c,ws,q1,q2,q3,q4,q5,q6,q7⟩:=g4 (by simp);refine⟨e',g1,V,?_⟩;show Rep τ (.sl y.2) e'.val;rw[q2];refine .sl y.2 b 0 c sz ws (fun m j=>(ws[m*sz+j]?).getD undef) (Q b ws _ _ ⟨c,z1d q1⟩ q3) q5 q6 (fun m x F=>(q7 m x F).1) (fun m x j c' F n=>?_) fun m x j c' F n=>?_
     .obtain ⟨u,r4,_⟩:=(q7 m x F).2 j c' n;simp[r4]
     .obtain ⟨u,r4,r5⟩:=(q7 m x F).2 j c' n;simpa[r4]using r5.mono J
  .have F:=z3x.1 hH (j,c) hm;have v:=(C.heap.chunks j c hm).mono (w':=w) J fun _ _ _ _=>rfl;cases c with
   | obj e' cs=>
     obtain⟨i2,vs2,Z,hh2,hn2,hc2⟩:=v;refine⟨i2,vs2,(r j s).trans Z,hh2,hn2,fun m l hm=>?_⟩;obtain⟨u,g5,g6⟩:=hc2 m l hm;exact⟨u,g5,g6.subs hi ⟨rfl,rfl,rfl⟩ (KS F m l hm)⟩
   | own e' sz' es'=>
     rcases v with⟨g5,g6⟩|⟨i2,vs2,Z,rest⟩
     .exact .inl ⟨(r j s).trans g5,g6⟩
     .exact .inr ⟨i2,vs2,(r j s).trans Z,rest⟩
   | ext d=>
     show d.holds τ ((β.set k (some i')) j) w;rw[r j s];exact v
 .obtain ⟨⟨i0,g1,V⟩,g3⟩:=g j (q j n) L hij b h;rw[z b g3];exact C.heap.apart j (q j n) i0 g1 b V
 .obtain ⟨⟨i3,q1,q2⟩,_⟩:=g j (q j n) i1 g1 b hb1;obtain⟨⟨i4,q3,q4⟩,_⟩:=g j' (q j' hj') i2 V b hb2;exact C.heap.inj j (q j n) j' (q j' hj') i3 i4 q1 q3 b q2 q4
 .by_cases M:S b
  .exact .inl ⟨k,hk1,i,hi,t b M⟩
  .rw [z b M]at g1;exact absurd g0 g1
 .obtain ⟨⟨i0,g1,V⟩,_⟩:=g j (q j n) L hij b h;exact .inl ⟨j,q j n,i0,g1,V⟩
theorem OpK.range(hT:TabOK P T){s:St}{o:Oper}{K:St->Prop}{t:TypeId}{x:Operand}(hop:o.op=.range t x){k:Nat}(hx:QR s.sl x=.ext k .map){l:List (List UInt8×AV)}(hg:getH s.H k=some (.ext (q2m l))){i:TyI}{kt et:TypeId}(ht:T.get t=some i)(hd:i.desc=.map kt et)(hpin:WV k=false)(h:Fo (LV.kill k) s.sl fun sl=>Yj k 99999 (LV.kill k) (.ext (.iter l none)) s.H fun H=>setD N sl o.dst (.ext k .iter) fun sl=>K ⟨sl,H⟩):OpK P N s o K:=by
 refine⟨fun σ β a w F Q=>?_⟩;obtain⟨sl,h,hsl⟩:=VT (by rfl) h;obtain⟨H2,h,hsub,hmem⟩:=VS h;have hx':=QU F.G x;rw[hx]at hx';generalize hxe:a.eval x=xv at hx';cases hx' with
 |ext _ _ B _ L hd'=>
 obtain rfl:xv=.map (some B.blk):=hd';obtain⟨bi',es,A,hbi',hh,hbo,h1,h2⟩:=F.heap.chunks k _ (QD hg);rw[L]at hbi';cases hbi';have Y:=QT hg;have hu:=hT.of ht;rw[hd]at hu;let V:Obj:=.mapIter (some B.blk) A #[] A;let i':BInfo:=⟨w.heap.size,0,0,[some (B.blk,0)],z1q _⟩;have y:∀j,j≠k->(β.set k (some i')) j=β j:=fun j C=>by simp[Lab.set,C]
 have r:(β.set k (some i')) k=some i':=by simp[Lab.set]
 have hlt:=(F.heap.apart k Y B L B.blk B.has_blk).2;have J:∀b,b<w.heap.size->(w.alloc V).heap[b]?=w.heap[b]?:=fun b q=>(by first|exact heap_alloc_old w V q|exact heap_alloc_old w V b q);have hsize:(w.alloc V).heap.size=w.heap.size+1:=by
  show(w.heap.push V).size=_;simp
 have M:∀b,i'.has b->b=w.heap.size\/b=B.blk:=fun b q=>by
  rcases q with q|⟨c,q⟩
  ·exact .inl q.symm
  ·have q:some (b,c)∈[some (B.blk,0)]:=q;rw[z0i]at q;cases q;exact .inr rfl
 have g:∀j∈H2.map (·.1),j∈s.H.map (·.1):=fun j C=>hsub.subset C;have R:∀j∈s.H.map (·.1),j≠k->∀E,β j=some E->∀b,E.has b->b<w.heap.size:=fun j C _ E m b q=>(F.heap.apart j C E m b q).2;have hrun:(execOp a.eval o).run P w=.ok (.value (.pointer (some ⟨w.heap.size,0,none⟩))) (w.alloc V):=by
  have hr1:(Instr.range t (.map (some B.blk))).run P w=.ok (.pointer (some ⟨w.heap.size,0,none⟩)) (w.alloc V):=by
   unfold Instr.range;simp only[Sem.run_bind,run_underlying hu,Result.andThen_ok,KQ hh,Sem.run_pure];rfl
  simp only[execOp,hop,hxe,Sem.run_bind,hr1,Result.andThen_ok];rfl
 have hr2:Rel N σ (β.set k (some i')) ⟨sl,H2⟩ a (w.alloc V):=by
  refine⟨F.size,F.defers,fun j=>?_,⟨fun b c q=>?_,fun j c C=>?_,hsub.nodup F.heap.nodup,fun j C E m b q=>?_,fun j C j' hj' i1 i2 g1 g2 b hb1 hb2=>?_⟩⟩
  ·show RepL _ _ (getS sl j) _;rw[hsl];exact((F.G j).kill k).set _ (LV.kill_free k _)
  ·obtain⟨e,fr,h3⟩:=F.heap.mem b c q;exact⟨e,fr,(J b (z1a.1 h3).1).trans h3⟩
  ·obtain⟨_,⟨rfl,rfl⟩|⟨z,c0,hm,rfl⟩⟩:=hmem j c C
   ·have hall:es.filter (fun x=> !(#[]:Array Nat).contains x.born)=es:=Array.filter_eq_self.2 fun x _=>by simp
    refine⟨i',B.blk,es,A,A,#[],r,rfl,heap_alloc_new w V,(J _ hlt).trans hh,hbo.1,hbo.2,z1l _,by rw[hall];simpa using h1,fun p x hp=>?_,fun x hx=>by cases hx⟩;rw[hall];obtain⟨e,q1,q2,q3⟩:=h2 p (GV x.1,x.2) (by rw[z1u,hp];rfl);exact⟨e,q1,q2,q3⟩
   ·have hjl:j∈s.H.map (·.1):=z1z.2 ⟨_,hm,rfl⟩;exact(F.heap.chunks j c0 hm).mapL (f:=LV.kill k) (Mem.le_refl σ) (fun l v hl=>(hl.kill k).set _ (LV.kill_free k _)) (y j z) fun E m b q=>J b (R j hjl z E m b q)
  ·rw [hsize];by_cases z:j=k
   ·subst z;rw[r]at m;cases m;rcases M b q with rfl|rfl
    ·refine⟨?_,by omega⟩;cases hq:σ w.heap.size with
     |none=>rfl
     | some c=>
       obtain⟨e,fr,h3⟩:=F.heap.mem _ c hq;have:=(z1a.1 h3).1;omega
    ·have:=F.heap.apart _ Y B L B.blk B.has_blk;exact⟨this.1,by omega⟩
   ·rw[y j z]at m;have:=F.heap.apart j (g j C) E m b q;exact⟨this.1,by omega⟩
  ·have key:∀j∈s.H.map (·.1),j≠k->∀E,β j=some E->∀b,E.has b->i'.has b->False:=fun j C z E m b q hb'=>by
    rcases M b hb' with rfl|rfl
    ·have:=R j C z E m _ q;omega
    ·exact z (F.heap.inj j C k Y E B m L _ q B.has_blk)
   by_cases e1:j=k<;>by_cases e2:j'=k
   ·rw[e1,e2]
   ·subst e1;rw[r]at g1;cases g1;rw[y j' e2]at g2;exact(key j' (g j' hj') e2 i2 g2 b hb2 hb1).elim
   ·subst e2;rw[r]at g2;cases g2;rw[y j e1]at g1;exact(key j (g j C) e1 i1 g1 b hb1 hb2).elim
   ·rw[y j e1]at g1;rw[y j' e2]at g2;exact F.heap.inj j (g j C) j' (g j' hj') i1 i2 g1 g2 b hb1 hb2
 have Z:Later σ β s.H w σ (β.set k (some i')) H2 (w.alloc V):=by
  refine⟨Mem.le_refl σ,⟨rfl,rfl,rfl,z1l _,by omega,fun b q _=>J b q⟩,fun b g0 g1=>absurd g0 g1,fun b ⟨j,C,E,m,q⟩=>?_,fun j g0 g1=>y j (Sk hpin j g0 g1)⟩;by_cases z:j=k
  ·subst z;rw[r]at m;cases m;rcases M b q with rfl|rfl
   ·exact .inr (z1l _)
   ·exact .inl ⟨_,Y,B,L,B.has_blk⟩
  ·rw[y j z]at m;exact .inl ⟨j,g j C,E,m,q⟩
 obtain⟨sl',hK,hr''⟩:=hr2.setD (v:=.ext k .iter) (u:=.pointer (some ⟨w.heap.size,0,none⟩)) (.ext k .iter i' _ r rfl) h;exact ZP hrun ⟨σ,_,_,hK,hr'',Z⟩
theorem Jp:∀(L:List MapEntry)(j:Nat)(h:j<L.length),(L.map (·.born)).Nodup->L.filter (fun x=>decide (x.born≠L[j].born))=L.eraseIdx j
 | x::r,0,_,hn=>by
   rw[z1t,z2i]at hn;rw[z2n (by simp)];show r.filter _=r;rw[List.filter_eq_self];intro y n;have:y.born≠x.born:=fun i=>hn.1 (i▸z6q n);simpa using this
 | x::r,j+1,h,hn=>by
   rw[z1t,z2i]at hn;have m:j<r.length:=by simpa using h
   have l:x.born≠r[j].born:=fun i=>hn.1 (i▸z6q (z1h m));rw[z2m (by simpa using l)];show x::r.filter _=x::r.eraseIdx j;congr 1;exact Jp r j m hn.2
def OU(es:Array MapEntry)(seen:Array Nat)(b:Nat):(es.filter fun x=> !(seen.push b).contains x.born).toList=(es.filter fun x=> !seen.contains x.born).toList.filter fun x=>decide (x.born≠b):=by
 rw[z8u,z8u,List.filter_filter];apply List.filter_congr;intro x _;simp only[Array.contains_push,Bool.not_or];rw[Bool.and_comm];congr 1;by_cases h:x.born=b<;>simp[h]
theorem OpK.next{s:St}{o:Oper}{x:Operand}(hop:o.op=.next x false)(hx:QR s.sl x=.ext k .iter){l:List (List UInt8×AV)}{cur:Option (List UInt8×AV)}(hg:getH s.H k=some (.ext (.iter l cur)))(hlen:∀y∈l,y.1.length<=maxLen)(h0:l=[]->setD N s.sl o.dst (.p (.tup [.ff])) fun sl=>K ⟨sl,s.H⟩)(h1:∀(j:Nat)(V:j<l.length),Bd s.H k (.ext (.iter (l.eraseIdx j) (some l[j]))) fun H=>setD N s.sl o.dst (.p (.tup [.tt,.str l[j].1,l[j].2])) fun sl=>K ⟨sl,H⟩):OpK P N s o K:=by
 refine⟨fun σ β a w C Q=>?_⟩;have hx':=QU C.G x;rw[hx]at hx';generalize hxe:a.eval x=xv at hx';cases hx' with
 |ext _ _ J _ M hd'=>
 obtain rfl:xv=.pointer (some ⟨J.blk,0,none⟩):=hd';obtain⟨bi',m,es,q,t,seen,hbi',hsub,hh,hm,hnd,R,hsc,hsz,hent,hcur⟩:=C.heap.chunks k _ (QD hg);rw[M]at hbi';cases hbi';have hk1:=QT hg;have hne:J.blk≠m:=fun L=>by rw[<-L,hh]at hm;cases hm
 rcases run_next_at (P:=P) w o.type J.blk m t q seen es q hh hm R hsc with⟨hz,hrun⟩|⟨e,L,w1,hw1,hrun⟩
 .have hl0:l=[]:=z3c (by rw[<-hsz];exact hz);have A:(execOp a.eval o).run P w=.ok (.value (.tuple #[.bool false])) w:=by
   simp only[execOp,hop,hxe,Sem.run_bind,hrun,Result.andThen_ok];rfl
  obtain⟨sl,hK,hr'⟩:=C.setD (v:=.p (.tup [.ff])) (u:=.tuple #[.bool false]) (.p (.tup [.ff] #[.bool false] (fun _=>.bool false) rfl (fun j c V=>by
   match j,V with
   |0,V=>rfl
   |j+1,V=>simp at V) fun j c V=>by
   match j,V with
   |0,V=>cases V;exact .ff
   |j+1,V=>simp at V)) (h0 hl0)
  exact ZP A ⟨σ,β,_,hK,hr',Later.refl _ _ _ _⟩
 .have hleft:leftOf es seen=es.filter fun x=> !seen.contains x.born:=rfl;rw[hleft]at L;obtain⟨j,Y,hje⟩:=z2e.1 L;have hjl:j<l.length:=by rw[<-hsz,<-z3r];exact Y
  obtain⟨e2,q1,q2,q3⟩:=hent j _ (z0c hjl);have he2:e2=e:=by
   have q1':(es.filter fun x=> !seen.contains x.born).toList[j]?=some e2:=by rw[z4m];exact q1
   rw[z0c Y,hje]at q1';exact(z3q q1').symm
  subst he2;have hmemes:e2∈es.toList:=by
   rw[z8u]at L;exact(z2u.1 L).1
  have h:=h1 j hjl;obtain⟨H',h,g3,g4,g5⟩:=GO C.heap.nodup h;have hw1h:w1.heap=w.heap:=by rcases hw1 with rfl|rfl<;>rfl
  let w':World:=ChangeMaps.setBlock w1 J.blk (.mapIter (some m) t (seen.push e2.born) q);have E:w'.heap=w.heap.setIfInBounds J.blk (.mapIter (some m) t (seen.push e2.born) q):=by
   show w1.heap.setIfInBounds _ _=_;rw[hw1h]
  have hot:∀b,b≠J.blk->w'.heap[b]?=w.heap[b]?:=fun b hb=>by rw[E];exact z5z (z5q hb)
  have hlt:=(C.heap.apart k hk1 J M J.blk J.has_blk).2;have A:(execOp a.eval o).run P w=.ok (.value (.tuple #[.bool true,e2.key,e2.val])) w':=by
   simp only[execOp,hop,hxe,Sem.run_bind,hrun,Result.andThen_ok];rfl
  have hborns:((es.filter fun x=> !seen.contains x.born).toList.map (·.born)).Nodup:=by
   rw[z8u];exact(z7k.map _).nodup hnd
  have B:(es.filter fun x=> !(seen.push e2.born).contains x.born).toList=(es.filter fun x=> !seen.contains x.born).toList.eraseIdx j:=by
   rw[OU];have:=Jp _ j Y hborns;rw[hje]at this;exact this
  have hheap:HRel σ β H' w':=by
   refine⟨fun b c hb=>?_,fun j' c z=>?_,by rw[g3];exact C.heap.nodup,fun j' z i' hi' b hb=>?_,fun j' z j'' hj''=>C.heap.inj j' (g3▸z) j'' (g3▸hj'')⟩
   .obtain ⟨e',fr,h6⟩:=C.heap.mem b c hb;exact⟨e',fr,(hot b fun L=>by rw[L,hh]at h6;cases h6).trans h6⟩
   .by_cases hjk:j'=k
    .subst hjk;rw[g5 c z];refine⟨J,m,es,q,t,seen.push e2.born,M,hsub,by rw[E];simp[hlt],(hot m (z5q hne)).trans hm,hnd,R,hsc,?_,fun p y hp=>?_,fun y hy=>?_⟩
     .rw [<-z3r,B,List.length_eraseIdx,List.length_eraseIdx,z3r,hsz]
     .have F:(l.eraseIdx j)[p]?=some y:=hp;rw[List.getElem?_eraseIdx]at F;have key:∀p',l[p']?=some y->∃e:MapEntry,(es.filter fun x=> !seen.contains x.born).toList[p']?=some e/\e.key=.string ⟨y.1.toArray⟩/\Rep σ y.2 e.val:=fun p' F=>by
       obtain⟨e,r1,r2,r3⟩:=hent p' y F;exact⟨e,by rw[z4m];exact r1,r2,r3⟩
      have hget:(es.filter fun x=> !(seen.push e2.born).contains x.born)[p]?=((es.filter fun x=> !seen.contains x.born).toList.eraseIdx j)[p]?:=by
       rw[<-B,z4m]
      rw[hget,List.getElem?_eraseIdx];split at F
      .rename_i Z;rw[if_pos Z];exact key p F
      .rename_i Z;rw[if_neg Z];exact key (p+1) F
     .cases hy;exact⟨e2,hmemes,seen,rfl,q2,q3⟩
    .have hm':=g4 j' c z hjk;exact(C.heap.chunks j' c hm').mono (Mem.le_refl σ) fun i' hi' b hb=>hot b fun L=>hjk (C.heap.inj j' (z1z.2 ⟨_,hm',rfl⟩) k hk1 i' J hi' M b hb (.inl L.symm))
   .have hsz':w'.heap.size=w.heap.size:=by rw[E];simp
    rw[hsz'];exact C.heap.apart j' (g3▸z) i' hi' b hb
  have hkl:l[j].1.length<=maxLen:=hlen _ (z1h hjl);have hr1:Rel N σ β ⟨s.sl,H'⟩ a w':=⟨C.size,C.defers,C.G,hheap⟩;obtain⟨sl,hK,hr'⟩:=hr1.setD (v:=.p (.tup [.tt,.str l[j].1,l[j].2])) (u:=.tuple #[.bool true,e2.key,e2.val]) (.p (.tup [.tt,.str l[j].1,l[j].2] #[.bool true,e2.key,e2.val] (fun i=>(#[.bool true,e2.key,e2.val]:Array Value).getD i undef) rfl (fun i c g=>by
   match i,g with
   |0,g=>rfl
   |1,g=>rfl
   |2,g=>rfl
   |i+3,g=>simp at g) fun i c g=>by
   match i,g with
   |0,g=>cases g;exact .tt
   |1,g=>cases g;show Rep σ _ e2.key;rw[q2];exact .str _ hkl
   |2,g=>cases g;exact q3
   |i+3,g=>simp at g)) h
  refine ZP A ⟨σ,β,_,hK,hr',Mem.le_refl σ,⟨?_,?_,?_,?_,by rw[E];simp,fun b _ hn=>hot b fun L=>hn ⟨k,hk1,J,M,.inl L.symm⟩⟩,fun b g0 g1=>absurd g0 g1,fun b ⟨j',z,r⟩=>.inl ⟨j',g3▸z,r⟩,fun _ _ _=>rfl⟩
  .rcases hw1 with rfl|rfl<;>rfl
  .rcases hw1 with rfl|rfl<;>rfl
  .rcases hw1 with rfl|rfl<;>rfl
  .rcases hw1 with rfl|rfl
   .exact z1l _
   .exact Nat.le_succ _
theorem OpK.entry{s:St}{o:Oper}{x:Operand}(R:o.op=.entry x)(hx:QR s.sl x=.ext k .iter){l:List (List UInt8×AV)}{y:List UInt8×AV}(hg:getH s.H k=some (.ext (.iter l (some y))))(E:y.1.length<=maxLen)(h:setD N s.sl o.dst (.p (.tup [.str y.1,y.2])) fun sl=>K ⟨sl,s.H⟩):OpK P N s o K:=by
 refine⟨fun σ β a w V Q=>?_⟩;have g:=QU V.G x;rw[hx]at g;generalize Z:a.eval x=xv at g;cases g with
 |ext _ _ bi _ J M=>
 obtain rfl:xv=.pointer (some ⟨bi.blk,0,none⟩):=M;obtain⟨bi',m,es,t,B,seen,r,hsub,hh,hm,hnd,L,hsc,hsz,hent,C⟩:=V.heap.chunks k _ (QD hg);rw[J]at r;cases r;obtain⟨e,he,A,rfl,q2,q3⟩:=C y rfl;have F:=run_entry_at (P:=P) w bi.blk m B A es t e hh hm he hnd;have z:(execOp a.eval o).run P w=.ok (.value (.tuple #[e.key,e.val])) w:=by
  simp only[execOp,R,Z,Sem.run_bind,F,Result.andThen_ok];rfl
 obtain⟨sl,hK,Y⟩:=V.setD (v:=.p (.tup [.str y.1,y.2])) (u:=.tuple #[e.key,e.val]) (.p (.tup [.str y.1,y.2] #[e.key,e.val] (fun i=>(#[e.key,e.val]:Array Value).getD i undef) rfl (fun i c q=>by
  match i,q with
  |0,q=>rfl
  |1,q=>rfl
  |i+2,q=>simp at q) fun i c q=>by
  match i,q with
  |0,q=>cases q;show Rep σ _ e.key;rw[q2];exact .str _ E
  |1,q=>cases q;exact q3
  |i+2,q=>simp at q)) h
 exact ZP z ⟨σ,β,_,hK,Y,Later.refl _ _ _ _⟩
end
open Go.Proofs
def atN(G:Nat->List Str)(n:Nat)(nm:Str):List Nat:=((prsG G n).filter fun x=>decide (x.1=nm)).map Prod.snd
def q7l(G:Nat->List Str)(n:Nat)(nm:Str):Str×AV:=(nm,.sl ((atN G n nm).map fun a=>.int .i64 (a:Nat)))
noncomputable def outN(G T:Nat->List Str)(h:Nat->Int)(n:Nat)(steps:List (Int×Int))(nm:Str):List Fl:=(List.range n).flatMap fun c=>((comC n steps (atN G n nm)).getD c []).flatMap fun f=>if inS (T c) nm=true then [⟨h ((atN G n nm).getD f.toNat 0),h c,nm⟩]else []
structure FlB(b:Book)(i:Nat)(w:Way)(n:Nat)(L:List Step)(steps:List (Int×Int))(G T:Nat->List Str)(plc:Nat->Int):Prop where
 hW:b.ways[i]?=some w
 hn:n<=5000
 hwn:w.n=n
 dat:aP 87 [.ip w.cells] (eSteps L)
 prs:aP 86 [.ip w.cells,eSteps L] (.sl (avP steps))
 giv:aH 77 [.p (.ip b.cells),.j i] [] (.tup [.ext 0 .map,.p (.int .i64 (prsG G n).length)]) [(0,.ext (.mapr 3 1 (mapG (prsG G n)) none))]
 tak:∀c,c<n->aP 88 [.ip b.cells,.int .i64 i,.int .i64 c] (eStrs (T c))
 com:∀at_:List Nat,(∀a∈at_,a<n)->at_.length<=5000->aP 89 [.ip b.cells,.int .i64 i,.sl (avP steps),.sl (at_.map fun a=>.int .i64 (a:Nat))] (eMat (comC n steps at_))
 place:∀c,c<n->aP 91 [.ip w.cells,.int .i64 c] (.int .i64 (plc c))
 srt:∀c,(T c).Pairwise ltT/\(T c).length<=1000000
 ok:∀s∈((mapG (prsG G n)).map Prod.fst).flatMap (outN G T plc n steps),okFl s
 cnt:(((mapG (prsG G n)).map Prod.fst).flatMap (outN G T plc n steps)).length<=1000000000
 atl:∀nm,(atN G n nm).length<=5000
 key:∀y:Str,y∈(mapG (prsG G n)).map Prod.fst->y.length<=maxLen
theorem OpK.le{s s':St}{o:Oper}(l:Le N s s')(h:OpK P N s' o K):OpK P N s o K:=⟨fun σ β a w u Q=>by
 obtain⟨σ1,β1,q,i⟩:=l σ β a w u;exact Oper.wp_mono (fun x w' ⟨σ',β',v,r,m,t⟩=>⟨σ',β',v,r,m,i.trans t⟩) (h.1 σ1 β1 a w q Q)⟩
def tkA(T:Nat->List Str)(n c:Nat):List AV:=((List.range c).map fun q=>eStrs (T q))++List.replicate (n-c) .nils
def q7u(T:Nat->List Str)(n:Nat):tkA T n 0=List.replicate n .nils:=by unfold tkA;simp
theorem x5j(T:Nat->List Str){n c:Nat}(h:c<=n):(tkA T n c).length=n:=by unfold tkA;simp;omega
theorem x5k(T:Nat->List Str){n c:Nat}(h:c<n):(tkA T n c).set c (eStrs (T c))=tkA T n (c+1):=by
 unfold tkA;rw[z4o _ _ (by simp),z0s,z4q,z6x,show n-c=(n-(c+1))+1 by omega,z6b,z5v,z5m,z1v,z1m];rfl
theorem x5y(T:Nat->List Str){n c:Nat}(h:c<n):(tkA T n c)[c]?=some .nils:=by
 unfold tkA;rw[z2f (by simp),z0s,z4q,z6x,z2q];simp;omega
def Ag(T:Nat->List Str)(h:Nat->Int)(n:Nat)(at_:List Nat)(C:List (List Int))(nm:Str):List Fl:=(List.range n).flatMap fun c=>(C.getD c []).flatMap fun f=>if inS (T c) nm=true then [⟨h (at_.getD f.toNat 0),h c,nm⟩]else []
def Vk(T:Nat->List Str)(h:Nat->Int)(q:Nat)(at_:List Nat)(C:List (List Int))(nm:Str):Ag T h (q+1) at_ C nm=Ag T h q at_ C nm++(C.getD q []).flatMap fun f=>if inS (T q) nm=true then [⟨h (at_.getD f.toNat 0),h q,nm⟩]else []:=by
 unfold Ag;rw[z5m,z3g];simp
theorem x1g(T:Nat->List Str)(i:Nat->Int){q c:Nat}(h:q<=c)(at_:List Nat)(C:List (List Int))(nm:Str):(Ag T i q at_ C nm).length<=(Ag T i c at_ C nm).length:=by
 induction c with
 | zero=>
   obtain rfl:q=0:=by omega
   exact z1l _
 | succ c m=>
   rcases z1w c q with l|l
   ·obtain rfl:q=c+1:=by omega
    exact z1l _
   ·rw[Vk,z0e];have:=m l;omega
def P0{G:Nat->List Str}{n:Nat}{nm:Str}{a:Nat}(h:a∈atN G n nm):a<n:=by
 unfold atN prsG at h;obtain⟨x,i,rfl⟩:=z1z.1 h;obtain⟨b,l,i⟩:=z1c.1 (z2u.1 i).1;obtain⟨s,_,rfl⟩:=z1z.1 i;exact z2h.1 l
def U3{l:List (Str×List AV)}{k:Str}{v:List AV}:(Xu l k v).map Prod.fst=if k∈l.map Prod.fst then l.map Prod.fst else l.map Prod.fst++[k]:=by
 induction l with
 |nil=>rw[Xu];rfl
 | cons x r n=>
   rw[Xu];by_cases h:k=x.1
   .rw [if_pos h,z1t,z1t,if_pos (by rw[h];exact z1j)]
   .rw [if_neg h,z1t,z1t,n];by_cases i:k∈r.map Prod.fst
    .rw [if_pos i,if_pos (z1x _ i)]
    .rw [if_neg i,if_neg (by rw[z1g];rintro(m|m);exact h m;exact i m)];rfl
def OF(l:List (Str×Nat)):((mapG l).map Prod.fst).Nodup:=by
 have key:∀l:List (Str×Nat),((mapG l.reverse).map Prod.fst).Nodup:=fun l=>by
  induction l with
  |nil=>exact z7v
  | cons x r i=>
    rw[z7x,BK];unfold Lk;rw[U3];split
    .exact i
    .rename_i h;rw[z3v];exact⟨i,by simp,fun a ha b m e=>h (by rw[<-z0i.1 m,<-e];exact ha)⟩
 have:=key l.reverse
 rwa[z7w]at this
def q5n{l:List (Str×List AV)}(i:(l.map Prod.fst).Nodup){y:Str×List AV}(h:y∈l):Rb l y.1=y.2:=by
 induction l with
 |nil=>cases h
 | cons x r m=>
   rw[z1t,z2i]at i;unfold Rb Sb;rw[z6k];rcases z1g.1 h with rfl|h
   .simp
   .have:¬y.1=x.1:=fun e=>i.1 (by rw[<-e];exact z6q h);rw[z2r this];exact m i.2 h
def x3i(G:Nat->List Str)(n:Nat):(mapG (prsG G n)).map (fun y=>(y.1,AV.sl y.2))=((mapG (prsG G n)).map Prod.fst).map (q7l G n):=by
 rw[z4e];refine z8k fun y h=>?_;have:=q5n (OF (prsG G n)) h;rw[Au]at this;show(y.1,AV.sl y.2)=(y.1,AV.sl ((atN G n y.1).map fun a=>.int .i64 (a:Nat)));rw[<-this];unfold atN;rw[z4e];rfl
theorem Px{α:Type}:∀(l:List α)(k:Nat)(h:k<l.length),(l[k]::l.eraseIdx k).Perm l
 |x::r,0,_=>by rw[List.eraseIdx_cons_zero];exact .refl _
 | x::r,k+1,h=>by
   rw[List.eraseIdx_cons_succ,List.getElem_cons_succ];exact(List.Perm.swap _ _ _).trans (.cons _ (Px r k (by simpa using h)))
theorem T6{α β:Type}(f:α->β):∀(l:List α)(k:Nat),(l.map f).eraseIdx k=(l.eraseIdx k).map f
 |[],_=>rfl
 |_::_,0=>rfl
 |x::r,k+1=>by rw[z1t,List.eraseIdx_cons_succ,List.eraseIdx_cons_succ,z1t,T6 f r k]
theorem F9(b:Book)(i:Nat)(w:Way)(n:Nat)(L:List Step)(steps:List (Int×Int))(G T:Nat->List Str)(l:Nat->Int)(F:FlB b i w n L steps G T l):aP 39 [.ip b.cells,.int .i64 i] (.sl ((JM (((mapG (prsG G n)).map Prod.fst).flatMap (outN G T l n steps))).map Xx)):=by
 refine sC Ul func39 ?_;conv=>whnf
 obtain⟨hW,hn,hwn,hD,hP,hGv,hT,hC,hPl,hSr,hOk,hCn,hAt,Y⟩:=F;have hky:∀y∈(mapG (prsG G n)).map (fun y=>(y.1,AV.sl y.2)),y.1.length<=maxLen:=fun y hy=>by
  obtain⟨z,hz,rfl⟩:=z1z.1 hy;exact Y z.1 (z6q hz)
 have hg2:(b.ways.map fun w=>AV.ip w.cells)[i]?=some (.ip w.cells):=by rw[z1u,hW];rfl
 repeat' ((first|(refine iM fun _=>?_)|refine aR ?_|refine iT hg2 ?_|refine z6t n (by omega) (by show 24*_<=140737488355328;omega) (by unfold maxLen;omega) ?_|refine cP hD ?_|refine cP hP ?_|(refine cH [] 0 hGv ?_ (hH:=z4x)))<;>conv=>whnf)
 refine lJ (fun c:Nat=>⟨[(0,.p (.ip b.cells)),(1,.j i),(5,.p (.ip w.cells)),(6,.p .nils),(7,.p (.sl (avP steps))),(8,.ext 0 .map),(10,.hd 1 0 n),(41,.j n),(42,.j c)],[(1,.own 22 1 (tkA T n c)),(0,.ext (.mapr 3 1 (mapG (prsG G n)) none))]⟩) (fun c=>c<=n) (fun c=>n-c) 0 (Le.of_eq (by rw[q7u];rfl)) (z1q _) ?_;intro c hc;have htl:=x5j T hc;rcases z1w c n with h1|h1
 ·have hTc:=hT c h1;have hst:=x5k T h1;have eT:=x5y T h1;generalize tkA T n c=tk at*
  conv=>whnf
  repeat' ((first|refine gX ?_|refine iO c ?_|refine cP hTc ?_|refine sO (eStrs (T c)) eT ?_|(apply bD<;>intro _<;>try omega))<;>conv=>whnf)
  all_goals first
   |exact⟨c+1,h1,by omega,Le.of_eq (by rw[<-hst];rfl)⟩
 ·obtain rfl:c=n:=by omega
  conv=>whnf
  repeat' ((first|refine OpK.le (Il 0 rfl rfl rfl rfl rfl) (OpK.range ZI rfl rfl rfl rfl rfl rfl ?_)|(apply bD<;>intro _<;>try omega))<;>conv=>whnf)
  have htk:tkA T c c=(List.range c).map fun q=>eStrs (T q):=by unfold tkA;simp
  rw[x3i];generalize hks:(mapG (prsG G c)).map Prod.fst=keys at*
  refine lJ (fun x:List Str×Option Str×List Fl=>⟨[(0,.p (.ip b.cells)),(1,.j i),(5,.p (.ip w.cells)),(6,.hd 2 0 x.2.2.length),(7,.p (.sl (avP steps))),(10,.p (.sl ((List.range c).map fun q=>eStrs (T q)))),(54,.ext 0 .iter)],[(0,.ext (.iter (x.1.map (q7l G c)) (x.2.1.map (q7l G c)))),(2,.own 92 3 (x.2.2.map Xx))]⟩) (fun x=>∃d,(d++x.1).Perm keys/\x.2.2=d.flatMap (outN G T l c steps)) (fun x=>x.1.length) (keys,none,[]) (by
    obtain⟨s',rfl,hle⟩:=Le.row (N:=Tryz.f39.ntmps) (s:=⟨[(0,.p (.ip b.cells)),(1,.j i),(5,.p (.ip w.cells)),(6,.p .nils),(7,.p (.sl (avP steps))),(10,.hd 1 0 ((List.range c).map fun q=>eStrs (T q)).length),(54,.ext 0 .iter)],[(1,.own 22 1 ((List.range c).map fun q=>eStrs (T q))),(0,.ext (.iter (keys.map (q7l G c)) none))]⟩) (k:=1) (e:=22) (sz:=1) (es:=(List.range c).map fun q=>eStrs (T q)) (zs:=[10]) rfl
     (K:=fun s=>s=⟨[(0,.p (.ip b.cells)),(1,.j i),(5,.p (.ip w.cells)),(6,.p .nils),(7,.p (.sl (avP steps))),(10,.p (.sl ((List.range c).map fun q=>eStrs (T q)))),(54,.ext 0 .iter)],[(0,.ext (.iter (keys.map (q7l G c)) none))]⟩) ⟨rfl,rfl⟩
    refine Le.trans (Le.of_eq (by rw[htk];simp)) (hle.trans ?_);exact lM [(2,.own 92 3 [])]) ⟨[],by simp,rfl⟩ ?_
  rintro⟨t,cur,u⟩ ⟨d,H,R⟩;simp only at H R⊢;conv=>whnf
  repeat' ((refine OpK.next rfl rfl rfl (fun y hy=>by obtain⟨z,hz,rfl⟩:=z1z.1 hy;exact Y z (H.subset (z3o _ hz))) (fun hnil=>?_) (fun jj hjj=>?_))<;>conv=>whnf)
  ·obtain rfl:t=[]:=z7g.1 hnil;rw[z2y]at H;have M:u.Perm (keys.flatMap (outN G T l c steps)):=by rw[R];exact H.flatMap_right _
   have hSo:=Dn u (fun s hs=>hOk s (M.subset hs)) (by have:=M.length_eq;omega);have hsl:=S8 M fun s hs=>hOk s (M.subset hs);refine cJ [(1000,2)] 0 hSo ?_;rintro l' H' ⟨rfl,rfl⟩;rw[hsl];conv=>whnf
   skip
   all_goals first
    |exact⟨_,.hd rfl (by rw[<-hsl,z0s,Nf]),rfl⟩
  ·have hjr:jj<t.length:=by simpa using hjj
   rw[T6,z4b];have hp2:(d++[t[jj]]++t.eraseIdx jj).Perm keys:=by
    refine List.Perm.trans ?_ H;rw[z1m];exact List.Perm.append_left _ (Px t jj hjr)
   have hle2:(t.eraseIdx jj).length<t.length:=by rw[List.length_eraseIdx,if_pos hjr];omega
   generalize t[jj]=nm at*
   generalize t.eraseIdx jj=rest2 at*
   have hnk:=Y nm (hp2.subset (by simp));have hCo:=hC (atN G c nm) (fun a ha=>P0 ha) (hAt nm);have Z:=Mk c steps (atN G c nm);have hcr:=fun r hr=>Wl (n:=c) (steps:=steps) (at_:=atN G c nm) (r:=r) hr;have hal:=hAt nm;have hon:outN G T l c steps nm=Ag T l c (atN G c nm) (comC c steps (atN G c nm)) nm:=rfl;have v:(d.flatMap (outN G T l c steps)).length+(outN G T l c steps nm).length<=1000000000:=by
    have h5:=(hp2.flatMap_right (outN G T l c steps)).length_eq;simp only[z3g,z2d,z6w,z2y,z0e]at h5;omega
   unfold q7l;conv=>whnf
   repeat' ((first|(refine iM fun _=>?_)|refine OpK.entry rfl rfl rfl hnk ?_|refine cP hCo ?_)<;>conv=>whnf)
   rw[hon]at v;rw[<-R]at v;have B:outN G T l c steps nm=Ag T l c (atN G c nm) (comC c steps (atN G c nm)) nm:=hon;obtain⟨m,A⟩ : ∃m,m=atN G c nm:=⟨_,rfl⟩;obtain⟨C,hCC⟩ : ∃C,C=comC c steps m:=⟨_,rfl⟩;have hatl:∀a∈m,a<c:=fun a ha=>P0 (A▸ha);rw[<-A]at B v Z hcr hal⊢;rw[<-hCC]at B v Z hcr⊢;have hCm:((avI C).map AV.sl).length=c:=by unfold avI;rw[z0s,z0s,Z]
   obtain⟨ch,hch⟩ : ∃ch:XC,ch=.iter (rest2.map (q7l G c)) (some (q7l G c nm)):=⟨_,rfl⟩;refine lJ (fun q:Nat=>⟨[(0,.p (.ip b.cells)),(1,.j i),(5,.p (.ip w.cells)),(6,.hd 2 0 (u++Ag T l q m C nm).length),(7,.p (.sl (avP steps))),(10,.p (.sl ((List.range c).map fun q=>eStrs (T q)))),(12,.p (.str nm)),(13,.p (.sl (m.map fun a=>.int .i64 (a:Nat)))),(54,.ext 0 .iter),(64,.p (eMat C)),(65,.p (.int .i64 ((avI C).map AV.sl).length)),(66,.j q)],[(0,.ext ch),(2,.own 92 3 ((u++Ag T l q m C nm).map Xx))]⟩) (fun q=>q<=c) (fun q=>c-q) 0 (Le.of_eq (by rw[hch,A];simp[Ag];exact⟨rfl,fun _ _=>rfl,rfl⟩)) (z1q _) ?_;intro q hq;rcases z1w q c with E|E
   ·have Q:=Vk T l q m C nm;have hqC:q<C.length:=by omega
    have hrow:=hcr _ (z1h hqC);have eC:((avI C).map AV.sl)[q]?=some (QG C[q]):=by unfold avI;rw[z1u,z1u,z0c hqC];rfl
    have hge:C.getD q []=C[q]:=by rw[z0a,z0c hqC];rfl
    rw[hge]at Q;have hle3:=x1g T l (Nat.succ_le_of_lt E) m C nm;conv=>whnf
    repeat' ((first|(refine gX ?_;intros)|(apply bD<;>intro _<;>try omega))<;>conv=>whnf)
    have hav:∀h,(avI C)[q]'h=C[q].map (.int .i64):=fun h=>by
     have h2:=eC;rw[z1u,z0c h]at h2;have h3:AV.sl (avI C)[q]=.sl (C[q].map (.int .i64)):=z3q h2;exact AV.sl.inj h3
    simp only[hav];generalize C[q]=row at*
    have hrm:(row.map (AV.int .i64)).length=row.length:=z0s _;have hHs:=V3 (T q) nm (hSr q).1 (by have:=(hSr q).2;omega);have eTk:((List.range c).map fun q=>eStrs (T q))[q]?=some (eStrs (T q)):=by rw[z1u,z5b E];rfl
    have hPq:=hPl q E;obtain⟨g,hgf⟩ : ∃g:Int->List Fl,g=fun f=>if inS (T q) nm=true then [⟨l (m.getD f.toNat 0),l q,nm⟩]else []:=⟨_,rfl⟩;rw[<-hgf]at Q;rw[Q,z0e]at hle3;generalize Ag T l q m C nm=o at*
    refine lJ (fun z:Nat=>⟨[(0,.p (.ip b.cells)),(1,.j i),(5,.p (.ip w.cells)),(6,.hd 2 0 (u++o++(row.take z).flatMap g).length),(7,.p (.sl (avP steps))),(10,.p (.sl ((List.range c).map fun q=>eStrs (T q)))),(12,.p (.str nm)),(13,.p (.sl (m.map fun a=>.int .i64 (a:Nat)))),(14,.j q),(54,.ext 0 .iter),(64,.p (eMat C)),(65,.p (.int .i64 ((avI C).map AV.sl).length)),(66,.j q),(71,.p (QG row)),(72,.p (.int .i64 (row.map (AV.int .i64)).length)),(73,.j z)],[(0,.ext ch),(2,.own 92 3 ((u++o++(row.take z).flatMap g).map Xx))]⟩) (fun z=>z<=row.length) (fun z=>row.length-z) 0 (Le.of_eq (by simp;exact⟨rfl,rfl⟩)) (z1q _) ?_;intro z hz;have hzl:((row.take z).flatMap g).length<=(row.flatMap g).length:=by
     conv=>rhs;rw[<-z6i z row,z3g,z0e]
     omega
    have hall:(u++o++(row.take z).flatMap g).length<=1000000000:=by rw[z0e,z0e];omega
    rcases z1w z row.length with J|J
    ·have V:u++o++(row.take (z+1)).flatMap g=(u++o++(row.take z).flatMap g)++g row[z]:=by rw[z1y J,z3g,z1m,z1m,z1m];simp
     have hfr:=hrow.2 _ (z1h J);obtain⟨fz,hfz⟩ : ∃fz:Nat,row[z]=fz:=⟨row[z].toNat,by omega⟩;rw[hfz]at hfr V;have hfl:fz<m.length:=by omega
     have hgz:g (fz:Int)=if inS (T q) nm=true then [⟨l m[fz],l q,nm⟩]else []:=by rw[hgf];simp only[z3y,z0a,z0c hfl,z2l]
     have eAt:(m.map fun a=>AV.int .i64 (a:Nat))[fz]?=some (.int .i64 (m[fz]:Nat)):=by rw[z1u,z0c hfl];rfl
     have hPa:=hPl _ (hatl _ (z1h hfl));rw[hgz]at V;generalize m[fz]=az at*
     generalize(u++o++(row.take z).flatMap g)=oo at*
     have hom:(oo.map Xx).length=oo.length:=z0s _;cases hin:inS (T q) nm;all_goals
      rw[hin]at hHs V;conv=>whnf
      repeat' ((first|(refine gX ?_;intros)|refine iT eTk ?_|refine IdxK.at (k:=fz) hfz eAt rfl ?_|refine cP hHs ?_|refine cP hPa ?_|refine cP hPq ?_|refine pA 1 32 hom.symm ?_|((first|apply bD|apply bB)<;>intro _<;>try omega))<;>conv=>whnf)
      all_goals first
       |contradiction
       |exact⟨z+1,J,by omega,Le.of_eq (by rw[V];simp<;>exact⟨rfl,rfl⟩)⟩
    ·rw[z1f J,z1m,<-Q];conv=>whnf
     repeat' ((first|refine wI ?_|(apply bD<;>intro _<;>try omega))<;>conv=>whnf)
     all_goals first
      |exact nX (q+1) E
   ·have hqe:q=c:=by omega
    rw[hqe,<-B];conv=>whnf
    repeat' (apply bD<;>intro _<;>first|omega|conv=>whnf)
    all_goals first
     |exact⟨(rest2,some nm,u++outN G T l c steps nm),⟨d++[nm],hp2,by simp only;rw[z3g,<-R];simp⟩,hle2,lE (hH:=.cons rfl (.of_eq (by rw[hch];rfl)) (.cons rfl (.refl _) .nil))⟩
theorem Hs{α β:Type}(f:α->List β)(k:Nat):∀l:List α,(∀x∈l,(f x).length<=k)->(l.flatMap f).length<=l.length*k
 |[],_=>by simp
 | x::r,h=>by
   have m:=h x z1j;have n:=Hs f k r fun y i=>h y (z1x _ i);rw[z2d,z0e,z2k,z3d];omega
def q6v{l:List Str}(m:l.Nodup)(nm:Str)(a:Nat):((l.map fun s=>(s,a)).filter fun x=>decide (x.1=nm)).map Prod.snd=if nm∈l then [a]else []:=by
 induction l with
 |nil=>rfl
 | cons x r q=>
   rw[z2i]at m;rw[z1t,z8z];by_cases h:x=nm
   .subst h;rw[if_pos (by simp),z1t,q m.2,if_neg m.1,if_pos z1j]
   .rw [if_neg (by simpa using h),q m.2];by_cases i:nm∈r
    .rw [if_pos i,if_pos (z1x _ i)]
    .rw [if_neg i,if_neg (by rw[z1g];rintro(n|n);exact h n.symm;exact i n)]
theorem RT{G:Nat->List Str}(i:∀a,(G a).Nodup)(nm:Str):∀n,atN G n nm=(List.range n).filter fun a=>decide (nm∈G a)
 |0=>rfl
 | n+1=>by
   have l:=RT i nm n;unfold atN at l⊢;rw[LU,z2j,z1v,l,q6v (i n),z5m,z2j];congr 1;by_cases h:nm∈G n
   .rw [if_pos h];simp[h]
   .rw [if_neg h];simp[h]
theorem q5q(l:List (Str×Nat)):((mapG l).map Prod.fst).length<=l.length:=by
 have key:∀l:List (Str×Nat),((mapG l.reverse).map Prod.fst).length<=l.length:=fun l=>by
  induction l with
  |nil=>exact z1l _
  | cons x r h=>
    rw[z7x,BK];unfold Lk;rw[U3];split
    ·rw[z2k];omega
    ·simp only[z0e,z2k,z5p];omega
 have:=key l.reverse
 rwa[z7w,List.length_reverse]at this
def q5x(l:List (Str×Nat)){k:Str}(h:k∈(mapG l).map Prod.fst):∃a,(k,a)∈l:=by
 have key:∀l:List (Str×Nat),k∈(mapG l.reverse).map Prod.fst->∃a,(k,a)∈l:=fun l=>by
  induction l with
  |nil=>intro h;cases h
  | cons x r i=>
    rw[z7x,BK];unfold Lk;rw[U3];intro h;have:k∈(mapG r.reverse).map Prod.fst\/k=x.1:=by
     split at h
     .exact .inl h
     .rcases z0o.1 h with h|h
      .exact .inl h
      .exact .inr (z0i.1 h)
    rcases this with h|h
    .obtain ⟨a,ha⟩:=i h;exact⟨a,z1x _ ha⟩
    .exact ⟨x.2,by rw[h];exact z1j⟩
 obtain⟨a,ha⟩:=key l.reverse (by rwa[z7w]);exact⟨a,List.mem_reverse.1 ha⟩
def q0x{G:Nat->List Str}{n:Nat}{k:Str}{a:Nat}(h:(k,a)∈prsG G n):a<n/\k∈G a:=by
 unfold prsG at h;obtain⟨b,i,q⟩:=z1c.1 h;obtain⟨s,m,l⟩:=z1z.1 q;cases l;exact⟨z2h.1 i,m⟩
def q6q(G T:Nat->List Str)(h:Nat->Int)(n:Nat)(steps:List (Int×Int))(nm:Str):(outN G T h n steps nm).length<=n*(atN G n nm).length:=by
 unfold outN;refine z2g (Hs _ (atN G n nm).length _ fun c l=>?_) (by rw[z4q];exact z1l _);refine z2g (Hs _ 1 _ fun f _=>by split<;>simp) ?_;rw[z8b,z0a];cases i:(comC n steps (atN G n nm))[c]?with
 |none=>simp
 |some r=>exact(Wl (z1d i)).1
def x4a{G:Nat->List Str}(h:∀a,(G a).length<=k)(n:Nat):(prsG G n).length<=n*k:=by
 unfold prsG;refine z2g (Hs _ k _ fun a _=>by rw[z0s];exact h a) (by rw[z4q];exact z1l _)
theorem O5{G T:Nat->List Str}{h:Nat->Int}{n:Nat}{steps:List (Int×Int)}(i:n<=202)(s:∀a,(G a).length<=34)(hnd:∀a,(G a).Nodup):(((mapG (prsG G n)).map Prod.fst).flatMap (outN G T h n steps)).length<=1000000000:=by
 have l:=q5q (prsG G n);have m:=x4a s n;have t:=Hs (outN G T h n steps) (202*202) ((mapG (prsG G n)).map Prod.fst) fun nm _=>by
  refine z2g (q6q G T h n steps nm) ?_;have q:(atN G n nm).length<=n:=by
   rw[RT hnd];exact z2g (z2s _ _) (by simp)
  exact z8q i (z2g q i)
 have r:((mapG (prsG G n)).map Prod.fst).length<=202*34:=z2g l (z2g m (z2c _ i));have u:((mapG (prsG G n)).map Prod.fst).length*(202*202)<=(202*34)*(202*202):=z2c _ r;omega
def V2{L:List (List Str)}{Q:List Str->Prop}(l:Q [])(h:∀o∈L,Q o)(i:Nat):Q (L.getD i []):=by
 rw[z0a];cases m:L[i]?with
 |none=>exact l
 |some o=>exact h o (z1d m)
def F0{p:Pg}{i:Nat}{I:List Str}(h:∀d∈D,d.Pairwise ltT)(a:Nat):(El p i f D I a).Pairwise ltT:=by
 unfold El;split
 .exact XB _
 split
 .exact .nil
 cases(QQ p i f).live.getD a false with
 |false=>exact .nil
 |true=>exact V2 .nil h _
def q1m{p:Pg}{i:Nat}{O:List Str}(h:∀d∈U,d.Pairwise ltT)(a:Nat):(q9q p i f U O a).Pairwise ltT:=by
 unfold q9q;split
 .exact XB _
 split
 .exact .nil
 cases(QQ p i f).live.getD a false with
 |false=>exact .nil
 |true=>exact V2 .nil h _
theorem CA{p:Pg}{i:Nat}{I:List Str}(h:∀d∈D,d.length<=34)(m:I.length<=25)(n:f.B.length<=8)(a:Nat):(El p i f D I a).length<=34:=by
 unfold El;split
 ·refine z2g (UL _) ?_;rw[z0e,z0s];omega
 split
 ·simp
 cases(QQ p i f).live.getD a false with
 |false=>simp
 |true=>exact V2 (Q:=fun l=>l.length<=34) (by simp) h _
section
variable {a b:Str}{p:Pg}{j:Nat}{f:Pr}
end
section
variable {a b:Str}{p:Pg}{j:Nat}{f:Pr}
end
theorem count_set{l:List Bool}{k:Nat}(i:k<l.length)(h:l.getD k false=false):(l.set k true).count false+1=l.count false:=by
 rw[z0a,z0c i]at h;have m:l[k]=false:=h;have n:0<l.count false:=List.count_pos_iff.2 (m▸z1h i);rw[List.count_set i,m];simp;omega
theorem NedJ.shutN{p:Pg}{i:Nat}{x:Str}{n:Nat}{a:Int}(t:netR p i f=net)(h:QM p=true)(q:p.A[i]?=some f)(m:NedJ p i f D U o x n a k seen todo)(r:(net.getD a.toNat []).length<=k)(l:hitN p i f U o x a=false):NedI p i f D U o x n seen todo:=by
 subst t;exact m.shut h q r l
theorem NedJ.oldN{p:Pg}{i:Nat}{x:Str}{n:Nat}{a:Int}(q:netR p i f=net)(l:NedJ p i f D U o x n a k seen todo)(m:k<(net.getD a.toNat []).length)(r:seen.getD ((net.getD a.toNat [])[k]).toNat false=true):NedJ p i f D U o x n a (k+1) seen todo:=by
 subst q;exact l.old m r
theorem NedJ.newN{p:Pg}{i:Nat}{x:Str}{n:Nat}{a:Int}(t:netR p i f=net)(l:NedJ p i f D U o x n a k seen todo)(r:k<(net.getD a.toNat []).length){c:Int}(q:c=(net.getD a.toNat [])[k])(u:0<=c/\c<(n:Int))(m:nR p i f D x a c):NedJ p i f D U o x n a (k+1) (seen.set c.toNat true) (todo++[c]):=by
 subst t;exact l.new r q u m
def Pf{s:St}(h:K s):ZE s K:=by
 rw[YJ];exact h
def q0b{T:Tab}{ops:Array Oper}{s:St}(h:K s):run P T N ops [] s K:=h
def q1r{id:Nat}{s:St}(i:info.frz id=[])(h:P6 (info.keep id) s K):Sx info id s K:=by
 unfold Sx;rw[i];show P6 (info.keep id) s fun s=>ZE s K;have e:(fun s=>ZE s K)=K:=funext fun s=>YJ s K;rw[e];exact h
def CU{i:List Nat}{s:St}(s':St)(h:∀K:St->Prop,K s'->P6 i s K)(l:K s'):P6 i s K:=h K l
def AZ{sl:List (Nat×LV)}{d:Nat}{v:LV}{K:List (Nat×LV)->Prop}(i:blt d N=true)(h:K (Uf sl d v)):setD N sl (some d) v K:=by
 show(bif blt d N then x1n sl d v K else False);rw[i,z1n,Zy];exact h
def x3t{T:Tab}{c:Operand}{a b:Code}{K:Exit->St->Prop}{s:St}(h:QR s.sl c=.p (.bool false))(i:W P T N info b K s):W P T N info (.cond c a b) K s:=by
 unfold W;rw[h];exact Br.ff i
def x3s{T:Tab}{c:Operand}{a b:Code}{K:Exit->St->Prop}{s:St}(h:QR s.sl c=.p (.bool true))(ha:W P T N info a K s):W P T N info (.cond c a b) K s:=by
 unfold W;rw[h];exact Br.tt ha
theorem Fv(b:Book)(p:Pg)(h:QM p=true)(i:Nat)(f:Pr)(H:p.A[i]?=some f)(hW:b.ways[i]?=some (QQ p i f))(o:List Str)(hO:b.F[i]?=some o)(ho:o.Pairwise ltT)(hol:o.length<=1000000000)(hDl:b.N.length=(sheetOf p).l.length)(hUl:b.Q.length=(sheetOf p).l.length)(hDr:∀d∈b.N,d.Pairwise ltT/\d.length<=1000000000)(hUr:∀d∈b.Q,d.Pairwise ltT/\d.length<=1000000000)(x:Str):aP 145 [.ip b.cells,.int .i64 i,eMat (netR p i f),.str x] (.bool (C2 p i f b.N b.Q o x)):=by
 refine sC Ua func145 ?_;conv=>whnf
 obtain⟨n,Z⟩ : ∃n,n=QY f.body+2:=⟨_,rfl⟩;have hcn:=(XF h).2.2;obtain⟨_,_,_,hsl,hsp⟩:=QK p;obtain⟨_,_,hle,_⟩:=hsp i f H;have hn200:n<=202:=by omega
 have hg1:(b.ways.map fun w=>AV.ip w.cells)[i]?=some (.ip (QQ p i f).cells):=by rw[z1u,hW];rfl
 have hg2:(b.F.map eStrs)[i]?=some (eStrs o):=by rw[z1u,hO];rfl
 have V:(QQ p i f).n=n:=by rw[Z];rfl
 have hHo:=V3 o x ho hol;have hP:∀a:Int,0<=a/\a<=5000->aP 91 [.ip (QQ p i f).cells,.int .i64 a] (.int .i64 (idN p i f a)):=fun a ha=>JU (QQ p i f) f H (by show cntP p.A<=1000;omega) ⟨by rw[V];omega,by rw[V];omega⟩ a ha;have hNl:(netR p i f).length=n:=by rw[Z];exact D9 _ _
 have hNr:∀a:Nat,a<n->∀c∈(netR p i f).getD a [],nR p i f b.N x a c\/PF p i f b.N x a=false:=fun a ha c u=>by
  have hm:=(Dq fun t ht=>(PB h H t ht).1).1 u;obtain⟨t,ht,h1,h2⟩:=hm;cases hq:PF p i f b.N x a with
  |false=>exact .inr rfl
  |true=>exact .inl ⟨hq,by rw[<-h1,<-h2];exact ht⟩
 have hNi:∀a:Nat,a<n->∀c∈(netR p i f).getD a [],0<=c/\c<(n:Int):=fun a ha c u=>by
  obtain⟨t,ht,_,rfl⟩:=(Dq fun t ht=>(PB h H t ht).1).1 u;have:=(PB h H t ht).2;omega
 have hNc:∀a:Nat,((netR p i f).getD a []).length<=200000:=fun a=>by
  refine z2g (TH _ _ a) ?_;unfold JD;rw[z0s];exact Ws h H
 have hId:∀a:Int,0<a->a<(n:Int)-1->1<=idN p i f a/\(idN p i f a-1).toNat<(sheetOf p).l.length:=fun a h1 h2=>by
  unfold idN QH loI;rw[if_neg (by omega),if_neg (by omega)];omega
 obtain⟨net,q⟩ : ∃net,netR p i f=net:=⟨_,rfl⟩;rw[q]at hNl hNr hNi hNc⊢;generalize QQ p i f=w at hg1 V hP hW;repeat' ((first|refine z1s rfl ?_|refine aD ?_|refine aR ?_|refine iT hg1 ?_|refine z6t n V (by show 1*n<=140737488355328;omega) (by unfold maxLen;omega) ?_|refine z5l (fun x hx=>by rcases z0i.1 hx with rfl;rfl) rfl ?_)<;>conv=>whnf)
 refine lJ (fun y:List Bool×List Int=>⟨[(0,.p (.ip b.cells)),(1,.j i),(2,.p (eMat net)),(3,.p (.str x)),(9,.p (.ip w.cells)),(10,.hd 0 0 n),(11,.hd 1 0 y.2.length)],[(1,.own 3 1 (y.2.map (.int .i64))),(0,.own 4 1 (y.1.map bv))]⟩) (fun y=>NedI p i f b.N b.Q o x n y.1 y.2/\y.2.length+y.1.count false<=n+1) (fun y=>2*y.1.count false+y.2.length) (List.replicate n false,[0]) (Le.of_eq (by rw[z4y];rfl)) ⟨NedI.start n (by omega),by simp;omega⟩ ?_;rintro⟨seen,todo⟩ ⟨g,hc1⟩;simp only at g hc1⊢;rcases z6e todo with rfl|⟨st,a,rfl⟩
 ·have hz:(([]:List Int).length)=0:=rfl;conv=>whnf
  repeat' ((first|(refine iM fun _=>?_)|(apply bD<;>intro _<;>try omega))<;>conv=>whnf)
  all_goals exact RetK.ff (g.stop h H)
 rw[z6a]at g hc1⊢;have hstl:(st++[a]).length=st.length+1:=by simp
 have C:=g.rng a (by simp);have e3:((st++[a]).map (AV.int .i64))[st.length]?=some (.int .i64 a):=by simp
 have hsl2:=g.len;have hway:=g.way a (g.td a (by simp));have hPa:=hP a ⟨C.1,by omega⟩;have v:∀(sl:List (Nat×LV)),Le Tryz.f145.ntmps ⟨sl,[(1,.own 3 1 ((st++[a]).map (.int .i64))),(0,.own 4 1 (seen.map bv))]⟩ ⟨sl,[(1,.own 3 1 (st.map (.int .i64))),(0,.own 4 1 (seen.map bv))]⟩:=fun sl=>Le.cut (.cut ⟨[.int .i64 a],by simp⟩ (.same .nil));have hrow:((avI net).map AV.sl)[a.toNat]?=some (.sl ((net.getD a.toNat []).map (.int .i64))):=by
  have:a.toNat<net.length:=by rw[hNl];omega
  rw[z0a,z0c this];simp[avI,this]
 have hrl:((net.getD a.toNat []).map (AV.int .i64)).length=(net.getD a.toNat []).length:=z0s _;have hcs:a=(n:Int)-1\/(a=0/\¬a=(n:Int)-1)\/(0<a/\¬a=(n:Int)-1):=by omega
 rcases hcs with Y|⟨hz,Y⟩|⟨L,Y⟩
 ·-- the exit
  have m:hitN p i f b.Q o x a=inS o x:=by unfold hitN;rw[<-Z,z2t Y];rfl
  have r:PF p i f b.N x a=false:=by unfold PF;rw[<-Z,z2t Y];rfl
  conv=>whnf
  repeat' ((first|(refine iM fun _=>?_)|refine z1s rfl ?_|refine wI ?_|refine iO st.length ?_|refine lO e3 ?_|refine SlK.mk 0 st.length rfl (by show((st++[a]).length:Int)-1=_;omega) (by omega) (by omega) ?_|refine iT hg2 ?_|refine cP hHo ?_|((first|apply bD|apply bB)<;>intro _<;>try omega))<;>conv=>whnf)
  ·exact RetK.tt ((Q3 h H).2 ⟨a,hway,by rw[m];assumption⟩)
  ·exact⟨(seen,st),⟨g.skip (by rw[m];assumption) r,by simp only;omega⟩,by simp only;omega,(v _).trans (lE)⟩
 ·-- the entry
  have m:hitN p i f b.Q o x a=false:=by unfold hitN;rw[<-Z,z2r Y,z2r (by omega)];rfl
  have r:PF p i f b.N x a=true:=by unfold PF;rw[<-Z,z2r Y,z2r (by omega)];rfl
  conv=>whnf
  repeat' ((first|(refine iM fun _=>?_)|refine z1s rfl ?_|refine wI ?_|refine iO st.length ?_|refine lO e3 ?_|refine SlK.mk 0 st.length rfl (by show((st++[a]).length:Int)-1=_;omega) (by omega) (by omega) ?_|refine iT hrow ?_|(apply bD<;>intro _<;>try omega))<;>conv=>whnf)
  refine lJ (fun y:Nat×List Bool×List Int=>⟨[(0,.p (.ip b.cells)),(1,.j i),(2,.p (eMat net)),(3,.p (.str x)),(9,.p (.ip w.cells)),(10,.hd 0 0 n),(11,.hd 1 0 y.2.2.length),(87,.p (QG (net.getD a.toNat []))),(88,.p (.int .i64 ((net.getD a.toNat []).map (AV.int .i64)).length)),(89,.j y.1)],[(1,.own 3 1 (y.2.2.map (.int .i64))),(0,.own 4 1 (y.2.1.map bv))]⟩) (fun y=>y.1<=(net.getD a.toNat []).length/\NedJ p i f b.N b.Q o x n a y.1 y.2.1 y.2.2/\y.2.2.length+y.2.1.count false<=n/\2*y.2.1.count false+y.2.2.length<=2*seen.count false+st.length) (fun y=>(net.getD a.toNat []).length-y.1) (0,seen,st) ((v _).trans (Le.of_eq rfl)) ⟨z1q _,g.open,by simp only;omega,z1l _⟩ ?_;rintro⟨k,z,td⟩ ⟨h1,B,h3,h4⟩;simp only at h1 B h3 h4⊢;rcases z1w k (net.getD a.toNat []).length with s|s;rotate_left 1
  ·conv=>whnf
   repeat' (apply bD<;>intro _<;>first|omega|conv=>whnf)
   all_goals exact⟨(z,td),⟨B.shutN q h H s m,by simp only;omega⟩,by simp only;omega,lE⟩
  ·obtain⟨c,u⟩ : ∃c,c=(net.getD a.toNat [])[k]:=⟨_,rfl⟩;have E:c∈net.getD a.toNat []:=by rw[u];exact z1h s
   have hcr:=hNi a.toNat (by omega) c E;have hcR:nR p i f b.N x a c:=by
    rcases hNr a.toNat (by omega) c E with M|M
    ·rwa[z5d C.1]at M
    ·rw[z5d C.1,r]at M;cases M
   have hsnl:=B.len;have e:=q7n (l:=z) (i:=c.toNat) (by omega);have e5:((net.getD a.toNat []).map (AV.int .i64))[k]?=some (.int .i64 c):=by rw[z1u,z0c s,<-u];rfl
   cases R:z.getD c.toNat false with
   | true=>
     rw[R]at e;conv=>whnf
     repeat' ((first|(refine gX ?_;intros)|refine iO c.toNat ?_|refine lO e ?_|(apply bD<;>intro _<;>try omega))<;>conv=>whnf)
     all_goals first
       |exact nX (k+1,z,td) ⟨s,B.oldN q s (by rw[<-u];exact R),h3,h4⟩
   | false=>
     rw[R]at e;have hcs:=count_set (l:=z) (k:=c.toNat) (by omega) R;conv=>whnf
     repeat' ((first|(refine gX ?_;intros)|refine iO c.toNat ?_|refine lO e ?_|refine sO .tt e ?_|refine pI ?_|(apply bD<;>intro _<;>try omega))<;>conv=>whnf)
     all_goals first
       |exact⟨(k+1,z.set c.toNat true,td++[c]),⟨s,B.newN q s u hcr hcR,by simp only[z0e,z2w];omega,by simp only[z0e,z2w];omega⟩,by simp only;omega,Le.of_eq (by rw[<-u];simp only[z3w,z1v,z0e];rfl)⟩
 ·-- a statement
  obtain⟨hid1,hid2⟩:=hId a L (by omega);have hgU:(b.Q.map eStrs)[(idN p i f a-1).toNat]?=some (eStrs (DV b.Q (idN p i f a))):=by
   unfold DV;rw[z1u,z0a,z0c (by omega)];rfl
  have hgD:(b.N.map eStrs)[(idN p i f a-1).toNat]?=some (eStrs (DV b.N (idN p i f a))):=by
   unfold DV;rw[z1u,z0a,z0c (by omega)];rfl
  have hrU:(DV b.Q (idN p i f a)).Pairwise ltT/\(DV b.Q (idN p i f a)).length<=1000000000:=by
   unfold DV;rw[z0a,z0c (by omega)];exact hUr _ (z1h _)
  have hrD:(DV b.N (idN p i f a)).Pairwise ltT/\(DV b.N (idN p i f a)).length<=1000000000:=by
   unfold DV;rw[z0a,z0c (by omega)];exact hDr _ (z1h _)
  have hHU:=V3 _ x hrU.1 hrU.2;have hHD:=V3 _ x hrD.1 hrD.2;have G:hitN p i f b.Q o x a=inS (DV b.Q (idN p i f a)) x:=by unfold hitN;rw[<-Z,z2r Y,z2t L];rfl
  have J:PF p i f b.N x a = !inS (DV b.N (idN p i f a)) x:=by unfold PF;rw[<-Z,z2r Y,z2t L];rfl
  generalize idN p i f a=id at*
  generalize DV b.Q id=lu at*
  generalize DV b.N id=ld at*
  conv=>whnf
  repeat' ((first|(refine iM fun _=>?_)|refine z1s rfl ?_|refine wI ?_|refine iO st.length ?_|refine lO e3 ?_|refine SlK.mk 0 st.length rfl (by show((st++[a]).length:Int)-1=_;omega) (by omega) (by omega) ?_|refine cP hPa ?_|refine iT hgU ?_|(apply bD<;>intro _<;>try omega))<;>conv=>whnf)
  refine CallK.pure hHU (.cons (Sub.refl _) (.cons (Sub.refl _) .nil)) ?_;rintro _ rfl;refine AZ (by kernel_rfl) ?_;refine Pf ?_;refine q0b ?_;refine q1r (by kernel_rfl) ?_;refine CU ⟨[(0,.p (.ip b.cells)),(1,.j i),(2,.p (eMat net)),(3,.p (.str x)),(9,.p (.ip w.cells)),(10,.hd 0 0 n),(11,.hd 1 0 st.length),(12,.j a),(13,.j id),(73,.p (.bool (inS lu x)))],[(1,.own 3 1 ((st++[a]).map (.int .i64))),(0,.own 4 1 (seen.map bv))]⟩ (fun K h=>h) ?_;cases hqu:inS lu x;rotate_left
  ·refine x3s rfl ?_;conv=>whnf
   skip
   all_goals exact RetK.tt ((Q3 h H).2 ⟨a,hway,by rw[G,hqu]⟩)
  refine x3t rfl ?_;conv=>whnf
  repeat' ((first|refine wI ?_|refine iT hgD ?_)<;>conv=>whnf)
  refine CallK.pure hHD (.cons (Sub.refl _) (.cons (Sub.refl _) .nil)) ?_;rintro _ rfl;refine AZ (by kernel_rfl) ?_;refine Pf ?_;refine q0b ?_;refine q1r (by kernel_rfl) ?_;refine CU ⟨[(0,.p (.ip b.cells)),(1,.j i),(2,.p (eMat net)),(3,.p (.str x)),(9,.p (.ip w.cells)),(10,.hd 0 0 n),(11,.hd 1 0 st.length),(12,.j a),(83,.p (.bool (inS ld x)))],[(1,.own 3 1 ((st++[a]).map (.int .i64))),(0,.own 4 1 (seen.map bv))]⟩ (fun K h=>h) ?_;have m:hitN p i f b.Q o x a=false:=by rw[G,hqu]
  cases hqd:inS ld x;rotate_left
  ·have r:PF p i f b.N x a=false:=by rw[J,hqd];rfl
   refine x3s rfl ?_;conv=>whnf
   skip
   all_goals exact⟨(seen,st),⟨g.skip m r,by simp only;omega⟩,by simp only;omega,(v _).trans (lE)⟩
  ·have r:PF p i f b.N x a=true:=by rw[J,hqd];rfl
   refine x3t rfl ?_;conv=>whnf
   repeat' ((first|(refine iM fun _=>?_)|refine iT hrow ?_)<;>conv=>whnf)
   refine lJ (fun y:Nat×List Bool×List Int=>⟨[(0,.p (.ip b.cells)),(1,.j i),(2,.p (eMat net)),(3,.p (.str x)),(9,.p (.ip w.cells)),(10,.hd 0 0 n),(11,.hd 1 0 y.2.2.length),(87,.p (QG (net.getD a.toNat []))),(88,.p (.int .i64 ((net.getD a.toNat []).map (AV.int .i64)).length)),(89,.j y.1)],[(1,.own 3 1 (y.2.2.map (.int .i64))),(0,.own 4 1 (y.2.1.map bv))]⟩) (fun y=>y.1<=(net.getD a.toNat []).length/\NedJ p i f b.N b.Q o x n a y.1 y.2.1 y.2.2/\y.2.2.length+y.2.1.count false<=n/\2*y.2.1.count false+y.2.2.length<=2*seen.count false+st.length) (fun y=>(net.getD a.toNat []).length-y.1) (0,seen,st) ((v _).trans (Le.of_eq rfl)) ⟨z1q _,g.open,by simp only;omega,z1l _⟩ ?_;rintro⟨k,z,td⟩ ⟨h1,B,h3,h4⟩;simp only at h1 B h3 h4⊢;rcases z1w k (net.getD a.toNat []).length with s|s;rotate_left 1
   ·conv=>whnf
    repeat' (apply bD<;>intro _<;>first|omega|conv=>whnf)
    all_goals exact⟨(z,td),⟨B.shutN q h H s m,by simp only;omega⟩,by simp only;omega,lE⟩
   ·obtain⟨c,u⟩ : ∃c,c=(net.getD a.toNat [])[k]:=⟨_,rfl⟩;have E:c∈net.getD a.toNat []:=by rw[u];exact z1h s
    have hcr:=hNi a.toNat (by omega) c E;have hcR:nR p i f b.N x a c:=by
     rcases hNr a.toNat (by omega) c E with M|M
     ·rwa[z5d C.1]at M
     ·rw[z5d C.1,r]at M;cases M
    have hsnl:=B.len;have e:=q7n (l:=z) (i:=c.toNat) (by omega);have e5:((net.getD a.toNat []).map (AV.int .i64))[k]?=some (.int .i64 c):=by rw[z1u,z0c s,<-u];rfl
    cases R:z.getD c.toNat false with
    | true=>
      rw[R]at e;conv=>whnf
      repeat' ((first|(refine gX ?_;intros)|refine iO c.toNat ?_|refine lO e ?_|(apply bD<;>intro _<;>try omega))<;>conv=>whnf)
      all_goals first
        |exact nX (k+1,z,td) ⟨s,B.oldN q s (by rw[<-u];exact R),h3,h4⟩
    | false=>
      rw[R]at e;have hcs:=count_set (l:=z) (k:=c.toNat) (by omega) R;conv=>whnf
      repeat' ((first|(refine gX ?_;intros)|refine iO c.toNat ?_|refine lO e ?_|refine sO .tt e ?_|refine pI ?_|(apply bD<;>intro _<;>try omega))<;>conv=>whnf)
      all_goals first
        |exact⟨(k+1,z.set c.toNat true,td++[c]),⟨s,B.newN q s u hcr hcR,by simp only[z0e,z2w];omega,by simp only[z0e,z2w];omega⟩,by simp only;omega,Le.of_eq (by rw[<-u];simp only[z3w,z1v,z0e];rfl)⟩
inductive SlR(g:Nat->Option Nat)(sl:List (Nat×LV)):List (Nat×LV)->Prop
 |nil:SlR g sl []
 |cons {i:Nat} {l:LV} {r:List (Nat×LV)} (h:LSub ((getS sl i).ren g) l) (hr:SlR g sl r):SlR g sl ((i,l)::r)
theorem SlR.r{g:Nat->Option Nat}{sl:List (Nat×LV)}{i:Nat}{r:List (Nat×LV)}(h:SlR g sl r):SlR g sl ((i,(getS sl i).ren g)::r):=.cons (.refl _) h
theorem SlR.get{g:Nat->Option Nat}{sl m:List (Nat×LV)}(h:SlR g sl m)(i:Nat):LSub ((getS sl i).ren g) (getS m i)\/getS m i=.p .any:=by
 induction h with
 |nil=>exact .inr rfl
 | @cons j l r h u t=>
   simp only[getS];by_cases q:j=i
   .subst q;exact .inl (by simpa using h)
   .have:(j==i)=false:=by simp[q]
    simpa[this]using t
def q9g{s s':St}(π:Nat->Nat)(x:∀k,π (π k)=k)(v:∀j,1000<=j->j<2000->π j=j)(hsl:SlR (fun k=>some (π k)) s.sl s'.sl)(hH:∀j c,(j,c)∈s'.H->∃r,(π j,r)∈s.H/\CSub (r.ren fun k=>some (π k)) c)(hnd:(s'.H.map (·.1)).Nodup):Le N s s':=fun σ β a w q=>by
 have A:∀k j,(fun k=>some (π k)) k=some j->(fun j=>β (π j)) j=β k:=fun k j C=>by
  cases C;show β (π (π k))=β k;rw[x]
 have l:∀j∈s'.H.map (·.1),π j∈s.H.map (·.1):=fun j m=>by
  obtain⟨⟨y,c⟩,E,rfl⟩:=z1z.1 m;obtain⟨r,n,_⟩:=hH y c E;exact z1z.2 ⟨_,n,rfl⟩
 refine⟨σ,fun j=>β (π j),⟨q.size,q.defers,fun i=>?_,q.heap.mem,fun j c m=>?_,hnd,fun j m i u b t=>q.heap.apart (π j) (l j m) i u b t,fun j m y g i i' u e b t d=>?_⟩,Mem.le_refl σ,Frm.refl _ _,fun b z n=>absurd z n,fun b ⟨j,m,i,u,t⟩=>.inl ⟨π j,l j m,i,u,t⟩,fun k z n=>?_⟩
 .rcases hsl.get i with h|h
  .exact h.rep ((q.G i).ren A)
  .rw [h];exact .p (.any _)
 .obtain ⟨r,n,B⟩:=hH j c m;exact B _ _ _ _ ((q.heap.chunks (π j) r n).ren (j:=j) A (by show some (π (π j))=some j;rw[x]))
 .have:=q.heap.inj (π j) (l j m) (π y) (l y g) i i' u e b t d;rw[<-x j,this,x]
 .show β (π k)=β k;rw[v k z n]
theorem HQ(l:List Str)(q:l.length<=1000000000):aH 69 [.hd 1000 0 l.length] [(1000,.own 9 1 (l.map .str))] (.p (eStrs (QA l))) []:=by
 have h:=Fu l q;refine⟨h.go,fun σ β w y d g A=>(h.ok σ β w y d g A).mono fun E w' C=>?_⟩;obtain⟨r,u,σ',β',H',B,⟨rfl,rfl⟩,x,v,n⟩:=C;generalize QA l=m at*
 obtain⟨s',rfl,c⟩:=Le.row (N:=1) (s:=⟨[(0,.hd 1000 0 m.length)],[(1000,.own 9 1 (m.map .str))]⟩) (k:=1000) (e:=9) (sz:=1) (es:=m.map .str) (zs:=[0]) rfl (K:=fun s=>s=⟨[(0,.p (eStrs m))],[]⟩)
  ⟨(z0s _).symm,rfl⟩
 obtain⟨σ2,β2,t,z⟩:=c σ' β' {tmps:=#[u],defers:=[]} w' ⟨rfl,rfl,fun i=>by
  match i with
  |0=>simpa[getS]using x
  |i+1=>exact .p (by simpa[getS]using Rep.any _),v⟩
 exact⟨.p (eStrs m),u,σ2,β2,[],B,⟨rfl,rfl⟩,by simpa[getS]using t.G 0,t.heap,n.trans z⟩
def C1(p:Pg)(h i l:LV)(n:Nat):Chunk:=.obj 77 [.p (.ip (sheetOf p).cells),h,i,l,.hd 0 0 n,.hd 1 0 n]
def KC(L:List (List Str)):Chunk:=.own 22 1 (L.map eStrs)
def Nw(p:Pg)(k:Nat):Chunk:=.own 131 1 (((wysB p).take k).map fun w=>.ip w.cells)
theorem IS(n:Nat):ElS (List.replicate n (AV.ofV (.slice none 0 0))) ((List.replicate n ([]:List Str)).map eStrs):=by
 refine⟨by simp,fun m x h=>?_⟩;rw[z4y,z2q]at h;rw[z2q];split at h
 ·cases h;rw[if_pos (by assumption)];refine⟨_,rfl,rfl,fun j c i=>?_⟩
  match j,i with
  |0,i=>cases i;exact⟨_,rfl,Sub.nils⟩
 ·cases h
def x4n{a:AV}{p:Pg}{n:Nat}:
  Le N ⟨[(1,.p a),(3,.ptr 2 0)],[(2,.obj 77 [.p (.ip (sheetOf p).cells),.p (AV.ofS (.slice none 0 0)),.p (AV.ofS (.slice none 0 0)),.p (AV.ofS (.slice none 0 0)),.hd 0 0 n,.hd 1 0 n]),(1,.own 22 1 (List.replicate n (AV.ofV (.slice none 0 0)))),(0,.own 22 1 (List.replicate n (AV.ofV (.slice none 0 0))))]⟩
   ⟨[(1,.p a),(3,.ptr 2 0)],[(3,Nw p 0),(2,C1 p (.hd 3 0 0) (.p .nils) (.p .nils) n),(1,KC (List.replicate n [])),(0,KC (List.replicate n []))]⟩:=by
 refine Le.trans (Le.M (.same (.M (IS n) (.M (IS n) .nil)))) ?_;exact Le.mk [(3,Nw p 0)] (by simp[Chunk.new0,Nw];rfl) (by simp) (by simp) (.r (.r .nil)) (.new z1j (.cons rfl (.obj (.r (.cons (.nil z1j) (.r (.r (.r (.r .nil))))))) (.cons rfl (.refl _) (.cons rfl (.refl _) .nil))))
def x6i(k:Nat):Nat:=if k=0 then 1 else if k=1 then 0 else k
theorem x6c{a:AV}{p:Pg}{n:Nat}:
  Le N ⟨[(1,.p a),(3,.ptr 2 0)],[(2,.obj 77 [.p (.ip (sheetOf p).cells),.p (AV.ofS (.slice none 0 0)),.p (AV.ofS (.slice none 0 0)),.p (AV.ofS (.slice none 0 0)),.hd 1 0 n,.hd 0 0 n]),(1,.own 22 1 (List.replicate n (AV.ofV (.slice none 0 0)))),(0,.own 22 1 (List.replicate n (AV.ofV (.slice none 0 0))))]⟩
   ⟨[(1,.p a),(3,.ptr 2 0)],[(3,Nw p 0),(2,C1 p (.hd 3 0 0) (.p .nils) (.p .nils) n),(1,KC (List.replicate n [])),(0,KC (List.replicate n []))]⟩:=by
 refine Le.trans ?_ x4n;refine q9g x6i (fun k=>by unfold x6i;split<;>(try split)<;>simp_all) (fun j l m=>by unfold x6i;rw[if_neg (by omega),if_neg (by omega)]) (.r (.r .nil)) (fun j c h=>?_) (by simp);rcases z1g.1 h with i|h
 ·cases i;exact⟨_,z1j,CSub.refl _⟩
 rcases z1g.1 h with i|h
 ·cases i;exact⟨_,z1x _ (z1x _ z1j),CSub.refl _⟩
 rcases z1g.1 h with i|h
 ·cases i;exact⟨_,z1x _ z1j,CSub.refl _⟩
 ·cases h
theorem q2u{W:List (List Str)}(h:k<W.length)(i:W.length=O.length):((W.take k++O.drop k).map eStrs).set k (eStrs W[k])=(W.take (k+1)++O.drop (k+1)).map eStrs:=by
 rw[<-z3w,z4o _ _ (by rw[z1r];omega),z1r,show k-min k W.length=0 by omega,z2v (by omega),z5v,z1y h,z1m];rfl
theorem q9z{W:List (List Str)}(h:k<O.length)(i:W.length=O.length):((W.take k++O.drop k).map eStrs)[k]?=some (eStrs O[k]):=by
 rw[z1u,z2f (by rw[z1r];omega),z1r,show k-min k W.length=0 by omega,z3h,z6s,z0c h];rfl
theorem q2v{W:List (List Str)}(h:k<=O.length)(i:W.length=O.length):((W.take k++O.drop k).map eStrs).length=O.length:=by
 rw[z0s,z0e,z1r,z3n];omega
def q9w{W:List (List Str)}(m:k<W.length)(i:k<O.length):decide (W.take (k+1)=O.take (k+1))=(decide (W.take k=O.take k)&&decide (W[k]=O[k])):=by
 rw[z1y m,z1y i,<-Bool.decide_and];refine decide_eq_decide.2 ⟨fun h=>?_,fun h=>by rw[h.1,h.2]⟩;have l:=List.append_inj' h rfl;exact⟨l.1,by simpa using l.2⟩
theorem AC{p:Pg}(i:QM p=true)(h:OkI p I){t:S}(q:t∈WE p):(KA (bkI p I) t).length<=1000000000:=by
 have r:=R6 t;unfold KA;split
 ·rename_i m;have l:=(BZ i q m).2;have u:=HK Ct t.args;have v:t.args.length*1048577<=8*1048577:=z2c _ l;have n:=h.len25 i (caI (bkI p I).s.p t).toNat;have w:(inAt (bkI p I) t).length<=25:=n;simp only[z0e];omega
 ·omega
def q5j{g:FuncId}{args:List LV}{i:Option Nat}{s:St}{avs:List AV}{L:List Str}{nil:Prop}(k:Nat)(r:WD k s=true)(n:SpecH P g (avs.map .p) [] (OneRow (Kh L) nil))(ha:FrzL s.H args avs)(m:nil->setD N s.sl i (.p .nils) fun sl=>K ⟨sl,s.H⟩)(h:setD N s.sl i (.hd k 0 L.length) fun sl=>K ⟨sl,(k,.own 9 1 (L.map .str))::s.H⟩):CallK P N g args i s K:=
 ZV k r n ha m fun q e sz es l=>by
  obtain⟨rfl,rfl,rfl⟩:=l;rw[z0s];exact h
def x4z{H:Heap}{p:Pg}{m q r:LV}{n:Nat}(y:getH H 2=some (C1 p m q r n))(s:Frz H m (.sl ((wysB p).map fun w=>.ip w.cells)))(t:Frz H q (.sl (D.map eStrs)))(u:Frz H r (.sl (U.map eStrs)))(v:Frz H (.hd 0 0 n) (.sl (I.map eStrs)))(x:Frz H (.hd 1 0 n) (.sl (O.map eStrs))):Frz H (.ptr 2 0) (.ip (Book.cells ⟨sheetOf p,wysB p,D,U,I,O⟩)):=
 Frz.ptr (off:=0) (cs:=Book.cells ⟨sheetOf p,wysB p,D,U,I,O⟩) y rfl fun j l c h i=>by
  match j,h,i with
  |0,h,i=>cases h;cases i;exact .p (Sub.refl _)
  |1,h,i=>cases h;cases i;exact s
  |2,h,i=>cases h;cases i;exact t
  |3,h,i=>cases h;cases i;exact u
  |4,h,i=>cases h;cases i;exact v
  |5,h,i=>cases h;cases i;exact x
  |j+6,h,_=>cases h
def Vm{p:Pg}:Nw p p.A.length=.own 131 1 ((wysB p).map fun w=>.ip w.cells):=by
 unfold Nw;rw[z1f (by unfold wysB;rw[z0s,z4q];exact z1l _)]
def U7{p:Pg}:p.A.length=((wysB p).map fun w=>AV.ip w.cells).length:=by
 unfold wysB;rw[z0s,z0s,z4q]
def TE{L:List (List Str)}(h:k<L.length)(i:L[k]=o):KC (L.take (k+1))=.own 22 1 ((L.take k).map eStrs++[eStrs o]):=by
 unfold KC;rw[z1y h,z1v,i];rfl
def Zv:Code->List Code
 |.seq a b=>Zv a++Zv b
 |.cond _ a b=>Zv a++Zv b
 |.block _ b=>Zv b
 |.loop b=>b::Zv b
 |_=>[]
noncomputable def x9n(k:Nat):Code:=(Zv (Tryz.f32.body.getD .skip)).getD k .skip
theorem x1w{p:Pg}(J:QM p=true){R:List (List Str)}(H:OkO p O)(M:D.length=(sheetOf p).l.length)(e:U.length=(sheetOf p).l.length)(hd:∀d∈D,d.Pairwise ltT/\d.length<=1000000000)(hu:∀d∈U,d.Pairwise ltT/\d.length<=1000000000)(hIn:I.length=p.A.length)(hRn:R.length=p.A.length)(hR:∀(k:Nat)(h:k<p.A.length)(h':k<R.length),R[k]=QA (A2 p k p.A[k] D U (O.getD k []))){K:Exit->St->Prop}(hK:∀(m:Bool)(s:St),m=(!decide (R=I))->Le Tryz.f32.ntmps s ⟨[(1,.p (.ip p.cells)),(3,.ptr 2 0),(10,.p (.bool m))],[(5,KC U),(4,KC D),(3,Nw p p.A.length),(2,C1 p (.hd 3 0 p.A.length) (.hd 4 0 D.length) (.hd 5 0 U.length) p.A.length),(1,KC O),(0,KC R)]⟩->K (.exit 12) s):
  LoopK prog tab Tryz.f32.ntmps Bm (x9n 6) K ⟨[(1,.p (.ip p.cells)),(3,.ptr 2 0),(10,.p .ff),(147,.p (.int .i64 (p.A.map fun f=>AV.agg f.cells).length)),(148,.j 0)],[(5,KC U),(4,KC D),(3,Nw p p.A.length),(2,C1 p (.hd 3 0 p.A.length) (.hd 4 0 D.length) (.hd 5 0 (sheetOf p).l.length) p.A.length),(1,KC O),(0,KC I)]⟩:=by
 obtain⟨hg,hpl,hcn⟩:=XF J;have hpm:(p.A.map fun f=>AV.agg f.cells).length=p.A.length:=z0s _;have y:R.length=I.length:=by omega
 have hOn:=H.len;have Z:p.A.length=(O.map eStrs).length:=by rw[z0s,H.len]
 have Q:D.length=(D.map eStrs).length:=by rw[z0s]
 refine lJ (fun x:Nat×Bool=>⟨[(1,.p (.ip p.cells)),(3,.ptr 2 0),(10,.p (.bool x.2)),(147,.p (.int .i64 (p.A.map fun f=>AV.agg f.cells).length)),(148,.j x.1)],[(5,KC U),(4,KC D),(3,Nw p p.A.length),(2,C1 p (.hd 3 0 p.A.length) (.hd 4 0 D.length) (.hd 5 0 (sheetOf p).l.length) p.A.length),(1,KC O),(0,KC (R.take x.1++I.drop x.1))]⟩) (fun x=>x.1<=p.A.length/\x.2 = !decide (R.take x.1=I.take x.1)) (fun x=>p.A.length-x.1) (0,false) (lE (hsl:=.r (.r (.cons (.p (Sub.ff rfl)) (.r (.r .nil)))))) ⟨z1q _,rfl⟩ ?_;rintro⟨k,m⟩ ⟨hk1,t⟩;simp only at hk1 t⊢;rcases z1w k p.A.length with n|n;rotate_left 1
 ·obtain rfl:k=p.A.length:=by omega
  rw[z1f (by omega),z1f (by omega)]at t;rw[z1f (by omega),z1b (by omega),z2y];conv=>whnf
  repeat' (apply bD<;>intro _<;>first|omega|conv=>whnf)
  exact hK m _ t (lE (hH:=.cons rfl (.refl _) (.cons rfl (.refl _) (.cons rfl (.refl _) (.cons rfl (.of_eq (by rw[e])) (.cons rfl (.refl _) (.cons rfl (.refl _) .nil)))))))
 ·have z:p.A[k]?=some p.A[k]:=by simp
  have hpk:=GK z;obtain⟨o,L⟩ : ∃o,O.getD k []=o:=⟨_,rfl⟩;have Y:O[k]?=some o:=by rw[<-L,z0a,z0c (by omega)];rfl
  have u:o.Pairwise ltT:=by rw[<-L];exact YE H.rise k
  have hol25:o.length<=25:=by rw[<-L];exact H.len25 J k
  have G:(wysB p)[k]?=some (QQ p k p.A[k]):=by rw[Ry n,hpk]
  have hN:=fun x=>Fv ⟨sheetOf p,wysB p,D,U,(R).take k++I.drop k,O⟩ p J k p.A[k] z G o Y u (by omega) M e hd hu x;have B:=Me ⟨sheetOf p,wysB p,D,U,(R).take k++I.drop k,O⟩ p rfl J k p.A[k] z G o hN;have v:(R)[k]'(by omega)=QA (A2 p k p.A[k] D U o):=by
   rw[hR k n (by omega),L]
  have hol:(A2 p k p.A[k] D U o).length<=1000000000:=by
   have h1:(A2 p k p.A[k] D U o).length<=(p.C++[VW]).length:=z2s _ _;rw[z0e,z2w]at h1;omega
  have E:SpecH prog 74 ([AV.ip (Book.cells ⟨sheetOf p,wysB p,D,U,(R).take k++I.drop k,O⟩),.int .i64 k].map .p) [] (OneRow (Kh (A2 p k p.A[k] D U o)) False):=B;have q:=q2u (W:=R) (O:=I) (k:=k) (by omega) y;have g:=q9z (W:=R) (O:=I) (k:=k) (by omega) y;have hln:=q2v (W:=R) (O:=I) (k:=k) (by omega) y;have i:=q9w (W:=R) (O:=I) (k:=k) (by omega) (by omega);have w:=VP ((R)[k]'(by omega)) (I[k]'(by omega));rw[v]at w q i;have V:(sheetOf p).l.length=(U.map eStrs).length:=by rw[z0s];omega
  have c:p.A.length=(((R).take k++I.drop k).map eStrs).length:=by rw[hln];omega
  clear B v hN;generalize A2 p k p.A[k] D U o=ol at*
  generalize hdq:decide (QA ol=I[k])=dq at w i;have hdk:decide ((R).take k=I.take k) = !m:=by rw[t,Bool.not_not]
  rw[hdk]at i;cases m<;>cases dq;all_goals
   conv=>whnf
   repeat' ((first|refine gX ?_|refine iO k ?_|refine lO g ?_|refine cP w ?_|refine sO (eStrs (QA ol)) g ?_|((first|apply bD|apply bB)<;>intro _<;>try omega)|refine q5j 6 rfl E (.cons (x4z rfl (.hd (z2b some Vm) U7) (.hd rfl Q) (.hd rfl V) (.hd rfl c) (.hd rfl Z)) (.cons (.p (Sub.refl _)) .nil)) (fun F=>F.elim) ?_|(refine cH [(1000,6)] 0 (HQ ol hol) ?_))<;>conv=>whnf)
  all_goals first
   |exact absurd (show false=true by assumption) (by decide)
   |exact absurd (show true=false by assumption) (by decide)
   |exact⟨(k+1,true),⟨n,by simp only;rw[i];rfl⟩,by simp only;omega,lE (hsl:=.r (.r (.cons (.p (Sub.tt rfl)) (.r (.r .nil))))) (hH:=.cons rfl (.refl _) (.cons rfl (.refl _) (.cons rfl (.refl _) (.cons rfl (.refl _) (.cons rfl (.refl _) (.cons rfl (.of_eq (z2b (Chunk.own 22 1) q)) .nil))))))⟩
   |exact⟨(k+1,true),⟨n,by simp only;rw[i];rfl⟩,by simp only;omega,lE (hH:=.cons rfl (.refl _) (.cons rfl (.refl _) (.cons rfl (.refl _) (.cons rfl (.refl _) (.cons rfl (.refl _) (.cons rfl (.of_eq (z2b (Chunk.own 22 1) q)) .nil))))))⟩
   |exact⟨(k+1,false),⟨n,by simp only;rw[i];rfl⟩,by simp only;omega,lE (hH:=.cons rfl (.refl _) (.cons rfl (.refl _) (.cons rfl (.refl _) (.cons rfl (.refl _) (.cons rfl (.refl _) (.cons rfl (.of_eq (z2b (Chunk.own 22 1) q)) .nil))))))⟩
   |exact⟨(k+1,false),⟨n,by simp only;rw[i];rfl⟩,by simp only;omega,lE (hsl:=.r (.r (.cons (.p (Sub.ff rfl)) (.r (.r .nil))))) (hH:=.cons rfl (.refl _) (.cons rfl (.refl _) (.cons rfl (.refl _) (.cons rfl (.refl _) (.cons rfl (.refl _) (.cons rfl (.of_eq (z2b (Chunk.own 22 1) q)) .nil))))))⟩
def x4m{p:Pg}(h:k<p.A.length)(i:k<(niB p D U O).length):(niB p D U O)[k]=QA (A2 p k p.A[k] D U (O.getD k [])):=by
 have l:k<((List.range p.A.length).map (niA p D U O)).length:=i;show((List.range p.A.length).map (niA p D U O))[k]'l=_;rw[z4b,z7b];unfold niA;rw[GK (z0c h)]
def x4o{p:Pg}:∀(k:Nat)(h:k<p.A.length)(i:k<(rdI p D O I).length),(rdI p D O I)[k]=QA (A2 p k p.A[k] D (usB p I) (O.getD k [])):=fun _ h i=>x4m h i
end Go.Ab
