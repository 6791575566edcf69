/- A map of rows laid by; a map whose values are data, gone through in whatever order. Conditions: the table of types is the program's own. -/
import Derived.Test.YtonbdgcjnecapaaGreatRchR6
import Derived.Test.YtonbdgcjnecapaaGreatRchR17
import Derived.Test.YtonbdgcjnecapaaGreatRchR18
import Derived.Test.YtonbdgcjnecapaaGreatRchR20
import Derived.Test.YtonbdgcjnecapaaGreatRchR21
set_option linter.all false
set_option maxRecDepth 100000
set_option maxHeartbeats 16000000
open Nat (blt)
namespace Go.Ab
open Go.Proofs.Tryz
variable {D U:List (List Str)}{K:St->Prop}{N k:Nat}{P:Program}{f:Pr}{info:Info}{net:List (List Int)}{o:List Str}{seen:List Bool}{todo:List Int}
section
variable {P:Program}{T:Tab}{N:Nat}
def Rs{sl:List (Nat×LV)}(h:(sl.all fun x=>x.2.xfree k)=true)(i:Nat):(getS sl i).xfree k=true:=by
 induction sl with
 |nil=>rfl
 | cons x r m=>
   simp only[List.all_cons,x7i]at h;obtain⟨j,l⟩:=x;simp only[getS];cases j==i
   .exact m h.2
   .exact h.1
def CH{sl:List (Nat×LV)}{H H':Heap}(k:Nat){e sz:Nat}{l:List (List UInt8×List AV)}(hg:getH H k=some (.ext (.mapr e sz l none)))(hpin:ZH k=false)(hsl:(sl.all fun x=>x.2.xfree k)=true)(hH:(H.all fun x=>match x.2 with |.obj _ cs=>LV.xfree.xfreeAll k cs|_=>true)=true)(h':H'=H.map fun x=>bif x.1==k then(k,.ext (IP (l.map fun y=>(y.1,AV.sl y.2))))else x):Le N ⟨sl,H⟩ ⟨sl,H'⟩:=fun σ β a w C=>by
 have Z:=QD hg;have B:H'.map (·.1)=H.map (·.1):=by
  rw[h',z1s];apply z2f;intro x G;simp only[Function.comp];cases h:x.1==k with
  |true=>simp at h;simp[h]
  |false=>rfl
 have hmem:∀j c,(j,c)∈H'->(j=k/\c=.ext (IP (l.map fun y=>(y.1,AV.sl y.2))))\/(j≠k/\(j,c)∈H):=fun j c n=>by
  rw[h']at n;obtain⟨x,G,he⟩:=x7d.1 n;cases h:x.1==k with
  | true=>
    rw[h,x7c]at he;cases he;exact .inl ⟨rfl,rfl⟩
  | false=>
    rw[h,x7o]at he;subst he;exact .inr ⟨by simpa using h,G⟩
 obtain⟨i,es,O,hi,hh,hbo,h1,h2,h3,h4,h5⟩:=C.heap.chunks k _ (QJ hg);let S:Nat->Prop:=fun b=>∃c,some (b,c)∈i.subs;have hrow:∀(p b c:Nat),i.subs[p]?=some (some (b,c))->∃ws,w.heap[b]?=some (.cells ws e (0,0)):=fun p b c A=>by
  have hlt:p<l.length:=by rw[<-h2];exact(x7h.1 A).1
  obtain⟨e',_,_,_,g4⟩:=h5 p _ (x7x hlt);obtain⟨b',c',ws,q1,_,q3,_⟩:=g4 (by simp);rw[A]at q1;cases q1;exact⟨ws,q3⟩
 have R:∀b,S b->∃ws,w.heap[b]?=some (.cells ws e (0,0)):=fun b ⟨c,h⟩=>by
  obtain⟨p,A⟩:=x9c.1 h;exact hrow p b c A
 have t:∀b,S b->i.has b:=fun b h=>.inr h;let τ:Mem:=fun b=>@ite _ (S b) (Classical.propDecidable _) (match w.heap[b]?with
  |some (.cells c _ _)=>some c
  |_=>none) (σ b)
 have M:∀b c e fr,S b->w.heap[b]?=some (.cells c e fr)->τ b=some c:=fun b c e fr h hh=>by
  show @ite _ (S b) (Classical.propDecidable _) _ _=_;rw[if_pos h,hh]
 have z:∀b,¬S b->τ b=σ b:=fun b h=>by
  show @ite _ (S b) (Classical.propDecidable _) _ _=_;rw[if_neg h]
 have I:σ.le τ:=fun b c h=>by
  rw[z b]
  .exact h
  .intro hib;rw[(C.heap.apart k Z i hi b (t b hib)).1]at h;cases h
 let i':BInfo:=⟨i.blk,i.cap,i.sz,[],i.ok⟩;have r:∀j,j≠k->(β.set k (some i')) j=β j:=fun j n=>by simp[Lab.set,n]
 have F:(β.set k (some i')) k=some i':=by simp[Lab.set]
 have hhas:∀b,i'.has b->b=i.blk:=fun b h=>by
  rcases h with h|⟨c,h⟩
  .exact h.symm
  .cases h
 have hblk:¬S i.blk:=fun⟨c,h⟩=>by
  obtain⟨p,A⟩:=x9c.1 h;exact(h4 p _ c A).1 rfl
 have g:∀j∈H.map (·.1),∀J,(β.set k (some i')) j=some J->∀b,J.has b->(∃i0,β j=some i0/\i0.has b)/\¬S b:=fun j hin J n b h=>by
  by_cases s:j=k
  .subst s;rw[F]at n;cases n;obtain rfl:=hhas b h;exact⟨⟨i,hi,i.has_blk⟩,hblk⟩
  .rw [r j s]at n;exact⟨⟨J,n,h⟩,fun L=>s (C.heap.inj j hin k Z J i n hi b h (t b L))⟩
 have q:∀j∈H'.map (·.1),j∈H.map (·.1):=fun j n=>B▸n;refine⟨τ,β.set k (some i'),⟨C.size,C.defers,fun j=>((C.E j).subs (i':=i') hi ⟨rfl,rfl,rfl⟩ (Rs hsl j)).mono I,⟨fun b c h=>?_,fun j c n=>?_,by rw[B];exact C.heap.nodup,fun j n J Y b h=>?_,fun j n j' hj' i1 i2 g1 Q b hb1 hb2=>?_⟩⟩,
  I,Frm.refl _ _,fun b g0 g1=>?_,fun b ⟨j,n,J,Y,h⟩=>?_,fun j g0 g1=>r j (Me hpin j g0 g1)⟩
 .by_cases L:S b
  .obtain ⟨ws,hw⟩:=R b L;rw[M b ws e (0,0) L hw]at h;cases h;exact⟨_,_,hw⟩
  .rw [z b L]at h;exact C.heap.mem b c h
 .rcases hmem j c n with⟨rfl,rfl⟩|⟨s,hm⟩
  .refine ⟨i',es,O,F,hh,hbo,by simpa using h1,fun p x A=>?_⟩;rw[z1s,x7k]at A;cases hq:l[p]?with
   |none=>rw[hq]at A;cases A
   | some y=>
     rw[hq]at A;cases A;obtain⟨e',g1,Q,_,g4⟩:=h5 p y hq;obtain⟨b,c,ws,q1,q2,q3,q4,q5,q6,q7⟩:=g4 (by simp);refine⟨e',g1,Q,?_⟩;show Rep τ (.sl y.2) e'.val;rw[q2];refine .sl y.2 b 0 c sz ws (fun m j=>(ws[m*sz+j]?).getD undef) (M b ws _ _ ⟨c,x7t q1⟩ q3) q5 q6 (fun m x G=>(q7 m x G).1) (fun m x j c' G n=>?_) fun m x j c' G n=>?_
     .obtain ⟨u,r4,_⟩:=(q7 m x G).2 j c' n;simp[r4]
     .obtain ⟨u,r4,r5⟩:=(q7 m x G).2 j c' n;simpa[r4]using r5.mono I
  .have G:=x8a.1 hH (j,c) hm;have v:=(C.heap.chunks j c hm).mono (w':=w) I fun _ _ _ _=>rfl;cases c with
   | obj e' cs=>
     obtain⟨i2,vs2,V,hh2,hn2,hc2⟩:=v;refine⟨i2,vs2,(r j s).trans V,hh2,hn2,fun m l hm=>?_⟩;obtain⟨u,g5,g6⟩:=hc2 m l hm;exact⟨u,g5,g6.subs hi ⟨rfl,rfl,rfl⟩ (YF G m l hm)⟩
   | own e' sz' es'=>
     rcases v with⟨g5,g6⟩|⟨i2,vs2,V,rest⟩
     .exact .inl ⟨(r j s).trans g5,g6⟩
     .exact .inr ⟨i2,vs2,(r j s).trans V,rest⟩
   | ext d=>
     show d.holds τ ((β.set k (some i')) j) w;rw[r j s];exact v
 .obtain ⟨⟨i0,g1,Q⟩,g3⟩:=g j (q j n) J Y b h;rw[z b g3];exact C.heap.apart j (q j n) i0 g1 b Q
 .obtain ⟨⟨i3,q1,q2⟩,_⟩:=g j (q j n) i1 g1 b hb1;obtain⟨⟨i4,q3,q4⟩,_⟩:=g j' (q j' hj') i2 Q b hb2;exact C.heap.inj j (q j n) j' (q j' hj') i3 i4 q1 q3 b q2 q4
 .by_cases L:S b
  .exact .inl ⟨k,Z,i,hi,t b L⟩
  .rw [z b L]at g1;exact absurd g0 g1
 .obtain ⟨⟨i0,g1,Q⟩,_⟩:=g j (q j n) J Y b h;exact .inl ⟨j,q j n,i0,g1,Q⟩
theorem OpK.range(hT:TabOK P T){s:St}{o:Oper}{K:St->Prop}{t:TypeId}{x:Operand}(hop:o.op=.range t x){k:Nat}(hx:QN s.sl x=.ext k .map){l:List (List UInt8×AV)}(hg:getH s.H k=some (.ext (IP l))){i:TyI}{kt et:TypeId}(ht:T.get t=some i)(hd:i.desc=.map kt et)(hpin:ZH k=false)(h:Wm (LV.kill k) s.sl fun sl=>Xl k 99999 (LV.kill k) (.ext (.iter l none)) s.H fun H=>setD N sl o.dst (.ext k .iter) fun sl=>K ⟨sl,H⟩):OpK P N s o K:=by
 refine⟨fun σ β a w G Q=>?_⟩;obtain⟨sl,h,hsl⟩:=ZT (by rfl) h;obtain⟨H2,h,hsub,hmem⟩:=WG h;have hx':=QQ G.E x;rw[hx]at hx';generalize hxe:a.eval x=xv at hx';cases hx' with
 |ext _ _ B _ J hd'=>
 obtain rfl:xv=.map (some B.blk):=hd';obtain⟨bi',es,A,Z,hh,hbo,h1,h2⟩:=G.heap.chunks k _ (QJ hg);rw[J]at Z;cases Z;have R:=QD hg;have hu:=hT.of ht;rw[hd]at hu;let O:Obj:=.mapIter (some B.blk) A #[] A;let i':BInfo:=⟨w.heap.size,0,0,[some (B.blk,0)],x7p _⟩;have y:∀j,j≠k->(β.set k (some i')) j=β j:=fun j C=>by simp[Lab.set,C]
 have r:(β.set k (some i')) k=some i':=by simp[Lab.set]
 have hlt:=(G.heap.apart k R B J B.blk B.has_blk).2;have I:∀b,b<w.heap.size->(w.alloc O).heap[b]?=w.heap[b]?:=fun b q=>(by first|exact heap_alloc_old w O q|exact heap_alloc_old w O b q);have hsize:(w.alloc O).heap.size=w.heap.size+1:=by
  show(w.heap.push O).size=_;simp
 have L:∀b,i'.has b->b=w.heap.size\/b=B.blk:=fun b q=>by
  rcases q with q|⟨c,q⟩
  ·exact .inl q.symm
  ·have q:some (b,c)∈[some (B.blk,0)]:=q;rw[x7y]at q;cases q;exact .inr rfl
 have g:∀j∈H2.map (·.1),j∈s.H.map (·.1):=fun j C=>hsub.subset C;have M:∀j∈s.H.map (·.1),j≠k->∀F,β j=some F->∀b,F.has b->b<w.heap.size:=fun j C _ F m b q=>(G.heap.apart j C F m b q).2;have hrun:(execOp a.eval o).run P w=.ok (.value (.pointer (some ⟨w.heap.size,0,none⟩))) (w.alloc O):=by
  have hr1:(Instr.range t (.map (some B.blk))).run P w=.ok (.pointer (some ⟨w.heap.size,0,none⟩)) (w.alloc O):=by
   unfold Instr.range;simp only[Sem.run_bind,run_underlying hu,Result.andThen_ok,UP hh,Sem.run_pure];rfl
  simp only[execOp,hop,hxe,Sem.run_bind,hr1,Result.andThen_ok];rfl
 have hr2:Rel N σ (β.set k (some i')) ⟨sl,H2⟩ a (w.alloc O):=by
  refine⟨G.size,G.defers,fun j=>?_,⟨fun b c q=>?_,fun j c C=>?_,hsub.nodup G.heap.nodup,fun j C F m b q=>?_,fun j C j' hj' i1 i2 g1 g2 b hb1 hb2=>?_⟩⟩
  ·show RepL _ _ (getS sl j) _;rw[hsl];exact((G.E j).kill k).set _ (LV.kill_free k _)
  ·obtain⟨e,fr,h3⟩:=G.heap.mem b c q;exact⟨e,fr,(I b (x8x.1 h3).1).trans h3⟩
  ·obtain⟨_,⟨rfl,rfl⟩|⟨z,c0,hm,rfl⟩⟩:=hmem j c C
   ·have Y:es.filter (fun x=> !(#[]:Array Nat).contains x.born)=es:=Array.filter_eq_self.2 fun x _=>by simp
    refine⟨i',B.blk,es,A,A,#[],r,rfl,heap_alloc_new w O,(I _ hlt).trans hh,hbo.1,hbo.2,x7s _,by rw[Y];simpa using h1,fun p x hp=>?_,fun x hx=>by cases hx⟩;rw[Y];obtain⟨e,q1,q2,q3⟩:=h2 p (YS x.1,x.2) (by rw[x7k,hp];rfl);exact⟨e,q1,q2,q3⟩
   ·have hjl:j∈s.H.map (·.1):=x7d.2 ⟨_,hm,rfl⟩;exact(G.heap.chunks j c0 hm).mapL (f:=LV.kill k) (Mem.le_refl σ) (fun l v hl=>(hl.kill k).set _ (LV.kill_free k _)) (y j z) fun F m b q=>I b (M j hjl z F m b q)
  ·rw [hsize];by_cases z:j=k
   ·subst z;rw[r]at m;cases m;rcases L b q with rfl|rfl
    ·refine⟨?_,by omega⟩;cases hq:σ w.heap.size with
     |none=>rfl
     | some c=>
       obtain⟨e,fr,h3⟩:=G.heap.mem _ c hq;have:=(x8x.1 h3).1;omega
    ·have:=G.heap.apart _ R B J B.blk B.has_blk;exact⟨this.1,by omega⟩
   ·rw[y j z]at m;have:=G.heap.apart j (g j C) F m b q;exact⟨this.1,by omega⟩
  ·have key:∀j∈s.H.map (·.1),j≠k->∀F,β j=some F->∀b,F.has b->i'.has b->False:=fun j C z F m b q hb'=>by
    rcases L b hb' with rfl|rfl
    ·have:=M j C z F m _ q;omega
    ·exact z (G.heap.inj j C k R F B m J _ q B.has_blk)
   by_cases e1:j=k<;>by_cases e2:j'=k
   ·rw[e1,e2]
   ·subst e1;rw[r]at g1;cases g1;rw[y j' e2]at g2;exact(key j' (g j' hj') e2 i2 g2 b hb2 hb1).elim
   ·subst e2;rw[r]at g2;cases g2;rw[y j e1]at g1;exact(key j (g j C) e1 i1 g1 b hb1 hb2).elim
   ·rw[y j e1]at g1;rw[y j' e2]at g2;exact G.heap.inj j (g j C) j' (g j' hj') i1 i2 g1 g2 b hb1 hb2
 have V:Later σ β s.H w σ (β.set k (some i')) H2 (w.alloc O):=by
  refine⟨Mem.le_refl σ,⟨rfl,rfl,rfl,x7s _,by omega,fun b q _=>I b q⟩,fun b g0 g1=>absurd g0 g1,fun b ⟨j,C,F,m,q⟩=>?_,fun j g0 g1=>y j (Me hpin j g0 g1)⟩;by_cases z:j=k
  ·subst z;rw[r]at m;cases m;rcases L b q with rfl|rfl
   ·exact .inr (x7s _)
   ·exact .inl ⟨_,R,B,J,B.has_blk⟩
  ·rw[y j z]at m;exact .inl ⟨j,g j C,F,m,q⟩
 obtain⟨sl',hK,hr''⟩:=hr2.setD (v:=.ext k .iter) (u:=.pointer (some ⟨w.heap.size,0,none⟩)) (.ext k .iter i' _ r rfl) h;exact XE hrun ⟨σ,_,_,hK,hr'',V⟩
theorem Zs:∀(L:List MapEntry)(j:Nat)(h:j<L.length),(L.map (·.born)).Nodup->L.filter (fun x=>decide (x.born≠L[j].born))=L.eraseIdx j
 | x::r,0,_,hn=>by
   rw[x8v,x8i]at hn;rw[z0j (by simp)];show r.filter _=r;rw[List.filter_eq_self];intro y n;have:y.born≠x.born:=fun i=>hn.1 (i▸z1q n);simpa using this
 | x::r,j+1,h,hn=>by
   rw[x8v,x8i]at hn;have m:j<r.length:=by simpa using h
   have l:x.born≠r[j].born:=fun i=>hn.1 (i▸z1q (x7l m));rw[z0x (by simpa using l)];show x::r.filter _=x::r.eraseIdx j;congr 1;exact Zs r j m hn.2
def Ex(es:Array MapEntry)(seen:Array Nat)(b:Nat):(es.filter fun x=> !(seen.push b).contains x.born).toList=(es.filter fun x=> !seen.contains x.born).toList.filter fun x=>decide (x.born≠b):=by
 rw[z4q,z4q,List.filter_filter];apply List.filter_congr;intro x _;simp only[Array.contains_push,Bool.not_or];rw[Bool.and_comm];congr 1;by_cases h:x.born=b<;>simp[h]
theorem OpK.next{s:St}{o:Oper}{x:Operand}(hop:o.op=.next x false)(hx:QN s.sl x=.ext k .iter){l:List (List UInt8×AV)}{cur:Option (List UInt8×AV)}(hg:getH s.H k=some (.ext (.iter l cur)))(hlen:∀y∈l,y.1.length<=maxLen)(h0:l=[]->setD N s.sl o.dst (.p (.tup [.ff])) fun sl=>K ⟨sl,s.H⟩)(h1:∀(j:Nat)(O:j<l.length),Jq s.H k (.ext (.iter (l.eraseIdx j) (some l[j]))) fun H=>setD N s.sl o.dst (.p (.tup [.tt,.str l[j].1,l[j].2])) fun sl=>K ⟨sl,H⟩):OpK P N s o K:=by
 refine⟨fun σ β a w C Q=>?_⟩;have hx':=QQ C.E x;rw[hx]at hx';generalize hxe:a.eval x=xv at hx';cases hx' with
 |ext _ _ I _ L hd'=>
 obtain rfl:xv=.pointer (some ⟨I.blk,0,none⟩):=hd';obtain⟨bi',m,es,q,t,seen,hbi',hsub,hh,hm,hnd,M,hsc,hsz,hent,hcur⟩:=C.heap.chunks k _ (QJ hg);rw[L]at hbi';cases hbi';have hk1:=QD hg;have hne:I.blk≠m:=fun J=>by rw[<-J,hh]at hm;cases hm
 rcases run_next_at (P:=P) w o.type I.blk m t q seen es q hh hm M hsc with⟨hz,Y⟩|⟨e,J,w1,Z,Y⟩
 .have hl0:l=[]:=x9y (by rw[<-hsz];exact hz);have A:(execOp a.eval o).run P w=.ok (.value (.tuple #[.bool false])) w:=by
   simp only[execOp,hop,hxe,Sem.run_bind,Y,Result.andThen_ok];rfl
  obtain⟨sl,hK,hr'⟩:=C.setD (v:=.p (.tup [.ff])) (u:=.tuple #[.bool false]) (.p (.tup [.ff] #[.bool false] (fun _=>.bool false) rfl (fun j c O=>by
   match j,O with
   |0,O=>rfl
   |j+1,O=>simp at O) fun j c O=>by
   match j,O with
   |0,O=>cases O;exact .ff
   |j+1,O=>simp at O)) (h0 hl0)
  exact XE A ⟨σ,β,_,hK,hr',Later.refl _ _ _ _⟩
 .have hleft:leftOf es seen=es.filter fun x=> !seen.contains x.born:=rfl;rw[hleft]at J;obtain⟨j,R,hje⟩:=x9s.1 J;have hjl:j<l.length:=by rw[<-hsz,<-x9e];exact R
  obtain⟨e2,q1,q2,q3⟩:=hent j _ (x7x hjl);have he2:e2=e:=by
   have q1':(es.filter fun x=> !seen.contains x.born).toList[j]?=some e2:=by rw[z0s];exact q1
   rw[x7x R,hje]at q1';exact(z0m q1').symm
  subst he2;have hmemes:e2∈es.toList:=by
   rw[z4q]at J;exact(x8d.1 J).1
  have h:=h1 j hjl;obtain⟨H',h,g3,g4,g5⟩:=US C.heap.nodup h;have hw1h:w1.heap=w.heap:=by rcases Z with rfl|rfl<;>rfl
  let w':World:=ChangeMaps.setBlock w1 I.blk (.mapIter (some m) t (seen.push e2.born) q);have F:w'.heap=w.heap.setIfInBounds I.blk (.mapIter (some m) t (seen.push e2.born) q):=by
   show w1.heap.setIfInBounds _ _=_;rw[hw1h]
  have hot:∀b,b≠I.blk->w'.heap[b]?=w.heap[b]?:=fun b hb=>by rw[F];exact z1v (z1d hb)
  have hlt:=(C.heap.apart k hk1 I L I.blk I.has_blk).2;have A:(execOp a.eval o).run P w=.ok (.value (.tuple #[.bool true,e2.key,e2.val])) w':=by
   simp only[execOp,hop,hxe,Sem.run_bind,Y,Result.andThen_ok];rfl
  have hborns:((es.filter fun x=> !seen.contains x.born).toList.map (·.born)).Nodup:=by
   rw[z4q];exact(List.filter_sublist.map _).nodup hnd
  have B:(es.filter fun x=> !(seen.push e2.born).contains x.born).toList=(es.filter fun x=> !seen.contains x.born).toList.eraseIdx j:=by
   rw[Ex];have:=Zs _ j R hborns;rw[hje]at this;exact this
  have hheap:HRel σ β H' w':=by
   refine⟨fun b c hb=>?_,fun j' c z=>?_,by rw[g3];exact C.heap.nodup,fun j' z i' hi' b hb=>?_,fun j' z j'' hj''=>C.heap.inj j' (g3▸z) j'' (g3▸hj'')⟩
   .obtain ⟨e',fr,h6⟩:=C.heap.mem b c hb;exact⟨e',fr,(hot b fun J=>by rw[J,hh]at h6;cases h6).trans h6⟩
   .by_cases hjk:j'=k
    .subst hjk;rw[g5 c z];refine⟨I,m,es,q,t,seen.push e2.born,L,hsub,by rw[F];simp[hlt],(hot m (z1d hne)).trans hm,hnd,M,hsc,?_,fun p y hp=>?_,fun y hy=>?_⟩
     .rw [<-x9e,B,List.length_eraseIdx,List.length_eraseIdx,x9e,hsz]
     .have G:(l.eraseIdx j)[p]?=some y:=hp;rw[List.getElem?_eraseIdx]at G;have key:∀p',l[p']?=some y->∃e:MapEntry,(es.filter fun x=> !seen.contains x.born).toList[p']?=some e/\e.key=.string ⟨y.1.toArray⟩/\Rep σ y.2 e.val:=fun p' G=>by
       obtain⟨e,r1,r2,r3⟩:=hent p' y G;exact⟨e,by rw[z0s];exact r1,r2,r3⟩
      have hget:(es.filter fun x=> !(seen.push e2.born).contains x.born)[p]?=((es.filter fun x=> !seen.contains x.born).toList.eraseIdx j)[p]?:=by
       rw[<-B,z0s]
      rw[hget,List.getElem?_eraseIdx];split at G
      .rename_i V;rw[if_pos V];exact key p G
      .rename_i V;rw[if_neg V];exact key (p+1) G
     .cases hy;exact⟨e2,hmemes,seen,rfl,q2,q3⟩
    .have hm':=g4 j' c z hjk;exact(C.heap.chunks j' c hm').mono (Mem.le_refl σ) fun i' hi' b hb=>hot b fun J=>hjk (C.heap.inj j' (x7d.2 ⟨_,hm',rfl⟩) k hk1 i' I hi' L b hb (.inl J.symm))
   .have hsz':w'.heap.size=w.heap.size:=by rw[F];simp
    rw[hsz'];exact C.heap.apart j' (g3▸z) i' hi' b hb
  have hkl:l[j].1.length<=maxLen:=hlen _ (x7l hjl);have hr1:Rel N σ β ⟨s.sl,H'⟩ a w':=⟨C.size,C.defers,C.E,hheap⟩;obtain⟨sl,hK,hr'⟩:=hr1.setD (v:=.p (.tup [.tt,.str l[j].1,l[j].2])) (u:=.tuple #[.bool true,e2.key,e2.val]) (.p (.tup [.tt,.str l[j].1,l[j].2] #[.bool true,e2.key,e2.val] (fun i=>(#[.bool true,e2.key,e2.val]:Array Value).getD i undef) rfl (fun i c g=>by
   match i,g with
   |0,g=>rfl
   |1,g=>rfl
   |2,g=>rfl
   |i+3,g=>simp at g) fun i c g=>by
   match i,g with
   |0,g=>cases g;exact .tt
   |1,g=>cases g;show Rep σ _ e2.key;rw[q2];exact .str _ hkl
   |2,g=>cases g;exact q3
   |i+3,g=>simp at g)) h
  refine XE A ⟨σ,β,_,hK,hr',Mem.le_refl σ,⟨?_,?_,?_,?_,by rw[F];simp,fun b _ hn=>hot b fun J=>hn ⟨k,hk1,I,L,.inl J.symm⟩⟩,fun b g0 g1=>absurd g0 g1,fun b ⟨j',z,r⟩=>.inl ⟨j',g3▸z,r⟩,fun _ _ _=>rfl⟩
  .rcases Z with rfl|rfl<;>rfl
  .rcases Z with rfl|rfl<;>rfl
  .rcases Z with rfl|rfl<;>rfl
  .rcases Z with rfl|rfl
   .exact x7s _
   .exact z4v _
theorem OpK.entry{s:St}{o:Oper}{x:Operand}(O:o.op=.entry x)(hx:QN s.sl x=.ext k .iter){l:List (List UInt8×AV)}{y:List UInt8×AV}(hg:getH s.H k=some (.ext (.iter l (some y))))(F:y.1.length<=maxLen)(h:setD N s.sl o.dst (.p (.tup [.str y.1,y.2])) fun sl=>K ⟨sl,s.H⟩):OpK P N s o K:=by
 refine⟨fun σ β a w R Q=>?_⟩;have g:=QQ R.E x;rw[hx]at g;generalize Y:a.eval x=xv at g;cases g with
 |ext _ _ Z _ I L=>
 obtain rfl:xv=.pointer (some ⟨Z.blk,0,none⟩):=L;obtain⟨bi',m,es,t,B,seen,r,hsub,hh,hm,M,J,hsc,hsz,hent,C⟩:=R.heap.chunks k _ (QJ hg);rw[I]at r;cases r;obtain⟨e,he,A,rfl,q2,q3⟩:=C y rfl;have G:=run_entry_at (P:=P) w Z.blk m B A es t e hh hm he M;have z:(execOp a.eval o).run P w=.ok (.value (.tuple #[e.key,e.val])) w:=by
  simp only[execOp,O,Y,Sem.run_bind,G,Result.andThen_ok];rfl
 obtain⟨sl,hK,V⟩:=R.setD (v:=.p (.tup [.str y.1,y.2])) (u:=.tuple #[e.key,e.val]) (.p (.tup [.str y.1,y.2] #[e.key,e.val] (fun i=>(#[e.key,e.val]:Array Value).getD i undef) rfl (fun i c q=>by
  match i,q with
  |0,q=>rfl
  |1,q=>rfl
  |i+2,q=>simp at q) fun i c q=>by
  match i,q with
  |0,q=>cases q;show Rep σ _ e.key;rw[q2];exact .str _ F
  |1,q=>cases q;exact q3
  |i+2,q=>simp at q)) h
 exact XE z ⟨σ,β,_,hK,V,Later.refl _ _ _ _⟩
end
open Go.Proofs
def atN(G:Nat->List Str)(n:Nat)(h:Str):List Nat:=((prsG G n).filter fun x=>decide (x.1=h)).map Prod.snd
def q2s(G:Nat->List Str)(n:Nat)(h:Str):Str×AV:=(h,.sl ((atN G n h).map fun a=>.int .i64 (a:Nat)))
noncomputable def outN(G T:Nat->List Str)(h:Nat->Int)(n:Nat)(steps:List (Int×Int))(i:Str):List Fl:=(List.range n).flatMap fun c=>((comC n steps (atN G n i)).getD c []).flatMap fun f=>if inS (T c) i=true then [⟨h ((atN G n i).getD f.toNat 0),h c,i⟩]else []
structure FlB(b:Book)(i:Nat)(w:Way)(n:Nat)(L:List Step)(steps:List (Int×Int))(G T:Nat->List Str)(plc:Nat->Int):Prop where
 hW:b.ways[i]?=some w
 hn:n<=5000
 hwn:w.n=n
 dat:SpecP prog 111 [.ip w.cells] (fun r=>r=eSteps L)
 prs:SpecP prog 110 [.ip w.cells,eSteps L] (fun r=>r=.sl (avP steps))
 giv:SpecH prog 102 [.p (.ip b.cells),.j i] [] (fun r H=>r=.tup [.ext 0 .map,.p (.int .i64 (prsG G n).length)]/\H=[(0,.ext (.mapr 3 1 (mapG (prsG G n)) none))])
 tak:∀c,c<n->SpecP prog 112 [.ip b.cells,.int .i64 i,.int .i64 c] (fun r=>r=eStrs (T c))
 com:∀at_:List Nat,(∀a∈at_,a<n)->at_.length<=5000->SpecP prog 113 [.ip b.cells,.int .i64 i,.sl (avP steps),.sl (at_.map fun a=>.int .i64 (a:Nat))] (fun r=>r=eMat (comC n steps at_))
 place:∀c,c<n->SpecP prog 65 [.ip w.cells,.int .i64 c] (fun r=>r=.int .i64 (plc c))
 srt:∀c,(T c).Pairwise ltT/\(T c).length<=1000000
 ok:∀s∈((mapG (prsG G n)).map Prod.fst).flatMap (outN G T plc n steps),okFl s
 cnt:(((mapG (prsG G n)).map Prod.fst).flatMap (outN G T plc n steps)).length<=1000000000
 atl:∀nm,(atN G n nm).length<=5000
 key:∀y:Str,y∈(mapG (prsG G n)).map Prod.fst->y.length<=maxLen
theorem OpK.le{s s':St}{o:Oper}(l:Le N s s')(h:OpK P N s' o K):OpK P N s o K:=⟨fun σ β a w u Q=>by
 obtain⟨σ1,β1,q,i⟩:=l σ β a w u;exact Oper.wp_mono (fun x w' ⟨σ',β',v,r,m,t⟩=>⟨σ',β',v,r,m,i.trans t⟩) (h.1 σ1 β1 a w q Q)⟩
def tkA(T:Nat->List Str)(n c:Nat):List AV:=((List.range c).map fun q=>eStrs (T q))++List.replicate (n-c) .nils
def Dc(T:Nat->List Str)(n:Nat):tkA T n 0=List.replicate n .nils:=by unfold tkA;simp
theorem Ir(T:Nat->List Str){n c:Nat}(h:c<=n):(tkA T n c).length=n:=by unfold tkA;simp;omega
theorem It(T:Nat->List Str){n c:Nat}(h:c<n):(tkA T n c).set c (eStrs (T c))=tkA T n (c+1):=by
 unfold tkA;rw[z1x _ _ (by simp),x7z,x9t,z1a,show n-c=(n-(c+1))+1 by omega,z1i,z1g,z1c,x7n,x8w];rfl
theorem Il(T:Nat->List Str){n c:Nat}(h:c<n):(tkA T n c)[c]?=some .nils:=by
 unfold tkA;rw[x8f (by simp),x7z,x9t,z1a,x8g];simp;omega
def Te(T:Nat->List Str)(h:Nat->Int)(n:Nat)(at_:List Nat)(C:List (List Int))(i:Str):List Fl:=(List.range n).flatMap fun c=>(C.getD c []).flatMap fun f=>if inS (T c) i=true then [⟨h (at_.getD f.toNat 0),h c,i⟩]else []
def Q4(T:Nat->List Str)(h:Nat->Int)(q:Nat)(at_:List Nat)(C:List (List Int))(i:Str):Te T h (q+1) at_ C i=Te T h q at_ C i++(C.getD q []).flatMap fun f=>if inS (T q) i=true then [⟨h (at_.getD f.toNat 0),h q,i⟩]else []:=by
 unfold Te;rw[z1c,z1b];simp
theorem q6m(T:Nat->List Str)(i:Nat->Int){q c:Nat}(h:q<=c)(at_:List Nat)(C:List (List Int))(m:Str):(Te T i q at_ C m).length<=(Te T i c at_ C m).length:=by
 induction c with
 | zero=>
   obtain rfl:q=0:=by omega
   exact x7s _
 | succ c n=>
   rcases x7m c q with l|l
   ·obtain rfl:q=c+1:=by omega
    exact x7s _
   ·rw[Q4,x7u];have:=n l;omega
def A0{G:Nat->List Str}{n:Nat}{m:Str}{a:Nat}(h:a∈atN G n m):a<n:=by
 unfold atN prsG at h;obtain⟨x,i,rfl⟩:=x7d.1 h;obtain⟨b,l,i⟩:=x8h.1 (x8d.1 i).1;obtain⟨s,_,rfl⟩:=x7d.1 i;exact x8n.1 l
def Qk{l:List (Str×List AV)}{k:Str}{v:List AV}:(PB l k v).map Prod.fst=if k∈l.map Prod.fst then l.map Prod.fst else l.map Prod.fst++[k]:=by
 induction l with
 |nil=>rw[PB];rfl
 | cons x r n=>
   rw[PB];by_cases h:k=x.1
   .rw [if_pos h,x8v,x8v,if_pos (by rw[h];exact x7v)]
   .rw [if_neg h,x8v,x8v,n];by_cases i:k∈r.map Prod.fst
    .rw [if_pos i,if_pos (x7j _ i)]
    .rw [if_neg i,if_neg (by rw[x7f];rintro(m|m);exact h m;exact i m)];rfl
def q6w(l:List (Str×Nat)):((mapG l).map Prod.fst).Nodup:=by
 have key:∀l:List (Str×Nat),((mapG l.reverse).map Prod.fst).Nodup:=fun l=>by
  induction l with
  |nil=>exact z3c
  | cons x r i=>
    rw[z3m,GY];unfold Dy;rw[Qk];split
    .exact i
    .rename_i h;rw[x9k];exact⟨i,by simp,fun a ha b m e=>h (by rw[<-x7y.1 m,<-e];exact ha)⟩
 have:=key l.reverse
 rwa[z2o]at this
def q0u{l:List (Str×List AV)}(i:(l.map Prod.fst).Nodup){y:Str×List AV}(h:y∈l):Bv l y.1=y.2:=by
 induction l with
 |nil=>cases h
 | cons x r m=>
   rw[x8v,x8i]at i;unfold Bv L5;rw[z2y];rcases x7f.1 h with rfl|h
   .simp
   .have:¬y.1=x.1:=fun e=>i.1 (by rw[<-e];exact z1q h);rw[x9m this];exact m i.2 h
def q9u(G:Nat->List Str)(n:Nat):(mapG (prsG G n)).map (fun y=>(y.1,AV.sl y.2))=((mapG (prsG G n)).map Prod.fst).map (q2s G n):=by
 rw[z1s];refine z2f fun y h=>?_;have:=q0u (q6w (prsG G n)) h;rw[Tl]at this;show(y.1,AV.sl y.2)=(y.1,AV.sl ((atN G n y.1).map fun a=>.int .i64 (a:Nat)));rw[<-this];unfold atN;rw[z1s];rfl
theorem Ki{α:Type}:∀(l:List α)(k:Nat)(h:k<l.length),(l[k]::l.eraseIdx k).Perm l
 |x::r,0,_=>by rw[List.eraseIdx_cons_zero];exact .refl _
 | x::r,k+1,h=>by
   rw[List.eraseIdx_cons_succ,List.getElem_cons_succ];exact(List.Perm.swap _ _ _).trans (.cons _ (Ki r k (by simpa using h)))
theorem Pm{α β:Type}(f:α->β):∀(l:List α)(k:Nat),(l.map f).eraseIdx k=(l.eraseIdx k).map f
 |[],_=>rfl
 |_::_,0=>rfl
 |x::r,k+1=>by rw[x8v,List.eraseIdx_cons_succ,List.eraseIdx_cons_succ,x8v,Pm f r k]
theorem Ue(b:Book)(i:Nat)(w:Way)(n:Nat)(L:List Step)(steps:List (Int×Int))(G T:Nat->List Str)(l:Nat->Int)(F:FlB b i w n L steps G T l):SpecP prog 57 [.ip b.cells,.int .i64 i] (fun r=>r=.sl ((JX (((mapG (prsG G n)).map Prod.fst).flatMap (outN G T l n steps))).map Za)):=by
 refine sB Qt func57 rfl call57 ?_;conv=>whnf
 obtain⟨hW,hn,hwn,hD,hP,hGv,hT,hC,hPl,hSr,hOk,hCn,hAt,R⟩:=F;have hky:∀y∈(mapG (prsG G n)).map (fun y=>(y.1,AV.sl y.2)),y.1.length<=maxLen:=fun y hy=>by
  obtain⟨z,hz,rfl⟩:=x7d.1 hy;exact R z.1 (z1q hz)
 have hg2:(b.ways.map fun w=>AV.ip w.cells)[i]?=some (.ip w.cells):=by rw[x7k,hW];rfl
 repeat' (first|((first|(refine iM fun _=>?_)|refine aR ?_|(refine IdxK.at (k:=i) rfl hg2 rfl ?_)|refine z2b n (by omega) (by show 24*_<=140737488355328;omega) (by unfold maxLen;omega) ?_|refine cP hD ?_|refine cP hP ?_);conv=>whnf)|(refine cH [] 0 hGv ?_ (hH:=z0z);conv=>whnf))
 refine LoopK.inv QV (fun c:Nat=>⟨[(0,.p (.ip b.cells)),(1,.j i),(5,.p (.ip w.cells)),(6,.p .nils),(7,.p (.sl (avP steps))),(8,.ext 0 .map),(10,.hd 1 0 n),(41,.j n),(42,.j c)],[(1,.own 22 1 (tkA T n c)),(0,.ext (.mapr 3 1 (mapG (prsG G n)) none))]⟩) (fun c=>c<=n) (fun c=>n-c) 0 (Le.of_eq (by rw[Dc];rfl)) (x7p _) ?_;intro c hc;have htl:=Ir T hc;rcases x7m c n with h1|h1
 ·have hTc:=hT c h1;have hst:=It T h1;have eT:=Il T h1;generalize tkA T n c=tk at*
  conv=>whnf
  repeat' (first|((first|refine x7g rfl ?_|refine wI ?_|refine x8p c rfl (by omega) ?_|refine cP hTc ?_|refine z0d c 0 .nils (eStrs (T c)) (by omega) eT (x7s 1) rfl ?_);conv=>whnf)|(apply bD<;>intro _<;>first|omega|conv=>whnf))
  all_goals first
   |exact⟨c+1,h1,by omega,Le.of_eq (by rw[<-hst];rfl)⟩
 ·obtain rfl:c=n:=by omega
  conv=>whnf
  repeat' (first|(refine OpK.le (CH 0 rfl rfl rfl rfl rfl) (OpK.range QV rfl rfl rfl rfl rfl rfl ?_);conv=>whnf)|(apply bD<;>intro _<;>first|omega|conv=>whnf))
  have htk:tkA T c c=(List.range c).map fun q=>eStrs (T q):=by unfold tkA;simp
  rw[q9u];generalize hks:(mapG (prsG G c)).map Prod.fst=keys at*
  refine LoopK.inv QV (fun x:List Str×Option Str×List Fl=>⟨[(0,.p (.ip b.cells)),(1,.j i),(5,.p (.ip w.cells)),(6,.hd 2 0 x.2.2.length),(7,.p (.sl (avP steps))),(10,.p (.sl ((List.range c).map fun q=>eStrs (T q)))),(54,.ext 0 .iter)],[(0,.ext (.iter (x.1.map (q2s G c)) (x.2.1.map (q2s G c)))),(2,.own 107 3 (x.2.2.map Za))]⟩) (fun x=>∃d,(d++x.1).Perm keys/\x.2.2=d.flatMap (outN G T l c steps)) (fun x=>x.1.length) (keys,none,[])
   (by
     obtain⟨s',rfl,hle⟩:=Le.row (N:=Tryz.f57.ntmps) (s:=⟨[(0,.p (.ip b.cells)),(1,.j i),(5,.p (.ip w.cells)),(6,.p .nils),(7,.p (.sl (avP steps))),(10,.hd 1 0 ((List.range c).map fun q=>eStrs (T q)).length),(54,.ext 0 .iter)],[(1,.own 22 1 ((List.range c).map fun q=>eStrs (T q))),(0,.ext (.iter (keys.map (q2s G c)) none))]⟩) (k:=1) (e:=22) (sz:=1) (es:=(List.range c).map fun q=>eStrs (T q)) (zs:=[10]) rfl
      (K:=fun s=>s=⟨[(0,.p (.ip b.cells)),(1,.j i),(5,.p (.ip w.cells)),(6,.p .nils),(7,.p (.sl (avP steps))),(10,.p (.sl ((List.range c).map fun q=>eStrs (T q)))),(54,.ext 0 .iter)],[(0,.ext (.iter (keys.map (q2s G c)) none))]⟩) ⟨rfl,rfl⟩
     refine Le.trans (Le.of_eq (by rw[htk];simp)) (hle.trans ?_);exact Le.mk [(2,.own 107 3 [])] (by simp[Chunk.new0];rfl) (by simp) (by simp) (.r (.r (.r (.cons (.nil x7v) (.r (.r (.r .nil))))))) (.cons rfl (.refl _) (.new x7v .nil))) ⟨[],by simp,rfl⟩ ?_
  rintro⟨t,cur,u⟩ ⟨d,H,O⟩;simp only at H O⊢;conv=>whnf
  repeat' (refine OpK.next rfl rfl rfl (fun y hy=>by obtain⟨z,hz,rfl⟩:=x7d.1 hy;exact R z (H.subset (x8s _ hz))) (fun hnil=>?_) (fun jj hjj=>?_);conv=>whnf)
  ·obtain rfl:t=[]:=z3z.1 hnil;rw[x9q]at H;have J:u.Perm (keys.flatMap (outN G T l c steps)):=by rw[O];exact H.flatMap_right _
   have hSo:=Jz u (fun s hs=>hOk s (J.subset hs)) (by have:=J.length_eq;omega);have hsl:=Md J fun s hs=>hOk s (J.subset hs);refine cJ [(1000,2)] 0 hSo ?_;rintro l' H' ⟨rfl,rfl⟩;rw[hsl];conv=>whnf
   skip
   all_goals first
    |exact⟨_,.hd rfl (by rw[<-hsl,x7z,Hw]),rfl⟩
  ·have hjr:jj<t.length:=by simpa using hjj
   rw[Pm,z1h];have hp2:(d++[t[jj]]++t.eraseIdx jj).Perm keys:=by
    refine List.Perm.trans ?_ H;rw[x8w];exact List.Perm.append_left _ (Ki t jj hjr)
   have hle2:(t.eraseIdx jj).length<t.length:=by rw[List.length_eraseIdx,if_pos hjr];omega
   generalize t[jj]=nm at*
   generalize t.eraseIdx jj=rest2 at*
   have hnk:=R nm (hp2.subset (by simp));have hCo:=hC (atN G c nm) (fun a ha=>A0 ha) (hAt nm);have V:=Fz c steps (atN G c nm);have Y:=fun r hr=>Fw (n:=c) (steps:=steps) (at_:=atN G c nm) (r:=r) hr;have hal:=hAt nm;have hon:outN G T l c steps nm=Te T l c (atN G c nm) (comC c steps (atN G c nm)) nm:=rfl;have v:(d.flatMap (outN G T l c steps)).length+(outN G T l c steps nm).length<=1000000000:=by
    have h5:=(hp2.flatMap_right (outN G T l c steps)).length_eq;simp only[z1b,x9v,z3i,x9q,x7u]at h5;omega
   unfold q2s;conv=>whnf
   repeat' ((first|(refine iM fun _=>?_)|refine OpK.entry rfl rfl rfl hnk ?_|refine cP hCo ?_);conv=>whnf)
   rw[hon]at v;rw[<-O]at v;have B:outN G T l c steps nm=Te T l c (atN G c nm) (comC c steps (atN G c nm)) nm:=hon;obtain⟨m,A⟩ : ∃m,m=atN G c nm:=⟨_,rfl⟩;obtain⟨C,hCC⟩ : ∃C,C=comC c steps m:=⟨_,rfl⟩;have hatl:∀a∈m,a<c:=fun a ha=>A0 (A▸ha);rw[<-A]at B v V Y hal⊢;rw[<-hCC]at B v V Y⊢;have hCm:((avI C).map AV.sl).length=c:=by unfold avI;rw[x7z,x7z,V]
   obtain⟨ch,hch⟩ : ∃ch:XC,ch=.iter (rest2.map (q2s G c)) (some (q2s G c nm)):=⟨_,rfl⟩;refine LoopK.inv QV (fun q:Nat=>⟨[(0,.p (.ip b.cells)),(1,.j i),(5,.p (.ip w.cells)),(6,.hd 2 0 (u++Te T l q m C nm).length),(7,.p (.sl (avP steps))),(10,.p (.sl ((List.range c).map fun q=>eStrs (T q)))),(12,.p (.str nm)),(13,.p (.sl (m.map fun a=>.int .i64 (a:Nat)))),(54,.ext 0 .iter),(64,.p (eMat C)),(65,.p (.int .i64 ((avI C).map AV.sl).length)),(66,.j q)],[(0,.ext ch),(2,.own 107 3 ((u++Te T l q m C nm).map Za))]⟩) (fun q=>q<=c) (fun q=>c-q) 0 (Le.of_eq (by rw[hch,A];simp[Te];exact⟨rfl,fun _ _=>rfl,rfl⟩)) (x7p _) ?_;intro q hq;rcases x7m q c with E|E
   ·have M:=Q4 T l q m C nm;have hqC:q<C.length:=by omega
    have hrow:=Y _ (x7l hqC);have eC:((avI C).map AV.sl)[q]?=some (QB C[q]):=by unfold avI;rw[x7k,x7k,x7x hqC];rfl
    have hge:C.getD q []=C[q]:=by rw[x7w,x7x hqC];rfl
    rw[hge]at M;have hle3:=q6m T l (Nat.succ_le_of_lt E) m C nm;conv=>whnf
    repeat' (first|((first|(refine iM fun _=>?_)|(refine iA fun _=>?_));conv=>whnf)|(apply bD<;>intro _<;>first|omega|conv=>whnf))
    have hav:∀h,(avI C)[q]'h=C[q].map (.int .i64):=fun h=>by
     have h2:=eC;rw[x7k,x7x h]at h2;have h3:AV.sl (avI C)[q]=.sl (C[q].map (.int .i64)):=z0m h2;exact AV.sl.inj h3
    simp only[hav];generalize C[q]=row at*
    have hrm:(row.map (AV.int .i64)).length=row.length:=x7z _;have hHs:=LM (T q) nm (hSr q).1 (by have:=(hSr q).2;omega);have eTk:((List.range c).map fun q=>eStrs (T q))[q]?=some (eStrs (T q)):=by rw[x7k,z1p E];rfl
    have hPq:=hPl q E;obtain⟨g,hgf⟩ : ∃g:Int->List Fl,g=fun f=>if inS (T q) nm=true then [⟨l (m.getD f.toNat 0),l q,nm⟩]else []:=⟨_,rfl⟩;rw[<-hgf]at M;rw[M,x7u]at hle3;generalize Te T l q m C nm=o at*
    refine LoopK.inv QV (fun z:Nat=>⟨[(0,.p (.ip b.cells)),(1,.j i),(5,.p (.ip w.cells)),(6,.hd 2 0 (u++o++(row.take z).flatMap g).length),(7,.p (.sl (avP steps))),(10,.p (.sl ((List.range c).map fun q=>eStrs (T q)))),(12,.p (.str nm)),(13,.p (.sl (m.map fun a=>.int .i64 (a:Nat)))),(14,.j q),(54,.ext 0 .iter),(64,.p (eMat C)),(65,.p (.int .i64 ((avI C).map AV.sl).length)),(66,.j q),(71,.p (QB row)),(72,.p (.int .i64 (row.map (AV.int .i64)).length)),(73,.j z)],[(0,.ext ch),(2,.own 107 3 ((u++o++(row.take z).flatMap g).map Za))]⟩) (fun z=>z<=row.length) (fun z=>row.length-z) 0 (Le.of_eq (by simp;exact⟨rfl,rfl⟩)) (x7p _) ?_;intro z hz;have hzl:((row.take z).flatMap g).length<=(row.flatMap g).length:=by
     conv=>rhs;rw[<-z2z z row,z1b,x7u]
     omega
    have hall:(u++o++(row.take z).flatMap g).length<=1000000000:=by rw[x7u,x7u];omega
    rcases x7m z row.length with I|I
    ·have Q:u++o++(row.take (z+1)).flatMap g=(u++o++(row.take z).flatMap g)++g row[z]:=by rw[x7r I,z1b,x8w,x8w,x8w];simp
     have hfr:=hrow.2 _ (x7l I);obtain⟨fz,hfz⟩ : ∃fz:Nat,row[z]=fz:=⟨row[z].toNat,by omega⟩;rw[hfz]at hfr Q;have Z:fz<m.length:=by omega
     have hgz:g (fz:Int)=if inS (T q) nm=true then [⟨l m[fz],l q,nm⟩]else []:=by rw[hgf];simp only[z0h,x7w,x7x Z,x9u]
     have eAt:(m.map fun a=>AV.int .i64 (a:Nat))[fz]?=some (.int .i64 (m[fz]:Nat)):=by rw[x7k,x7x Z];rfl
     have hPa:=hPl _ (hatl _ (x7l Z));rw[hgz]at Q;generalize m[fz]=az at*
     generalize(u++o++(row.take z).flatMap g)=oo at*
     have hom:(oo.map Za).length=oo.length:=x7z _;cases hin:inS (T q) nm;all_goals
      rw[hin]at hHs Q;conv=>whnf
      repeat' (first|((first|refine x7g rfl ?_|refine aD ?_|refine bP ?_|(refine iA fun _=>?_)|refine wI ?_|(refine IdxK.at (k:=q) rfl eTk rfl ?_)|(refine IdxK.at (k:=fz) hfz eAt rfl ?_)|refine cP hHs ?_|refine cP hPa ?_|refine cP hPq ?_|refine z0w hom.symm rfl (by show(oo.length+1)*32<=140737488355328;omega) (by show oo.length+1<=9223372036854775807;omega) (fun x hx=>by rcases x7y.1 hx with rfl;exact⟨rfl,rfl⟩) ?_);conv=>whnf)|(apply bD<;>intro _<;>first|omega|conv=>whnf)|(apply bB<;>intro _<;>conv=>whnf))
      all_goals first
       |contradiction
       |exact⟨z+1,I,by omega,Le.of_eq (by rw[Q];simp<;>exact⟨rfl,rfl⟩)⟩
    ·rw[x7a I,x8w,<-M];conv=>whnf
     repeat' (first|(refine wI ?_;conv=>whnf)|(apply bD<;>intro _<;>first|omega|conv=>whnf))
     all_goals first
      |exact⟨q+1,E,by omega,Le.of_eq rfl⟩
   ·have hqe:q=c:=by omega
    rw[hqe,<-B];conv=>whnf
    repeat' (apply bD<;>intro _<;>first|omega|conv=>whnf)
    all_goals first
     |exact⟨(rest2,some nm,u++outN G T l c steps nm),⟨d++[nm],hp2,by simp only;rw[z1b,<-O];simp⟩,hle2,Le.mk [] (by simp) (by simp) (by simp) (.r (.r (.r (.r (.r (.r (.r .nil))))))) (.cons rfl (.of_eq (by rw[hch];rfl)) (.cons rfl (.refl _) .nil))⟩
theorem Ur{α β:Type}(f:α->List β)(k:Nat):∀l:List α,(∀x∈l,(f x).length<=k)->(l.flatMap f).length<=l.length*k
 |[],_=>by simp
 | x::r,h=>by
   have m:=h x x7v;have n:=Ur f k r fun y i=>h y (x7j _ i);rw[x9v,x7u,x8j,x9a];omega
def q0e{l:List Str}(m:l.Nodup)(n:Str)(a:Nat):((l.map fun s=>(s,a)).filter fun x=>decide (x.1=n)).map Prod.snd=if n∈l then [a]else []:=by
 induction l with
 |nil=>rfl
 | cons x r t=>
   rw[x8i]at m;rw[x8v,List.filter_cons];by_cases h:x=n
   .subst h;rw[if_pos (by simp),x8v,t m.2,if_neg m.1,if_pos x7v]
   .rw [if_neg (by simpa using h),t m.2];by_cases i:n∈r
    .rw [if_pos i,if_pos (x7j _ i)]
    .rw [if_neg i,if_neg (by rw[x7f];rintro(q|q);exact h q.symm;exact i q)]
theorem RL{G:Nat->List Str}(l:∀a,(G a).Nodup)(i:Str):∀n,atN G n i=(List.range n).filter fun a=>decide (i∈G a)
 |0=>rfl
 | n+1=>by
   have m:=RL l i n;unfold atN at m⊢;rw[DD,z0u,x7n,m,q0e (l n),z1c,z0u];congr 1;by_cases h:i∈G n
   .rw [if_pos h];simp[h]
   .rw [if_neg h];simp[h]
theorem OC(l:List (Str×Nat)):((mapG l).map Prod.fst).length<=l.length:=by
 have key:∀l:List (Str×Nat),((mapG l.reverse).map Prod.fst).length<=l.length:=fun l=>by
  induction l with
  |nil=>exact x7s _
  | cons x r h=>
    rw[z3m,GY];unfold Dy;rw[Qk];split
    ·rw[x8j];omega
    ·simp only[x7u,x8j,z0p];omega
 have:=key l.reverse
 rwa[z2o,List.length_reverse]at this
def OA(l:List (Str×Nat)){k:Str}(h:k∈(mapG l).map Prod.fst):∃a,(k,a)∈l:=by
 have key:∀l:List (Str×Nat),k∈(mapG l.reverse).map Prod.fst->∃a,(k,a)∈l:=fun l=>by
  induction l with
  |nil=>intro h;cases h
  | cons x r i=>
    rw[z3m,GY];unfold Dy;rw[Qk];intro h;have:k∈(mapG r.reverse).map Prod.fst\/k=x.1:=by
     split at h
     .exact .inl h
     .rcases x7b.1 h with h|h
      .exact .inl h
      .exact .inr (x7y.1 h)
    rcases this with h|h
    .obtain ⟨a,ha⟩:=i h;exact⟨a,x7j _ ha⟩
    .exact ⟨x.2,by rw[h];exact x7v⟩
 obtain⟨a,ha⟩:=key l.reverse (by rwa[z2o]);exact⟨a,List.mem_reverse.1 ha⟩
def q6t{G:Nat->List Str}{n:Nat}{k:Str}{a:Nat}(h:(k,a)∈prsG G n):a<n/\k∈G a:=by
 unfold prsG at h;obtain⟨b,i,q⟩:=x8h.1 h;obtain⟨s,m,l⟩:=x7d.1 q;cases l;exact⟨x8n.1 i,m⟩
def q0l(G T:Nat->List Str)(i:Nat->Int)(n:Nat)(steps:List (Int×Int))(h:Str):(outN G T i n steps h).length<=n*(atN G n h).length:=by
 unfold outN;refine x8m (Ur _ (atN G n h).length _ fun c m=>?_) (by rw[x9t];exact x7s _);refine x8m (Ur _ 1 _ fun f _=>by split<;>simp) ?_;rw[z4u,x7w];cases l:(comC n steps (atN G n h))[c]?with
 |none=>simp
 |some r=>exact(Fw (x7t l)).1
def x0l{G:Nat->List Str}(h:∀a,(G a).length<=k)(n:Nat):(prsG G n).length<=n*k:=by
 unfold prsG;refine x8m (Ur _ k _ fun a _=>by rw[x7z];exact h a) (by rw[x9t];exact x7s _)
theorem AQ{G T:Nat->List Str}{h:Nat->Int}{n:Nat}{steps:List (Int×Int)}(i:n<=202)(u:∀a,(G a).length<=34)(l:∀a,(G a).Nodup):(((mapG (prsG G n)).map Prod.fst).flatMap (outN G T h n steps)).length<=1000000000:=by
 have q:=OC (prsG G n);have r:=x0l u n;have v:=Ur (outN G T h n steps) (202*202) ((mapG (prsG G n)).map Prod.fst) fun m _=>by
  refine x8m (q0l G T h n steps m) ?_;have s:(atN G n m).length<=n:=by
   rw[RL l];exact x8m (x9n _ _) (by simp)
  exact Nat.mul_le_mul i (x8m s i)
 have t:((mapG (prsG G n)).map Prod.fst).length<=202*34:=x8m q (x8m r (x9x _ i));have w:((mapG (prsG G n)).map Prod.fst).length*(202*202)<=(202*34)*(202*202):=x9x _ t;omega
def LN{L:List (List Str)}{Q:List Str->Prop}(l:Q [])(h:∀o∈L,Q o)(i:Nat):Q (L.getD i []):=by
 rw[x7w];cases m:L[i]?with
 |none=>exact l
 |some o=>exact h o (x7t m)
def N8{p:Pg}{i:Nat}{I:List Str}(h:∀d∈D,d.Pairwise ltT)(a:Nat):(SJ p i f D I a).Pairwise ltT:=by
 unfold SJ;split
 .exact ZF _
 split
 .exact .nil
 cases(newWay p i f).live.getD a false with
 |false=>exact .nil
 |true=>exact LN .nil h _
def Ih{p:Pg}{i:Nat}{O:List Str}(h:∀d∈U,d.Pairwise ltT)(a:Nat):(q3i p i f U O a).Pairwise ltT:=by
 unfold q3i;split
 .exact ZF _
 split
 .exact .nil
 cases(newWay p i f).live.getD a false with
 |false=>exact .nil
 |true=>exact LN .nil h _
theorem OW{p:Pg}{i:Nat}{I:List Str}(h:∀d∈D,d.length<=34)(m:I.length<=25)(n:f.C.length<=8)(a:Nat):(SJ p i f D I a).length<=34:=by
 unfold SJ;split
 ·refine x8m (JL _) ?_;rw[x7u,x7z];omega
 split
 ·simp
 cases(newWay p i f).live.getD a false with
 |false=>simp
 |true=>exact LN (Q:=fun l=>l.length<=34) (by simp) h _
def D2{p:Pg}{n:Str}(h:FK p f n≠0):n∈p.B\/n∈Qb f:=by
 unfold FK at h;unfold Qb;cases m:f.C.find? (fun a=>a.name==n)with
 | some a=>
   refine .inr (x8t _ (x7d.2 ⟨a,z0g m,by simpa using z1j m⟩))
 | none=>
   rw[m]at h;cases r:f.F.any (fun s=>n==s)with
   | true=>
     obtain⟨s,i,l⟩:=x8e.1 r;exact .inr (x8s _ (by rw[eq_of_beq l];exact i))
   | false=>
     cases q:p.B.any (fun s=>n==s)with
     | true=>
       obtain⟨s,i,l⟩:=x8e.1 q;exact .inl (by rw[eq_of_beq l];exact i)
     |false=>exact absurd (by simp only[r,q];rfl) h
def N9{p:Pg}(h:chkB p=true){n:Str}(l:n∈p.B):isName n=true:=by
 have i:=(QY h).1;unfold KR at i;simp only[x7i]at i;exact x8a.1 i.1.2 n l
def Ti{p:Pg}(h:chkB p=true)(q:f∈p.A){n:Str}(i:n∈Qb f):isName n=true:=by
 obtain⟨_,_,_,l,_,m⟩:=YV.1 (Ru (QY h).1 q);rcases x7b.1 i with i|i
 .obtain ⟨a,ha,rfl⟩:=x7d.1 i;exact x8a.1 m a ha
 .exact x8a.1 l n i
section
variable {p:Pg}{j:Nat}{f:Pr}
def Mu(h:chkB p=true)(m:f∈p.A){t:S}(s:t∈flL f.body){n:Str}(r:n∈XF t):isName n=true:=by
 have l:=VA (QY h).2.1 m s;unfold knownB at l;rw[x7i]at l;have q:=x8a.1 l.1 n r;rcases D2 (by simpa using q)with i|i
 .exact N9 h i
 .exact Ti h m i
def Ox{t:S}{a:Arg}(ha:a∈t.args){n:Str}(h:n∈usA a):n∈XF t:=by
 unfold XF;refine x8s _ (x8h.2 ⟨a,ha,?_⟩);unfold usA at h;unfold JP;rcases x7b.1 h with h|h
 .refine x8t _ ?_;cases i:a.ref with
  |true=>rw[i,if_pos rfl]at h;exact h
  |false=>rw[i,if_neg (by decide)]at h;cases h
 .exact x8s _ h
def q5r{I:List (List Str)}{t:S}:inAt (bkI p I) t=I.getD (caI p t).toNat []:=rfl
def x2q(h:chkB p=true)(q:p.A[j]?=some f){t:S}(r:t∈flL f.body):∃it,(sheetOf p).l[(t.id-1).toNat]?=some it/\it.s=t:=by
 have i:=RQ h q r;unfold IT at i;obtain⟨it,m,n⟩:=z2t.1 i;exact⟨it,m,n⟩
def x4i(h:chkB p=true)(l:p.A[j]?=some f){t:S}(m:t∈flL f.body)(I:List (List Str)):FJ (usB p I) t.id=WA (MZ (bkI p I) t):=by
 obtain⟨it,i,rfl⟩:=x2q h l m;unfold FJ usB;rw[x7w,x7k,i];rfl
def q9c{y:Int}(h:plP p j f y):idN p j f (ixI p j f y)=y:=BP h
def q6y(h:chkB p=true)(i:p.A[j]?=some f){x:Str}{a b:Int}(r:wR p j f a b)(q:GG p j f D x (ixI p j f a)=true):nR p j f D x (ixI p j f a) (ixI p j f b):=by
 have l:=(Ay h i).2 (.inl r);obtain⟨m,n⟩:=Aj h i l;exact⟨q,(TY h i m n).2 l⟩
theorem q9s{x:Str}(h:chkB p=true)(u:p.A[j]?=some f){t:S}(v:t∈flL f.body)(w:x∈FJ U t.id):hitN p j f U o x (ixI p j f t.id)=true:=by
 have r:=ZS (QY h).1 u v;have i:plP p j f t.id:=.inr (.inr r);have y:=WS i;unfold hitN;have q:¬ixI p j f t.id=(cntL f.body+2:Nat)-1:=fun s=>by
  have:=PH i (.inr (.inl rfl)) (s.trans ix_exit.symm);omega
 have m:0<ixI p j f t.id:=by
  rcases Int.lt_or_le 0 (ixI p j f t.id)with l|l
  ·exact l
  ·have n:ixI p j f t.id=ixI p j f 0:=by
    have:ixI p j f 0=0:=by unfold ixI UV;rw[if_pos rfl]
    omega
   have:=PH i (.inl rfl) n;omega
 rw[x9m q,z0y m];show inS (FJ U (idN p j f (ixI p j f t.id))) x=true;rw[q9c i];exact UN.2 w
theorem q0c{x:Str}(h:chkB p=true)(w:p.A[j]?=some f){y:Int}(n:plP p j f y)(l:y ≠ -1)(i:GG p j f D x (ixI p j f y)=false):∃t∈flL f.body,t.id=y/\x∈FJ D y:=by
 unfold GG at i;by_cases r:ixI p j f y=(cntL f.body+2:Nat)-1
 ·exact absurd (PH n (.inr (.inl rfl)) (r.trans ix_exit.symm)) l
 ·rw[x9m r]at i;by_cases m:0<ixI p j f y
  ·rw[z0y m]at i;have q:inS (FJ D (idN p j f (ixI p j f y))) x=true:=by simpa using i
   rw[q9c n]at q;rcases n with rfl|rfl|⟨s,u⟩
   ·unfold ixI UV at m;rw[if_pos rfl]at m;omega
   ·exact absurd rfl l
   ·obtain⟨t,z,_,v⟩:=Vd h w s u;exact⟨t,z,v,UN.1 q⟩
  ·rw[x9m m]at i;cases i
end
section
variable {a b:Str}{p:Pg}{j:Nat}{f:Pr}
end
section
variable {a b:Str}{p:Pg}{j:Nat}{f:Pr}
end
theorem count_set{l:List Bool}{k:Nat}(i:k<l.length)(h:l.getD k false=false):(l.set k true).count false+1=l.count false:=by
 rw[x7w,x7x i]at h;have m:l[k]=false:=h;have n:0<l.count false:=List.count_pos_iff.2 (m▸x7l i);rw[List.count_set i,m];simp;omega
theorem NedJ.shutN{p:Pg}{i:Nat}{x:Str}{n:Nat}{a:Int}(t:netR p i f=net)(h:chkB p=true)(q:p.A[i]?=some f)(m:NedJ p i f D U o x n a k seen todo)(r:(net.getD a.toNat []).length<=k)(l:hitN p i f U o x a=false):NedI p i f D U o x n seen todo:=by
 subst t;exact m.shut h q r l
theorem NedJ.oldN{p:Pg}{i:Nat}{x:Str}{n:Nat}{a:Int}(q:netR p i f=net)(l:NedJ p i f D U o x n a k seen todo)(m:k<(net.getD a.toNat []).length)(r:seen.getD ((net.getD a.toNat [])[k]).toNat false=true):NedJ p i f D U o x n a (k+1) seen todo:=by
 subst q;exact l.old m r
theorem NedJ.newN{p:Pg}{i:Nat}{x:Str}{n:Nat}{a:Int}(t:netR p i f=net)(l:NedJ p i f D U o x n a k seen todo)(r:k<(net.getD a.toNat []).length){c:Int}(q:c=(net.getD a.toNat [])[k])(u:0<=c/\c<(n:Int))(m:nR p i f D x a c):NedJ p i f D U o x n a (k+1) (seen.set c.toNat true) (todo++[c]):=by
 subst t;exact l.new r q u m
def G7{s:St}(h:K s):ZY s K:=by
 rw[VY];exact h
def EC{T:Tab}{ops:Array Oper}{s:St}(h:K s):run P T N ops [] s K:=h
def Ip{id:Nat}{s:St}(i:info.frz id=[])(h:Kl (info.keep id) s K):Mn info id s K:=by
 unfold Mn;rw[i];show Kl (info.keep id) s fun s=>ZY s K;have e:(fun s=>ZY s K)=K:=funext fun s=>VY s K;rw[e];exact h
def RS{i:List Nat}{s:St}(s':St)(h:∀K:St->Prop,K s'->Kl i s K)(l:K s'):Kl i s K:=h K l
def TM{sl:List (Nat×LV)}{d:Nat}{v:LV}{K:List (Nat×LV)->Prop}(i:blt d N=true)(h:K (L7 sl d v)):setD N sl (some d) v K:=by
 show(bif blt d N then q6s sl d v K else False);rw[i,x7c,J3];exact h
def q8e{T:Tab}{c:Operand}{a b:Code}{K:Exit->St->Prop}{s:St}(h:QN s.sl c=.p (.bool false))(i:W P T N info b K s):W P T N info (.cond c a b) K s:=by
 unfold W;rw[h];exact Br.ff i
def q8i{T:Tab}{c:Operand}{a b:Code}{K:Exit->St->Prop}{s:St}(h:QN s.sl c=.p (.bool true))(ha:W P T N info a K s):W P T N info (.cond c a b) K s:=by
 unfold W;rw[h];exact Br.tt ha
theorem Y2(b:Book)(p:Pg)(h:chkB p=true)(i:Nat)(f:Pr)(H:p.A[i]?=some f)(hW:b.ways[i]?=some (newWay p i f))(o:List Str)(hO:b.Q[i]?=some o)(ho:o.Pairwise ltT)(hol:o.length<=1000000000)(hDl:b.N.length=(sheetOf p).l.length)(hUl:b.O.length=(sheetOf p).l.length)(hDr:∀d∈b.N,d.Pairwise ltT/\d.length<=1000000000)(hUr:∀d∈b.O,d.Pairwise ltT/\d.length<=1000000000)(x:Str):SpecP prog 171 [.ip b.cells,.int .i64 i,eMat (netR p i f),.str x] (fun r=>r=.bool (CZ p i f b.N b.O o x)):=by
 refine sB Qi func171 rfl call171 ?_;conv=>whnf
 obtain⟨n,Y⟩ : ∃n,n=cntL f.body+2:=⟨_,rfl⟩;have hcn:=(XQ h).2.2;obtain⟨_,_,_,hsl,hsp⟩:=QU p;obtain⟨_,_,hle,_⟩:=hsp i f H;have hn200:n<=202:=by omega
 have hg1:(b.ways.map fun w=>AV.ip w.cells)[i]?=some (.ip (newWay p i f).cells):=by rw[x7k,hW];rfl
 have hg2:(b.Q.map eStrs)[i]?=some (eStrs o):=by rw[x7k,hO];rfl
 have R:(newWay p i f).n=n:=by rw[Y];rfl
 have hHo:=LM o x ho hol;have hP:∀a:Int,0<=a/\a<=5000->SpecP prog 65 [.ip (newWay p i f).cells,.int .i64 a] (fun r=>r=.int .i64 (idN p i f a)):=fun a ha=>UX (newWay p i f) f H (by show cntP p.A<=1000;omega) ⟨by rw[R];omega,by rw[R];omega⟩ a ha;have hNl:(netR p i f).length=n:=by rw[Y];exact Ys _ _
 have hNr:∀a:Nat,a<n->∀c∈(netR p i f).getD a [],nR p i f b.N x a c\/GG p i f b.N x a=false:=fun a ha c v=>by
  have hm:=(Yc fun t ht=>(HD h H t ht).1).1 v;obtain⟨t,ht,h1,h2⟩:=hm;cases hq:GG p i f b.N x a with
  |false=>exact .inr rfl
  |true=>exact .inl ⟨hq,by rw[<-h1,<-h2];exact ht⟩
 have hNi:∀a:Nat,a<n->∀c∈(netR p i f).getD a [],0<=c/\c<(n:Int):=fun a ha c v=>by
  obtain⟨t,ht,_,rfl⟩:=(Yc fun t ht=>(HD h H t ht).1).1 v;have:=(HD h H t ht).2;omega
 have hNc:∀a:Nat,((netR p i f).getD a []).length<=200000:=fun a=>by
  refine x8m (Nt _ _ a) ?_;unfold YT;rw[x7z];exact Fv h H
 have hId:∀a:Int,0<a->a<(n:Int)-1->1<=idN p i f a/\(idN p i f a-1).toNat<(sheetOf p).l.length:=fun a h1 h2=>by
  unfold idN QT loI;rw[if_neg (by omega),if_neg (by omega)];omega
 obtain⟨net,q⟩ : ∃net,netR p i f=net:=⟨_,rfl⟩;rw[q]at hNl hNr hNi hNc⊢;generalize newWay p i f=w at hg1 R hP hW;repeat' ((first|refine x7g rfl ?_|refine aD ?_|refine aR ?_|(refine IdxK.at (k:=i) rfl hg1 rfl ?_)|refine z2b n R (by show 1*n<=140737488355328;omega) (by unfold maxLen;omega) ?_|refine z3o (fun x hx=>by rcases x7y.1 hx with rfl;rfl) rfl ?_);conv=>whnf)
 refine LoopK.inv QV (fun y:List Bool×List Int=>⟨[(0,.p (.ip b.cells)),(1,.j i),(2,.p (eMat net)),(3,.p (.str x)),(9,.p (.ip w.cells)),(10,.hd 0 0 n),(11,.hd 1 0 y.2.length)],[(1,.own 3 1 (y.2.map (.int .i64))),(0,.own 4 1 (y.1.map bv))]⟩)
  (fun y=>NedI p i f b.N b.O o x n y.1 y.2/\y.2.length+y.1.count false<=n+1) (fun y=>2*y.1.count false+y.2.length) (List.replicate n false,[0]) (Le.of_eq (by rw[z0n];rfl)) ⟨NedI.start n (by omega),by simp;omega⟩ ?_
 rintro⟨seen,todo⟩ ⟨B,hc1⟩;simp only at B hc1⊢;rcases List.eq_nil_or_concat todo with rfl|⟨st,a,rfl⟩
 ·have hz:(([]:List Int).length)=0:=rfl;conv=>whnf
  repeat' (first|(refine iM fun _=>?_;conv=>whnf)|(apply bD<;>intro _<;>first|omega|conv=>whnf))
  all_goals exact RetK.ff (B.stop h H)
 rw[List.concat_eq_append]at B hc1⊢;have hstl:(st++[a]).length=st.length+1:=by simp
 have E:=B.rng a (by simp);have e3:((st++[a]).map (AV.int .i64))[st.length]?=some (.int .i64 a):=by simp
 have hsl2:=B.len;have hway:=B.way a (B.td a (by simp));have hPa:=hP a ⟨E.1,by omega⟩;have z:∀(sl:List (Nat×LV)),Le Tryz.f171.ntmps ⟨sl,[(1,.own 3 1 ((st++[a]).map (.int .i64))),(0,.own 4 1 (seen.map bv))]⟩ ⟨sl,[(1,.own 3 1 (st.map (.int .i64))),(0,.own 4 1 (seen.map bv))]⟩:=fun sl=>Le.cut (.cut ⟨[.int .i64 a],by simp⟩ (.same .nil));have Z:((avI net).map AV.sl)[a.toNat]?=some (.sl ((net.getD a.toNat []).map (.int .i64))):=by
  have:a.toNat<net.length:=by rw[hNl];omega
  rw[x7w,x7x this];simp[avI,this]
 have hrl:((net.getD a.toNat []).map (AV.int .i64)).length=(net.getD a.toNat []).length:=x7z _;have hcs:a=(n:Int)-1\/(a=0/\¬a=(n:Int)-1)\/(0<a/\¬a=(n:Int)-1):=by omega
 rcases hcs with V|⟨hz,V⟩|⟨J,V⟩
 ·-- the exit
  have m:hitN p i f b.O o x a=inS o x:=by unfold hitN;rw[<-Y,z0y V];rfl
  have s:GG p i f b.N x a=false:=by unfold GG;rw[<-Y,z0y V];rfl
  conv=>whnf
  repeat' (first|((first|(refine iM fun _=>?_)|refine x7g rfl ?_|refine wI ?_|refine x8p st.length (by omega) (by omega) ?_|refine x9g st.length 0 (.int .i64 a) (by omega) e3 ?_|refine z3d 0 st.length rfl (by show((st++[a]).length:Int)-1=_;omega) (by omega) (by omega) ?_|(refine IdxK.at (k:=i) rfl hg2 rfl ?_)|refine cP hHo ?_);conv=>whnf)|(apply bD<;>intro _<;>first|omega|conv=>whnf)|(apply bB<;>intro _<;>conv=>whnf))
  ·exact RetK.tt ((BB h H).2 ⟨a,hway,by rw[m];assumption⟩)
  ·exact⟨(seen,st),⟨B.skip (by rw[m];assumption) s,by simp only;omega⟩,by simp only;omega,(z _).trans (lE)⟩
 ·-- the entry
  have m:hitN p i f b.O o x a=false:=by unfold hitN;rw[<-Y,x9m V,x9m (by omega)];rfl
  have s:GG p i f b.N x a=true:=by unfold GG;rw[<-Y,x9m V,x9m (by omega)];rfl
  conv=>whnf
  repeat' (first|((first|(refine iM fun _=>?_)|refine x7g rfl ?_|refine wI ?_|refine x8p st.length (by omega) (by omega) ?_|refine x9g st.length 0 (.int .i64 a) (by omega) e3 ?_|refine z3d 0 st.length rfl (by show((st++[a]).length:Int)-1=_;omega) (by omega) (by omega) ?_|(refine IdxK.at (k:=a.toNat) (by omega) Z rfl ?_));conv=>whnf)|(apply bD<;>intro _<;>first|omega|conv=>whnf))
  refine LoopK.inv QV (fun y:Nat×List Bool×List Int=>⟨[(0,.p (.ip b.cells)),(1,.j i),(2,.p (eMat net)),(3,.p (.str x)),(9,.p (.ip w.cells)),(10,.hd 0 0 n),(11,.hd 1 0 y.2.2.length),(87,.p (QB (net.getD a.toNat []))),(88,.p (.int .i64 ((net.getD a.toNat []).map (AV.int .i64)).length)),(89,.j y.1)],[(1,.own 3 1 (y.2.2.map (.int .i64))),(0,.own 4 1 (y.2.1.map bv))]⟩)
   (fun y=>y.1<=(net.getD a.toNat []).length/\NedJ p i f b.N b.O o x n a y.1 y.2.1 y.2.2/\y.2.2.length+y.2.1.count false<=n/\2*y.2.1.count false+y.2.2.length<=2*seen.count false+st.length) (fun y=>(net.getD a.toNat []).length-y.1) (0,seen,st)
   ((z _).trans (Le.of_eq rfl)) ⟨x7p _,B.open,by simp only;omega,x7s _⟩ ?_
  rintro⟨k,e,td⟩ ⟨h1,C,h3,h4⟩;simp only at h1 C h3 h4⊢;rcases x7m k (net.getD a.toNat []).length with u|u;rotate_left 1
  ·conv=>whnf
   repeat' (apply bD<;>intro _<;>first|omega|conv=>whnf)
   all_goals exact⟨(e,td),⟨C.shutN q h H u m,by simp only;omega⟩,by simp only;omega,lE⟩
  ·obtain⟨c,v⟩ : ∃c,c=(net.getD a.toNat [])[k]:=⟨_,rfl⟩;have F:c∈net.getD a.toNat []:=by rw[v];exact x7l u
   have hcr:=hNi a.toNat (by omega) c F;have hcR:nR p i f b.N x a c:=by
    rcases hNr a.toNat (by omega) c F with L|L
    ·rwa[z0f E.1]at L
    ·rw[z0f E.1,s]at L;cases L
   have hsnl:=C.len;have g:=q2l (l:=e) (i:=c.toNat) (by omega);have e5:((net.getD a.toNat []).map (AV.int .i64))[k]?=some (.int .i64 c):=by rw[x7k,x7x u,<-v];rfl
   cases M:e.getD c.toNat false with
   | true=>
     rw[M]at g;conv=>whnf
     repeat' (first|((first|refine x7g rfl ?_|(refine iA fun _=>?_)|refine wI ?_|refine x8p c.toNat (by omega) (by omega) ?_|refine x9g c.toNat 0 .tt (by omega) g ?_);conv=>whnf)|(apply bD<;>intro _<;>first|omega|conv=>whnf))
     all_goals first
       |exact⟨(k+1,e,td),⟨u,C.oldN q u (by rw[<-v];exact M),h3,h4⟩,by simp only;omega,Le.of_eq rfl⟩
   | false=>
     rw[M]at g;have hcs:=count_set (l:=e) (k:=c.toNat) (by omega) M;conv=>whnf
     repeat' (first|((first|refine x7g rfl ?_|refine aD ?_|refine bP ?_|(refine iA fun _=>?_)|refine wI ?_|refine x8p c.toNat (by omega) (by omega) ?_|refine x9g c.toNat 0 .ff (by omega) g ?_|refine z0d c.toNat 0 .ff .tt (by omega) g (x7s 1) rfl ?_|refine XX (by simp) (by simp;omega) ?_);conv=>whnf)|(apply bD<;>intro _<;>first|omega|conv=>whnf))
     all_goals first
       |exact⟨(k+1,e.set c.toNat true,td++[c]),⟨u,C.newN q u v hcr hcR,by simp only[x7u,x8k];omega,by simp only[x7u,x8k];omega⟩,by simp only;omega,Le.of_eq (by rw[<-v];simp only[x8o,x7n,x7u];rfl)⟩
 ·-- a statement
  obtain⟨hid1,hid2⟩:=hId a J (by omega);have hgU:(b.O.map eStrs)[(idN p i f a-1).toNat]?=some (eStrs (FJ b.O (idN p i f a))):=by
   unfold FJ;rw[x7k,x7w,x7x (by omega)];rfl
  have hgD:(b.N.map eStrs)[(idN p i f a-1).toNat]?=some (eStrs (FJ b.N (idN p i f a))):=by
   unfold FJ;rw[x7k,x7w,x7x (by omega)];rfl
  have hrU:(FJ b.O (idN p i f a)).Pairwise ltT/\(FJ b.O (idN p i f a)).length<=1000000000:=by
   unfold FJ;rw[x7w,x7x (by omega)];exact hUr _ (x7l _)
  have hrD:(FJ b.N (idN p i f a)).Pairwise ltT/\(FJ b.N (idN p i f a)).length<=1000000000:=by
   unfold FJ;rw[x7w,x7x (by omega)];exact hDr _ (x7l _)
  have hHU:=LM _ x hrU.1 hrU.2;have hHD:=LM _ x hrD.1 hrD.2;have G:hitN p i f b.O o x a=inS (FJ b.O (idN p i f a)) x:=by unfold hitN;rw[<-Y,x9m V,z0y J];rfl
  have I:GG p i f b.N x a = !inS (FJ b.N (idN p i f a)) x:=by unfold GG;rw[<-Y,x9m V,z0y J];rfl
  generalize idN p i f a=id at*
  generalize FJ b.O id=lu at*
  generalize FJ b.N id=ld at*
  conv=>whnf
  repeat' (first|((first|(refine iM fun _=>?_)|refine x7g rfl ?_|refine wI ?_|refine x8p st.length (by omega) (by omega) ?_|refine x9g st.length 0 (.int .i64 a) (by omega) e3 ?_|refine z3d 0 st.length rfl (by show((st++[a]).length:Int)-1=_;omega) (by omega) (by omega) ?_|refine cP hPa ?_|(refine IdxK.at (k:=(id-1).toNat) (by omega) hgU rfl ?_));conv=>whnf)|(apply bD<;>intro _<;>first|omega|conv=>whnf))
  refine CallK.pure hHU (.cons (Sub.refl _) (.cons (Sub.refl _) .nil)) ?_;rintro _ rfl;refine TM (by kernel_rfl) ?_;refine G7 ?_;refine EC ?_;refine Ip (by kernel_rfl) ?_;refine RS ⟨[(0,.p (.ip b.cells)),(1,.j i),(2,.p (eMat net)),(3,.p (.str x)),(9,.p (.ip w.cells)),(10,.hd 0 0 n),(11,.hd 1 0 st.length),(12,.j a),(13,.j id),(73,.p (.bool (inS lu x)))],[(1,.own 3 1 ((st++[a]).map (.int .i64))),(0,.own 4 1 (seen.map bv))]⟩ (fun K h=>h) ?_;cases hqu:inS lu x;rotate_left
  ·refine q8i rfl ?_;conv=>whnf
   skip
   all_goals exact RetK.tt ((BB h H).2 ⟨a,hway,by rw[G,hqu]⟩)
  refine q8e rfl ?_;conv=>whnf
  repeat' ((first|refine wI ?_|(refine IdxK.at (k:=(id-1).toNat) (by omega) hgD rfl ?_));conv=>whnf)
  refine CallK.pure hHD (.cons (Sub.refl _) (.cons (Sub.refl _) .nil)) ?_;rintro _ rfl;refine TM (by kernel_rfl) ?_;refine G7 ?_;refine EC ?_;refine Ip (by kernel_rfl) ?_;refine RS ⟨[(0,.p (.ip b.cells)),(1,.j i),(2,.p (eMat net)),(3,.p (.str x)),(9,.p (.ip w.cells)),(10,.hd 0 0 n),(11,.hd 1 0 st.length),(12,.j a),(83,.p (.bool (inS ld x)))],[(1,.own 3 1 ((st++[a]).map (.int .i64))),(0,.own 4 1 (seen.map bv))]⟩ (fun K h=>h) ?_;have m:hitN p i f b.O o x a=false:=by rw[G,hqu]
  cases hqd:inS ld x;rotate_left
  ·have s:GG p i f b.N x a=false:=by rw[I,hqd];rfl
   refine q8i rfl ?_;conv=>whnf
   skip
   all_goals exact⟨(seen,st),⟨B.skip m s,by simp only;omega⟩,by simp only;omega,(z _).trans (lE)⟩
  ·have s:GG p i f b.N x a=true:=by rw[I,hqd];rfl
   refine q8e rfl ?_;conv=>whnf
   repeat' ((first|(refine iM fun _=>?_)|(refine IdxK.at (k:=a.toNat) (by omega) Z rfl ?_));conv=>whnf)
   refine LoopK.inv QV (fun y:Nat×List Bool×List Int=>⟨[(0,.p (.ip b.cells)),(1,.j i),(2,.p (eMat net)),(3,.p (.str x)),(9,.p (.ip w.cells)),(10,.hd 0 0 n),(11,.hd 1 0 y.2.2.length),(87,.p (QB (net.getD a.toNat []))),(88,.p (.int .i64 ((net.getD a.toNat []).map (AV.int .i64)).length)),(89,.j y.1)],[(1,.own 3 1 (y.2.2.map (.int .i64))),(0,.own 4 1 (y.2.1.map bv))]⟩)
    (fun y=>y.1<=(net.getD a.toNat []).length/\NedJ p i f b.N b.O o x n a y.1 y.2.1 y.2.2/\y.2.2.length+y.2.1.count false<=n/\2*y.2.1.count false+y.2.2.length<=2*seen.count false+st.length) (fun y=>(net.getD a.toNat []).length-y.1) (0,seen,st)
    ((z _).trans (Le.of_eq rfl)) ⟨x7p _,B.open,by simp only;omega,x7s _⟩ ?_
   rintro⟨k,e,td⟩ ⟨h1,C,h3,h4⟩;simp only at h1 C h3 h4⊢;rcases x7m k (net.getD a.toNat []).length with u|u;rotate_left 1
   ·conv=>whnf
    repeat' (apply bD<;>intro _<;>first|omega|conv=>whnf)
    all_goals exact⟨(e,td),⟨C.shutN q h H u m,by simp only;omega⟩,by simp only;omega,lE⟩
   ·obtain⟨c,v⟩ : ∃c,c=(net.getD a.toNat [])[k]:=⟨_,rfl⟩;have F:c∈net.getD a.toNat []:=by rw[v];exact x7l u
    have hcr:=hNi a.toNat (by omega) c F;have hcR:nR p i f b.N x a c:=by
     rcases hNr a.toNat (by omega) c F with L|L
     ·rwa[z0f E.1]at L
     ·rw[z0f E.1,s]at L;cases L
    have hsnl:=C.len;have g:=q2l (l:=e) (i:=c.toNat) (by omega);have e5:((net.getD a.toNat []).map (AV.int .i64))[k]?=some (.int .i64 c):=by rw[x7k,x7x u,<-v];rfl
    cases M:e.getD c.toNat false with
    | true=>
      rw[M]at g;conv=>whnf
      repeat' (first|((first|refine x7g rfl ?_|(refine iA fun _=>?_)|refine wI ?_|refine x8p c.toNat (by omega) (by omega) ?_|refine x9g c.toNat 0 .tt (by omega) g ?_);conv=>whnf)|(apply bD<;>intro _<;>first|omega|conv=>whnf))
      all_goals first
        |exact⟨(k+1,e,td),⟨u,C.oldN q u (by rw[<-v];exact M),h3,h4⟩,by simp only;omega,Le.of_eq rfl⟩
    | false=>
      rw[M]at g;have hcs:=count_set (l:=e) (k:=c.toNat) (by omega) M;conv=>whnf
      repeat' (first|((first|refine x7g rfl ?_|refine aD ?_|refine bP ?_|(refine iA fun _=>?_)|refine wI ?_|refine x8p c.toNat (by omega) (by omega) ?_|refine x9g c.toNat 0 .ff (by omega) g ?_|refine z0d c.toNat 0 .ff .tt (by omega) g (x7s 1) rfl ?_|refine XX (by simp) (by simp;omega) ?_);conv=>whnf)|(apply bD<;>intro _<;>first|omega|conv=>whnf))
      all_goals first
        |exact⟨(k+1,e.set c.toNat true,td++[c]),⟨u,C.newN q u v hcr hcR,by simp only[x7u,x8k];omega,by simp only[x7u,x8k];omega⟩,by simp only;omega,Le.of_eq (by rw[<-v];simp only[x8o,x7n,x7u];rfl)⟩
inductive SlR(g:Nat->Option Nat)(sl:List (Nat×LV)):List (Nat×LV)->Prop
 |nil:SlR g sl []
 |cons {i:Nat} {l:LV} {r:List (Nat×LV)} (h:LSub ((getS sl i).ren g) l) (hr:SlR g sl r):SlR g sl ((i,l)::r)
theorem SlR.r{g:Nat->Option Nat}{sl:List (Nat×LV)}{i:Nat}{r:List (Nat×LV)}(h:SlR g sl r):SlR g sl ((i,(getS sl i).ren g)::r):=.cons (.refl _) h
theorem SlR.get{g:Nat->Option Nat}{sl sl':List (Nat×LV)}(h:SlR g sl sl')(i:Nat):LSub ((getS sl i).ren g) (getS sl' i)\/getS sl' i=.p .any:=by
 induction h with
 |nil=>exact .inr rfl
 | @cons j l r h t q=>
   simp only[getS];by_cases m:j=i
   .subst m;exact .inl (by simpa using h)
   .have:(j==i)=false:=by simp[m]
    simpa[this]using q
def q4k{s s':St}(π:Nat->Nat)(x:∀k,π (π k)=k)(v:∀j,1000<=j->j<2000->π j=j)(B:SlR (fun k=>some (π k)) s.sl s'.sl)(hH:∀j c,(j,c)∈s'.H->∃r,(π j,r)∈s.H/\CSub (r.ren fun k=>some (π k)) c)(A:(s'.H.map (·.1)).Nodup):Le N s s':=fun σ β a w q=>by
 have C:∀k j,(fun k=>some (π k)) k=some j->(fun j=>β (π j)) j=β k:=fun k j G=>by
  cases G;show β (π (π k))=β k;rw[x]
 have l:∀j∈s'.H.map (·.1),π j∈s.H.map (·.1):=fun j m=>by
  obtain⟨⟨y,c⟩,I,rfl⟩:=x7d.1 m;obtain⟨r,n,_⟩:=hH y c I;exact x7d.2 ⟨_,n,rfl⟩
 refine⟨σ,fun j=>β (π j),⟨q.size,q.defers,fun i=>?_,q.heap.mem,fun j c m=>?_,A,fun j m i u b t=>q.heap.apart (π j) (l j m) i u b t,fun j m y g i i' u e b t d=>?_⟩,Mem.le_refl σ,Frm.refl _ _,fun b z n=>absurd z n,fun b ⟨j,m,i,u,t⟩=>.inl ⟨π j,l j m,i,u,t⟩,fun k z n=>?_⟩
 .rcases B.get i with h|h
  .exact h.rep ((q.E i).ren C)
  .rw [h];exact .p (.any _)
 .obtain ⟨r,n,F⟩:=hH j c m;exact F _ _ _ _ ((q.heap.chunks (π j) r n).ren (j:=j) C (by show some (π (π j))=some j;rw[x]))
 .have:=q.heap.inj (π j) (l j m) (π y) (l y g) i i' u e b t d;rw[<-x j,this,x]
 .show β (π k)=β k;rw[v k z n]
end Go.Ab
