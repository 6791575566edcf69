/- way: the steps out of traps, all that come to the real ones. -/
import Derived.Test.YtgljdhjopolmcaaGreatRcA15
set_option linter.all false
set_option maxRecDepth 100000
set_option maxHeartbeats 16000000
namespace Go.Ab
open Go.Proofs.Tryz
open Go.Proofs
variable {a:Int}{i:Nat}{sl:List (Nat×LV)}
def vOf(p:Pg)(id:Int):List Step:=match q8c p id with
 |some s=>if s.kind=10 then [⟨id,-1,3⟩]else []
 |none=>[]
def JV(w:Way)(f:Pr):List Step:=(trapsW w f).flatMap fun l=>l.flatMap (vOf w.p)
def x2t(p:Pg)(id:Int):(vOf p id).length<=1:=by
 unfold vOf;split
 .split<;>simp
 .simp
theorem WM{α β:Type}{g:α->List β}{c:Nat}:∀(l:List α),(∀x∈l,(g x).length<=c)->(l.flatMap g).length<=l.length*c
 |[],_=>by simp
 | a::r,h=>by
   have n:=h a z1j;have o:=WM r fun x m=>h x (z1x _ m);rw[z2d,z0e,z2k,z3d];omega
theorem Ci(w:Way)(f:Pr)(n:Nat)(U:w.n=n)(M:w.p.A[w.j]?=some f)(L:cntP w.p.A<=1000)(P:n<=5000)(B:2<=n)(z:w.real.length<=1000000)(Q:∀t∈prsW w f,(0<=t.1/\t.1<n)/\0<=t.2/\t.2<n)(C:(trapsW w f).length<=5000)(c:∀l∈trapsW w f,l.length<=5000/\∀id∈l,1<=id/\id<=(sheetOf w.p).l.length):
  aH 158 [.p (.ip w.cells)] [] (.hd 0 0 (JV w f).length) [(0,.own 217 3 (avS (JV w f)))]:=by
 refine sK Y0 func158 ?_;conv=>whnf
 repeat' ((first|(refine iM fun _=>?_)|refine cP (Rz w f n U M L P B z Q) ?_)<;>conv=>whnf)
 unfold JV;generalize trapsW w f=ts at C c⊢;have O:((avI ts).map AV.sl).length=ts.length:=by simp[avI]
 refine lJ (fun x:Nat×List Step=>⟨[(0,.p (.ip w.cells)),(3,.hd 0 0 x.2.length),(9,.p (eMat ts)),(10,.p (.int .i64 ((avI ts).map AV.sl).length)),(11,.j x.1)],[(0,.own 217 3 (avS x.2))]⟩) (fun x=>x.1<=ts.length/\x.2.length<=x.1*5000/\x.2++(ts.drop x.1).flatMap (fun l=>l.flatMap (vOf w.p))=ts.flatMap fun l=>l.flatMap (vOf w.p)) (fun x=>ts.length-x.1) (0,[]) (lM [(0,.own 217 3 [])]) ⟨z1q _,by simp,rfl⟩ ?_;rintro⟨m,d⟩ ⟨H,I,q⟩;simp only at H I q⊢;rcases z1w m ts.length with r|r;rotate_left 1
 ·rw[z1b r,z6w,z2y]at q;conv=>whnf
  repeat' (apply bD<;>intro _<;>first|omega|conv=>whnf)
  exact⟨_,z2x _,by rw[q],by rw[q]⟩
 obtain⟨g,y⟩:=c _ (z1h r);have F:((avI ts).map AV.sl)[m]?=some (.sl (ts[m].map (.int .i64))):=by simp[avI,r]
 rw[KG r]at q;conv=>whnf
 repeat' ((first|(refine gX ?_;intros)|(apply bD<;>intro _<;>try omega))<;>conv=>whnf)
 have e:(avI ts)[m]'(by simp[avI];exact r)=ts[m].map (.int .i64):=by simp[avI]
 rw[e];generalize ts[m]=l at g y q⊢;have N:(l.map (AV.int .i64)).length=l.length:=z0s _;generalize G:(ts.flatMap fun l=>l.flatMap (vOf w.p))=tot at q⊢;refine lI (fun x:Nat×List Step=>⟨[(0,.p (.ip w.cells)),(3,.hd 0 0 x.2.length),(9,.p (eMat ts)),(10,.p (.int .i64 ((avI ts).map AV.sl).length)),(11,.j m),(15,.p (QG l)),(16,.p (.int .i64 (l.map (AV.int .i64)).length)),(17,.j x.1)],[(0,.own 217 3 (avS x.2))]⟩) (fun x=>x.1<=l.length/\x.2.length<=m*5000+x.1/\x.2++((l.drop x.1).flatMap (vOf w.p)++(ts.drop (m+1)).flatMap (fun l=>l.flatMap (vOf w.p)))=tot) (fun x=>l.length-x.1) (0,d) ⟨z1q _,by simp only;omega,q⟩ ?_;rintro⟨k,h⟩ ⟨J,K,o⟩;simp only at J K o⊢;rcases z1w k l.length with v|v;rotate_left 1
 ·rw[z1b v]at o;conv=>whnf
  repeat' ((first|refine wI ?_|(apply bD<;>intro _<;>try omega))<;>conv=>whnf)
  exact nX (m+1,h) ⟨r,by simp only;omega,by simpa using o⟩
 obtain⟨V,Y⟩:=y _ (z1h v);obtain⟨_,_,_,hsl,_⟩:=QK w.p;have b:(l[k]-1).toNat<(sheetOf w.p).l.length:=by omega
 have R:∃u:Item,((sheetOf w.p).l.map fun i=>AV.agg i.cells)[(l[k]-1).toNat]?=some (.agg u.cells)/\q8c w.p l[k]=some u.s:=⟨_,by rw[z1u,z0c b];rfl,by unfold q8c;rw[z0c b];rfl⟩;obtain⟨u,D,E⟩:=R;rw[KG v]at o;have T:vOf w.p l[k]=if u.s.kind=10 then [⟨l[k],-1,3⟩]else []:=by unfold vOf;rw[E]
 rw[T]at o;conv=>whnf
 repeat' ((first|(refine gX ?_;intros)|refine iT D ?_|refine pA 1 24 (by simp[avS]) ?_|(apply bD<;>intro _<;>try omega))<;>conv=>whnf)
 ·rw[if_pos (by assumption)]at o;exact⟨(k+1,h++[⟨l[k],-1,3⟩]),⟨v,by simp;omega,by simpa using o⟩,by simp only;omega,Le.of_eq (by simp only[avS,z0e,z1v];rfl)⟩
 ·rw[if_neg (by assumption)]at o;exact nX (k+1,h) ⟨v,by simp only;omega,by simpa using o⟩
def fOf(it:Item):List Step:=if it.s.kind=7\/it.s.kind=8\/it.s.kind=9\/it.s.kind=10 then [⟨it.s.id,it.next,2⟩]else []
structure WayT(w:Way)(f:Pr)(n:Nat):Prop where
 hw:w.n=n
 hj:w.p.A[w.j]?=some f
 hc:cntP w.p.A<=1000
 hn:n<=5000
 hn2:2<=n
 hlen:w.real.length<=1000000
 hr:∀t∈prsW w f,(0<=t.1/\t.1<n)/\0<=t.2/\t.2<n
 htl:(trapsW w f).length<=5000
 hti:∀l∈trapsW w f,l.length<=5000/\∀id∈l,1<=id/\id<=(sheetOf w.p).l.length
 hok:∀s∈w.real,okSt s
 hfk:∀it∈itsOf w.p w.j f,∀s∈fOf it,okSt s
def x2s{p:Pg}{id:Int}{s:Step}(h:s∈vOf p id):s=⟨id,-1,3⟩:=by
 unfold vOf at h;split at h
 .split at h
  .simpa using h
  .simp at h
 .simp at h
theorem WayT.virt_ok{w:Way}{f:Pr}{n:Nat}(h:WayT w f n):∀s∈JV w f,okSt s:=fun s m=>by
 unfold JV at m;obtain⟨l,q,m⟩:=z1c.1 m;obtain⟨id,o,m⟩:=z1c.1 m;obtain⟨_,_,_,hsl,_⟩:=QK w.p;have r:=(h.hti l q).2 id o;have t:=h.hc;rw[x2s m];exact⟨by show id≠_;omega,by show(-1:Int)≠_;decide⟩
theorem WayT.virt_len{w:Way}{f:Pr}{n:Nat}(h:WayT w f n):(JV w f).length<=25000000:=by
 have q:=WM (g:=fun l=>l.flatMap (vOf w.p)) (c:=5000) (trapsW w f) fun l o=>by
  have m:=WM (g:=vOf w.p) (c:=1) l fun id _=>x2t w.p id;have r:=(h.hti l o).1;omega
 have m:=h.htl;unfold JV;omega
def BW(w:Way)(f:Pr):List Step:=WB (JV w f++w.real)
def P1(w:Way)(f:Pr):List Step:=JV w f++w.real++[⟨0,-1,2⟩]++(itsOf w.p w.j f).flatMap fOf
def x9q(w:Way)(f:Pr):List Step:=WB (P1 w f)
theorem K2(w:Way)(f:Pr)(n:Nat)(h:WayT w f n):aP 87 [.ip w.cells] (eSteps (BW w f)):=by
 refine sC B9 func87 ?_;conv=>whnf
 have t:=h.hlen;have v:=h.virt_len;have o:=h.virt_ok;repeat' ((first|refine dA ?_|refine aD ?_|(refine cH [] 0 (Ci w f n h.hw h.hj h.hc h.hn h.hn2 h.hlen h.hr h.htl h.hti) ?_ (hH:=z4x)))<;>conv=>whnf)
 have m:(w.real.map fun s=>AV.agg s.cells).length=w.real.length:=z0s _;have r:(avS (JV w f)).length=(JV w f).length:=by simp[avS]
 refine AppK.mk r.symm rfl (by rw[m];show((JV w f).length+w.real.length)*24<=140737488355328;omega) (by rw[m];show(JV w f).length+w.real.length<=9223372036854775807;omega) (fun x y=>by obtain⟨s,_,rfl⟩:=z1z.1 y;exact⟨rfl,rfl⟩) ?_;conv=>whnf
 have l:avS (JV w f)++(w.real.map fun s=>AV.agg s.cells)=avS (JV w f++w.real):=by simp[avS]
 have q:(JV w f).length+(w.real.map fun s=>AV.agg s.cells).length=(JV w f++w.real).length:=by simp
 rw[l,q];repeat' ((refine cH rH1 0 (Tz (JV w f++w.real) (fun s u=>(z0o.1 u).elim (o s) (h.hok s)) (by rw[z0e];omega)) ?_)<;>conv=>whnf)
 exact⟨_,.hd rfl (by simp[avS]),rfl⟩
def ElS(es es':List AV):Prop:=es'.length=es.length/\∀(m:Nat)(x':AV),es'[m]?=some x'->∃x,es[m]?=some x/\x'.cells.length=x.cells.length/\∀(j:Nat)(c':AV),x'.cells[j]?=some c'->∃c,x.cells[j]?=some c/\Sub c c'
inductive SubH:Heap->Heap->Prop
 |nil:SubH [] []
 |same {c:Nat×Chunk} {H H':Heap} (h:SubH H H'):SubH (c::H) (c::H')
 |M {k:Nat} {e:TypeId} {sz:Nat} {es es':List AV} {H H':Heap} (hp:ElS es es') (h:SubH H H'):SubH ((k,.own e sz es)::H) ((k,.own e sz es')::H')
theorem SubH.get{H H':Heap}(h:SubH H H'):H'.map (·.1)=H.map (·.1)/\∀j c',(j,c')∈H'->(j,c')∈H\/∃e sz es es',(j,Chunk.own e sz es)∈H/\c'=.own e sz es'/\ElS es es':=by
 induction h with
 |nil=>exact⟨rfl,by simp⟩
 | same h o=>
   refine⟨by simp[o.1],fun j c' l=>?_⟩;rcases z1g.1 l with rfl|l
   .exact .inl z1j
   .rcases o.2 j c' l with m|⟨e,sz,es,es',m,q⟩
    .exact .inl (z1x _ m)
    .exact .inr ⟨e,sz,es,es',z1x _ m,q⟩
 | @M k e sz es es' H H' r h o=>
   refine⟨by simp[o.1],fun j c' l=>?_⟩;rcases z1g.1 l with l|l
   .cases l;exact .inr ⟨e,sz,es,es',z1j,rfl,r⟩
   .rcases o.2 j c' l with m|⟨e,sz,es,es',m,q⟩
    .exact .inl (z1x _ m)
    .exact .inr ⟨e,sz,es,es',z1x _ m,q⟩
theorem Le.M{N:Nat}{sl:List (Nat×LV)}{H H':Heap}(h:SubH H H'):Le N ⟨sl,H⟩ ⟨sl,H'⟩:=fun σ β a w l=>by
 obtain⟨t,g⟩:=h.get;refine⟨σ,β,⟨l.size,l.defers,l.G,⟨l.heap.mem,fun j c' o=>?_,by show(H'.map (·.1)).Nodup;rw[t];exact l.heap.nodup,fun j o=>l.heap.apart j (by rw[<-t];exact o),fun j o T A=>l.heap.inj j (by rw[<-t];exact o) T (by rw[<-t];exact A)⟩⟩,Mem.le_refl σ,Frm.refl _ w,fun b K q=>absurd K q,fun b ⟨j,o,r⟩=>.inl ⟨j,by rw[<-t];exact o,r⟩,fun _ _ _=>rfl⟩;rcases g j c' o with q|⟨e,sz,es,es',q,rfl,v⟩
 .exact l.heap.chunks j c' q
 .rcases l.heap.chunks j _ q with⟨y,z⟩|⟨i,vs,y,z,L,O,P,Q,B⟩
  .refine .inl ⟨y,?_⟩;have:=v.1;rw[z]at this;exact z3c this
  .refine .inr ⟨i,vs,y,z,L,O,by rw[v.1];exact P,Q,fun m U R=>?_⟩;obtain⟨x,g1,C,D⟩:=v.2 m U R;refine⟨by rw[C];exact(B m x g1).1,fun j c' g=>?_⟩;obtain⟨c,E,F⟩:=D j c' g;obtain⟨u,I,J⟩:=(B m x g1).2 j c E;exact⟨u,I,F _ _ J⟩
theorem Rel.layI{N:Nat}{σ:Mem}{β:Lab}{s s':St}{a:Act}{w:World}(t:Rel N σ β s a w){k:Nat}{i:BInfo}(I:β k=some i)(M:k∈s.H.map (·.1))(y:∀b,i.has b->∃c e u,w.heap[b]?=some (.cells c e u))(hsl:∀τ:Mem,σ.le τ->(∀b c e u,i.has b->w.heap[b]?=some (.cells c e u)->τ b=some c)->∀j v,RepL σ β (getS s.sl j) v->RepL τ β (getS s'.sl j) v)(C:∀τ:Mem,σ.le τ->∀j c',(j,c')∈s'.H->j≠k/\∃c,(j,c)∈s.H/\(c.holds σ β w j->c'.holds τ β w j))(hnd:(s'.H.map (·.1)).Nodup):
  ∃σ' β',Rel N σ' β' s' a w/\Later σ β s.H w σ' β' s'.H w:=by
 let τ:Mem:=fun b=>@ite _ (i.has b) (Classical.propDecidable _) (match w.heap[b]?with
  |some (.cells c _ _)=>some c
  |_=>none) (σ b)
 have x:∀b c e u,i.has b->w.heap[b]?=some (.cells c e u)->τ b=some c:=fun b c e u l E=>by
  show @ite _ (i.has b) (Classical.propDecidable _) _ _=_;rw[if_pos l,E]
 have o:∀b,¬i.has b->τ b=σ b:=fun b l=>by
  show @ite _ (i.has b) (Classical.propDecidable _) _ _=_;rw[if_neg l]
 have r:σ.le τ:=fun b c l=>by
  rw[o b]
  .exact l
  .intro J;rw[(t.heap.apart k M i I b J).1]at l;cases l
 have m:∀j∈s'.H.map (·.1),j≠k/\j∈s.H.map (·.1):=fun j q=>by
  obtain⟨⟨F,c'⟩,T,rfl⟩:=z1z.1 q;obtain⟨A,c,z,_⟩:=C τ r F c' T;exact⟨A,z1z.2 ⟨_,z,rfl⟩⟩
 refine⟨τ,β,⟨t.size,t.defers,fun j=>hsl τ r x j _ (t.G j),⟨fun b c l=>?_,fun j c' q=>?_,hnd,fun j q O D b l=>?_,fun j q F K=>t.heap.inj j (m j q).2 F (m F K).2⟩⟩,r,Frm.refl _ _,fun b l B=>.inl ?_,fun b ⟨j,q,L⟩=>.inl ⟨j,(m j q).2,L⟩,fun _ _ _=>rfl⟩
 .by_cases g:i.has b
  .obtain ⟨P,e,u,E⟩:=y b g;rw[x b P e u g E]at l;cases l;exact⟨_,_,E⟩
  .rw [o b g]at l;exact t.heap.mem b c l
 .obtain ⟨_,c,z,Q⟩:=C τ r j c' q;exact Q (t.heap.chunks j c z)
 .have A:=m j q;have z:=t.heap.apart j A.2 O D b l;refine⟨?_,z.2⟩;rw[o b fun R=>A.1 (t.heap.inj j A.2 k M O i D I b l R)];exact z.1
 .by_cases g:i.has b
  .exact ⟨k,M,i,I,g⟩
  .rw [o b g]at B;exact absurd l B
theorem q2c{N:Nat}{y:List (Nat×LV)}{H H':Heap}{k:Nat}{e e2:TypeId}{sz:Nat}{rows:List (List AV)}(hg:getH H k=some (.ext (.mat e e2 sz rows [])))(hsl:∀i,getS y i=(getS sl i).kill k\/(getS sl i=.hd k 0 rows.length/\getS y i=.p (.sl (rows.map .sl))))(h:(H'.map (·.1)).Sublist (H.map (·.1)))(hH:∀j c',(j,c')∈H'->j≠k/\(j,c')∈H/\c'.kill k=c'):Le N ⟨sl,H⟩ ⟨y,H'⟩:=fun σ β a w s=>by
 have M:=QT hg;rcases s.heap.chunks k _ (QD hg)with⟨T,Z⟩|⟨i,vs,U,h1,h2,h3,h4,h5,h6,h7,h8⟩
 ·refine⟨σ,β,⟨s.size,s.defers,fun j=>?_,⟨s.heap.mem,fun j c' l=>?_,h.nodup s.heap.nodup,fun j l=>s.heap.apart j (h.subset l),fun j l j' V=>s.heap.inj j (h.subset l) j' (h.subset V)⟩⟩,Mem.le_refl σ,Frm.refl _ _,fun _ h0 h1=>absurd h0 h1,fun b ⟨j,l,r⟩=>.inl ⟨j,h.subset l,r⟩,fun _ _ _=>rfl⟩
  ·show RepL σ β (getS y j) _;have t:=s.G j;rcases hsl j with E|⟨g1,C⟩
   ·rw[E];exact t.kill k
   ·rw[C];have t:RepL σ β (getS sl j) _:=t;rw[g1]at t;rcases t.hdI with⟨_,_,_,E⟩|⟨i,_,M,_⟩
    ·rw[E,Z];exact .p .nilsl
    ·rw[T]at M;cases M
  ·exact s.heap.chunks j c' (hH j c' l).2.1
 ·have J:∀(b c B:Nat),i.subs[B]?=some (some (b,c))->∃ws,w.heap[b]?=some (.cells ws e2 (0,0)):=fun b c B K=>by
   have ha:B<rows.length:=by rw[<-h6];exact(z1k.1 K).1
   rcases(h8 B _ (z0c ha)).2 (by simp)with⟨d,_⟩|⟨b',c',ws,d,_,L,_⟩
   ·rw[K]at d;cases d
   ·rw[K]at d;cases d;exact⟨ws,L⟩
  refine s.layI U M (fun b R=>?_) (fun τ z hτ j v t=>?_) (fun τ z j c' l=>?_) (h.nodup s.heap.nodup)
  ·rcases R with rfl|⟨c,R⟩
   ·exact⟨_,_,_,h2⟩
   ·obtain⟨B,Q,K⟩:=z2e.1 R;obtain⟨ws,hw⟩:=J b c B (by rw[z0c Q,K]);exact⟨_,_,_,hw⟩
  ·show RepL τ β (getS y j) v;have t:RepL σ β (getS sl j) v:=t;rcases hsl j with E|⟨g1,C⟩
   ·rw[E];exact(t.kill k).mono z
   ·rw [C];rw[g1]at t;rcases t.hdI with⟨q,_⟩|⟨i',oo,q,hl,O,rfl⟩
    ·rw[U]at q;cases q
    ·rw [U]at q;cases q;have Y:oo=0:=by
      rcases O with O|O
      ·simpa using O
      ·omega
     subst Y;have A:∀(m:Nat)(x:AV),(rows.map AV.sl)[m]?=some x->∃row,rows[m]?=some row/\x=.sl row:=fun m x n=>by
      rw[z1u]at n;cases hq:rows[m]?with
      |none=>rw[hq]at n;cases n
      |some row=>rw[hq]at n;cases n;exact⟨row,rfl,rfl⟩
     have o:∀(m:Nat)(row:List AV),rows[m]?=some row->∃u,vs[m]?=some u/\Rep τ (.sl row) u:=fun m row hm=>by
      rcases(h8 m row hm).2 (by simp)with⟨d,rfl,L⟩|⟨b,c,ws,d,q2,L,q4,q5,q6,q7⟩
      ·exact⟨_,L,.nilsl⟩
      ·refine⟨_,q2,.sl row b 0 c sz ws (fun m j=>(ws[m*sz+j]?).getD undef) (hτ b ws _ _ (.inr ⟨c,z1d d⟩) L) q5 q6 (fun m x n=>(q7 m x n).1) (fun m x j c' n l=>?_) fun m x j c' n l=>?_⟩
       ·obtain⟨u,r4,_⟩:=(q7 m x n).2 j c' l;simp[r4]
       ·obtain⟨u,r4,r5⟩:=(q7 m x n).2 j c' l;simpa[r4]using r5.mono z
     have F:Rep τ (.sl (rows.map .sl)) (.slice (some ⟨i.blk,0,none⟩) (rows.map AV.sl).length i.cap):=by
      refine .sl (rows.map .sl) i.blk 0 i.cap 1 vs (fun m j=>(vs[m*1+j]?).getD undef) (hτ _ _ _ _ i.has_blk h2) (by simpa using h4) h5 (fun m x n=>?_) (fun m x j c' n l=>?_) fun m x j c' n l=>?_
      ·obtain⟨row,_,rfl⟩:=A m x n;rfl
      ·obtain⟨row,D,rfl⟩:=A m x n;obtain⟨u,P,g5⟩:=o m row D;have g:j=0:=by
        have:=(z1k.1 l).1;simpa[AV.cells]using this
       subst g;simp[P]
      ·obtain⟨row,D,rfl⟩:=A m x n;obtain⟨u,P,g5⟩:=o m row D;have g:j=0:=by
        have:=(z1k.1 l).1;simpa[AV.cells]using this
       subst g;cases l;simpa[P]using g5
     have:RepL τ β (.p (.sl (rows.map .sl))) (.slice (some ⟨i.blk,0,none⟩) (rows.map AV.sl).length i.cap):=.p F;simpa using this
  ·obtain⟨g1,C,D⟩:=hH j c' l;refine⟨g1,c',C,fun I=>?_⟩;have:=(I.kill k).mono z fun _ _ _ _=>rfl
   rwa[D]at this
def nxE(rows:List (List Int))(t:Int×Int):List (List Int):=rows.set t.1.toNat (rows.getD t.1.toNat []++[t.2])
def Vj(n:Nat)(l:List (Int×Int)):List (List Int):=l.foldl nxE (List.replicate n [])
def OL(rows:List (List Int))(t:Int×Int):(nxE rows t).length=rows.length:=z3e
theorem Tu:∀(l:List (Int×Int))(rows:List (List Int)),(l.foldl nxE rows).length=rows.length
 |[],_=>rfl
 |t::r,rows=>by rw[z4d,Tu r,OL]
def D9(n:Nat)(l:List (Int×Int)):(Vj n l).length=n:=by
 unfold Vj;rw[Tu,z2o]
theorem Tv:∀(l:List (Int×Int))(rows:List (List Int))(a:Nat),((l.foldl nxE rows).getD a []).length<=(rows.getD a []).length+l.length
 |[],_,_=>z1l _
 | t::r,rows,a=>by
   rw[z4d];have n:=Tv r (nxE rows t) a;have o:((nxE rows t).getD a []).length<=(rows.getD a []).length+1:=by
    unfold nxE;simp only[z0a,z5i];by_cases h:t.1.toNat=a
    ·subst h;by_cases m:t.1.toNat<rows.length
     ·simp[m]
     ·simp[m]
    ·simp[h]
   rw[z2k];omega
theorem TH(n:Nat)(l:List (Int×Int))(a:Nat):((Vj n l).getD a []).length<=l.length:=by
 have:=Tv l (List.replicate n []) a;have e:((List.replicate n ([]:List Int)).getD a []).length=0:=by
  rw[z0a,z2q];split<;>rfl
 unfold Vj;omega
inductive SlRel(P:LV->LV->Prop):List (Nat×LV)->List (Nat×LV)->Prop
 |nil:SlRel P [] []
 |cons {j:Nat} {l l':LV} {r r':List (Nat×LV)} (h:P l l') (hr:SlRel P r r'):SlRel P ((j,l)::r) ((j,l')::r')
theorem SlRel.get{P:LV->LV->Prop}(o:P (.p .any) (.p .any)){m:List (Nat×LV)}(h:SlRel P sl m)(i:Nat):P (getS sl i) (getS m i):=by
 induction h with
 |nil=>exact o
 | @cons j l l' r u h t q=>
   simp only[getS];cases j==i with
   |true=>exact h
   |false=>exact q
def OB{h:Nat}(n:Nat)(l:(sl.all fun x=>x.2.xfree 0)=true):
  Le h ⟨sl,[(0,.own 54 1 (List.replicate n .nils))]⟩ ⟨sl,[(0,.ext (.mat 54 3 1 (List.replicate n []) []))]⟩:=by
 have m:=Wy (N:=h) (sl:=sl) (H:=[(0,.own 54 1 (List.replicate n .nils))])
  (H':=[(0,.ext (.mat 54 3 1 (List.replicate (List.replicate n AV.nils).length []) []))])
  0 3 1 (e:=54) (es:=List.replicate n .nils) rfl (fun x o=>z4j o) rfl l rfl rfl (by simp[DK])
 simpa using m
theorem Lm{p:Pg}(h:QM p=true){j:Nat}{f:Pr}(o:p.A[j]?=some f){k:Nat}{it:Item}(r:QL p.A j<=k)(u:k<QL p.A j+QY f.body)(q:(sheetOf p).l[k]?=some it):it.s.id=(k:Int)+1:=by
 obtain⟨t,_,m,n⟩:=PR h o (a:=(k:Int)+1) (by omega) (by omega);unfold q8c at m;rw[show((k:Int)+1-1).toNat=k by omega,q]at m;cases m;exact n
theorem TB{n:Nat}{part:List Int}(v:∀k,k<n->0<=part.getD k 0/\part.getD k 0<n){i:Nat}(w:i<n):∀(l:List (Int×Int)){o:List Bool},o.length=n->(∀t∈l,0<=t.1/\t.1<n)->
  ((l.foldl (Yg part) o).getD i false=true↔o.getD i false=true\/∃t∈l,part.getD t.1.toNat 0≠part.getD t.2.toNat 0/\part.getD t.1.toNat 0=i)
 |[],o,_,_=>by simp
 | t::r,o,ho,hr=>by
   rw [z4d,TB v w r (by rw[TN];exact ho) fun u m=>hr u (z1x _ m)];have x:=hr t z1j;have y:=v t.1.toNat (by omega);have key:(Yg part o t).getD i false=true↔o.getD i false=true\/(part.getD t.1.toNat 0≠part.getD t.2.toNat 0/\part.getD t.1.toNat 0=i):=by
    unfold Yg;split
    ·rename_i s;constructor
     ·exact .inl
     ·rintro(h|⟨h,_⟩)
      ·exact h
      ·exact absurd s h
    ·rename_i s;rw[WQ (by omega)];split
     ·rename_i h;constructor
      ·intro _;exact .inr ⟨s,by omega⟩
      ·intro _;rfl
     ·rename_i h;constructor
      ·exact .inl
      ·rintro(q|⟨_,q⟩)
       ·exact q
       ·exact absurd (by omega) h
   rw[key,or_assoc];constructor
   ·rintro(h|⟨h,q⟩|⟨u,m,h⟩)
    ·exact .inl h
    ·exact .inr ⟨t,z1j,h,q⟩
    ·exact .inr ⟨u,z1x _ m,h⟩
   ·rintro(h|⟨u,m,h⟩)
    ·exact .inl h
    ·rcases z1g.1 m with rfl|m
     ·exact .inr (.inl h)
     ·exact .inr (.inr ⟨u,m,h⟩)
theorem q5a{n:Nat}{part:List Int}(q:0<n)(m:∀k,k<n->0<=part.getD k 0/\part.getD k 0<n)(o:i<n){l:List (Int×Int)}(r:∀t∈l,0<=t.1/\t.1<n):
  (Kg n part l).getD i false=true↔part.getD 0 0=i\/part.getD (n-1) 0=i\/∃t∈l,part.getD t.1.toNat 0≠part.getD t.2.toNat 0/\part.getD t.1.toNat 0=i:=by
 have s:=m 0 q;have u:=m (n-1) (by omega);unfold Kg;rw[TB m o l (by simp[Bf]) r];have key:(Bf n part).getD i false=true↔part.getD 0 0=i\/part.getD (n-1) 0=i:=by
  unfold Bf;rw[WQ (by rw[z3e,z2o];omega),WQ (by rw[z2o];omega)];split
  ·exact⟨fun _=>.inr (by omega),fun _=>rfl⟩
  ·split
   ·exact⟨fun _=>.inl (by omega),fun _=>rfl⟩
   ·have:(List.replicate n false).getD i false=false:=by
     rw[z0a,z2q];split<;>rfl
    rw[this];constructor
    ·intro h;cases h
    ·rintro(h|h)<;>omega
 rw[key,or_assoc]
section
variable {p:Pg}{j:Nat}{f:Pr}
theorem FF{i:Int}(h:0<=i/\i<(QY f.body+2:Nat)):plP p j f (QH p j (QY f.body+2:Nat) i)/\ixI p j f (QH p j (QY f.body+2:Nat) i)=i:=by
 unfold QH ixI VO plP loI hiI;constructor
 ·(repeat' split)<;>omega
 ·(repeat' split)<;>omega
def PD{x:Int}(h:plP p j f x):QH p j (QY f.body+2:Nat) (ixI p j f x)=x:=by
 have l:=FF (p:=p) (j:=j) (f:=f) (ZO h);exact UP l.1 h l.2
def Lj:prsW (QQ p j f) f=(QQ p j f).real.map (ixP p j f (QY f.body+2:Nat)):=rfl
def q8b(h:QM p=true)(o:p.A[j]?=some f):∀t∈prsW (QQ p j f) f,(0<=t.1/\t.1<(QY f.body+2:Nat))/\0<=t.2/\t.2<(QY f.body+2:Nat):=fun t l=>by
 rw[Lj]at l;obtain⟨s,q,rfl⟩:=z1z.1 l;obtain⟨m,n⟩:=YX h o s q;exact⟨ZO m,ZO n⟩
def wE(p:Pg)(j:Nat)(f:Pr):Int->Int->Prop:=rowE (QE (QY f.body+2) (prsW (QQ p j f) f)).1
def wR(p:Pg)(j:Nat)(f:Pr):Int->Int->Prop:=stR (QQ p j f).real
def x3g(h:QM p=true)(q:p.A[j]?=some f){i k:Int}:wE p j f i k ↔ ∃a b,wR p j f a b/\ixI p j f a=i/\ixI p j f b=k:=by
 unfold wE wR;rw[BJ];constructor
 .rintro ⟨l,_,_⟩;rw[Lj]at l;obtain⟨s,m,n⟩:=z1z.1 l;exact⟨s.src,s.dst,⟨s,m,rfl,rfl⟩,z2b Prod.fst n,z2b Prod.snd n⟩
 .rintro ⟨a,b,⟨s,m,rfl,rfl⟩,rfl,rfl⟩;obtain⟨l,o⟩:=YX h q s m;exact⟨z1z.2 ⟨s,m,rfl⟩,ME (ZO l),ME (ZO o)⟩
def x3w(h:QM p=true)(l:p.A[j]?=some f){b:Int}(m:wR p j f a b):plP p j f a/\plP p j f b:=by
 obtain⟨s,n,rfl,rfl⟩:=m;exact YX h l s n
def x4i(h:QM p=true)(m:p.A[j]?=some f){b:Int}(ha:plP p j f a)(n:Rch (wR p j f) a b):plP p j f b:=
 n.closed (S:=plP p j f) (fun _ _ _ l=>(x3w h m l).2) ha
def q8n(h:QM p=true)(o:p.A[j]?=some f){b:Int}(ha:plP p j f a)(w:plP p j f b):Rch (wE p j f) (ixI p j f a) (ixI p j f b)↔Rch (wR p j f) a b:=by
 constructor
 .intro q;obtain⟨c,n,m,l⟩:=q.closed (S:=fun k=>∃c,plP p j f c/\ixI p j f c=k/\Rch (wR p j f) a c) (by
   rintro i k ⟨c,n,m,l⟩ t;obtain⟨x,y,r,u,v⟩:=(x3g h o).1 t;have s:=x3w h o r;have:x=c:=UP s.1 n (by rw[u,m]);subst this;exact⟨y,s.2,v,.tail l r⟩) ⟨a,ha,rfl,.refl⟩
  rw[<-UP n w m];exact l
 .intro q;exact(q.closed (S:=fun c=>plP p j f c/\Rch (wE p j f) (ixI p j f a) (ixI p j f c)) (fun x y ⟨n,m⟩ l=>⟨(x3w h o l).2,.tail m ((x3g h o).2 ⟨x,y,l,rfl,rfl⟩)⟩) ⟨ha,.refl⟩).2
def q8r(h:QM p=true)(m:p.A[j]?=some f){b:Int}(ha:plP p j f a)(l:plP p j f b):sccP (wE p j f) (ixI p j f a) (ixI p j f b)↔sccP (wR p j f) a b:=by
 unfold sccP;rw[q8n h m ha l,q8n h m l ha]
def DH(p:Pg)(j:Nat)(f:Pr)(i:Int):Int:=(VF (QQ p j f) f).getD i.toNat 0
def Dw:VF (QQ p j f) f=Yf (QY f.body+2) (QE (QY f.body+2) (prsW (QQ p j f) f)).1:=rfl
def Vg{i:Int}(h:0<=i/\i<(QY f.body+2:Nat)):MinP (wE p j f) i (DH p j f i):=by
 unfold DH;rw[Dw];exact Yd (HH _ _).1 h
def Ap{k:Nat}(h:k<QY f.body+2):0<=(VF (QQ p j f) f).getD k 0/\(VF (QQ p j f) f).getD k 0<(QY f.body+2:Nat):=by
 rw[Dw];exact Ad (HH _ _).1 h
def Gu:(VF (QQ p j f) f).length=QY f.body+2:=by rw[Dw,LW]
theorem MinP.same{E:Int->Int->Prop}{x y v:Int}(h:MinP E x v)(l:sccP E x y):MinP E y v:=⟨l.symm.trans h.scc,fun z m=>h.le z (l.trans m)⟩
def q6x{i k:Int}(n:0<=i/\i<(QY f.body+2:Nat))(o:0<=k/\k<(QY f.body+2:Nat)):DH p j f i=DH p j f k↔sccP (wE p j f) i k:=by
 have l:=Vg (p:=p) (j:=j) n;have h:=Vg (p:=p) (j:=j) o;constructor
 .intro m;rw[<-m]at h;exact l.scc.trans h.scc.symm
 .intro q;exact(l.same q).uniq h
def DF(h:QM p=true)(m:p.A[j]?=some f){b:Int}(ha:plP p j f a)(l:plP p j f b):DH p j f (ixI p j f a)=DH p j f (ixI p j f b)↔sccP (wR p j f) a b:=by
 rw[q6x (ZO ha) (ZO l),q8r h m ha l]
structure TrapP(p:Pg)(j:Nat)(f:Pr)(l:List Int)(r:Int):Prop where
 pl:plP p j f r
 mem:∀b,b∈l↔plP p j f b/\sccP (wR p j f) r b
 cl:∀b c,sccP (wR p j f) r b->wR p j f b c->sccP (wR p j f) r c
 n0:¬sccP (wR p j f) r 0
 nx:¬sccP (wR p j f) r (-1)
def Da{l:Int->Int}{part:List Int}{q:Nat}{b:Int}:b∈BP l part i q ↔ ∃k:Nat,k<q/\part.getD k 0=i/\l k=b:=by
 unfold BP;constructor
 .intro h;obtain⟨k,o,rfl⟩:=z1z.1 h;obtain⟨m,n⟩:=z2u.1 o;exact⟨k,z2h.1 m,z4n.1 n,rfl⟩
 .rintro ⟨k,m,n,rfl⟩;exact z1z.2 ⟨k,z2u.2 ⟨z2h.2 m,z4n.2 n⟩,rfl⟩
def ix0:ixI p j f 0=0:=by unfold ixI VO;rw[if_pos rfl]
theorem ix1:ixI p j f (-1)=((QY f.body+2:Nat):Int)-1:=by unfold ixI VO;rw[if_neg (by omega),if_pos rfl]
def pl0:plP p j f 0:=.inl rfl
def pl1:plP p j f (-1):=.inr (.inl rfl)
def Vh(k:Nat):(VF (QQ p j f) f).getD k 0=DH p j f k:=by
 unfold DH;rw[z3y]
theorem OC(h:QM p=true)(l:p.A[j]?=some f)(z:i<QY f.body+2):(Kg (QY f.body+2) (VF (QQ p j f) f) (prsW (QQ p j f) f)).getD i false=true ↔
  DH p j f (ixI p j f 0)=i\/DH p j f (ixI p j f (-1))=i\/∃a b,wR p j f a b/\¬sccP (wR p j f) a b/\DH p j f (ixI p j f a)=i:=by
 rw[q5a (by omega) (fun k c=>Ap c) z fun t n=>(q8b h l t n).1,ix0,ix1];have x:(VF (QQ p j f) f).getD (QY f.body+2-1) 0=DH p j f (((QY f.body+2:Nat):Int)-1):=by
  unfold DH;congr 1;omega
 have w:(VF (QQ p j f) f).getD 0 0=DH p j f 0:=rfl;rw[w,x];refine or_congr z8v (or_congr z8v ?_);constructor
 ·rintro⟨t,n,o,q⟩;rw[Lj]at n;obtain⟨s,m,rfl⟩:=z1z.1 n;obtain⟨r,u⟩:=YX h l s m;exact⟨s.src,s.dst,⟨s,m,rfl,rfl⟩,fun v=>o ((DF h l r u).2 v),q⟩
 ·rintro⟨a,b,⟨s,m,rfl,rfl⟩,o,q⟩;obtain⟨r,u⟩:=YX h l s m;exact⟨ixP p j f (QY f.body+2:Nat) s,by rw[Lj];exact z1z.2 ⟨s,m,rfl⟩,fun y=>o ((DF h l r u).1 y),q⟩
def U1{l:List Int}:l∈trapsW (QQ p j f) f ↔ ∃i:Nat,i<QY f.body+2/\DH p j f i=i/\(Kg (QY f.body+2) (VF (QQ p j f) f) (prsW (QQ p j f) f)).getD i false=false/\l=BP (QH p j (QY f.body+2:Nat)) (VF (QQ p j f) f) i (QY f.body+2):=by
 unfold trapsW Zf;rw[Gu];constructor
 .intro q;obtain⟨i,o,rfl⟩:=z1z.1 q;obtain⟨m,h⟩:=z2u.1 o;unfold U0 at h;rw[z1p,z4n,z4w,Vh]at h;exact⟨i,z2h.1 m,h.1,h.2,rfl⟩
 .rintro ⟨i,m,h,n,rfl⟩;refine z1z.2 ⟨i,z2u.2 ⟨z2h.2 m,?_⟩,rfl⟩;unfold U0;rw[z1p,z4n,z4w,Vh];exact⟨h,n⟩
theorem AL(h:QM p=true)(r:p.A[j]?=some f)(u:i<QY f.body+2)(s:DH p j f i=i)(b:Int):
  b∈BP (QH p j (QY f.body+2:Nat)) (VF (QQ p j f) f) i (QY f.body+2)↔plP p j f b/\sccP (wR p j f) (QH p j (QY f.body+2:Nat) i) b:=by
 obtain⟨o,q⟩:=FF (p:=p) (j:=j) (f:=f) (i:=i) (by omega);rw[Da];constructor
 ·rintro⟨k,l,m,rfl⟩;obtain⟨n,t⟩:=FF (p:=p) (j:=j) (f:=f) (i:=k) (by omega);refine⟨n,(DF h r o n).1 ?_⟩;rw[q,t,s,<-Vh,m]
 ·rintro⟨l,m⟩;have n:=ZO l;refine⟨(ixI p j f b).toNat,by omega,?_,?_⟩
  ·rw[Vh,show(((ixI p j f b).toNat:Nat):Int)=ixI p j f b by omega,<-(DF h r o l).2 m,q,s]
  ·rw[show(((ixI p j f b).toNat:Nat):Int)=ixI p j f b by omega,PD l]
theorem Sy(h:QM p=true)(o:p.A[j]?=some f){l:List Int}(d:l∈trapsW (QQ p j f) f):∃r,TrapP p j f l r:=by
 obtain⟨i,w,x,e,rfl⟩:=U1.1 d;obtain⟨t,y⟩:=FF (p:=p) (j:=j) (f:=f) (i:=i) (by omega);have m:¬_:=fun g=>by
  have:=(OC h o w).2 g;rw[e]at this;cases this
 have n:DH p j f (ixI p j f (QH p j (QY f.body+2:Nat) i))=i:=by rw[y,x]
 refine⟨_,t,AL h o w x,fun b c v q=>?_,fun u=>m (.inl ?_),fun u=>m (.inr (.inl ?_))⟩
 ·have z:=x3w h o q;by_cases s:sccP (wR p j f) b c
  ·exact v.trans s
  ·refine absurd (.inr (.inr ⟨b,c,q,s,?_⟩)) m;rw[<-(DF h o t z.1).2 v,n]
 ·rw[<-(DF h o t pl0).2 u,n]
 ·rw[<-(DF h o t pl1).2 u,n]
theorem x2g(h:QM p=true)(n:p.A[j]?=some f){r:Int}(s:plP p j f r)(y:∀b c,sccP (wR p j f) r b->wR p j f b c->sccP (wR p j f) r c)(d:¬sccP (wR p j f) r 0)(H:¬sccP (wR p j f) r (-1)):
  ∃l∈trapsW (QQ p j f) f,∀b,b∈l↔plP p j f b/\sccP (wR p j f) r b:=by
 have e:=ZO s;have u:=Vg (p:=p) (j:=j) (f:=f) e;have g:=Ap (p:=p) (j:=j) (f:=f) (k:=(ixI p j f r).toNat) (by omega);have x:0<=DH p j f (ixI p j f r)/\DH p j f (ixI p j f r)<(QY f.body+2:Nat):=g;generalize F:DH p j f (ixI p j f r)=v at u x;obtain⟨B,C⟩:=FF (p:=p) (j:=j) (f:=f) (i:=v) x;have z:sccP (wR p j f) r (QH p j (QY f.body+2:Nat) v):=(q8r h n s B).1 (by rw[C];exact u.scc);have q:DH p j f v=v:=(Vg (p:=p) (j:=j) (f:=f) x).uniq (u.same u.scc);have t:((v.toNat:Nat):Int)=v:=by omega
 refine⟨_,U1.2 ⟨v.toNat,by omega,by rw[t];exact q,?_,rfl⟩,fun b=>?_⟩
 ·cases G:(Kg (QY f.body+2) (VF (QQ p j f) f) (prsW (QQ p j f) f)).getD v.toNat false with
  |false=>rfl
  | true=>
    have:=(OC h n (by omega)).1 G;rw[t,<-F]at this;rcases this with m|m|⟨a,b,m,D,E⟩
    ·exact absurd ((DF h n s pl0).1 m.symm) d
    ·exact absurd ((DF h n s pl1).1 m.symm) H
    ·have w:=x3w h n m;have o:=(DF h n s w.1).1 E.symm;exact absurd (o.symm.trans (y a b o m)) D
 ·rw[AL h n (by omega) (by rw[t];exact q),t];exact and_congr z8v ⟨fun m=>z.trans m,fun m=>z.symm.trans m⟩
end
theorem AX{p:Pg}{j:Nat}{f:Pr}(o:p.A[j]?=some f)(n:cntP p.A<=200):(QQ p j f).real.length<=100000:=by
 obtain⟨_,_,_,l,h⟩:=QK p;obtain⟨_,_,q,_⟩:=h j f o;have r:=TF (QN p j f);have m:=LF p j f;show(WB (QN p j f)).length<=100000;omega
theorem Aj{p:Pg}(h:QM p=true){j:Nat}{f:Pr}(o:p.A[j]?=some f):∀it∈itsOf p j f,∀s∈fOf it,okSt s:=fun it n s l=>by
 obtain⟨v,_⟩:=QV h;obtain⟨_,_,t⟩:=XF h;obtain⟨_,_,_,q,m⟩:=QK p;obtain⟨_,_,u,_⟩:=m j f o;have w:=ZX v o (X2 n);have r:=(Yu n).1;unfold fOf at l;split at l
 ·rw[z0i.1 l];unfold okI at r;unfold okSt;constructor
  ·show it.s.id≠_;omega
  ·show it.next≠_;omega
 ·cases l
def R5{p:Pg}(h:QM p=true){j:Nat}{f:Pr}(t:p.A[j]?=some f){l:List Int}(s:l∈trapsW (QQ p j f) f):l.length<=QY f.body+2/\∀id∈l,(QL p.A j:Int)+1<=id/\id<=(QL p.A j+QY f.body:Nat):=by
 constructor
 .obtain ⟨i,_,_,_,rfl⟩:=U1.1 s;exact Su _ _ _ _
 .intro id n;obtain⟨r,o⟩:=Sy h t s;obtain⟨m,q⟩:=(o.mem id).1 n;rcases m with rfl|rfl|m
  .exact absurd q o.n0
  .exact absurd q o.nx
  .exact m
theorem x2e{p:Pg}(h:QM p=true){j:Nat}{f:Pr}(m:p.A[j]?=some f):WayT (QQ p j f) f (QY f.body+2):=by
 obtain⟨_,_,n⟩:=XF h;obtain⟨_,_,_,r,q⟩:=QK p;obtain⟨_,_,v,_⟩:=q j f m;refine⟨rfl,m,by show cntP p.A<=1000;omega,by omega,by omega,z2g (AX m n) (by decide),q8b h m,?_,fun l u=>?_,fun s w=>(MD h m).2.2 s (((HP h m).2 s).1 w),Aj h m⟩
 ·have:=Sv (QH p j (QY f.body+2:Nat)) (VF (QQ p j f) f) (Kg (QY f.body+2) (VF (QQ p j f) f) (prsW (QQ p j f) f)) (QY f.body+2);have e:trapsW (QQ p j f) f=Zf (QH p j (QY f.body+2:Nat)) (VF (QQ p j f) f) (Kg (QY f.body+2) (VF (QQ p j f) f) (prsW (QQ p j f) f)) (QY f.body+2):=by
   unfold trapsW;rw[Gu];rfl
  rw[e];omega
 ·obtain⟨x,t⟩:=R5 h m u;refine⟨by omega,fun id o=>?_⟩;have:=t id o;show 1<=id/\id<=(sheetOf p).l.length;omega
def augO(p:Pg)(n:Str):List Step:=match Zc p n with
 | some w=>(match w.p.A[w.j]?with
   |some f=>x9q w f
   |none=>[])
 |none=>[]
def ZU(p:Pg)(n:Str):List Step:=match Zc p n with
 | some w=>(match w.p.A[w.j]?with
   |some f=>BW w f
   |none=>[])
 |none=>[]
def P9{p:Pg}{n:Str}{k:Nat}{f:Pr}(m:Zc p n=some (QQ p k f))(l:p.A[k]?=some f):ZU p n=BW (QQ p k f) f:=by
 have h:(QQ p k f).p.A[(QQ p k f).j]?=some f:=l;unfold ZU;rw[m];simp only;rw[h]
def Ek{p:Pg}{n:Str}(h:Zc p n=none):ZU p n=[]:=by
 unfold ZU;rw[h]
instance (a b:Step):Decidable (Vz a b):=inferInstanceAs (Decidable (_\/_))
instance:DecidableEq Step:=fun a b=>decidable_of_iff (a.src=b.src/\a.dst=b.dst/\a.kind=b.kind) ⟨fun h=>JC h.1 h.2.1 h.2.2,fun h=>by rw[h];exact⟨rfl,rfl,rfl⟩⟩
theorem x1e{a b:Step}(ha:okSt a)(l:okSt b)(h:NY b a=false):(a.src=b.src/\a.dst=b.dst/\a.kind<=b.kind)\/Vz a b:=by
 rw[z6o,ne_eq,BB]at h;unfold Vz;by_cases m:QS a.src=QS b.src
 ·by_cases n:QS a.dst=QS b.dst
  ·exact .inl ⟨KN ha.1 l.1 m,KN ha.2 l.2 n,by omega⟩
  ·exact .inr (by omega)
 ·exact .inr (by omega)
theorem Jf:∀(l:List Step)(a:Step),okSt a->(∀s∈l,okSt s)->(a::l).Pairwise (fun a b=>NY b a=false)->
  (∀s∈XN a l,Vz a s)/\(XN a l).Pairwise Vz/\(∀s∈XN a l,s∈l)/\∀s∈l,(s.src=a.src/\s.dst=a.dst/\a.kind<=s.kind)\/∃s'∈XN a l,s'.src=s.src/\s'.dst=s.dst/\s'.kind<=s.kind
 |[],a,_,_,_=>by simp[XN]
 | b::r,a,ha,hl,h=>by
   have x:=hl b z1j;have A:∀s∈r,okSt s:=fun s o=>hl s (z1x _ o);rw[z4s]at h;obtain⟨d,e⟩:=h;obtain⟨v,y,z,c⟩:=Jf r b x A e;have t:=x1e ha x (d b z1j);rw[XN];cases o:WX b a with
   | true=>
     unfold WX at o;simp only[z1p,z2z]at o;have g:a.kind<=b.kind:=by
      rcases t with n|n
      ·exact n.2.2
      ·unfold Vz at n;rw[o.1,o.2]at n;omega
     rw[z1n];refine⟨fun s m=>?_,y,fun s m=>z1x _ (z s m),fun s m=>?_⟩
     ·have:=v s m;unfold Vz at this⊢
      rwa[<-o.1,<-o.2]
     ·rcases z1g.1 m with rfl|m
      ·exact .inl ⟨o.1,o.2,g⟩
      ·rcases c s m with⟨n,q,w⟩|n
       ·exact .inl ⟨by rw[n,o.1],by rw[q,o.2],by omega⟩
       ·exact .inr n
   | false=>
     have u:Vz a b:=by
      rcases t with n|n
      ·unfold WX at o;simp[n.1,n.2.1]at o
      ·exact n
     rw[z1o];refine⟨fun s m=>?_,z4s.2 ⟨v,y⟩,fun s m=>?_,fun s m=>?_⟩
     ·rcases z1g.1 m with rfl|m
      ·exact u
      ·exact Yy u (v s m)
     ·rcases z1g.1 m with rfl|m
      ·exact z1j
      ·exact z1x _ (z s m)
     ·rcases z1g.1 m with rfl|m
      ·exact .inr ⟨s,z1j,rfl,rfl,z8d _⟩
      ·rcases c s m with⟨n,q,w⟩|⟨s',n,q⟩
       ·exact .inr ⟨b,z1j,n.symm,q.symm,w⟩
       ·exact .inr ⟨s',z1x _ n,q⟩
def BH{l:List Step}(v:∀s∈l,okSt s):(WB l).Pairwise Vz/\(∀s∈WB l,s∈l)/\∀s∈l,∃s'∈WB l,s'.src=s.src/\s'.dst=s.dst/\s'.kind<=s.kind:=by
 have o:∀s,s∈GH l↔s∈l:=fun s=>(Ds l).mem_iff;have q:=Ve l;unfold WB;cases w:GH l with
 | nil=>
   rw[w]at o;refine⟨by simp[Z3],by simp[Z3],fun s q=>?_⟩;have:=(o s).2 q;cases this
 | cons a r=>
   rw[w]at o q;have n:∀s∈a::r,okSt s:=fun s h=>v s ((o s).1 h);obtain⟨x,y,z,b⟩:=Jf r a (n a z1j) (fun s h=>n s (z1x _ h)) q;rw[Z3];refine⟨z4s.2 ⟨x,y⟩,fun s m=>?_,fun s m=>?_⟩
   .rcases z1g.1 m with rfl|m
    .exact (o s).1 z1j
    .exact (o s).1 (z1x _ (z s m))
   .rcases z1g.1 ((o s).2 m)with rfl|m
    .exact ⟨s,z1j,rfl,rfl,z8d _⟩
    .rcases b s m with⟨t,u,c⟩|⟨s',t,u⟩
     .exact ⟨a,z1j,t.symm,u.symm,c⟩
     .exact ⟨s',z1x _ t,u⟩
theorem OG{l:List Step}(h:l.Pairwise Vz){a b:Step}(ha:a∈l)(u:b∈l)(s:a.src=b.src)(t:a.dst=b.dst):a=b:=by
 have w:∀{x y:Step},x.src=y.src->x.dst=y.dst->¬Vz x y:=fun {x y} q e2 o=>by
  unfold Vz at o;rw[q,e2]at o;omega
 induction h with
 |nil=>cases ha
 | @cons c r v d z=>
   rcases z1g.1 ha with q|n
   ·rcases z1g.1 u with e2|m
    ·rw[q,e2]
    ·exact absurd (v b m) (by rw[<-q];exact w s t)
   ·rcases z1g.1 u with e2|m
    ·exact absurd (v a n) (by rw[<-e2];exact w s.symm t.symm)
    ·exact z n m
theorem Gz{l m:List Step}(u:∀s∈l,okSt s)(x:m.Pairwise Vz)(y:∀s∈m,s∈l)(z:∀s∈l,∃s'∈m,s'.src=s.src/\s'.dst=s.dst/\s'.kind<=s.kind):WB l=m:=by
 obtain⟨g1,v,w⟩:=BH u;refine Nd g1 x fun s=>⟨fun o=>?_,fun o=>?_⟩
 ·obtain⟨a,ha,h,n,c⟩:=z s (v s o);obtain⟨b,t,q,r,d⟩:=w a (y a ha);have:=OG g1 t o (q.trans h) (r.trans n);subst this;have:a=b:=JC h n (by omega);rw[<-this];exact ha
 ·obtain⟨a,ha,h,n,c⟩:=w s (y s o);obtain⟨b,t,q,r,d⟩:=z a (v a ha);have:=OG x t o (q.trans h) (r.trans n);subst this;have:a=b:=JC h n (by omega);rw[<-this];exact ha
def x5x:(QQ someP 1 f1).real=[⟨0,5,1⟩,⟨5,6,1⟩,⟨6,7,1⟩,⟨6,8,1⟩,⟨7,-1,1⟩,⟨8,-1,1⟩]:=x4r
def x5q:(QQ someP 0 f0).real=[⟨0,1,1⟩,⟨1,2,1⟩,⟨2,3,1⟩,⟨3,4,1⟩,⟨4,-1,1⟩]:=x4l
def x5e:prsW (QQ someP 1 f1) f1=[(0,1),(1,2),(2,3),(2,4),(3,5),(4,5)]:=by
 unfold prsW;rw[x5x]
 kernel_rfl
def x5a:prsW (QQ someP 0 f0) f0=[(0,1),(1,2),(2,3),(3,4),(4,5)]:=by
 unfold prsW;rw[x5q]
 kernel_rfl
def x5h:trapsW (QQ someP 1 f1) f1=[]:=by
 unfold trapsW VF;rw[x5e]
 kernel_rfl
def x5g:trapsW (QQ someP 0 f0) f0=[]:=by
 unfold trapsW VF;rw[x5a]
 kernel_rfl
def x6w:BW (QQ someP 1 f1) f1=[⟨0,5,1⟩,⟨5,6,1⟩,⟨6,7,1⟩,⟨6,8,1⟩,⟨7,-1,1⟩,⟨8,-1,1⟩]:=by
 unfold BW JV;rw[x5h,x5x];exact Gz (by unfold okSt;decide) (by decide) (by decide) (by decide)
theorem q5t{p:Pg}(h:QM p=true){j:Nat}{f:Pr}(l:p.A[j]?=some f):¬wR p j f a 0:=fun⟨s,n,_,o⟩=>by
 have m:=((MD h l).2.1 s (((HP h l).2 s).1 n)).2;unfold okI at m;omega
def q1h{p:Pg}(h:QM p=true){j:Nat}{f:Pr}(m:p.A[j]?=some f){t:S}(q:t∈flL f.body):q8c p t.id=some t:=by
 have o:=ZX (QV h).1 m q;obtain⟨u,v,n,r⟩:=PR h m o.1 o.2;obtain⟨it,s,rfl⟩:=x0e (p:=p) (j:=j) q;obtain⟨w,l,rfl⟩:=x0e (p:=p) (j:=j) v;rw[Om (QV h).1 m l s r]at n;exact n
def U4{p:Pg}(h:QM p=true){j:Nat}{f:Pr}(q:p.A[j]?=some f){s:Step}:s∈JV (QQ p j f) f ↔ ∃l∈trapsW (QQ p j f) f,∃t∈flL f.body,t.id∈l/\t.kind=10/\s=⟨t.id,-1,3⟩:=by
 unfold JV;constructor
 .intro m;obtain⟨l,o,m⟩:=z1c.1 m;obtain⟨id,n,m⟩:=z1c.1 m;have w:=(R5 h q o).2 id n;obtain⟨t,u,x,v⟩:=PR h q w.1 w.2;have e:(QQ p j f).p=p:=rfl;unfold vOf at m;rw[e,x]at m;simp only at m;split at m
  .rename_i r;exact⟨l,o,t,u,by rw[v];exact n,r,by rw[v];simpa using m⟩
  .cases m
 .rintro ⟨l,o,t,u,n,r,rfl⟩;refine z1c.2 ⟨l,o,z1c.2 ⟨t.id,n,?_⟩⟩;have e:(QQ p j f).p=p:=rfl;unfold vOf;rw[e,q1h h q u];simp[r]
def Mg{p:Pg}(h:QM p=true){j:Nat}{f:Pr}(l:p.A[j]?=some f):∀s∈JV (QQ p j f) f++(QQ p j f).real,okSt s:=fun s m=>
 (z0o.1 m).elim ((x2e h l).virt_ok s) ((x2e h l).hok s)
def IP{p:Pg}(h:QM p=true){j:Nat}{f:Pr}(o:p.A[j]?=some f){s:Step}(q:s∈JV (QQ p j f) f++(QQ p j f).real):stR (BW (QQ p j f) f) s.src s.dst:=by
 obtain⟨s',l,m,n,_⟩:=(BH (Mg h o)).2.2 s q;exact⟨s',l,m,n⟩
theorem Ws{p:Pg}(h:QM p=true){j:Nat}{f:Pr}(n:p.A[j]?=some f):(BW (QQ p j f) f).length<=200000:=by
 obtain⟨_,_,q⟩:=XF h;obtain⟨_,_,_,v,r⟩:=QK p;obtain⟨_,_,b,_⟩:=r j f n;obtain⟨w,x,_⟩:=BH (Mg h n);have y:=UN (l:=BW (QQ p j f) f) (m:=(QQ p j f).real++(GM (QL p.A j) (QY f.body)).map fun id=>⟨id,-1,3⟩) (Aw w) fun s c=>by
  rcases z0o.1 (x s c)with o|o
  ·obtain⟨l,B,t,d,z,g,rfl⟩:=(U4 h n).1 o;have u:=ZX (QV h).1 n d;exact z0o.2 (.inr (z1z.2 ⟨t.id,CI u.1 u.2,rfl⟩))
  ·exact z0o.2 (.inl o)
 rw[z0e,z0s]at y;have o:=AX n q;have e:(GM (QL p.A j) (QY f.body)).length=QY f.body:=by unfold GM;simp
 omega
def x0z{p:Pg}(h:QM p=true){j:Nat}{f:Pr}(m:p.A[j]?=some f){x:RI}(l:x∈UV f):x.s∈flL f.body:=by
 rw[VL (QV h).1 (z1d m)]at l;rw[<-show(flatU f).map RI.s=flL f.body from NN 1 0 false f.body];exact z1z.2 ⟨x,l,rfl⟩
def RI0:RI:=⟨.mk 0 0 [] [] [] (.mk 0 0 [] []) false [] [] [],0,0,false⟩
def q3e(id:Int)(f:Pr):Option (RI×Str):=((UV f).find? fun x=>decide (x.s.id=id)).map fun x=>(x,f.name)
def Ef(p:Pg)(id:Int):Option (RI×Str):=p.A.findSome? (q3e id)
def Mn(p:Pg)(id:Int):RI×Str×Bool:=match Ef p id with
 |some (x,n)=>(x,n,true)
 |none=>(RI0,[],false)
def x2v:Sub (.agg [.int .i64 0,.int .i64 0,.nils,.str [],.str [],.int .i64 0,.int .i64 0,.str [],.nils,.ff,.nils,.nils,.nils,.int .i64 0,.int .i64 0,.ff]) (.agg RI0.cells):=
 Sub.agg (by repeat' (first|exact SubL.nil|refine SubL.cons ?_ ?_|exact Sub.nils|exact Sub.ff rfl|exact Sub.refl _))
def T5{l:List RI}{q:RI->Bool}{k:Nat}(h:k<l.length):(l.drop k).find? q=if q l[k]then some l[k]else(l.drop (k+1)).find? q:=by
 rw[QP h,z6k];cases q l[k]<;>rfl
theorem Wr.u64{n:Int}{K:Int->Prop}(m:0<=n)(o:n<=18446744073709551615)(l:K n):Wr .u64 n K:=
 .fit ⟨by simp[IntKind.min,IntKind.signed];omega,by simp[IntKind.max,IntKind.signed,IntKind.bits];omega⟩ l
def Ia{P:Program}{g:Bool}{s:St}{o:Oper}{K:LV->Prop}{t u:TypeId}{x y:Operand}(q:o.op=.binOp .shr t x y u)(ha:0<=a)(B:QR s.sl x=.p (.int .u64 a))(C:QR s.sl y=.p (.int .u64 1)){m:Int}(e:m=a/2)(c:K (.p (.int .u64 m))):ValO P g s o K:=by
 subst e;refine⟨fun σ β D w r _=>⟨_,.int .u64 (a/2),c,.p (.int _ _),fun w' _ _=>?_⟩⟩;have h:=QU r x;have l:=QU r y;rw[B]at h;rw[C]at l;cases h with
 | p h=>
   cases l with
   | p l=>
     have key:∀(n:Int)(v:Value),Rep σ (.int .u64 n) v->v=.int .u64 n:=fun n v A=>by
      cases A;rfl
     have z:=key _ _ h;have e2:=key _ _ l;have b:a.fdiv (2^1)=a/2:=Int.fdiv_eq_ediv_of_nonneg _ (by decide);have d:(eqGuard .shr t x y (.int .u64 a) (.int .u64 1)).run P w'=.ok () w':=by unfold eqGuard;rfl
     simp only[execOp,q,z,e2,Sem.run_bind,d,Result.andThen_ok,binOp,Op.shift];rw[if_neg (by decide)];simp only[show min (1:Int).toNat IntKind.u64.bits=1 by decide,b];rfl
theorem VP(l m:List Str):aP 72 [eStrs l,eStrs m] (.bool (decide (l=m))):=by
 refine sC KI func72 ?_;conv=>whnf
 have y:(l.map AV.str).length=l.length:=z0s _;have z:(m.map AV.str).length=m.length:=z0s _;repeat' ((first|(refine iM fun _=>?_)|(apply bE<;>intro _<;>try omega))<;>conv=>whnf)
 all_goals first
  |exact RetK.ff (z2r fun h=>by subst h;omega)
  |skip
 have w:l.length=m.length:=by omega
 refine lI (fun j:Nat=>⟨[(0,.p (eStrs l)),(1,.p (eStrs m)),(12,.p (.int .i64 (l.map AV.str).length)),(13,.j j)],[]⟩) (fun j=>j<=l.length/\l.take j=m.take j) (fun j=>l.length-j) 0 ⟨z1q _,rfl⟩ ?_;rintro j ⟨b,o⟩;rcases z1w j l.length with n|n
 ·have s:j<m.length:=by omega
  have v:l[j]=m[j]->l.take (j+1)=m.take (j+1):=fun r=>by rw[z1y n,z1y s,o,r]
  have u:l[j]≠m[j]->¬l=m:=fun t r=>t (by subst r;rfl);conv=>whnf
  repeat' ((first|refine dA ?_|(refine gX ?_;intros)|((first|apply bD|apply bN)<;>intro _<;>try omega))<;>conv=>whnf)
  all_goals first
   | (have q:l[j]=m[j]:=eq_of_beq (by assumption)
      exact nX (j+1) ⟨n,v q⟩)
   | (have q:¬l[j]=m[j]:=by
       have x:(l[j]==m[j])=false:=by assumption
       simpa using x
      exact RetK.ff (z2r (u q)))
 ·rw[z1f n,z1f (by omega)]at o;conv=>whnf
  repeat' (apply bD<;>intro _<;>first|omega|conv=>whnf)
  all_goals exact RetK.tt (z2t o)
def JE(a:Str):aP 164 [.str a] (.bool false):=by
 refine sC Xy func164 ?_;conv=>whnf
 skip
 all_goals exact RetK.bool (by simp)
def X6(a:Str):aP 212 [.str a] (.bool false):=by
 refine sC NG func212 ?_;conv=>whnf
 skip
 all_goals exact RetK.bool (by simp)
theorem Kx(a b:Str):aP 211 [.str a,.str b] (.bool (Op.bytesLess a b)):=by
 refine sC Zi func211 ?_;conv=>whnf
 repeat' ((first|refine cP (JE a) ?_|(apply bB<;>intro _))<;>conv=>whnf)
 all_goals first
  |contradiction
  |exact RetK.p rfl
theorem YN(l:List Str)(x:Str)(K:l.Pairwise ltT)(G:l.length<=1000000000):SpecP prog 160 [eStrs l,.str x] (fun r=>∃k:Int,r=.tup [.int .i64 k,.bool (inS l x)]):=by
 refine sC UH func160 ?_;conv=>whnf
 have C:(l.map AV.str).length=l.length:=z0s _;repeat' ((refine iM fun _=>?_)<;>conv=>whnf)
 refine lJ (fun y:Nat×Nat=>⟨[(0,.p (eStrs l)),(1,.p (.str x)),(6,.p (.int .i64 (l.map AV.str).length)),(7,.j y.1),(8,.j y.2)],[]⟩) (fun y=>y.1<=y.2/\y.2<=l.length/\(∀(k:Nat)(h:k<l.length),k<y.1->ltT l[k] x)/\∀(k:Nat)(h:k<l.length),y.2<=k->¬ltT l[k] x) (fun y=>y.2-y.1) (0,l.length) (Le.of_eq (by rw[C];rfl)) ⟨z1q _,z1l _,fun k h w=>by simp only at w;omega,fun k h w=>by simp only at w;omega⟩ ?_;rintro⟨i,j⟩ ⟨w,D,d,g⟩;simp only at w D d g⊢;have v:∀(a b:Nat)(ha:a<l.length)(E:b<l.length),a<b->ltT l[a] l[b]:=fun a b ha E A=>z5n.1 K a b ha E A;rcases z1w i j with B|B
 ·have F:(i+j)/2<l.length:=by omega
  have I:=Kx l[(i+j)/2] x;conv=>whnf
  repeat' ((first|(refine gX ?_;intros)|refine Wr.u64 (by omega) (by omega) ?_|refine Ia rfl (by omega) rfl rfl (m:=(((i+j)/2:Nat):Int)) (by omega) ?_|refine cP I ?_|((first|apply bD|apply bB)<;>intro _<;>try omega))<;>conv=>whnf)
  all_goals first
   | (have s:Op.bytesLess l[(i+j)/2] x=true:=by assumption
      refine nX ((i+j)/2+1,j) ⟨by simp only;omega,D,fun k t u=>?_,g⟩;simp only at u;rcases z1w k ((i+j)/2)with n|n
      ·exact ltT.trans _ _ _ (v _ _ t F n) s
      ·have:k=(i+j)/2:=by omega
       subst this;exact s)
   | (have s:Op.bytesLess l[(i+j)/2] x=false:=by assumption
      have z:¬ltT l[(i+j)/2] x:=fun h=>by unfold ltT at h;rw[s]at h;cases h
      refine nX (i,(i+j)/2) ⟨by simp only;omega,by simp only;omega,d,fun k t u c=>?_⟩;simp only at u;rcases z1w ((i+j)/2) k with n|n
      ·exact z (ltT.trans _ _ _ (v _ _ F t n) c)
      ·have:k=(i+j)/2:=by omega
       subst this;exact z c)
 ·obtain rfl:i=j:=by omega
  rcases z1w i l.length with e|e
  ·have o:inS l x=(l[i]==x):=by
    rw[z4z,XP,z4n];constructor
    ·intro L;obtain⟨k,t,rfl⟩:=z2e.1 L;rcases Nat.lt_trichotomy k i with q|q|q
     ·exact absurd (d k t q) (ltT.irr _)
     ·subst q;rfl
     ·exact absurd (v i k e t q) (g i e (z1l _))
    ·intro q;rw[<-q];exact z1h e
   have J:=X6 l[i];conv=>whnf
   repeat' ((first|(refine iA fun _=>?_)|refine cP J ?_|((first|apply bD|apply bB)<;>intro _<;>try omega))<;>conv=>whnf)
   all_goals first
    |(exfalso;omega)
    |(exfalso;simp_all;done)
    | (have s:inS l x=true:=by rw[o];assumption
       exact⟨_,.p (Sub.tup (.cons (Sub.refl _) (.cons (Sub.tt s) .nil))),_,rfl⟩)
    | (have s:inS l x=false:=by rw[o];assumption
       exact⟨_,.p (Sub.tup (.cons (Sub.refl _) (.cons (Sub.ff s) .nil))),_,rfl⟩)
  ·have o:inS l x=false:=by
    cases q:inS l x with
    |false=>rfl
    | true=>
      obtain⟨k,t,H⟩:=z2e.1 (XP.1 q);exact absurd (d k t (by omega)) (by rw[H];exact ltT.irr _)
   conv=>whnf
   repeat' (apply bD<;>intro _<;>first|omega|conv=>whnf)
   all_goals first
    |(exfalso;omega)
    |exact⟨_,.p (Sub.tup (.cons (Sub.refl _) (.cons (Sub.ff o) .nil))),_,rfl⟩
    |exact⟨_,.p (Sub.refl _),_,by rw[o];rfl⟩
def V3(l:List Str)(x:Str)(n:l.Pairwise ltT)(h:l.length<=1000000000):aP 90 [eStrs l,.str x] (.bool (inS l x)):=by
 refine sC AI func90 ?_;conv=>whnf
 have m:=YN l x n h;repeat' ((refine CallK.pure m (.cons (Sub.refl _) (.cons (Sub.refl _) .nil)) ?_;rintro _ ⟨k,rfl⟩)<;>conv=>whnf)
 all_goals first
  |exact RetK.p rfl
theorem TM{σ:Mem}{a:Param}{v:Value}(h:Rep σ (.agg a.cells) v):v=.agg #[.string ⟨a.name.toArray⟩,.bool a.ref]:=by
 cases h with
 | agg cs vs u q n o=>
   have r:vs.size=2:=q;have g0:vs[0]?=some (.string ⟨a.name.toArray⟩):=by
    have l:=n 0 (.str a.name) rfl;have m:=o 0 (.str a.name) rfl;generalize u 0=w at l m;cases m;exact l
   have g1:vs[1]?=some (.bool a.ref):=by
    have l:=n 1 (.bool a.ref) rfl;have m:=o 1 (.bool a.ref) rfl;generalize u 1=w at l m;cases m;exact l
   congr 1;apply Array.ext_getElem?;intro i
   match i with
   |0=>exact g0
   |1=>exact g1
   |i+2=>rw[z7m (by omega),z7m (by simp)]
instance:DecidableEq Param:=fun a b=>decidable_of_iff (a.name=b.name/\a.ref=b.ref) (by cases a;cases b;simp)
theorem ValO.B{D:Bool}{s:St}{o:Oper}{K:LV->Prop}{x y:Operand}{u:TypeId}(m:o.op=.binOp .eql 65 x y u){a b:Param}(F:QR s.sl x=.p (.agg a.cells))(G:QR s.sl y=.p (.agg b.cells))(g:K (.p (.bool (decide (a=b))))):ValO prog D s o K:=by
 refine⟨fun σ β r w t _=>⟨_,.bool (decide (a=b)),g,.p (.bool _),fun w' _ _=>?_⟩⟩;have z:r.eval x=.agg #[.string ⟨a.name.toArray⟩,.bool a.ref]:=by
  have:=QU t x;rw[F]at this;cases this with
  |p h=>exact TM h
 have c:r.eval y=.agg #[.string ⟨b.name.toArray⟩,.bool b.ref]:=by
  have:=QU t y;rw[G]at this;cases this with
  |p h=>exact TM h
 have E:prog.underlying 65=some (.struct (prog.fieldsOf 65)):=by kernel_rfl
 have q:prog.underlying 9=some .string:=by kernel_rfl
 have l:prog.underlying 4=some .bool:=by kernel_rfl
 have C:(prog.fieldsOf 65).toList=(match ty65.desc with |.struct fs=>fs.toList|_=>[]):=by kernel_rfl
 have A:(Op.equalIn 10000 65 (.agg #[.string ⟨a.name.toArray⟩,.bool a.ref]) (.agg #[.string ⟨b.name.toArray⟩,.bool b.ref])).run prog w'=.ok (decide (a=b)) w':=by
  rw[run_equalIn_struct w' 9999 _ _ _ E (by kernel_rfl),C];simp only[ty65,Op.eqFields];have H:∀(x:ByteArray)(y:Bool),(part 9 #[.string x,.bool y] 0).run prog w'=.ok (.string x) w':=fun x y=>run_part_plain w' (by kernel_rfl) rfl;have I:∀(x:ByteArray)(y:Bool),(part 4 #[.string x,.bool y] 1).run prog w'=.ok (.bool y) w':=fun x y=>run_part_plain w' (by kernel_rfl) rfl;have es:∀x y:ByteArray,(Op.equalIn 9999 9 (.string x) (.string y)).run prog w'=.ok (x.toList==y.toList) w':=fun x y=>run_equalIn_string (P:=prog) w' 9998 9 x y q;have v:∀x y:Bool,(Op.equalIn 9999 4 (.bool x) (.bool y)).run prog w'=.ok (x==y) w':=fun x y=>run_equalIn_bool (P:=prog) w' 9998 4 x y l;have e:decide (a=b)=(((⟨a.name.toArray⟩:ByteArray).toList==(⟨b.name.toArray⟩:ByteArray).toList)&&(a.ref==b.ref)):=by
   rw[ByteArray.toList_eq,ByteArray.toList_eq,z4z,z5j,z1p,z4n,z4n];cases a;cases b;simp
  simp only[ne_eq,show ¬("Name" = "_") by decide,show ¬("Ref" = "_") by decide,not_false_eq_true,if_true,Sem.run_bind,H,I,Result.andThen_ok,es,v,Sem.run_ite,Sem.run_pure,e];cases((⟨a.name.toArray⟩:ByteArray).toList==(⟨b.name.toArray⟩:ByteArray).toList)<;>cases(a.ref==b.ref)<;>simp
 simp only[execOp,m,z,c,Sem.run_bind,run_eqGuard_agg _ _ _ _ _ _ _ (show prog.eqGuardType prog.depth 65=false by kernel_rfl),Result.andThen_ok,run_eql_struct,A,Sem.run_pure]
theorem JZ(l:List Param)(x:Param):SpecP prog 196 [.sl (l.map fun a=>.agg a.cells),.agg x.cells] (fun r=>∃k:Int,r=.int .i64 k/\(0<=k↔x∈l)):=by
 refine sC UE func196 ?_;conv=>whnf
 have s:(l.map fun a=>AV.agg a.cells).length=l.length:=z0s _;repeat' ((refine iM fun _=>?_)<;>conv=>whnf)
 refine lI (fun j:Nat=>⟨[(0,.p (.sl (l.map fun a=>.agg a.cells))),(3,.p (.ip x.cells)),(7,.p (.int .i64 (l.map fun a=>AV.agg a.cells).length)),(8,.j j)],[]⟩) (fun j=>j<=l.length/\x∉l.take j) (fun j=>l.length-j) 0 ⟨z1q _,by simp⟩ ?_;rintro j ⟨t,m⟩;rcases z1w j l.length with h|h
 ·have o:x∈l.take (j+1)↔x∈l.take j\/x=l[j]:=QO h;conv=>whnf
  repeat' ((first|refine dA ?_|(refine gX ?_;intros)|refine ValO.B (a:=x) (b:=l[j]) rfl rfl rfl ?_|(apply bD<;>intro _<;>try omega))<;>conv=>whnf)
  all_goals first
   | (have n:x=l[j]:=by assumption
      exact⟨_,.p (Sub.refl _),j,rfl,⟨fun _=>by rw[n];exact z1h h,fun _=>by omega⟩⟩)
   | (have n:¬x=l[j]:=by assumption
      exact nX (j+1) ⟨h,fun q=>(o.1 q).elim m n⟩)
 ·rw[z1f h]at m;conv=>whnf
  repeat' (apply bD<;>intro _<;>first|omega|conv=>whnf)
  all_goals exact⟨_,.p (Sub.refl _),-1,rfl,by simp[m]⟩
def UR(l:List Param)(x:Param):aP 140 [.sl (l.map fun a=>.agg a.cells),.agg x.cells] (.bool (decide (x∈l))):=by
 refine sC VM func140 ?_;conv=>whnf
 have h:=JZ l x;repeat' ((refine CallK.pure h (.cons (Sub.refl _) (.cons (Sub.refl _) .nil)) ?_;rintro _ ⟨k,rfl,m⟩)<;>conv=>whnf)
 all_goals first
  |exact RetK.bool (by rw[z4z,z5j,z5j];exact m)
def x3b{p:Pg}(h:QM p=true){j:Nat}{f:Pr}(m:p.A[j]?=some f):∀s∈P1 (QQ p j f) f,okSt s:=fun s l=>by
 unfold P1 at l;rcases z0o.1 l with l|l
 .rcases z0o.1 l with l|l
  .exact Mg h m s l
  .rw [z0i.1 l];exact⟨by decide,by decide⟩
 .obtain ⟨it,n,l⟩:=z1c.1 l;exact Aj h m it n s l
theorem x6n{p:Pg}(h:QM p=true){j:Nat}{f:Pr}(m:p.A[j]?=some f){it:Item}(o:it∈itsOf p j f):(sheetOf p).l[(it.s.id-1).toNat]?=some it:=by
 have u:=ZX (QV h).1 m (X2 o);obtain⟨r,n,q⟩:=BD m (k:=(it.s.id-1).toNat) (by omega) (by omega);have t:=Lm h m (by omega) (by omega) n;rw[n,Om (QV h).1 m q o (by omega)]
section
variable {p:Pg}{k:Nat}{f:Pr}
end
theorem N4:∀(l:List Pr){n:Nat}{m:Int},ZK n l=some m->∀(j:Nat)(f:Pr),l[j]?=some f->∃o,WY 1 ((n+QL l j:Nat):Int) f.body=some o
 |[],_,_,_,j,f,hj=>by simp at hj
 | g::r,n,m,h,j,f,hj=>by
   rw[ZK]at h;cases v:DG g<;>rw[v]at h
   ·cases h
   simp only[z1n]at h;split at h
   ·rename_i w q;cases j with
    | zero=>
      cases hj;exact⟨w,q⟩
    | succ j=>
      have t:=WP _ _ g.body q;have s:ZK ((n+QY g.body:Nat):Int) r=some m:=by rw[<-h,t];rfl
      obtain⟨o,u⟩:=N4 r s j f (by simpa using hj);exact⟨o,by rw[<-u,QL];congr 1;omega⟩
   ·cases h
theorem Zu{p:Pg}(h:UG p=true){j:Nat}{f:Pr}(o:p.A[j]?=some f):∃m,WY 1 ((QL p.A j:Nat):Int) f.body=some m:=by
 unfold UG at h;simp only[z1p]at h;obtain⟨m,q⟩:=Option.isSome_iff_exists.1 h.2;obtain⟨r,l⟩:=N4 p.A (n:=0) q j f o;exact⟨r,by rw[<-l];congr 1;omega⟩
theorem Ny:∀(l:List Int)(b:List Bool)(i:Nat),i<b.length->((FN l b).getD i false=true↔b.getD i false=true\/∃a∈l,a.toNat=i)
 |[],b,i,hi=>by simp[FN]
 | a::r,b,i,hi=>by
   have h:=Ny r (b.set a.toNat true) i (by rw[z3e];exact hi);have e:FN (a::r) b=FN r (b.set a.toNat true):=rfl;rw[e,h];simp only[z1g,exists_eq_or_imp];by_cases ha:a.toNat=i
   .simp [ha,hi,z0a,z5i]
   .simp [ha,z0a,z5i]
theorem GR{p:Pg}(h:QM p=true){j:Nat}{f:Pr}(q:p.A[j]?=some f){y:Int}(n:plP p j f y):(QQ p j f).live.getD (ixI p j f y).toNat false=true↔Rch (wR p j f) 0 y:=by
 have m:=ZO n;have r:(QQ p j f).live=FN (NM 0 (WT (QE (QY f.body+2) ((QQ p j f).real.map (ixP p j f (QY f.body+2:Nat)))).1 [0])) (List.replicate (QY f.body+2) false):=rfl;rw[r,Ny _ _ _ (by rw[z2o];omega)];have o:(List.replicate (QY f.body+2) false).getD (ixI p j f y).toNat false=false:=by
  rw[z0a,z2q];split<;>rfl
 rw[o];have s:=I9 (F:=(QQ p j f).real) (YX h q) n;unfold wR;rw[<-s];constructor
 ·rintro(l|⟨a,l,t⟩)
  ·cases l
  ·have ha:=L8 _ _ _ l
   rwa[show ixI p j f y=a by omega]
 ·exact fun l=>.inr ⟨_,l,rfl⟩
section
variable {p:Pg}{k:Nat}{f:Pr}
end
theorem Ty:∀(l:List (Int×Int))(rows:List (List Int)),(∀t∈l,0<=t.1/\t.1<rows.length)->∀(a:Nat)(x:Int),x∈(l.foldl nxE rows).getD a []↔x∈rows.getD a []\/∃t∈l,t.1=a/\t.2=x
 |[],rows,_,a,x=>by simp
 | t::r,rows,h,a,x=>by
   obtain⟨s,v⟩:=h t z1j;rw[z4d,Ty r (nxE rows t) (fun u q=>by rw[OL];exact h u (z1x _ q))];have e:x∈(nxE rows t).getD a []↔x∈rows.getD a []\/(t.1=a/\t.2=x):=by
    unfold nxE;simp only[z0a,z5i];by_cases n:t.1.toNat=a
    ·subst n;have o:t.1=(t.1.toNat:Int):=by omega
     rw[if_pos rfl,if_pos (by omega)];simp only[z2l,z0o,z0i];constructor
     ·rintro(m|m)
      ·exact .inl m
      ·exact .inr ⟨o,m.symm⟩
     ·rintro(m|⟨_,m⟩)
      ·exact .inl m
      ·exact .inr m.symm
    ·rw[if_neg n];constructor
     ·exact .inl
     ·rintro(m|⟨m,_⟩)
      ·exact m
      ·omega
   rw[e];simp only[z1g,exists_eq_or_imp,or_assoc]
def Dq{n:Nat}{l:List (Int×Int)}(h:∀t∈l,0<=t.1/\t.1<n){a:Nat}{x:Int}:x∈(Vj n l).getD a [] ↔ ∃t∈l,t.1=a/\t.2=x:=by
 unfold Vj;rw[Ty l _ (by simpa using h)];have:(List.replicate n ([]:List Int)).getD a []=[]:=by
  rw[z0a,z2q];split<;>rfl
 rw[this];simp
mutual
theorem q6m:∀(t:S){nest seen m:Int},Gh nest seen t=some m->∀u∈flS t,oneOk u=true
 | .mk id kind E name pr x has args L M,nest,seen,m,h,u,hu=>by
   obtain⟨h1,_,m1,h3,h4⟩:=WJ h;rw[flS]at hu;rcases z1g.1 hu with rfl|hu
   ·exact h1
   ·rcases z0o.1 hu with hu|hu
    ·exact Gg L h3 u hu
    ·exact Gg M h4 u hu
theorem Gg:∀(l:List S){nest seen m:Int},WY nest seen l=some m->∀u∈flL l,oneOk u=true
 |[],_,_,_,_,u,hu=>by rw[flL]at hu;cases hu
 | t::r,nest,seen,m,h,u,hu=>by
   obtain⟨_,m1,h1,h2⟩:=ZY h;rw[flL]at hu;rcases z0o.1 hu with hu|hu
   ·exact q6m t h1 u hu
   ·exact Gg r h2 u hu
end
def q3f{p:Pg}{j:Nat}{f:Pr}(h:QM p=true)(l:p.A[j]?=some f){t:S}(o:t∈flL f.body):OneF t:=by
 obtain⟨m,n⟩:=Zu (QV h).1 l;exact KP (Gg _ n t o)
section
variable {p:Pg}{j:Nat}{f:Pr}
def x5m(p:Pg)(j:Nat)(f:Pr):Int->Int->Prop:=stR (x9q (QQ p j f) f)
theorem RK(h:QM p=true)(v:p.A[j]?=some f){b:Int}:x5m p j f a b↔wR p j f a b\/(a=0/\b = -1)\/(∃l∈trapsW (QQ p j f) f,∃t∈flL f.body,t.id∈l/\t.kind=10/\a=t.id/\b = -1)\/∃it∈itsOf p j f,7<=it.s.kind/\a=it.s.id/\b=it.next:=by
 have z:=BH (x3b h v);have m:∀s,s∈P1 (QQ p j f) f↔s∈JV (QQ p j f) f\/s∈(QQ p j f).real\/s=⟨0,-1,2⟩\/s∈(itsOf p j f).flatMap fOf:=fun s=>by
  have e:P1 (QQ p j f) f=JV (QQ p j f) f++(QQ p j f).real++[⟨0,-1,2⟩]++(itsOf p j f).flatMap fOf:=rfl;rw[e];simp only[z0o,z0i,or_assoc]
 have q:∀s∈P1 (QQ p j f) f,x5m p j f s.src s.dst:=fun s n=>by
  obtain⟨s',o,c,d,_⟩:=z.2.2 s n;exact⟨s',o,c,d⟩
 constructor
 ·rintro⟨s,n,rfl,rfl⟩;rcases(m s).1 (z.2.1 s n)with o|o|o|o
  ·obtain⟨l,x,t,y,r,w,rfl⟩:=(U4 h v).1 o;exact .inr (.inr (.inl ⟨l,x,t,y,r,w,rfl,rfl⟩))
  ·exact .inl ⟨s,o,rfl,rfl⟩
  ·rw[o];exact .inr (.inl ⟨rfl,rfl⟩)
  ·obtain⟨it,u,n⟩:=z1c.1 o;unfold fOf at n;split at n
   ·rw[z0i.1 n];exact .inr (.inr (.inr ⟨it,u,by omega,rfl,rfl⟩))
   ·cases n
 ·rintro(⟨s,n,rfl,rfl⟩|⟨rfl,rfl⟩|⟨l,x,t,y,r,w,rfl,rfl⟩|⟨it,u,w,rfl,rfl⟩)
  ·exact q s ((m s).2 (.inr (.inl n)))
  ·exact q ⟨0,-1,2⟩ ((m _).2 (.inr (.inr (.inl rfl))))
  ·exact q ⟨t.id,-1,3⟩ ((m _).2 (.inl ((U4 h v).2 ⟨l,x,t,y,r,w,rfl⟩)))
  ·refine q ⟨it.s.id,it.next,2⟩ ((m _).2 (.inr (.inr (.inr (z1c.2 ⟨it,u,?_⟩)))));have g:=(q3f h v (X2 u)).hi;unfold fOf;rw[if_pos (by omega)];exact z0i.2 rfl
theorem q2i(h:QM p=true)(o:p.A[j]?=some f){b:Int}(c:x5m p j f a b):plP p j f a/\plP p j f b/\a ≠ -1/\b≠0:=by
 have n:∀t∈flL f.body,plP p j f t.id/\t.id ≠ -1:=fun t q=>by
  have x:=ZX (QV h).1 o q;exact⟨.inr (.inr x),by omega⟩
 rcases(RK h o).1 c with m|⟨rfl,rfl⟩|⟨l,g,t,q,y,z,rfl,rfl⟩|⟨it,r,z,rfl,rfl⟩
 ·obtain⟨v,w⟩:=x3w h o m;refine⟨v,w,?_,fun e=>q5t h o (e▸m)⟩;obtain⟨s,d,rfl,rfl⟩:=m;rcases q6k h o (((HP h o).2 s).1 d)with u|u
  ·rw[u];show(0:Int) ≠ -1;decide
  ·omega
 ·exact⟨.inl rfl,.inr (.inl rfl),by decide,by decide⟩
 ·exact⟨(n t q).1,.inr (.inl rfl),(n t q).2,by decide⟩
 ·have m:=(Yu r).1;unfold okI at m;refine⟨(n _ (X2 r)).1,?_,(n _ (X2 r)).2,by omega⟩;rcases m with m|m
  ·exact .inr (.inl m)
  ·exact .inr (.inr m)
def ix_exit:ixI p j f (-1)=(QY f.body+2:Nat)-1:=by
 unfold ixI VO;rw[if_neg (by decide),if_pos rfl]
end
def x6l(k:Int)(x:RI):Bool:=decide (k=0)||decide (x.s.kind=k)
def x5c(p:Pg)(k:Int):List Int:=((allR p).filter (x6l k)).map fun x=>x.s.id
theorem Am:∀(l:List Pr)(k:Nat),k<cntP l->∃j f,l[j]?=some f/\QL l j<=k/\k<QL l j+QY f.body
 |[],k,h=>by rw[cntP]at h;omega
 | g::r,k,h=>by
   rw[cntP]at h;rcases z1w k (QY g.body)with n|n
   ·exact⟨0,g,rfl,by rw[QL];omega,by rw[QL];omega⟩
   ·obtain⟨j,f,m,o,q⟩:=Am r (k-QY g.body) (by omega);exact⟨j+1,f,by simpa using m,by rw[QL];omega,by rw[QL];omega⟩
namespace Own
end Own
open Go.Proofs
def rng(a b:Int)(v:Int):Prop:=a<=v/\v<=b
theorem Ob{D q nx o:Int}{n:Nat}{nest m:Int}{l:List S}(h:WY nest n l=some m){it:Item}(u:it∈itL D q nx o n l):(n:Int)+1<=it.s.id/\it.s.id<=(n:Int)+QY l:=by
 have r:it.s∈flL l:=by
  rw[<-X1 D q nx o n l];exact z1z.2 ⟨it,u,rfl⟩
 have t:it.s.id∈GM n (QY l):=by
  rw[<-GS nest l h];exact z1z.2 ⟨it.s,r,rfl⟩
 have:=V5 t;omega
def x9z(l:List Int)(i:Nat):Int:=l.getD i 0
def srt(K:Int->Int)(l:List Int)(a b:Nat):Prop:=∀i k,a<=i->i<k->k<b->K (x9z l k)<=K (x9z l i)
def hi0(a m b:Nat):Nat:=if(a+b)/2<m then(a+b)/2 else m
def blk(K:Int->Int)(l:List Int)(bs n:Nat):Prop:=∀q,srt K l (q*bs) (min (q*bs+bs) n)
theorem C6:∀(l:List Pr)(j:Nat),QL l j<=cntP l
 |_,0=>by rw[QL];omega
 |[],j+1=>by rw[QL];omega
 |g::r,j+1=>by rw[QL,cntP];have:=C6 r j;omega
section
variable {p:Pg}{j:Nat}{f:Pr}
end
section
variable {p:Pg}{j:Nat}{f:Pr}
end
structure Book where
 s:Sheet
 ways:List Way
 N:List (List Str)
 Q:List (List Str)
 ins:List (List Str)
 F:List (List Str)
def Book.cells(b:Book):List AV:=[.ip b.s.cells,.sl (b.ways.map fun w=>.ip w.cells),.sl (b.N.map eStrs),.sl (b.Q.map eStrs),.sl (b.ins.map eStrs),.sl (b.F.map eStrs)]
def VW:Str:=[36,105,110]
def comB(p:Pg)(n:Str):Bool:=(n==VW)||p.C.any fun s=>n==s
theorem NW(b:Book)(n:Str):aP 139 [.ip b.cells,.str n] (.bool (comB b.s.p n)):=by
 refine sC W2 func139 ?_;conv=>whnf
 repeat' ((first|refine cP (QJ _ _) ?_|(apply bB<;>intro _))<;>conv=>whnf)
 all_goals first
  | (have h:(n==VW)=true:=by assumption
     exact RetK.tt (by unfold comB;rw[h];rfl))
  | (have h:(n==VW)=false:=by assumption
     exact RetK.bool (by unfold comB;rw[h,Bool.false_or]))
theorem Rx(p:Pg)(j:Nat)(f:Pr)(h:QM p=true)(r:p.A[j]?=some f)(id:Int)(l:plP p j f id):aP 138 [.ip (QQ p j f).cells,.int .i64 id] (.bool ((QQ p j f).live.getD (ixI p j f id).toNat false)):=by
 refine sC Ga func138 ?_;conv=>whnf
 have hT:=x2e h r;have m:=U5 (QQ p j f) f hT.hj hT.hc (by have:=hT.hn2;have:=hT.hn;have:=hT.hw;omega) id;have o:VO (loI (QQ p j f).p (QQ p j f).j) (hiI (QQ p j f).p (QQ p j f).j f) (QQ p j f).n id=ixI p j f id:=rfl;rw[o]at m;have t:=ZO l;have s:(QQ p j f).live.length=QY f.body+2:=by show(FN _ (List.replicate (QY f.body+2) false)).length=_;rw[Yc];simp
 generalize ixI p j f id=ix at*
 have q:((QQ p j f).live.map bv)[ix.toNat]?=some (bv ((QQ p j f).live.getD ix.toNat false)):=by
  rw[z1u,z0a,z0c (by omega)];rfl
 generalize(QQ p j f).live.getD ix.toNat false=v at*
 cases v;all_goals
  repeat' ((first|refine dA ?_|refine cP m ?_|refine iT q ?_)<;>conv=>whnf)
 all_goals first
  |exact RetK.tt rfl
  |exact RetK.ff rfl
theorem Fu(l:List Str)(h:l.length<=1000000000):aH 69 [.hd 1000 0 l.length] [(1000,.own 9 1 (l.map .str))] (.hd 1000 0 (QA l).length) [(1000,.own 9 1 ((QA l).map .str))]:=by
 refine sK M0 func69 ?_;conv=>whnf
 repeat' ((first|(refine cH [(1000,1000)] 0 (PL l h) ?_)|(refine cH [(1000,1000)] 0 (DD (KL l) (by rw[JW];omega)) ?_ (ha:=(z1e (z6m (by rw[JW];rfl)) z3a))))<;>conv=>whnf)
 all_goals first
  |exact z4g _ (z2x _) ⟨rfl,rfl⟩
end Go.Ab
