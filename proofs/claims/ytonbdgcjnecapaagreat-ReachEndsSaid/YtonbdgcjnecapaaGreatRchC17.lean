/- Rows of the call's own whose elements say less. -/
import Derived.Test.YtonbdgcjnecapaaGreatRchC14
import Derived.Test.YtonbdgcjnecapaaGreatRchC15
import Derived.Test.YtonbdgcjnecapaaGreatRchC16
set_option linter.all false
set_option maxRecDepth 100000
set_option maxHeartbeats 16000000
open Int (ofNat)
namespace Go.Ab
open Go.Proofs.Tryz
open Go.Proofs
variable {p:Pg}{w:Nat}
def ElS(es es':List AV):Prop:=es'.length=es.length/\∀(m:Nat)(x':AV),es'[m]?=some x'->∃x,es[m]?=some x/\x'.cells.length=x.cells.length/\∀(j:Nat)(c':AV),x'.cells[j]?=some c'->∃c,x.cells[j]?=some c/\Sub c c'
inductive SubH:Heap->Heap->Prop
 |nil:SubH [] []
 |same {c:Nat×Chunk} {H H':Heap} (h:SubH H H'):SubH (c::H) (c::H')
 |L {k:Nat} {e:TypeId} {sz:Nat} {es es':List AV} {H H':Heap} (hp:ElS es es') (h:SubH H H'):SubH ((k,.own e sz es)::H) ((k,.own e sz es')::H')
theorem SubH.get{H H':Heap}(h:SubH H H'):H'.map (·.1)=H.map (·.1)/\∀j c',(j,c')∈H'->(j,c')∈H\/∃e sz es es',(j,Chunk.own e sz es)∈H/\c'=.own e sz es'/\ElS es es':=by
 induction h with
 |nil=>exact⟨rfl,by simp⟩
 | same h q=>
   refine⟨by simp[q.1],fun j c' m=>?_⟩;rcases x0p.1 m with rfl|m
   .exact .inl x0k
   .rcases q.2 j c' m with o|⟨e,sz,es,es',o,r⟩
    .exact .inl (x0f _ o)
    .exact .inr ⟨e,sz,es,es',x0f _ o,r⟩
 | @L k e sz es es' H H' t h q=>
   refine⟨by simp[q.1],fun j c' m=>?_⟩;rcases x0p.1 m with m|m
   .cases m;exact .inr ⟨e,sz,es,es',x0k,rfl,t⟩
   .rcases q.2 j c' m with o|⟨e,sz,es,es',o,r⟩
    .exact .inl (x0f _ o)
    .exact .inr ⟨e,sz,es,es',x0f _ o,r⟩
theorem Le.L{N:Nat}{sl:List (Nat×LV)}{H H':Heap}(h:SubH H H'):Le N ⟨sl,H⟩ ⟨sl,H'⟩:=fun σ β a w o=>by
 obtain⟨v,g⟩:=h.get;refine⟨σ,β,⟨o.size,o.defers,o.E,⟨o.heap.mem,fun j c' q=>?_,by show(H'.map (·.1)).Nodup;rw[v];exact o.heap.nodup,fun j q=>o.heap.apart j (by rw[<-v];exact q),fun j q U A=>o.heap.inj j (by rw[<-v];exact q) U (by rw[<-v];exact A)⟩⟩,Mem.le_refl σ,Frm.refl _ w,fun b K t=>absurd K t,fun b ⟨j,q,r⟩=>.inl ⟨j,by rw[<-v];exact q,r⟩,fun _ _ _=>rfl⟩;rcases g j c' q with t|⟨e,sz,es,es',t,rfl,y⟩
 .exact o.heap.chunks j c' t
 .rcases o.heap.chunks j _ t with⟨z,f⟩|⟨i,vs,z,f,M,O,P,Q,B⟩
  .refine .inl ⟨z,?_⟩;have:=y.1;rw[f]at this;exact x3z this
  .refine .inr ⟨i,vs,z,f,M,O,by rw[y.1];exact P,Q,fun m V T=>?_⟩;obtain⟨x,g1,C,D⟩:=y.2 m V T;refine⟨by rw[C];exact(B m x g1).1,fun j c' g=>?_⟩;obtain⟨c,F,G⟩:=D j c' g;obtain⟨u,I,J⟩:=(B m x g1).2 j c F;exact⟨u,I,G _ _ J⟩
def nxE(rows:List (List Int))(t:Int×Int):List (List Int):=rows.set t.1.toNat (rows.getD t.1.toNat []++[t.2])
def Qw(n:Nat)(l:List (Int×Int)):List (List Int):=l.foldl nxE (List.replicate n [])
def A0(rows:List (List Int))(t:Int×Int):(nxE rows t).length=rows.length:=x3g
theorem Pz:∀(l:List (Int×Int))(rows:List (List Int)),(l.foldl nxE rows).length=rows.length
 |[],_=>rfl
 |t::r,rows=>by rw[x3m,Pz r,A0]
def Yj(n:Nat)(l:List (Int×Int)):(Qw n l).length=n:=by
 unfold Qw;rw[Pz,x2d]
theorem Px:∀(l:List (Int×Int))(rows:List (List Int))(a:Nat),((l.foldl nxE rows).getD a []).length<=(rows.getD a []).length+l.length
 |[],_,_=>x0o _
 | t::r,rows,a=>by
   rw[x3m];have m:=Px r (nxE rows t) a;have n:((nxE rows t).getD a []).length<=(rows.getD a []).length+1:=by
    unfold nxE;simp only[x0y,x5h];by_cases h:t.1.toNat=a
    .subst h;by_cases j:t.1.toNat<rows.length
     .simp [j]
     .simp [j]
    .simp [h]
   rw[x1r];omega
def N7(n:Nat)(l:List (Int×Int))(a:Nat):((Qw n l).getD a []).length<=l.length:=by
 have:=Px l (List.replicate n []) a;have e:((List.replicate n ([]:List Int)).getD a []).length=0:=by
  rw[x0y,x1b];split<;>rfl
 unfold Qw;omega
inductive SlRel(P:LV->LV->Prop):List (Nat×LV)->List (Nat×LV)->Prop
 |nil:SlRel P [] []
 |cons {j:Nat} {l l':LV} {r r':List (Nat×LV)} (h:P l l') (hr:SlRel P r r'):SlRel P ((j,l)::r) ((j,l')::r')
theorem SlRel.get{P:LV->LV->Prop}(o:P (.p .any) (.p .any)){sl m:List (Nat×LV)}(h:SlRel P sl m)(i:Nat):P (getS sl i) (getS m i):=by
 induction h with
 |nil=>exact o
 | @cons j l l' r u h t q=>
   simp only[getS];cases j==i with
   |true=>exact h
   |false=>exact q
def CT{h:Nat}{sl:List (Nat×LV)}(n:Nat)(j:(sl.all fun x=>x.2.xfree 0)=true):
  Le h ⟨sl,[(0,.own 54 1 (List.replicate n .nils))]⟩ ⟨sl,[(0,.ext (.mat 54 3 1 (List.replicate n []) []))]⟩:=by
 have m:=LU (N:=h) (sl:=sl) (H:=[(0,.own 54 1 (List.replicate n .nils))])
  (H':=[(0,.ext (.mat 54 3 1 (List.replicate (List.replicate n AV.nils).length []) []))])
  0 3 1 (e:=54) (es:=List.replicate n .nils) rfl (fun x o=>x3r o) rfl j rfl rfl (by simp[GJ])
 simpa using m
def svA(w n a:Nat):List (List Wd):=List.replicate a (List.replicate w 0)++List.replicate (n-a) []
def tdA(n a:Nat):List Int:=(List.range a).map ofNat++List.replicate (n-a) 0
def wtA(n a:Nat):List Bool:=List.replicate a true++List.replicate (n-a) false
def q2p{n a:Nat}(h:a<n):(svA w n a).set a (List.replicate w 0)=svA w n (a+1):=by
 unfold svA;rw[x4d _ _ (by simp),x2d,x5s,show n-a=(n-(a+1))+1 by omega,x5b,x4p,List.replicate_succ' (n:=a),x1k];rfl
def q2l{n a:Nat}(h:a<n):(tdA n a).set a (a:Int)=tdA n (a+1):=by
 unfold tdA;rw[x4d _ _ (by simp),x0j,x3j,x5s,show n-a=(n-(a+1))+1 by omega,x5b,x4p,x4c,x0c,x1k];rfl
def q3j{n a:Nat}(h:a<n):(wtA n a).set a true=wtA n (a+1):=by
 unfold wtA;rw[x4d _ _ (by simp),x2d,x5s,show n-a=(n-(a+1))+1 by omega,x5b,x4p,List.replicate_succ' (n:=a),x1k];rfl
def q2b{n a:Nat}(h:a<=n):(svA w n a).length=n:=by unfold svA;simp;omega
def q2m{n a:Nat}(h:a<=n):(tdA n a).length=n:=by unfold tdA;simp;omega
def q3y{n a:Nat}(h:a<=n):(wtA n a).length=n:=by unfold wtA;simp;omega
def svO(h:Int):Heap:=[(1,.obj 236 [.p .nils,.p (.int .i64 h)]),(0,.obj 236 [.p .nils,.p (.int .i64 0)])]
def svH(R:List (List Wd))(h:List Int)(m:List Bool)(j:Int):Heap:=(4,.own 4 1 (m.map bv))::(3,.own 3 1 (h.map (.int .i64)))::(2,.ext (.mat 303 282 1 (eWm R) []))::svO j
def Oj{N:Nat}{sl:List (Nat×LV)}(n:Nat)(es ws:List AV)(h:Int)(j:(sl.all fun x=>x.2.xfree 2)=true):
  Le N ⟨sl,(4,.own 4 1 ws)::(3,.own 3 1 es)::(2,.own 303 1 (List.replicate n .nils))::svO h⟩ ⟨sl,(4,.own 4 1 ws)::(3,.own 3 1 es)::(2,.ext (.mat 303 282 1 (List.replicate n []) []))::svO h⟩:=by
 have m:=LU (N:=N) (sl:=sl) (H:=(4,.own 4 1 ws)::(3,.own 3 1 es)::(2,.own 303 1 (List.replicate n .nils))::svO h)
  (H':=(4,.own 4 1 ws)::(3,.own 3 1 es)::(2,.ext (.mat 303 282 1 (List.replicate (List.replicate n AV.nils).length []) []))::svO h)
  2 282 1 (e:=303) (es:=List.replicate n .nils) rfl (fun x o=>x3r o) rfl j rfl rfl (by simp[GJ,svO])
 simpa using m
def q5y{N:Nat}(R:List (List Wd)){a:Nat}(n:(eWm R).length=a)(m:Nat)(o:Int):
  Le N ⟨[(3,.p (.int .i64 m)),(8,.ptr 0 0),(9,.ptr 1 0),(11,.hd 2 0 a),(130,.p (.int .i64 a)),(131,.p (.int .i64 0))],(2,.ext (.mat 303 282 1 (eWm R) []))::svO o⟩
   ⟨[(3,.p (.int .i64 m)),(8,.ptr 0 0),(9,.ptr 1 0),(11,.p (LR R)),(130,.p (.int .i64 a)),(131,.p (.int .i64 0))],svO o⟩:=by
 refine Eo (k:=2) (e:=303) (e2:=282) (sz:=1) (rows:=eWm R) rfl (fun i=>?_) (by show [1,0].Sublist [2,1,0];decide) fun j c' q=>?_
 .refine SlRel.get (P:=fun l l'=>l'=l.kill 2\/(l=.hd 2 0 (eWm R).length/\l'=.p (.sl ((eWm R).map .sl)))) (.inl rfl) ?_ i;exact .cons (.inl rfl) (.cons (.inl rfl) (.cons (.inl rfl) (.cons (.inr ⟨by rw[n],rfl⟩) (.cons (.inl rfl) (.cons (.inl rfl) .nil)))))
 .rcases x0p.1 q with h|h
  .cases h;exact⟨by decide,x0f _ x0k,rfl⟩
  .rcases x0b.1 h with h;cases h;exact⟨by decide,x0f _ (x0f _ x0k),rfl⟩
def Iq{goes:List Wd}{i:Nat}(j:goes.length=w)(h:i<w):(goes.take i++List.replicate (w-i) 0).set i (goes[i]'(by omega))=goes.take (i+1)++List.replicate (w-(i+1)) 0:=by
 rw[x4d _ _ (by rw[x1f];omega),x1f,show i-min i goes.length=0 by omega,show w-i=(w-(i+1))+1 by omega,x5b,x4p,x0a (by omega),x1k];rfl
def Ln(g:List (List Int)×List (List Int))(n:Nat)(hn:n<=5000)(hg:XK n g.1)(E:∀r∈g.1,r.length<=1000000)(m:Nat)(hm:m<=5000)(gen kill:List (List Wd))(hgn:gen.length=n)(hkn:kill.length=n)(hgw:∀r∈gen,r.length=m/64+1)(hkw:∀r∈kill,r.length=m/64+1):SpecP prog 234 [VV g,LR gen,LR kill,.int .i64 m] (fun r=>∃(R:List (List Wd)) (tm:Int),(∀b:Int,0<=b->b<n->∀f,f/64<m/64+1->(bitW (R.getD b.toNat []) f=true↔SolP g.1 gen kill f b))/\R.length=n/\r=.agg [eMat (R.map fun row=>US row m),.int .i64 tm]):=by
 refine sB Hh func234 rfl call234 ?_;conv=>whnf
 have hgl0:=E;have hL:=Uc g;have hgl1:g.1.length=n:=hg.1;rw[hgl1]at hL;obtain⟨w,hw⟩ : ∃w,w=m/64+1:=⟨_,rfl⟩;rw[<-hw];rw[<-hw]at hgw hkw;have e7:=EO m;repeat' (first|((first|(refine iM fun _=>?_)|refine dA ?_|refine x0h rfl ?_|refine aD ?_|refine aR ?_|refine bP ?_|(refine iA fun _=>?_)|refine IdxK.xs (by omega) ?_|refine QX (by omega) ?_|(refine ByteK.at (by omega) ?_)|refine wI ?_|refine cP hL ?_|refine x5r n (by omega) (by first|(show 24*_<=140737488355328;omega)|(show 8*_<=140737488355328;omega)|(show 1*_<=140737488355328;omega)) (by unfold maxLen;omega) ?_);conv=>whnf)|(apply bD<;>intro _<;>first|omega|conv=>whnf)|(apply bE<;>intro _<;>first|omega|conv=>whnf)|(apply bN<;>intro _<;>conv=>whnf)|(apply bB<;>intro _<;>conv=>whnf))
 refine LoopK.inv QK (fun a:Nat=>⟨[(0,.p (VV g)),(1,.p (LR gen)),(2,.p (LR kill)),(3,.p (.int .i64 m)),(8,.ptr 0 0),(9,.ptr 1 0),(11,.hd 2 0 n),(12,.hd 3 0 n),(13,.hd 4 0 n),(30,.p (.int .i64 n)),(31,.p (.int .i64 a))],svH (svA w n a) (tdA n a) (wtA n a) 0⟩) (fun a=>a<=n) (fun a=>n-a) 0
  (by
    refine Le.trans (Oj n _ _ 0 rfl) ?_;exact Le.of_eq (by simp[svH,svA,tdA,wtA,eWm,bv];exact⟨rfl,.inr rfl,.inr rfl⟩)) (x0l _) ?_
 intro a ha;rcases x0t a n with e|e
 .have g1:=q2p (w:=w) e;have g2:=q2l e;have g3:=q3j e;have l1:=q2b (w:=w) ha;have l2:=q2m ha;have l3:=q3y ha;have x2:((tdA n a).map (AV.int .i64))[a]?=some (.int .i64 ((tdA n a)[a]'(by omega))):=by rw[x0d,x0u (by omega)];rfl
  have x3:((wtA n a).map bv)[a]?=some (bv ((wtA n a)[a]'(by omega))):=by rw[x0d,x0u (by omega)];rfl
  generalize(tdA n a)[a]'(by omega)=o2 at x2;generalize(wtA n a)[a]'(by omega)=o3 at x3;have q1:(eWm (svA w n a)).set a (List.replicate w (.int .u64 0))=eWm (svA w n (a+1)):=by rw[<-g1];unfold eWm;rw[x2y,x3b];rfl
  have q2:((tdA n a).map (AV.int .i64)).set a (.int .i64 a)=(tdA n (a+1)).map (AV.int .i64):=by rw[<-g2,x2y]
  have q3:((wtA n a).map bv).set a .tt=(wtA n (a+1)).map bv:=by rw[<-g3,x2y];rfl
  generalize svA w n a=R at*
  generalize tdA n a=td at*
  generalize wtA n a=wt at*
  have hel:(eWm R).length=n:=by unfold eWm;rw[x0j,l1]
  unfold svH svO;conv=>whnf
  repeat' (first|((first|(refine iM fun _=>?_)|refine dA ?_|refine x0h rfl ?_|refine aD ?_|refine aR ?_|refine bP ?_|(refine iA fun _=>?_)|refine IdxK.xs (by omega) ?_|refine QX (by omega) ?_|(refine ByteK.at (by omega) ?_)|refine x0h (by decide) ?_|refine Wr.i64 (by first|omega|(rw[e7];omega)) (by first|omega|(rw[e7];omega)) ?_|refine x5r w (by rw[hw,e7];omega) (by show 8*_<=140737488355328;omega) (by unfold maxLen;omega) ?_|refine x1i a rfl e ?_|(refine FB QK rfl rfl rfl rfl rfl rfl rfl rfl rfl (by decide) a [] (by omega) (by omega) (by simp) ⟨by simp,by simp,by simp⟩ ?_)|refine x3p a 0 _ (.int .i64 a) (by omega) x2 (x0o 1) rfl ?_|refine x3p a 0 _ .tt (by omega) x3 (x0o 1) (by cases o3<;>rfl) ?_);conv=>whnf)|(apply bD<;>intro _<;>first|omega|conv=>whnf)|(apply bE<;>intro _<;>first|omega|conv=>whnf)|(apply bN<;>intro _<;>conv=>whnf)|(apply bB<;>intro _<;>conv=>whnf))
  all_goals exact⟨a+1,e,by omega,Le.of_eq (by show _=St.mk _ (svH (svA w n (a+1)) (tdA n (a+1)) (wtA n (a+1)) 0);unfold svH svO;rw[<-q1,<-q2,<-q3];rfl)⟩
 .obtain rfl:a=n:=by omega
  have hB:a*(64*w)<=5000*(64*79):=Nat.mul_le_mul hn (by omega);have hst:=AW (n:=a) (w:=w) (nx:=g.1) (gen:=gen) (kill:=kill) (by omega);have i1:svA w a a=List.replicate a (List.replicate w 0):=by unfold svA;simp
  have i2:tdA a a=(List.range a).map ofNat:=by unfold tdA;simp
  have i3:wtA a a=List.replicate a true:=by unfold wtA;simp
  rw[i1,i2,i3];conv=>whnf
  repeat' (first|((first|(refine iM fun _=>?_)|refine dA ?_|refine x0h rfl ?_|refine aD ?_|refine aR ?_|refine bP ?_|(refine iA fun _=>?_)|refine IdxK.xs (by omega) ?_|refine QX (by omega) ?_|(refine ByteK.at (by omega) ?_)|refine wI ?_);conv=>whnf)|(apply bD<;>intro _<;>first|omega|conv=>whnf)|(apply bE<;>intro _<;>first|omega|conv=>whnf)|(apply bN<;>intro _<;>conv=>whnf)|(apply bB<;>intro _<;>conv=>whnf))
  refine LoopK.inv QK (fun x:SvS×List Int×Int=>⟨[(0,.p (VV g)),(1,.p (LR gen)),(2,.p (LR kill)),(3,.p (.int .i64 m)),(8,.ptr 0 0),(9,.ptr 1 0),(11,.hd 2 0 a),(12,.hd 3 x.2.1.length x.1.todo.length),(13,.hd 4 0 a)],svH x.1.R (x.2.1++x.1.todo) x.1.waits x.2.2⟩)
   (fun x=>SvI a w g.1 gen kill x.1/\(∀y:Int,0<=y->y<a->y∉x.1.todo->closedA a w g.1 gen kill x.1.R y)/\0<=x.2.2/\(x.2.1.length:Int)<=x.2.2/\x.2.2.toNat+(a*(64*w)+x.1.todo.length-VT w x.1.R)<=a*(64*w)+a)
   (fun x=>a*(64*w)+x.1.todo.length-VT w x.1.R) (⟨List.replicate a (List.replicate w 0),(List.range a).map ofNat,List.replicate a true⟩,[],0)
   (Le.mk [] (by simp) (by simp) (by simp[svH,svO]) (.r (.r (.r (.r (.r (.r (.r (.cons (.of_eq (by simp only[x0j,x3j];rfl)) (.r .nil))))))))) (.cons rfl (.refl _) (.cons rfl (.refl _) (.cons rfl (.refl _) (.cons rfl (.refl _) (.cons rfl (.refl _) .nil)))))) ⟨hst,fun y h0 e hy=>absurd (x0n.2 ⟨y.toNat,x1a.2 (by omega),by show((y.toNat:Nat):Int)=y;omega⟩) hy,Int.le_refl _,Int.le_refl _,by simp only[x0j,x3j];omega⟩ ?_
  rintro⟨st,pre,tm⟩ ⟨Q,K,ht0,hpt,M⟩;simp only at Q K ht0 hpt M⊢;cases D:st.todo with
  | nil=>
    rw[D]at K M;unfold svH svO;conv=>whnf
    repeat' (first|((first|(refine iM fun _=>?_)|refine dA ?_|refine x0h rfl ?_|refine aD ?_|refine aR ?_|refine bP ?_|(refine iA fun _=>?_)|refine IdxK.xs (by omega) ?_|refine QX (by omega) ?_|(refine ByteK.at (by omega) ?_)|refine wI ?_);conv=>whnf)|(apply bD<;>intro _<;>first|omega|conv=>whnf)|(apply bE<;>intro _<;>first|omega|conv=>whnf)|(apply bN<;>intro _<;>conv=>whnf)|(apply bB<;>intro _<;>conv=>whnf))
    all_goals try (exfalso;simp only[x4s]at*;omega)
    obtain⟨R,todo,u⟩:=st;simp only at D Q K M⊢;subst D;have F:=Q.len;simp only at F;have hel:(eWm R).length=a:=by unfold eWm;rw[x0j,F]
    have hfin:∀b:Int,0<=b->b<a->∀f,f/64<w->(bitW (R.getD b.toNat []) f=true↔SolP g.1 gen kill f b):=fun b h0 e f hf=>Ow Q K rfl (by omega) h0 e hf;have hrow:=Q.rows;simp only at hrow;refine LoopK.inv QK (fun i:Nat=>⟨[(3,.p (.int .i64 m)),(8,.ptr 0 0),(9,.ptr 1 0),(11,.p (LR R)),(130,.p (.int .i64 a)),(131,.p (.int .i64 i))],[(1,.obj 236 [.hd 5 0 i,.p (.int .i64 tm)]),(0,.obj 236 [.p .nils,.p (.int .i64 0)]),(5,.own 54 1 ((R.take i).map fun r=>QI (US r m)))]⟩) (fun i=>i<=a) (fun i=>a-i) 0
     (by
       refine Le.trans (q5y (N:=_) R hel m tm) ?_;exact Le.mk [(5,.own 54 1 [])] (by simp[Chunk.new0];rfl) (by simp) (by simp) (.r (.r (.r (.r (.r (.r .nil)))))) (.cons rfl (.obj (.cons (.nil x0k) (.r .nil))) (.cons rfl (.refl _) (.new x0k .nil)))) (x0l _) ?_
    intro i hi;rcases x0t i a with e|e
    .have hlt:i<R.length:=by omega
     have eI:((eWm R).map AV.sl)[i]?=some (.sl (R[i].map eW)):=by unfold eWm;rw[x0d,x0d,x0u hlt];rfl
     have hrl:=hrow _ (x0s hlt);have hLi:=J4 R[i] m (by omega) (by omega);have hacl:((R.take i).map fun r=>QI (US r m)).length=i:=by rw[x0j,x1f];omega
     have hacs:((R.take (i+1)).map fun r=>QI (US r m))=((R.take i).map fun r=>QI (US r m))++[QI (US R[i] m)]:=by rw[x0a hlt,x0c];rfl
     generalize((R.take i).map fun r=>QI (US r m))=B at hacl hacs⊢;generalize R[i]=row at*
     conv=>whnf
     repeat' (first|((first|(refine iM fun _=>?_)|refine dA ?_|refine x0h rfl ?_|refine aD ?_|refine aR ?_|refine bP ?_|(refine iA fun _=>?_)|refine IdxK.xs (by omega) ?_|refine QX (by omega) ?_|(refine ByteK.at (by omega) ?_)|refine wI ?_|(refine IdxK.at (k:=i) rfl eI rfl ?_)|refine cP hLi ?_|refine x4n hacl.symm rfl (by show(i+1)*24<=140737488355328;omega) (by show i+1<=9223372036854775807;omega) (fun x hx=>by rcases x0b.1 hx with rfl;exact⟨rfl,rfl⟩) ?_);conv=>whnf)|(apply bD<;>intro _<;>first|omega|conv=>whnf)|(apply bE<;>intro _<;>first|omega|conv=>whnf)|(apply bN<;>intro _<;>conv=>whnf)|(apply bB<;>intro _<;>conv=>whnf)|(refine x0h ?_ ?_<;>conv=>whnf))
     all_goals first
      |(exfalso;omega)
      |exact⟨i+1,e,by omega,Le.of_eq (by rw[hacs];rfl)⟩
    .obtain rfl:i=a:=by omega
     have T:((R.take i).map fun r=>QI (US r m))=R.map fun r=>QI (US r m):=by rw[x1w (by omega)]
     have hal2:(R.map fun r=>QI (US r m)).length=i:=by rw[x0j,F]
     rw[T];conv=>whnf
     repeat' (first|((first|(refine iM fun _=>?_)|refine dA ?_|refine x0h rfl ?_|refine aD ?_|refine aR ?_|refine bP ?_|(refine iA fun _=>?_)|refine IdxK.xs (by omega) ?_|refine QX (by omega) ?_|(refine ByteK.at (by omega) ?_)|refine wI ?_);conv=>whnf)|(apply bD<;>intro _<;>first|omega|conv=>whnf)|(apply bE<;>intro _<;>first|omega|conv=>whnf)|(apply bN<;>intro _<;>conv=>whnf)|(apply bB<;>intro _<;>conv=>whnf))
     all_goals try (exfalso;omega)
     have he:(avI (R.map fun row=>US row m)).map AV.sl=R.map fun r=>QI (US r m):=by
      unfold avI;rw[x4i,x4i];rfl
     refine⟨_,.agg (cs:=[eMat (R.map fun row=>US row m),.int .i64 tm]) rfl fun q l c e J=>?_,⟨R,tm,hfin,F,rfl⟩⟩
     match q,e,J with
     | 0,e,J=>
       cases e;cases J;show Frz _ _ (.sl ((avI (R.map fun row=>US row m)).map AV.sl));rw[he];exact .hd rfl hal2.symm
     |1,e,J=>cases e;cases J;exact .p (Sub.refl _)
     |q+2,e,J=>simp at e
  | cons x r=>
    have har:=Q.rng x (by rw[D];exact x0k);obtain⟨hJ,L⟩:=IS Q K D;have hca:=Uq (w:=w) st.R;rw[Q.len]at hca;rw[D]at M;simp only[x1r]at M;obtain⟨R,todo,u⟩:=st;simp only at D Q K M hJ L hca⊢;subst D;obtain⟨s,hxn⟩ : ∃s:Nat,x=s:=⟨x.toNat,by omega⟩;subst hxn;rw[x2s]at hJ L;have hxl:s<a:=by omega
    have F:=Q.len;have hwl:=Q.wl;simp only at F hwl;have hiw:=Q.rows _ (x0s (show s<R.length by omega));have e1:((pre++(s:Int)::r).map (AV.int .i64))[pre.length]?=some (.int .i64 s):=by rw[x0d,x2q (x0o _),x5s];rfl
    have e2:(u.map bv)[s]?=some (bv (u[s]'(by omega))):=by rw[x0d,x0u (by omega)];rfl
    generalize u[s]'(by omega)=w0 at e2;have hrm:(u.map bv).set s .ff=(u.set s false).map bv:=by rw[x2y];rfl
    have hwm:(u.map bv).length=a:=by rw[x0j,hwl]
    have hpm:((pre++(s:Int)::r).map (AV.int .i64)).length=pre.length+(r.length+1):=by simp
    unfold svH svO;conv=>whnf
    repeat' (first|((first|(refine iM fun _=>?_)|refine dA ?_|refine x0h rfl ?_|refine aD ?_|refine aR ?_|refine bP ?_|(refine iA fun _=>?_)|refine IdxK.xs (by omega) ?_|refine QX (by omega) ?_|(refine ByteK.at (by omega) ?_)|refine x1i 0 rfl (by simp) ?_|refine x2t pre.length 0 (.int .i64 s) (by omega) e1 ?_|refine SlK.mk 1 (r.length+1) rfl rfl (by omega) (by simp) ?_|refine x1i s rfl (by omega) ?_|refine x3p s 0 _ .ff (by omega) e2 (x0o 1) (by cases w0<;>rfl) ?_|refine x0h (by decide) ?_|refine Wr.i64 (by first|omega|(rw[e7];omega)) (by first|omega|(rw[e7];omega)) ?_|refine x5r w (by rw[hw,e7];omega) (by show 8*_<=140737488355328;omega) (by unfold maxLen;omega) ?_);conv=>whnf)|(apply bD<;>intro _<;>first|omega|conv=>whnf)|(apply bE<;>intro _<;>first|omega|conv=>whnf)|(apply bN<;>intro _<;>conv=>whnf)|(apply bB<;>intro _<;>conv=>whnf))
    all_goals try (exfalso;simp only[x1r]at*;omega)
    have hxg:s<gen.length:=by omega
    have hxk:s<kill.length:=by omega
    have hG:=hgw _ (x0s hxg);have hK:=hkw _ (x0s hxk);have eG:((eWm gen).map AV.sl)[s]?=some (.sl (gen[s].map eW)):=by unfold eWm;rw[x0d,x0d,x0u hxg];rfl
    have eK:((eWm kill).map AV.sl)[s]?=some (.sl (kill[s].map eW)):=by unfold eWm;rw[x0d,x0d,x0u hxk];rfl
    have eI:(eWm R)[s]?=some ((R[s]'(by omega)).map eW):=by unfold eWm;rw[x0d,x0u (by omega)];rfl
    have hel:(eWm R).length=a:=by unfold eWm;rw[x0j,F]
    have hgoes:goA w gen kill R s=PW w gen[s] (R[s]'(by omega)) kill[s]:=by
     unfold goA;rw[x0y,x0u hxg,x0y,x0u (by omega),x0y,x0u hxk];rfl
    rw[hgoes]at hJ L;generalize hgG:gen[s]=G at*
    generalize hgK:kill[s]=Kr at*
    generalize hgI:R[s]'(by omega)=I at*
    have E:(PW w G I Kr).length=w:=Co _ _ _ _;refine LoopK.inv QK (fun i:Nat=>⟨[(0,.p (VV g)),(1,.p (LR gen)),(2,.p (LR kill)),(3,.p (.int .i64 m)),(8,.ptr 0 0),(9,.ptr 1 0),(11,.hd 2 0 a),(12,.hd 3 (pre.length+1) r.length),(13,.hd 4 0 a),(15,.p (.int .i64 s)),(16,.hd 5 0 w),(69,.p (.int .i64 w)),(70,.p (.int .i64 i))],(5,.own 282 1 (((PW w G I Kr).take i++List.replicate (w-i) 0).map eW))::svH R (pre++(s:Int)::r) (u.set s false) (tm+1)⟩) (fun i=>i<=w) (fun i=>w-i) 0
     (Le.of_eq (by unfold svH svO;simp[hrm,eW];exact⟨rfl,rfl,.inr rfl⟩)) (x0l _) ?_
    intro i hi;rcases x0t i w with e|e
    .have gI:(I.map eW)[i]?=some (.int .u64 ((I[i]'(by omega)).toNat:Int)):=SZ (by omega);have gG:(G.map eW)[i]?=some (.int .u64 ((G[i]'(by omega)).toNat:Int)):=SZ (by omega);have gK:(Kr.map eW)[i]?=some (.int .u64 ((Kr[i]'(by omega)).toNat:Int)):=SZ (by omega);have V:=Iq (goes:=PW w G I Kr) (w:=w) E e;have hgi:(PW w G I Kr)[i]'(by omega)=G[i]'(by omega) |||(I[i]'(by omega) &&& ~~~ (Kr[i]'(by omega))):=by
      unfold PW;rw[x4e,x6y,x0y,x0u (by omega),x0y,x0u (by omega),x0y,x0u (by omega)];rfl
     rw[hgi]at V;obtain⟨B,hacc⟩ : ∃B,B=((PW w G I Kr).take i++List.replicate (w-i) 0):=⟨_,rfl⟩;have hal:B.length=w:=by rw[hacc,x0g,x1f,x2d];omega
     have gA:(B.map eW)[i]?=some (eW (B[i]'(by omega))):=by rw[x0d,x0u (by omega)];rfl
     rw[<-hacc]at V⊢;generalize B[i]'(by omega)=o5 at gA;generalize I[i]'(by omega)=x1 at*
     generalize G[i]'(by omega)=x2 at*
     generalize Kr[i]'(by omega)=x3 at*
     have hst2:(B.map eW).set i (eW (x2 |||(x1 &&& ~~~x3)))=((PW w G I Kr).take (i+1)++List.replicate (w-(i+1)) 0).map eW:=by rw[<-V,x2y]
     have ham:(B.map eW).length=w:=by rw[x0j,hal]
     have hIm:(I.map eW).length=w:=by rw[x0j];exact hiw
     unfold svH svO;conv=>whnf
     repeat' (first|((first|(refine iM fun _=>?_)|refine dA ?_|refine x0h rfl ?_|refine aD ?_|refine aR ?_|refine bP ?_|(refine iA fun _=>?_)|refine IdxK.xs (by omega) ?_|refine QX (by omega) ?_|(refine ByteK.at (by omega) ?_)|refine wI ?_|(refine IdxK.at (k:=s) rfl eG rfl ?_)|(refine IdxK.at (k:=i) rfl gG rfl ?_)|(refine IdxK.at (k:=s) rfl eK rfl ?_)|(refine IdxK.at (k:=i) rfl gK rfl ?_)|refine x1i s rfl (by omega) ?_|refine x1i i rfl (by omega) ?_|refine RowK.mk s _ (by omega) eI (by simp) ?_|refine RLd.mk _ i 0 _ eI (by simp) (by omega) gI ?_|refine UH rfl x1 x3 _ rfl rfl rfl rfl (.inr (.inr ⟨rfl,rfl⟩)) ?_|refine UH rfl x2 _ _ rfl rfl rfl rfl (.inr (.inl ⟨rfl,rfl⟩)) ?_|refine x3p i 0 (eW o5) (eW (x2 |||(x1 &&& ~~~x3))) (by omega) gA (x0o 1) rfl ?_);conv=>whnf)|(apply bD<;>intro _<;>first|omega|conv=>whnf)|(apply bE<;>intro _<;>first|omega|conv=>whnf)|(apply bN<;>intro _<;>conv=>whnf)|(apply bB<;>intro _<;>conv=>whnf))
     all_goals first
      |(exfalso;omega)
      |exact⟨i+1,e,by omega,Le.of_eq (by rw[<-hst2];rfl)⟩
    .have hie:i=w:=by omega
     rw[hie];have T:(PW w G I Kr).take w++List.replicate (w-w) 0=PW w G I Kr:=by rw[x1w (by omega),x5s];simp
     rw[T];obtain⟨d,hgw2⟩ : ∃d,d=PW w G I Kr:=⟨_,rfl⟩;rw[<-hgw2]at E L hJ⊢;have hNx:=Wc g s hgl0;have hhas:ZK g.1.length (s:Int)=true:=by unfold ZK;simp;omega
     rw[if_pos hhas,x2s]at hNx;unfold svH svO;conv=>whnf
     repeat' (first|((first|(refine iM fun _=>?_)|refine dA ?_|refine x0h rfl ?_|refine aD ?_|refine aR ?_|refine bP ?_|(refine iA fun _=>?_)|refine IdxK.xs (by omega) ?_|refine QX (by omega) ?_|(refine ByteK.at (by omega) ?_)|refine wI ?_|refine cP hNx ?_);conv=>whnf)|(apply bD<;>intro _<;>first|omega|conv=>whnf)|(apply bE<;>intro _<;>first|omega|conv=>whnf)|(apply bN<;>intro _<;>conv=>whnf)|(apply bB<;>intro _<;>conv=>whnf))
     all_goals try (exfalso;omega)
     have hnx:∀r∈g.1,∀b∈r,0<=b/\b<a:=hg.2;have hnxl:(g.1.getD s []).length<=1000000:=by
      rw[x0y,x0u (by omega)];exact hgl0 _ (x0s (by omega))
     have hnr:∀b∈g.1.getD s [],0<=b/\b<a:=fun b hb=>by
      rw[x0y,x0u (by omega)]at hb;exact hnx _ (x0s (by omega)) b hb
     obtain⟨v,U⟩ : ∃v,v=g.1.getD s []:=⟨_,rfl⟩;have hE:∀{st:SvS},SvJ a w g.1 gen kill s d v.length st->∀x:Int,0<=x->x<a->x∉st.todo->closedA a w g.1 gen kill st.R x:=fun {st} h=>by
      subst U;exact I1 h
     have hJn:∀{j:Nat}{st:SvS},SvJ a w g.1 gen kill s d j st->∀Z:j<v.length,SvJ a w g.1 gen kill s d (j+1) (jnE d st v[j])/\VT w st.R+(jnE d st v[j]).todo.length<=VT w (jnE d st v[j]).R+st.todo.length:=fun {j st} h Z=>by
      subst U;exact q1p hnx har.1 har.2 E L h Z
     rw[<-U]at hnr hnxl⊢;clear L hNx;have hnl:(v.map (AV.int .i64)).length=v.length:=x0j _;refine LoopK.inv QK (fun x:Nat×SvS×List Int=>⟨[(0,.p (VV g)),(1,.p (LR gen)),(2,.p (LR kill)),(3,.p (.int .i64 m)),(8,.ptr 0 0),(9,.ptr 1 0),(11,.hd 2 0 a),(12,.hd 3 x.2.2.length x.2.1.todo.length),(13,.hd 4 0 a),(16,.hd 5 0 w),(102,.p (QI v)),(103,.p (.int .i64 (v.map (AV.int .i64)).length)),(104,.p (.int .i64 x.1))],(5,.own 282 1 (d.map eW))::svH x.2.1.R (x.2.2++x.2.1.todo) x.2.1.waits (tm+1)⟩)
      (fun x=>x.1<=v.length/\SvJ a w g.1 gen kill s d x.1 x.2.1/\VT w R+x.2.1.todo.length<=VT w x.2.1.R+r.length/\(x.2.2.length:Int)<=tm+1)
      (fun x=>v.length-x.1) (0,⟨R,r,u.set s false⟩,pre++[(s:Int)]) (Le.of_eq (by unfold svH svO;simp;rfl)) ⟨x0l _,hJ,x0o _,by simp;omega⟩ ?_
     rintro⟨j,⟨t,A,o⟩,pre2⟩ ⟨h2,J,h4,h5⟩;simp only at h2 J h4 h5⊢;have hca2:=Uq (w:=w) t;have hl2:=J.I.len;simp only at hl2;rw[hl2]at hca2;rcases x0t j v.length with Z|Z
     .obtain ⟨O,P⟩:=hJn J Z;have hbr:=hnr _ (x0s Z);obtain⟨z,hbj⟩ : ∃z:Nat,v[j]=z:=⟨v[j].toNat,by omega⟩;rw[hbj]at O P hbr;have hbl:z<t.length:=by omega
      have hwl2:=J.I.wl;simp only at hwl2;unfold jnE at O P;simp only[x2s]at O P;rw[x0y,x0u hbl,x2k,x0y,x0u (show z<o.length by omega),x2k]at O P;have hrw:=J.I.rows _ (x0s hbl);have eR:(eWm t)[z]?=some (t[z].map eW):=by unfold eWm;rw[x0d,x0u hbl];rfl
      have eW2:(o.map bv)[z]?=some (bv (o[z]'(by omega))):=by rw[x0d,x0u (by omega)];rfl
      have C:(eWm t).set z ((ZB t[z] d).map eW)=eWm (t.set z (ZB t[z] d)):=by unfold eWm;rw[x2y]
      have Y:(o.map bv).set z .tt=(o.set z true).map bv:=by rw[x2y];rfl
      generalize t[z]=row at*
      generalize o[z]'(by omega)=wb at*
      have hjo:=Sn row d (by omega) (by omega);have hjl:=Y4 (b:=row) (c:=d) (by omega);have hrm2:(row.map eW).length=w:=by rw[x0j];exact hrw
      have hgm2:(d.map eW).length=w:=by rw[x0j];exact E
      have hel2:(eWm t).length=a:=by unfold eWm;rw[x0j,hl2]
      have hwm2:(o.map bv).length=a:=by rw[x0j,hwl2]
      have hjo2:SpecH prog 291 [.hd 1000 0 (row.map eW).length,.hd 1001 0 w] ((1000,.own 282 1 (row.map eW))::bif true then [(1001,.own 282 1 (d.map eW))]else []) (fun r H=>r=.p (.bool (Qx row d row.length))/\H=[wsH 1000 (ZB row d),wsH 1001 d]):=by
       rw[hrm2];rw[hrw,E]at hjo;rw[hrw];exact hjo
      generalize Qx row d row.length=mv at*
      unfold svH svO;rcases wb with _|_;rcases pre2 with _|⟨y,p2⟩;all_goals
       conv=>whnf
       repeat' (first|((first|(refine iM fun _=>?_)|refine dA ?_|refine x0h rfl ?_|refine aD ?_|refine aR ?_|refine bP ?_|(refine iA fun _=>?_)|refine IdxK.xs (by omega) ?_|refine QX (by omega) ?_|(refine ByteK.at (by omega) ?_)|refine wI ?_|refine x1i z hbj (by omega) ?_|refine RowK.mk z _ (by omega) eR (by simp) ?_|(refine Zm 2 z 5 true ((ZB row d).map eW) (S:=fun c=>c=.bool mv) (.row (.own rfl .nil)) hjo2 rfl eR (by omega) (fun _=>⟨rfl,by decide⟩) (fun l' H' hh=>by obtain⟨h8,h9⟩:=hh;exact⟨_,h8,rfl,h9⟩) (by rw[x0j,x0j,hjl]) ?_;rintro _ rfl)|refine x2t z 0 _ (by omega) eW2 ?_|refine x3p z 0 _ .tt (by omega) eW2 (x0o 1) rfl ?_|refine XU (by simp) (by simp;omega) ?_|refine TX QK rfl rfl (Nat.succ_pos _) rfl rfl rfl rfl rfl rfl (by decide) (by rw[x0j,x0g]) rfl (Nat.succ_pos _) (fun x hx=>by rcases x0b.1 hx with rfl;exact⟨rfl,rfl⟩) (by show _+1<=maxLen;unfold maxLen;omega) (by show(_+1)*8<=_;omega) ?_ ?_);conv=>whnf)|(apply bD<;>intro _<;>first|omega|conv=>whnf)|(apply bE<;>intro _<;>first|omega|conv=>whnf)|(apply bN<;>intro _<;>conv=>whnf)|(apply bB<;>intro _<;>conv=>whnf)|(refine x0h ?_ ?_<;>conv=>whnf))
       all_goals try (exfalso;simp_all;done)
       all_goals first
        | (have hq:(mv && !true)=false:=by simp[*]
           rw[hq,x1g]at O P;exact⟨(j+1,⟨t.set z (ZB row d),A,o⟩,_),⟨Z,O,by simp only at P⊢;omega,h5⟩,by simp only;omega,Le.of_eq (by rw[<-C];rfl)⟩)
        | (have hq:(mv && !false)=false:=by simp[*]
           rw[hq,x1g]at O P;exact⟨(j+1,⟨t.set z (ZB row d),A,o⟩,_),⟨Z,O,by simp only at P⊢;omega,h5⟩,by simp only;omega,Le.of_eq (by rw[<-C];rfl)⟩)
        | (have hq:(mv && !false)=true:=by simp[*]
           rw[hq,x1u]at O P;exact⟨(j+1,⟨t.set z (ZB row d),A++[(z:Int)],o.set z true⟩,_),⟨Z,O,by simp only[x0g,x1h]at P⊢;omega,h5⟩,by simp only;omega,Le.of_eq (by simp only[svH,svO,<-C,<-Y,hbj,x0c,x1k,x0g,x1j,x5j];rfl)⟩)
        | (have hq:(mv && !false)=true:=by simp[*]
           rw[hq,x1u]at O P;exact⟨(j+1,⟨t.set z (ZB row d),A++[(z:Int)],o.set z true⟩,[]),⟨Z,O,by simp only[x0g,x1h]at P⊢;omega,by simp only[x4s];omega⟩,by simp only;omega,Le.of_eq (by rw[<-List.map_drop,List.drop_left];simp only[svH,svO,<-C,<-Y,hbj,x0c,x1k,x0g,x1j,x5j];rfl)⟩)
     .obtain rfl:j=v.length:=by omega
      have hcl2:=hE J;unfold svH svO;conv=>whnf
      repeat' (first|((first|(refine iM fun _=>?_)|refine dA ?_|refine x0h rfl ?_|refine aD ?_|refine aR ?_|refine bP ?_|(refine iA fun _=>?_)|refine IdxK.xs (by omega) ?_|refine QX (by omega) ?_|(refine ByteK.at (by omega) ?_)|refine wI ?_);conv=>whnf)|(apply bD<;>intro _<;>first|omega|conv=>whnf)|(apply bE<;>intro _<;>first|omega|conv=>whnf)|(apply bN<;>intro _<;>conv=>whnf)|(apply bB<;>intro _<;>conv=>whnf))
      all_goals try (exfalso;omega)
      all_goals first
       |exact⟨(⟨t,A,o⟩,pre2,tm+1),⟨J.I,hcl2,by simp only;omega,h5,by simp only;omega⟩,by simp only[x1r];omega,lE⟩
def q9j(n:Nat)(steps:List (Int×Int))(gen kill:List (List Int))(h:Nat)(r:AV):Prop:=∃(R:List (List Wd)) (tm:Int),(∀b:Int,0<=b->b<n->∀f,f/64<h/64+1->(bitW (R.getD b.toNat []) f=true↔SolP (QS n steps).1 (gen.map (HK (h/64+1))) (kill.map (HK (h/64+1))) f b))/\R.length=n/\r=.tup [.agg [eMat (R.map fun row=>US row h),.int .i64 tm],.tt]
def Tx(n:Nat)(E:n<=5000)(steps:List (Int×Int))(I:steps.length<=1000000)(J:∀s∈steps,(0<=s.1/\s.1<n)/\0<=s.2/\s.2<n)(gen kill:List (List Int))(C:gen.length=n)(D:kill.length=n)(h:Nat)(g:h<=5000)(q:∀r∈gen,r.length<=5000/\∀f∈r,0<=f/\f<h)(z:∀r∈kill,r.length<=5000/\∀f∈r,0<=f/\f<h):SpecP prog 184 [.int .i64 n,.sl (avP steps),eMat gen,eMat kill,.int .i64 h] (fun r=>q9j n steps gen kill h r):=by
 refine sB Ta func184 rfl call184 ?_;conv=>whnf
 have G:((avI gen).map AV.sl).length=n:=by unfold avI;rw[x0j,x0j,C]
 have H:((avI kill).map AV.sl).length=n:=by unfold avI;rw[x0j,x0j,D]
 have K:(avP steps).length=steps.length:=x0j _;repeat' (first|((first|(refine iM fun _=>?_)|refine dA ?_|refine x0h rfl ?_|refine aD ?_|refine aR ?_|refine bP ?_|(refine iA fun _=>?_)|refine IdxK.xs (by omega) ?_|refine QX (by omega) ?_|(refine ByteK.at (by omega) ?_)|refine wI ?_);conv=>whnf)|(apply bD<;>intro _<;>first|omega|conv=>whnf)|(apply bE<;>intro _<;>first|omega|conv=>whnf)|(apply bN<;>intro _<;>conv=>whnf)|(apply bB<;>intro _<;>conv=>whnf))
 all_goals try (exfalso;omega)
 refine LoopK.inv QK (fun j:Nat=>⟨[(0,.p (.int .i64 n)),(1,.p (.sl (avP steps))),(2,.p (eMat gen)),(3,.p (eMat kill)),(4,.p (.int .i64 h)),(10,.ptr 0 0),(45,.p (.sl (avP steps))),(46,.p (.int .i64 (avP steps).length)),(47,.p (.int .i64 j))],[(0,.obj 236 [.p .nils,.p (.int .i64 0)])]⟩) (fun j=>j<=steps.length) (fun j=>steps.length-j) 0 (Le.of_eq rfl) (x0l _) ?_;intro j M;rcases x0t j steps.length with a|a
 .have A:=J _ (x0s a);have o:(avP steps)[j]?=some (.agg [.int .i64 steps[j].1,.int .i64 steps[j].2]):=by unfold avP;rw[x0d,x0u a];rfl
  generalize steps[j]=s at*
  obtain⟨x,y⟩:=s;simp only at A o;conv=>whnf
  repeat' (first|((first|(refine iM fun _=>?_)|refine dA ?_|refine x0h rfl ?_|refine aD ?_|refine aR ?_|refine bP ?_|(refine iA fun _=>?_)|refine IdxK.xs (by omega) ?_|refine QX (by omega) ?_|(refine ByteK.at (by omega) ?_)|refine wI ?_|(refine IdxK.at (k:=j) rfl o rfl ?_)|refine x1i 0 rfl (by decide) ?_|refine x1i 1 rfl (by decide) ?_);conv=>whnf)|(apply bD<;>intro _<;>first|omega|conv=>whnf)|(apply bE<;>intro _<;>first|omega|conv=>whnf)|(apply bN<;>intro _<;>conv=>whnf)|(apply bB<;>intro _<;>conv=>whnf))
  all_goals first
   |(exfalso;omega)
   |exact⟨j+1,a,by omega,Le.of_eq rfl⟩
 .have F:=Ua n E steps I;have b:=Gc gen (by omega) (fun r m=>(q r m).1) h g (fun r m=>(q r m).2);have c:=Gc kill (by omega) (fun r m=>(z r m).1) h g (fun r m=>(z r m).2);have e:=(JW n steps).1;have t:∀r∈(QS n steps).1,r.length<=1000000:=fun r m=>by
   have B:=(BY (n:=n) (l:=steps) (x0o _)).1;rw[x5o]at B;have:=(B.2 r m).2;omega
  have d:=Ln (QS n steps) n E e t h g (gen.map (HK (h/64+1))) (kill.map (HK (h/64+1))) (by rw[x0j,C]) (by rw[x0j,D]) (fun r m=>by obtain⟨x,_,rfl⟩:=x0n.1 m;exact Vj _ _) (fun r m=>by obtain⟨x,_,rfl⟩:=x0n.1 m;exact Vj _ _);conv=>whnf
  repeat' (first|((first|(refine iM fun _=>?_)|refine dA ?_|refine x0h rfl ?_|refine aD ?_|refine aR ?_|refine bP ?_|(refine iA fun _=>?_)|refine IdxK.xs (by omega) ?_|refine QX (by omega) ?_|(refine ByteK.at (by omega) ?_)|refine wI ?_|refine cP b ?_|refine cP c ?_|refine cP F ?_|(refine CallK.pure d (.cons (Sub.refl _) (.cons (Sub.refl _) (.cons (Sub.refl _) (.cons (Sub.refl _) .nil)))) ?_;rintro _ ⟨R,L,u,v,rfl⟩));conv=>whnf)|(apply bD<;>intro _<;>first|omega|conv=>whnf)|(apply bE<;>intro _<;>first|omega|conv=>whnf)|(apply bN<;>intro _<;>conv=>whnf)|(apply bB<;>intro _<;>conv=>whnf))
  all_goals first
   |(exfalso;omega)
   |contradiction
   |exact⟨_,.p (Sub.refl _),R,L,u,v,rfl⟩
def Rj(p:Pg):Bool:=decide (gPg p<=20000)
def Cv(h:Rj p=true):Fit p:=by
 have:=q8m p;have j:gPg p<=20000:=by simpa[Rj]using h
 unfold Fit;omega
def QO(p:Pg):SpecP prog 11 [.agg p.cells] (fun r=>r=.bool (Rj p)):=by
 refine sB NQ func11 rfl call11 ?_;conv=>whnf
 have L:(p.A.map fun f=>AV.agg f.cells).length=p.A.length:=x0j _;have I:=XE (a:=0+PF p.D) (by omega);repeat' (refine CallK.pure (XN p.D 0 (by omega)) (.cons (Sub.refl _) (.cons (Sub.refl _) .nil)) ?_;rintro _ rfl;conv=>whnf)
 refine LoopK.inv QK (fun y:Nat×Int=>⟨[(1,.p (.ip p.cells)),(3,.p (.int .i64 y.2)),(4,.p (.int .i64 y.1))],[]⟩) (fun y=>y.1<=p.A.length/\(0<=y.2/\y.2<=20001)/\XJ (y.2+Mc (p.A.drop y.1))=XJ (gPg p:Nat)) (fun y=>p.A.length-y.1) (0,XJ (0+PF p.D)) (Le.of_eq rfl) ⟨x0l _,I,by
  show XJ (XJ (0+PF p.D)+Mc p.A)=_;rw[ZX (by omega)];congr 1;unfold gPg;omega⟩ ?_
 rintro⟨j,m⟩ ⟨E,q,s⟩;simp only at E q s⊢;have o:∀{x:Int},0<=x/\x<=20001->XJ x=XJ (gPg p:Nat)->(decide (x<=20000))=Rj p:=fun {x} M h=>by
  unfold Rj;unfold XJ at h;by_cases e:gPg p<=20000
  .rw [x2a e,x1n];split at h<;>split at h<;>omega
  .rw [x2h e,x2c];split at h<;>split at h<;>omega
 rcases x0t j p.A.length with c|c;rotate_left 1
 .rw [x1q c,Mc]at s;conv=>whnf
  repeat' (first|(refine iM fun _=>?_;conv=>whnf)|(apply bD<;>intro _<;>first|omega|conv=>whnf))
  all_goals exact RetK.bool (o q (by rw[<-s];simp))
 rw[x1c c,Mc]at s;have d:gPr p.A[j]=1+p.A[j].name.length+PF p.A[j].Q+PF p.A[j].fin+El p.A[j].B+gL p.A[j].body:=rfl;have J:=XE (a:=m+(1+p.A[j].name.length:Nat)) (by omega);have K:=XE (a:=XJ (m+(1+p.A[j].name.length:Nat))+PF p.A[j].Q) (by omega);have C:=XE (a:=XJ (XJ (m+(1+p.A[j].name.length:Nat))+PF p.A[j].Q)+PF p.A[j].fin) (by omega);conv=>whnf
 repeat' (first|((first|(refine iM fun _=>?_)|refine dA ?_|refine x0h rfl ?_|(refine iA fun _=>?_)|refine cP (QA p.A[j].name _ q) ?_|refine cP (XN p.A[j].Q _ J) ?_|refine cP (XN p.A[j].fin _ K) ?_);conv=>whnf)|(apply bD<;>intro _<;>first|omega|conv=>whnf))
 rotate_left 1
 .exact RetK.bool (o q (by rw[<-s,<-UO (by omega) q.2 (by omega),D9 q.2]))
 have g:XJ (XJ (XJ (XJ (m+(1+p.A[j].name.length:Nat))+PF p.A[j].Q)+PF p.A[j].fin)+(El p.A[j].B+(gL p.A[j].body+Mc (p.A.drop (j+1))):Nat))=XJ (gPg p:Nat):=by
  rw[ZX (by omega),x6u,ZX (by omega),x6u,ZX (by omega),<-s,d];congr 1;omega
 generalize XJ (XJ (XJ (m+(1+p.A[j].name.length:Nat))+PF p.A[j].Q)+PF p.A[j].fin)=m0 at C g⊢;have H:(p.A[j].B.map fun a=>AV.agg a.cells).length=p.A[j].B.length:=x0j _;refine LoopK.inv QK (fun y:Nat×Int=>⟨[(1,.p (.ip p.cells)),(3,.p (.int .i64 y.2)),(4,.p (.int .i64 j)),(5,.p (.ip p.A[j].cells)),(6,.p (.int .i64 y.1))],[]⟩) (fun y=>y.1<=p.A[j].B.length/\(0<=y.2/\y.2<=20001)/\XJ (y.2+(El (p.A[j].B.drop y.1)+(gL p.A[j].body+Mc (p.A.drop (j+1))):Nat))=XJ (gPg p:Nat)) (fun y=>p.A[j].B.length-y.1) (0,m0) (Le.of_eq rfl) ⟨x0l _,C,g⟩ ?_;rintro⟨a,n⟩ ⟨F,t,u⟩;simp only at F t u⊢;have fin:XJ (n+(gL p.A[j].body+Mc (p.A.drop (j+1)):Nat))=XJ (gPg p:Nat)->(0<=XJ (n+gL p.A[j].body)/\XJ (n+gL p.A[j].body)<=20001)/\XJ (XJ (n+gL p.A[j].body)+Mc (p.A.drop (j+1)))=XJ (gPg p:Nat):=fun h=>by
  refine⟨XE (by omega),?_⟩;rw[ZX (by omega),<-h];congr 1;omega
 have v:n>20000->XJ (n+(gL p.A[j].body+Mc (p.A.drop (j+1)):Nat))=XJ (gPg p:Nat):=fun h=>by
  rw[<-u,<-UO h t.2 (by omega),<-UO h t.2 (by omega)]
 rcases x0t a p.A[j].B.length with b|b;rotate_left 1
 .have G:XJ (n+(gL p.A[j].body+Mc (p.A.drop (j+1)):Nat))=XJ (gPg p:Nat):=by
   rw[x1q b,El,x3v]at u;exact u
  obtain⟨f1,f2⟩:=fin G;conv=>whnf
  repeat' (first|((first|(refine iM fun _=>?_)|refine wI ?_|(refine CallK.pure (UV (gL p.A[j].body+1) p.A[j].body (by omega) n t) (.cons (Sub.refl _) (.cons (Sub.refl _) .nil)) ?_;rintro _ rfl));conv=>whnf)|(apply bD<;>intro _<;>first|omega|conv=>whnf))
  all_goals exact⟨(j+1,XJ (n+gL p.A[j].body)),⟨by simp only;omega,f1,f2⟩,by simp only;omega,Le.of_eq rfl⟩
 rw[x1c b,El]at u;conv=>whnf
 repeat' (first|((first|(refine iM fun _=>?_)|(refine iA fun _=>?_)|refine wI ?_|refine cP (QA p.A[j].B[a].name _ t) ?_|(refine CallK.pure (UV (gL p.A[j].body+1) p.A[j].body (by omega) n t) (.cons (Sub.refl _) (.cons (Sub.refl _) .nil)) ?_;rintro _ rfl));conv=>whnf)|(apply bD<;>intro _<;>first|omega|conv=>whnf))
 .have z:XJ (XJ (n+(1+p.A[j].B[a].name.length:Nat))+(El (p.A[j].B.drop (a+1))+(gL p.A[j].body+Mc (p.A.drop (j+1))):Nat))=XJ (gPg p:Nat):=by
   rw[ZX (by omega),<-u];congr 1;omega
  exact⟨(a+1,XJ (n+(1+p.A[j].B[a].name.length:Nat))),⟨by simp only;omega,XE (by omega),z⟩,by simp only;omega,Le.of_eq rfl⟩
 .obtain ⟨f1,f2⟩:=fin (v (by omega));exact⟨(j+1,XJ (n+gL p.A[j].body)),⟨by simp only;omega,f1,f2⟩,by simp only;omega,Le.of_eq rfl⟩
inductive SubE:List AV->List AV->Prop
 |nil:SubE [] []
 |cons {a b:AV} {xs ys:List AV} (h:SubL a.cells b.cells) (hs:SubE xs ys):SubE (a::xs) (b::ys)
theorem SubE.get{xs m:List AV}(h:SubE xs m):xs.length=m.length/\∀(i:Nat)(b:AV),m[i]?=some b->∃a,xs[i]?=some a/\SubL a.cells b.cells:=by
 induction h with
 |nil=>exact⟨rfl,by simp⟩
 | cons h q o=>
   refine⟨by simp[o.1],fun i b j=>?_⟩;cases i with
   |zero=>simp at j;subst j;exact⟨_,rfl,h⟩
   |succ i=>exact o.2 i b (by simpa using j)
theorem Sub.sl{xs t:List AV}(h:SubE xs t):Sub (.sl xs) (.sl t):=fun σ v F=>by
 obtain⟨f,y⟩:=h.get;cases F with
 | nilsl=>
   obtain rfl:t=[]:=by simpa using f.symm
   exact .nilsl
 | slz b=>
   obtain rfl:t=[]:=by simpa using f.symm
   exact .slz b
 | sl _ b off cap sz cells u D B r A E g=>
   rw[f];refine .sl t b off cap sz cells u D (by omega) r (fun i e q=>?_) (fun i e j c q z=>?_) (fun i e j c q z=>?_)
   .obtain ⟨a,m,o⟩:=y i e q;rw[<-A i a m,o.1]
   .obtain ⟨a,m,o⟩:=y i e q;obtain⟨d,x,_⟩:=o.get z;exact E i a j d m x
   .obtain ⟨a,m,o⟩:=y i e q;obtain⟨d,x,C⟩:=o.get z;exact C _ _ (g i a j d m x)
def V1(n:Int):SpecP prog 85 [.int .i64 n] (fun r=>r=.agg (X.mk 1 n [] []).cells):=by
 refine sB LQ func85 rfl call85 ?_;conv=>whnf
 repeat' (refine x0h rfl ?_;conv=>whnf)
 exact⟨_,.p (Sub.agg (by repeat' (first|exact SubL.nil|refine SubL.cons ?_ ?_|exact Sub.refl _|exact Sub.nils|exact Sub.ff rfl))),rfl⟩
def Zb(s:Str):SpecP prog 86 [.str s] (fun r=>r=.agg (X.mk 2 0 s []).cells):=by
 refine sB NV func86 rfl call86 ?_;conv=>whnf
 repeat' (refine x0h rfl ?_;conv=>whnf)
 exact⟨_,.p (Sub.agg (by repeat' (first|exact SubL.nil|refine SubL.cons ?_ ?_|exact Sub.refl _|exact Sub.nils|exact Sub.ff rfl))),rfl⟩
def HE(op:Int)(a b:X):SpecP prog 87 [.int .i64 op,.agg a.cells,.agg b.cells] (fun r=>r=.agg (X.mk op 0 [] [a,b]).cells):=by
 refine sB LZ func87 rfl call87 ?_;conv=>whnf
 repeat' ((first|refine x0h rfl ?_|refine aD ?_|refine BsK.pureL rfl rfl ?_);conv=>whnf)
 have e:X.avs [a,b]=[.agg a.cells,.agg b.cells]:=by simp only[X.avs,X.av_eq]
 exact⟨_,.p (Sub.agg (SubL.cons (Sub.refl _) (SubL.cons (Sub.refl _) (SubL.cons (Sub.refl _) (SubL.cons (Sub.of_eq (by show _=AV.sl (X.avs [a,b]);rw[e];rfl)) SubL.nil))))),rfl⟩
def bs(l:List Nat):Str:=l.map fun n=>UInt8.ofNat n
def someP:Pg:=⟨[[103]],[
 ⟨[109,97,105,110],[],[[118]],[
   .mk 1 1 [] [118] [] (.mk 1 2 [] []) false [] [] [],
   .mk 2 4 [] [103] [112] (.mk 0 0 [] []) false [⟨false,[],.mk 1 3 [] []⟩,⟨true,[118],.mk 0 0 [] []⟩] [] [],
   .mk 3 3 [] [] [] (.mk 2 0 [118] []) false [] [] [],
   .mk 4 3 [] [] [] (.mk 2 0 [103] []) false [] [] []],[]⟩,
 ⟨[112],[⟨[120],false⟩,⟨[121],true⟩],[],[
   .mk 5 1 [] [121] [] (.mk 8 0 [] [.mk 2 0 [121] [],.mk 2 0 [120] []]) false [] [] [],
   .mk 6 5 [] [] [] (.mk 12 0 [] [.mk 2 0 [121] [],.mk 1 9 [] []]) false [] [.mk 7 10 [] [101] [] (.mk 0 0 [] []) false [] [] []] [],
   .mk 8 9 [] [] [] (.mk 2 0 [121] []) true [] [] []],[[101]]⟩]⟩
def Zg:SpecP prog 43 [] (fun r=>r=.agg someP.cells):=by
 refine sB NZ func43 rfl call43 ?_;conv=>whnf
 repeat' ((first|refine cP (V1 _) ?_|refine cP (Zb _) ?_|refine x0h rfl ?_|refine aD ?_|refine bP ?_|refine BsK.pureL rfl rfl ?_|refine cP (HE 8 (.mk 2 0 [121] []) (.mk 2 0 [120] [])) ?_|refine cP (HE 12 (.mk 2 0 [121] []) (.mk 1 9 [] [])) ?_);conv=>whnf)
 exact⟨_,.p (Sub.agg (by repeat' (first|exact SubL.nil|exact SubE.nil|exact Sub.nils|exact Sub.ff rfl|exact Sub.tt rfl|refine SubL.cons ?_ ?_|refine SubE.cons ?_ ?_|exact Sub.refl _|refine Sub.agg ?_|refine Sub.sl ?_))),rfl⟩
def Dy:Fit someP:=by unfold Fit;decide
def Du:QE someP=true:=by kernel_rfl
def f0:Pr:=someP.A[0]'(by decide)
def f1:Pr:=someP.A[1]'(by decide)
def q4e:WC (QP someP 0 f0)=[⟨0,1,1⟩,⟨1,2,1⟩,⟨2,3,1⟩,⟨3,4,1⟩,⟨4,-1,1⟩]:=by
 have h:QP someP 0 f0=[⟨0,1,1⟩,⟨1,2,1⟩,⟨2,3,1⟩,⟨3,4,1⟩,⟨4,-1,1⟩]:=by kernel_rfl
 unfold WC YB;rw[h,List.mergeSort_of_pairwise (by decide)];rfl
def q4i:WC (QP someP 1 f1)=[⟨0,5,1⟩,⟨5,6,1⟩,⟨6,7,1⟩,⟨6,8,1⟩,⟨7,-1,1⟩,⟨8,-1,1⟩]:=by
 have h:QP someP 1 f1=[⟨0,5,1⟩,⟨5,6,1⟩,⟨6,7,1⟩,⟨6,8,1⟩,⟨7,-1,1⟩,⟨8,-1,1⟩]:=by kernel_rfl
 unfold WC YB;rw[h,List.mergeSort_of_pairwise (by decide)];rfl
def P6(h:QE p=true):p.A.length<=20000:=by have:=(XP h).2.1;omega
def SQ:∀(k:Nat)(l:List S)(_:QW l<k)(_:QW l<=1000000),SpecP prog 49 [eSs l] (fun r=>r=.int .i64 (QW l)):=by
 intro k;induction k with
 |zero=>intro l h;omega
 | succ k u=>
   intro l z a;have q:=S.avs_len l;have b:l.length<=QW l:=by
    clear z a q;induction l with
    |nil=>simp
    |cons t r m=>rw[QW,VX,x1r];omega
   refine sB Bk func49 rfl call49 ?_;conv=>whnf
   repeat' (refine iM fun _=>?_;conv=>whnf)
   refine LoopK.inv QK (fun y:Nat×Nat=>⟨[(0,.p (eSs l)),(3,.p (.int .i64 y.2)),(8,.p (.int .i64 (S.avs l).length)),(9,.p (.int .i64 y.1))],[]⟩) (fun y=>y.1<=l.length/\y.2+QW (l.drop y.1)=QW l+(l.length-y.1)) (fun y=>l.length-y.1) (0,l.length) (Le.of_eq (by simp only[S.avs_len];rfl)) ⟨x0l _,by simp;omega⟩ ?_;rintro⟨j,n⟩ ⟨v,s⟩;simp only at v s⊢;rcases x0t j l.length with o|o
   .have c:=LB o;have x:=VX l[j];have d:QW (l.drop j)<=QW l:=by
     have:∀(l:List S)(j:Nat),QW (l.drop j)<=QW l:=fun l=>by
      induction l with
      |nil=>intro j;simp
      | cons t r m=>
        intro j;cases j with
        |zero=>simp
        |succ j=>rw[List.drop_succ_cons,QW];have:=m j;omega
     exact this l j
    conv=>whnf
    repeat' (first|((first|refine dA ?_|refine QX (by omega) ?_|refine wI ?_|(refine CallK.pure (u l[j].F (by omega) (by omega)) (.cons (Sub.refl _) .nil) ?_;rintro _ rfl)|(refine CallK.pure (u l[j].L (by omega) (by omega)) (.cons (Sub.refl _) .nil) ?_;rintro _ rfl));conv=>whnf)|(apply bD<;>intro _<;>first|omega|conv=>whnf))
    all_goals exact⟨(j+1,n+(QW l[j].F+QW l[j].L)),⟨by simp only;omega,by simp only;omega⟩,by simp only;omega,Le.of_eq rfl⟩
   .conv=>whnf
    rw[x1q o,QW]at s;repeat' (apply bD<;>intro _<;>first|omega|conv=>whnf)
    exact RetK.int (by omega)
def So(p:Pg)(u:cntP p.A<=1000):SpecP prog 13 [.agg p.cells] (fun r=>r=.int .i64 (cntP p.A)):=by
 refine sB Bj func13 rfl call13 ?_;conv=>whnf
 have s:(p.A.map fun f=>AV.agg f.cells).length=p.A.length:=x0j _;repeat' (refine iM fun _=>?_;conv=>whnf)
 refine LoopK.inv QK (fun y:Nat×Nat=>⟨[(3,.p (.int .i64 y.2)),(7,.p (.sl (p.A.map fun f=>.agg f.cells))),(8,.p (.int .i64 (p.A.map fun f=>AV.agg f.cells).length)),(9,.p (.int .i64 y.1))],[]⟩) (fun y=>y.1<=p.A.length/\y.2+cntP (p.A.drop y.1)=cntP p.A) (fun y=>p.A.length-y.1) (0,0) (Le.of_eq rfl) ⟨x0l _,by simp⟩ ?_;rintro⟨j,n⟩ ⟨o,m⟩;simp only at o m⊢;rcases x0t j p.A.length with h|h
 .have t:=Ux h;have q:=BQ _ _ (x0s h);conv=>whnf
  repeat' (first|((first|refine x0h rfl ?_|(refine iA fun _=>?_)|refine wI ?_|(refine CallK.pure (SQ (QW p.A[j].body+1) p.A[j].body (by omega) (by omega)) (.cons (Sub.refl _) .nil) ?_;rintro _ rfl));conv=>whnf)|(apply bD<;>intro _<;>first|omega|conv=>whnf))
  exact⟨(j+1,n+QW p.A[j].body),⟨by simp only;omega,by simp only;omega⟩,by simp only;omega,Le.of_eq rfl⟩
 .conv=>whnf
  rw[x1q h,cntP]at m;repeat' (apply bD<;>intro _<;>first|omega|conv=>whnf)
  exact RetK.int (by omega)
def J1(p:Pg)(h:Int):Bool:=QE p&&decide ((cntP p.A:Int)<=h)
def ZA{l:List Str}{x:Str}:inS l x=true↔x∈l:=by
 unfold inS;rw[x2e];constructor
 .rintro ⟨y,j,m⟩;have:y=x:=by simpa using m
  rw[<-this];exact j
 .intro h;exact⟨x,h,by simp⟩
def Qn(h:QE p=true){j:Nat}{f:Pr}(q:p.A[j]?=some f){a:Int}(c:(QR p.A j:Int)+1<=a)(d:a<=(QR p.A j+QW f.body:Nat)):∃t∈flL f.body,OE p a=some t/\t.id=a:=by
 obtain⟨n,u,x⟩:=GD q (k:=(a-1).toNat) (by omega) (by omega);refine⟨n.s,We x,by unfold OE;rw[u];rfl,?_⟩;obtain⟨_,_,_,v,r⟩:=QJ p;obtain⟨_,_,b,z⟩:=r j f q;have m:=CW (QF h).1 q;have y:(itsOf p j f)[(a-1).toNat-QR p.A j]?=some n:=by
  unfold itsOf;rw[<-z,x2g,x1e,if_pos (by omega),show QR p.A j+((a-1).toNat-QR p.A j)=(a-1).toNat by omega];exact u
 have o:((itsOf p j f).map fun n=>n.s.id)[(a-1).toNat-QR p.A j]?=some n.s.id:=by rw[x0d,y];rfl
 rw[m]at o;unfold GY at o;rw[x0d,List.getElem?_range' (by omega)]at o;simp at o;omega
def Lz{l:List Str}{s:Str}(h:s∈l):s∈Go.Lib.compact l:=by
 have key:∀(j:Nat)(m:j<l.length),l[j]∈Go.Lib.compact l:=fun j=>by
  induction j with
  | zero=>
    intro m;refine x0n.2 ⟨0,x1s.2 ⟨by simpa using m,by simp[Go.Lib.keeps]⟩,?_⟩;simp[m]
  | succ j q=>
    intro m;cases o:Go.Lib.keeps l.toArray (j+1)with
    | true=>
      refine x0n.2 ⟨j+1,x1s.2 ⟨by simpa using m,o⟩,?_⟩;simp[m]
    | false=>
      have n:j<l.length:=by omega
      have:l[j+1]=l[j]:=by
       unfold Go.Lib.keeps at o;simp[m,n]at o;exact o
      rw[this];exact q n
 obtain⟨j,m,rfl⟩:=x2m.1 h;exact key j m
def Yz{l:List Str}{s:Str}:s∈Go.Lib.compact l↔s∈l:=⟨NP,Lz⟩
theorem D3{α:Type}{R:α->α->Prop}(irr:∀a,¬R a a)(r:∀a b c,R a b->R b c->R a c):∀{l m:List α},l.Pairwise R->m.Pairwise R->(∀s,s∈l↔s∈m)->l=m
 |[],[],_,_,_=>rfl
 |[],b::m,_,_,h=>by have:=(h b).2 x0k;cases this
 |a::l,[],_,_,h=>by have:=(h a).1 x0k;cases this
 | a::l,b::m,hl,hm,h=>by
   rw[x3e]at hl hm;have q:a=b:=by
    rcases x0p.1 ((h a).1 x0k)with j|j
    .exact j
    rcases x0p.1 ((h b).2 x0k)with o|o
    .exact o.symm
    exact absurd (r _ _ _ (hl.1 b o) (hm.1 a j)) (irr a)
   subst q;rw[D3 irr r hl.2 hm.2 fun s=>?_];constructor
   .intro n;rcases x0p.1 ((h s).1 (x0f _ n))with rfl|j
    .exact absurd (hl.1 s n) (irr s)
    .exact j
   .intro n;rcases x0p.1 ((h s).2 (x0f _ n))with rfl|j
    .exact absurd (hm.1 s n) (irr s)
    .exact j
theorem R7:∀(x y:List UInt8),Op.bytesLess x y=decide (x<y)
 |[],[]=>by simp[Op.bytesLess]
 |_::_,[]=>by simp[Op.bytesLess]
 |[],_::_=>by simp[Op.bytesLess]
 | a::x,b::y=>by
   rw[Op.bytesLess,R7 x y];simp only[List.cons_lt_cons_iff];by_cases h:a<b<;>by_cases j:a=b<;>by_cases m:x<y<;>simp[h,j,m]
def ltT(a b:Str):Prop:=Op.bytesLess a b=true
def MX{a b:Str}:ltT a b↔a<b:=by
 unfold ltT;rw[R7,x1n]
theorem ltT.irr(a:Str):¬ltT a a:=fun h=>List.lt_irrefl a (MX.1 h)
theorem ltT.trans(a b c:Str)(j:ltT a b)(m:ltT b c):ltT a c:=MX.2 (List.lt_trans (MX.1 j) (MX.1 m))
theorem ltT.total{a b:Str}(h:a≠b):ltT a b\/ltT b a:=by
 by_cases m:a<b
 .exact .inl (MX.2 m)
 .rcases List.le_iff_lt_or_eq.1 (List.not_lt.1 m)with j|j
  .exact .inr (MX.2 j)
  .exact absurd j.symm h
def Ou(l:List Str):(JN l).Pairwise fun a b=>a<=b:=by
 have:=x6v (le:=fun x y:Str=>decide (x<=y)) (fun a b c j m=>by
  rw[x1n]at j m⊢;exact List.le_trans j m) (fun a b=>by
  rcases List.le_total a b with h|h
  .rw [x2a h];rfl
  .rw [x2a h];exact Bool.or_true _) l
 exact this.imp fun h=>by simpa using h
def P2{l:List Str}(h:l.Pairwise fun a b=>a<=b):(Go.Lib.compact l).Pairwise ltT:=by
 unfold Go.Lib.compact Go.Lib.compactUpTo;rw[List.pairwise_map];refine(List.Pairwise.filter _ (List.pairwise_lt_range (n:=l.length))).imp_of_mem fun {i k} z c d=>?_;obtain⟨o,_⟩:=x1s.1 z;obtain⟨j,m⟩:=x1s.1 c;rw[x1a]at o j;have le:∀(a b:Nat)(_:a<=b)(v:b<l.length),l[a]'(by omega)<=l[b]:=fun a b y v=>by
  rcases x0t a b with q|q
  .exact x4k.1 h a b (by omega) v q
  .obtain rfl:a=b:=by omega
   exact List.le_refl _
 have g:∀(a:Nat)(u:a<l.length),l.toArray[a]! = l[a]:=fun a u=>by simp[u]
 rw[g i o,g k j];unfold Go.Lib.keeps at m;rw[x1n,g k j,g (k-1) (by omega)]at m;have s:l[k]≠l[k-1]'(by omega):=by
  rcases m with t|t
  .omega
  .exact t
 have q:=le i (k-1) (by omega) (by omega);have x:=le (k-1) k (by omega) j;rcases List.le_iff_lt_or_eq.1 x with r|r
 .exact MX.2 (List.lt_of_le_of_lt q r)
 .exact absurd r.symm s
def WA(l:List Str):List Str:=Go.Lib.compact (JN l)
def XH{l:List Str}{s:Str}:s∈WA l↔s∈l:=by unfold WA;rw[Yz,J6]
def ZJ(l:List Str):(WA l).Pairwise ltT:=P2 (Ou l)
def O0{l m:List Str}(h:m.Pairwise ltT)(j:∀s,s∈m↔s∈l):m=WA l:=D3 ltT.irr ltT.trans h (ZJ l) fun s=>by rw[j,XH]
section
variable {α:Type}{R:α->α->Prop}{l out:List α}{i k:Nat}
def HU{s:α}(h:k<l.length):s∈l.take (k+1)↔s∈l.take k\/s=l[k]:=by
 rw[x0a h,x0r,x0b]
end
def ordP(a b:Int):Prop:=q9x a b=true
def ID{a b:Int}:ordP a b↔(b = -1/\a ≠ -1)\/(a ≠ -1/\b ≠ -1/\a<b):=by
 unfold ordP q9x;by_cases h:a = -1<;>by_cases j:b = -1<;>simp[h,j]
structure NoGo(sh:Sheet)(f:Pr)(lo hi:Nat)(T:Int->Prop):Prop where
 cl:∀(k:Nat)(it:Item),lo<=k->k<hi->sh.l[k]?=some it->T it.s.id->it.s.kind≠10/\∀y∈goesI sh f it,T y
 id:∀(k:Nat)(it:Item),lo<=k->k<hi->sh.l[k]?=some it->it.s.id=(k:Int)+1
 ld:∀(k:Nat)(it:Item),lo<=k->k<hi->sh.l[k]?=some it->it.s.kind=7\/it.s.kind=8->it.loop≠0
 lp:∀(k:Nat)(it:Item),lo<=k->k<hi->sh.l[k]?=some it->it.loop=0\/∃u,sh.l[(it.loop-1).toNat]?=some u
def q3h(j:Sheet)(T:Int->Prop)(nx h:Int):Prop:=T nx\/T (-1)\/(h≠0/\(T h\/∃u,j.l[(h-1).toNat]?=some u/\T u.next))
def atP(h:Sheet)(n:Nat)(l:List Item):Prop:=∀(i:Nat)(it:Item),l[i]?=some it->h.l[n+i]?=some it
theorem atP.left{m:Sheet}{n:Nat}{a b:List Item}(h:atP m n (a++b)):atP m n a:=fun i o j=>h i o (by
 rw[x2j (x0m.1 j).1];exact j)
theorem atP.right{j:Sheet}{n:Nat}{a b:List Item}(h:atP j n (a++b)):atP j (n+a.length) b:=fun i o m=>by
 rw[x3o];exact h (a.length+i) o (by rw[x2q (by omega),Nat.add_sub_cancel_left];exact m)
def q4m(C j nx h:Int)(n:Nat)(v:S)(r:List S):∃it∈itL C j nx h n (v::r),it.s=v:=by
 rw[itL,OJ];exact⟨_,x0r.2 (.inl x0k),rfl⟩
mutual
theorem q9h{sh:Sheet}{f:Pr}{lo hi:Nat}{T:Int->Prop}(hT:NoGo sh f lo hi T)(C:Int):∀(t:S)(up nx lp:Int)(n:Nat),atP sh n (itS C up nx lp n t)->lo<=n->n+ZD t<=hi->(∃it∈itS C up nx lp n t,T it.s.id)->q3h sh T nx lp
 | .mk id kind M name pr x has args F L,up,nx,lp,n,hp,h1,h2,h3=>by
   rw[itS]at hp h3;rw[ZD]at h2;have hself:sh.l[n]?=some ⟨.mk id kind M name pr x has args F L,C,up,nx,lp⟩:=hp 0 _ rfl;have hcl:=hT.cl n _ h1 (by omega) hself;have hid:=hT.id n _ h1 (by omega) hself;have hld:=hT.ld n _ h1 (by omega) hself;have hlp:=hT.lp n _ h1 (by omega) hself;have hp1:atP sh (n+1) (itL C (n+1) (if kind=6 then n+1 else nx) (if kind=6 then n+1 else lp) (n+1) F++itL C (n+1) (if kind=6 then n+1 else nx) (if kind=6 then n+1 else lp) (n+1+QW F) L):=fun i it hi=>by
    have:=hp (i+1) it (by simpa using hi)
    rwa[show n+(i+1)=n+1+i by omega]at this
   have hw:kind=6->T ((n:Int)+1)->T nx:=fun hk h=>by
    have h5:T (S.mk id kind M name pr x has args F L).id:=by
     rw[show(S.mk id kind M name pr x has args F L).id=(n:Int)+1 from hid];exact h
    refine(hcl h5).2 nx ?_;unfold goesI;rw[if_neg (by show ¬kind=5;omega),if_pos (by exact hk)];simp
   have hin:q3h sh T (if kind=6 then((n:Int)+1)else nx) (if kind=6 then((n:Int)+1)else lp)->q3h sh T nx lp:=fun h=>by
    by_cases hk:kind=6
    ·rw[if_pos hk,if_pos hk]at h;rcases h with h|h|⟨_,h|⟨u,hu,h⟩⟩
     ·exact .inl (hw hk h)
     ·exact .inr (.inl h)
     ·exact .inl (hw hk h)
     ·rw[show((n:Int)+1-1).toNat=n by omega,hself]at hu;cases hu;exact .inl h
    ·rw[if_neg hk,if_neg hk]at h;exact h
   have hthn:(∃it∈itL C (n+1) (if kind=6 then n+1 else nx) (if kind=6 then n+1 else lp) (n+1) F,T it.s.id)->q3h sh T nx lp:=fun h=>
    hin (q5s hT C F _ _ _ (n+1) hp1.left (by omega) (by omega) h)
   obtain⟨it,hit,hti⟩:=h3;rcases x0p.1 hit with rfl|hit
   ·obtain⟨hk10,hgo⟩:=hcl hti;have hk10:kind≠10:=hk10;by_cases hk5:kind=5
    ·cases F with
     | nil=>
       refine .inl (hgo nx ?_);unfold goesI;rw[if_pos (by exact hk5)];simp[Ps,S.F]
     | cons v r=>
       have:T v.id:=by
        refine hgo v.id ?_;unfold goesI;rw[if_pos (by exact hk5)];simp[Ps,S.F]
       obtain⟨iv,h5,h6⟩:=q4m C (n+1) (if kind=6 then n+1 else nx) (if kind=6 then n+1 else lp) (n+1) v r;exact hthn ⟨iv,h5,by rw[h6];exact this⟩
    by_cases hk6:kind=6
    ·refine .inl (hw hk6 ?_);rw[<-show(S.mk id kind M name pr x has args F L).id=(n:Int)+1 from hid];exact hti
    by_cases hk7:kind=7
    ·have hl0:=hld (.inl hk7);rcases hlp with h5|⟨u,hu⟩
     ·exact absurd h5 hl0
     ·refine .inr (.inr ⟨hl0,.inr ⟨u,hu,hgo _ ?_⟩⟩);unfold goesI;rw[if_neg (by exact hk5),if_neg (by exact hk6),if_pos (by exact hk7)];simp only at hu;rw[hu];simp
    by_cases hk8:kind=8
    ·refine .inr (.inr ⟨hld (.inr hk8),.inl (hgo _ ?_)⟩);unfold goesI;rw[if_neg (by exact hk5),if_neg (by exact hk6),if_neg (by exact hk7),if_pos (by exact hk8)];simp
    by_cases hk9:kind=9
    ·refine .inr (.inl (hgo _ ?_));unfold goesI;rw[if_neg (by exact hk5),if_neg (by exact hk6),if_neg (by exact hk7),if_neg (by exact hk8),if_pos (by exact hk9)];simp
    ·refine .inl (hgo _ ?_);unfold goesI;rw[if_neg (by exact hk5),if_neg (by exact hk6),if_neg (by exact hk7),if_neg (by exact hk8),if_neg (by exact hk9),if_neg (by exact hk10)];simp
   ·rcases x0r.1 hit with hit|hit
    ·exact hthn ⟨it,hit,hti⟩
    ·have hp2:=hp1.right;rw[ZH]at hp2;exact hin (q5s hT C L _ _ _ (n+1+QW F) hp2 (by omega) (by omega) ⟨it,hit,hti⟩)
theorem q5s{sh:Sheet}{f:Pr}{lo hi:Nat}{T:Int->Prop}(hT:NoGo sh f lo hi T)(C:Int):∀(l:List S)(up nx lp:Int)(n:Nat),atP sh n (itL C up nx lp n l)->lo<=n->n+QW l<=hi->(∃it∈itL C up nx lp n l,T it.s.id)->q3h sh T nx lp
 | [],up,nx,lp,n,hp,h1,h2,h3=>by
   rw[itL]at h3;obtain⟨it,hit,_⟩:=h3;cases hit
 | t::r,up,nx,lp,n,hp,h1,h2,h3=>by
   rw[itL]at hp h3;rw[QW]at h2;have hp2:=hp.right;rw[L3]at hp2;have hr:(∃it∈itL C up nx lp (n+ZD t) r,T it.s.id)->q3h sh T nx lp:=fun h=>q5s hT C r up nx lp (n+ZD t) hp2 (by omega) (by omega) h;obtain⟨it,hit,hti⟩:=h3;rcases x0r.1 hit with hit|hit
   ·have h5:=q9h hT C t up _ lp n hp.left h1 (by omega) ⟨it,hit,hti⟩;cases r with
    |nil=>exact h5
    | cons v r=>
      rcases h5 with h5|h5
      ·refine hr ?_;obtain⟨iv,h6,h7⟩ : ∃iv,(itL C up nx lp (n+ZD t) (v::r))[0]?=some iv/\iv.s=v:=by
        rw[itL,OJ];exact⟨_,rfl,rfl⟩
       have h8:=hp2 0 iv h6;have h9:=hT.id (n+ZD t) iv (by omega) (by
        rw[QW]at h2;have:1<=ZD v:=by cases v;rw[ZD];omega
        omega) h8
       refine⟨iv,x0i h6,?_⟩;rw[h9];simp only[List.isEmpty_cons]at h5;have e:((n+ZD t:Nat):Int)+1=(n:Int)+1+ZD t:=by omega
       rw[e];exact h5
      ·exact .inr h5
   ·exact hr ⟨it,hit,hti⟩
end
def Dx(h:QE p=true){j:Nat}{f:Pr}(q:p.A[j]?=some f){k:Nat}{n:Item}(u:QR p.A j<=k)(v:k<QR p.A j+QW f.body)(r:(sheetOf p).l[k]?=some n):n.s.id=(k:Int)+1:=by
 obtain⟨t,_,m,o⟩:=Qn h q (a:=(k:Int)+1) (by omega) (by omega);unfold OE at m;rw[show((k:Int)+1-1).toNat=k by omega,r]at m;cases m;exact o
def q5x{j:Nat}{f:Pr}{h:Item}(m:h∈itsOf p j f){y:Int}(n:y∈goesI (sheetOf p) f h):(⟨h.s.id,y,1⟩:Step)∈QP p j f:=by
 unfold QP;exact x0f _ (x1p.2 ⟨h,m,x0n.2 ⟨y,n,rfl⟩⟩)
def Aw(h:QE p=true){j:Nat}{f:Pr}(x:p.A[j]?=some f){T:Int->Prop}(g:∀a b,T a->stR (QQ p j f).real a b->T b)(B:∀t∈flL f.body,T t.id->t.kind≠10){t:S}(N:t∈flL f.body)(hT:T t.id):T (-1):=by
 obtain⟨Q,M,_,D,_⟩:=QF h;have F:=PP M D x;obtain⟨_,_,_,I,G⟩:=QJ p;obtain⟨_,_,K,J⟩:=G j f x;have o:∀(k:Nat)(m:Item),QR p.A j<=k->k<QR p.A j+QW f.body->(sheetOf p).l[k]?=some m->m∈itsOf p j f:=fun k m n q r=>by
  obtain⟨P,d,H⟩:=GD x n q;rw[r]at d;cases d;exact H
 have L:NoGo (sheetOf p) f (QR p.A j) (QR p.A j+QW f.body) T:=by
  refine⟨fun k m n q r hT=>?_,fun k m n q r=>Dx h x n q r,fun k m n q r E=>?_,fun k m n q r=>?_⟩
  .have u:=o k m n q r;exact⟨B _ (We u) hT,fun y O=>g _ _ hT ⟨⟨m.s.id,y,1⟩,((GF h x).2 _).2 (q5x u O),rfl,rfl⟩⟩
  .have z:=F m (o k m n q r);unfold JU at z;rw[if_pos E]at z;intro c;rw[c]at z;cases z
  .rcases (Xt (o k m n q r)).2 with c|⟨d,H⟩
   .exact .inl c
   .have:(m.loop-1).toNat<(sheetOf p).l.length:=by omega
    exact .inr ⟨_,x0u this⟩
 obtain⟨m,C,v⟩:=q1b (p:=p) (j:=j) N;have e:atP (sheetOf p) (QR p.A j) (itL j 0 (-1) 0 (QR p.A j) f.body):=fun i m u=>by
  rw[<-J,x2g,x1e]at u;split at u
  .exact u
  .cases u
 have:=q5s L j f.body 0 (-1) 0 (QR p.A j) e (x0o _) (x0o _) ⟨m,C,by rw[v];exact hT⟩;rcases this with n|n|⟨n,_⟩
 .exact n
 .exact n
 .exact absurd rfl n
theorem Nq{n:Nat}{part:List Int}(s:∀k,k<n->0<=part.getD k 0/\part.getD k 0<n){i:Nat}(v:i<n):∀(l:List (Int×Int)){o:List Bool},o.length=n->(∀t∈l,0<=t.1/\t.1<n)->
  ((l.foldl (Xo part) o).getD i false=true↔o.getD i false=true\/∃t∈l,part.getD t.1.toNat 0≠part.getD t.2.toNat 0/\part.getD t.1.toNat 0=i)
 |[],o,_,_=>by simp
 | t::r,o,ho,hr=>by
   rw [x3m,Nq s v r (by rw[Nz];exact ho) fun u j=>hr u (x0f _ j)];have x:=hr t x0k;have y:=s t.1.toNat (by omega);have key:(Xo part o t).getD i false=true↔o.getD i false=true\/(part.getD t.1.toNat 0≠part.getD t.2.toNat 0/\part.getD t.1.toNat 0=i):=by
    unfold Xo;split
    .rename_i q;constructor
     .exact .inl
     .rintro (h|⟨h,_⟩)
      .exact h
      .exact absurd q h
    .rename_i q;rw[ZV (by omega)];split
     .rename_i h;constructor
      .intro _;exact .inr ⟨q,by omega⟩
      .intro _;rfl
     .rename_i h;constructor
      .exact .inl
      .rintro (m|⟨_,m⟩)
       .exact m
       .exact absurd (by omega) h
   rw[key,or_assoc];constructor
   .rintro (h|⟨h,m⟩|⟨u,j,h⟩)
    .exact .inl h
    .exact .inr ⟨t,x0k,h,m⟩
    .exact .inr ⟨u,x0f _ j,h⟩
   .rintro (h|⟨u,j,h⟩)
    .exact .inl h
    .rcases x0p.1 j with rfl|j
     .exact .inr (.inl h)
     .exact .inr (.inr ⟨u,j,h⟩)
def IF{n:Nat}{part:List Int}(o:0<n)(j:∀k,k<n->0<=part.getD k 0/\part.getD k 0<n){i:Nat}(m:i<n){l:List (Int×Int)}(q:∀t∈l,0<=t.1/\t.1<n):
  (Js n part l).getD i false=true↔part.getD 0 0=i\/part.getD (n-1) 0=i\/∃t∈l,part.getD t.1.toNat 0≠part.getD t.2.toNat 0/\part.getD t.1.toNat 0=i:=by
 have r:=j 0 o;have s:=j (n-1) (by omega);unfold Js;rw[Nq j m l (by simp[Jt]) q];have key:(Jt n part).getD i false=true↔part.getD 0 0=i\/part.getD (n-1) 0=i:=by
  unfold Jt;rw[ZV (by rw[x3g,x2d];omega),ZV (by rw[x2d];omega)];split
  .exact ⟨fun _=>.inr (by omega),fun _=>rfl⟩
  .split
   .exact ⟨fun _=>.inl (by omega),fun _=>rfl⟩
   .have:(List.replicate n false).getD i false=false:=by
     rw[x0y,x1b];split<;>rfl
    rw[this];constructor
    .intro h;cases h
    .rintro (h|h)<;>omega
 rw[key,or_assoc]
end Go.Ab
