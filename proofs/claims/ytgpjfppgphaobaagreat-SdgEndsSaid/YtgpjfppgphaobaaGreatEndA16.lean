/- way: which place follows which, walked. -/
import Derived.Test.YtgpjfppgphaobaaGreatEndA15
set_option linter.all false
set_option maxRecDepth 100000
set_option maxHeartbeats 16000000
namespace Go.Ab
open Go.Proofs.Tryz
open Go.Proofs
variable {N' a i k:Nat}{sl:List (Nat×LV)}
def Cg{N:Nat}{H1 s:Heap}{e e2:TypeId}{sz:Nat}{rows rows':List (List AV)}{l:List Nat}(v:rows'.length=rows.length)(Z:∀(a:Nat)(n:List AV),rows'[a]?=some n->∃row,rows[a]?=some row/\ElS row n):
  Le N ⟨sl,H1++(k,.ext (.mat e e2 sz rows l))::s⟩ ⟨sl,H1++(k,.ext (.mat e e2 sz rows' l))::s⟩:=fun σ β a w h=>by
 have t:(H1++(k,Chunk.ext (.mat e e2 sz rows' l))::s).map (·.1)=(H1++(k,Chunk.ext (.mat e e2 sz rows l))::s).map (·.1):=by simp
 refine⟨σ,β,⟨h.size,h.defers,h.E,⟨h.heap.mem,fun j c' q=>?_,by show((H1++(k,Chunk.ext (.mat e e2 sz rows' l))::s).map (·.1)).Nodup;rw[t];exact h.heap.nodup,fun j q=>h.heap.apart j (by rw[<-t];exact q),fun j q j' d=>h.heap.inj j (by rw[<-t];exact q) j' (by rw[<-t];exact d)⟩⟩,Mem.le_refl σ,Frm.refl _ w,fun b M o=>absurd M o,fun b ⟨j,q,r⟩=>.inl ⟨j,by rw[<-t];exact q,r⟩,fun _ _ _=>rfl⟩;rcases x4g.1 q with o|o
 .exact h.heap.chunks j c' (x4g.2 (.inl o))
 rcases x4v.1 o with O|o;rotate_left 1
 .exact h.heap.chunks j c' (x4g.2 (.inr (x4x _ o)))
 cases O;rcases h.heap.chunks k _ (x4g.2 (.inr x4z))with⟨g1,y⟩|⟨i,vs,V,g1,y,G,H,I,J,K,L⟩
 .refine .inl ⟨g1,?_⟩;rw[y]at v;exact x6k v
 .refine .inr ⟨i,vs,V,g1,y,G,by rw[v];exact H,I,by rw[v];exact J,K,fun B n ha=>?_⟩;obtain⟨row,P,z,Q⟩:=Z B n ha;obtain⟨R,T⟩:=L B row P;refine⟨R,fun Y=>?_⟩;rcases T Y with⟨g,rfl,A⟩|⟨b,c,ws,g,q2,A,q4,q5,q6,C⟩
  .exact .inl ⟨g,x6k z,A⟩
  .refine .inr ⟨b,c,ws,g,by rw[z];exact q2,A,q4,by rw[z];exact q5,q6,fun m x' hx=>?_⟩;obtain⟨x,D,r2,r3⟩:=Q m x' hx;refine⟨by rw[r2];exact(C m x D).1,fun p c' U=>?_⟩;obtain⟨F,r4,r5⟩:=r3 p c' U;obtain⟨u,r6,r7⟩:=(C m x D).2 p F r4;exact⟨u,r6,r5 _ _ r7⟩
def nxE(rows:List (List Int))(t:Int×Int):List (List Int):=rows.set t.1.toNat (rows.getD t.1.toNat []++[t.2])
def VQ(n:Nat)(l:List (Int×Int)):List (List Int):=l.foldl nxE (List.replicate n [])
def WW(w:Way)(f:Pr):List (Int×Int):=(S7 w f).map (ixP w.p w.j f w.n)
def AD(rows:List (List Int))(t:Int×Int):(nxE rows t).length=rows.length:=x6x
theorem Bl:∀(l:List (Int×Int))(rows:List (List Int)),(l.foldl nxE rows).length=rows.length
 |[],_=>rfl
 |t::r,rows=>by rw[x7v,Bl r,AD]
def DD(n:Nat)(l:List (Int×Int)):(VQ n l).length=n:=by
 unfold VQ;rw[Bl,x5e]
theorem Bm:∀(l:List (Int×Int))(rows:List (List Int))(a:Nat),((l.foldl nxE rows).getD a []).length<=(rows.getD a []).length+l.length
 |[],_,_=>x4m _
 | t::r,rows,a=>by
   rw[x7v];have n:=Bm r (nxE rows t) a;have o:((nxE rows t).getD a []).length<=(rows.getD a []).length+1:=by
    unfold nxE;simp only[x3i,z0j];by_cases h:t.1.toNat=a
    ·subst h;by_cases m:t.1.toNat<rows.length
     ·simp[m]
     ·simp[m]
    ·simp[h]
   rw[x5g];omega
theorem LA(n:Nat)(l:List (Int×Int))(a:Nat):((VQ n l).getD a []).length<=l.length:=by
 have:=Bm l (List.replicate n []) a;have e:((List.replicate n ([]:List Int)).getD a []).length=0:=by
  rw[x3i,x5v];split<;>rfl
 unfold VQ;omega
theorem RZ{n:Nat}:∀(l:List (Int×Int)),(∀t∈l,(0<=t.1/\t.1<n)/\0<=t.2/\t.2<n)->∀(rows:List (List Int)),(∀r∈rows,∀x∈r,0<=x/\x<n)->∀r∈l.foldl nxE rows,∀x∈r,0<=x/\x<(n:Int)
 |[],_,rows,hr=>hr
 | t::l,hl,rows,hr=>by
   rw[x7v];refine RZ l (fun u q=>hl u (x4x _ q)) _ fun r m x h=>?_;unfold nxE at m;rcases x7q m with m|rfl
   .exact hr r m x h
   .rcases x4g.1 h with h|h
    .rw [x3i]at h;cases o:rows[t.1.toNat]?with
     |none=>rw[o]at h;cases h
     |some r=>rw[o]at h;exact hr r (x4p o) x h
    .rcases x4w.1 h with rfl;exact(hl t x4z).2
def OV(n:Nat)(l:List (Int×Int))(h:∀t∈l,(0<=t.1/\t.1<n)/\0<=t.2/\t.2<n):∀r∈VQ n l,∀x∈r,0<=x/\x<(n:Int):=
 RZ l h _ fun r o x m=>by rw[x6v o]at m;cases m
def CS(n a:Nat):List (List Bool):=((List.range n).map (filRow n)).take a++List.replicate (n-a) []
def Re(n a b:Nat):List Bool:=(filRow n a).take b++List.replicate (n-b) false
theorem O1{n b:Nat}(h:b<=n):(Re n a b).length=n:=by
 unfold Re;have:=BF n a;simp;omega
theorem O2{n b:Nat}(h:b<n):((Re n a b).map bv).set b (bv (decide (a<n-1)||decide (a=b)))=(Re n a (b+1)).map bv:=by
 rw[<-x5d];congr 1;unfold Re;have m:((filRow n a).take b).length=b:=by have:=BF n a;simp;omega
 have l:(filRow n a)[b]?=some (decide (a<n-1)||decide (a=b)):=by unfold filRow;simp[h]
 rw[x7k _ _ (by omega),m,x8w,show n-b=(n-(b+1))+1 by omega,x8v,x7m,List.take_add_one,l,x4r];rfl
def O0(n a:Nat):Re n a n=filRow n a:=by
 unfold Re;rw[x8w,x4b (by rw[BF];exact x4m _)];simp
theorem Sub.bv{b x:Bool}(h:b=x):Sub (.bool b) (bv x):=fun _ _ l=>by
 subst h;cases b<;>cases l<;>constructor
theorem ElS.set{es:List AV}{b:Nat}{c c':AV}(t:c.cells=[c])(o:c'.cells=[c'])(h:Sub c c'):ElS (es.set b c) (es.set b c'):=by
 refine⟨by rw[x6x,x6x],fun m v q=>?_⟩;by_cases r:b=m
 .subst r;have u:b<es.length:=by have:=(x4u.1 q).1;simpa using this
  rw[x5f u]at q;cases q;refine⟨c,by rw[x5f u],by rw[t,o];rfl,fun j d l=>?_⟩;rw[o]at l
  match j,l with
  |0,l=>cases l;exact⟨c,by rw[t];rfl,h⟩
  |j+1,l=>simp at l
 .rw [x5p r]at q;exact⟨v,by rw[x5p r];exact q,rfl,fun j d l=>⟨d,l,Sub.refl _⟩⟩
def x2i{R:List (List AV)}{r s:List AV}(h:ElS r s):∀(n:Nat)(l:List AV),(R.set a s)[n]?=some l->∃row,(R.set a r)[n]?=some row/\ElS row l:=fun n l m=>by
 by_cases o:a=n
 .subst o;have q:a<R.length:=by have:=(x4u.1 m).1;simpa using this
  rw[x5f q]at m;cases m;exact⟨r,x5f q,h⟩
 .rw [x5p o]at m;exact⟨l,by rw[x5p o];exact m,ElS.refl _⟩
theorem IE{n:Nat}(h:a<=n):(CS n a).length=n:=by
 unfold CS;simp;omega
theorem II{n:Nat}(h:a<n):(CS n a).set a (filRow n a)=CS n (a+1):=by
 unfold CS;have m:(((List.range n).map (filRow n)).take a).length=a:=by simp;omega
 have l:((List.range n).map (filRow n))[a]?=some (filRow n a):=by simp[h]
 rw[x7k _ _ (by omega),m,x8w,show n-a=(n-(a+1))+1 by omega,x8v,x7m,List.take_add_one,l,x4r];rfl
inductive SlRel(P:LV->LV->Prop):List (Nat×LV)->List (Nat×LV)->Prop
 |nil:SlRel P [] []
 |cons {j:Nat} {l l':LV} {r r':List (Nat×LV)} (h:P l l') (hr:SlRel P r r'):SlRel P ((j,l)::r) ((j,l')::r')
theorem SlRel.get{P:LV->LV->Prop}(o:P (.p .any) (.p .any)){m:List (Nat×LV)}(h:SlRel P sl m)(i:Nat):P (getS sl i) (getS m i):=by
 induction h with
 |nil=>exact o
 | @cons j l l' r u h t q=>
   simp only[getS];cases j==i with
   |true=>exact h
   |false=>exact q
def Sp(w:Way)(n:Nat)(nx:List (List Int))(t:nx.length=n)(m o:AV):
  Le N' ⟨[(0,.p (.ip w.cells)),(3,.hd 0 0 n),(6,.hd 1 0 n),(46,.p m),(47,.p o)],[(1,.own 101 1 (List.replicate n .nils)),(0,.ext (.mat 56 3 1 (avI nx) []))]⟩
   ⟨[(0,.p (.ip w.cells)),(3,.p (eMat nx)),(6,.hd 1 0 n),(46,.p m),(47,.p o)],[(1,.ext (.mat 101 4 1 (List.replicate n []) []))]⟩:=by
 have q:=JW (N:=N') (sl:=[(0,.p (.ip w.cells)),(3,.hd 0 0 n),(6,.hd 1 0 n),(46,.p m),(47,.p o)]) (H:=[(1,.own 101 1 (List.replicate n .nils)),(0,.ext (.mat 56 3 1 (avI nx) []))])
  (H':=[(1,.ext (.mat 101 4 1 (List.replicate (List.replicate n AV.nils).length []) [])),(0,.ext (.mat 56 3 1 (avI nx) []))])
  1 4 1 (e:=101) (es:=List.replicate n .nils) rfl (fun x u=>x6v u) rfl rfl rfl rfl (by simp[JL])
 rw[x5e]at q;have s:(avI nx).length=n:=by unfold avI;rw[x3a,t]
 refine q.trans (Rx (k:=0) (e:=56) (e2:=3) (sz:=1) (rows:=avI nx) rfl (fun i=>?_) (by show [1].Sublist [1,0];decide) fun j c' r=>?_)
 .refine SlRel.get (P:=fun l l'=>l'=l.kill 0\/(l=.hd 0 0 (avI nx).length/\l'=.p (.sl ((avI nx).map .sl)))) (.inl rfl) ?_ i;exact .cons (.inl rfl) (.cons (.inr ⟨by rw[s],rfl⟩) (.cons (.inl rfl) (.cons (.inl rfl) (.cons (.inl rfl) .nil))))
 .rcases x4w.1 r with h;cases h;exact⟨by decide,x4z,rfl⟩
def IA(n:Nat):CS n n=(List.range n).map (filRow n):=by
 unfold CS;rw[x8w,x4b (by simp)];simp
def Pu(n:Nat)(h:(sl.all fun x=>x.2.xfree 0)=true):
  Le N' ⟨sl,[(0,.own 56 1 (List.replicate n .nils))]⟩ ⟨sl,[(0,.ext (.mat 56 3 1 (List.replicate n []) []))]⟩:=by
 have l:=JW (N:=N') (sl:=sl) (H:=[(0,.own 56 1 (List.replicate n .nils))])
  (H':=[(0,.ext (.mat 56 3 1 (List.replicate (List.replicate n AV.nils).length []) []))])
  0 3 1 (e:=56) (es:=List.replicate n .nils) rfl (fun x m=>x6v m) rfl h rfl rfl (by simp[JL])
 simpa using l
theorem K6(w:Way)(f:Pr)(n:Nat)(h:WayT w f n)(hp:∀t∈WW w f,(0<=t.1/\t.1<n)/\0<=t.2/\t.2<n)(H:(S7 w f).length<=1000000):SpecP prog 124 [.ip w.cells] (fun r=>∃fm:List (List Bool),FollowP n (VQ n (WW w f)) fm/\r=.sl ((bmI fm).map .sl)):=by
 refine sC W4 func124 ?_;conv=>whnf
 have hwn:=h.hw;have hn5:=h.hn;have hn2:=h.hn2;have hA:=Jx w f n h;have hP:=WC w f h.hj h.hc (by omega) (S7 w f) H;have hpl:(avP (WW w f)).length=(WW w f).length:=by unfold avP;rw[x3a]
 have hpl2:(WW w f).length<=1000000:=by unfold WW;rw[x3a];exact H
 have hPe:(S7 w f).map (ixP w.p w.j f w.n)=WW w f:=rfl;rw[hPe]at hP;repeat' ((first|(refine gX ?_;intros)|refine x8a n (by omega) (by show 24*_<=140737488355328;omega) (by unfold maxLen;omega) ?_|refine cP hA ?_|refine cP hP ?_)<;>conv=>whnf)
 refine lJ (fun j:Nat=>⟨[(0,.p (.ip w.cells)),(3,.hd 0 0 n),(20,.p (.sl (avP (WW w f)))),(21,.p (.int .i64 (avP (WW w f)).length)),(22,.j j)],[(0,.ext (.mat 56 3 1 (avI (VQ n ((WW w f).take j))) []))]⟩) (fun j=>j<=(WW w f).length) (fun j=>(WW w f).length-j) 0 (by
   refine Le.trans (Pu n rfl) ?_;exact lE (hH:=.cons rfl (.of_eq (by simp[avI,VQ])) .nil)) (x4j _) ?_
 intro j h2;rcases x4f j (WW w f).length with P|P
 ·have M:(avP (WW w f))[j]?=some (.agg [.int .i64 (WW w f)[j].1,.int .i64 (WW w f)[j].2]):=by simp[avP,P]
  obtain⟨⟨Q,q2⟩,q3,q4⟩:=hp _ (x4h P);have u:VQ n ((WW w f).take (j+1))=nxE (VQ n ((WW w f).take j)) (WW w f)[j]:=by
   unfold VQ;rw[x4k P,x7s];rfl
  have s:=DD n ((WW w f).take j);have z:=LA n ((WW w f).take j) (WW w f)[j].1.toNat;generalize(WW w f)[j]=t at M Q q2 q3 q4 u z;generalize VQ n ((WW w f).take j)=rows at u s z⊢;obtain⟨a,ha⟩ : ∃a:Nat,t.1=a:=⟨t.1.toNat,by omega⟩;have L:a<rows.length:=by omega
  have o:(avI rows)[a]?=some (rows[a].map (.int .i64)):=by unfold avI;rw[x4q,x3e L];rfl
  have hput:(avI rows).set a (rows[a].map (.int .i64)++[.int .i64 t.2])=avI (nxE rows t):=by
   unfold nxE avI;rw[ha,x5u,x3i,x3e L,x5b,x5d,x4d];rfl
  have hcl:rows[a].length<=1000000:=by
   rw[ha,x5u,x3i,x3e L,x5b,x5z]at z;omega
  rw[ha]at M;conv=>whnf
  repeat' ((first|refine x4e rfl ?_|refine aD ?_|refine wI ?_|refine DrawK.of XM mixed (.cons 0 false (.cons 1 false (.cons 2 false (.cons 3 false (.cons 4 false (.cons 5 false (.cons 6 false (.cons 8 false (.cons 9 false (.alo 7 (.cons 10 true (.cons 11 true (.cons 12 true (.cons 13 true .nil)))))))))))))) (by kernel_rfl) ?_|refine iT M ?_|refine x6b 0 rfl (by decide) ?_|refine x6b 1 rfl (by decide) ?_|refine iO a ?_|refine x9q a _ (by omega) o (by simp) ?_|refine x9p (fun x v=>by rcases x4w.1 v with rfl;rfl) rfl ?_|refine OpK.focus XM 33 0 a 2 rfl rfl o (by simp) rfl rfl ?_|refine MQ rfl (by rw[x3a];omega) ?_|(refine ZA XM rfl rfl rfl rfl rfl rfl rfl rfl rfl (by decide) a [] (by omega) (by unfold avI;rw[x3a];omega) (by simp) ⟨by simp,by simp,by simp⟩ ?_)|(apply bD<;>intro _<;>try omega))<;>conv=>whnf)
  all_goals exact⟨j+1,P,by omega,Le.of_eq (by rw[u,<-hput];rfl)⟩
 ·conv=>whnf
  repeat' ((first|(refine gX ?_;intros)|refine x8a n (by omega) (by show 24*_<=140737488355328;omega) (by unfold maxLen;omega) ?_|(apply bD<;>intro _<;>try omega))<;>conv=>whnf)
  have hje:(WW w f).take j=WW w f:=x4b P;rw[hje];have U:=DD n (WW w f);have T:=OV n (WW w f) hp;have R:=LA n (WW w f);generalize VQ n (WW w f)=nx at U T R⊢;refine lJ (fun a:Nat=>⟨[(0,.p (.ip w.cells)),(3,.p (eMat nx)),(6,.hd 1 0 n),(46,.j n),(47,.j a)],[(1,.ext (.mat 101 4 1 (bmI (CS n a)) []))]⟩) (fun a=>a<=n) (fun a=>n-a) 0 (by
    refine Le.trans (Sp w n nx U _ _) ?_;exact lE (hH:=.cons rfl (.of_eq (by simp[bmI,CS])) .nil)) (x4j _) ?_
  intro a h3;rcases x4f a n with ha|ha
  ·have hfl:=IE (n:=n) h3;have J:=II (n:=n) ha;generalize CS n a=rows at hfl J⊢;have s:(bmI rows).length=n:=by unfold bmI;rw[x3a,hfl]
   conv=>whnf
   repeat' ((first|refine gX ?_|refine x8a n (by omega) (by show 1*_<=140737488355328;omega) (by unfold maxLen;omega) ?_|refine x6b a rfl ha ?_|refine ZA XM rfl rfl rfl rfl rfl rfl rfl rfl rfl (by decide) a [] (by omega) (by omega) (by simp) ⟨by simp,by simp,by simp⟩ ?_|refine x9q a (List.replicate n .ff) (by omega) (by rw[x5f (by omega)];rfl) (by simp) ?_|(apply bD<;>intro _<;>try omega))<;>conv=>whnf)
   refine lJ (fun b:Nat=>⟨[(0,.p (.ip w.cells)),(3,.p (eMat nx)),(6,.hd 1 0 n),(7,.j a),(46,.j n),(47,.j a),(62,.j n),(63,.j b)],[(1,.ext (.mat 101 4 1 ((bmI rows).set a ((Re n a b).map bv)) []))]⟩) (fun b=>b<=n) (fun b=>n-b) 0 (Le.of_eq (by rw[x5e,show(Re n a 0).map bv=List.replicate n .ff by unfold Re;simp[bv]];rfl)) (x4j _) ?_;intro b h4;rcases x4f b n with hb|hb
   ·have e:=O2 (n:=n) (a:=a) hb;have htl:=O1 (n:=n) (a:=a) h4;have o:((bmI rows).set a ((Re n a b).map bv))[a]?=some ((Re n a b).map bv):=x5f (by omega);have hrln:((Re n a b).map bv).length=n:=by rw[x3a,htl]
    generalize(Re n a b).map bv=row at e o hrln⊢;conv=>whnf
    repeat' ((first|refine dA ?_|refine gX ?_|refine Wr.eq (m:=(n:Int)-1) (by omega) (by omega) (by omega) ?_|refine x6b a rfl ha ?_|refine x9q a row (by omega) o (by simp) ?_|refine iO b ?_|refine Rz XM rfl rfl rfl rfl rfl rfl rfl rfl rfl o (by simp) (by omega) ?_|(apply bD<;>intro _<;>try omega))<;>conv=>whnf)
    have e1:∀c,((bmI rows).set a row).set a (row.set (b*1) c)=(bmI rows).set a (row.set b c):=fun c=>by rw[List.set_set,x9f]
    ·have v:(decide (a<n-1)||decide (a=b))=true:=by rw[x5n (by omega)];rfl
     rw[v]at e;exact⟨b+1,by omega,by omega,Le.of_eq (by rw[e1,<-e];rfl)⟩
    ·have v:(decide (a<n-1)||decide (a=b))=((a:Int)==b):=by
      rw[x5r (by omega),Bool.false_or];by_cases Z:a=b
      ·subst Z;simp
      ·have:¬(a:Int)=b:=by omega
       rw[x5r Z,x9c.2 this]
     have e1:∀c,((bmI rows).set a row).set a (row.set (b*1) c)=(bmI rows).set a (row.set b c):=fun c=>by rw[List.set_set,x9f]
     rw[v]at e;refine⟨b+1,by omega,by omega,?_⟩;rw[e1];exact((Cg (H1:=[]) (rows':=(bmI rows).set a (row.set b (bv ((a:Int)==b)))) (by rw[x6x,x6x]) (x2i (ElS.set rfl (MC _) (Sub.bv rfl)))).trans (Le.of_eq (by rw[e];rfl)))
   ·have hbe:b=n:=by omega
    subst hbe;rw[O0];have hbm:(bmI rows).set a ((filRow b a).map bv)=bmI (CS b (a+1)):=by
     rw[<-J];unfold bmI;rw[x5d]
    rw[hbm];conv=>whnf
    repeat' ((first|refine wI ?_|(apply bD<;>intro _<;>try omega))<;>conv=>whnf)
    exact nX (a+1) (by omega)
  ·have C:a=n:=by omega
   rw[C,IA];have hS:=FolI.start hn2 nx;have hnx:∀a,∀x∈nx.getD a [],0<=x/\x<(n:Int):=fun a x v=>by
    rw[x3i]at v;cases I:nx[a]?with
    |none=>rw[I]at v;cases v
    |some r=>rw[I]at v;exact T r (x4p I) x v
   generalize(List.range n).map (filRow n)=fm0 at hS⊢;clear h3 ha C a;conv=>whnf
   repeat' (apply bD<;>intro _<;>first|omega|conv=>whnf)
   refine lI (fun x:List (List Bool)×Bool=>⟨[(0,.p (.ip w.cells)),(3,.p (eMat nx)),(6,.hd 1 0 n),(9,.p (bv x.2))],[(1,.ext (.mat 101 4 1 (bmI x.1) []))]⟩) (fun x=>FolI n nx x.1/\(x.2=false->∀a,a<n-1->x.1.getD a []=rowF n nx x.1 a)) (fun x=>2*Rp x.1+x.2.toNat) (fm0,true) ⟨hS,fun h=>by cases h⟩ ?_;rintro⟨fm,E⟩ ⟨hI,F⟩;simp only at hI F⊢;cases E with
   | false=>
     have hbl:n=(bmI fm).length:=by unfold bmI;rw[x3a,hI.len]
     conv=>whnf
     skip
     exact⟨_,.mat rfl hbl,fm,⟨hI,F rfl⟩,rfl⟩
   | true=>
     conv=>whnf
     repeat' (refine Wr.eq (m:=(n:Int)-2) (by omega) (by omega) (by omega) ?_;conv=>whnf)
     refine lI (fun y:List (List Bool)×Bool×Int=>⟨[(0,.p (.ip w.cells)),(3,.p (eMat nx)),(6,.hd 1 0 n),(9,.p (bv y.2.1)),(10,.j y.2.2)],[(1,.ext (.mat 101 4 1 (bmI y.1) []))]⟩) (fun y=>FolI n nx y.1/\(-1<=y.2.2/\y.2.2<=(n:Int)-2)/\(y.2.1=false->y.1=fm/\∀q:Nat,y.2.2<q->q<n-1->fm.getD q []=rowF n nx fm q)/\(y.2.1=true->Rp y.1<Rp fm)) (fun y=>(y.2.2+1).toNat) (fm,false,(n:Int)-2) ⟨hI,⟨by simp only;omega,by simp only;omega⟩,fun _=>⟨rfl,fun q K h2=>by simp only at K;omega⟩,fun h=>by cases h⟩ ?_;rintro⟨l,t,a⟩ ⟨A,⟨ha1,ha2⟩,hf,hl⟩;simp only at A ha1 ha2 hf hl⊢;rcases Int.lt_or_le a 0 with ha0|ha0
     ·have C:a = -1:=by omega
      subst C;have fin:∃x:List (List Bool)×Bool,x=(l,t)/\2*Rp x.1+x.2.toNat<2*Rp fm+1:=⟨_,rfl,by
       cases t with
       |true=>have:=hl rfl;simp only[z0o];omega
       |false=>rw[(hf rfl).1];simp⟩
      obtain⟨x,rfl,hm⟩:=fin;conv=>whnf
      repeat' (apply bD<;>intro _<;>first|omega|conv=>whnf)
      refine⟨(l,t),⟨A,fun O a ha=>?_⟩,hm,lE⟩;simp only at O⊢;obtain⟨Q,q2⟩:=hf O;rw[Q];exact q2 a (by omega) ha
     ·obtain⟨i,rfl⟩ : ∃i:Nat,a=i:=⟨a.toNat,by omega⟩;have hin:i<n-1:=by omega
      have G:i<nx.length:=by omega
      have g:i<l.length:=by rw[A.len];omega
      have V:((avI nx).map AV.sl)[i]?=some (.sl (nx[i].map (.int .i64))):=by unfold avI;rw[x8t,x4q,x3e G];rfl
      have N:nx.getD i []=nx[i]:=by rw[x3i,x3e G];rfl
      have hgg:l.getD i []=l[i]:=by rw[x3i,x3e g];rfl
      have hcl:nx[i].length<=1000000:=by have:=R i;rw[N]at this;omega
      have Y:=C5 l nx[i] n A.len hn5 A.rows hcl (fun x v=>hnx i x (by rw[N];exact v));have hse:((XN l nx[i] n).map bv)[i]?=some (bv (KA l nx[i] i)):=by unfold XN;rw[x8t,x4q,x7z (by omega)];rfl
      have u:((XN l nx[i] n).map bv).set i (bv true)=(rowF n nx l i).map bv:=by
       unfold rowF;rw[N,x5d]
      have D:(bmI l)[i]?=some (l[i].map bv):=by unfold bmI;rw[x4q,x3e g];rfl
      have hgl:(l[i].map bv).length=n:=by rw[x3a];exact A.rows _ (x4h g)
      have s:((rowF n nx l i).map bv).length=n:=by rw[x3a,Q7]
      have hbl:(bmI l).length=n:=by unfold bmI;rw[x3a,A.len]
      have B:=HP (rowF n nx l i) l[i];by_cases I:rowF n nx l i=l[i]
      ·rw[x5n I]at B;have fin:∃y:List (List Bool)×Bool×Int,y=(l,t,(i:Int)-1)/\(FolI n nx y.1/\(-1<=y.2.2/\y.2.2<=(n:Int)-2)/\(y.2.1=false->y.1=fm/\∀q:Nat,y.2.2<q->q<n-1->fm.getD q []=rowF n nx fm q)/\(y.2.1=true->Rp y.1<Rp fm)):=⟨_,rfl,A,⟨by simp only;omega,by simp only;omega⟩,fun O=>by
        obtain⟨Q,q2⟩:=hf O;refine⟨Q,fun q K h2=>?_⟩;simp only at K;by_cases he:q=i
        ·subst he;subst Q;rw[hgg,I]
        ·exact q2 q (by omega) h2,hl⟩
       obtain⟨y,rfl,d⟩:=fin;conv=>whnf
       repeat' ((first|refine x4e rfl ?_|refine iT V ?_|refine iO i ?_|refine x8l i 0 _ (bv true) (by show(0+i)*1=i*1+0;omega) hse (x4m _) (by rw[MC,MC];rfl) ?_|refine x9q i _ (by omega) D (by simp) ?_|(apply bD<;>intro _<;>try omega)|(refine cH rH6 5 Y ?_))<;>conv=>whnf)
       rw[u];repeat' ((first|refine x4e rfl ?_|refine Wr.eq (m:=(i:Int)-1) (by omega) (by omega) (by omega) ?_|refine iO i ?_|refine ZA XM rfl rfl rfl rfl rfl rfl rfl rfl rfl (by decide) i [] (by omega) (by omega) s.symm ⟨by simp,by simp,by simp⟩ ?_|(apply bN<;>intro _)|(refine QC B (.cons (.hd rfl s.symm) (.cons (.row rfl D (by simp)) .nil)) (by rintro _ rfl;rfl) ?_;rintro _ rfl))<;>conv=>whnf)
       all_goals first
        |exact⟨_,d,by simp only;omega,lE⟩
        |(exfalso;simp_all;done)
      ·rw[x5r I]at B;have hsb:(bmI l).set i ((rowF n nx l i).map bv)=bmI (l.set i (rowF n nx l i)):=by unfold bmI;rw[x5d]
       have hne:rowF n nx l i≠l.getD i []:=by rw[hgg];exact I
       have fin:∃y:List (List Bool)×Bool×Int,y=(l.set i (rowF n nx l i),true,(i:Int)-1)/\(FolI n nx y.1/\(-1<=y.2.2/\y.2.2<=(n:Int)-2)/\(y.2.1=false->y.1=fm/\∀q:Nat,y.2.2<q->q<n-1->fm.getD q []=rowF n nx fm q)/\(y.2.1=true->Rp y.1<Rp fm)):=⟨_,rfl,A.step hnx hin,⟨by simp only;omega,by simp only;omega⟩,fun O=>by(simp only at O;cases O),fun _=>by
        have K:=A.less hin hne;cases t with
        |true=>exact Nat.lt_trans K (hl rfl)
        |false=>rw[(hf rfl).1]at K⊢;exact K⟩
       obtain⟨y,rfl,d⟩:=fin;conv=>whnf
       repeat' ((first|refine x4e rfl ?_|refine iT V ?_|refine iO i ?_|refine x8l i 0 _ (bv true) (by show(0+i)*1=i*1+0;omega) hse (x4m _) (by rw[MC,MC];rfl) ?_|refine x9q i _ (by omega) D (by simp) ?_|(apply bD<;>intro _<;>try omega)|(refine cH rH6 5 Y ?_))<;>conv=>whnf)
       rw[u];repeat' ((first|refine x4e rfl ?_|refine Wr.eq (m:=(i:Int)-1) (by omega) (by omega) (by omega) ?_|refine iO i ?_|refine ZA XM rfl rfl rfl rfl rfl rfl rfl rfl rfl (by decide) i [] (by omega) (by omega) s.symm ⟨by simp,by simp,by simp⟩ ?_|(apply bN<;>intro _)|(refine QC B (.cons (.hd rfl s.symm) (.cons (.row rfl D (by simp)) .nil)) (by rintro _ rfl;rfl) ?_;rintro _ rfl))<;>conv=>whnf)
       all_goals first
        |exact⟨_,d,by simp only;omega,lE (hH:=.cons rfl (.of_eq (by rw[hsb])) .nil)⟩
        |(exfalso;simp_all;done)
def CJ(fm:List (List Bool))(t:Int×Int)(b:Nat):Bool:=bitF fm t.2.toNat b&&(decide (t.1=b) || !bitF fm t.1.toNat b)
def mkM(n:Nat)(fm:List (List Bool))(l:List (Int×Int))(a b:Nat):Bool:=(decide (1<=b)&&decide (b<n-1))&&l.any fun t=>decide (t.1=a)&&CJ fm t b
structure DimB(n:Nat)(M:List (List Bool)):Prop where
 len:M.length=n
 rows:∀r∈M,r.length=n
theorem DimB.row{n:Nat}{M:List (List Bool)}(h:DimB n M){a:Nat}(ha:a<n):(bmI M)[a]?=some ((M.getD a []).map bv)/\((M.getD a []).map bv).length=n:=by
 have l:a<M.length:=by rw[h.len];exact ha
 have e:M.getD a []=M[a]:=by rw[x3i,x3e l];rfl
 rw[e];refine⟨by unfold bmI;rw[x4q,x3e l];rfl,?_⟩;rw[x3a];exact h.rows _ (x4h l)
theorem DimB.bit{n:Nat}{M:List (List Bool)}(h:DimB n M){b:Nat}(ha:a<n)(q:b<n):((M.getD a []).map bv)[b]?=some (bv (bitF M a b)):=by
 obtain⟨_,o⟩:=h.row ha;have m:b<(M.getD a []).length:=by rw[x3a]at o;omega
 rw[x4q,x3e m];unfold bitF;rw[x3i (l:=M.getD a []) (i:=b),x3e m];rfl
theorem DimB.set{n:Nat}{M:List (List Bool)}(h:DimB n M){b:Nat}(ha:a<n)(u:b<n):DimB n (M.set a ((M.getD a []).set b true))/\(bmI M).set a (((M.getD a []).map bv).set b .tt)=bmI (M.set a ((M.getD a []).set b true))/\∀x y,x<n->y<n->bitF (M.set a ((M.getD a []).set b true)) x y=if x=a/\y=b then true else bitF M x y:=by
 have o:a<M.length:=by rw[h.len];exact ha
 obtain⟨_,t⟩:=h.row ha;rw[x3a]at t;refine⟨⟨by rw[x6x];exact h.len,fun r q=>?_⟩,?_,fun x y v w=>?_⟩
 ·rcases x7q q with q|rfl
  ·exact h.rows r q
  ·rw[x6x];exact t
 ·unfold bmI;rw[x5d,x5d];rfl
 ·rw[Hm o];by_cases l:x=a
  ·subst l;rw[if_pos rfl,x3i];by_cases m:y=b
   ·subst m;rw[if_pos ⟨rfl,rfl⟩,x5f (by omega)];rfl
   ·rw[if_neg (fun h=>m h.2),x5p (x7d m),<-x3i];rfl
  ·rw[if_neg l,if_neg (fun h=>l h.1)]
def AS(h:Int->Int)(M:List (List Bool))(n a:Nat):List (Int×Int):=(List.range a).flatMap fun(x:Nat)=>((List.range n).filter fun y=>bitF M x y).map fun(y:Nat)=>(h x,h y)
def Cz(h:Int->Int)(M:List (List Bool))(a b:Nat):List (Int×Int):=((List.range b).filter fun y=>bitF M a y).map fun(y:Nat)=>(h a,h y)
def Pe(h:Int->Int)(M:List (List Bool))(n a:Nat):AS h M n (a+1)=AS h M n a++Cz h M a n:=by
 unfold AS Cz;rw[x8x,x6m];simp
def AA(l:Int->Int)(M:List (List Bool))(a b:Nat):Cz l M a (b+1)=Cz l M a b++(if bitF M a b then [(l a,l b)]else []):=by
 unfold Cz;rw[x8x,x6y,x4d];congr 1;cases h:bitF M a b<;>simp[h]
def T9(h:Int->Int)(M:List (List Bool))(a b:Nat):(Cz h M a b).length<=b:=by
 unfold Cz;rw[x3a];exact x5y (x6p _ _) (by simp)
theorem ON(h:Int->Int)(M:List (List Bool))(n a:Nat):(AS h M n a).length<=a*n:=by
 induction a with
 |zero=>unfold AS;simp
 | succ a l=>
   have:=T9 h M a n;rw[Pe,x3o,x6r,z1u];omega
def zR(n a:Nat):List (List Bool):=List.replicate a (List.replicate n false)++List.replicate (n-a) []
theorem q8b{n:Nat}(h:a<=n):(zR n a).length=n:=by unfold zR;simp;omega
theorem q8p{n:Nat}(h:a<n):(bmI (zR n a)).set a (List.replicate n .ff)=bmI (zR n (a+1)):=by
 have e:(zR n a).set a (List.replicate n false)=zR n (a+1):=by
  unfold zR;rw[x7k _ _ (by simp),x5e,x8w,show n-a=(n-(a+1))+1 by omega,x8v,x7m,List.replicate_succ',x4r];rfl
 rw[<-e];unfold bmI;rw[x5d];congr 1;simp[bv]
def q8d(n:Nat):DimB n (zR n n)/\∀a b,bitF (zR n n) a b=false:=by
 have e:zR n n=List.replicate n (List.replicate n false):=by unfold zR;simp
 rw[e];refine⟨⟨by simp,fun r h=>by rw[x6v h];simp⟩,fun a b=>?_⟩;unfold bitF;simp only[x3i,x5v];split
 .simp only[x5b,x5v];split<;>rfl
 .rfl
def Sn(n:Nat)(h:(sl.all fun x=>x.2.xfree 0)=true):
  Le N' ⟨sl,[(0,.own 101 1 (List.replicate n .nils))]⟩ ⟨sl,[(0,.ext (.mat 101 4 1 (List.replicate n []) []))]⟩:=by
 have l:=JW (N:=N') (sl:=sl) (H:=[(0,.own 101 1 (List.replicate n .nils))])
  (H':=[(0,.ext (.mat 101 4 1 (List.replicate (List.replicate n AV.nils).length []) []))])
  0 4 1 (e:=101) (es:=List.replicate n .nils) rfl (fun x m=>x6v m) rfl h rfl rfl (by simp[JL])
 simpa using l
theorem Jz(w:Way)(f:Pr)(n:Nat)(h:WayT w f n)(hp:∀t∈WW w f,(0<=t.1/\t.1<n)/\0<=t.2/\t.2<n)(v:(S7 w f).length<=1000000):SpecP prog 72 [.ip w.cells] (fun r=>∃fm M:List (List Bool),FollowP n (VQ n (WW w f)) fm/\DimB n M/\(∀a b,a<n->b<n->bitF M a b=mkM n fm (WW w f) a b)/\r=.sl (avP (AS (QF w.p w.j w.n) M n n))):=by
 refine sC X3 func72 ?_;conv=>whnf
 have hwn:=h.hw;have hn5:=h.hn;have hn2:=h.hn2;have hF:=K6 w f n h hp v;have hA:=Jx w f n h;have hP:=WC w f h.hj h.hc (by omega) (S7 w f) v;have hpl:(avP (WW w f)).length=(WW w f).length:=by unfold avP;rw[x3a]
 have hpl2:(WW w f).length<=1000000:=by unfold WW;rw[x3a];exact v
 have hPe:(S7 w f).map (ixP w.p w.j f w.n)=WW w f:=rfl;rw[hPe]at hP;repeat' ((first|(refine gX ?_;intros)|(refine CallK.pure hF (.cons (Sub.refl _) .nil) ?_;rintro _ ⟨fm,D,rfl⟩)|refine x8a n (by omega) (by show 24*_<=140737488355328;omega) (by unfold maxLen;omega) ?_)<;>conv=>whnf)
 have d:DimB n fm:=⟨D.inv.len,D.inv.rows⟩;refine lJ (fun a:Nat=>⟨[(0,.p (.ip w.cells)),(3,.p (.sl ((bmI fm).map .sl))),(4,.hd 0 0 n),(21,.j n),(22,.j a)],[(0,.ext (.mat 101 4 1 (bmI (zR n a)) []))]⟩) (fun a=>a<=n) (fun a=>n-a) 0 (by
   refine Le.trans (Sn n rfl) ?_;exact lE (hH:=.cons rfl (.of_eq (by simp[bmI,zR])) .nil)) (x4j _) ?_
 intro a h3;rcases x4f a n with ha|ha
 ·have hzl:=q8b (n:=n) h3;have hzs:=q8p (n:=n) ha;have P:(bmI (zR n a)).length=n:=by unfold bmI;rw[x3a,hzl]
  generalize bmI (zR n a)=rows at hzs P⊢;conv=>whnf
  repeat' ((first|refine gX ?_|refine x8a n (by omega) (by show 1*_<=140737488355328;omega) (by unfold maxLen;omega) ?_|refine x6b a rfl ha ?_|refine ZA XM rfl rfl rfl rfl rfl rfl rfl rfl rfl (by decide) a [] (by omega) (by omega) (by simp) ⟨by simp,by simp,by simp⟩ ?_|(apply bD<;>intro _<;>try omega))<;>conv=>whnf)
  exact⟨a+1,by omega,by omega,Le.of_eq (by rw[<-hzs];rfl)⟩
 have A:a=n:=by omega
 rw[A];clear h3 ha A a;obtain⟨hz1,hz2⟩:=q8d n;generalize zR n n=M0 at hz1 hz2⊢;conv=>whnf
 repeat' ((first|(refine iM fun _=>?_)|refine cP hA ?_|refine cP hP ?_|(apply bD<;>intro _<;>try omega))<;>conv=>whnf)
 refine lI (fun x:Nat×List (List Bool)=>⟨[(0,.p (.ip w.cells)),(3,.p (.sl ((bmI fm).map .sl))),(4,.hd 0 0 n),(37,.p (.sl (avP (WW w f)))),(38,.p (.int .i64 (avP (WW w f)).length)),(39,.j x.1)],[(0,.ext (.mat 101 4 1 (bmI x.2) []))]⟩) (fun x=>x.1<=(WW w f).length/\DimB n x.2/\∀a b,a<n->b<n->bitF x.2 a b=mkM n fm ((WW w f).take x.1) a b) (fun x=>(WW w f).length-x.1) (0,M0) ⟨x4j _,hz1,fun a b _ _=>by simp only[hz2];unfold mkM;simp⟩ ?_;rintro⟨j,M⟩ ⟨h2,J,hB⟩;simp only at h2 J hB⊢;rcases x4f j (WW w f).length with U|U
 ·have H:(avP (WW w f))[j]?=some (.agg [.int .i64 (WW w f)[j].1,.int .i64 (WW w f)[j].2]):=by simp[avP,U]
  obtain⟨⟨q1,q2⟩,q3,q4⟩:=hp _ (x4h U);have V:∀a b,mkM n fm ((WW w f).take (j+1)) a b=(mkM n fm ((WW w f).take j) a b||((decide (1<=b)&&decide (b<n-1))&&(decide ((WW w f)[j].1=a)&&CJ fm (WW w f)[j] b))):=fun a b=>by
   unfold mkM;rw[x4k U,List.any_append];simp only[List.any_cons,List.any_nil,Bool.or_false];cases(decide (1<=b)&&decide (b<n-1))<;>simp
  generalize(WW w f)[j]=t at H q1 q2 q3 q4 V;obtain⟨a,ha⟩ : ∃a:Nat,t.1=a:=⟨t.1.toNat,by omega⟩;obtain⟨c,hc⟩ : ∃c:Nat,t.2=c:=⟨t.2.toNat,by omega⟩;have u:a<n:=by omega
  have Q:c<n:=by omega
  rw[ha,hc]at H;have R:∀b,CJ fm t b=(bitF fm c b&&(decide (a=b) || !bitF fm a b)):=fun b=>by
   unfold CJ;rw[ha,hc,x5u,x5u];congr 2;by_cases e:a=b
   ·subst e;simp
   ·rw[x5r e,x5r (by omega)]
  conv=>whnf
  repeat' ((first|refine x4e rfl ?_|refine iT H ?_|refine x6b 0 rfl (by decide) ?_|(apply bD<;>intro _<;>try omega))<;>conv=>whnf)
  refine lI (fun y:Nat×List (List Bool)=>⟨[(0,.p (.ip w.cells)),(3,.p (.sl ((bmI fm).map .sl))),(4,.hd 0 0 n),(7,.p (.ip [.int .i64 a,.int .i64 c])),(8,.j a),(9,.j y.1),(37,.p (.sl (avP (WW w f)))),(38,.p (.int .i64 (avP (WW w f)).length)),(39,.j j)],[(0,.ext (.mat 101 4 1 (bmI y.2) []))]⟩) (fun y=>(1<=y.1/\y.1<=n-1)/\DimB n y.2/\∀o l,o<n->l<n->bitF y.2 o l=(mkM n fm ((WW w f).take j) o l||((decide (1<=l)&&decide (l<y.1))&&(decide (t.1=o)&&CJ fm t l)))) (fun y=>n-y.1) (1,M) ⟨⟨x4m _,by simp only;omega⟩,J,fun o l h1 h2=>by
    simp only;rw[hB o l h1 h2];cases Z:(decide (1<=l)&&decide (l<1))with
    |true=>simp at Z;omega
    |false=>simp⟩ ?_
  rintro⟨b,L⟩ ⟨⟨h4,h5⟩,K,g⟩;simp only at h4 h5 K g⊢;rcases x4f b (n-1)with hb|hb
  ·have F:b<n:=by omega
   obtain⟨r1,r2⟩:=d.row Q;obtain⟨s1,s2⟩:=d.row u;obtain⟨B,u2⟩:=K.row u;have C:=d.bit Q F;have e2:=d.bit u F;obtain⟨d1,d2,d3⟩:=K.set u F;have hr1:((bmI fm).map AV.sl)[c]?=some (.sl ((fm.getD c []).map bv)):=by rw[x4q,r1];rfl
   have hr2:((bmI fm).map AV.sl)[a]?=some (.sl ((fm.getD a []).map bv)):=by rw[x4q,s1];rfl
   have no:CJ fm t b=false->∀o l,o<n->l<n->bitF L o l=(mkM n fm ((WW w f).take j) o l||((decide (1<=l)&&decide (l<b+1))&&(decide (t.1=o)&&CJ fm t l))):=fun Z o l g1 I=>by
    rw[g o l g1 I];by_cases e:l=b
    ·subst e;simp[Z]
    ·have:decide (l<b+1)=decide (l<b):=by by_cases G:l<b<;>simp[G]<;>omega
     rw[this]
   have yes:CJ fm t b=true->∀o l,o<n->l<n->bitF (L.set a ((L.getD a []).set b true)) o l=(mkM n fm ((WW w f).take j) o l||((decide (1<=l)&&decide (l<b+1))&&(decide (t.1=o)&&CJ fm t l))):=fun Z o l g1 I=>by
    rw[d3 o l g1 I];by_cases e:o=a/\l=b
    ·rw[if_pos e,e.1,e.2,Z,x5n h4,x5n (by omega:b<b+1),x5n ha];simp
    ·rw[if_neg e,g o l g1 I];by_cases ea:o=a
     ·have eb:¬l=b:=fun hh=>e ⟨ea,hh⟩;have:decide (l<b+1)=decide (l<b):=by by_cases G:l<b<;>simp[G]<;>omega
      rw[this]
     ·have:decide (t.1=(o:Int))=false:=x5r (by omega);rw[this];simp
   have q:=R b;generalize bitF fm c b=v1 at C q;generalize bitF fm a b=v2 at e2 q;cases v1<;>cases v2 <;>
   conv=>whnf
   repeat' ((first|refine x4e rfl ?_|refine Wr.eq (m:=(n:Int)-1) (by omega) (by omega) (by omega) ?_|refine wI ?_|refine x6b 1 rfl (by decide) ?_|refine iT hr1 ?_|refine iT hr2 ?_|refine iT C ?_|refine iT e2 ?_|refine x6b a rfl u ?_|refine x9q a _ (by omega) B (by simp) ?_|refine iO b ?_|refine Rz XM rfl rfl rfl rfl rfl rfl rfl rfl rfl B (by simp) (by omega) ?_|(apply bD<;>intro _<;>try omega))<;>conv=>whnf)
   all_goals first
    |exact nX (b+1,L) ⟨⟨by simp only;omega,by simp only;omega⟩,K,no (by first|(rw[q];rfl)|(rw[q];have s:¬a=b:=(by omega);rw[x5r s];rfl))⟩
    |exact⟨(b+1,L.set a ((L.getD a []).set b true)),⟨⟨by simp only;omega,by simp only;omega⟩,d1,yes (by first|(rw[q];have s:a=b:=(by omega);rw[x5n s];rfl)|(rw[q];have s:¬a=b:=(by omega);rw[x5r s];rfl))⟩,by simp only;omega,Le.of_eq (by rw[x9f];simp only;rw[<-d2];rfl)⟩
  ·have E:b=n-1:=by omega
   subst E;have T:∀a b,a<n->b<n->bitF L a b=mkM n fm ((WW w f).take (j+1)) a b:=fun o l g1 I=>by rw[g o l g1 I,V]
   conv=>whnf
   repeat' ((first|refine Wr.eq (m:=(n:Int)-1) (by omega) (by omega) (by omega) ?_|refine wI ?_|(apply bD<;>intro _<;>try omega))<;>conv=>whnf)
   all_goals first
    |exact⟨(j+1,L),⟨by simp only;omega,K,T⟩,by simp only;omega,lE⟩
    |(exfalso;omega)
 ·have hje:(WW w f).take j=WW w f:=x4b U;rw[hje]at hB;have P:(bmI M).length=n:=by unfold bmI;rw[x3a,J.len]
  generalize Y:QF w.p w.j w.n=plc;conv=>whnf
  repeat' (apply bD<;>intro _<;>first|omega|conv=>whnf)
  refine lJ (fun a:Nat=>⟨[(0,.p (.ip w.cells)),(4,.hd 0 0 n),(10,.hd 1 0 (AS plc M n a).length),(85,.j n),(86,.j a)],[(0,.ext (.mat 101 4 1 (bmI M) [])),(1,.own 136 2 (avP (AS plc M n a)))]⟩) (fun a=>a<=n) (fun a=>n-a) 0 (lM [(1,.own 136 2 [])]) (x4j _) ?_;intro a h3;rcases x4f a n with ha|ha
  ·obtain⟨B,u2⟩:=J.row ha;have hol:=ON plc M n a;have hol2:a*n<=5000*5000:=z0n (by omega) hn5;have hsu:=Pe plc M n a;generalize AS plc M n a=acc at hol hsu⊢;conv=>whnf
   repeat' ((first|refine x4e rfl ?_|refine x6b a rfl ha ?_|refine x9q a _ (by omega) B (by simp) ?_|(apply bD<;>intro _<;>try omega))<;>conv=>whnf)
   refine lJ (fun b:Nat=>⟨[(0,.p (.ip w.cells)),(4,.hd 0 0 n),(10,.hd 1 0 (acc++Cz plc M a b).length),(11,.j a),(85,.j n),(86,.j a),(93,.j n),(94,.j b)],[(0,.ext (.mat 101 4 1 (bmI M) [])),(1,.own 136 2 (avP (acc++Cz plc M a b)))]⟩) (fun b=>b<=n) (fun b=>n-b) 0 (Le.of_eq (by rw[u2,show acc++Cz plc M a 0=acc by unfold Cz;simp];rfl)) (x4j _) ?_;intro b h4;rcases x4f b n with hb|hb
   ·have C:=J.bit ha hb;have z:=AA plc M a b;have hrl:=T9 plc M a b;generalize Cz plc M a b=acc2 at z hrl⊢;have hal:(avP (acc++acc2)).length=(acc++acc2).length:=by unfold avP;rw[x3a]
    have hal2:(acc++acc2).length<=25005000:=by rw[x3o];omega
    have N:=ZC w f h.hj h.hc (by omega) a (by omega);have O:=ZC w f h.hj h.hc (by omega) b (by omega);rw[Y]at N O;cases hv:bitF M a b with
    | true=>
      rw[hv]at C;rw[hv,if_pos rfl]at z;conv=>whnf
      repeat' ((first|refine gX ?_|refine x6b a rfl ha ?_|refine x9q a _ (by omega) B (by simp) ?_|refine iO b ?_|refine RLd.mk _ b 0 _ B (by simp) (by omega) C ?_|refine cP N ?_|refine cP O ?_|refine pA 1 16 hal.symm ?_|(apply bD<;>intro _<;>try omega))<;>conv=>whnf)
      all_goals first
       |exact⟨b+1,by omega,by omega,Le.of_eq (by rw[z,<-x4r];simp only[avP,x3o,x4d];rfl)⟩
       |(exfalso;simp_all;done)
    | false=>
      rw[hv]at C;rw[hv,if_neg (by decide),x5m]at z;conv=>whnf
      repeat' ((first|refine gX ?_|refine x6b a rfl ha ?_|refine x9q a _ (by omega) B (by simp) ?_|refine iO b ?_|refine RLd.mk _ b 0 _ B (by simp) (by omega) C ?_|(apply bD<;>intro _<;>try omega))<;>conv=>whnf)
      all_goals first
       |exact⟨b+1,by omega,by omega,Le.of_eq (by rw[z];rfl)⟩
       |(exfalso;simp_all;done)
   ·have E:b=n:=by omega
    subst E;rw[<-hsu];conv=>whnf
    repeat' ((first|refine wI ?_|(apply bD<;>intro _<;>try omega))<;>conv=>whnf)
    exact nX (a+1) (by omega)
  ·have A:a=n:=by omega
   subst A;conv=>whnf
   repeat' (apply bD<;>intro _<;>first|omega|conv=>whnf)
   exact⟨_,.hd rfl (by unfold avP;rw[x3a]),fm,M,D,J,hB,rfl⟩
theorem V3{p:Pg}(h:QL p=true){j:Nat}{f:Pr}(q:p.A[j]?=some f){n:Item}(u:QS p.A j<=k)(v:k<QS p.A j+QJ f.body)(r:(sheetOf p).l[k]?=some n):n.s.id=(k:Int)+1:=by
 obtain⟨t,_,m,o⟩:=D6 h q (a:=(k:Int)+1) (by omega) (by omega);unfold Li at m;rw[show((k:Int)+1-1).toNat=k by omega,r]at m;cases m;exact o
theorem Pt{n:Nat}{part:List Int}(v:∀k,k<n->0<=part.getD k 0/\part.getD k 0<n){i:Nat}(w:i<n):∀(l:List (Int×Int)){o:List Bool},o.length=n->(∀t∈l,0<=t.1/\t.1<n)->
  ((l.foldl (Xb part) o).getD i false=true↔o.getD i false=true\/∃t∈l,part.getD t.1.toNat 0≠part.getD t.2.toNat 0/\part.getD t.1.toNat 0=i)
 |[],o,_,_=>by simp
 | t::r,o,ho,hr=>by
   rw [x7v,Pt v w r (by rw[Pa];exact ho) fun u m=>hr u (x4x _ m)];have x:=hr t x4z;have y:=v t.1.toNat (by omega);have key:(Xb part o t).getD i false=true↔o.getD i false=true\/(part.getD t.1.toNat 0≠part.getD t.2.toNat 0/\part.getD t.1.toNat 0=i):=by
    unfold Xb;split
    ·rename_i s;constructor
     ·exact .inl
     ·rintro(h|⟨h,_⟩)
      ·exact h
      ·exact absurd s h
    ·rename_i s;rw[WV (by omega)];split
     ·rename_i h;constructor
      ·intro _;exact .inr ⟨s,by omega⟩
      ·intro _;rfl
     ·rename_i h;constructor
      ·exact .inl
      ·rintro(q|⟨_,q⟩)
       ·exact q
       ·exact absurd (by omega) h
   rw[key,or_assoc];constructor
   ·rintro(h|⟨h,q⟩|⟨u,m,h⟩)
    ·exact .inl h
    ·exact .inr ⟨t,x4z,h,q⟩
    ·exact .inr ⟨u,x4x _ m,h⟩
   ·rintro(h|⟨u,m,h⟩)
    ·exact .inl h
    ·rcases x4v.1 m with rfl|m
     ·exact .inr (.inl h)
     ·exact .inr (.inr ⟨u,m,h⟩)
theorem OF{n:Nat}{part:List Int}(q:0<n)(m:∀k,k<n->0<=part.getD k 0/\part.getD k 0<n)(o:i<n){l:List (Int×Int)}(r:∀t∈l,0<=t.1/\t.1<n):
  (Ff n part l).getD i false=true↔part.getD 0 0=i\/part.getD (n-1) 0=i\/∃t∈l,part.getD t.1.toNat 0≠part.getD t.2.toNat 0/\part.getD t.1.toNat 0=i:=by
 have s:=m 0 q;have u:=m (n-1) (by omega);unfold Ff;rw[Pt m o l (by simp[K2]) r];have key:(K2 n part).getD i false=true↔part.getD 0 0=i\/part.getD (n-1) 0=i:=by
  unfold K2;rw[WV (by rw[x6x,x5e];omega),WV (by rw[x5e];omega)];split
  ·exact⟨fun _=>.inr (by omega),fun _=>rfl⟩
  ·split
   ·exact⟨fun _=>.inl (by omega),fun _=>rfl⟩
   ·have:(List.replicate n false).getD i false=false:=by
     rw[x3i,x5v];split<;>rfl
    rw[this];constructor
    ·intro h;cases h
    ·rintro(h|h)<;>omega
 rw[key,or_assoc]
section
variable {p:Pg}{j:Nat}{f:Pr}
theorem BS{i:Int}(h:0<=i/\i<(QJ f.body+2:Nat)):plP p j f (QF p j (QJ f.body+2:Nat) i)/\ixI p j f (QF p j (QJ f.body+2:Nat) i)=i:=by
 unfold QF ixI JN plP loI hiI;constructor
 ·(repeat' split)<;>omega
 ·(repeat' split)<;>omega
def Fs{x:Int}(h:plP p j f x):QF p j (QJ f.body+2:Nat) (ixI p j f x)=x:=by
 have l:=BS (p:=p) (j:=j) (f:=f) (WU h);exact DJ l.1 h l.2
def Fa:prsW (QQ p j f) f=(QQ p j f).real.map (ixP p j f (QJ f.body+2:Nat)):=rfl
def q2b(h:QL p=true)(o:p.A[j]?=some f):∀t∈prsW (QQ p j f) f,(0<=t.1/\t.1<(QJ f.body+2:Nat))/\0<=t.2/\t.2<(QJ f.body+2:Nat):=fun t l=>by
 rw[Fa]at l;obtain⟨s,q,rfl⟩:=x4y.1 l;obtain⟨m,n⟩:=JS h o s q;exact⟨WU m,WU n⟩
def wE(p:Pg)(j:Nat)(f:Pr):Int->Int->Prop:=rowE (QA (QJ f.body+2) (prsW (QQ p j f) f)).1
def wR(p:Pg)(j:Nat)(f:Pr):Int->Int->Prop:=stR (QQ p j f).real
def q6g(h:QL p=true)(q:p.A[j]?=some f){i k:Int}:wE p j f i k ↔ ∃a b,wR p j f a b/\ixI p j f a=i/\ixI p j f b=k:=by
 unfold wE wR;rw[Sy];constructor
 .rintro ⟨l,_,_⟩;rw[Fa]at l;obtain⟨s,m,n⟩:=x4y.1 l;exact⟨s.src,s.dst,⟨s,m,rfl,rfl⟩,x6h Prod.fst n,x6h Prod.snd n⟩
 .rintro ⟨a,b,⟨s,m,rfl,rfl⟩,rfl,rfl⟩;obtain⟨l,o⟩:=JS h q s m;exact⟨x4y.2 ⟨s,m,rfl⟩,Fq (WU l),Fq (WU o)⟩
def q8n(h:QL p=true)(l:p.A[j]?=some f){a b:Int}(m:wR p j f a b):plP p j f a/\plP p j f b:=by
 obtain⟨s,n,rfl,rfl⟩:=m;exact JS h l s n
def q2n(h:QL p=true)(o:p.A[j]?=some f){a b:Int}(ha:plP p j f a)(w:plP p j f b):Rch (wE p j f) (ixI p j f a) (ixI p j f b)↔Rch (wR p j f) a b:=by
 constructor
 .intro q;obtain⟨c,n,m,l⟩:=q.closed (S:=fun k=>∃c,plP p j f c/\ixI p j f c=k/\Rch (wR p j f) a c) (by
   rintro i k ⟨c,n,m,l⟩ t;obtain⟨x,y,r,u,v⟩:=(q6g h o).1 t;have s:=q8n h o r;have:x=c:=DJ s.1 n (by rw[u,m]);subst this;exact⟨y,s.2,v,.tail l r⟩) ⟨a,ha,rfl,.refl⟩
  rw[<-DJ n w m];exact l
 .intro q;exact(q.closed (S:=fun c=>plP p j f c/\Rch (wE p j f) (ixI p j f a) (ixI p j f c)) (fun x y ⟨n,m⟩ l=>⟨(q8n h o l).2,.tail m ((q6g h o).2 ⟨x,y,l,rfl,rfl⟩)⟩) ⟨ha,.refl⟩).2
def q7o(h:QL p=true)(m:p.A[j]?=some f){a b:Int}(ha:plP p j f a)(l:plP p j f b):sccP (wE p j f) (ixI p j f a) (ixI p j f b)↔sccP (wR p j f) a b:=by
 unfold sccP;rw[q2n h m ha l,q2n h m l ha]
def DP(p:Pg)(j:Nat)(f:Pr)(i:Int):Int:=(UB (QQ p j f) f).getD i.toNat 0
def Yj:UB (QQ p j f) f=Xp (QJ f.body+2) (QA (QJ f.body+2) (prsW (QQ p j f) f)).1:=rfl
def Tv{i:Int}(h:0<=i/\i<(QJ f.body+2:Nat)):MinP (wE p j f) i (DP p j f i):=by
 unfold DP;rw[Yj];exact Xn (JP _ _).1 h
def OR(h:k<QJ f.body+2):0<=(UB (QQ p j f) f).getD k 0/\(UB (QQ p j f) f).getD k 0<(QJ f.body+2:Nat):=by
 rw[Yj];exact Tz (JP _ _).1 h
def Tw:(UB (QQ p j f) f).length=QJ f.body+2:=by rw[Yj,DN]
theorem MinP.same{E:Int->Int->Prop}{x y v:Int}(h:MinP E x v)(l:sccP E x y):MinP E y v:=⟨l.symm.trans h.scc,fun z m=>h.le z (l.trans m)⟩
def OL{i k:Int}(n:0<=i/\i<(QJ f.body+2:Nat))(o:0<=k/\k<(QJ f.body+2:Nat)):DP p j f i=DP p j f k↔sccP (wE p j f) i k:=by
 have l:=Tv (p:=p) (j:=j) n;have h:=Tv (p:=p) (j:=j) o;constructor
 .intro m;rw[<-m]at h;exact l.scc.trans h.scc.symm
 .intro q;exact(l.same q).uniq h
def NP(h:QL p=true)(m:p.A[j]?=some f){a b:Int}(ha:plP p j f a)(l:plP p j f b):DP p j f (ixI p j f a)=DP p j f (ixI p j f b)↔sccP (wR p j f) a b:=by
 rw[OL (WU ha) (WU l),q7o h m ha l]
structure TrapP(p:Pg)(j:Nat)(f:Pr)(l:List Int)(r:Int):Prop where
 pl:plP p j f r
 mem:∀b,b∈l↔plP p j f b/\sccP (wR p j f) r b
 cl:∀b c,sccP (wR p j f) r b->wR p j f b c->sccP (wR p j f) r c
 n0:¬sccP (wR p j f) r 0
 nx:¬sccP (wR p j f) r (-1)
def EN{l:Int->Int}{part:List Int}{q:Nat}{b:Int}:b∈BQ l part i q ↔ ∃k:Nat,k<q/\part.getD k 0=i/\l k=b:=by
 unfold BQ;constructor
 .intro h;obtain⟨k,o,rfl⟩:=x4y.1 h;obtain⟨m,n⟩:=x5h.1 o;exact⟨k,x5a.1 m,x8u.1 n,rfl⟩
 .rintro ⟨k,m,n,rfl⟩;exact x4y.2 ⟨k,x5h.2 ⟨x5a.2 m,x8u.2 n⟩,rfl⟩
def ix0:ixI p j f 0=0:=by unfold ixI JN;rw[if_pos rfl]
theorem ix1:ixI p j f (-1)=((QJ f.body+2:Nat):Int)-1:=by unfold ixI JN;rw[if_neg (by omega),if_pos rfl]
def pl0:plP p j f 0:=.inl rfl
def pl1:plP p j f (-1):=.inr (.inl rfl)
def Wa(k:Nat):(UB (QQ p j f) f).getD k 0=DP p j f k:=by
 unfold DP;rw[x5u]
theorem q4s(h:QL p=true)(l:p.A[j]?=some f)(z:i<QJ f.body+2):(Ff (QJ f.body+2) (UB (QQ p j f) f) (prsW (QQ p j f) f)).getD i false=true ↔
  DP p j f (ixI p j f 0)=i\/DP p j f (ixI p j f (-1))=i\/∃a b,wR p j f a b/\¬sccP (wR p j f) a b/\DP p j f (ixI p j f a)=i:=by
 rw[OF (by omega) (fun k c=>OR c) z fun t n=>(q2b h l t n).1,ix0,ix1];have x:(UB (QQ p j f) f).getD (QJ f.body+2-1) 0=DP p j f (((QJ f.body+2:Nat):Int)-1):=by
  unfold DP;congr 1;omega
 have w:(UB (QQ p j f) f).getD 0 0=DP p j f 0:=rfl;rw[w,x];refine or_congr z0g (or_congr z0g ?_);constructor
 ·rintro⟨t,n,o,q⟩;rw[Fa]at n;obtain⟨s,m,rfl⟩:=x4y.1 n;obtain⟨r,u⟩:=JS h l s m;exact⟨s.src,s.dst,⟨s,m,rfl,rfl⟩,fun v=>o ((NP h l r u).2 v),q⟩
 ·rintro⟨a,b,⟨s,m,rfl,rfl⟩,o,q⟩;obtain⟨r,u⟩:=JS h l s m;exact⟨ixP p j f (QJ f.body+2:Nat) s,by rw[Fa];exact x4y.2 ⟨s,m,rfl⟩,fun y=>o ((NP h l r u).1 y),q⟩
def Nt{l:List Int}:l∈trapsW (QQ p j f) f ↔ ∃i:Nat,i<QJ f.body+2/\DP p j f i=i/\(Ff (QJ f.body+2) (UB (QQ p j f) f) (prsW (QQ p j f) f)).getD i false=false/\l=BQ (QF p j (QJ f.body+2:Nat)) (UB (QQ p j f) f) i (QJ f.body+2):=by
 unfold trapsW Z2;rw[Tw];constructor
 .intro q;obtain⟨i,o,rfl⟩:=x4y.1 q;obtain⟨m,h⟩:=x5h.1 o;unfold J2 at h;rw[x4n,x8u,x7w,Wa]at h;exact⟨i,x5a.1 m,h.1,h.2,rfl⟩
 .rintro ⟨i,m,h,n,rfl⟩;refine x4y.2 ⟨i,x5h.2 ⟨x5a.2 m,?_⟩,rfl⟩;unfold J2;rw[x4n,x8u,x7w,Wa];exact⟨h,n⟩
theorem q1v(h:QL p=true)(r:p.A[j]?=some f)(u:i<QJ f.body+2)(s:DP p j f i=i)(b:Int):
  b∈BQ (QF p j (QJ f.body+2:Nat)) (UB (QQ p j f) f) i (QJ f.body+2)↔plP p j f b/\sccP (wR p j f) (QF p j (QJ f.body+2:Nat) i) b:=by
 obtain⟨o,q⟩:=BS (p:=p) (j:=j) (f:=f) (i:=i) (by omega);rw[EN];constructor
 ·rintro⟨k,l,m,rfl⟩;obtain⟨n,t⟩:=BS (p:=p) (j:=j) (f:=f) (i:=k) (by omega);refine⟨n,(NP h r o n).1 ?_⟩;rw[q,t,s,<-Wa,m]
 ·rintro⟨l,m⟩;have n:=WU l;refine⟨(ixI p j f b).toNat,by omega,?_,?_⟩
  ·rw[Wa,show(((ixI p j f b).toNat:Nat):Int)=ixI p j f b by omega,<-(NP h r o l).2 m,q,s]
  ·rw[show(((ixI p j f b).toNat:Nat):Int)=ixI p j f b by omega,Fs l]
theorem EM(h:QL p=true)(o:p.A[j]?=some f){l:List Int}(d:l∈trapsW (QQ p j f) f):∃r,TrapP p j f l r:=by
 obtain⟨i,w,x,e,rfl⟩:=Nt.1 d;obtain⟨t,y⟩:=BS (p:=p) (j:=j) (f:=f) (i:=i) (by omega);have m:¬_:=fun g=>by
  have:=(q4s h o w).2 g;rw[e]at this;cases this
 have n:DP p j f (ixI p j f (QF p j (QJ f.body+2:Nat) i))=i:=by rw[y,x]
 refine⟨_,t,q1v h o w x,fun b c v q=>?_,fun u=>m (.inl ?_),fun u=>m (.inr (.inl ?_))⟩
 ·have z:=q8n h o q;by_cases s:sccP (wR p j f) b c
  ·exact v.trans s
  ·refine absurd (.inr (.inr ⟨b,c,q,s,?_⟩)) m;rw[<-(NP h o t z.1).2 v,n]
 ·rw[<-(NP h o t pl0).2 u,n]
 ·rw[<-(NP h o t pl1).2 u,n]
end
theorem Fe{p:Pg}{j:Nat}{f:Pr}(o:p.A[j]?=some f)(n:cntP p.A<=200):(QQ p j f).real.length<=100000:=by
 obtain⟨_,_,_,l,h⟩:=QU p;obtain⟨_,_,q,_⟩:=h j f o;have r:=Pn (QN p j f);have m:=Zs p j f;show(VY (QN p j f)).length<=100000;omega
theorem T6{p:Pg}(h:QL p=true){j:Nat}{f:Pr}(q:p.A[j]?=some f):∀m∈itsOf p j f,∀s∈fOf m,okSt s:=fun m o s l=>by
 obtain⟨w,_⟩:=QB h;obtain⟨_,_,u⟩:=XF h;obtain⟨_,_,_,r,n⟩:=QU p;obtain⟨_,_,v,_⟩:=n j f q;have x:=UU w q (DY o);have t:=(Y0 o).1;unfold fOf at l;split at l
 ·rw[x4w.1 l];unfold okI at t;unfold okSt;constructor
  ·show m.s.id≠_;omega
  ·show m.next≠_;omega
 ·cases l
def TQ{p:Pg}(h:QL p=true){j:Nat}{f:Pr}(t:p.A[j]?=some f){l:List Int}(s:l∈trapsW (QQ p j f) f):l.length<=QJ f.body+2/\∀id∈l,(QS p.A j:Int)+1<=id/\id<=(QS p.A j+QJ f.body:Nat):=by
 constructor
 .obtain ⟨i,_,_,_,rfl⟩:=Nt.1 s;exact Nr _ _ _ _
 .intro id n;obtain⟨r,o⟩:=EM h t s;obtain⟨m,q⟩:=(o.mem id).1 n;rcases m with rfl|rfl|m
  .exact absurd q o.n0
  .exact absurd q o.nx
  .exact m
theorem q2e{p:Pg}(h:QL p=true){j:Nat}{f:Pr}(m:p.A[j]?=some f):WayT (QQ p j f) f (QJ f.body+2):=by
 obtain⟨_,_,n⟩:=XF h;obtain⟨_,_,_,r,q⟩:=QU p;obtain⟨_,_,v,_⟩:=q j f m;refine⟨rfl,m,by show cntP p.A<=1000;omega,by omega,by omega,x5y (Fe m n) (by decide),q2b h m,?_,fun l u=>?_,fun s w=>(U1 h m).2.2 s (((Q5 h m).2 s).1 w),T6 h m⟩
 ·have:=Nl (QF p j (QJ f.body+2:Nat)) (UB (QQ p j f) f) (Ff (QJ f.body+2) (UB (QQ p j f) f) (prsW (QQ p j f) f)) (QJ f.body+2);have e:trapsW (QQ p j f) f=Z2 (QF p j (QJ f.body+2:Nat)) (UB (QQ p j f) f) (Ff (QJ f.body+2) (UB (QQ p j f) f) (prsW (QQ p j f) f)) (QJ f.body+2):=by
   unfold trapsW;rw[Tw];rfl
  rw[e];omega
 ·obtain⟨x,t⟩:=TQ h m u;refine⟨by omega,fun id o=>?_⟩;have:=t id o;show 1<=id/\id<=(sheetOf p).l.length;omega
instance (a b:Step):Decidable (Xk a b):=inferInstanceAs (Decidable (_\/_))
instance:DecidableEq Step:=fun a b=>decidable_of_iff (a.src=b.src/\a.dst=b.dst/\a.kind=b.kind) ⟨fun h=>GV h.1 h.2.1 h.2.2,fun h=>by rw[h];exact⟨rfl,rfl,rfl⟩⟩
theorem q5x{a b:Step}(ha:okSt a)(l:okSt b)(h:DO b a=false):(a.src=b.src/\a.dst=b.dst/\a.kind<=b.kind)\/Xk a b:=by
 rw[z0w,ne_eq,GR]at h;unfold Xk;by_cases m:XK a.src=XK b.src
 ·by_cases n:XK a.dst=XK b.dst
  ·exact .inl ⟨YN ha.1 l.1 m,YN ha.2 l.2 n,by omega⟩
  ·exact .inr (by omega)
 ·exact .inr (by omega)
theorem Zy:∀(l:List Step)(a:Step),okSt a->(∀s∈l,okSt s)->(a::l).Pairwise (fun a b=>DO b a=false)->
  (∀s∈XZ a l,Xk a s)/\(XZ a l).Pairwise Xk/\(∀s∈XZ a l,s∈l)/\∀s∈l,(s.src=a.src/\s.dst=a.dst/\a.kind<=s.kind)\/∃s'∈XZ a l,s'.src=s.src/\s'.dst=s.dst/\s'.kind<=s.kind
 |[],a,_,_,_=>by simp[XZ]
 | b::r,a,ha,hl,h=>by
   have x:=hl b x4z;have A:∀s∈r,okSt s:=fun s o=>hl s (x4x _ o);rw[x6t]at h;obtain⟨d,e⟩:=h;obtain⟨v,y,z,c⟩:=Zy r b x A e;have t:=q5x ha x (d b x4z);rw[XZ];cases o:ZH b a with
   | true=>
     unfold ZH at o;simp only[x4n,x5k]at o;have g:a.kind<=b.kind:=by
      rcases t with n|n
      ·exact n.2.2
      ·unfold Xk at n;rw[o.1,o.2]at n;omega
     rw[x4s];refine⟨fun s m=>?_,y,fun s m=>x4x _ (z s m),fun s m=>?_⟩
     ·have:=v s m;unfold Xk at this⊢
      rwa[<-o.1,<-o.2]
     ·rcases x4v.1 m with rfl|m
      ·exact .inl ⟨o.1,o.2,g⟩
      ·rcases c s m with⟨n,q,w⟩|n
       ·exact .inl ⟨by rw[n,o.1],by rw[q,o.2],by omega⟩
       ·exact .inr n
   | false=>
     have u:Xk a b:=by
      rcases t with n|n
      ·unfold ZH at o;simp[n.1,n.2.1]at o
      ·exact n
     rw[x5q];refine⟨fun s m=>?_,x6t.2 ⟨v,y⟩,fun s m=>?_,fun s m=>?_⟩
     ·rcases x4v.1 m with rfl|m
      ·exact u
      ·exact Xg u (v s m)
     ·rcases x4v.1 m with rfl|m
      ·exact x4z
      ·exact x4x _ (z s m)
     ·rcases x4v.1 m with rfl|m
      ·exact .inr ⟨s,x4z,rfl,rfl,Int.le_refl _⟩
      ·rcases c s m with⟨n,q,w⟩|⟨s',n,q⟩
       ·exact .inr ⟨b,x4z,n.symm,q.symm,w⟩
       ·exact .inr ⟨s',x4x _ n,q⟩
def GB{l:List Step}(v:∀s∈l,okSt s):(VY l).Pairwise Xk/\(∀s∈VY l,s∈l)/\∀s∈l,∃s'∈VY l,s'.src=s.src/\s'.dst=s.dst/\s'.kind<=s.kind:=by
 have o:∀s,s∈KF l↔s∈l:=fun s=>(Yo l).mem_iff;have q:=Qk l;unfold VY;cases w:KF l with
 | nil=>
   rw[w]at o;refine⟨by simp[NV],by simp[NV],fun s q=>?_⟩;have:=(o s).2 q;cases this
 | cons a r=>
   rw[w]at o q;have n:∀s∈a::r,okSt s:=fun s h=>v s ((o s).1 h);obtain⟨x,y,z,b⟩:=Zy r a (n a x4z) (fun s h=>n s (x4x _ h)) q;rw[NV];refine⟨x6t.2 ⟨x,y⟩,fun s m=>?_,fun s m=>?_⟩
   .rcases x4v.1 m with rfl|m
    .exact (o s).1 x4z
    .exact (o s).1 (x4x _ (z s m))
   .rcases x4v.1 ((o s).2 m)with rfl|m
    .exact ⟨s,x4z,rfl,rfl,Int.le_refl _⟩
    .rcases b s m with⟨t,u,c⟩|⟨s',t,u⟩
     .exact ⟨a,x4z,t.symm,u.symm,c⟩
     .exact ⟨s',x4x _ t,u⟩
theorem AX{l:List Step}(h:l.Pairwise Xk){a b:Step}(ha:a∈l)(u:b∈l)(s:a.src=b.src)(t:a.dst=b.dst):a=b:=by
 have w:∀{x y:Step},x.src=y.src->x.dst=y.dst->¬Xk x y:=fun {x y} q e2 o=>by
  unfold Xk at o;rw[q,e2]at o;omega
 induction h with
 |nil=>cases ha
 | @cons c r v d z=>
   rcases x4v.1 ha with q|n
   ·rcases x4v.1 u with e2|m
    ·rw[q,e2]
    ·exact absurd (v b m) (by rw[<-q];exact w s t)
   ·rcases x4v.1 u with e2|m
    ·exact absurd (v a n) (by rw[<-e2];exact w s.symm t.symm)
    ·exact z n m
theorem T7{l m:List Step}(u:∀s∈l,okSt s)(x:m.Pairwise Xk)(y:∀s∈m,s∈l)(z:∀s∈l,∃s'∈m,s'.src=s.src/\s'.dst=s.dst/\s'.kind<=s.kind):VY l=m:=by
 obtain⟨g1,v,w⟩:=GB u;refine Gd g1 x fun s=>⟨fun o=>?_,fun o=>?_⟩
 ·obtain⟨a,ha,h,n,c⟩:=z s (v s o);obtain⟨b,t,q,r,d⟩:=w a (y a ha);have:=AX g1 t o (q.trans h) (r.trans n);subst this;have:a=b:=GV h n (by omega);rw[<-this];exact ha
 ·obtain⟨a,ha,h,n,c⟩:=w s (y s o);obtain⟨b,t,q,r,d⟩:=z a (v a ha);have:=AX x t o (q.trans h) (r.trans n);subst this;have:a=b:=GV h n (by omega);rw[<-this];exact ha
def q7i:(QQ someP 1 f1).real=[⟨0,5,1⟩,⟨5,6,1⟩,⟨6,7,1⟩,⟨6,8,1⟩,⟨7,-1,1⟩,⟨8,-1,1⟩]:=q7t
def q7e:(QQ someP 0 f0).real=[⟨0,1,1⟩,⟨1,2,1⟩,⟨2,3,1⟩,⟨3,4,1⟩,⟨4,-1,1⟩]:=q7r
def q8e:prsW (QQ someP 1 f1) f1=[(0,1),(1,2),(2,3),(2,4),(3,5),(4,5)]:=by
 unfold prsW;rw[q7i]
 kernel_rfl
def q8a:prsW (QQ someP 0 f0) f0=[(0,1),(1,2),(2,3),(3,4),(4,5)]:=by
 unfold prsW;rw[q7e]
 kernel_rfl
def q8u:trapsW (QQ someP 1 f1) f1=[]:=by
 unfold trapsW UB;rw[q8e]
 kernel_rfl
def q8v:trapsW (QQ someP 0 f0) f0=[]:=by
 unfold trapsW UB;rw[q8a]
 kernel_rfl
def q9j:LX (QQ someP 1 f1) f1=[⟨0,5,1⟩,⟨5,6,1⟩,⟨6,7,1⟩,⟨6,8,1⟩,⟨7,-1,1⟩,⟨8,-1,1⟩]:=by
 unfold LX WQ;rw[q8u,q7i];exact T7 (by unfold okSt;decide) (by decide) (by decide) (by decide)
theorem OY{p:Pg}(h:QL p=true){j:Nat}{f:Pr}(l:p.A[j]?=some f){a:Int}:¬wR p j f a 0:=fun⟨s,n,_,o⟩=>by
 have m:=((U1 h l).2.1 s (((Q5 h l).2 s).1 n)).2;unfold okI at m;omega
def q5g{p:Pg}(h:QL p=true){j:Nat}{f:Pr}(m:p.A[j]?=some f){t:S}(q:t∈flL f.body):Li p t.id=some t:=by
 have o:=UU (QB h).1 m q;obtain⟨u,v,n,r⟩:=D6 h m o.1 o.2;obtain⟨w,s,rfl⟩:=q7f (p:=p) (j:=j) q;obtain⟨x,l,rfl⟩:=q7f (p:=p) (j:=j) v;rw[q2v (QB h).1 m l s r]at n;exact n
def PZ{p:Pg}(h:QL p=true){j:Nat}{f:Pr}(q:p.A[j]?=some f){s:Step}:s∈WQ (QQ p j f) f ↔ ∃l∈trapsW (QQ p j f) f,∃t∈flL f.body,t.id∈l/\t.kind=10/\s=⟨t.id,-1,3⟩:=by
 unfold WQ;constructor
 .intro m;obtain⟨l,o,m⟩:=x4a.1 m;obtain⟨id,n,m⟩:=x4a.1 m;have w:=(TQ h q o).2 id n;obtain⟨t,u,x,v⟩:=D6 h q w.1 w.2;have e:(QQ p j f).p=p:=rfl;unfold vOf at m;rw[e,x]at m;simp only at m;split at m
  .rename_i r;exact⟨l,o,t,u,by rw[v];exact n,r,by rw[v];simpa using m⟩
  .cases m
 .rintro ⟨l,o,t,u,n,r,rfl⟩;refine x4a.2 ⟨l,o,x4a.2 ⟨t.id,n,?_⟩⟩;have e:(QQ p j f).p=p:=rfl;unfold vOf;rw[e,q5g h q u];simp[r]
def Hs{p:Pg}(h:QL p=true){j:Nat}{f:Pr}(l:p.A[j]?=some f):∀s∈WQ (QQ p j f) f++(QQ p j f).real,okSt s:=fun s m=>
 (x4g.1 m).elim ((q2e h l).virt_ok s) ((q2e h l).hok s)
def CY{p:Pg}(h:QL p=true){j:Nat}{f:Pr}(o:p.A[j]?=some f){s:Step}(q:s∈WQ (QQ p j f) f++(QQ p j f).real):stR (LX (QQ p j f) f) s.src s.dst:=by
 obtain⟨s',l,m,n,_⟩:=(GB (Hs h o)).2.2 s q;exact⟨s',l,m,n⟩
theorem Ht{p:Pg}(h:QL p=true){j:Nat}{f:Pr}(n:p.A[j]?=some f):(LX (QQ p j f) f).length<=200000:=by
 obtain⟨_,_,q⟩:=XF h;obtain⟨_,_,_,v,r⟩:=QU p;obtain⟨_,_,b,_⟩:=r j f n;obtain⟨w,x,_⟩:=GB (Hs h n);have y:=LE (l:=LX (QQ p j f) f) (m:=(QQ p j f).real++(Qn (QS p.A j) (QJ f.body)).map fun id=>⟨id,-1,3⟩) (T2 w) fun s c=>by
  rcases x4g.1 (x s c)with o|o
  ·obtain⟨l,B,t,d,z,g,rfl⟩:=(PZ h n).1 o;have u:=UU (QB h).1 n d;exact x4g.2 (.inr (x4y.2 ⟨t.id,RG u.1 u.2,rfl⟩))
  ·exact x4g.2 (.inl o)
 rw[x3o,x3a]at y;have o:=Fe n q;have e:(Qn (QS p.A j) (QJ f.body)).length=QJ f.body:=by unfold Qn;simp
 omega
theorem Wr.u64{n:Int}{K:Int->Prop}(m:0<=n)(o:n<=18446744073709551615)(l:K n):Wr .u64 n K:=
 .fit ⟨by simp[IntKind.min,IntKind.signed];omega,by simp[IntKind.max,IntKind.signed,IntKind.bits];omega⟩ l
def Cb{P:Program}{g:Bool}{s:St}{o:Oper}{K:LV->Prop}{t u:TypeId}{x y:Operand}(q:o.op=.binOp .shr t x y u){a:Int}(ha:0<=a)(B:QD s.sl x=.p (.int .u64 a))(C:QD s.sl y=.p (.int .u64 1)){m:Int}(e:m=a/2)(c:K (.p (.int .u64 m))):ValO P g s o K:=by
 subst e;refine⟨fun σ β D w r _=>⟨_,.int .u64 (a/2),c,.p (.int _ _),fun w' _ _=>?_⟩⟩;have h:=QX r x;have l:=QX r y;rw[B]at h;rw[C]at l;cases h with
 | p h=>
   cases l with
   | p l=>
     have key:∀(n:Int)(v:Value),Rep σ (.int .u64 n) v->v=.int .u64 n:=fun n v A=>by
      cases A;rfl
     have z:=key _ _ h;have e2:=key _ _ l;have b:a.fdiv (2^1)=a/2:=Int.fdiv_eq_ediv_of_nonneg _ (by decide);have d:(eqGuard .shr t x y (.int .u64 a) (.int .u64 1)).run P w'=.ok () w':=by unfold eqGuard;rfl
     simp only[execOp,q,z,e2,Sem.run_bind,d,Result.andThen_ok,binOp,Op.shift];rw[if_neg (by decide)];simp only[show min (1:Int).toNat IntKind.u64.bits=1 by decide,b];rfl
theorem WN(l m:List Str):aP 107 [eStrs l,eStrs m] (.bool (decide (l=m))):=by
 refine sC YA func107 ?_;conv=>whnf
 have y:(l.map AV.str).length=l.length:=x3a _;have z:(m.map AV.str).length=m.length:=x3a _;repeat' ((first|(refine iM fun _=>?_)|(apply bE<;>intro _<;>try omega))<;>conv=>whnf)
 all_goals first
  |exact RetK.ff (x5r fun h=>by subst h;omega)
  |skip
 have w:l.length=m.length:=by omega
 refine lI (fun j:Nat=>⟨[(0,.p (eStrs l)),(1,.p (eStrs m)),(12,.p (.int .i64 (l.map AV.str).length)),(13,.j j)],[]⟩) (fun j=>j<=l.length/\l.take j=m.take j) (fun j=>l.length-j) 0 ⟨x4j _,rfl⟩ ?_;rintro j ⟨b,o⟩;rcases x4f j l.length with n|n
 ·have s:j<m.length:=by omega
  have v:l[j]=m[j]->l.take (j+1)=m.take (j+1):=fun r=>by rw[x4k n,x4k s,o,r]
  have u:l[j]≠m[j]->¬l=m:=fun t r=>t (by subst r;rfl);conv=>whnf
  repeat' ((first|refine dA ?_|(refine gX ?_;intros)|((first|apply bD|apply bN)<;>intro _<;>try omega))<;>conv=>whnf)
  all_goals first
   | (have q:l[j]=m[j]:=eq_of_beq (by assumption)
      exact nX (j+1) ⟨n,v q⟩)
   | (have q:¬l[j]=m[j]:=by
       have x:(l[j]==m[j])=false:=by assumption
       simpa using x
      exact RetK.ff (x5r (u q)))
 ·rw[x4b n,x4b (by omega)]at o;conv=>whnf
  repeat' (apply bD<;>intro _<;>first|omega|conv=>whnf)
  all_goals exact RetK.tt (x5n o)
def UO(a:Str):aP 181 [.str a] (.bool false):=by
 refine sC PL func181 ?_;conv=>whnf
 skip
 all_goals exact RetK.bool (by simp)
def PG(a:Str):aP 232 [.str a] (.bool false):=by
 refine sC HO func232 ?_;conv=>whnf
 skip
 all_goals exact RetK.bool (by simp)
theorem W7(a b:Str):aP 197 [.str a,.str b] (.bool (Op.bytesLess a b)):=by
 refine sC MW func197 ?_;conv=>whnf
 repeat' ((first|refine cP (UO a) ?_|(apply bB<;>intro _))<;>conv=>whnf)
 all_goals first
  |contradiction
  |exact RetK.p rfl
theorem UW(l:List Str)(x:Str)(K:l.Pairwise ltT)(G:l.length<=1000000000):SpecP prog 179 [eStrs l,.str x] (fun r=>∃k:Int,r=.tup [.int .i64 k,.bool (inS l x)]):=by
 refine sC VW func179 ?_;conv=>whnf
 have C:(l.map AV.str).length=l.length:=x3a _;repeat' ((refine iM fun _=>?_)<;>conv=>whnf)
 refine lJ (fun y:Nat×Nat=>⟨[(0,.p (eStrs l)),(1,.p (.str x)),(6,.p (.int .i64 (l.map AV.str).length)),(7,.j y.1),(8,.j y.2)],[]⟩) (fun y=>y.1<=y.2/\y.2<=l.length/\(∀(k:Nat)(h:k<l.length),k<y.1->ltT l[k] x)/\∀(k:Nat)(h:k<l.length),y.2<=k->¬ltT l[k] x) (fun y=>y.2-y.1) (0,l.length) (Le.of_eq (by rw[C];rfl)) ⟨x4j _,x4m _,fun k h w=>by simp only at w;omega,fun k h w=>by simp only at w;omega⟩ ?_;rintro⟨i,j⟩ ⟨w,D,d,g⟩;simp only at w D d g⊢;have v:∀(a b:Nat)(ha:a<l.length)(E:b<l.length),a<b->ltT l[a] l[b]:=fun a b ha E A=>x7i.1 K a b ha E A;rcases x4f i j with B|B
 ·have F:(i+j)/2<l.length:=by omega
  have I:=W7 l[(i+j)/2] x;conv=>whnf
  repeat' ((first|(refine gX ?_;intros)|refine Wr.u64 (by omega) (by omega) ?_|refine Cb rfl (by omega) rfl rfl (m:=(((i+j)/2:Nat):Int)) (by omega) ?_|refine cP I ?_|((first|apply bD|apply bB)<;>intro _<;>try omega))<;>conv=>whnf)
  all_goals first
   | (have s:Op.bytesLess l[(i+j)/2] x=true:=by assumption
      refine nX ((i+j)/2+1,j) ⟨by simp only;omega,D,fun k t u=>?_,g⟩;simp only at u;rcases x4f k ((i+j)/2)with n|n
      ·exact ltT.trans _ _ _ (v _ _ t F n) s
      ·have:k=(i+j)/2:=by omega
       subst this;exact s)
   | (have s:Op.bytesLess l[(i+j)/2] x=false:=by assumption
      have z:¬ltT l[(i+j)/2] x:=fun h=>by unfold ltT at h;rw[s]at h;cases h
      refine nX (i,(i+j)/2) ⟨by simp only;omega,by simp only;omega,d,fun k t u c=>?_⟩;simp only at u;rcases x4f ((i+j)/2) k with n|n
      ·exact z (ltT.trans _ _ _ (v _ _ F t n) c)
      ·have:k=(i+j)/2:=by omega
       subst this;exact z c)
 ·obtain rfl:i=j:=by omega
  rcases x4f i l.length with e|e
  ·have o:inS l x=(l[i]==x):=by
    rw[x8s,HU,x8u];constructor
    ·intro L;obtain⟨k,t,rfl⟩:=x6u.1 L;rcases Nat.lt_trichotomy k i with q|q|q
     ·exact absurd (d k t q) (ltT.irr _)
     ·subst q;rfl
     ·exact absurd (v i k e t q) (g i e (x4m _))
    ·intro q;rw[<-q];exact x4h e
   have J:=PG l[i];conv=>whnf
   repeat' ((first|(refine iA fun _=>?_)|refine cP J ?_|((first|apply bD|apply bB)<;>intro _<;>try omega))<;>conv=>whnf)
   all_goals first
    |(exfalso;omega)
    |(exfalso;simp_all;done)
    | (have s:inS l x=true:=by rw[o];assumption
       exact⟨_,.p (Sub.tup (.cons (Sub.refl _) (.cons (Sub.tt s) .nil))),_,rfl⟩)
    | (have s:inS l x=false:=by rw[o];assumption
       exact⟨_,.p (Sub.tup (.cons (Sub.refl _) (.cons (Sub.ff s) .nil))),_,rfl⟩)
  ·have o:inS l x=false:=by
    cases q:inS l x with
    |false=>rfl
    | true=>
      obtain⟨k,t,H⟩:=x6u.1 (HU.1 q);exact absurd (d k t (by omega)) (by rw[H];exact ltT.irr _)
   conv=>whnf
   repeat' (apply bD<;>intro _<;>first|omega|conv=>whnf)
   all_goals first
    |(exfalso;omega)
    |exact⟨_,.p (Sub.tup (.cons (Sub.refl _) (.cons (Sub.ff o) .nil))),_,rfl⟩
    |exact⟨_,.p (Sub.refl _),_,by rw[o];rfl⟩
def BL(l:List Str)(x:Str)(n:l.Pairwise ltT)(h:l.length<=1000000000):aP 131 [eStrs l,.str x] (.bool (inS l x)):=by
 refine sC TF func131 ?_;conv=>whnf
 have m:=UW l x n h;repeat' ((refine CallK.pure m (.cons (Sub.refl _) (.cons (Sub.refl _) .nil)) ?_;rintro _ ⟨k,rfl⟩)<;>conv=>whnf)
 all_goals first
  |exact RetK.p rfl
end Go.Ab
