/- way: which place follows which, walked. -/
import Derived.Test.YtgpjfppgphaobaaGreatHasA15
set_option linter.all false
set_option maxRecDepth 100000
set_option maxHeartbeats 16000000
namespace Go.Ab
open Go.Proofs.Tryz
open Go.Proofs
variable {N' a i k:Nat}{sl:List (Nat×LV)}
def Sa{N:Nat}{H1 s:Heap}{e e2:TypeId}{sz:Nat}{rows rows':List (List AV)}{l:List Nat}(v:rows'.length=rows.length)(Z:∀(a:Nat)(n:List AV),rows'[a]?=some n->∃row,rows[a]?=some row/\ElS row n):
  Le N ⟨sl,H1++(k,.ext (.mat e e2 sz rows l))::s⟩ ⟨sl,H1++(k,.ext (.mat e e2 sz rows' l))::s⟩:=fun σ β a w h=>by
 have t:(H1++(k,Chunk.ext (.mat e e2 sz rows' l))::s).map (·.1)=(H1++(k,Chunk.ext (.mat e e2 sz rows l))::s).map (·.1):=by simp
 refine⟨σ,β,⟨h.size,h.defers,h.E,⟨h.heap.mem,fun j c' q=>?_,by show((H1++(k,Chunk.ext (.mat e e2 sz rows' l))::s).map (·.1)).Nodup;rw[t];exact h.heap.nodup,fun j q=>h.heap.apart j (by rw[<-t];exact q),fun j q j' d=>h.heap.inj j (by rw[<-t];exact q) j' (by rw[<-t];exact d)⟩⟩,Mem.le_refl σ,Frm.refl _ w,fun b M o=>absurd M o,fun b ⟨j,q,r⟩=>.inl ⟨j,by rw[<-t];exact q,r⟩,fun _ _ _=>rfl⟩;rcases x1s.1 q with o|o
 .exact h.heap.chunks j c' (x1s.2 (.inl o))
 rcases x1p.1 o with O|o;rotate_left 1
 .exact h.heap.chunks j c' (x1s.2 (.inr (x1d _ o)))
 cases O;rcases h.heap.chunks k _ (x1s.2 (.inr x1f))with⟨g1,y⟩|⟨i,vs,V,g1,y,G,H,I,J,K,L⟩
 .refine .inl ⟨g1,?_⟩;rw[y]at v;exact x3j v
 .refine .inr ⟨i,vs,V,g1,y,G,by rw[v];exact H,I,by rw[v];exact J,K,fun B n ha=>?_⟩;obtain⟨row,P,z,Q⟩:=Z B n ha;obtain⟨R,T⟩:=L B row P;refine⟨R,fun Y=>?_⟩;rcases T Y with⟨g,rfl,A⟩|⟨b,c,ws,g,q2,A,q4,q5,q6,C⟩
  .exact .inl ⟨g,x3j z,A⟩
  .refine .inr ⟨b,c,ws,g,by rw[z];exact q2,A,q4,by rw[z];exact q5,q6,fun m x' hx=>?_⟩;obtain⟨x,D,r2,r3⟩:=Q m x' hx;refine⟨by rw[r2];exact(C m x D).1,fun p c' U=>?_⟩;obtain⟨F,r4,r5⟩:=r3 p c' U;obtain⟨u,r6,r7⟩:=(C m x D).2 p F r4;exact⟨u,r6,r5 _ _ r7⟩
def nxE(rows:List (List Int))(t:Int×Int):List (List Int):=rows.set t.1.toNat (rows.getD t.1.toNat []++[t.2])
def UG(n:Nat)(l:List (Int×Int)):List (List Int):=l.foldl nxE (List.replicate n [])
def WY(w:Way)(f:Pr):List (Int×Int):=(Ty w f).map (ixP w.p w.j f w.n)
def CS(rows:List (List Int))(t:Int×Int):(nxE rows t).length=rows.length:=x3f
theorem Dn:∀(l:List (Int×Int))(rows:List (List Int)),(l.foldl nxE rows).length=rows.length
 |[],_=>rfl
 |t::r,rows=>by rw[x4d,Dn r,CS]
def FV(n:Nat)(l:List (Int×Int)):(UG n l).length=n:=by
 unfold UG;rw[Dn,x3v]
theorem Dp:∀(l:List (Int×Int))(rows:List (List Int))(a:Nat),((l.foldl nxE rows).getD a []).length<=(rows.getD a []).length+l.length
 |[],_,_=>x2q _
 | t::r,rows,a=>by
   rw[x4d];have n:=Dp r (nxE rows t) a;have o:((nxE rows t).getD a []).length<=(rows.getD a []).length+1:=by
    unfold nxE;simp only[x1g,x7m];by_cases h:t.1.toNat=a
    ·subst h;by_cases m:t.1.toNat<rows.length
     ·simp[m]
     ·simp[m]
    ·simp[h]
   rw[x2r];omega
theorem MB(n:Nat)(l:List (Int×Int))(a:Nat):((UG n l).getD a []).length<=l.length:=by
 have:=Dp l (List.replicate n []) a;have e:((List.replicate n ([]:List Int)).getD a []).length=0:=by
  rw[x1g,x2n];split<;>rfl
 unfold UG;omega
theorem Lb{n:Nat}:∀(l:List (Int×Int)),(∀t∈l,(0<=t.1/\t.1<n)/\0<=t.2/\t.2<n)->∀(rows:List (List Int)),(∀r∈rows,∀x∈r,0<=x/\x<n)->∀r∈l.foldl nxE rows,∀x∈r,0<=x/\x<(n:Int)
 |[],_,rows,hr=>hr
 | t::l,hl,rows,hr=>by
   rw[x4d];refine Lb l (fun u q=>hl u (x1d _ q)) _ fun r m x h=>?_;unfold nxE at m;rcases x4k m with m|rfl
   .exact hr r m x h
   .rcases x1s.1 h with h|h
    .rw [x1g]at h;cases o:rows[t.1.toNat]?with
     |none=>rw[o]at h;cases h
     |some r=>rw[o]at h;exact hr r (x1o o) x h
    .rcases x1n.1 h with rfl;exact(hl t x1f).2
def It(n:Nat)(l:List (Int×Int))(h:∀t∈l,(0<=t.1/\t.1<n)/\0<=t.2/\t.2<n):∀r∈UG n l,∀x∈r,0<=x/\x<(n:Int):=
 Lb l h _ fun r o x m=>by rw[x3b o]at m;cases m
def C6(n a:Nat):List (List Bool):=((List.range n).map (filRow n)).take a++List.replicate (n-a) []
def Lk(n a b:Nat):List Bool:=(filRow n a).take b++List.replicate (n-b) false
theorem ER{n b:Nat}(h:b<=n):(Lk n a b).length=n:=by
 unfold Lk;have:=DX n a;simp;omega
theorem ET{n b:Nat}(h:b<n):((Lk n a b).map bv).set b (bv (decide (a<n-1)||decide (a=b)))=(Lk n a (b+1)).map bv:=by
 rw[<-x2s];congr 1;unfold Lk;have m:((filRow n a).take b).length=b:=by have:=DX n a;simp;omega
 have l:(filRow n a)[b]?=some (decide (a<n-1)||decide (a=b)):=by unfold filRow;simp[h]
 rw[x4l _ _ (by omega),m,x5g,show n-b=(n-(b+1))+1 by omega,x5h,x5q,List.take_add_one,l,x2w];rfl
def EL(n a:Nat):Lk n a n=filRow n a:=by
 unfold Lk;rw[x5g,x1i (by rw[DX];exact x2q _)];simp
theorem Sub.bv{b x:Bool}(h:b=x):Sub (.bool b) (bv x):=fun _ _ l=>by
 subst h;cases b<;>cases l<;>constructor
theorem ElS.set{es:List AV}{b:Nat}{c c':AV}(t:c.cells=[c])(o:c'.cells=[c'])(h:Sub c c'):ElS (es.set b c) (es.set b c'):=by
 refine⟨by rw[x3f,x3f],fun m v q=>?_⟩;by_cases r:b=m
 .subst r;have u:b<es.length:=by have:=(x1m.1 q).1;simpa using this
  rw[x2t u]at q;cases q;refine⟨c,by rw[x2t u],by rw[t,o];rfl,fun j d l=>?_⟩;rw[o]at l
  match j,l with
  |0,l=>cases l;exact⟨c,by rw[t];rfl,h⟩
  |j+1,l=>simp at l
 .rw [x2a r]at q;exact⟨v,by rw[x2a r];exact q,rfl,fun j d l=>⟨d,l,Sub.refl _⟩⟩
def x0h{R:List (List AV)}{r s:List AV}(h:ElS r s):∀(n:Nat)(l:List AV),(R.set a s)[n]?=some l->∃row,(R.set a r)[n]?=some row/\ElS row l:=fun n l m=>by
 by_cases o:a=n
 .subst o;have q:a<R.length:=by have:=(x1m.1 m).1;simpa using this
  rw[x2t q]at m;cases m;exact⟨r,x2t q,h⟩
 .rw [x2a o]at m;exact⟨l,by rw[x2a o];exact m,ElS.refl _⟩
theorem EN{n:Nat}(h:a<=n):(C6 n a).length=n:=by
 unfold C6;simp;omega
theorem EM{n:Nat}(h:a<n):(C6 n a).set a (filRow n a)=C6 n (a+1):=by
 unfold C6;have m:(((List.range n).map (filRow n)).take a).length=a:=by simp;omega
 have l:((List.range n).map (filRow n))[a]?=some (filRow n a):=by simp[h]
 rw[x4l _ _ (by omega),m,x5g,show n-a=(n-(a+1))+1 by omega,x5h,x5q,List.take_add_one,l,x2w];rfl
inductive SlRel(P:LV->LV->Prop):List (Nat×LV)->List (Nat×LV)->Prop
 |nil:SlRel P [] []
 |cons {j:Nat} {l l':LV} {r r':List (Nat×LV)} (h:P l l') (hr:SlRel P r r'):SlRel P ((j,l)::r) ((j,l')::r')
theorem SlRel.get{P:LV->LV->Prop}(o:P (.p .any) (.p .any)){m:List (Nat×LV)}(h:SlRel P sl m)(i:Nat):P (getS sl i) (getS m i):=by
 induction h with
 |nil=>exact o
 | @cons j l l' r u h t q=>
   simp only[getS];cases j==i with
   |true=>exact h
   |false=>exact q
def Te(w:Way)(n:Nat)(nx:List (List Int))(t:nx.length=n)(m o:AV):
  Le N' ⟨[(0,.p (.ip w.cells)),(3,.hd 0 0 n),(6,.hd 1 0 n),(46,.p m),(47,.p o)],[(1,.own 101 1 (List.replicate n .nils)),(0,.ext (.mat 56 3 1 (avI nx) []))]⟩
   ⟨[(0,.p (.ip w.cells)),(3,.p (eMat nx)),(6,.hd 1 0 n),(46,.p m),(47,.p o)],[(1,.ext (.mat 101 4 1 (List.replicate n []) []))]⟩:=by
 have q:=YS (N:=N') (sl:=[(0,.p (.ip w.cells)),(3,.hd 0 0 n),(6,.hd 1 0 n),(46,.p m),(47,.p o)]) (H:=[(1,.own 101 1 (List.replicate n .nils)),(0,.ext (.mat 56 3 1 (avI nx) []))])
  (H':=[(1,.ext (.mat 101 4 1 (List.replicate (List.replicate n AV.nils).length []) [])),(0,.ext (.mat 56 3 1 (avI nx) []))])
  1 4 1 (e:=101) (es:=List.replicate n .nils) rfl (fun x u=>x3b u) rfl rfl rfl rfl (by simp[JY])
 rw[x3v]at q;have s:(avI nx).length=n:=by unfold avI;rw[x1j,t]
 refine q.trans (Mi (k:=0) (e:=56) (e2:=3) (sz:=1) (rows:=avI nx) rfl (fun i=>?_) (by show [1].Sublist [1,0];decide) fun j c' r=>?_)
 .refine SlRel.get (P:=fun l l'=>l'=l.kill 0\/(l=.hd 0 0 (avI nx).length/\l'=.p (.sl ((avI nx).map .sl)))) (.inl rfl) ?_ i;exact .cons (.inl rfl) (.cons (.inr ⟨by rw[s],rfl⟩) (.cons (.inl rfl) (.cons (.inl rfl) (.cons (.inl rfl) .nil))))
 .rcases x1n.1 r with h;cases h;exact⟨by decide,x1f,rfl⟩
def EP(n:Nat):C6 n n=(List.range n).map (filRow n):=by
 unfold C6;rw[x5g,x1i (by simp)];simp
def Bz(n:Nat)(h:(sl.all fun x=>x.2.xfree 0)=true):
  Le N' ⟨sl,[(0,.own 56 1 (List.replicate n .nils))]⟩ ⟨sl,[(0,.ext (.mat 56 3 1 (List.replicate n []) []))]⟩:=by
 have l:=YS (N:=N') (sl:=sl) (H:=[(0,.own 56 1 (List.replicate n .nils))])
  (H':=[(0,.ext (.mat 56 3 1 (List.replicate (List.replicate n AV.nils).length []) []))])
  0 3 1 (e:=56) (es:=List.replicate n .nils) rfl (fun x m=>x3b m) rfl h rfl rfl (by simp[JY])
 simpa using l
theorem Jz(w:Way)(f:Pr)(n:Nat)(h:WayT w f n)(hp:∀t∈WY w f,(0<=t.1/\t.1<n)/\0<=t.2/\t.2<n)(H:(Ty w f).length<=1000000):SpecP prog 124 [.ip w.cells] (fun r=>∃fm:List (List Bool),FollowP n (UG n (WY w f)) fm/\r=.sl ((bmI fm).map .sl)):=by
 refine sC Zx func124 ?_;conv=>whnf
 have hwn:=h.hw;have hn5:=h.hn;have hn2:=h.hn2;have hA:=Yu w f n h;have hP:=WF w f h.hj h.hc (by omega) (Ty w f) H;have hpl:(avP (WY w f)).length=(WY w f).length:=by unfold avP;rw[x1j]
 have hpl2:(WY w f).length<=1000000:=by unfold WY;rw[x1j];exact H
 have hPe:(Ty w f).map (ixP w.p w.j f w.n)=WY w f:=rfl;rw[hPe]at hP;repeat' ((first|(refine gX ?_;intros)|refine x5i n (by omega) (by show 24*_<=140737488355328;omega) (by unfold maxLen;omega) ?_|refine cP hA ?_|refine cP hP ?_)<;>conv=>whnf)
 refine lJ (fun j:Nat=>⟨[(0,.p (.ip w.cells)),(3,.hd 0 0 n),(20,.p (.sl (avP (WY w f)))),(21,.p (.int .i64 (avP (WY w f)).length)),(22,.j j)],[(0,.ext (.mat 56 3 1 (avI (UG n ((WY w f).take j))) []))]⟩) (fun j=>j<=(WY w f).length) (fun j=>(WY w f).length-j) 0 (by
   refine Le.trans (Bz n rfl) ?_;exact lE (hH:=.cons rfl (.of_eq (by simp[avI,UG])) .nil)) (x1l _) ?_
 intro j h2;rcases x1a j (WY w f).length with P|P
 ·have M:(avP (WY w f))[j]?=some (.agg [.int .i64 (WY w f)[j].1,.int .i64 (WY w f)[j].2]):=by simp[avP,P]
  obtain⟨⟨Q,q2⟩,q3,q4⟩:=hp _ (x1c P);have u:UG n ((WY w f).take (j+1))=nxE (UG n ((WY w f).take j)) (WY w f)[j]:=by
   unfold UG;rw[x1t P,x5v];rfl
  have s:=FV n ((WY w f).take j);have z:=MB n ((WY w f).take j) (WY w f)[j].1.toNat;generalize(WY w f)[j]=t at M Q q2 q3 q4 u z;generalize UG n ((WY w f).take j)=rows at u s z⊢;obtain⟨a,ha⟩ : ∃a:Nat,t.1=a:=⟨t.1.toNat,by omega⟩;have L:a<rows.length:=by omega
  have o:(avI rows)[a]?=some (rows[a].map (.int .i64)):=by unfold avI;rw[x1b,x1k L];rfl
  have hput:(avI rows).set a (rows[a].map (.int .i64)++[.int .i64 t.2])=avI (nxE rows t):=by
   unfold nxE avI;rw[ha,x3z,x1g,x1k L,x2c,x2s,x1e];rfl
  have hcl:rows[a].length<=1000000:=by
   rw[ha,x3z,x1g,x1k L,x2c,x2d]at z;omega
  rw[ha]at M;conv=>whnf
  repeat' ((first|refine x2j rfl ?_|refine aD ?_|refine wI ?_|refine DrawK.of XG mixed (.cons 0 false (.cons 1 false (.cons 2 false (.cons 3 false (.cons 4 false (.cons 5 false (.cons 6 false (.cons 8 false (.cons 9 false (.alo 7 (.cons 10 true (.cons 11 true (.cons 12 true (.cons 13 true .nil)))))))))))))) (by kernel_rfl) ?_|refine iT M ?_|refine x3c 0 rfl (by decide) ?_|refine x3c 1 rfl (by decide) ?_|refine iO a ?_|refine x6w a _ (by omega) o (by simp) ?_|refine x6a (fun x v=>by rcases x1n.1 v with rfl;rfl) rfl ?_|refine OpK.focus XG 33 0 a 2 rfl rfl o (by simp) rfl rfl ?_|refine PT rfl (by rw[x1j];omega) ?_|(refine ZB XG rfl rfl rfl rfl rfl rfl rfl rfl rfl (by decide) a [] (by omega) (by unfold avI;rw[x1j];omega) (by simp) ⟨by simp,by simp,by simp⟩ ?_)|(apply bD<;>intro _<;>try omega))<;>conv=>whnf)
  all_goals exact⟨j+1,P,by omega,Le.of_eq (by rw[u,<-hput];rfl)⟩
 ·conv=>whnf
  repeat' ((first|(refine gX ?_;intros)|refine x5i n (by omega) (by show 24*_<=140737488355328;omega) (by unfold maxLen;omega) ?_|(apply bD<;>intro _<;>try omega))<;>conv=>whnf)
  have hje:(WY w f).take j=WY w f:=x1i P;rw[hje];have U:=FV n (WY w f);have T:=It n (WY w f) hp;have R:=MB n (WY w f);generalize UG n (WY w f)=nx at U T R⊢;refine lJ (fun a:Nat=>⟨[(0,.p (.ip w.cells)),(3,.p (eMat nx)),(6,.hd 1 0 n),(46,.j n),(47,.j a)],[(1,.ext (.mat 101 4 1 (bmI (C6 n a)) []))]⟩) (fun a=>a<=n) (fun a=>n-a) 0 (by
    refine Le.trans (Te w n nx U _ _) ?_;exact lE (hH:=.cons rfl (.of_eq (by simp[bmI,C6])) .nil)) (x1l _) ?_
  intro a h3;rcases x1a a n with ha|ha
  ·have hfl:=EN (n:=n) h3;have J:=EM (n:=n) ha;generalize C6 n a=rows at hfl J⊢;have s:(bmI rows).length=n:=by unfold bmI;rw[x1j,hfl]
   conv=>whnf
   repeat' ((first|refine gX ?_|refine x5i n (by omega) (by show 1*_<=140737488355328;omega) (by unfold maxLen;omega) ?_|refine x3c a rfl ha ?_|refine ZB XG rfl rfl rfl rfl rfl rfl rfl rfl rfl (by decide) a [] (by omega) (by omega) (by simp) ⟨by simp,by simp,by simp⟩ ?_|refine x6w a (List.replicate n .ff) (by omega) (by rw[x2t (by omega)];rfl) (by simp) ?_|(apply bD<;>intro _<;>try omega))<;>conv=>whnf)
   refine lJ (fun b:Nat=>⟨[(0,.p (.ip w.cells)),(3,.p (eMat nx)),(6,.hd 1 0 n),(7,.j a),(46,.j n),(47,.j a),(62,.j n),(63,.j b)],[(1,.ext (.mat 101 4 1 ((bmI rows).set a ((Lk n a b).map bv)) []))]⟩) (fun b=>b<=n) (fun b=>n-b) 0 (Le.of_eq (by rw[x3v,show(Lk n a 0).map bv=List.replicate n .ff by unfold Lk;simp[bv]];rfl)) (x1l _) ?_;intro b h4;rcases x1a b n with hb|hb
   ·have e:=ET (n:=n) (a:=a) hb;have htl:=ER (n:=n) (a:=a) h4;have o:((bmI rows).set a ((Lk n a b).map bv))[a]?=some ((Lk n a b).map bv):=x2t (by omega);have hrln:((Lk n a b).map bv).length=n:=by rw[x1j,htl]
    generalize(Lk n a b).map bv=row at e o hrln⊢;conv=>whnf
    repeat' ((first|refine dA ?_|refine gX ?_|refine Wr.eq (m:=(n:Int)-1) (by omega) (by omega) (by omega) ?_|refine x3c a rfl ha ?_|refine x6w a row (by omega) o (by simp) ?_|refine iO b ?_|refine Mo XG rfl rfl rfl rfl rfl rfl rfl rfl rfl o (by simp) (by omega) ?_|(apply bD<;>intro _<;>try omega))<;>conv=>whnf)
    have e1:∀c,((bmI rows).set a row).set a (row.set (b*1) c)=(bmI rows).set a (row.set b c):=fun c=>by rw[List.set_set,x6s]
    ·have v:(decide (a<n-1)||decide (a=b))=true:=by rw[x3x (by omega)];rfl
     rw[v]at e;exact⟨b+1,by omega,by omega,Le.of_eq (by rw[e1,<-e];rfl)⟩
    ·have v:(decide (a<n-1)||decide (a=b))=((a:Int)==b):=by
      rw[x3w (by omega),Bool.false_or];by_cases Z:a=b
      ·subst Z;simp
      ·have:¬(a:Int)=b:=by omega
       rw[x3w Z,x8j.2 this]
     have e1:∀c,((bmI rows).set a row).set a (row.set (b*1) c)=(bmI rows).set a (row.set b c):=fun c=>by rw[List.set_set,x6s]
     rw[v]at e;refine⟨b+1,by omega,by omega,?_⟩;rw[e1];exact((Sa (H1:=[]) (rows':=(bmI rows).set a (row.set b (bv ((a:Int)==b)))) (by rw[x3f,x3f]) (x0h (ElS.set rfl (NN _) (Sub.bv rfl)))).trans (Le.of_eq (by rw[e];rfl)))
   ·have hbe:b=n:=by omega
    subst hbe;rw[EL];have hbm:(bmI rows).set a ((filRow b a).map bv)=bmI (C6 b (a+1)):=by
     rw[<-J];unfold bmI;rw[x2s]
    rw[hbm];conv=>whnf
    repeat' ((first|refine wI ?_|(apply bD<;>intro _<;>try omega))<;>conv=>whnf)
    exact nX (a+1) (by omega)
  ·have C:a=n:=by omega
   rw[C,EP];have hS:=FolI.start hn2 nx;have hnx:∀a,∀x∈nx.getD a [],0<=x/\x<(n:Int):=fun a x v=>by
    rw[x1g]at v;cases I:nx[a]?with
    |none=>rw[I]at v;cases v
    |some r=>rw[I]at v;exact T r (x1o I) x v
   generalize(List.range n).map (filRow n)=fm0 at hS⊢;clear h3 ha C a;conv=>whnf
   repeat' (apply bD<;>intro _<;>first|omega|conv=>whnf)
   refine lI (fun x:List (List Bool)×Bool=>⟨[(0,.p (.ip w.cells)),(3,.p (eMat nx)),(6,.hd 1 0 n),(9,.p (bv x.2))],[(1,.ext (.mat 101 4 1 (bmI x.1) []))]⟩) (fun x=>FolI n nx x.1/\(x.2=false->∀a,a<n-1->x.1.getD a []=rowF n nx x.1 a)) (fun x=>2*L9 x.1+x.2.toNat) (fm0,true) ⟨hS,fun h=>by cases h⟩ ?_;rintro⟨fm,E⟩ ⟨hI,F⟩;simp only at hI F⊢;cases E with
   | false=>
     have hbl:n=(bmI fm).length:=by unfold bmI;rw[x1j,hI.len]
     conv=>whnf
     skip
     exact⟨_,.mat rfl hbl,fm,⟨hI,F rfl⟩,rfl⟩
   | true=>
     conv=>whnf
     repeat' (refine Wr.eq (m:=(n:Int)-2) (by omega) (by omega) (by omega) ?_;conv=>whnf)
     refine lI (fun y:List (List Bool)×Bool×Int=>⟨[(0,.p (.ip w.cells)),(3,.p (eMat nx)),(6,.hd 1 0 n),(9,.p (bv y.2.1)),(10,.j y.2.2)],[(1,.ext (.mat 101 4 1 (bmI y.1) []))]⟩) (fun y=>FolI n nx y.1/\(-1<=y.2.2/\y.2.2<=(n:Int)-2)/\(y.2.1=false->y.1=fm/\∀q:Nat,y.2.2<q->q<n-1->fm.getD q []=rowF n nx fm q)/\(y.2.1=true->L9 y.1<L9 fm)) (fun y=>(y.2.2+1).toNat) (fm,false,(n:Int)-2) ⟨hI,⟨by simp only;omega,by simp only;omega⟩,fun _=>⟨rfl,fun q K h2=>by simp only at K;omega⟩,fun h=>by cases h⟩ ?_;rintro⟨l,t,a⟩ ⟨A,⟨ha1,ha2⟩,hf,hl⟩;simp only at A ha1 ha2 hf hl⊢;rcases Int.lt_or_le a 0 with ha0|ha0
     ·have C:a = -1:=by omega
      subst C;have fin:∃x:List (List Bool)×Bool,x=(l,t)/\2*L9 x.1+x.2.toNat<2*L9 fm+1:=⟨_,rfl,by
       cases t with
       |true=>have:=hl rfl;simp only[x8k];omega
       |false=>rw[(hf rfl).1];simp⟩
      obtain⟨x,rfl,hm⟩:=fin;conv=>whnf
      repeat' (apply bD<;>intro _<;>first|omega|conv=>whnf)
      refine⟨(l,t),⟨A,fun O a ha=>?_⟩,hm,lE⟩;simp only at O⊢;obtain⟨Q,q2⟩:=hf O;rw[Q];exact q2 a (by omega) ha
     ·obtain⟨i,rfl⟩ : ∃i:Nat,a=i:=⟨a.toNat,by omega⟩;have hin:i<n-1:=by omega
      have G:i<nx.length:=by omega
      have g:i<l.length:=by rw[A.len];omega
      have V:((avI nx).map AV.sl)[i]?=some (.sl (nx[i].map (.int .i64))):=by unfold avI;rw[x5s,x1b,x1k G];rfl
      have N:nx.getD i []=nx[i]:=by rw[x1g,x1k G];rfl
      have hgg:l.getD i []=l[i]:=by rw[x1g,x1k g];rfl
      have hcl:nx[i].length<=1000000:=by have:=R i;rw[N]at this;omega
      have Y:=Sy l nx[i] n A.len hn5 A.rows hcl (fun x v=>hnx i x (by rw[N];exact v));have hse:((XD l nx[i] n).map bv)[i]?=some (bv (KY l nx[i] i)):=by unfold XD;rw[x5s,x1b,x4a (by omega)];rfl
      have u:((XD l nx[i] n).map bv).set i (bv true)=(rowF n nx l i).map bv:=by
       unfold rowF;rw[N,x2s]
      have D:(bmI l)[i]?=some (l[i].map bv):=by unfold bmI;rw[x1b,x1k g];rfl
      have hgl:(l[i].map bv).length=n:=by rw[x1j];exact A.rows _ (x1c g)
      have s:((rowF n nx l i).map bv).length=n:=by rw[x1j,W5]
      have hbl:(bmI l).length=n:=by unfold bmI;rw[x1j,A.len]
      have B:=GR (rowF n nx l i) l[i];by_cases I:rowF n nx l i=l[i]
      ·rw[x3x I]at B;have fin:∃y:List (List Bool)×Bool×Int,y=(l,t,(i:Int)-1)/\(FolI n nx y.1/\(-1<=y.2.2/\y.2.2<=(n:Int)-2)/\(y.2.1=false->y.1=fm/\∀q:Nat,y.2.2<q->q<n-1->fm.getD q []=rowF n nx fm q)/\(y.2.1=true->L9 y.1<L9 fm)):=⟨_,rfl,A,⟨by simp only;omega,by simp only;omega⟩,fun O=>by
        obtain⟨Q,q2⟩:=hf O;refine⟨Q,fun q K h2=>?_⟩;simp only at K;by_cases he:q=i
        ·subst he;subst Q;rw[hgg,I]
        ·exact q2 q (by omega) h2,hl⟩
       obtain⟨y,rfl,d⟩:=fin;conv=>whnf
       repeat' ((first|refine x2j rfl ?_|refine iT V ?_|refine iO i ?_|refine x5r i 0 _ (bv true) (by show(0+i)*1=i*1+0;omega) hse (x2q _) (by rw[NN,NN];rfl) ?_|refine x6w i _ (by omega) D (by simp) ?_|(apply bD<;>intro _<;>try omega)|(refine cH rH6 5 Y ?_))<;>conv=>whnf)
       rw[u];repeat' ((first|refine x2j rfl ?_|refine Wr.eq (m:=(i:Int)-1) (by omega) (by omega) (by omega) ?_|refine iO i ?_|refine ZB XG rfl rfl rfl rfl rfl rfl rfl rfl rfl (by decide) i [] (by omega) (by omega) s.symm ⟨by simp,by simp,by simp⟩ ?_|(apply bN<;>intro _)|(refine QS B (.cons (.hd rfl s.symm) (.cons (.row rfl D (by simp)) .nil)) (by rintro _ rfl;rfl) ?_;rintro _ rfl))<;>conv=>whnf)
       all_goals first
        |exact⟨_,d,by simp only;omega,lE⟩
        |(exfalso;simp_all;done)
      ·rw[x3w I]at B;have hsb:(bmI l).set i ((rowF n nx l i).map bv)=bmI (l.set i (rowF n nx l i)):=by unfold bmI;rw[x2s]
       have hne:rowF n nx l i≠l.getD i []:=by rw[hgg];exact I
       have fin:∃y:List (List Bool)×Bool×Int,y=(l.set i (rowF n nx l i),true,(i:Int)-1)/\(FolI n nx y.1/\(-1<=y.2.2/\y.2.2<=(n:Int)-2)/\(y.2.1=false->y.1=fm/\∀q:Nat,y.2.2<q->q<n-1->fm.getD q []=rowF n nx fm q)/\(y.2.1=true->L9 y.1<L9 fm)):=⟨_,rfl,A.step hnx hin,⟨by simp only;omega,by simp only;omega⟩,fun O=>by(simp only at O;cases O),fun _=>by
        have K:=A.less hin hne;cases t with
        |true=>exact Nat.lt_trans K (hl rfl)
        |false=>rw[(hf rfl).1]at K⊢;exact K⟩
       obtain⟨y,rfl,d⟩:=fin;conv=>whnf
       repeat' ((first|refine x2j rfl ?_|refine iT V ?_|refine iO i ?_|refine x5r i 0 _ (bv true) (by show(0+i)*1=i*1+0;omega) hse (x2q _) (by rw[NN,NN];rfl) ?_|refine x6w i _ (by omega) D (by simp) ?_|(apply bD<;>intro _<;>try omega)|(refine cH rH6 5 Y ?_))<;>conv=>whnf)
       rw[u];repeat' ((first|refine x2j rfl ?_|refine Wr.eq (m:=(i:Int)-1) (by omega) (by omega) (by omega) ?_|refine iO i ?_|refine ZB XG rfl rfl rfl rfl rfl rfl rfl rfl rfl (by decide) i [] (by omega) (by omega) s.symm ⟨by simp,by simp,by simp⟩ ?_|(apply bN<;>intro _)|(refine QS B (.cons (.hd rfl s.symm) (.cons (.row rfl D (by simp)) .nil)) (by rintro _ rfl;rfl) ?_;rintro _ rfl))<;>conv=>whnf)
       all_goals first
        |exact⟨_,d,by simp only;omega,lE (hH:=.cons rfl (.of_eq (by rw[hsb])) .nil)⟩
        |(exfalso;simp_all;done)
def EK(fm:List (List Bool))(t:Int×Int)(b:Nat):Bool:=bitF fm t.2.toNat b&&(decide (t.1=b) || !bitF fm t.1.toNat b)
def mkM(n:Nat)(fm:List (List Bool))(l:List (Int×Int))(a b:Nat):Bool:=(decide (1<=b)&&decide (b<n-1))&&l.any fun t=>decide (t.1=a)&&EK fm t b
structure DimB(n:Nat)(M:List (List Bool)):Prop where
 len:M.length=n
 rows:∀r∈M,r.length=n
theorem DimB.row{n:Nat}{M:List (List Bool)}(h:DimB n M){a:Nat}(ha:a<n):(bmI M)[a]?=some ((M.getD a []).map bv)/\((M.getD a []).map bv).length=n:=by
 have l:a<M.length:=by rw[h.len];exact ha
 have e:M.getD a []=M[a]:=by rw[x1g,x1k l];rfl
 rw[e];refine⟨by unfold bmI;rw[x1b,x1k l];rfl,?_⟩;rw[x1j];exact h.rows _ (x1c l)
theorem DimB.bit{n:Nat}{M:List (List Bool)}(h:DimB n M){b:Nat}(ha:a<n)(q:b<n):((M.getD a []).map bv)[b]?=some (bv (bitF M a b)):=by
 obtain⟨_,o⟩:=h.row ha;have m:b<(M.getD a []).length:=by rw[x1j]at o;omega
 rw[x1b,x1k m];unfold bitF;rw[x1g (l:=M.getD a []) (i:=b),x1k m];rfl
theorem DimB.set{n:Nat}{M:List (List Bool)}(h:DimB n M){b:Nat}(ha:a<n)(u:b<n):DimB n (M.set a ((M.getD a []).set b true))/\(bmI M).set a (((M.getD a []).map bv).set b .tt)=bmI (M.set a ((M.getD a []).set b true))/\∀x y,x<n->y<n->bitF (M.set a ((M.getD a []).set b true)) x y=if x=a/\y=b then true else bitF M x y:=by
 have o:a<M.length:=by rw[h.len];exact ha
 obtain⟨_,t⟩:=h.row ha;rw[x1j]at t;refine⟨⟨by rw[x3f];exact h.len,fun r q=>?_⟩,?_,fun x y v w=>?_⟩
 ·rcases x4k q with q|rfl
  ·exact h.rows r q
  ·rw[x3f];exact t
 ·unfold bmI;rw[x2s,x2s];rfl
 ·rw[Gm o];by_cases l:x=a
  ·subst l;rw[if_pos rfl,x1g];by_cases m:y=b
   ·subst m;rw[if_pos ⟨rfl,rfl⟩,x2t (by omega)];rfl
   ·rw[if_neg (fun h=>m h.2),x2a (x4s m),<-x1g];rfl
  ·rw[if_neg l,if_neg (fun h=>l h.1)]
def A2(h:Int->Int)(M:List (List Bool))(n a:Nat):List (Int×Int):=(List.range a).flatMap fun(x:Nat)=>((List.range n).filter fun y=>bitF M x y).map fun(y:Nat)=>(h x,h y)
def Sp(h:Int->Int)(M:List (List Bool))(a b:Nat):List (Int×Int):=((List.range b).filter fun y=>bitF M a y).map fun(y:Nat)=>(h a,h y)
def Bl(h:Int->Int)(M:List (List Bool))(n a:Nat):A2 h M n (a+1)=A2 h M n a++Sp h M a n:=by
 unfold A2 Sp;rw[x5k,x3i];simp
def A4(l:Int->Int)(M:List (List Bool))(a b:Nat):Sp l M a (b+1)=Sp l M a b++(if bitF M a b then [(l a,l b)]else []):=by
 unfold Sp;rw[x5k,x3t,x1e];congr 1;cases h:bitF M a b<;>simp[h]
def Rb(h:Int->Int)(M:List (List Bool))(a b:Nat):(Sp h M a b).length<=b:=by
 unfold Sp;rw[x1j];exact x2m (x3a _ _) (by simp)
theorem IU(h:Int->Int)(M:List (List Bool))(n a:Nat):(A2 h M n a).length<=a*n:=by
 induction a with
 |zero=>unfold A2;simp
 | succ a l=>
   have:=Rb h M a n;rw[Bl,x1h,x4x,x8p];omega
def zR(n a:Nat):List (List Bool):=List.replicate a (List.replicate n false)++List.replicate (n-a) []
theorem q5i{n:Nat}(h:a<=n):(zR n a).length=n:=by unfold zR;simp;omega
theorem q5o{n:Nat}(h:a<n):(bmI (zR n a)).set a (List.replicate n .ff)=bmI (zR n (a+1)):=by
 have e:(zR n a).set a (List.replicate n false)=zR n (a+1):=by
  unfold zR;rw[x4l _ _ (by simp),x3v,x5g,show n-a=(n-(a+1))+1 by omega,x5h,x5q,List.replicate_succ',x2w];rfl
 rw[<-e];unfold bmI;rw[x2s];congr 1;simp[bv]
def q5e(n:Nat):DimB n (zR n n)/\∀a b,bitF (zR n n) a b=false:=by
 have e:zR n n=List.replicate n (List.replicate n false):=by unfold zR;simp
 rw[e];refine⟨⟨by simp,fun r h=>by rw[x3b h];simp⟩,fun a b=>?_⟩;unfold bitF;simp only[x1g,x2n];split
 .simp only[x2c,x2n];split<;>rfl
 .rfl
def Ti(n:Nat)(h:(sl.all fun x=>x.2.xfree 0)=true):
  Le N' ⟨sl,[(0,.own 101 1 (List.replicate n .nils))]⟩ ⟨sl,[(0,.ext (.mat 101 4 1 (List.replicate n []) []))]⟩:=by
 have l:=YS (N:=N') (sl:=sl) (H:=[(0,.own 101 1 (List.replicate n .nils))])
  (H':=[(0,.ext (.mat 101 4 1 (List.replicate (List.replicate n AV.nils).length []) []))])
  0 4 1 (e:=101) (es:=List.replicate n .nils) rfl (fun x m=>x3b m) rfl h rfl rfl (by simp[JY])
 simpa using l
theorem Yy(w:Way)(f:Pr)(n:Nat)(h:WayT w f n)(hp:∀t∈WY w f,(0<=t.1/\t.1<n)/\0<=t.2/\t.2<n)(v:(Ty w f).length<=1000000):SpecP prog 72 [.ip w.cells] (fun r=>∃fm M:List (List Bool),FollowP n (UG n (WY w f)) fm/\DimB n M/\(∀a b,a<n->b<n->bitF M a b=mkM n fm (WY w f) a b)/\r=.sl (avP (A2 (QD w.p w.j w.n) M n n))):=by
 refine sC Q7 func72 ?_;conv=>whnf
 have hwn:=h.hw;have hn5:=h.hn;have hn2:=h.hn2;have hF:=Jz w f n h hp v;have hA:=Yu w f n h;have hP:=WF w f h.hj h.hc (by omega) (Ty w f) v;have hpl:(avP (WY w f)).length=(WY w f).length:=by unfold avP;rw[x1j]
 have hpl2:(WY w f).length<=1000000:=by unfold WY;rw[x1j];exact v
 have hPe:(Ty w f).map (ixP w.p w.j f w.n)=WY w f:=rfl;rw[hPe]at hP;repeat' ((first|(refine gX ?_;intros)|(refine CallK.pure hF (.cons (Sub.refl _) .nil) ?_;rintro _ ⟨fm,D,rfl⟩)|refine x5i n (by omega) (by show 24*_<=140737488355328;omega) (by unfold maxLen;omega) ?_)<;>conv=>whnf)
 have d:DimB n fm:=⟨D.inv.len,D.inv.rows⟩;refine lJ (fun a:Nat=>⟨[(0,.p (.ip w.cells)),(3,.p (.sl ((bmI fm).map .sl))),(4,.hd 0 0 n),(21,.j n),(22,.j a)],[(0,.ext (.mat 101 4 1 (bmI (zR n a)) []))]⟩) (fun a=>a<=n) (fun a=>n-a) 0 (by
   refine Le.trans (Ti n rfl) ?_;exact lE (hH:=.cons rfl (.of_eq (by simp[bmI,zR])) .nil)) (x1l _) ?_
 intro a h3;rcases x1a a n with ha|ha
 ·have hzl:=q5i (n:=n) h3;have hzs:=q5o (n:=n) ha;have P:(bmI (zR n a)).length=n:=by unfold bmI;rw[x1j,hzl]
  generalize bmI (zR n a)=rows at hzs P⊢;conv=>whnf
  repeat' ((first|refine gX ?_|refine x5i n (by omega) (by show 1*_<=140737488355328;omega) (by unfold maxLen;omega) ?_|refine x3c a rfl ha ?_|refine ZB XG rfl rfl rfl rfl rfl rfl rfl rfl rfl (by decide) a [] (by omega) (by omega) (by simp) ⟨by simp,by simp,by simp⟩ ?_|(apply bD<;>intro _<;>try omega))<;>conv=>whnf)
  exact⟨a+1,by omega,by omega,Le.of_eq (by rw[<-hzs];rfl)⟩
 have A:a=n:=by omega
 rw[A];clear h3 ha A a;obtain⟨hz1,hz2⟩:=q5e n;generalize zR n n=M0 at hz1 hz2⊢;conv=>whnf
 repeat' ((first|(refine iM fun _=>?_)|refine cP hA ?_|refine cP hP ?_|(apply bD<;>intro _<;>try omega))<;>conv=>whnf)
 refine lI (fun x:Nat×List (List Bool)=>⟨[(0,.p (.ip w.cells)),(3,.p (.sl ((bmI fm).map .sl))),(4,.hd 0 0 n),(37,.p (.sl (avP (WY w f)))),(38,.p (.int .i64 (avP (WY w f)).length)),(39,.j x.1)],[(0,.ext (.mat 101 4 1 (bmI x.2) []))]⟩) (fun x=>x.1<=(WY w f).length/\DimB n x.2/\∀a b,a<n->b<n->bitF x.2 a b=mkM n fm ((WY w f).take x.1) a b) (fun x=>(WY w f).length-x.1) (0,M0) ⟨x1l _,hz1,fun a b _ _=>by simp only[hz2];unfold mkM;simp⟩ ?_;rintro⟨j,M⟩ ⟨h2,J,hB⟩;simp only at h2 J hB⊢;rcases x1a j (WY w f).length with U|U
 ·have H:(avP (WY w f))[j]?=some (.agg [.int .i64 (WY w f)[j].1,.int .i64 (WY w f)[j].2]):=by simp[avP,U]
  obtain⟨⟨q1,q2⟩,q3,q4⟩:=hp _ (x1c U);have V:∀a b,mkM n fm ((WY w f).take (j+1)) a b=(mkM n fm ((WY w f).take j) a b||((decide (1<=b)&&decide (b<n-1))&&(decide ((WY w f)[j].1=a)&&EK fm (WY w f)[j] b))):=fun a b=>by
   unfold mkM;rw[x1t U,List.any_append];simp only[List.any_cons,List.any_nil,Bool.or_false];cases(decide (1<=b)&&decide (b<n-1))<;>simp
  generalize(WY w f)[j]=t at H q1 q2 q3 q4 V;obtain⟨a,ha⟩ : ∃a:Nat,t.1=a:=⟨t.1.toNat,by omega⟩;obtain⟨c,hc⟩ : ∃c:Nat,t.2=c:=⟨t.2.toNat,by omega⟩;have u:a<n:=by omega
  have Q:c<n:=by omega
  rw[ha,hc]at H;have R:∀b,EK fm t b=(bitF fm c b&&(decide (a=b) || !bitF fm a b)):=fun b=>by
   unfold EK;rw[ha,hc,x3z,x3z];congr 2;by_cases e:a=b
   ·subst e;simp
   ·rw[x3w e,x3w (by omega)]
  conv=>whnf
  repeat' ((first|refine x2j rfl ?_|refine iT H ?_|refine x3c 0 rfl (by decide) ?_|(apply bD<;>intro _<;>try omega))<;>conv=>whnf)
  refine lI (fun y:Nat×List (List Bool)=>⟨[(0,.p (.ip w.cells)),(3,.p (.sl ((bmI fm).map .sl))),(4,.hd 0 0 n),(7,.p (.ip [.int .i64 a,.int .i64 c])),(8,.j a),(9,.j y.1),(37,.p (.sl (avP (WY w f)))),(38,.p (.int .i64 (avP (WY w f)).length)),(39,.j j)],[(0,.ext (.mat 101 4 1 (bmI y.2) []))]⟩) (fun y=>(1<=y.1/\y.1<=n-1)/\DimB n y.2/\∀o l,o<n->l<n->bitF y.2 o l=(mkM n fm ((WY w f).take j) o l||((decide (1<=l)&&decide (l<y.1))&&(decide (t.1=o)&&EK fm t l)))) (fun y=>n-y.1) (1,M) ⟨⟨x2q _,by simp only;omega⟩,J,fun o l h1 h2=>by
    simp only;rw[hB o l h1 h2];cases Z:(decide (1<=l)&&decide (l<1))with
    |true=>simp at Z;omega
    |false=>simp⟩ ?_
  rintro⟨b,L⟩ ⟨⟨h4,h5⟩,K,g⟩;simp only at h4 h5 K g⊢;rcases x1a b (n-1)with hb|hb
  ·have F:b<n:=by omega
   obtain⟨r1,r2⟩:=d.row Q;obtain⟨s1,s2⟩:=d.row u;obtain⟨B,u2⟩:=K.row u;have C:=d.bit Q F;have e2:=d.bit u F;obtain⟨d1,d2,d3⟩:=K.set u F;have hr1:((bmI fm).map AV.sl)[c]?=some (.sl ((fm.getD c []).map bv)):=by rw[x1b,r1];rfl
   have hr2:((bmI fm).map AV.sl)[a]?=some (.sl ((fm.getD a []).map bv)):=by rw[x1b,s1];rfl
   have no:EK fm t b=false->∀o l,o<n->l<n->bitF L o l=(mkM n fm ((WY w f).take j) o l||((decide (1<=l)&&decide (l<b+1))&&(decide (t.1=o)&&EK fm t l))):=fun Z o l g1 I=>by
    rw[g o l g1 I];by_cases e:l=b
    ·subst e;simp[Z]
    ·have:decide (l<b+1)=decide (l<b):=by by_cases G:l<b<;>simp[G]<;>omega
     rw[this]
   have yes:EK fm t b=true->∀o l,o<n->l<n->bitF (L.set a ((L.getD a []).set b true)) o l=(mkM n fm ((WY w f).take j) o l||((decide (1<=l)&&decide (l<b+1))&&(decide (t.1=o)&&EK fm t l))):=fun Z o l g1 I=>by
    rw[d3 o l g1 I];by_cases e:o=a/\l=b
    ·rw[if_pos e,e.1,e.2,Z,x3x h4,x3x (by omega:b<b+1),x3x ha];simp
    ·rw[if_neg e,g o l g1 I];by_cases ea:o=a
     ·have eb:¬l=b:=fun hh=>e ⟨ea,hh⟩;have:decide (l<b+1)=decide (l<b):=by by_cases G:l<b<;>simp[G]<;>omega
      rw[this]
     ·have:decide (t.1=(o:Int))=false:=x3w (by omega);rw[this];simp
   have q:=R b;generalize bitF fm c b=v1 at C q;generalize bitF fm a b=v2 at e2 q;cases v1<;>cases v2 <;>
   conv=>whnf
   repeat' ((first|refine x2j rfl ?_|refine Wr.eq (m:=(n:Int)-1) (by omega) (by omega) (by omega) ?_|refine wI ?_|refine x3c 1 rfl (by decide) ?_|refine iT hr1 ?_|refine iT hr2 ?_|refine iT C ?_|refine iT e2 ?_|refine x3c a rfl u ?_|refine x6w a _ (by omega) B (by simp) ?_|refine iO b ?_|refine Mo XG rfl rfl rfl rfl rfl rfl rfl rfl rfl B (by simp) (by omega) ?_|(apply bD<;>intro _<;>try omega))<;>conv=>whnf)
   all_goals first
    |exact nX (b+1,L) ⟨⟨by simp only;omega,by simp only;omega⟩,K,no (by first|(rw[q];rfl)|(rw[q];have s:¬a=b:=(by omega);rw[x3w s];rfl))⟩
    |exact⟨(b+1,L.set a ((L.getD a []).set b true)),⟨⟨by simp only;omega,by simp only;omega⟩,d1,yes (by first|(rw[q];have s:a=b:=(by omega);rw[x3x s];rfl)|(rw[q];have s:¬a=b:=(by omega);rw[x3w s];rfl))⟩,by simp only;omega,Le.of_eq (by rw[x6s];simp only;rw[<-d2];rfl)⟩
  ·have E:b=n-1:=by omega
   subst E;have T:∀a b,a<n->b<n->bitF L a b=mkM n fm ((WY w f).take (j+1)) a b:=fun o l g1 I=>by rw[g o l g1 I,V]
   conv=>whnf
   repeat' ((first|refine Wr.eq (m:=(n:Int)-1) (by omega) (by omega) (by omega) ?_|refine wI ?_|(apply bD<;>intro _<;>try omega))<;>conv=>whnf)
   all_goals first
    |exact⟨(j+1,L),⟨by simp only;omega,K,T⟩,by simp only;omega,lE⟩
    |(exfalso;omega)
 ·have hje:(WY w f).take j=WY w f:=x1i U;rw[hje]at hB;have P:(bmI M).length=n:=by unfold bmI;rw[x1j,J.len]
  generalize Y:QD w.p w.j w.n=plc;conv=>whnf
  repeat' (apply bD<;>intro _<;>first|omega|conv=>whnf)
  refine lJ (fun a:Nat=>⟨[(0,.p (.ip w.cells)),(4,.hd 0 0 n),(10,.hd 1 0 (A2 plc M n a).length),(85,.j n),(86,.j a)],[(0,.ext (.mat 101 4 1 (bmI M) [])),(1,.own 136 2 (avP (A2 plc M n a)))]⟩) (fun a=>a<=n) (fun a=>n-a) 0 (lM [(1,.own 136 2 [])]) (x1l _) ?_;intro a h3;rcases x1a a n with ha|ha
  ·obtain⟨B,u2⟩:=J.row ha;have hol:=IU plc M n a;have hol2:a*n<=5000*5000:=x7i (by omega) hn5;have hsu:=Bl plc M n a;generalize A2 plc M n a=acc at hol hsu⊢;conv=>whnf
   repeat' ((first|refine x2j rfl ?_|refine x3c a rfl ha ?_|refine x6w a _ (by omega) B (by simp) ?_|(apply bD<;>intro _<;>try omega))<;>conv=>whnf)
   refine lJ (fun b:Nat=>⟨[(0,.p (.ip w.cells)),(4,.hd 0 0 n),(10,.hd 1 0 (acc++Sp plc M a b).length),(11,.j a),(85,.j n),(86,.j a),(93,.j n),(94,.j b)],[(0,.ext (.mat 101 4 1 (bmI M) [])),(1,.own 136 2 (avP (acc++Sp plc M a b)))]⟩) (fun b=>b<=n) (fun b=>n-b) 0 (Le.of_eq (by rw[u2,show acc++Sp plc M a 0=acc by unfold Sp;simp];rfl)) (x1l _) ?_;intro b h4;rcases x1a b n with hb|hb
   ·have C:=J.bit ha hb;have z:=A4 plc M a b;have hrl:=Rb plc M a b;generalize Sp plc M a b=acc2 at z hrl⊢;have hal:(avP (acc++acc2)).length=(acc++acc2).length:=by unfold avP;rw[x1j]
    have hal2:(acc++acc2).length<=25005000:=by rw[x1h];omega
    have N:=ZD w f h.hj h.hc (by omega) a (by omega);have O:=ZD w f h.hj h.hc (by omega) b (by omega);rw[Y]at N O;cases hv:bitF M a b with
    | true=>
      rw[hv]at C;rw[hv,if_pos rfl]at z;conv=>whnf
      repeat' ((first|refine gX ?_|refine x3c a rfl ha ?_|refine x6w a _ (by omega) B (by simp) ?_|refine iO b ?_|refine RLd.mk _ b 0 _ B (by simp) (by omega) C ?_|refine cP N ?_|refine cP O ?_|refine pA 1 16 hal.symm ?_|(apply bD<;>intro _<;>try omega))<;>conv=>whnf)
      all_goals first
       |exact⟨b+1,by omega,by omega,Le.of_eq (by rw[z,<-x2w];simp only[avP,x1h,x1e];rfl)⟩
       |(exfalso;simp_all;done)
    | false=>
      rw[hv]at C;rw[hv,if_neg (by decide),x2i]at z;conv=>whnf
      repeat' ((first|refine gX ?_|refine x3c a rfl ha ?_|refine x6w a _ (by omega) B (by simp) ?_|refine iO b ?_|refine RLd.mk _ b 0 _ B (by simp) (by omega) C ?_|(apply bD<;>intro _<;>try omega))<;>conv=>whnf)
      all_goals first
       |exact⟨b+1,by omega,by omega,Le.of_eq (by rw[z];rfl)⟩
       |(exfalso;simp_all;done)
   ·have E:b=n:=by omega
    subst E;rw[<-hsu];conv=>whnf
    repeat' ((first|refine wI ?_|(apply bD<;>intro _<;>try omega))<;>conv=>whnf)
    exact nX (a+1) (by omega)
  ·have A:a=n:=by omega
   subst A;conv=>whnf
   repeat' (apply bD<;>intro _<;>first|omega|conv=>whnf)
   exact⟨_,.hd rfl (by unfold avP;rw[x1j]),fm,M,D,J,hB,rfl⟩
theorem RX{p:Pg}(h:QA p=true){j:Nat}{f:Pr}(q:p.A[j]?=some f){n:Item}(u:QT p.A j<=k)(v:k<QT p.A j+QJ f.body)(r:(sheetOf p).l[k]?=some n):n.s.id=(k:Int)+1:=by
 obtain⟨t,_,m,o⟩:=F2 h q (a:=(k:Int)+1) (by omega) (by omega);unfold S7 at m;rw[show((k:Int)+1-1).toNat=k by omega,r]at m;cases m;exact o
theorem Bp{n:Nat}{part:List Int}(v:∀k,k<n->0<=part.getD k 0/\part.getD k 0<n){i:Nat}(w:i<n):∀(l:List (Int×Int)){o:List Bool},o.length=n->(∀t∈l,0<=t.1/\t.1<n)->
  ((l.foldl (Qm part) o).getD i false=true↔o.getD i false=true\/∃t∈l,part.getD t.1.toNat 0≠part.getD t.2.toNat 0/\part.getD t.1.toNat 0=i)
 |[],o,_,_=>by simp
 | t::r,o,ho,hr=>by
   rw [x4d,Bp v w r (by rw[Bm];exact ho) fun u m=>hr u (x1d _ m)];have x:=hr t x1f;have y:=v t.1.toNat (by omega);have key:(Qm part o t).getD i false=true↔o.getD i false=true\/(part.getD t.1.toNat 0≠part.getD t.2.toNat 0/\part.getD t.1.toNat 0=i):=by
    unfold Qm;split
    ·rename_i s;constructor
     ·exact .inl
     ·rintro(h|⟨h,_⟩)
      ·exact h
      ·exact absurd s h
    ·rename_i s;rw[ZS (by omega)];split
     ·rename_i h;constructor
      ·intro _;exact .inr ⟨s,by omega⟩
      ·intro _;rfl
     ·rename_i h;constructor
      ·exact .inl
      ·rintro(q|⟨_,q⟩)
       ·exact q
       ·exact absurd (by omega) h
   rw[key,or_assoc];constructor
   ·rintro(h|⟨h,q⟩|⟨u,m,h⟩)
    ·exact .inl h
    ·exact .inr ⟨t,x1f,h,q⟩
    ·exact .inr ⟨u,x1d _ m,h⟩
   ·rintro(h|⟨u,m,h⟩)
    ·exact .inl h
    ·rcases x1p.1 m with rfl|m
     ·exact .inr (.inl h)
     ·exact .inr (.inr ⟨u,m,h⟩)
theorem IX{n:Nat}{part:List Int}(q:0<n)(m:∀k,k<n->0<=part.getD k 0/\part.getD k 0<n)(o:i<n){l:List (Int×Int)}(r:∀t∈l,0<=t.1/\t.1<n):
  (Hg n part l).getD i false=true↔part.getD 0 0=i\/part.getD (n-1) 0=i\/∃t∈l,part.getD t.1.toNat 0≠part.getD t.2.toNat 0/\part.getD t.1.toNat 0=i:=by
 have s:=m 0 q;have u:=m (n-1) (by omega);unfold Hg;rw[Bp m o l (by simp[J8]) r];have key:(J8 n part).getD i false=true↔part.getD 0 0=i\/part.getD (n-1) 0=i:=by
  unfold J8;rw[ZS (by rw[x3f,x3v];omega),ZS (by rw[x3v];omega)];split
  ·exact⟨fun _=>.inr (by omega),fun _=>rfl⟩
  ·split
   ·exact⟨fun _=>.inl (by omega),fun _=>rfl⟩
   ·have:(List.replicate n false).getD i false=false:=by
     rw[x1g,x2n];split<;>rfl
    rw[this];constructor
    ·intro h;cases h
    ·rintro(h|h)<;>omega
 rw[key,or_assoc]
section
variable {p:Pg}{j:Nat}{f:Pr}
theorem W1{i:Int}(h:0<=i/\i<(QJ f.body+2:Nat)):plP p j f (QD p j (QJ f.body+2:Nat) i)/\ixI p j f (QD p j (QJ f.body+2:Nat) i)=i:=by
 unfold QD ixI KM plP loI hiI;constructor
 ·(repeat' split)<;>omega
 ·(repeat' split)<;>omega
def IF{x:Int}(h:plP p j f x):QD p j (QJ f.body+2:Nat) (ixI p j f x)=x:=by
 have l:=W1 (p:=p) (j:=j) (f:=f) (KL h);exact Ce l.1 h l.2
def Hp:prsW (QQ p j f) f=(QQ p j f).real.map (ixP p j f (QJ f.body+2:Nat)):=rfl
def OE(h:QA p=true)(o:p.A[j]?=some f):∀t∈prsW (QQ p j f) f,(0<=t.1/\t.1<(QJ f.body+2:Nat))/\0<=t.2/\t.2<(QJ f.body+2:Nat):=fun t l=>by
 rw[Hp]at l;obtain⟨s,q,rfl⟩:=x1r.1 l;obtain⟨m,n⟩:=JK h o s q;exact⟨KL m,KL n⟩
def wE(p:Pg)(j:Nat)(f:Pr):Int->Int->Prop:=rowE (QC (QJ f.body+2) (prsW (QQ p j f) f)).1
def wR(p:Pg)(j:Nat)(f:Pr):Int->Int->Prop:=stR (QQ p j f).real
def q3a(h:QA p=true)(q:p.A[j]?=some f){i k:Int}:wE p j f i k ↔ ∃a b,wR p j f a b/\ixI p j f a=i/\ixI p j f b=k:=by
 unfold wE wR;rw[Tn];constructor
 .rintro ⟨l,_,_⟩;rw[Hp]at l;obtain⟨s,m,n⟩:=x1r.1 l;exact⟨s.src,s.dst,⟨s,m,rfl,rfl⟩,x4w Prod.fst n,x4w Prod.snd n⟩
 .rintro ⟨a,b,⟨s,m,rfl,rfl⟩,rfl,rfl⟩;obtain⟨l,o⟩:=JK h q s m;exact⟨x1r.2 ⟨s,m,rfl⟩,H9 (KL l),H9 (KL o)⟩
def q6q(h:QA p=true)(l:p.A[j]?=some f){a b:Int}(m:wR p j f a b):plP p j f a/\plP p j f b:=by
 obtain⟨s,n,rfl,rfl⟩:=m;exact JK h l s n
def OO(h:QA p=true)(o:p.A[j]?=some f){a b:Int}(ha:plP p j f a)(w:plP p j f b):Rch (wE p j f) (ixI p j f a) (ixI p j f b)↔Rch (wR p j f) a b:=by
 constructor
 .intro q;obtain⟨c,n,m,l⟩:=q.closed (S:=fun k=>∃c,plP p j f c/\ixI p j f c=k/\Rch (wR p j f) a c) (by
   rintro i k ⟨c,n,m,l⟩ t;obtain⟨x,y,r,u,v⟩:=(q3a h o).1 t;have s:=q6q h o r;have:x=c:=Ce s.1 n (by rw[u,m]);subst this;exact⟨y,s.2,v,.tail l r⟩) ⟨a,ha,rfl,.refl⟩
  rw[<-Ce n w m];exact l
 .intro q;exact(q.closed (S:=fun c=>plP p j f c/\Rch (wE p j f) (ixI p j f a) (ixI p j f c)) (fun x y ⟨n,m⟩ l=>⟨(q6q h o l).2,.tail m ((q3a h o).2 ⟨x,y,l,rfl,rfl⟩)⟩) ⟨ha,.refl⟩).2
def q5h(h:QA p=true)(m:p.A[j]?=some f){a b:Int}(ha:plP p j f a)(l:plP p j f b):sccP (wE p j f) (ixI p j f a) (ixI p j f b)↔sccP (wR p j f) a b:=by
 unfold sccP;rw[OO h m ha l,OO h m l ha]
def FJ(p:Pg)(j:Nat)(f:Pr)(i:Int):Int:=(UZ (QQ p j f) f).getD i.toNat 0
def Un:UZ (QQ p j f) f=Ql (QJ f.body+2) (QC (QJ f.body+2) (prsW (QQ p j f) f)).1:=rfl
def Rl{i:Int}(h:0<=i/\i<(QJ f.body+2:Nat)):MinP (wE p j f) i (FJ p j f i):=by
 unfold FJ;rw[Un];exact Qr (JV _ _).1 h
def IK(h:k<QJ f.body+2):0<=(UZ (QQ p j f) f).getD k 0/\(UZ (QQ p j f) f).getD k 0<(QJ f.body+2:Nat):=by
 rw[Un];exact Rn (JV _ _).1 h
def Rm:(UZ (QQ p j f) f).length=QJ f.body+2:=by rw[Un,FK]
theorem MinP.same{E:Int->Int->Prop}{x y v:Int}(h:MinP E x v)(l:sccP E x y):MinP E y v:=⟨l.symm.trans h.scc,fun z m=>h.le z (l.trans m)⟩
def IJ{i k:Int}(n:0<=i/\i<(QJ f.body+2:Nat))(o:0<=k/\k<(QJ f.body+2:Nat)):FJ p j f i=FJ p j f k↔sccP (wE p j f) i k:=by
 have l:=Rl (p:=p) (j:=j) n;have h:=Rl (p:=p) (j:=j) o;constructor
 .intro m;rw[<-m]at h;exact l.scc.trans h.scc.symm
 .intro q;exact(l.same q).uniq h
def PJ(h:QA p=true)(m:p.A[j]?=some f){a b:Int}(ha:plP p j f a)(l:plP p j f b):FJ p j f (ixI p j f a)=FJ p j f (ixI p j f b)↔sccP (wR p j f) a b:=by
 rw[IJ (KL ha) (KL l),q5h h m ha l]
structure TrapP(p:Pg)(j:Nat)(f:Pr)(l:List Int)(r:Int):Prop where
 pl:plP p j f r
 mem:∀b,b∈l↔plP p j f b/\sccP (wR p j f) r b
 cl:∀b c,sccP (wR p j f) r b->wR p j f b c->sccP (wR p j f) r c
 n0:¬sccP (wR p j f) r 0
 nx:¬sccP (wR p j f) r (-1)
def AN{l:Int->Int}{part:List Int}{q:Nat}{b:Int}:b∈FR l part i q ↔ ∃k:Nat,k<q/\part.getD k 0=i/\l k=b:=by
 unfold FR;constructor
 .intro h;obtain⟨k,o,rfl⟩:=x1r.1 h;obtain⟨m,n⟩:=x3k.1 o;exact⟨k,x3h.1 m,x5p.1 n,rfl⟩
 .rintro ⟨k,m,n,rfl⟩;exact x1r.2 ⟨k,x3k.2 ⟨x3h.2 m,x5p.2 n⟩,rfl⟩
def ix0:ixI p j f 0=0:=by unfold ixI KM;rw[if_pos rfl]
theorem ix1:ixI p j f (-1)=((QJ f.body+2:Nat):Int)-1:=by unfold ixI KM;rw[if_neg (by omega),if_pos rfl]
def pl0:plP p j f 0:=.inl rfl
def pl1:plP p j f (-1):=.inr (.inl rfl)
def W3(k:Nat):(UZ (QQ p j f) f).getD k 0=FJ p j f k:=by
 unfold FJ;rw[x3z]
theorem q2y(h:QA p=true)(l:p.A[j]?=some f)(z:i<QJ f.body+2):(Hg (QJ f.body+2) (UZ (QQ p j f) f) (prsW (QQ p j f) f)).getD i false=true ↔
  FJ p j f (ixI p j f 0)=i\/FJ p j f (ixI p j f (-1))=i\/∃a b,wR p j f a b/\¬sccP (wR p j f) a b/\FJ p j f (ixI p j f a)=i:=by
 rw[IX (by omega) (fun k c=>IK c) z fun t n=>(OE h l t n).1,ix0,ix1];have x:(UZ (QQ p j f) f).getD (QJ f.body+2-1) 0=FJ p j f (((QJ f.body+2:Nat):Int)-1):=by
  unfold FJ;congr 1;omega
 have w:(UZ (QQ p j f) f).getD 0 0=FJ p j f 0:=rfl;rw[w,x];refine or_congr x7r (or_congr x7r ?_);constructor
 ·rintro⟨t,n,o,q⟩;rw[Hp]at n;obtain⟨s,m,rfl⟩:=x1r.1 n;obtain⟨r,u⟩:=JK h l s m;exact⟨s.src,s.dst,⟨s,m,rfl,rfl⟩,fun v=>o ((PJ h l r u).2 v),q⟩
 ·rintro⟨a,b,⟨s,m,rfl,rfl⟩,o,q⟩;obtain⟨r,u⟩:=JK h l s m;exact⟨ixP p j f (QJ f.body+2:Nat) s,by rw[Hp];exact x1r.2 ⟨s,m,rfl⟩,fun y=>o ((PJ h l r u).1 y),q⟩
def Pf{l:List Int}:l∈trapsW (QQ p j f) f ↔ ∃i:Nat,i<QJ f.body+2/\FJ p j f i=i/\(Hg (QJ f.body+2) (UZ (QQ p j f) f) (prsW (QQ p j f) f)).getD i false=false/\l=FR (QD p j (QJ f.body+2:Nat)) (UZ (QQ p j f) f) i (QJ f.body+2):=by
 unfold trapsW X7;rw[Rm];constructor
 .intro q;obtain⟨i,o,rfl⟩:=x1r.1 q;obtain⟨m,h⟩:=x3k.1 o;unfold Y8 at h;rw[x2z,x5p,x4e,W3]at h;exact⟨i,x3h.1 m,h.1,h.2,rfl⟩
 .rintro ⟨i,m,h,n,rfl⟩;refine x1r.2 ⟨i,x3k.2 ⟨x3h.2 m,?_⟩,rfl⟩;unfold Y8;rw[x2z,x5p,x4e,W3];exact⟨h,n⟩
theorem Od(h:QA p=true)(r:p.A[j]?=some f)(u:i<QJ f.body+2)(s:FJ p j f i=i)(b:Int):
  b∈FR (QD p j (QJ f.body+2:Nat)) (UZ (QQ p j f) f) i (QJ f.body+2)↔plP p j f b/\sccP (wR p j f) (QD p j (QJ f.body+2:Nat) i) b:=by
 obtain⟨o,q⟩:=W1 (p:=p) (j:=j) (f:=f) (i:=i) (by omega);rw[AN];constructor
 ·rintro⟨k,l,m,rfl⟩;obtain⟨n,t⟩:=W1 (p:=p) (j:=j) (f:=f) (i:=k) (by omega);refine⟨n,(PJ h r o n).1 ?_⟩;rw[q,t,s,<-W3,m]
 ·rintro⟨l,m⟩;have n:=KL l;refine⟨(ixI p j f b).toNat,by omega,?_,?_⟩
  ·rw[W3,show(((ixI p j f b).toNat:Nat):Int)=ixI p j f b by omega,<-(PJ h r o l).2 m,q,s]
  ·rw[show(((ixI p j f b).toNat:Nat):Int)=ixI p j f b by omega,IF l]
theorem AM(h:QA p=true)(o:p.A[j]?=some f){l:List Int}(d:l∈trapsW (QQ p j f) f):∃r,TrapP p j f l r:=by
 obtain⟨i,w,x,e,rfl⟩:=Pf.1 d;obtain⟨t,y⟩:=W1 (p:=p) (j:=j) (f:=f) (i:=i) (by omega);have m:¬_:=fun g=>by
  have:=(q2y h o w).2 g;rw[e]at this;cases this
 have n:FJ p j f (ixI p j f (QD p j (QJ f.body+2:Nat) i))=i:=by rw[y,x]
 refine⟨_,t,Od h o w x,fun b c v q=>?_,fun u=>m (.inl ?_),fun u=>m (.inr (.inl ?_))⟩
 ·have z:=q6q h o q;by_cases s:sccP (wR p j f) b c
  ·exact v.trans s
  ·refine absurd (.inr (.inr ⟨b,c,q,s,?_⟩)) m;rw[<-(PJ h o t z.1).2 v,n]
 ·rw[<-(PJ h o t pl0).2 u,n]
 ·rw[<-(PJ h o t pl1).2 u,n]
end
theorem Hn{p:Pg}{j:Nat}{f:Pr}(o:p.A[j]?=some f)(n:cntP p.A<=200):(QQ p j f).real.length<=100000:=by
 obtain⟨_,_,_,l,h⟩:=QU p;obtain⟨_,_,q,_⟩:=h j f o;have r:=Bf (QB p j f);have m:=Z1 p j f;show(WA (QB p j f)).length<=100000;omega
theorem Rg{p:Pg}(h:QA p=true){j:Nat}{f:Pr}(q:p.A[j]?=some f):∀m∈itsOf p j f,∀s∈fOf m,okSt s:=fun m o s l=>by
 obtain⟨w,_⟩:=QP h;obtain⟨_,_,u⟩:=XK h;obtain⟨_,_,_,r,n⟩:=QU p;obtain⟨_,_,v,_⟩:=n j f q;have x:=VT w q (MV o);have t:=(U3 o).1;unfold fOf at l;split at l
 ·rw[x1n.1 l];unfold okI at t;unfold okSt;constructor
  ·show m.s.id≠_;omega
  ·show m.next≠_;omega
 ·cases l
def RD{p:Pg}(h:QA p=true){j:Nat}{f:Pr}(t:p.A[j]?=some f){l:List Int}(s:l∈trapsW (QQ p j f) f):l.length<=QJ f.body+2/\∀id∈l,(QT p.A j:Int)+1<=id/\id<=(QT p.A j+QJ f.body:Nat):=by
 constructor
 .obtain ⟨i,_,_,_,rfl⟩:=Pf.1 s;exact Ph _ _ _ _
 .intro id n;obtain⟨r,o⟩:=AM h t s;obtain⟨m,q⟩:=(o.mem id).1 n;rcases m with rfl|rfl|m
  .exact absurd q o.n0
  .exact absurd q o.nx
  .exact m
theorem q0y{p:Pg}(h:QA p=true){j:Nat}{f:Pr}(m:p.A[j]?=some f):WayT (QQ p j f) f (QJ f.body+2):=by
 obtain⟨_,_,n⟩:=XK h;obtain⟨_,_,_,r,q⟩:=QU p;obtain⟨_,_,v,_⟩:=q j f m;refine⟨rfl,m,by show cntP p.A<=1000;omega,by omega,by omega,x2m (Hn m n) (by decide),OE h m,?_,fun l u=>?_,fun s w=>(V4 h m).2.2 s (((MA h m).2 s).1 w),Rg h m⟩
 ·have:=Pk (QD p j (QJ f.body+2:Nat)) (UZ (QQ p j f) f) (Hg (QJ f.body+2) (UZ (QQ p j f) f) (prsW (QQ p j f) f)) (QJ f.body+2);have e:trapsW (QQ p j f) f=X7 (QD p j (QJ f.body+2:Nat)) (UZ (QQ p j f) f) (Hg (QJ f.body+2) (UZ (QQ p j f) f) (prsW (QQ p j f) f)) (QJ f.body+2):=by
   unfold trapsW;rw[Rm];rfl
  rw[e];omega
 ·obtain⟨x,t⟩:=RD h m u;refine⟨by omega,fun id o=>?_⟩;have:=t id o;show 1<=id/\id<=(sheetOf p).l.length;omega
instance (a b:Step):Decidable (Qd a b):=inferInstanceAs (Decidable (_\/_))
instance:DecidableEq Step:=fun a b=>decidable_of_iff (a.src=b.src/\a.dst=b.dst/\a.kind=b.kind) ⟨fun h=>KF h.1 h.2.1 h.2.2,fun h=>by rw[h];exact⟨rfl,rfl,rfl⟩⟩
theorem q2p{a b:Step}(ha:okSt a)(l:okSt b)(h:FL b a=false):(a.src=b.src/\a.dst=b.dst/\a.kind<=b.kind)\/Qd a b:=by
 rw[x7d,ne_eq,KO]at h;unfold Qd;by_cases m:XU a.src=XU b.src
 ·by_cases n:XU a.dst=XU b.dst
  ·exact .inl ⟨YV ha.1 l.1 m,YV ha.2 l.2 n,by omega⟩
  ·exact .inr (by omega)
 ·exact .inr (by omega)
theorem Xd:∀(l:List Step)(a:Step),okSt a->(∀s∈l,okSt s)->(a::l).Pairwise (fun a b=>FL b a=false)->
  (∀s∈XX a l,Qd a s)/\(XX a l).Pairwise Qd/\(∀s∈XX a l,s∈l)/\∀s∈l,(s.src=a.src/\s.dst=a.dst/\a.kind<=s.kind)\/∃s'∈XX a l,s'.src=s.src/\s'.dst=s.dst/\s'.kind<=s.kind
 |[],a,_,_,_=>by simp[XX]
 | b::r,a,ha,hl,h=>by
   have x:=hl b x1f;have A:∀s∈r,okSt s:=fun s o=>hl s (x1d _ o);rw[x4h]at h;obtain⟨d,e⟩:=h;obtain⟨v,y,z,c⟩:=Xd r b x A e;have t:=q2p ha x (d b x1f);rw[XX];cases o:ZY b a with
   | true=>
     unfold ZY at o;simp only[x2z,x3u]at o;have g:a.kind<=b.kind:=by
      rcases t with n|n
      ·exact n.2.2
      ·unfold Qd at n;rw[o.1,o.2]at n;omega
     rw[x2y];refine⟨fun s m=>?_,y,fun s m=>x1d _ (z s m),fun s m=>?_⟩
     ·have:=v s m;unfold Qd at this⊢
      rwa[<-o.1,<-o.2]
     ·rcases x1p.1 m with rfl|m
      ·exact .inl ⟨o.1,o.2,g⟩
      ·rcases c s m with⟨n,q,w⟩|n
       ·exact .inl ⟨by rw[n,o.1],by rw[q,o.2],by omega⟩
       ·exact .inr n
   | false=>
     have u:Qd a b:=by
      rcases t with n|n
      ·unfold ZY at o;simp[n.1,n.2.1]at o
      ·exact n
     rw[x2f];refine⟨fun s m=>?_,x4h.2 ⟨v,y⟩,fun s m=>?_,fun s m=>?_⟩
     ·rcases x1p.1 m with rfl|m
      ·exact u
      ·exact Qb u (v s m)
     ·rcases x1p.1 m with rfl|m
      ·exact x1f
      ·exact x1d _ (z s m)
     ·rcases x1p.1 m with rfl|m
      ·exact .inr ⟨s,x1f,rfl,rfl,Int.le_refl _⟩
      ·rcases c s m with⟨n,q,w⟩|⟨s',n,q⟩
       ·exact .inr ⟨b,x1f,n.symm,q.symm,w⟩
       ·exact .inr ⟨s',x1d _ n,q⟩
def KC{l:List Step}(v:∀s∈l,okSt s):(WA l).Pairwise Qd/\(∀s∈WA l,s∈l)/\∀s∈l,∃s'∈WA l,s'.src=s.src/\s'.dst=s.dst/\s'.kind<=s.kind:=by
 have o:∀s,s∈JI l↔s∈l:=fun s=>(Y5 l).mem_iff;have q:=LG l;unfold WA;cases w:JI l with
 | nil=>
   rw[w]at o;refine⟨by simp[BC],by simp[BC],fun s q=>?_⟩;have:=(o s).2 q;cases this
 | cons a r=>
   rw[w]at o q;have n:∀s∈a::r,okSt s:=fun s h=>v s ((o s).1 h);obtain⟨x,y,z,b⟩:=Xd r a (n a x1f) (fun s h=>n s (x1d _ h)) q;rw[BC];refine⟨x4h.2 ⟨x,y⟩,fun s m=>?_,fun s m=>?_⟩
   .rcases x1p.1 m with rfl|m
    .exact (o s).1 x1f
    .exact (o s).1 (x1d _ (z s m))
   .rcases x1p.1 ((o s).2 m)with rfl|m
    .exact ⟨s,x1f,rfl,rfl,Int.le_refl _⟩
    .rcases b s m with⟨t,u,c⟩|⟨s',t,u⟩
     .exact ⟨a,x1f,t.symm,u.symm,c⟩
     .exact ⟨s',x1d _ t,u⟩
theorem CF{l:List Step}(h:l.Pairwise Qd){a b:Step}(ha:a∈l)(u:b∈l)(s:a.src=b.src)(t:a.dst=b.dst):a=b:=by
 have w:∀{x y:Step},x.src=y.src->x.dst=y.dst->¬Qd x y:=fun {x y} q e2 o=>by
  unfold Qd at o;rw[q,e2]at o;omega
 induction h with
 |nil=>cases ha
 | @cons c r v d z=>
   rcases x1p.1 ha with q|n
   ·rcases x1p.1 u with e2|m
    ·rw[q,e2]
    ·exact absurd (v b m) (by rw[<-q];exact w s t)
   ·rcases x1p.1 u with e2|m
    ·exact absurd (v a n) (by rw[<-e2];exact w s.symm t.symm)
    ·exact z n m
theorem Rh{l m:List Step}(u:∀s∈l,okSt s)(x:m.Pairwise Qd)(y:∀s∈m,s∈l)(z:∀s∈l,∃s'∈m,s'.src=s.src/\s'.dst=s.dst/\s'.kind<=s.kind):WA l=m:=by
 obtain⟨g1,v,w⟩:=KC u;refine Kn g1 x fun s=>⟨fun o=>?_,fun o=>?_⟩
 ·obtain⟨a,ha,h,n,c⟩:=z s (v s o);obtain⟨b,t,q,r,d⟩:=w a (y a ha);have:=CF g1 t o (q.trans h) (r.trans n);subst this;have:a=b:=KF h n (by omega);rw[<-this];exact ha
 ·obtain⟨a,ha,h,n,c⟩:=w s (y s o);obtain⟨b,t,q,r,d⟩:=z a (v a ha);have:=CF x t o (q.trans h) (r.trans n);subst this;have:a=b:=KF h n (by omega);rw[<-this];exact ha
def q5g:(QQ someP 1 f1).real=[⟨0,5,1⟩,⟨5,6,1⟩,⟨6,7,1⟩,⟨6,8,1⟩,⟨7,-1,1⟩,⟨8,-1,1⟩]:=q5v
def q5k:(QQ someP 0 f0).real=[⟨0,1,1⟩,⟨1,2,1⟩,⟨2,3,1⟩,⟨3,4,1⟩,⟨4,-1,1⟩]:=q5w
def q6k:prsW (QQ someP 1 f1) f1=[(0,1),(1,2),(2,3),(2,4),(3,5),(4,5)]:=by
 unfold prsW;rw[q5g]
 kernel_rfl
def q6j:prsW (QQ someP 0 f0) f0=[(0,1),(1,2),(2,3),(3,4),(4,5)]:=by
 unfold prsW;rw[q5k]
 kernel_rfl
def q5m:trapsW (QQ someP 1 f1) f1=[]:=by
 unfold trapsW UZ;rw[q6k]
 kernel_rfl
def q5n:trapsW (QQ someP 0 f0) f0=[]:=by
 unfold trapsW UZ;rw[q6j]
 kernel_rfl
def q6r:NS (QQ someP 1 f1) f1=[⟨0,5,1⟩,⟨5,6,1⟩,⟨6,7,1⟩,⟨6,8,1⟩,⟨7,-1,1⟩,⟨8,-1,1⟩]:=by
 unfold NS ZL;rw[q5m,q5g];exact Rh (by unfold okSt;decide) (by decide) (by decide) (by decide)
theorem Ia{p:Pg}(h:QA p=true){j:Nat}{f:Pr}(l:p.A[j]?=some f){a:Int}:¬wR p j f a 0:=fun⟨s,n,_,o⟩=>by
 have m:=((V4 h l).2.1 s (((MA h l).2 s).1 n)).2;unfold okI at m;omega
def q2c{p:Pg}(h:QA p=true){j:Nat}{f:Pr}(m:p.A[j]?=some f){t:S}(q:t∈flL f.body):S7 p t.id=some t:=by
 have o:=VT (QP h).1 m q;obtain⟨u,v,n,r⟩:=F2 h m o.1 o.2;obtain⟨w,s,rfl⟩:=q4a (p:=p) (j:=j) q;obtain⟨x,l,rfl⟩:=q4a (p:=p) (j:=j) v;rw[OP (QP h).1 m l s r]at n;exact n
def DM{p:Pg}(h:QA p=true){j:Nat}{f:Pr}(q:p.A[j]?=some f){s:Step}:s∈ZL (QQ p j f) f ↔ ∃l∈trapsW (QQ p j f) f,∃t∈flL f.body,t.id∈l/\t.kind=10/\s=⟨t.id,-1,3⟩:=by
 unfold ZL;constructor
 .intro m;obtain⟨l,o,m⟩:=x2p.1 m;obtain⟨id,n,m⟩:=x2p.1 m;have w:=(RD h q o).2 id n;obtain⟨t,u,x,v⟩:=F2 h q w.1 w.2;have e:(QQ p j f).p=p:=rfl;unfold vOf at m;rw[e,x]at m;simp only at m;split at m
  .rename_i r;exact⟨l,o,t,u,by rw[v];exact n,r,by rw[v];simpa using m⟩
  .cases m
 .rintro ⟨l,o,t,u,n,r,rfl⟩;refine x2p.2 ⟨l,o,x2p.2 ⟨t.id,n,?_⟩⟩;have e:(QQ p j f).p=p:=rfl;unfold vOf;rw[e,q2c h q u];simp[r]
def Gc{p:Pg}(h:QA p=true){j:Nat}{f:Pr}(l:p.A[j]?=some f):∀s∈ZL (QQ p j f) f++(QQ p j f).real,okSt s:=fun s m=>
 (x1s.1 m).elim ((q0y h l).virt_ok s) ((q0y h l).hok s)
def SS{p:Pg}(h:QA p=true){j:Nat}{f:Pr}(o:p.A[j]?=some f){s:Step}(q:s∈ZL (QQ p j f) f++(QQ p j f).real):stR (NS (QQ p j f) f) s.src s.dst:=by
 obtain⟨s',l,m,n,_⟩:=(KC (Gc h o)).2.2 s q;exact⟨s',l,m,n⟩
theorem Gs{p:Pg}(h:QA p=true){j:Nat}{f:Pr}(n:p.A[j]?=some f):(NS (QQ p j f) f).length<=200000:=by
 obtain⟨_,_,q⟩:=XK h;obtain⟨_,_,_,v,r⟩:=QU p;obtain⟨_,_,b,_⟩:=r j f n;obtain⟨w,x,_⟩:=KC (Gc h n);have y:=MP (l:=NS (QQ p j f) f) (m:=(QQ p j f).real++(LC (QT p.A j) (QJ f.body)).map fun id=>⟨id,-1,3⟩) (Ru w) fun s c=>by
  rcases x1s.1 (x s c)with o|o
  ·obtain⟨l,B,t,d,z,g,rfl⟩:=(DM h n).1 o;have u:=VT (QP h).1 n d;exact x1s.2 (.inr (x1r.2 ⟨t.id,La u.1 u.2,rfl⟩))
  ·exact x1s.2 (.inl o)
 rw[x1h,x1j]at y;have o:=Hn n q;have e:(LC (QT p.A j) (QJ f.body)).length=QJ f.body:=by unfold LC;simp
 omega
theorem Wr.u64{n:Int}{K:Int->Prop}(m:0<=n)(o:n<=18446744073709551615)(l:K n):Wr .u64 n K:=
 .fit ⟨by simp[IntKind.min,IntKind.signed];omega,by simp[IntKind.max,IntKind.signed,IntKind.bits];omega⟩ l
def SQ{P:Program}{g:Bool}{s:St}{o:Oper}{K:LV->Prop}{t u:TypeId}{x y:Operand}(q:o.op=.binOp .shr t x y u){a:Int}(ha:0<=a)(B:QG s.sl x=.p (.int .u64 a))(C:QG s.sl y=.p (.int .u64 1)){m:Int}(e:m=a/2)(c:K (.p (.int .u64 m))):ValO P g s o K:=by
 subst e;refine⟨fun σ β D w r _=>⟨_,.int .u64 (a/2),c,.p (.int _ _),fun w' _ _=>?_⟩⟩;have h:=QX r x;have l:=QX r y;rw[B]at h;rw[C]at l;cases h with
 | p h=>
   cases l with
   | p l=>
     have key:∀(n:Int)(v:Value),Rep σ (.int .u64 n) v->v=.int .u64 n:=fun n v A=>by
      cases A;rfl
     have z:=key _ _ h;have e2:=key _ _ l;have b:a.fdiv (2^1)=a/2:=Int.fdiv_eq_ediv_of_nonneg _ (by decide);have d:(eqGuard .shr t x y (.int .u64 a) (.int .u64 1)).run P w'=.ok () w':=by unfold eqGuard;rfl
     simp only[execOp,q,z,e2,Sem.run_bind,d,Result.andThen_ok,binOp,Op.shift];rw[if_neg (by decide)];simp only[show min (1:Int).toNat IntKind.u64.bits=1 by decide,b];rfl
theorem WV(l m:List Str):aP 107 [eStrs l,eStrs m] (.bool (decide (l=m))):=by
 refine sC YB func107 ?_;conv=>whnf
 have y:(l.map AV.str).length=l.length:=x1j _;have z:(m.map AV.str).length=m.length:=x1j _;repeat' ((first|(refine iM fun _=>?_)|(apply bE<;>intro _<;>try omega))<;>conv=>whnf)
 all_goals first
  |exact RetK.ff (x3w fun h=>by subst h;omega)
  |skip
 have w:l.length=m.length:=by omega
 refine lI (fun j:Nat=>⟨[(0,.p (eStrs l)),(1,.p (eStrs m)),(12,.p (.int .i64 (l.map AV.str).length)),(13,.j j)],[]⟩) (fun j=>j<=l.length/\l.take j=m.take j) (fun j=>l.length-j) 0 ⟨x1l _,rfl⟩ ?_;rintro j ⟨b,o⟩;rcases x1a j l.length with n|n
 ·have s:j<m.length:=by omega
  have v:l[j]=m[j]->l.take (j+1)=m.take (j+1):=fun r=>by rw[x1t n,x1t s,o,r]
  have u:l[j]≠m[j]->¬l=m:=fun t r=>t (by subst r;rfl);conv=>whnf
  repeat' ((first|refine dA ?_|(refine gX ?_;intros)|((first|apply bD|apply bN)<;>intro _<;>try omega))<;>conv=>whnf)
  all_goals first
   | (have q:l[j]=m[j]:=eq_of_beq (by assumption)
      exact nX (j+1) ⟨n,v q⟩)
   | (have q:¬l[j]=m[j]:=by
       have x:(l[j]==m[j])=false:=by assumption
       simpa using x
      exact RetK.ff (x3w (u q)))
 ·rw[x1i n,x1i (by omega)]at o;conv=>whnf
  repeat' (apply bD<;>intro _<;>first|omega|conv=>whnf)
  all_goals exact RetK.tt (x3x o)
def UP(a:Str):aP 181 [.str a] (.bool false):=by
 refine sC BJ func181 ?_;conv=>whnf
 skip
 all_goals exact RetK.bool (by simp)
def DE(a:Str):aP 232 [.str a] (.bool false):=by
 refine sC HZ func232 ?_;conv=>whnf
 skip
 all_goals exact RetK.bool (by simp)
theorem Zv(a b:Str):aP 197 [.str a,.str b] (.bool (Op.bytesLess a b)):=by
 refine sC PA func197 ?_;conv=>whnf
 repeat' ((first|refine cP (UP a) ?_|(apply bB<;>intro _))<;>conv=>whnf)
 all_goals first
  |contradiction
  |exact RetK.p rfl
theorem VN(l:List Str)(x:Str)(K:l.Pairwise ltT)(G:l.length<=1000000000):SpecP prog 179 [eStrs l,.str x] (fun r=>∃k:Int,r=.tup [.int .i64 k,.bool (inS l x)]):=by
 refine sC WR func179 ?_;conv=>whnf
 have C:(l.map AV.str).length=l.length:=x1j _;repeat' ((refine iM fun _=>?_)<;>conv=>whnf)
 refine lJ (fun y:Nat×Nat=>⟨[(0,.p (eStrs l)),(1,.p (.str x)),(6,.p (.int .i64 (l.map AV.str).length)),(7,.j y.1),(8,.j y.2)],[]⟩) (fun y=>y.1<=y.2/\y.2<=l.length/\(∀(k:Nat)(h:k<l.length),k<y.1->ltT l[k] x)/\∀(k:Nat)(h:k<l.length),y.2<=k->¬ltT l[k] x) (fun y=>y.2-y.1) (0,l.length) (Le.of_eq (by rw[C];rfl)) ⟨x1l _,x2q _,fun k h w=>by simp only at w;omega,fun k h w=>by simp only at w;omega⟩ ?_;rintro⟨i,j⟩ ⟨w,D,d,g⟩;simp only at w D d g⊢;have v:∀(a b:Nat)(ha:a<l.length)(E:b<l.length),a<b->ltT l[a] l[b]:=fun a b ha E A=>x6f.1 K a b ha E A;rcases x1a i j with B|B
 ·have F:(i+j)/2<l.length:=by omega
  have I:=Zv l[(i+j)/2] x;conv=>whnf
  repeat' ((first|(refine gX ?_;intros)|refine Wr.u64 (by omega) (by omega) ?_|refine SQ rfl (by omega) rfl rfl (m:=(((i+j)/2:Nat):Int)) (by omega) ?_|refine cP I ?_|((first|apply bD|apply bB)<;>intro _<;>try omega))<;>conv=>whnf)
  all_goals first
   | (have s:Op.bytesLess l[(i+j)/2] x=true:=by assumption
      refine nX ((i+j)/2+1,j) ⟨by simp only;omega,D,fun k t u=>?_,g⟩;simp only at u;rcases x1a k ((i+j)/2)with n|n
      ·exact ltT.trans _ _ _ (v _ _ t F n) s
      ·have:k=(i+j)/2:=by omega
       subst this;exact s)
   | (have s:Op.bytesLess l[(i+j)/2] x=false:=by assumption
      have z:¬ltT l[(i+j)/2] x:=fun h=>by unfold ltT at h;rw[s]at h;cases h
      refine nX (i,(i+j)/2) ⟨by simp only;omega,by simp only;omega,d,fun k t u c=>?_⟩;simp only at u;rcases x1a ((i+j)/2) k with n|n
      ·exact z (ltT.trans _ _ _ (v _ _ F t n) c)
      ·have:k=(i+j)/2:=by omega
       subst this;exact z c)
 ·obtain rfl:i=j:=by omega
  rcases x1a i l.length with e|e
  ·have o:inS l x=(l[i]==x):=by
    rw[x6d,FQ,x5p];constructor
    ·intro L;obtain⟨k,t,rfl⟩:=x4q.1 L;rcases Nat.lt_trichotomy k i with q|q|q
     ·exact absurd (d k t q) (ltT.irr _)
     ·subst q;rfl
     ·exact absurd (v i k e t q) (g i e (x2q _))
    ·intro q;rw[<-q];exact x1c e
   have J:=DE l[i];conv=>whnf
   repeat' ((first|(refine iA fun _=>?_)|refine cP J ?_|((first|apply bD|apply bB)<;>intro _<;>try omega))<;>conv=>whnf)
   all_goals first
    |(exfalso;omega)
    |(exfalso;simp_all;done)
    | (have s:inS l x=true:=by rw[o];assumption
       exact⟨_,.p (Sub.tup (.cons (Sub.refl _) (.cons (Sub.tt s) .nil))),_,rfl⟩)
    | (have s:inS l x=false:=by rw[o];assumption
       exact⟨_,.p (Sub.tup (.cons (Sub.refl _) (.cons (Sub.ff s) .nil))),_,rfl⟩)
  ·have o:inS l x=false:=by
    cases q:inS l x with
    |false=>rfl
    | true=>
      obtain⟨k,t,H⟩:=x4q.1 (FQ.1 q);exact absurd (d k t (by omega)) (by rw[H];exact ltT.irr _)
   conv=>whnf
   repeat' (apply bD<;>intro _<;>first|omega|conv=>whnf)
   all_goals first
    |(exfalso;omega)
    |exact⟨_,.p (Sub.tup (.cons (Sub.refl _) (.cons (Sub.ff o) .nil))),_,rfl⟩
    |exact⟨_,.p (Sub.refl _),_,by rw[o];rfl⟩
def DY(l:List Str)(x:Str)(n:l.Pairwise ltT)(h:l.length<=1000000000):aP 131 [eStrs l,.str x] (.bool (inS l x)):=by
 refine sC RA func131 ?_;conv=>whnf
 have m:=VN l x n h;repeat' ((refine CallK.pure m (.cons (Sub.refl _) (.cons (Sub.refl _) .nil)) ?_;rintro _ ⟨k,rfl⟩)<;>conv=>whnf)
 all_goals first
  |exact RetK.p rfl
end Go.Ab
