/- ref3: a new expression. -/
import Derived.Test.YtonbdgcjnecapaaGreatRchR13
import Derived.Test.YtonbdgcjnecapaaGreatRchR14
import Derived.Test.YtonbdgcjnecapaaGreatRchR15
import Derived.Test.YtonbdgcjnecapaaGreatRchR16
set_option linter.all false
set_option maxRecDepth 100000
set_option maxHeartbeats 16000000
open Int (ofNat)
namespace Go.Ab
open Go.Proofs.Tryz
open Go.Proofs
variable {f:Pr}{p:Pg}{s:Str}{w:Nat}
def YH : ∀(k:Nat)(x:X)(_:wX x<k)(_:k<=21002),SpecP prog 209 [.agg x.cells] (fun r=>r=.agg x.cells):=by
 intro k;induction k with
 |zero=>intro x h;omega
 | succ k g=>
   intro x z B;have e:wX x=1+wXs x.kids:=by cases x;rw[wX];rfl
   have a:=X.avs_len x.kids;have b:=IG x.kids;refine sB GE func209 rfl call209 ?_;conv=>whnf
   repeat' ((first|(refine iM fun _=>?_)|refine x7g rfl ?_);conv=>whnf)
   all_goals
    refine LoopK.inv QV (fun j:Nat=>⟨[(1,.p (.ip x.cells)),(2,.ptr 1 0),(3,.ptr 0 0),(14,.p (.int .i64 (X.avs x.kids).length)),(15,.j j)],[(0,.obj 114 [.p (.int .i64 x.op),.j x.n,.p (.str (x.name)),.hd 2 0 j]),(1,.obj 114 [.p (.int .i64 0),.j 0,.p (.str []),.p .nils]),(2,.own 114 4 (X.avs (x.kids.take j)))]⟩) (fun j=>j<=x.kids.length) (fun j=>x.kids.length-j) 0
     (Le.mk [(2,.own 114 4 [])] (by simp[Chunk.new0];rfl) (by simp) (by simp) (.r (.r (.r (.r (.r .nil))))) (.cons rfl (.obj (.r (.r (.r (.cons (.nil x7v) .nil))))) (.cons rfl (.refl _) (.new x7v .nil)))) (x7p _) ?_
    intro j A;rcases x7m j x.kids.length with u|u
    .have d:=q4z (x7l u);have y:=g x.kids[j] (by omega) (by omega);have v:X.avs (x.kids.take (j+1))=X.avs (x.kids.take j)++[.agg (x.kids[j]).cells]:=by
      rw[X.avs_eq,X.avs_eq,x7r u,x7n];rfl
     have q:(X.avs (x.kids.take j)).length=j:=by rw[X.avs_len,x8q];omega
     generalize X.avs (x.kids.take j)=acc at v q⊢;conv=>whnf
     repeat' (first|((first|refine dA ?_|refine x7g rfl ?_|refine aD ?_|refine bP ?_|refine IdxK.xs (by omega) ?_|refine wI ?_|refine cP y ?_|refine z0w q.symm rfl (by show(j+1)*56<=140737488355328;omega) (by show j+1<=9223372036854775807;omega) (fun x z=>by rcases x7y.1 z with rfl;exact⟨rfl,rfl⟩) ?_);conv=>whnf)|(apply bD<;>intro _<;>first|omega|conv=>whnf)|(refine x7g ?_ ?_<;>conv=>whnf))
     all_goals exact⟨j+1,u,by omega,Le.of_eq (by rw[v];rfl)⟩
    .have t:X.avs (x.kids.take j)=X.avs x.kids:=by rw[x7a u]
     have q:(X.avs (x.kids.take j)).length=j:=by rw[X.avs_len,x8q];omega
     conv=>whnf
     repeat' (first|(refine x7g rfl ?_;conv=>whnf)|(apply bD<;>intro _<;>first|omega|conv=>whnf))
     refine⟨_,.agg (cs:=x.cells) rfl fun i l c m o=>?_,rfl⟩
     match i,m,o with
     |0,m,o=>cases m;cases o;exact .p (Sub.refl _)
     |1,m,o=>cases m;cases o;exact .p (Sub.refl _)
     |2,m,o=>cases m;cases o;exact .p (Sub.refl _)
     | 3,m,o=>
       cases m;cases o;show Frz _ _ (.sl (X.avs x.kids));rw[<-t];exact .hd rfl q.symm
     |i+4,m,o=>simp at m
def x5n(s:S):S:=.mk s.id s.kind s.G s.name s.D s.x s.has s.args [] []
def WM(s:S)(z:wX s.x<=21000)(g:s.G.length<=1000000)(ha:s.args.length<=1000000)(v:∀a∈s.args,wX a.x<=21000):SpecP prog 144 [.agg s.cells] (fun r=>r=.agg (x5n s).cells):=by
 refine sB FU func144 rfl call144 ?_;conv=>whnf
 have e:(s.args.map fun a=>AV.agg a.cells).length=s.args.length:=x7z _;have b:=YH 21001 s.x (by omega) (by omega);repeat' (first|((first|(refine iM fun _=>?_)|refine dA ?_|refine x7g rfl ?_|refine cP b ?_|refine cP (XW s.G g) ?_);conv=>whnf)|(refine x7g ?_ ?_<;>conv=>whnf))
 all_goals
  refine LoopK.inv QV (fun j:Nat=>⟨[(2,.ptr 1 0),(3,.ptr 0 0),(24,.p (Am s.args)),(25,.p (.int .i64 (s.args.map fun a=>AV.agg a.cells).length)),(26,.j j)],[(0,.obj 117 [.p (.int .i64 s.id),.j s.kind,.p (eStrs s.G),.p (.str s.name),.p (.str s.D),.j s.x.op,.j s.x.n,.p (.str s.x.name),.p (.sl (X.avs s.x.kids)),.p (.bool s.has),.hd 2 0 j,.p .nils,.p .nils]),(1,.obj 117 [.p (.int .i64 0),.j 0,.p .nils,.p (.str []),.p (.str []),.j 0,.j 0,.p (.str []),.p .nils,.p .ff,.p .nils,.p .nils,.p .nils]),(2,.own 138 6 ((s.args.take j).map fun a=>.agg a.cells))]⟩) (fun j=>j<=s.args.length) (fun j=>s.args.length-j) 0
   (Le.mk [(2,.own 138 6 [])] (by simp[Chunk.new0];rfl) (by simp) (by simp) (.r (.r (.r (.r (.r .nil))))) (.cons rfl (.obj (.r (.r (.r (.r (.r (.r (.r (.r (.r (.r (.cons (.nil x7v) (.r (.r .nil)))))))))))))) (.cons rfl (.refl _) (.new x7v .nil)))) (x7p _) ?_
  intro j A;rcases x7m j s.args.length with t|t
  .have y:=v _ (x7l t);have d:=YH 21001 s.args[j].x (by omega) (by omega);have u:((s.args.take (j+1)).map fun a=>AV.agg a.cells)=((s.args.take j).map fun a=>AV.agg a.cells)++[.agg s.args[j].cells]:=by
    rw[x7r t,x7n];rfl
   have o:((s.args.take j).map fun a=>AV.agg a.cells).length=j:=by rw[x7z,x8q];omega
   generalize((s.args.take j).map fun a=>AV.agg a.cells)=acc at u o⊢;conv=>whnf
   repeat' (first|((first|refine dA ?_|refine x7g rfl ?_|refine aD ?_|refine bP ?_|(refine iA fun _=>?_)|refine wI ?_|refine cP d ?_|refine z0w o.symm rfl (by show(j+1)*80<=140737488355328;omega) (by show j+1<=9223372036854775807;omega) (fun x z=>by rcases x7y.1 z with rfl;exact⟨rfl,rfl⟩) ?_);conv=>whnf)|(apply bD<;>intro _<;>first|omega|conv=>whnf)|(refine x7g ?_ ?_<;>conv=>whnf))
   all_goals exact⟨j+1,t,by omega,Le.of_eq (by rw[u];rfl)⟩
  .have q:((s.args.take j).map fun a=>AV.agg a.cells)=s.args.map fun a=>.agg a.cells:=by rw[x7a t]
   have o:((s.args.take j).map fun a=>AV.agg a.cells).length=j:=by rw[x7z,x8q];omega
   conv=>whnf
   repeat' (first|(refine x7g rfl ?_;conv=>whnf)|(apply bD<;>intro _<;>first|omega|conv=>whnf))
   refine⟨_,.agg (cs:=(x5n s).cells) rfl fun i l c h m=>?_,rfl⟩
   match i,h,m with
   |0,h,m=>cases h;cases m;exact .p (Sub.refl _)
   |1,h,m=>cases h;cases m;exact .p (Sub.refl _)
   |2,h,m=>cases h;cases m;exact .p (Sub.refl _)
   |3,h,m=>cases h;cases m;exact .p (Sub.refl _)
   |4,h,m=>cases h;cases m;exact .p (Sub.refl _)
   |5,h,m=>cases h;cases m;exact .p (Sub.refl _)
   |6,h,m=>cases h;cases m;exact .p (Sub.refl _)
   |7,h,m=>cases h;cases m;exact .p (Sub.refl _)
   |8,h,m=>cases h;cases m;exact .p (Sub.refl _)
   |9,h,m=>cases h;cases m;exact .p (Sub.refl _)
   | 10,h,m=>
     cases h;cases m;show Frz _ _ (.sl (s.args.map fun a=>.agg a.cells));rw[<-q];exact .hd rfl o.symm
   |11,h,m=>cases h;cases m;exact .p Sub.nils
   |12,h,m=>cases h;cases m;exact .p Sub.nils
   |i+13,h,m=>simp at h
mutual
def nmS(n:Nat):S->S
 |.mk _ kind G name D x has args L M=>.mk ((n+1:Nat):Int) kind G name D x has args (nmL (n+1) L) (nmL (n+1+cntL L) M)
def nmL(n:Nat):List S->List S
 |[]=>[]
 |t::r=>nmS n t::nmL (n+ZU t) r
end
def Gl(n:Nat)(t:S):nmS n t=.mk ((n+1:Nat):Int) t.kind t.G t.name t.D t.x t.has t.args (nmL (n+1) t.L) (nmL (n+1+cntL t.L) t.M):=by
 cases t;rw[nmS];rfl
theorem Xt(n:Nat):∀l:List S,(nmL n l).length=l.length
 |[]=>by rw[nmL]
 |t::r=>by rw[nmL,x8j,x8j,Xt _ r]
theorem Ed:∀(l:List S)(n j:Nat)(h:j<l.length),(nmL n l)[j]?=some (nmS (n+cntL (l.take j)) l[j])
 |t::r,n,0,h=>by rw[nmL];simp[cntL]
 | t::r,n,j+1,h=>by
   rw[nmL,z3w,Ed r (n+ZU t) j (by simpa using h),List.take_succ_cons,cntL,z0l];rfl
theorem Ph:∀(l:List S)(j:Nat)(h:j<l.length),cntL (l.take (j+1))=cntL (l.take j)+ZU l[j]
 |t::r,0,h=>by simp[cntL]
 | t::r,j+1,h=>by
   rw[List.take_succ_cons,List.take_succ_cons,cntL,cntL,Ph r j (by simpa using h),z0l];rfl
theorem Wi:∀l:List S,l.length<=cntL l
 |[]=>by simp
 | t::r=>by
   rw[cntL,x8j];have:=Wi r;have:1<=ZU t:=by cases t;rw[ZU];omega
   omega
def okC(t:S):Prop:=wX t.x<=21000/\t.G.length<=1000000/\t.args.length<=1000000/\∀a∈t.args,wX a.x<=21000
theorem Wo:∀{l:List S}{t:S},t∈l->ZU t<=cntL l
 | a::r,t,h=>by
   rw[cntL];rcases x7f.1 h with rfl|h
   .omega
   .have:=Wo h;omega
def DE:∀(k:Nat)(l:List S)(_:cntL l<k)(n:Nat)(_:n+cntL l<=1000000)(_:∀t∈flL l,okC t),SpecP prog 132 [eSs l,.int .i64 (n:Nat)] (fun r=>r=.tup [eSs (nmL n l),.int .i64 (n+cntL l:Nat)]):=by
 intro k;induction k with
 |zero=>intro l h;omega
 | succ k e=>
   intro l U n V C;have O:(S.avs l).length=l.length:=by rw[S.avs_eq,x7z]
   have K:=Wi l;refine sB GI func132 rfl call132 ?_;conv=>whnf
   repeat' (refine iM fun _=>?_;conv=>whnf)
   refine LoopK.inv QV (fun j:Nat=>⟨[(1,.j (n+cntL (l.take j):Nat)),(6,.hd 0 0 j),(10,.p (eSs l)),(11,.p (.int .i64 (S.avs l).length)),(12,.j j)],[(0,.own 117 13 (S.avs ((nmL n l).take j)))]⟩) (fun j=>j<=l.length) (fun j=>l.length-j) 0
    (Le.mk [(0,.own 117 13 [])] (by simp[Chunk.new0];rfl) (by simp) (by simp) (.cons (.of_eq (by simp[cntL];rfl)) (.cons (.nil x7v) (.r (.r (.r .nil))))) (.new x7v .nil)) (x7p _) ?_
   intro j T;rcases x7m j l.length with q|q
   .have G:=Ph l j q;have P:=Wo (x7l q);have E:=WQ l[j];have B:=Ed l n j q;have N:cntL (l.take (j+1))<=cntL l:=by
     conv=>rhs;rw[<-z2z (j+1) l]
     have:∀a b:List S,cntL (a++b)=cntL a+cntL b:=fun a b=>by
      induction a with
      |nil=>simp[cntL]
      |cons x r e=>rw[List.cons_append,cntL,cntL,e,z0l]
     rw[this];omega
    have o:=C _ (BK l _ (x7l q));have u:∀t,t∈flL l[j].L\/t∈flL l[j].M->okC t:=fun t v=>C t (by
     have:t∈flS l[j]:=by
      rw[G2];exact x7j _ (x7b.2 v)
     have key:∀(m:List S)(i:Nat)(h:i<m.length),t∈flS m[i]->t∈flL m:=fun m=>by
      induction m with
      |nil=>intro i h;simp at h
      | cons a r e=>
        intro i h v;rw[flL];cases i with
        |zero=>exact x7b.2 (.inl v)
        |succ i=>exact x7b.2 (.inr (e i (by simpa using h) v))
     exact key l j q this)
    have H:=WM l[j] o.1 o.2.1 o.2.2.1 o.2.2.2;have I:=e l[j].L (by omega) (n+cntL (l.take j)+1) (by omega) fun t v=>u t (.inl v);have J:=e l[j].M (by omega) (n+cntL (l.take j)+1+cntL l[j].L) (by omega) fun t v=>u t (.inr v);have g:j=(S.avs ((nmL n l).take j)).length:=by rw[S.avs_eq,x7z,x8q,Xt];omega
    have D:S.avs ((nmL n l).take (j+1))=S.avs ((nmL n l).take j)++[.agg (nmS (n+cntL (l.take j)) l[j]).cells]:=by
     rw[S.avs_eq,S.avs_eq,List.take_add_one,B,x7n];rfl
    conv=>whnf
    repeat' (first|((first|refine x7g rfl ?_|refine aD ?_|refine bP ?_|refine UK (by omega) ?_|refine wI ?_|refine cP H ?_|(refine CallK.pure I (.cons (Sub.refl _) (.cons (Sub.int (by omega)) .nil)) ?_;rintro _ rfl)|(refine CallK.pure J (.cons (Sub.refl _) (.cons (Sub.int (by omega)) .nil)) ?_;rintro _ rfl)|refine z0w g rfl (by show(j+1)*208<=140737488355328;omega) (by show j+1<=9223372036854775807;omega) (fun x Q=>by rcases x7y.1 Q with rfl;exact⟨rfl,rfl⟩) ?_);conv=>whnf)|(apply bD<;>intro _<;>first|omega|conv=>whnf))
    exact⟨j+1,q,by omega,Le.mk [] (by simp) (by simp) (by simp) (.cons (.of_eq (by rw[G,E,show n+(cntL (l.take j)+(1+cntL l[j].L+cntL l[j].M))=n+cntL (l.take j)+1+cntL l[j].L+cntL l[j].M by omega];rfl)) (.r (.r (.r (.r .nil))))) (.cons rfl (.of_eq (by rw[D,Gl];rfl)) .nil)⟩
   .have A:(nmL n l).take j=nmL n l:=x7a (by rw[Xt];exact q);have z:l.take j=l:=x7a q;have F:j=(S.avs (nmL n l)).length:=by rw[S.avs_eq,x7z,Xt];omega
    rw[A,z];conv=>whnf
    repeat' (apply bD<;>intro _<;>first|omega|conv=>whnf)
    refine⟨_,.tup (cs:=[eSs (nmL n l),.int .i64 (n+cntL l:Nat)]) rfl fun i l' c y d=>?_,rfl⟩
    match i,y,d with
    |0,y,d=>cases y;cases d;exact .hd rfl F
    |1,y,d=>cases y;cases d;exact .p (Sub.refl _)
    |i+2,y,d=>simp at y
def ElS(es es':List AV):Prop:=es'.length=es.length/\∀(m:Nat)(x':AV),es'[m]?=some x'->∃x,es[m]?=some x/\x'.cells.length=x.cells.length/\∀(j:Nat)(c':AV),x'.cells[j]?=some c'->∃c,x.cells[j]?=some c/\Sub c c'
theorem ElS.refl(es:List AV):ElS es es:=⟨rfl,fun _ x' h=>⟨x',h,rfl,fun _ c' j=>⟨c',j,Sub.refl _⟩⟩⟩
def BQ{es es':List AV}(h:ElS es es'){x x':AV}(v:x'.cells.length=x.cells.length)(u:∀(j:Nat)(c':AV),x'.cells[j]?=some c'->∃c,x.cells[j]?=some c/\Sub c c'):ElS (es++[x]) (es'++[x']):=by
 refine⟨by simp[h.1],fun m y n=>?_⟩;rcases x7m m es'.length with o|o
 .rw [x8c o]at n;obtain⟨z,r,t⟩:=h.2 m y n;exact⟨z,by rw[x8c (by rw[<-h.1];exact o)];exact r,t⟩
 .rw [x8f o]at n;have q:m-es'.length=0:=by
   have:=(x7h.1 n).1;simp at this;omega
  rw[q]at n;cases n;exact⟨x,by rw[x8f (by rw[<-h.1];exact o),<-h.1,q];rfl,v,u⟩
inductive SubH:Heap->Heap->Prop
 |nil:SubH [] []
 |same {c:Nat×Chunk} {H H':Heap} (h:SubH H H'):SubH (c::H) (c::H')
 |M {k:Nat} {e:TypeId} {sz:Nat} {es es':List AV} {H H':Heap} (hp:ElS es es') (h:SubH H H'):SubH ((k,.own e sz es)::H) ((k,.own e sz es')::H')
theorem SubH.get{H H':Heap}(h:SubH H H'):H'.map (·.1)=H.map (·.1)/\∀j c',(j,c')∈H'->(j,c')∈H\/∃e sz es es',(j,Chunk.own e sz es)∈H/\c'=.own e sz es'/\ElS es es':=by
 induction h with
 |nil=>exact⟨rfl,by simp⟩
 | same h q=>
   refine⟨by simp[q.1],fun j c' m=>?_⟩;rcases x7f.1 m with rfl|m
   .exact .inl x7v
   .rcases q.2 j c' m with o|⟨e,sz,es,es',o,r⟩
    .exact .inl (x7j _ o)
    .exact .inr ⟨e,sz,es,es',x7j _ o,r⟩
 | @M k e sz es es' H H' t h q=>
   refine⟨by simp[q.1],fun j c' m=>?_⟩;rcases x7f.1 m with m|m
   .cases m;exact .inr ⟨e,sz,es,es',x7v,rfl,t⟩
   .rcases q.2 j c' m with o|⟨e,sz,es,es',o,r⟩
    .exact .inl (x7j _ o)
    .exact .inr ⟨e,sz,es,es',x7j _ o,r⟩
theorem Le.M{N:Nat}{sl:List (Nat×LV)}{H H':Heap}(h:SubH H H'):Le N ⟨sl,H⟩ ⟨sl,H'⟩:=fun σ β a w o=>by
 obtain⟨v,A⟩:=h.get;refine⟨σ,β,⟨o.size,o.defers,o.E,⟨o.heap.mem,fun j c' q=>?_,by show(H'.map (·.1)).Nodup;rw[v];exact o.heap.nodup,fun j q=>o.heap.apart j (by rw[<-v];exact q),fun j q V B=>o.heap.inj j (by rw[<-v];exact q) V (by rw[<-v];exact B)⟩⟩,Mem.le_refl σ,Frm.refl _ w,fun b L t=>absurd L t,fun b ⟨j,q,r⟩=>.inl ⟨j,by rw[<-v];exact q,r⟩,fun _ _ _=>rfl⟩;rcases A j c' q with t|⟨e,sz,es,es',t,rfl,y⟩
 .exact o.heap.chunks j c' t
 .rcases o.heap.chunks j _ t with⟨z,g⟩|⟨i,vs,z,g,O,P,Q,T,C⟩
  .refine .inl ⟨z,?_⟩;have:=y.1;rw[g]at this;exact x9y this
  .refine .inr ⟨i,vs,z,g,O,P,by rw[y.1];exact Q,T,fun m x' U=>?_⟩;obtain⟨x,g1,D,F⟩:=y.2 m x' U;refine⟨by rw[D];exact(C m x g1).1,fun j c' A=>?_⟩;obtain⟨c,G,I⟩:=F j c' A;obtain⟨u,J,K⟩:=(C m x g1).2 j c G;exact⟨u,J,I _ _ K⟩
def nxE(rows:List (List Int))(t:Int×Int):List (List Int):=rows.set t.1.toNat (rows.getD t.1.toNat []++[t.2])
def Q2(n:Nat)(l:List (Int×Int)):List (List Int):=l.foldl nxE (List.replicate n [])
def En(rows:List (List Int))(t:Int×Int):(nxE rows t).length=rows.length:=x9d
theorem N0:∀(l:List (Int×Int))(rows:List (List Int)),(l.foldl nxE rows).length=rows.length
 |[],_=>rfl
 |t::r,rows=>by rw[z0b,N0 r,En]
def Ys(n:Nat)(l:List (Int×Int)):(Q2 n l).length=n:=by
 unfold Q2;rw[N0,x9w]
theorem Po:∀(l:List (Int×Int))(rows:List (List Int))(a:Nat),((l.foldl nxE rows).getD a []).length<=(rows.getD a []).length+l.length
 |[],_,_=>x7s _
 | t::r,rows,a=>by
   rw[z0b];have m:=Po r (nxE rows t) a;have n:((nxE rows t).getD a []).length<=(rows.getD a []).length+1:=by
    unfold nxE;simp only[x7w,z1n];by_cases h:t.1.toNat=a
    .subst h;by_cases j:t.1.toNat<rows.length
     .simp [j]
     .simp [j]
    .simp [h]
   rw[x8j];omega
def Nt(n:Nat)(l:List (Int×Int))(a:Nat):((Q2 n l).getD a []).length<=l.length:=by
 have:=Po l (List.replicate n []) a;have e:((List.replicate n ([]:List Int)).getD a []).length=0:=by
  rw[x7w,x8g];split<;>rfl
 unfold Q2;omega
inductive SlRel(P:LV->LV->Prop):List (Nat×LV)->List (Nat×LV)->Prop
 |nil:SlRel P [] []
 |cons {j:Nat} {l l':LV} {r r':List (Nat×LV)} (h:P l l') (hr:SlRel P r r'):SlRel P ((j,l)::r) ((j,l')::r')
theorem SlRel.get{P:LV->LV->Prop}(m:P (.p .any) (.p .any)){sl sl':List (Nat×LV)}(h:SlRel P sl sl')(i:Nat):P (getS sl i) (getS sl' i):=by
 induction h with
 |nil=>exact m
 | @cons j l l' r t h q o=>
   simp only[getS];cases j==i with
   |true=>exact h
   |false=>exact o
def Ek{h:Nat}{sl:List (Nat×LV)}(n:Nat)(j:(sl.all fun x=>x.2.xfree 0)=true):
  Le h ⟨sl,[(0,.own 54 1 (List.replicate n .nils))]⟩ ⟨sl,[(0,.ext (.mat 54 3 1 (List.replicate n []) []))]⟩:=by
 have m:=ME (N:=h) (sl:=sl) (H:=[(0,.own 54 1 (List.replicate n .nils))])
  (H':=[(0,.ext (.mat 54 3 1 (List.replicate (List.replicate n AV.nils).length []) []))])
  0 3 1 (e:=54) (es:=List.replicate n .nils) rfl (fun x o=>z0r o) rfl j rfl rfl (by simp[KL])
 simpa using m
def svA(w n a:Nat):List (List Wd):=List.replicate a (List.replicate w 0)++List.replicate (n-a) []
def tdA(n a:Nat):List Int:=(List.range a).map ofNat++List.replicate (n-a) 0
def wtA(n a:Nat):List Bool:=List.replicate a true++List.replicate (n-a) false
def q7j{n a:Nat}(h:a<n):(svA w n a).set a (List.replicate w 0)=svA w n (a+1):=by
 unfold svA;rw[z1x _ _ (by simp),x9w,z1a,show n-a=(n-(a+1))+1 by omega,z1i,z1g,List.replicate_succ' (n:=a),x8w];rfl
def q7f{n a:Nat}(h:a<n):(tdA n a).set a (a:Int)=tdA n (a+1):=by
 unfold tdA;rw[z1x _ _ (by simp),x7z,x9t,z1a,show n-a=(n-(a+1))+1 by omega,z1i,z1g,z1c,x7n,x8w];rfl
def q8v{n a:Nat}(h:a<n):(wtA n a).set a true=wtA n (a+1):=by
 unfold wtA;rw[z1x _ _ (by simp),x9w,z1a,show n-a=(n-(a+1))+1 by omega,z1i,z1g,List.replicate_succ' (n:=a),x8w];rfl
def q7y{n a:Nat}(h:a<=n):(svA w n a).length=n:=by unfold svA;simp;omega
def q7h{n a:Nat}(h:a<=n):(tdA n a).length=n:=by unfold tdA;simp;omega
def q8w{n a:Nat}(h:a<=n):(wtA n a).length=n:=by unfold wtA;simp;omega
def svO(h:Int):Heap:=[(1,.obj 236 [.p .nils,.p (.int .i64 h)]),(0,.obj 236 [.p .nils,.p (.int .i64 0)])]
def svH(R:List (List Wd))(h:List Int)(m:List Bool)(j:Int):Heap:=(4,.own 4 1 (m.map bv))::(3,.own 3 1 (h.map (.int .i64)))::(2,.ext (.mat 303 282 1 (eWm R) []))::svO j
def q2q{N:Nat}{sl:List (Nat×LV)}(n:Nat)(es ws:List AV)(h:Int)(j:(sl.all fun x=>x.2.xfree 2)=true):
  Le N ⟨sl,(4,.own 4 1 ws)::(3,.own 3 1 es)::(2,.own 303 1 (List.replicate n .nils))::svO h⟩ ⟨sl,(4,.own 4 1 ws)::(3,.own 3 1 es)::(2,.ext (.mat 303 282 1 (List.replicate n []) []))::svO h⟩:=by
 have m:=ME (N:=N) (sl:=sl) (H:=(4,.own 4 1 ws)::(3,.own 3 1 es)::(2,.own 303 1 (List.replicate n .nils))::svO h)
  (H':=(4,.own 4 1 ws)::(3,.own 3 1 es)::(2,.ext (.mat 303 282 1 (List.replicate (List.replicate n AV.nils).length []) []))::svO h)
  2 282 1 (e:=303) (es:=List.replicate n .nils) rfl (fun x o=>z0r o) rfl j rfl rfl (by simp[KL,svO])
 simpa using m
def x0o{N:Nat}(R:List (List Wd)){a:Nat}(n:(eWm R).length=a)(m:Nat)(o:Int):
  Le N ⟨[(3,.p (.int .i64 m)),(8,.ptr 0 0),(9,.ptr 1 0),(11,.hd 2 0 a),(130,.p (.int .i64 a)),(131,.p (.int .i64 0))],(2,.ext (.mat 303 282 1 (eWm R) []))::svO o⟩
   ⟨[(3,.p (.int .i64 m)),(8,.ptr 0 0),(9,.ptr 1 0),(11,.p (LG R)),(130,.p (.int .i64 a)),(131,.p (.int .i64 0))],svO o⟩:=by
 refine IC (k:=2) (e:=303) (e2:=282) (sz:=1) (rows:=eWm R) rfl (fun i=>?_) (by show [1,0].Sublist [2,1,0];decide) fun j c' q=>?_
 .refine SlRel.get (P:=fun l l'=>l'=l.kill 2\/(l=.hd 2 0 (eWm R).length/\l'=.p (.sl ((eWm R).map .sl)))) (.inl rfl) ?_ i;exact .cons (.inl rfl) (.cons (.inl rfl) (.cons (.inl rfl) (.cons (.inr ⟨by rw[n],rfl⟩) (.cons (.inl rfl) (.cons (.inl rfl) .nil)))))
 .rcases x7f.1 q with h|h
  .cases h;exact⟨by decide,x7j _ x7v,rfl⟩
  .rcases x7y.1 h with h;cases h;exact⟨by decide,x7j _ (x7j _ x7v),rfl⟩
def OY{goes:List Wd}{i:Nat}(j:goes.length=w)(h:i<w):(goes.take i++List.replicate (w-i) 0).set i (goes[i]'(by omega))=goes.take (i+1)++List.replicate (w-(i+1)) 0:=by
 rw[z1x _ _ (by rw[x8q];omega),x8q,show i-min i goes.length=0 by omega,show w-i=(w-(i+1))+1 by omega,z1i,z1g,x7r (by omega),x8w];rfl
def Ri(g:List (List Int)×List (List Int))(n:Nat)(hn:n<=5000)(hg:XG n g.1)(F:∀r∈g.1,r.length<=1000000)(m:Nat)(hm:m<=5000)(gen kill:List (List Wd))(hgn:gen.length=n)(hkn:kill.length=n)(hgw:∀r∈gen,r.length=m/64+1)(hkw:∀r∈kill,r.length=m/64+1):SpecP prog 234 [VW g,LG gen,LG kill,.int .i64 m] (fun r=>∃(R:List (List Wd)) (tm:Int),(∀b:Int,0<=b->b<n->∀f,f/64<m/64+1->(bitW (R.getD b.toNat []) f=true↔SolP g.1 gen kill f b))/\R.length=n/\r=.agg [eMat (R.map fun row=>YW row m),.int .i64 tm]):=by
 refine sB Ho func234 rfl call234 ?_;conv=>whnf
 have hgl0:=F;have hL:=Y5 g;have hgl1:g.1.length=n:=hg.1;rw[hgl1]at hL;obtain⟨w,hw⟩ : ∃w,w=m/64+1:=⟨_,rfl⟩;rw[<-hw];rw[<-hw]at hgw hkw;have e7:=Od m;repeat' ((first|(refine iM fun _=>?_)|refine aR ?_|refine cP hL ?_|refine z2b n (by omega) (by first|(show 24*_<=140737488355328;omega)|(show 8*_<=140737488355328;omega)|(show 1*_<=140737488355328;omega)) (by unfold maxLen;omega) ?_);conv=>whnf)
 refine LoopK.inv QV (fun a:Nat=>⟨[(0,.p (VW g)),(1,.p (LG gen)),(2,.p (LG kill)),(3,.j m),(8,.ptr 0 0),(9,.ptr 1 0),(11,.hd 2 0 n),(12,.hd 3 0 n),(13,.hd 4 0 n),(30,.j n),(31,.j a)],svH (svA w n a) (tdA n a) (wtA n a) 0⟩) (fun a=>a<=n) (fun a=>n-a) 0
  (by
    refine Le.trans (q2q n _ _ 0 rfl) ?_;exact Le.of_eq (by simp[svH,svA,tdA,wtA,eWm,bv];exact⟨rfl,.inr rfl,.inr rfl⟩)) (x7p _) ?_
 intro a ha;rcases x7m a n with A|A
 .have g1:=q7j (w:=w) A;have g2:=q7f A;have g3:=q8v A;have l1:=q7y (w:=w) ha;have l2:=q7h ha;have l3:=q8w ha;have x2:((tdA n a).map (AV.int .i64))[a]?=some (.int .i64 ((tdA n a)[a]'(by omega))):=by rw[x7k,x7x (by omega)];rfl
  have x3:((wtA n a).map bv)[a]?=some (bv ((wtA n a)[a]'(by omega))):=by rw[x7k,x7x (by omega)];rfl
  generalize(tdA n a)[a]'(by omega)=o2 at x2;generalize(wtA n a)[a]'(by omega)=o3 at x3;have q1:(eWm (svA w n a)).set a (List.replicate w (.int .u64 0))=eWm (svA w n (a+1)):=by rw[<-g1];unfold eWm;rw[x8o,z0n];rfl
  have q2:((tdA n a).map (AV.int .i64)).set a (.int .i64 a)=(tdA n (a+1)).map (AV.int .i64):=by rw[<-g2,x8o]
  have q3:((wtA n a).map bv).set a .tt=(wtA n (a+1)).map bv:=by rw[<-g3,x8o];rfl
  generalize svA w n a=R at*
  generalize tdA n a=td at*
  generalize wtA n a=wt at*
  have hel:(eWm R).length=n:=by unfold eWm;rw[x7z,l1]
  unfold svH svO;conv=>whnf
  repeat' (first|((first|refine x7g rfl ?_|refine aR ?_|refine x7g (by decide) ?_|refine Wr.i64 (by first|omega|(rw[e7];omega)) (by first|omega|(rw[e7];omega)) ?_|refine z2b w (by rw[hw,e7];omega) (by show 8*_<=140737488355328;omega) (by unfold maxLen;omega) ?_|refine x8p a rfl A ?_|(refine FR QV rfl rfl rfl rfl rfl rfl rfl rfl rfl (by decide) a [] (by omega) (by omega) (by simp) ⟨by simp,by simp,by simp⟩ ?_)|refine z0d a 0 _ (.int .i64 a) (by omega) x2 (x7s 1) rfl ?_|refine z0d a 0 _ .tt (by omega) x3 (x7s 1) (by cases o3<;>rfl) ?_);conv=>whnf)|(apply bD<;>intro _<;>first|omega|conv=>whnf))
  all_goals exact⟨a+1,A,by omega,Le.of_eq (by show _=St.mk _ (svH (svA w n (a+1)) (tdA n (a+1)) (wtA n (a+1)) 0);unfold svH svO;rw[<-q1,<-q2,<-q3];rfl)⟩
 .obtain rfl:a=n:=by omega
  have hB:a*(64*w)<=5000*(64*79):=Nat.mul_le_mul hn (by omega);have hst:=I8 (n:=a) (w:=w) (nx:=g.1) (gen:=gen) (kill:=kill) (by omega);have i1:svA w a a=List.replicate a (List.replicate w 0):=by unfold svA;simp
  have i2:tdA a a=(List.range a).map ofNat:=by unfold tdA;simp
  have i3:wtA a a=List.replicate a true:=by unfold wtA;simp
  rw[i1,i2,i3];conv=>whnf
  repeat' (apply bD<;>intro _<;>first|omega|conv=>whnf)
  refine LoopK.inv QV (fun x:SvS×List Int×Int=>⟨[(0,.p (VW g)),(1,.p (LG gen)),(2,.p (LG kill)),(3,.j m),(8,.ptr 0 0),(9,.ptr 1 0),(11,.hd 2 0 a),(12,.hd 3 x.2.1.length x.1.todo.length),(13,.hd 4 0 a)],svH x.1.R (x.2.1++x.1.todo) x.1.waits x.2.2⟩)
   (fun x=>SvI a w g.1 gen kill x.1/\(∀y:Int,0<=y->y<a->y∉x.1.todo->closedA a w g.1 gen kill x.1.R y)/\0<=x.2.2/\(x.2.1.length:Int)<=x.2.2/\x.2.2.toNat+(a*(64*w)+x.1.todo.length-VN w x.1.R)<=a*(64*w)+a)
   (fun x=>a*(64*w)+x.1.todo.length-VN w x.1.R) (⟨List.replicate a (List.replicate w 0),(List.range a).map ofNat,List.replicate a true⟩,[],0)
   (Le.mk [] (by simp) (by simp) (by simp[svH,svO]) (.r (.r (.r (.r (.r (.r (.r (.cons (.of_eq (by simp only[x7z,x9t];rfl)) (.r .nil))))))))) (.cons rfl (.refl _) (.cons rfl (.refl _) (.cons rfl (.refl _) (.cons rfl (.refl _) (.cons rfl (.refl _) .nil)))))) ⟨hst,fun y h0 A hy=>absurd (x7d.2 ⟨y.toNat,x8n.2 (by omega),by show((y.toNat:Nat):Int)=y;omega⟩) hy,z2l _,z2l _,by simp only[x7z,x9t];omega⟩ ?_
  rintro⟨st,pre,tm⟩ ⟨T,L,ht0,hpt,O⟩;simp only at T L ht0 hpt O⊢;cases E:st.todo with
  | nil=>
    rw[E]at L O;unfold svH svO;conv=>whnf
    repeat' (first|((first|(refine iM fun _=>?_)|refine x7g rfl ?_);conv=>whnf)|(apply bD<;>intro _<;>first|omega|conv=>whnf))
    all_goals try (exfalso;simp only[z0p]at*;omega)
    obtain⟨R,todo,v⟩:=st;simp only at E T L O⊢;subst E;have J:=T.len;simp only at J;have hel:(eWm R).length=a:=by unfold eWm;rw[x7z,J]
    have hfin:∀b:Int,0<=b->b<a->∀f,f/64<w->(bitW (R.getD b.toNat []) f=true↔SolP g.1 gen kill f b):=fun b h0 A f hf=>q1a T L rfl (by omega) h0 A hf;have hrow:=T.rows;simp only at hrow;refine LoopK.inv QV (fun i:Nat=>⟨[(3,.j m),(8,.ptr 0 0),(9,.ptr 1 0),(11,.p (LG R)),(130,.j a),(131,.j i)],[(1,.obj 236 [.hd 5 0 i,.j tm]),(0,.obj 236 [.p .nils,.j 0]),(5,.own 54 1 ((R.take i).map fun r=>QB (YW r m)))]⟩) (fun i=>i<=a) (fun i=>a-i) 0
     (by
       refine Le.trans (x0o (N:=_) R hel m tm) ?_;exact Le.mk [(5,.own 54 1 [])] (by simp[Chunk.new0];rfl) (by simp) (by simp) (.r (.r (.r (.r (.r (.r .nil)))))) (.cons rfl (.obj (.cons (.nil x7v) (.r .nil))) (.cons rfl (.refl _) (.new x7v .nil)))) (x7p _) ?_
    intro i hi;rcases x7m i a with A|A
    .have hlt:i<R.length:=by omega
     have eI:((eWm R).map AV.sl)[i]?=some (.sl (R[i].map eW)):=by unfold eWm;rw[x7k,x7k,x7x hlt];rfl
     have hrl:=hrow _ (x7l hlt);have hLi:=Ju R[i] m (by omega) (by omega);have hacl:((R.take i).map fun r=>QB (YW r m)).length=i:=by rw[x7z,x8q];omega
     have hacs:((R.take (i+1)).map fun r=>QB (YW r m))=((R.take i).map fun r=>QB (YW r m))++[QB (YW R[i] m)]:=by rw[x7r hlt,x7n];rfl
     generalize((R.take i).map fun r=>QB (YW r m))=C at hacl hacs⊢;generalize R[i]=row at*
     conv=>whnf
     repeat' (first|((first|refine dA ?_|refine x7g rfl ?_|refine aD ?_|refine bP ?_|refine wI ?_|(refine IdxK.at (k:=i) rfl eI rfl ?_)|refine cP hLi ?_|refine z0w hacl.symm rfl (by show(i+1)*24<=140737488355328;omega) (by show i+1<=9223372036854775807;omega) (fun x hx=>by rcases x7y.1 hx with rfl;exact⟨rfl,rfl⟩) ?_);conv=>whnf)|(apply bD<;>intro _<;>first|omega|conv=>whnf)|(refine x7g ?_ ?_<;>conv=>whnf))
     all_goals first
      |(exfalso;omega)
      |exact⟨i+1,A,by omega,Le.of_eq (by rw[hacs];rfl)⟩
    .obtain rfl:i=a:=by omega
     have U:((R.take i).map fun r=>QB (YW r m))=R.map fun r=>QB (YW r m):=by rw[x7a (by omega)]
     have hal2:(R.map fun r=>QB (YW r m)).length=i:=by rw[x7z,J]
     rw[U];conv=>whnf
     repeat' (first|(refine x7g rfl ?_;conv=>whnf)|(apply bD<;>intro _<;>first|omega|conv=>whnf))
     all_goals try (exfalso;omega)
     have he:(avI (R.map fun row=>YW row m)).map AV.sl=R.map fun r=>QB (YW r m):=by
      unfold avI;rw[z1s,z1s];rfl
     refine⟨_,.agg (cs:=[eMat (R.map fun row=>YW row m),.int .i64 tm]) rfl fun q l c A K=>?_,⟨R,tm,hfin,J,rfl⟩⟩
     match q,A,K with
     | 0,A,K=>
       cases A;cases K;show Frz _ _ (.sl ((avI (R.map fun row=>YW row m)).map AV.sl));rw[he];exact .hd rfl hal2.symm
     |1,A,K=>cases A;cases K;exact .p (Sub.refl _)
     |q+2,A,K=>simp at A
  | cons x r=>
    have har:=T.rng x (by rw[E];exact x7v);obtain⟨hJ,M⟩:=q0i T L E;have hca:=Uj (w:=w) st.R;rw[T.len]at hca;rw[E]at O;simp only[x8j]at O;obtain⟨R,todo,v⟩:=st;simp only at E T L O hJ M hca⊢;subst E;obtain⟨t,hxn⟩ : ∃t:Nat,x=t:=⟨x.toNat,by omega⟩;subst hxn;rw[z0h]at hJ M;have hxl:t<a:=by omega
    have J:=T.len;have hwl:=T.wl;simp only at J hwl;have hiw:=T.rows _ (x7l (show t<R.length by omega));have e1:((pre++(t:Int)::r).map (AV.int .i64))[pre.length]?=some (.int .i64 t):=by rw[x7k,x8f (x7s _),z1a];rfl
    have e2:(v.map bv)[t]?=some (bv (v[t]'(by omega))):=by rw[x7k,x7x (by omega)];rfl
    generalize v[t]'(by omega)=w0 at e2;have hrm:(v.map bv).set t .ff=(v.set t false).map bv:=by rw[x8o];rfl
    have hwm:(v.map bv).length=a:=by rw[x7z,hwl]
    have hpm:((pre++(t:Int)::r).map (AV.int .i64)).length=pre.length+(r.length+1):=by simp
    unfold svH svO;conv=>whnf
    repeat' (first|((first|(refine iM fun _=>?_)|refine x7g rfl ?_|refine aR ?_|refine x8p 0 rfl (by simp) ?_|refine x9g pre.length 0 (.int .i64 t) (by omega) e1 ?_|refine z3d 1 (r.length+1) rfl rfl (by omega) (by simp) ?_|refine x8p t rfl (by omega) ?_|refine z0d t 0 _ .ff (by omega) e2 (x7s 1) (by cases w0<;>rfl) ?_|refine x7g (by decide) ?_|refine Wr.i64 (by first|omega|(rw[e7];omega)) (by first|omega|(rw[e7];omega)) ?_|refine z2b w (by rw[hw,e7];omega) (by show 8*_<=140737488355328;omega) (by unfold maxLen;omega) ?_);conv=>whnf)|(apply bD<;>intro _<;>first|omega|conv=>whnf))
    all_goals try (exfalso;simp only[x8j]at*;omega)
    have hxg:t<gen.length:=by omega
    have hxk:t<kill.length:=by omega
    have hG:=hgw _ (x7l hxg);have hK:=hkw _ (x7l hxk);have eG:((eWm gen).map AV.sl)[t]?=some (.sl (gen[t].map eW)):=by unfold eWm;rw[x7k,x7k,x7x hxg];rfl
    have eK:((eWm kill).map AV.sl)[t]?=some (.sl (kill[t].map eW)):=by unfold eWm;rw[x7k,x7k,x7x hxk];rfl
    have eI:(eWm R)[t]?=some ((R[t]'(by omega)).map eW):=by unfold eWm;rw[x7k,x7x (by omega)];rfl
    have hel:(eWm R).length=a:=by unfold eWm;rw[x7z,J]
    have hgoes:goA w gen kill R t=BE w gen[t] (R[t]'(by omega)) kill[t]:=by
     unfold goA;rw[x7w,x7x hxg,x7w,x7x (by omega),x7w,x7x hxk];rfl
    rw[hgoes]at hJ M;generalize hgG:gen[t]=G at*
    generalize hgK:kill[t]=Kr at*
    generalize hgI:R[t]'(by omega)=I at*
    have F:(BE w G I Kr).length=w:=AL _ _ _ _;refine LoopK.inv QV (fun i:Nat=>⟨[(0,.p (VW g)),(1,.p (LG gen)),(2,.p (LG kill)),(3,.j m),(8,.ptr 0 0),(9,.ptr 1 0),(11,.hd 2 0 a),(12,.hd 3 (pre.length+1) r.length),(13,.hd 4 0 a),(15,.j t),(16,.hd 5 0 w),(69,.j w),(70,.j i)],(5,.own 282 1 (((BE w G I Kr).take i++List.replicate (w-i) 0).map eW))::svH R (pre++(t:Int)::r) (v.set t false) (tm+1)⟩) (fun i=>i<=w) (fun i=>w-i) 0
     (Le.of_eq (by unfold svH svO;simp[hrm,eW];exact⟨rfl,rfl,.inr rfl⟩)) (x7p _) ?_
    intro i hi;rcases x7m i w with A|A
    .have gI:(I.map eW)[i]?=some (.int .u64 ((I[i]'(by omega)).toNat:Int)):=Co (by omega);have gG:(G.map eW)[i]?=some (.int .u64 ((G[i]'(by omega)).toNat:Int)):=Co (by omega);have gK:(Kr.map eW)[i]?=some (.int .u64 ((Kr[i]'(by omega)).toNat:Int)):=Co (by omega);have Y:=OY (goes:=BE w G I Kr) (w:=w) F A;have hgi:(BE w G I Kr)[i]'(by omega)=G[i]'(by omega) |||(I[i]'(by omega) &&& ~~~ (Kr[i]'(by omega))):=by
      unfold BE;rw[z1h,z3g,x7w,x7x (by omega),x7w,x7x (by omega),x7w,x7x (by omega)];rfl
     rw[hgi]at Y;obtain⟨C,hacc⟩ : ∃C,C=((BE w G I Kr).take i++List.replicate (w-i) 0):=⟨_,rfl⟩;have hal:C.length=w:=by rw[hacc,x7u,x8q,x9w];omega
     have gA:(C.map eW)[i]?=some (eW (C[i]'(by omega))):=by rw[x7k,x7x (by omega)];rfl
     rw[<-hacc]at Y⊢;generalize C[i]'(by omega)=o5 at gA;generalize I[i]'(by omega)=x1 at*
     generalize G[i]'(by omega)=x2 at*
     generalize Kr[i]'(by omega)=x3 at*
     have hst2:(C.map eW).set i (eW (x2 |||(x1 &&& ~~~x3)))=((BE w G I Kr).take (i+1)++List.replicate (w-(i+1)) 0).map eW:=by rw[<-Y,x8o]
     have ham:(C.map eW).length=w:=by rw[x7z,hal]
     have hIm:(I.map eW).length=w:=by rw[x7z];exact hiw
     unfold svH svO;conv=>whnf
     repeat' (first|((first|refine dA ?_|refine x7g rfl ?_|refine wI ?_|(refine IdxK.at (k:=t) rfl eG rfl ?_)|(refine IdxK.at (k:=i) rfl gG rfl ?_)|(refine IdxK.at (k:=t) rfl eK rfl ?_)|(refine IdxK.at (k:=i) rfl gK rfl ?_)|refine x8p t rfl (by omega) ?_|refine x8p i rfl (by omega) ?_|refine RowK.mk t _ (by omega) eI (by simp) ?_|refine RLd.mk _ i 0 _ eI (by simp) (by omega) gI ?_|refine UH rfl x1 x3 _ rfl rfl rfl rfl (.inr (.inr ⟨rfl,rfl⟩)) ?_|refine UH rfl x2 _ _ rfl rfl rfl rfl (.inr (.inl ⟨rfl,rfl⟩)) ?_|refine z0d i 0 (eW o5) (eW (x2 |||(x1 &&& ~~~x3))) (by omega) gA (x7s 1) rfl ?_);conv=>whnf)|(apply bD<;>intro _<;>first|omega|conv=>whnf))
     all_goals first
      |(exfalso;omega)
      |exact⟨i+1,A,by omega,Le.of_eq (by rw[<-hst2];rfl)⟩
    .have hie:i=w:=by omega
     rw[hie];have U:(BE w G I Kr).take w++List.replicate (w-w) 0=BE w G I Kr:=by rw[x7a (by omega),z1a];simp
     rw[U];obtain⟨e,hgw2⟩ : ∃e,e=BE w G I Kr:=⟨_,rfl⟩;rw[<-hgw2]at F M hJ⊢;have hNx:=Wb g t hgl0;have hhas:ZB g.1.length (t:Int)=true:=by unfold ZB;simp;omega
     rw[if_pos hhas,z0h]at hNx;unfold svH svO;conv=>whnf
     repeat' (first|((first|(refine iM fun _=>?_)|refine cP hNx ?_);conv=>whnf)|(apply bD<;>intro _<;>first|omega|conv=>whnf))
     all_goals try (exfalso;omega)
     have hnx:∀r∈g.1,∀b∈r,0<=b/\b<a:=hg.2;have hnxl:(g.1.getD t []).length<=1000000:=by
      rw[x7w,x7x (by omega)];exact hgl0 _ (x7l (by omega))
     have hnr:∀b∈g.1.getD t [],0<=b/\b<a:=fun b hb=>by
      rw[x7w,x7x (by omega)]at hb;exact hnx _ (x7l (by omega)) b hb
     obtain⟨z,V⟩ : ∃z,z=g.1.getD t []:=⟨_,rfl⟩;have hE:∀{st:SvS},SvJ a w g.1 gen kill t e z.length st->∀x:Int,0<=x->x<a->x∉st.todo->closedA a w g.1 gen kill st.R x:=fun {st} h=>by
      subst V;exact On h
     have hJn:∀{j:Nat}{st:SvS},SvJ a w g.1 gen kill t e j st->∀hj:j<z.length,SvJ a w g.1 gen kill t e (j+1) (jnE e st z[j])/\VN w st.R+(jnE e st z[j]).todo.length<=VN w (jnE e st z[j]).R+st.todo.length:=fun {j st} h hj=>by
      subst V;exact q5o hnx har.1 har.2 F M h hj
     rw[<-V]at hnr hnxl⊢;clear M hNx;have hnl:(z.map (AV.int .i64)).length=z.length:=x7z _;refine LoopK.inv QV (fun x:Nat×SvS×List Int=>⟨[(0,.p (VW g)),(1,.p (LG gen)),(2,.p (LG kill)),(3,.j m),(8,.ptr 0 0),(9,.ptr 1 0),(11,.hd 2 0 a),(12,.hd 3 x.2.2.length x.2.1.todo.length),(13,.hd 4 0 a),(16,.hd 5 0 w),(102,.p (QB z)),(103,.p (.int .i64 (z.map (AV.int .i64)).length)),(104,.j x.1)],(5,.own 282 1 (e.map eW))::svH x.2.1.R (x.2.2++x.2.1.todo) x.2.1.waits (tm+1)⟩)
      (fun x=>x.1<=z.length/\SvJ a w g.1 gen kill t e x.1 x.2.1/\VN w R+x.2.1.todo.length<=VN w x.2.1.R+r.length/\(x.2.2.length:Int)<=tm+1)
      (fun x=>z.length-x.1) (0,⟨R,r,v.set t false⟩,pre++[(t:Int)]) (Le.of_eq (by unfold svH svO;simp;rfl)) ⟨x7p _,hJ,x7s _,by simp;omega⟩ ?_
     rintro⟨j,⟨u,B,o⟩,pre2⟩ ⟨h2,K,h4,h5⟩;simp only at h2 K h4 h5⊢;have hca2:=Uj (w:=w) u;have hl2:=K.I.len;simp only at hl2;rw[hl2]at hca2;rcases x7m j z.length with hj|hj
     .obtain ⟨P,Q⟩:=hJn K hj;have hbr:=hnr _ (x7l hj);obtain⟨d,hbj⟩ : ∃d:Nat,z[j]=d:=⟨z[j].toNat,by omega⟩;rw[hbj]at P Q hbr;have hbl:d<u.length:=by omega
      have hwl2:=K.I.wl;simp only at hwl2;unfold jnE at P Q;simp only[z0h]at P Q;rw[x7w,x7x hbl,x9u,x7w,x7x (show d<o.length by omega),x9u]at P Q;have hrw:=K.I.rows _ (x7l hbl);have eR:(eWm u)[d]?=some (u[d].map eW):=by unfold eWm;rw[x7k,x7x hbl];rfl
      have eW2:(o.map bv)[d]?=some (bv (o[d]'(by omega))):=by rw[x7k,x7x (by omega)];rfl
      have D:(eWm u).set d ((ZL u[d] e).map eW)=eWm (u.set d (ZL u[d] e)):=by unfold eWm;rw[x8o]
      have Z:(o.map bv).set d .tt=(o.set d true).map bv:=by rw[x8o];rfl
      generalize u[d]=row at*
      generalize o[d]'(by omega)=wb at*
      have hjo:=Cp row e (by omega) (by omega);have hjl:=Yy (b:=row) (c:=e) (by omega);have hrm2:(row.map eW).length=w:=by rw[x7z];exact hrw
      have hgm2:(e.map eW).length=w:=by rw[x7z];exact F
      have hel2:(eWm u).length=a:=by unfold eWm;rw[x7z,hl2]
      have hwm2:(o.map bv).length=a:=by rw[x7z,hwl2]
      have hjo2:SpecH prog 291 [.hd 1000 0 (row.map eW).length,.hd 1001 0 w] ((1000,.own 282 1 (row.map eW))::bif true then [(1001,.own 282 1 (e.map eW))]else []) (fun r H=>r=.p (.bool (Q0 row e row.length))/\H=[wsH 1000 (ZL row e),wsH 1001 e]):=by
       rw[hrm2];rw[hrw,F]at hjo;rw[hrw];exact hjo
      generalize Q0 row e row.length=mv at*
      unfold svH svO;rcases wb with _|_;rcases pre2 with _|⟨y,p2⟩;all_goals
       conv=>whnf
       repeat' (first|((first|refine x7g rfl ?_|refine aD ?_|refine bP ?_|(refine iA fun _=>?_)|refine wI ?_|refine x8p d hbj (by omega) ?_|refine RowK.mk d _ (by omega) eR (by simp) ?_|(refine Zk 2 d 5 true ((ZL row e).map eW) (S:=fun c=>c=.bool mv) (.row (.own rfl .nil)) hjo2 rfl eR (by omega) (fun _=>⟨rfl,by decide⟩) (fun l' H' hh=>by obtain⟨h8,h9⟩:=hh;exact⟨_,h8,rfl,h9⟩) (by rw[x7z,x7z,hjl]) ?_;rintro _ rfl)|refine x9g d 0 _ (by omega) eW2 ?_|refine z0d d 0 _ .tt (by omega) eW2 (x7s 1) rfl ?_|refine XX (by simp) (by simp;omega) ?_|refine Sp QV rfl rfl (z3e _) rfl rfl rfl rfl rfl rfl (by decide) (by rw[x7z,x7u]) rfl (z3e _) (fun x hx=>by rcases x7y.1 hx with rfl;exact⟨rfl,rfl⟩) (by show _+1<=maxLen;unfold maxLen;omega) (by show(_+1)*8<=_;omega) ?_ ?_);conv=>whnf)|(apply bD<;>intro _<;>first|omega|conv=>whnf)|(apply bB<;>intro _<;>conv=>whnf))
       all_goals try (exfalso;simp_all;done)
       all_goals first
        | (have hq:(mv && !true)=false:=by simp[*]
           rw[hq,x7o]at P Q;exact⟨(j+1,⟨u.set d (ZL row e),B,o⟩,_),⟨hj,P,by simp only at Q⊢;omega,h5⟩,by simp only;omega,Le.of_eq (by rw[<-D];rfl)⟩)
        | (have hq:(mv && !false)=false:=by simp[*]
           rw[hq,x7o]at P Q;exact⟨(j+1,⟨u.set d (ZL row e),B,o⟩,_),⟨hj,P,by simp only at Q⊢;omega,h5⟩,by simp only;omega,Le.of_eq (by rw[<-D];rfl)⟩)
        | (have hq:(mv && !false)=true:=by simp[*]
           rw[hq,x7c]at P Q;exact⟨(j+1,⟨u.set d (ZL row e),B++[(d:Int)],o.set d true⟩,_),⟨hj,P,by simp only[x7u,x8k]at Q⊢;omega,h5⟩,by simp only;omega,Le.of_eq (by simp only[svH,svO,<-D,<-Z,hbj,x7n,x8w,x7u,x8v,z2q];rfl)⟩)
        | (have hq:(mv && !false)=true:=by simp[*]
           rw[hq,x7c]at P Q;exact⟨(j+1,⟨u.set d (ZL row e),B++[(d:Int)],o.set d true⟩,[]),⟨hj,P,by simp only[x7u,x8k]at Q⊢;omega,by simp only[z0p];omega⟩,by simp only;omega,Le.of_eq (by rw[<-List.map_drop,List.drop_left];simp only[svH,svO,<-D,<-Z,hbj,x7n,x8w,x7u,x8v,z2q];rfl)⟩)
     .obtain rfl:j=z.length:=by omega
      have hcl2:=hE K;unfold svH svO;conv=>whnf
      repeat' (apply bD<;>intro _<;>first|omega|conv=>whnf)
      all_goals try (exfalso;omega)
      all_goals first
       |exact⟨(⟨u,B,o⟩,pre2,tm+1),⟨K.I,hcl2,by simp only;omega,h5,by simp only;omega⟩,by simp only[x8j];omega,lE⟩
def x5s(n:Nat)(steps:List (Int×Int))(gen kill:List (List Int))(h:Nat)(r:AV):Prop:=∃(R:List (List Wd)) (tm:Int),(∀b:Int,0<=b->b<n->∀f,f/64<h/64+1->(bitW (R.getD b.toNat []) f=true↔SolP (QL n steps).1 (gen.map (HP (h/64+1))) (kill.map (HP (h/64+1))) f b))/\R.length=n/\r=.tup [.agg [eMat (R.map fun row=>YW row h),.int .i64 tm],.tt]
def TS(n:Nat)(E:n<=5000)(steps:List (Int×Int))(I:steps.length<=1000000)(J:∀s∈steps,(0<=s.1/\s.1<n)/\0<=s.2/\s.2<n)(gen kill:List (List Int))(C:gen.length=n)(D:kill.length=n)(h:Nat)(g:h<=5000)(q:∀r∈gen,r.length<=5000/\∀f∈r,0<=f/\f<h)(z:∀r∈kill,r.length<=5000/\∀f∈r,0<=f/\f<h):SpecP prog 184 [.int .i64 n,.sl (avP steps),eMat gen,eMat kill,.int .i64 h] (fun r=>x5s n steps gen kill h r):=by
 refine sB Sj func184 rfl call184 ?_;conv=>whnf
 have G:((avI gen).map AV.sl).length=n:=by unfold avI;rw[x7z,x7z,C]
 have H:((avI kill).map AV.sl).length=n:=by unfold avI;rw[x7z,x7z,D]
 have K:(avP steps).length=steps.length:=x7z _;repeat' (first|(refine iM fun _=>?_;conv=>whnf)|(apply bD<;>intro _<;>first|omega|conv=>whnf)|(apply bE<;>intro _<;>first|omega|conv=>whnf))
 all_goals try (exfalso;omega)
 refine LoopK.inv QV (fun j:Nat=>⟨[(0,.j n),(1,.p (.sl (avP steps))),(2,.p (eMat gen)),(3,.p (eMat kill)),(4,.j h),(10,.ptr 0 0),(45,.p (.sl (avP steps))),(46,.p (.int .i64 (avP steps).length)),(47,.j j)],[(0,.obj 236 [.p .nils,.j 0])]⟩) (fun j=>j<=steps.length) (fun j=>steps.length-j) 0 (Le.of_eq rfl) (x7p _) ?_;intro j M;rcases x7m j steps.length with a|a
 .have A:=J _ (x7l a);have o:(avP steps)[j]?=some (.agg [.int .i64 steps[j].1,.int .i64 steps[j].2]):=by unfold avP;rw[x7k,x7x a];rfl
  generalize steps[j]=s at*
  obtain⟨x,y⟩:=s;simp only at A o;conv=>whnf
  repeat' (first|((first|refine x7g rfl ?_|refine wI ?_|(refine IdxK.at (k:=j) rfl o rfl ?_)|refine x8p 0 rfl (by decide) ?_|refine x8p 1 rfl (by decide) ?_);conv=>whnf)|(apply bD<;>intro _<;>first|omega|conv=>whnf))
  all_goals first
   |(exfalso;omega)
   |exact⟨j+1,a,by omega,Le.of_eq rfl⟩
 .have F:=Y6 n E steps I;have b:=Hx gen (by omega) (fun r m=>(q r m).1) h g (fun r m=>(q r m).2);have c:=Hx kill (by omega) (fun r m=>(z r m).1) h g (fun r m=>(z r m).2);have e:=(JD n steps).1;have t:∀r∈(QL n steps).1,r.length<=1000000:=fun r m=>by
   have B:=(BG (n:=n) (l:=steps) (x7s _)).1;rw[z3q]at B;have:=(B.2 r m).2;omega
  have d:=Ri (QL n steps) n E e t h g (gen.map (HP (h/64+1))) (kill.map (HP (h/64+1))) (by rw[x7z,C]) (by rw[x7z,D]) (fun r m=>by obtain⟨x,_,rfl⟩:=x7d.1 m;exact Vh _ _) (fun r m=>by obtain⟨x,_,rfl⟩:=x7d.1 m;exact Vh _ _);conv=>whnf
  repeat' (first|((first|refine x7g rfl ?_|refine cP b ?_|refine cP c ?_|refine cP F ?_|(refine CallK.pure d (.cons (Sub.refl _) (.cons (Sub.refl _) (.cons (Sub.refl _) (.cons (Sub.refl _) .nil)))) ?_;rintro _ ⟨R,L,u,v,rfl⟩));conv=>whnf)|(apply bD<;>intro _<;>first|omega|conv=>whnf))
  all_goals first
   |(exfalso;omega)
   |contradiction
   |exact⟨_,.p (Sub.refl _),R,L,u,v,rfl⟩
def q2a(p:Pg):Bool:=decide (gPg p<=20000)
def q9k(h:q2a p=true):Fit p:=by
 have:=x5x p;have j:gPg p<=20000:=by simpa[q2a]using h
 unfold Fit;omega
def UA(p:Pg):SpecP prog 11 [.agg p.cells] (fun r=>r=.bool (q2a p)):=by
 refine sB NQ func11 rfl call11 ?_;conv=>whnf
 have M:(p.A.map fun f=>AV.agg f.cells).length=p.A.length:=x7z _;have J:=XA (a:=0+PJ p.B) (by omega);repeat' (refine CallK.pure (XB p.B 0 (by omega)) (.cons (Sub.refl _) (.cons (Sub.refl _) .nil)) ?_;rintro _ rfl;conv=>whnf)
 refine LoopK.inv QV (fun y:Nat×Int=>⟨[(1,.p (.ip p.cells)),(3,.j y.2),(4,.j y.1)],[]⟩) (fun y=>y.1<=p.A.length/\(0<=y.2/\y.2<=20001)/\XJ (y.2+R5 (p.A.drop y.1))=XJ (gPg p:Nat)) (fun y=>p.A.length-y.1) (0,XJ (0+PJ p.B)) (Le.of_eq rfl) ⟨x7p _,J,by
  show XJ (XJ (0+PJ p.B)+R5 p.A)=_;rw[ZZ (by omega)];congr 1;unfold gPg;omega⟩ ?_
 rintro⟨j,m⟩ ⟨E,q,t⟩;simp only at E q t⊢;have o:∀{x:Int},0<=x/\x<=20001->XJ x=XJ (gPg p:Nat)->(decide (x<=20000))=q2a p:=fun {x} N h=>by
  unfold q2a;unfold XJ at h;by_cases e:gPg p<=20000
  .rw [z0y e,x8l];split at h<;>split at h<;>omega
  .rw [x9m e,z0k];split at h<;>split at h<;>omega
 rcases x7m j p.A.length with c|c;rotate_left 1
 .rw [x7e c,R5]at t;conv=>whnf
  repeat' (first|(refine iM fun _=>?_;conv=>whnf)|(apply bD<;>intro _<;>first|omega|conv=>whnf))
  all_goals exact RetK.bool (o q (by rw[<-t];simp))
 rw[x8b c,R5]at t;have d:gPr p.A[j]=1+p.A[j].name.length+PJ p.A[j].F+PJ p.A[j].fin+IB p.A[j].C+gL p.A[j].body:=rfl;have K:=XA (a:=m+(1+p.A[j].name.length:Nat)) (by omega);have L:=XA (a:=XJ (m+(1+p.A[j].name.length:Nat))+PJ p.A[j].F) (by omega);have D:=XA (a:=XJ (XJ (m+(1+p.A[j].name.length:Nat))+PJ p.A[j].F)+PJ p.A[j].fin) (by omega);conv=>whnf
 repeat' (first|((first|(refine iM fun _=>?_)|refine dA ?_|refine x7g rfl ?_|(refine iA fun _=>?_)|refine cP (QC p.A[j].name _ q) ?_|refine cP (XB p.A[j].F _ K) ?_|refine cP (XB p.A[j].fin _ L) ?_);conv=>whnf)|(apply bD<;>intro _<;>first|omega|conv=>whnf))
 rotate_left 1
 .exact RetK.bool (o q (by rw[<-t,<-YJ (by omega) q.2 (by omega),Dd q.2]))
 have g:XJ (XJ (XJ (XJ (m+(1+p.A[j].name.length:Nat))+PJ p.A[j].F)+PJ p.A[j].fin)+(IB p.A[j].C+(gL p.A[j].body+R5 (p.A.drop (j+1))):Nat))=XJ (gPg p:Nat):=by
  rw[ZZ (by omega),z3u,ZZ (by omega),z3u,ZZ (by omega),<-t,d];congr 1;omega
 generalize XJ (XJ (XJ (m+(1+p.A[j].name.length:Nat))+PJ p.A[j].F)+PJ p.A[j].fin)=m0 at D g⊢;have I:(p.A[j].C.map fun a=>AV.agg a.cells).length=p.A[j].C.length:=x7z _;refine LoopK.inv QV (fun y:Nat×Int=>⟨[(1,.p (.ip p.cells)),(3,.j y.2),(4,.j j),(5,.p (.ip p.A[j].cells)),(6,.j y.1)],[]⟩) (fun y=>y.1<=p.A[j].C.length/\(0<=y.2/\y.2<=20001)/\XJ (y.2+(IB (p.A[j].C.drop y.1)+(gL p.A[j].body+R5 (p.A.drop (j+1))):Nat))=XJ (gPg p:Nat)) (fun y=>p.A[j].C.length-y.1) (0,m0) (Le.of_eq rfl) ⟨x7p _,D,g⟩ ?_;rintro⟨a,n⟩ ⟨G,u,v⟩;simp only at G u v⊢;have fin:XJ (n+(gL p.A[j].body+R5 (p.A.drop (j+1)):Nat))=XJ (gPg p:Nat)->(0<=XJ (n+gL p.A[j].body)/\XJ (n+gL p.A[j].body)<=20001)/\XJ (XJ (n+gL p.A[j].body)+R5 (p.A.drop (j+1)))=XJ (gPg p:Nat):=fun h=>by
  refine⟨XA (by omega),?_⟩;rw[ZZ (by omega),<-h];congr 1;omega
 have z:n>20000->XJ (n+(gL p.A[j].body+R5 (p.A.drop (j+1)):Nat))=XJ (gPg p:Nat):=fun h=>by
  rw[<-v,<-YJ h u.2 (by omega),<-YJ h u.2 (by omega)]
 rcases x7m a p.A[j].C.length with ha|ha;rotate_left 1
 .have H:XJ (n+(gL p.A[j].body+R5 (p.A.drop (j+1)):Nat))=XJ (gPg p:Nat):=by
   rw[x7e ha,IB,z0q]at v;exact v
  obtain⟨f1,f2⟩:=fin H;conv=>whnf
  repeat' (first|((first|(refine iM fun _=>?_)|refine wI ?_|(refine CallK.pure (UZ (gL p.A[j].body+1) p.A[j].body (by omega) n u) (.cons (Sub.refl _) (.cons (Sub.refl _) .nil)) ?_;rintro _ rfl));conv=>whnf)|(apply bD<;>intro _<;>first|omega|conv=>whnf))
  all_goals exact⟨(j+1,XJ (n+gL p.A[j].body)),⟨by simp only;omega,f1,f2⟩,by simp only;omega,Le.of_eq rfl⟩
 rw[x8b ha,IB]at v;conv=>whnf
 repeat' (first|((first|(refine iM fun _=>?_)|(refine iA fun _=>?_)|refine wI ?_|refine cP (QC p.A[j].C[a].name _ u) ?_|(refine CallK.pure (UZ (gL p.A[j].body+1) p.A[j].body (by omega) n u) (.cons (Sub.refl _) (.cons (Sub.refl _) .nil)) ?_;rintro _ rfl));conv=>whnf)|(apply bD<;>intro _<;>first|omega|conv=>whnf))
 .have b:XJ (XJ (n+(1+p.A[j].C[a].name.length:Nat))+(IB (p.A[j].C.drop (a+1))+(gL p.A[j].body+R5 (p.A.drop (j+1))):Nat))=XJ (gPg p:Nat):=by
   rw[ZZ (by omega),<-v];congr 1;omega
  exact⟨(a+1,XJ (n+(1+p.A[j].C[a].name.length:Nat))),⟨by simp only;omega,XA (by omega),b⟩,by simp only;omega,Le.of_eq rfl⟩
 .obtain ⟨f1,f2⟩:=fin (z (by omega));exact⟨(j+1,XJ (n+gL p.A[j].body)),⟨by simp only;omega,f1,f2⟩,by simp only;omega,Le.of_eq rfl⟩
inductive SubE:List AV->List AV->Prop
 |nil:SubE [] []
 |cons {a b:AV} {xs ys:List AV} (h:SubL a.cells b.cells) (hs:SubE xs ys):SubE (a::xs) (b::ys)
theorem SubE.get{xs m:List AV}(h:SubE xs m):xs.length=m.length/\∀(i:Nat)(b:AV),m[i]?=some b->∃a,xs[i]?=some a/\SubL a.cells b.cells:=by
 induction h with
 |nil=>exact⟨rfl,by simp⟩
 | cons h q o=>
   refine⟨by simp[o.1],fun i b j=>?_⟩;cases i with
   |zero=>simp at j;subst j;exact⟨_,rfl,h⟩
   |succ i=>exact o.2 i b (by simpa using j)
theorem Sub.sl{xs t:List AV}(h:SubE xs t):Sub (.sl xs) (.sl t):=fun σ v G=>by
 obtain⟨g,y⟩:=h.get;cases G with
 | nilsl=>
   obtain rfl:t=[]:=by simpa using g.symm
   exact .nilsl
 | slz b=>
   obtain rfl:t=[]:=by simpa using g.symm
   exact .slz b
 | sl _ b off cap sz cells u E C r B F A=>
   rw[g];refine .sl t b off cap sz cells u E (by omega) r (fun i e q=>?_) (fun i e j c q z=>?_) (fun i e j c q z=>?_)
   .obtain ⟨a,m,o⟩:=y i e q;rw[<-B i a m,o.1]
   .obtain ⟨a,m,o⟩:=y i e q;obtain⟨d,x,_⟩:=o.get z;exact F i a j d m x
   .obtain ⟨a,m,o⟩:=y i e q;obtain⟨d,x,D⟩:=o.get z;exact D _ _ (A i a j d m x)
def YC(n:Int):SpecP prog 85 [.int .i64 n] (fun r=>r=.agg (X.mk 1 n [] []).cells):=by
 refine sB MT func85 rfl call85 ?_;conv=>whnf
 repeat' (refine x7g rfl ?_;conv=>whnf)
 exact⟨_,.p (Sub.agg (by repeat' (first|exact SubL.nil|refine SubL.cons ?_ ?_|exact Sub.refl _|exact Sub.nils|exact Sub.ff rfl))),rfl⟩
def Zy(s:Str):SpecP prog 86 [.str s] (fun r=>r=.agg (X.mk 2 0 s []).cells):=by
 refine sB NV func86 rfl call86 ?_;conv=>whnf
 repeat' (refine x7g rfl ?_;conv=>whnf)
 exact⟨_,.p (Sub.agg (by repeat' (first|exact SubL.nil|refine SubL.cons ?_ ?_|exact Sub.refl _|exact Sub.nils|exact Sub.ff rfl))),rfl⟩
def FZ(op:Int)(a b:X):SpecP prog 87 [.int .i64 op,.agg a.cells,.agg b.cells] (fun r=>r=.agg (X.mk op 0 [] [a,b]).cells):=by
 refine sB MC func87 rfl call87 ?_;conv=>whnf
 repeat' ((first|refine x7g rfl ?_|refine aD ?_|refine BsK.pureL rfl rfl ?_);conv=>whnf)
 have e:X.avs [a,b]=[.agg a.cells,.agg b.cells]:=by simp only[X.avs,X.av_eq]
 exact⟨_,.p (Sub.agg (SubL.cons (Sub.refl _) (SubL.cons (Sub.refl _) (SubL.cons (Sub.refl _) (SubL.cons (Sub.of_eq (by show _=AV.sl (X.avs [a,b]);rw[e];rfl)) SubL.nil))))),rfl⟩
def bs(l:List Nat):Str:=l.map fun n=>UInt8.ofNat n
def someP:Pg:=⟨[[103]],[
 ⟨[109,97,105,110],[],[[118]],[
   .mk 1 1 [] [118] [] (.mk 1 2 [] []) false [] [] [],
   .mk 2 4 [] [103] [112] (.mk 0 0 [] []) false [⟨false,[],.mk 1 3 [] []⟩,⟨true,[118],.mk 0 0 [] []⟩] [] [],
   .mk 3 3 [] [] [] (.mk 2 0 [118] []) false [] [] [],
   .mk 4 3 [] [] [] (.mk 2 0 [103] []) false [] [] []],[]⟩,
 ⟨[112],[⟨[120],false⟩,⟨[121],true⟩],[],[
   .mk 5 1 [] [121] [] (.mk 8 0 [] [.mk 2 0 [121] [],.mk 2 0 [120] []]) false [] [] [],
   .mk 6 5 [] [] [] (.mk 12 0 [] [.mk 2 0 [121] [],.mk 1 9 [] []]) false [] [.mk 7 10 [] [101] [] (.mk 0 0 [] []) false [] [] []] [],
   .mk 8 9 [] [] [] (.mk 2 0 [121] []) true [] [] []],[[101]]⟩]⟩
def Zv:SpecP prog 43 [] (fun r=>r=.agg someP.cells):=by
 refine sB NW func43 rfl call43 ?_;conv=>whnf
 repeat' ((first|refine cP (YC _) ?_|refine cP (Zy _) ?_|refine x7g rfl ?_|refine aD ?_|refine bP ?_|refine BsK.pureL rfl rfl ?_|refine cP (FZ 8 (.mk 2 0 [121] []) (.mk 2 0 [120] [])) ?_|refine cP (FZ 12 (.mk 2 0 [121] []) (.mk 1 9 [] [])) ?_);conv=>whnf)
 exact⟨_,.p (Sub.agg (by repeat' (first|exact SubL.nil|exact SubE.nil|exact Sub.nils|exact Sub.ff rfl|exact Sub.tt rfl|refine SubL.cons ?_ ?_|refine SubE.cons ?_ ?_|exact Sub.refl _|refine Sub.agg ?_|refine Sub.sl ?_))),rfl⟩
def Ds:Fit someP:=by unfold Fit;decide
def Dt:chkB someP=true:=by kernel_rfl
def f0:Pr:=someP.A[0]'(by decide)
def f1:Pr:=someP.A[1]'(by decide)
def x0j:WC (QF someP 0 f0)=[⟨0,1,1⟩,⟨1,2,1⟩,⟨2,3,1⟩,⟨3,4,1⟩,⟨4,-1,1⟩]:=by
 have h:QF someP 0 f0=[⟨0,1,1⟩,⟨1,2,1⟩,⟨2,3,1⟩,⟨3,4,1⟩,⟨4,-1,1⟩]:=by kernel_rfl
 unfold WC JZ;rw[h,List.mergeSort_of_pairwise (by decide)];rfl
def x0k:WC (QF someP 1 f1)=[⟨0,5,1⟩,⟨5,6,1⟩,⟨6,7,1⟩,⟨6,8,1⟩,⟨7,-1,1⟩,⟨8,-1,1⟩]:=by
 have h:QF someP 1 f1=[⟨0,5,1⟩,⟨5,6,1⟩,⟨6,7,1⟩,⟨6,8,1⟩,⟨7,-1,1⟩,⟨8,-1,1⟩]:=by kernel_rfl
 unfold WC JZ;rw[h,List.mergeSort_of_pairwise (by decide)];rfl
def Ca:∀(k:Nat)(l:List S)(_:cntL l<k)(_:cntL l<=1000000),SpecP prog 49 [eSs l] (fun r=>r=.int .i64 (cntL l)):=by
 intro k;induction k with
 |zero=>intro l h;omega
 | succ k v=>
   intro l a b;have q:=S.avs_len l;have c:l.length<=cntL l:=by
    clear a b q;induction l with
    |nil=>simp
    |cons t r m=>rw[cntL,WQ,x8j];omega
   refine sB Ba func49 rfl call49 ?_;conv=>whnf
   repeat' (refine iM fun _=>?_;conv=>whnf)
   refine LoopK.inv QV (fun y:Nat×Nat=>⟨[(0,.p (eSs l)),(3,.j y.2),(8,.p (.int .i64 (S.avs l).length)),(9,.j y.1)],[]⟩) (fun y=>y.1<=l.length/\y.2+cntL (l.drop y.1)=cntL l+(l.length-y.1)) (fun y=>l.length-y.1) (0,l.length) (Le.of_eq (by simp only[S.avs_len];rfl)) ⟨x7p _,by simp;omega⟩ ?_;rintro⟨j,n⟩ ⟨x,u⟩;simp only at x u⊢;rcases x7m j l.length with o|o
   .have d:=LU o;have z:=WQ l[j];have e:cntL (l.drop j)<=cntL l:=by
     have:∀(l:List S)(j:Nat),cntL (l.drop j)<=cntL l:=fun l=>by
      induction l with
      |nil=>intro j;simp
      | cons t r m=>
        intro j;cases j with
        |zero=>simp
        |succ j=>rw[List.drop_succ_cons,cntL];have:=m j;omega
     exact this l j
    conv=>whnf
    repeat' (first|((first|refine dA ?_|refine UK (by omega) ?_|refine wI ?_|(refine CallK.pure (v l[j].L (by omega) (by omega)) (.cons (Sub.refl _) .nil) ?_;rintro _ rfl)|(refine CallK.pure (v l[j].M (by omega) (by omega)) (.cons (Sub.refl _) .nil) ?_;rintro _ rfl));conv=>whnf)|(apply bD<;>intro _<;>first|omega|conv=>whnf))
    all_goals exact⟨(j+1,n+(cntL l[j].L+cntL l[j].M)),⟨by simp only;omega,by simp only;omega⟩,by simp only;omega,Le.of_eq rfl⟩
   .conv=>whnf
    rw[x7e o,cntL]at u;repeat' (apply bD<;>intro _<;>first|omega|conv=>whnf)
    exact RetK.int (by omega)
def Hh(p:Pg)(v:cntP p.A<=1000):SpecP prog 13 [.agg p.cells] (fun r=>r=.int .i64 (cntP p.A)):=by
 refine sB Bc func13 rfl call13 ?_;conv=>whnf
 have t:(p.A.map fun f=>AV.agg f.cells).length=p.A.length:=x7z _;repeat' (refine iM fun _=>?_;conv=>whnf)
 refine LoopK.inv QV (fun y:Nat×Nat=>⟨[(3,.j y.2),(7,.p (.sl (p.A.map fun f=>.agg f.cells))),(8,.p (.int .i64 (p.A.map fun f=>AV.agg f.cells).length)),(9,.j y.1)],[]⟩) (fun y=>y.1<=p.A.length/\y.2+cntP (p.A.drop y.1)=cntP p.A) (fun y=>p.A.length-y.1) (0,0) (Le.of_eq rfl) ⟨x7p _,by simp⟩ ?_;rintro⟨j,n⟩ ⟨o,m⟩;simp only at o m⊢;rcases x7m j p.A.length with h|h
 .have u:=Uk h;have q:=KZ _ _ (x7l h);conv=>whnf
  repeat' (first|((first|refine x7g rfl ?_|(refine iA fun _=>?_)|refine wI ?_|(refine CallK.pure (Ca (cntL p.A[j].body+1) p.A[j].body (by omega) (by omega)) (.cons (Sub.refl _) .nil) ?_;rintro _ rfl));conv=>whnf)|(apply bD<;>intro _<;>first|omega|conv=>whnf))
  exact⟨(j+1,n+cntL p.A[j].body),⟨by simp only;omega,by simp only;omega⟩,by simp only;omega,Le.of_eq rfl⟩
 .conv=>whnf
  rw[x7e h,cntP]at m;repeat' (apply bD<;>intro _<;>first|omega|conv=>whnf)
  exact RetK.int (by omega)
def Hq(p:Pg)(h:Int):Bool:=chkB p&&decide ((cntP p.A:Int)<=h)
def UN{l:List Str}{x:Str}:inS l x=true↔x∈l:=by
 unfold inS;rw[x8e];constructor
 .rintro ⟨y,j,m⟩;have:y=x:=by simpa using m
  rw[<-this];exact j
 .intro h;exact⟨x,h,by simp⟩
def Vd(h:chkB p=true){j:Nat}(o:p.A[j]?=some f){a:Int}(b:(QP p.A j:Int)+1<=a)(c:a<=(QP p.A j+cntL f.body:Nat)):∃t∈flL f.body,IT p a=some t/\t.id=a:=by
 obtain⟨it,r,v⟩:=GD o (k:=(a-1).toNat) (by omega) (by omega);refine⟨it.s,KM v,by unfold IT;rw[r];rfl,?_⟩;obtain⟨_,_,_,u,q⟩:=QU p;obtain⟨_,_,z,y⟩:=q j f o;have m:=AI (QY h).1 o;have x:(itsOf p j f)[(a-1).toNat-QP p.A j]?=some it:=by
  unfold itsOf;rw[<-y,x9f,x8r,if_pos (by omega),show QP p.A j+((a-1).toNat-QP p.A j)=(a-1).toNat by omega];exact r
 have n:((itsOf p j f).map fun it=>it.s.id)[(a-1).toNat-QP p.A j]?=some it.s.id:=by rw[x7k,x];rfl
 rw[m]at n;unfold V6 at n;rw[x7k,List.getElem?_range' (by omega)]at n;simp at n;omega
def Rj{l:List Str}(h:s∈l):s∈Go.Lib.compact l:=by
 have key:∀(j:Nat)(m:j<l.length),l[j]∈Go.Lib.compact l:=fun j=>by
  induction j with
  | zero=>
    intro m;refine x7d.2 ⟨0,x8d.2 ⟨by simpa using m,by simp[Go.Lib.keeps]⟩,?_⟩;simp[m]
  | succ j q=>
    intro m;cases o:Go.Lib.keeps l.toArray (j+1)with
    | true=>
      refine x7d.2 ⟨j+1,x8d.2 ⟨by simpa using m,o⟩,?_⟩;simp[m]
    | false=>
      have n:j<l.length:=by omega
      have:l[j+1]=l[j]:=by
       unfold Go.Lib.keeps at o;simp[m,n]at o;exact o
      rw[this];exact q n
 obtain⟨j,m,rfl⟩:=x9s.1 h;exact key j m
def Yp{l:List Str}:s∈Go.Lib.compact l↔s∈l:=⟨NF,Rj⟩
def D8{l:List Str}{v:Str}:(l.any fun s=>v==s)=true↔v∈l:=by
 rw[x8e];constructor
 .rintro ⟨s,m,j⟩
  rwa[show v=s by simpa using j]
 .exact fun h=>⟨v,h,by simp⟩
theorem Dk{α:Type}{R:α->α->Prop}(irr:∀a,¬R a a)(r:∀a b c,R a b->R b c->R a c):∀{l m:List α},l.Pairwise R->m.Pairwise R->(∀s,s∈l↔s∈m)->l=m
 |[],[],_,_,_=>rfl
 |[],b::m,_,_,h=>by have:=(h b).2 x7v;cases this
 |a::l,[],_,_,h=>by have:=(h a).1 x7v;cases this
 | a::l,b::m,hl,hm,h=>by
   rw[z0a]at hl hm;have q:a=b:=by
    rcases x7f.1 ((h a).1 x7v)with j|j
    .exact j
    rcases x7f.1 ((h b).2 x7v)with o|o
    .exact o.symm
    exact absurd (r _ _ _ (hl.1 b o) (hm.1 a j)) (irr a)
   subst q;rw[Dk irr r hl.2 hm.2 fun s=>?_];constructor
   .intro n;rcases x7f.1 ((h s).1 (x7j _ n))with rfl|j
    .exact absurd (hl.1 s n) (irr s)
    .exact j
   .intro n;rcases x7f.1 ((h s).2 (x7j _ n))with rfl|j
    .exact absurd (hm.1 s n) (irr s)
    .exact j
theorem RT:∀(x y:List UInt8),Op.bytesLess x y=decide (x<y)
 |[],[]=>by simp[Op.bytesLess]
 |_::_,[]=>by simp[Op.bytesLess]
 |[],_::_=>by simp[Op.bytesLess]
 | a::x,b::y=>by
   rw[Op.bytesLess,RT x y];simp only[List.cons_lt_cons_iff];by_cases h:a<b<;>by_cases j:a=b<;>by_cases m:x<y<;>simp[h,j,m]
def ltT(a b:Str):Prop:=Op.bytesLess a b=true
def NS{a b:Str}:ltT a b↔a<b:=by
 unfold ltT;rw[RT,x8l]
theorem ltT.irr(a:Str):¬ltT a a:=fun h=>List.lt_irrefl a (NS.1 h)
theorem ltT.trans(a b c:Str)(j:ltT a b)(m:ltT b c):ltT a c:=NS.2 (List.lt_trans (NS.1 j) (NS.1 m))
theorem ltT.total{a b:Str}(h:a≠b):ltT a b\/ltT b a:=by
 by_cases m:a<b
 .exact .inl (NS.2 m)
 .rcases List.le_iff_lt_or_eq.1 (List.not_lt.1 m)with j|j
  .exact .inr (NS.2 j)
  .exact absurd j.symm h
def q1e(l:List Str):(JV l).Pairwise fun a b=>a<=b:=by
 have:=List.pairwise_mergeSort (le:=fun x y:Str=>decide (x<=y)) (fun a b c j m=>by
  rw[x8l]at j m⊢;exact List.le_trans j m) (fun a b=>by
  rcases List.le_total a b with h|h
  .rw [z0y h];rfl
  .rw [z0y h];exact Bool.or_true _) l
 exact this.imp fun h=>by simpa using h
def Pd{l:List Str}(h:l.Pairwise fun a b=>a<=b):(Go.Lib.compact l).Pairwise ltT:=by
 unfold Go.Lib.compact Go.Lib.compactUpTo;rw[List.pairwise_map];refine(List.Pairwise.filter _ (List.pairwise_lt_range (n:=l.length))).imp_of_mem fun {i k} z c d=>?_;obtain⟨o,_⟩:=x8d.1 z;obtain⟨j,m⟩:=x8d.1 c;rw[x8n]at o j;have le:∀(a b:Nat)(_:a<=b)(v:b<l.length),l[a]'(by omega)<=l[b]:=fun a b y v=>by
  rcases x7m a b with q|q
  .exact List.pairwise_iff_getElem.1 h a b (by omega) v q
  .obtain rfl:a=b:=by omega
   exact List.le_refl _
 have g:∀(a:Nat)(ha:a<l.length),l.toArray[a]! = l[a]:=fun a ha=>by simp[ha]
 rw[g i o,g k j];unfold Go.Lib.keeps at m;rw[x8l,g k j,g (k-1) (by omega)]at m;have t:l[k]≠l[k-1]'(by omega):=by
  rcases m with u|u
  .omega
  .exact u
 have q:=le i (k-1) (by omega) (by omega);have x:=le (k-1) k (by omega) j;rcases List.le_iff_lt_or_eq.1 x with r|r
 .exact NS.2 (List.lt_of_le_of_lt q r)
 .exact absurd r.symm t
def WA(l:List Str):List Str:=Go.Lib.compact (JV l)
def ZQ{l:List Str}:s∈WA l↔s∈l:=by unfold WA;rw[Yp,Qw]
def ZF(l:List Str):(WA l).Pairwise ltT:=Pd (q1e l)
def q1y{l m:List Str}(h:m.Pairwise ltT)(j:∀s,s∈m↔s∈l):m=WA l:=Dk ltT.irr ltT.trans h (ZF l) fun s=>by rw[j,ZQ]
section
variable {α:Type}{R:α->α->Prop}{l out:List α}{i k:Nat}
def HF{s:α}(h:k<l.length):s∈l.take (k+1)↔s∈l.take k\/s=l[k]:=by
 rw[x7r h,x7b,x7y]
end
def Dn(h:chkB p=true){j:Nat}(o:p.A[j]?=some f){k:Nat}{it:Item}(r:QP p.A j<=k)(u:k<QP p.A j+cntL f.body)(q:(sheetOf p).l[k]?=some it):it.s.id=(k:Int)+1:=by
 obtain⟨t,_,m,n⟩:=Vd h o (a:=(k:Int)+1) (by omega) (by omega);unfold IT at m;rw[show((k:Int)+1-1).toNat=k by omega,q]at m;cases m;exact n
def EG{j:Nat}{it:Item}(h:it∈itsOf p j f){y:Int}(m:y∈VR (sheetOf p) f it):(⟨it.s.id,y,1⟩:Step)∈QF p j f:=by
 unfold QF;exact x7j _ (x8h.2 ⟨it,h,x7d.2 ⟨y,m,rfl⟩⟩)
theorem No{n:Nat}{part:List Int}(v:∀k,k<n->0<=part.getD k 0/\part.getD k 0<n){i:Nat}(x:i<n):∀(l:List (Int×Int)){o:List Bool},o.length=n->(∀t∈l,0<=t.1/\t.1<n)->
  ((l.foldl (Xc part) o).getD i false=true↔o.getD i false=true\/∃t∈l,part.getD t.1.toNat 0≠part.getD t.2.toNat 0/\part.getD t.1.toNat 0=i)
 |[],o,_,_=>by simp
 | t::r,o,ho,hr=>by
   rw [z0b,No v x r (by rw[M4];exact ho) fun u j=>hr u (x7j _ j)];have y:=hr t x7v;have z:=v t.1.toNat (by omega);have key:(Xc part o t).getD i false=true↔o.getD i false=true\/(part.getD t.1.toNat 0≠part.getD t.2.toNat 0/\part.getD t.1.toNat 0=i):=by
    unfold Xc;split
    .rename_i q;constructor
     .exact .inl
     .rintro (h|⟨h,_⟩)
      .exact h
      .exact absurd q h
    .rename_i q;rw[ZJ (by omega)];split
     .rename_i h;constructor
      .intro _;exact .inr ⟨q,by omega⟩
      .intro _;rfl
     .rename_i h;constructor
      .exact .inl
      .rintro (m|⟨_,m⟩)
       .exact m
       .exact absurd (by omega) h
   rw[key,or_assoc];constructor
   .rintro (h|⟨h,m⟩|⟨u,j,h⟩)
    .exact .inl h
    .exact .inr ⟨t,x7v,h,m⟩
    .exact .inr ⟨u,x7j _ j,h⟩
   .rintro (h|⟨u,j,h⟩)
    .exact .inl h
    .rcases x7f.1 j with rfl|j
     .exact .inr (.inl h)
     .exact .inr (.inr ⟨u,j,h⟩)
def q0b{n:Nat}{part:List Int}(o:0<n)(j:∀k,k<n->0<=part.getD k 0/\part.getD k 0<n){i:Nat}(m:i<n){l:List (Int×Int)}(q:∀t∈l,0<=t.1/\t.1<n):
  (Dz n part l).getD i false=true↔part.getD 0 0=i\/part.getD (n-1) 0=i\/∃t∈l,part.getD t.1.toNat 0≠part.getD t.2.toNat 0/\part.getD t.1.toNat 0=i:=by
 have r:=j 0 o;have u:=j (n-1) (by omega);unfold Dz;rw[No j m l (by simp[K7]) q];have key:(K7 n part).getD i false=true↔part.getD 0 0=i\/part.getD (n-1) 0=i:=by
  unfold K7;rw[ZJ (by rw[x9d,x9w];omega),ZJ (by rw[x9w];omega)];split
  .exact ⟨fun _=>.inr (by omega),fun _=>rfl⟩
  .split
   .exact ⟨fun _=>.inl (by omega),fun _=>rfl⟩
   .have:(List.replicate n false).getD i false=false:=by
     rw[x7w,x8g];split<;>rfl
    rw[this];constructor
    .intro h;cases h
    .rintro (h|h)<;>omega
 rw[key,or_assoc]
end Go.Ab
