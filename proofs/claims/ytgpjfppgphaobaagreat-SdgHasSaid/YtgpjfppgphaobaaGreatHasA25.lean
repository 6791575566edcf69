/- whole: a right program's whole graph. Conditions: the program fits. -/
import Derived.Test.YtgpjfppgphaobaaGreatHasA24
set_option linter.all false
set_option maxRecDepth 100000
set_option maxHeartbeats 16000000
namespace Go.Ab
open Go.Proofs.Tryz
open Go.Proofs
variable {j m:Nat}{p:Pg}
def E5(p:Pg){l:List Str}(h:j<l.length):LN p (l.take (j+1))=LN p (l.take j)++E7 p (Yp p l[j]).toNat:=by
 unfold LN;rw[x1t h,x3i];simp
def C4(p:Pg){l:List Str}(h:j<l.length):OU p (l.take (j+1))=OU p (l.take j)++q1w p (Yp p l[j]).toNat:=by
 unfold OU;rw[x1t h,x3i];simp
def EQ{V:List Vx}(h:j<V.length):atV (V.take (j+1))=Jx (atV (V.take j)) V[j] j:=by
 unfold atV;rw[x1t h,List.zipIdx_append,x5v];simp[Nat.min_eq_left (Nat.le_of_lt h)]
def q0f{vs i:List Vx}{K:Prop}(h:vs.length+i.length<=1000000000000)(l:m=(avV i).length)(k:K):AppK (avV vs) (avV i) vs.length m 4 48 K:=by
 have e:(avV i).length=i.length:=x1j _;exact .mk (x1j _).symm l (by omega) (by unfold maxLen;omega) (fun x n=>by obtain⟨v,_,rfl⟩:=x1r.1 n;exact⟨rfl,rfl⟩) k
def q0h{vs i:List Eg}{K:Prop}(h:vs.length+i.length<=1000000000000)(l:m=(avE i).length)(k:K):AppK (avE vs) (avE i) vs.length m 9 104 K:=by
 have e:(avE i).length=i.length:=x1j _;exact .mk (x1j _).symm l (by omega) (by unfold maxLen;omega) (fun x n=>by obtain⟨v,_,rfl⟩:=x1r.1 n;exact⟨rfl,rfl⟩) k
def DL(k:Fit p)(i:QA p=false):aH 39 [.p (.agg p.cells)] [] (.p .nilp) []:=by
 have h:=(Lr p k).mono (R':=fun r=>r=.nilp) fun r l=>l.2 i;refine sK Wb func39 ?_;conv=>whnf
 repeat' ((first|(refine gX ?_;intros)|refine dA ?_|refine cP h ?_|((first|apply bD|apply bE|apply bN|apply bB)<;>intro _<;>try omega))<;>conv=>whnf)
 all_goals first
  |exact x3e _ (x2u _) ⟨rfl,rfl⟩
def OT{h n:Nat}{b:List AV}{P V E:AV}{l:List (Vx×AV)}:
  Le h ⟨[(4,.ptr 1 0)],[(3,.own 183 1 (List.replicate n .nils)),(2,.own 183 1 (List.replicate n .nils)),(1,whO b (.p P) (.p V) (.p E) (.p .nils) (.ext 0 .map) (.hd 2 0 n) (.hd 3 0 n)),(0,.ext (Yd vxV l))]⟩
   ⟨[(4,.ptr 1 0)],[(1,whO b (.p P) (.p V) (.p E) (.p .nils) (.ext 0 .map) (.hd 2 0 n) (.hd 3 0 n)),(0,.ext (Yd vxV l)),(2,.ext (.mat 183 185 2 (avA (List.replicate n [])) [])),(3,.ext (.mat 183 185 2 (avA (List.replicate n [])) []))]⟩:=by
 have o:=YS (N:=h) (sl:=[(4,.ptr 1 0)]) (H:=[(3,.own 183 1 (List.replicate n .nils)),(2,.own 183 1 (List.replicate n .nils)),(1,whO b (.p P) (.p V) (.p E) (.p .nils) (.ext 0 .map) (.hd 2 0 n) (.hd 3 0 n)),(0,.ext (Yd vxV l))])
  (H':=[(3,.ext (.mat 183 185 2 (List.replicate (List.replicate n AV.nils).length []) [])),(2,.own 183 1 (List.replicate n .nils)),(1,whO b (.p P) (.p V) (.p E) (.p .nils) (.ext 0 .map) (.hd 2 0 n) (.hd 3 0 n)),(0,.ext (Yd vxV l))])
  3 185 2 (e:=183) (es:=List.replicate n .nils) rfl (fun x k=>x3b k) rfl rfl rfl rfl (by simp[JY])
 have i:=YS (N:=h) (sl:=[(4,.ptr 1 0)]) (H:=[(3,.ext (.mat 183 185 2 (List.replicate (List.replicate n AV.nils).length []) [])),(2,.own 183 1 (List.replicate n .nils)),(1,whO b (.p P) (.p V) (.p E) (.p .nils) (.ext 0 .map) (.hd 2 0 n) (.hd 3 0 n)),(0,.ext (Yd vxV l))])
  (H':=[(3,.ext (.mat 183 185 2 (List.replicate (List.replicate n AV.nils).length []) [])),(2,.ext (.mat 183 185 2 (List.replicate (List.replicate n AV.nils).length []) [])),(1,whO b (.p P) (.p V) (.p E) (.p .nils) (.ext 0 .map) (.hd 2 0 n) (.hd 3 0 n)),(0,.ext (Yd vxV l))])
  2 185 2 (e:=183) (es:=List.replicate n .nils) rfl (fun x k=>x3b k) rfl rfl rfl rfl (by simp[JY])
 refine(o.trans i).trans ?_;exact lE (hH:=.cons rfl (.refl _) (.cons rfl (.refl _) (.cons rfl (.of_eq (by simp[avA,avP])) (.cons rfl (.of_eq (by simp[avA,avP])) .nil))))
def q7f(k:Nat):Nat:=if k=2 then 3 else if k=3 then 2 else k
def q5x{o n:Nat}{b:List AV}{P V E:AV}{l:List (Vx×AV)}:
  Le o ⟨[(4,.ptr 1 0)],[(3,.own 183 1 (List.replicate n .nils)),(2,.own 183 1 (List.replicate n .nils)),(1,whO b (.p P) (.p V) (.p E) (.p .nils) (.ext 0 .map) (.hd 3 0 n) (.hd 2 0 n)),(0,.ext (Yd vxV l))]⟩
   ⟨[(4,.ptr 1 0)],[(1,whO b (.p P) (.p V) (.p E) (.p .nils) (.ext 0 .map) (.hd 2 0 n) (.hd 3 0 n)),(0,.ext (Yd vxV l)),(2,.ext (.mat 183 185 2 (avA (List.replicate n [])) [])),(3,.ext (.mat 183 185 2 (avA (List.replicate n [])) []))]⟩:=by
 refine Le.trans ?_ OT;refine Se q7f (fun k=>by unfold q7f;split<;>(try split)<;>simp_all) (fun j q s=>by unfold q7f;rw[if_neg (by omega),if_neg (by omega)]) (.r .nil) (fun j c h=>?_) (by simp);rcases x1p.1 h with i|h
 .cases i;exact⟨_,x1d _ x1f,CSub.refl _⟩
 rcases x1p.1 h with i|h
 .cases i;exact⟨_,x1f,CSub.refl _⟩
 rcases x1p.1 h with i|h
 .cases i;exact⟨_,x1d _ (x1d _ x1f),CSub.refl _⟩
 rcases x1p.1 h with i|h
 .cases i;exact⟨_,x1d _ (x1d _ (x1d _ x1f)),CSub.refl _⟩
 .cases h
def Rx{N:List (List (Int×Int))}(h:∀r∈N,r.length<=m)(a:Nat)(x:Int×Int):∀r∈Bq N a x,r.length<=m+1:=by
 intro r i;unfold Bq at i;rcases x4k i with i|rfl
 .exact Nat.le_succ_of_le (h r i)
 .rw [x1h,x2k,x1g];cases k:N[a]?with
  |none=>exact Nat.succ_le_succ (x1l _)
  |some y=>exact Nat.succ_le_succ (h y (x1o k))
theorem Bk(n:Nat)(l:List (Vx×Nat))(E:List Eg):∀j,j<=E.length->((Uh n l (E.take j)).length=n/\∀r∈Uh n l (E.take j),r.length<=j)/\(Ul n l (E.take j)).length=n/\∀r∈Ul n l (E.take j),r.length<=j
 | 0,_=>by
   unfold Uh Ul;rw[List.take_zero];refine⟨⟨x3v,fun r i=>?_⟩,x3v,fun r i=>?_⟩;all_goals
    rw[x3b i];exact x1l _
 | j+1,h=>by
   obtain⟨⟨k,o⟩,q,s⟩:=Bk n l E j (by omega);unfold Uh Ul at*
   rw[x1t (by omega),x5v,x5v];exact⟨⟨layR_len.trans k,Rx o _ _⟩,layR_len.trans q,Rx s _ _⟩
def TY(n:Nat)(l:List (Vx×Nat)){E:List Eg}(h:j<E.length):Uh n l (E.take (j+1))=Bq (Uh n l (E.take j)) (ixN l E[j].G) (ixN l E[j].to,E[j].kind)/\Ul n l (E.take (j+1))=Bq (Ul n l (E.take j)) (ixN l E[j].to) (ixN l E[j].G,E[j].kind):=by
 unfold Uh Ul;rw[x1t h,x5v,x5v];exact⟨rfl,rfl⟩
def Ew(b:List AV)(R:List Str)(V:List Vx)(E:List Eg)(l:List (Vx×Nat))(N Q:List (List (Int×Int))):Heap:=[(1,whO b (.p (eStrs R)) (.p (.sl (avV V))) (.p (.sl (avE E))) (.p .nils) (.ext 0 .map) (.hd 2 0 V.length) (.hd 3 0 V.length)),(0,.ext (Yd vxV (lG l))),(2,.ext (.mat 183 185 2 (avA N) [])),(3,.ext (.mat 183 185 2 (avA Q) []))]
noncomputable def q0g(p:Pg):Heap:=Ew (QY p).cells (QR p) (LN p (QR p)) (Dk p) (atV (LN p (QR p))) (Uh (LN p (QR p)).length (atV (LN p (QR p))) (Dk p)) (Ul (LN p (QR p)).length (atV (LN p (QR p))) (Dk p))
def LS(hf:Fit p)(i:QA p=true):aH 39 [.p (.agg p.cells)] [] (.ptr 1 0) (q0g p):=by
 have hB:=(Lr p hf).mono (R':=fun r=>r=.ip (QY p).cells) fun r K=>K.1 i;have T:(QY p).s.p=p:=by rw[(VS i).s];exact(QU p).1
 have hR:=Ma i;have hRl:=Us i;obtain⟨hR1,z⟩:=JS i;have G:=fun j=>RM i ((QR p).take j) fun n U=>z n (x6p U);have F:=fun j=>Ly i ((QR p).take j) fun n U=>z n (x6p U);generalize o:QR p=R at*
 have hRm:(R.map AV.str).length=R.length:=x1j _;refine sK Wb func39 ?_;conv=>whnf
 repeat' ((first|(refine gX ?_;intros)|refine dA ?_|refine cP hB ?_|refine OpK.makeMap rfl ?_|((first|apply bD|apply bE|apply bN|apply bB)<;>intro _<;>try omega)|(refine cH [] 0 hR ?_ (hH:=x3n)))<;>conv=>whnf)
 refine lJ (fun x:Nat×List Vx×List Eg=>⟨[(3,.p (.ip (QY p).cells)),(4,.ptr 1 0),(25,.p (eStrs R)),(26,.p (.int .i64 (R.map AV.str).length)),(27,.j x.1)],[(1,whO (QY p).cells (.p (eStrs R)) (.hd 2 0 x.2.1.length) (.hd 3 0 x.2.2.length) (.p .nils) (.ext 0 .map) (.p .nils) (.p .nils)),(0,.ext (Yd vxV [])),(2,.own 27 4 (avV x.2.1)),(3,.own 43 9 (avE x.2.2))]⟩) (fun x=>x.1<=R.length/\x.2.1=LN p (R.take x.1)/\x.2.2=OU p (R.take x.1)) (fun x=>R.length-x.1) (0,[],[]) (lM [(2,.own 27 4 []),(3,.own 43 9 [])] (hH:=.cons rfl (.obj (.r (.r (.cons (.nil x1f) (.cons (.nil (x1d _ x1f)) (.r (.r (.r (.r .nil))))))))) (.cons rfl (.refl _) (.new x1f (.new (x1d _ x1f) .nil))))) ⟨x1l _,rfl,rfl⟩ ?_;rintro⟨j,vs,es⟩ ⟨Z,w,d⟩;simp only at Z w d⊢;have hvl:vs.length<=16*60000:=by
  have:=G j;have h4:=List.length_take_le j R;rw[w];exact x2m this (x2e _ (by rw[x2d];omega))
 have hel:es.length<=16*14000000:=by
  have:=F j;rw[d];exact x2m this (x2e _ (by rw[x2d];omega))
 rcases x1a j R.length with g|g
 .obtain ⟨k,L,b,_⟩:=PK (z _ (x1c g));have O:aP 65 [.ip (QY p).s.cells,.str R[j]] (.int .i64 (k:Nat)):=by
   have:=ZO (QY p).s R[j];rw[T,show idxF (fun f=>f.name==R[j]) p.A=(k:Nat)from b]at this;exact this
  have hV:=Me i L;have hE:=Sj hf i L;have hv1:=RR i L;have he1:=Lj i L;have sV:=E5 p g;have sE:=C4 p g;rw[<-w,b,x3z]at sV;rw[<-d,b,x3z]at sE;generalize E7 p k=nv at*
  generalize q1w p k=ne at*
  conv=>whnf
  repeat' ((first|(refine gX ?_;intros)|refine cP O ?_|((first|apply bD|apply bE|apply bN|apply bB)<;>intro _<;>try omega))<;>conv=>whnf)
  refine ZJ ⟨[(3,.p (.ip (QY p).cells)),(4,.ptr 1 0),(7,.j k),(25,.p (eStrs R)),(26,.p (.int .i64 (R.map AV.str).length)),(27,.j j)],[(1,whO (QY p).cells (.p (eStrs R)) (.hd 2 0 (vs++nv).length) (.hd 3 0 es.length) (.p .nils) (.ext 0 .map) (.p .nils) (.p .nils)),(0,.ext (Yd vxV [])),(2,.own 27 4 (avV (vs++nv))),(3,.own 43 9 (avE es))]⟩ ?_ ?_
  .skip
   repeat' ((first|(refine gX ?_;intros)|refine dA ?_|refine q0f (by omega) rfl ?_|((first|apply bD|apply bE|apply bN|apply bB)<;>intro _<;>try omega)|(refine cH [] 4 hV ?_ (hH:=x3n))|refine x2j ?_ ?_)<;>conv=>whnf)
   all_goals first
    |exact Le.of_eq (by simp only[whO,avV,x1e,x1h,x1j];rfl)
  conv=>whnf
  repeat' ((first|(refine gX ?_;intros)|((first|apply bD|apply bE|apply bN|apply bB)<;>intro _<;>try omega))<;>conv=>whnf)
  refine ZJ ⟨[(3,.p (.ip (QY p).cells)),(4,.ptr 1 0),(25,.p (eStrs R)),(26,.p (.int .i64 (R.map AV.str).length)),(27,.j j)],[(1,whO (QY p).cells (.p (eStrs R)) (.hd 2 0 (vs++nv).length) (.hd 3 0 (es++ne).length) (.p .nils) (.ext 0 .map) (.p .nils) (.p .nils)),(0,.ext (Yd vxV [])),(2,.own 27 4 (avV (vs++nv))),(3,.own 43 9 (avE (es++ne)))]⟩ ?_ ?_
  .skip
   repeat' ((first|(refine gX ?_;intros)|refine dA ?_|refine q0h (by omega) rfl ?_|((first|apply bD|apply bE|apply bN|apply bB)<;>intro _<;>try omega)|(refine cH [] 4 hE ?_ (hH:=x3n))|refine x2j ?_ ?_)<;>conv=>whnf)
   all_goals first
    |exact Le.of_eq (by simp only[whO,avE,x1e,x1h,x1j];rfl)
  conv=>whnf
  repeat' ((first|(refine gX ?_;intros)|refine dA ?_|((first|apply bD|apply bE|apply bN|apply bB)<;>intro _<;>try omega))<;>conv=>whnf)
  all_goals first
   |exact nX (j+1,vs++nv,es++ne) ⟨g,sV.symm,sE.symm⟩
 rw[x1i g]at w d;clear G F;conv=>whnf
 repeat' ((first|(refine gX ?_;intros)|refine dA ?_|((first|apply bD|apply bE|apply bN|apply bB)<;>intro _<;>try omega))<;>conv=>whnf)
 refine lJ (fun j:Nat=>⟨[(4,.ptr 1 0),(63,.p (.sl (avV vs))),(64,.j vs.length),(65,.j j)],[(1,whO (QY p).cells (.p (eStrs R)) (.p (.sl (avV vs))) (.hd 3 0 es.length) (.p .nils) (.ext 0 .map) (.p .nils) (.p .nils)),(0,.ext (Yd vxV (lG (atV (vs.take j))))),(3,.own 43 9 (avE es))]⟩) (fun j=>j<=vs.length) (fun j=>vs.length-j) 0 (Gh (k:=2) (e:=27) (sz:=4) (es:=avV vs) rfl (.cons (.keep rfl) (.cons (.row (x1j _).symm) (.cons (.keep rfl) (.cons (.keep rfl) .nil)))) (.obj (by decide) (.cons (.keep rfl) (.cons (.keep rfl) (.cons (.row (x1j _).symm) (.cons (.keep rfl) (.cons (.keep rfl) (.cons (.keep rfl) (.cons (.keep rfl) (.cons (.keep rfl) .nil)))))))) (.ext (by decide) (.drop (.own (by decide) .nil))))) (x1l _) ?_;intro B Z;rcases x1a B vs.length with q|q
 .have Y:(avV vs)[B]?=some (.agg vs[B].cells):=by simp[avV,q]
  have c:=EQ q;generalize vs[B]=v at Y c;generalize atV (vs.take B)=l at c⊢;conv=>whnf
  repeat' ((first|(refine gX ?_;intros)|refine dA ?_|refine iT Y ?_|refine Yi XG rfl rfl E3 rfl rfl (ks:=v) rfl (fun σ u h=>Pl (a:=v) h) rfl rfl rfl ?_|((first|apply bD|apply bE|apply bN|apply bB)<;>intro _<;>try omega))<;>conv=>whnf)
  all_goals first
   |exact⟨B+1,q,by omega,Le.of_eq (by rw[c,<-AA];rfl)⟩
 rw[x1i q];have hJ:=Sk i (eStrs R) vs (lG (atV vs)) es (by rw[w,<-o];exact q3h i) (by omega);have hjl:(es++vs.flatMap (jnV p)).length<=300000000:=by
  have:=XM (Ci p) vs;rw[x1h];omega
 have P:=Ki (es++vs.flatMap (jnV p)) (by rw[w,d,<-o];exact q1z i) (by omega);have M:FU (es++vs.flatMap (jnV p))=Dk p:=by rw[w,d,<-o];rfl
 have C:=Ud (es++vs.flatMap (jnV p));rw[M]at P C;have V:vs≠[]:=by rw[w,<-o];exact RL p
 generalize es++vs.flatMap (jnV p)=es2 at*
 obtain⟨E,D⟩ : ∃E,Dk p=E:=⟨_,rfl⟩;rw[D]at P C;conv=>whnf
 repeat' ((first|(refine gX ?_;intros)|((first|apply bD|apply bE|apply bN|apply bB)<;>intro _<;>try omega)|(refine cH [(1000,1),(2000,3),(1002,0)] 4 hJ ?_)|(refine cH [(1000,3)] 4 P ?_))<;>conv=>whnf)
 have I:(avE E).length=E.length:=x1j _;refine DrawK.le (s':=⟨[(4,.ptr 1 0)],[(1,whO (QY p).cells (.p (eStrs R)) (.p (.sl (avV vs))) (.p (.sl (avE E))) (.p .nils) (.ext 0 .map) (.p .nils) (.p .nils)),(0,.ext (Yd vxV (lG (atV vs))))]⟩) (Gh (k:=3) (e:=43) (sz:=9) (es:=avE E) rfl (.cons (.keep rfl) .nil) (.drop (.obj (by decide) (.cons (.keep rfl) (.cons (.keep rfl) (.cons (.keep rfl) (.cons (.row I.symm) (.cons (.keep rfl) (.cons (.keep rfl) (.cons (.keep rfl) (.cons (.keep rfl) .nil)))))))) (.ext (by decide) .nil)))) ?_;refine ZJ ⟨[(4,.ptr 1 0)],[(1,whO (QY p).cells (.p (eStrs R)) (.p (.sl (avV vs))) (.p (.sl (avE E))) (.p .nils) (.ext 0 .map) (.hd 2 0 vs.length) (.hd 3 0 vs.length)),(0,.ext (Yd vxV (lG (atV vs)))),(2,.ext (.mat 183 185 2 (avA (List.replicate vs.length [])) [])),(3,.ext (.mat 183 185 2 (avA (List.replicate vs.length [])) []))]⟩ ?_ ?_
 .skip
  repeat' ((first|(refine gX ?_;intros)|refine dA ?_|refine x5i vs.length (by simp[avV]) (by show 24*vs.length<=140737488355328;omega) (by unfold maxLen;omega) ?_|((first|apply bD|apply bE|apply bN|apply bB)<;>intro _<;>try omega)|refine x2j ?_ ?_)<;>conv=>whnf)
  all_goals first
   |exact OT
   |exact q5x
 conv=>whnf
 repeat' ((first|(refine gX ?_;intros)|refine dA ?_|((first|apply bD|apply bE|apply bN|apply bB)<;>intro _<;>try omega))<;>conv=>whnf)
 have H:=q6n V;have J:q0g p=Ew (QY p).cells R vs E (atV vs) (Uh vs.length (atV vs) E) (Ul vs.length (atV vs) E):=by rw[w,<-o,<-D];rfl
 rw[J];clear J;generalize atV vs=l at*
 refine lI (fun j:Nat=>⟨[(4,.ptr 1 0),(108,.p (.sl (avE E))),(109,.p (.int .i64 (avE E).length)),(110,.j j)],Ew (QY p).cells R vs E l (Uh vs.length l (E.take j)) (Ul vs.length l (E.take j))⟩) (fun j=>j<=E.length) (fun j=>E.length-j) 0 (x1l _) ?_;intro y h5;obtain⟨⟨n1,n2⟩,n3,n4⟩:=Bk vs.length l E y h5;rcases x1a y E.length with t|t
 .obtain ⟨s1,s2⟩:=TY vs.length l t;have ge:(avE E)[y]?=some (.agg E[y].cells):=by simp[avE,t]
  generalize E[y]=e at ge s1 s2;generalize Uh vs.length l (E.take y)=N at*
  generalize Ul vs.length l (E.take y)=Q at*
  have hL:=Ev vs.length (QY p).cells (eStrs R) (.sl (avV vs)) (.sl (avE E)) l N Q e n1 n3 (H _) (H _) (by omega) (fun r K=>by have:=n2 r K;omega) (fun r K=>by have:=n4 r K;omega);conv=>whnf
  repeat' ((first|(refine gX ?_;intros)|refine dA ?_|refine iT ge ?_|((first|apply bD|apply bE|apply bN|apply bB)<;>intro _<;>try omega)|(refine cH [(1000,1),(1002,0),(2001,2),(2002,3)] 4 hL ?_))<;>conv=>whnf)
  all_goals first
   |exact⟨y+1,t,by omega,Le.of_eq (by rw[s1,s2];rfl)⟩
 rw[x1i t];conv=>whnf
 repeat' ((first|(refine gX ?_;intros)|refine dA ?_|((first|apply bD|apply bE|apply bN|apply bB)<;>intro _<;>try omega))<;>conv=>whnf)
 all_goals first
  |exact x3e _ (x2u _) ⟨rfl,rfl⟩
noncomputable def O1(p:Pg):List Str:=if QA p=true then QR p else []
noncomputable def Qi(p:Pg):List Vx:=if QA p=true then LN p (QR p)else []
noncomputable def Mu(p:Pg):List Eg:=if QA p=true then Dk p else []
def Oo(n:Nat)(b:List AV)(P V E:AV)(l:List (Vx×Nat))(N Q:List (List (Int×Int)))(v:Vx):
  aH 40 [.ptr 1000 0,.p (.agg v.cells)] (wlH n b P V E l N Q) (.p (.tup [.int .i64 (ixN l v:Nat),.bool (HJ l v).isSome])) (wlH n b P V E l N Q):=by
 refine sK Zz func40 ?_;conv=>whnf
 repeat' ((first|(refine gX ?_;intros)|refine dA ?_|((first|apply bD|apply bE|apply bN|apply bB)<;>intro _<;>try omega)|refine T4 rfl rfl rfl v rfl rfl rfl ?_)<;>conv=>whnf)
 all_goals first
  |exact x3e _ (x2u _) ⟨rfl,rfl⟩
def Ak(p:Pg)(k:Fit p):aP 17 [.agg p.cells] (eStrs (O1 p)):=by
 refine sC Nz func17 ?_;conv=>whnf
 cases h:QA p with
 | false=>
   have e:O1 p=[]:=by unfold O1;rw[if_neg (by rw[h];decide)]
   rw[e];have i:=DL k h;repeat' ((first|(refine gX ?_;intros)|refine dA ?_|((first|apply bD|apply bE|apply bN|apply bB)<;>intro _<;>try omega)|(refine cH [] 0 i ?_ (hH:=x3n)))<;>conv=>whnf)
   all_goals first
    |exact⟨_,.p Sub.nils,rfl⟩
 | true=>
   have e:O1 p=QR p:=by unfold O1;rw[if_pos h]
   rw[e];have i:=LS k h;repeat' ((first|(refine gX ?_;intros)|refine dA ?_|((first|apply bD|apply bE|apply bN|apply bB)<;>intro _<;>try omega)|(refine cH [] 0 i ?_ (hH:=x3n)))<;>conv=>whnf)
   all_goals first
    |exact⟨_,.p (Sub.refl _),rfl⟩
def Z0(p:Pg)(k:Fit p):aP 11 [.agg p.cells] (.sl (avV (Qi p))):=by
 refine sC Yt func11 ?_;conv=>whnf
 cases h:QA p with
 | false=>
   have e:Qi p=[]:=by unfold Qi;rw[if_neg (by rw[h];decide)]
   rw[e];have i:=DL k h;repeat' ((first|(refine gX ?_;intros)|refine dA ?_|((first|apply bD|apply bE|apply bN|apply bB)<;>intro _<;>try omega)|(refine cH [] 0 i ?_ (hH:=x3n)))<;>conv=>whnf)
   all_goals first
    |exact⟨_,.p Sub.nils,rfl⟩
 | true=>
   have e:Qi p=LN p (QR p):=by unfold Qi;rw[if_pos h]
   rw[e];have i:=LS k h;repeat' ((first|(refine gX ?_;intros)|refine dA ?_|((first|apply bD|apply bE|apply bN|apply bB)<;>intro _<;>try omega)|(refine cH [] 0 i ?_ (hH:=x3n)))<;>conv=>whnf)
   all_goals first
    |exact⟨_,.p (Sub.refl _),rfl⟩
def Aj(p:Pg)(k:Fit p):aP 16 [.agg p.cells] (.sl (avE (Mu p))):=by
 refine sC Nx func16 ?_;conv=>whnf
 cases h:QA p with
 | false=>
   have e:Mu p=[]:=by unfold Mu;rw[if_neg (by rw[h];decide)]
   rw[e];have i:=DL k h;repeat' ((first|(refine gX ?_;intros)|refine dA ?_|((first|apply bD|apply bE|apply bN|apply bB)<;>intro _<;>try omega)|(refine cH [] 0 i ?_ (hH:=x3n)))<;>conv=>whnf)
   all_goals first
    |exact⟨_,.p Sub.nils,rfl⟩
 | true=>
   have e:Mu p=Dk p:=by unfold Mu;rw[if_pos h]
   rw[e];have i:=LS k h;repeat' ((first|(refine gX ?_;intros)|refine dA ?_|((first|apply bD|apply bE|apply bN|apply bB)<;>intro _<;>try omega)|(refine cH [] 0 i ?_ (hH:=x3n)))<;>conv=>whnf)
   all_goals first
    |exact⟨_,.p (Sub.refl _),rfl⟩
def My(p:Pg)(k:Fit p)(v:Vx):aP 12 [.agg p.cells,.agg v.cells] (.bool (decide (v∈Qi p))):=by
 refine sC Sl func12 ?_;conv=>whnf
 cases h:QA p with
 | false=>
   have e:Qi p=[]:=by unfold Qi;rw[if_neg (by rw[h];decide)]
   rw[e];have i:=DL k h;repeat' ((first|(refine gX ?_;intros)|refine dA ?_|((first|apply bD|apply bE|apply bN|apply bB)<;>intro _<;>try omega)|(refine cH [] 0 i ?_ (hH:=x3n)))<;>conv=>whnf)
   all_goals first
    |exact RetK.ff (by simp)
 | true=>
   have e:Qi p=LN p (QR p):=by unfold Qi;rw[if_pos h]
   rw[e,<-q0t];have i:=LS k h;repeat' ((first|(refine gX ?_;intros)|refine dA ?_|((first|apply bD|apply bE|apply bN|apply bB)<;>intro _<;>try omega)|(refine cH [] 0 i ?_ (hH:=x3n))|(refine cH [(1000,1),(1002,0),(2001,2),(2002,3)] 4 (Oo _ _ _ _ _ _ _ _ v) ?_))<;>conv=>whnf)
   all_goals first
    |exact⟨_,.p (Sub.refl _),rfl⟩
def Tq{v:Bool}{s:St}{o:Oper}{K:LV->Prop}{x y:Operand}{u:TypeId}(l:o.op=.binOp .eql 27 x y u){a b:Vx}(z:QG s.sl x=.p (.agg a.cells))(c:QG s.sl y=.p (.agg b.cells))(t:K (.p (.bool (decide (a=b))))):ValO prog v s o K:=by
 refine⟨fun σ β n w r _=>⟨_,.bool (decide (a=b)),t,.p (.bool _),fun w' _ _=>?_⟩⟩;have i:=QX r x;have k:=QX r y;rw[z]at i;rw[c]at k;have i:n.eval x=vxV a:=by cases i with|p h=>exact Pl h
 have k:n.eval y=vxV b:=by cases k with|p h=>exact Pl h
 have q:(Op.equalIn 10000 27 (vxV a) (vxV b)).run prog w'=.ok (decide (a=b)) w':=F6 9998 a b w';unfold vxV at i k q;simp only[execOp,l,i,k,Sem.run_bind,run_eqGuard_agg _ _ _ _ _ _ _ (show prog.eqGuardType prog.depth 27=false by kernel_rfl),Result.andThen_ok,run_eql_struct,q,Sem.run_pure]
def GO(l:List Vx)(v:Vx):aP 13 [.sl (avV l),.agg v.cells] (.bool (l.any fun x=>decide (x=v))):=by
 refine sC NV func13 ?_;conv=>whnf
 repeat' ((first|(refine gX ?_;intros)|refine dA ?_|((first|apply bD|apply bE|apply bN|apply bB)<;>intro _<;>try omega))<;>conv=>whnf)
 have q:(avV l).length=l.length:=x1j _;refine lI (fun j:Nat=>⟨[(0,.p (.sl (avV l))),(3,.p (.ip v.cells)),(7,.p (.int .i64 (avV l).length)),(8,.j j)],[]⟩) (fun j=>j<=l.length/\(l.drop j).any (fun x=>decide (x=v))=l.any fun x=>decide (x=v)) (fun j=>l.length-j) 0 ⟨x1l _,rfl⟩ ?_;rintro j ⟨o,h⟩;rcases x1a j l.length with i|i;rotate_left 1
 .rw [x2x i]at h;conv=>whnf
  repeat' ((first|(refine gX ?_;intros)|refine dA ?_|((first|apply bD|apply bE|apply bN|apply bB)<;>intro _<;>try omega))<;>conv=>whnf)
  exact RetK.ff h.symm
 rw[x2l i,List.any_cons]at h;have n:(avV l)[j]?=some (.agg l[j].cells):=by simp[avV,i]
 conv=>whnf
 repeat' ((first|(refine gX ?_;intros)|refine dA ?_|refine iT n ?_|refine Tq rfl (a:=l[j]) (b:=v) rfl rfl ?_|((first|apply bD|apply bE|apply bN|apply bB)<;>intro _<;>try omega))<;>conv=>whnf)
 all_goals first
  | (have k:l[j]=v:=by assumption
     exact RetK.tt (by rw[<-h,x3x k];rfl))
  | (have k:¬l[j]=v:=by assumption
     exact nX (j+1) ⟨i,by rw[<-h,x3w k];rfl⟩)
def HQ(l:List Eg)(s:l.length<=1000000000)(k:Int):aP 33 [.sl (avE l),.int .i64 k] (.sl (avE (l.filter fun e=>decide (e.kind=k)))):=by
 refine sC NU func33 ?_;conv=>whnf
 repeat' ((first|(refine gX ?_;intros)|refine dA ?_|((first|apply bD|apply bE|apply bN|apply bB)<;>intro _<;>try omega))<;>conv=>whnf)
 have w:(avE l).length=l.length:=x1j _;refine lJ (fun x:Nat×List Eg=>⟨[(1,.j k),(5,.hd 0 0 x.2.length),(8,.p (.sl (avE l))),(9,.p (.int .i64 (avE l).length)),(10,.j x.1)],[(0,.own 43 9 (avE x.2))]⟩) (fun x=>x.1<=l.length/\x.2=(l.take x.1).filter (fun e=>decide (e.kind=k))/\x.2.length<=x.1) (fun x=>l.length-x.1) (0,[]) (lM [(0,.own 43 9 [])]) ⟨x1l _,rfl,x2q _⟩ ?_;rintro⟨j,h⟩ ⟨u,n,v⟩;simp only at u n v⊢;have o:(avE h).length=h.length:=x1j _;rcases x1a j l.length with i|i
 .have q:=x1t i;have t:(avE l)[j]?=some (.agg l[j].cells):=by simp[avE,i]
  conv=>whnf
  repeat' ((first|(refine gX ?_;intros)|refine dA ?_|refine iT t ?_|refine pA 1 104 o.symm ?_|((first|apply bD|apply bE|apply bN|apply bB)<;>intro _<;>try omega))<;>conv=>whnf)
  all_goals first
   | (have r:l[j].kind=k:=by assumption
      exact⟨(j+1,h++[l[j]]),⟨i,by simp only;rw[q,x3t,<-n];simp[r],by simp;omega⟩,by simp only;omega,Le.of_eq (by simp only[avE,x1e,x1h];rfl)⟩)
   | (have r:¬l[j].kind=k:=by assumption
      exact nX (j+1,h) ⟨i,by simp only;rw[q,x3t,<-n];simp[r],by simp only;omega⟩)
 rw[x1i i]at n;rw[<-n];conv=>whnf
 repeat' ((first|(refine gX ?_;intros)|refine dA ?_|((first|apply bD|apply bE|apply bN|apply bB)<;>intro _<;>try omega))<;>conv=>whnf)
 exact⟨_,.hd rfl o.symm,rfl⟩
def M8(l:List Vx)(n:Int):Vx:=(l[(Rj n l.length).toNat]?).getD ⟨[],0,0,[]⟩
def LT(l:List Vx)(q:l.length<=1000000)(n:Int):aP 14 [.sl (avV l),.int .i64 n] (.agg (M8 l n).cells):=by
 refine sC DT func14 ?_;conv=>whnf
 have o:(avV l).length=l.length:=x1j _;have h:=Zb n l.length (by omega);rw[<-o]at h;repeat' ((first|(refine gX ?_;intros)|refine dA ?_|refine cP h ?_|((first|apply bD|apply bE|apply bN|apply bB)<;>intro _<;>try omega))<;>conv=>whnf)
 .have s:l=[]:=x3j (by omega);subst s;exact RetK.p rfl
 .have t:0<l.length:=by omega
  obtain⟨u,v⟩:=Hj (n:=n) (k:=(l.length:Int)) (by omega);have i:(Rj n l.length).toNat<l.length:=by omega
  have r:(avV l)[(Rj n l.length).toNat]?=some (.agg (M8 l n).cells):=by
   unfold M8;rw[x1k i];simp[avV,i]
  refine IdxK.at (k:=(Rj n l.length).toNat) (by rw[o];omega) r rfl ?_;conv=>whnf
  repeat' ((first|(refine gX ?_;intros)|refine dA ?_|((first|apply bD|apply bE|apply bN|apply bB)<;>intro _<;>try omega))<;>conv=>whnf)
  exact RetK.p rfl
def WL:aP 7 [] .tt:=by
 have r:O1 someP=QR someP:=by unfold O1;rw[if_pos GS]
 have k:Qi someP=LN someP (QR someP):=by unfold Qi;rw[if_pos GS]
 have h:Mu someP=Dk someP:=by unfold Mu;rw[if_pos GS]
 have u:((O1 someP).map AV.str).length=2:=by rw[x1j,r,some_reach.length_eq];rfl
 have v:(avV (Qi someP)).length=20:=by unfold avV;rw[x1j,k,Ae]
 have w:(avE ((Mu someP).filter fun e=>decide (e.kind=4))).length=1:=by unfold avE;rw[x1j,h,TO]
 have x:(avE ((Mu someP).filter fun e=>decide (e.kind=6))).length=2:=by unfold avE;rw[x1j,h,AX]
 have q:(Mu someP).length<=1000000000:=by
  rw[h];refine x2m (Ud _) ?_;rw[x1h];have l:=Ly GS (QR someP) (JS GS).2;have n:=XM (Ci someP) (LN someP (QR someP));have i:=Us GS;have o:=Ae;omega
 have l:=Ak someP W9;have n:=Z0 someP W9;have i:=My someP W9 ⟨pqS,2,7,[]⟩;rw[x3x (by rw[k];exact Ow)]at i;have o:=Aj someP W9;have s:=HQ (Mu someP) q 4;have t:=HQ (Mu someP) q 6;generalize O1 someP=Ps at*
 generalize Qi someP=Vs at*
 generalize(Mu someP).filter (fun e=>decide (e.kind=4))=E4 at*
 generalize(Mu someP).filter (fun e=>decide (e.kind=6))=E6 at*
 generalize Mu someP=Es at*
 refine sC HV func7 ?_;conv=>whnf
 repeat' ((first|(refine gX ?_;intros)|refine dA ?_|refine cP Xq ?_|refine cP l ?_|refine cP n ?_|refine cP i ?_|refine cP o ?_|refine cP s ?_|refine cP t ?_|((first|apply bD|apply bE|apply bN|apply bB)<;>intro _<;>try omega))<;>conv=>whnf)
 all_goals first
  |exact⟨_,.p (BL rfl),rfl⟩
  |exact⟨_,.p (BL (by simp[*])),rfl⟩
  |exact RetK.tt rfl
  |(exfalso;omega)
  |(exfalso;simp_all;done)
def O2(h:QA p=true):(LN p (QR p)).length<=1000000:=by
 have i:=RM h (QR p) (JS h).2;have k:=Us h;omega
def IG{l:List Vx}(k:l≠[])(n:Int):M8 l n∈l:=by
 have o:0<l.length:=x6r.2 k;have h:=Hj (n:=n) (show(0:Int)<(l.length:Int) by omega);have i:(Rj n l.length).toNat<l.length:=by omega
 unfold M8;rw[x1k i];exact x1c i
def DI(p:Pg)(k:Int)(v:Vx):aP 3 [.agg p.cells,.int .i64 k,.agg v.cells] .tt:=by
 refine sC HW func3 ?_;conv=>whnf
 cases i:OJ p with
 | false=>
   have A:¬gPg p<=20000:=by unfold OJ at i;simpa using i
   repeat' ((first|(refine gX ?_;intros)|refine cP (UI _) ?_|refine dA ?_|refine cP WL ?_|((first|apply bD|apply bE|apply bN|apply bB)<;>intro _<;>try omega))<;>conv=>whnf)
   all_goals first
    |exact⟨_,.p (Sub.refl _),rfl⟩
    |(exfalso;simp_all;done)
 | true=>
   have t:Fit p:=q4d i;have a:gPg p<=20000:=by unfold OJ at i;simpa using i
   have s:=Dv p t;have y:=Z0 p t;have hH:=My p t v;cases o:QA p with
   | false=>
     rw[o]at s;have e:Qi p=[]:=by unfold Qi;rw[if_neg (by rw[o];decide)]
     rw[e]at y hH;have r:=GO [] v;have d:decide (v∈([]:List Vx))=false:=by simp
     rw[d]at hH;have e2:(([]:List Vx).any fun x=>decide (x=v))=false:=rfl;rw[e2]at r;repeat' ((first|(refine gX ?_;intros)|refine cP (UI _) ?_|refine dA ?_|refine Xg XG rfl rfl rfl rfl rfl ?_|refine cP WL ?_|refine cP s ?_|refine cP y ?_|refine cP hH ?_|refine cP r ?_|((first|apply bD|apply bE|apply bN|apply bB)<;>intro _<;>try omega))<;>conv=>whnf)
     all_goals first
      |exact⟨_,.p (Sub.refl _),rfl⟩
      |exact⟨_,.p (BL rfl),rfl⟩
      |exact⟨_,.p (BL (by simp;omega)),rfl⟩
      |(exfalso;simp_all;done)
      |(exfalso;simp_all[avV];done)
   | true=>
     rw[o]at s;have g:=(XK o).2.2;have w:=Sz p (by omega);have e:Qi p=LN p (QR p):=by unfold Qi;rw[if_pos o]
     have n:=RL p;have l:=O2 o;rw[<-e]at n l;have r:=GO (Qi p) v;have f:=LT (Qi p) l k;have q:=My p t (M8 (Qi p) k);rw[x3x (IG n k)]at q;have e2:((Qi p).any fun x=>decide (x=v))=decide (v∈Qi p):=by
      rw[x6d,x4f,x6x];constructor
      .rintro ⟨x,B,z⟩;rw[<-x4i z];exact B
      .exact fun h=>⟨v,h,x3x rfl⟩
     rw[e2]at r;have c:0<(avV (Qi p)).length:=by unfold avV;rw[x1j];exact x6r.2 n
     generalize decide (v∈Qi p)=b at*
     generalize M8 (Qi p) k=u at*
     clear e e2 n l;generalize Qi p=V at*
     cases b;all_goals
      repeat' ((first|(refine gX ?_;intros)|refine cP (UI _) ?_|refine dA ?_|refine Xg XG rfl rfl rfl rfl rfl ?_|refine cP WL ?_|refine cP s ?_|refine cP w ?_|refine cP y ?_|refine cP hH ?_|refine cP r ?_|refine cP f ?_|refine cP q ?_|((first|apply bD|apply bE|apply bN|apply bB)<;>intro _<;>try omega))<;>conv=>whnf)
     all_goals first
      |exact⟨_,.p (Sub.refl _),rfl⟩
      |exact⟨_,.p (BL rfl),rfl⟩
      |(exfalso;omega)
      |exact⟨_,.p (BL (by simp;omega)),rfl⟩
      |(exfalso;simp_all;done)
      |(exfalso;simp_all[avV];done)
end Go.Ab
