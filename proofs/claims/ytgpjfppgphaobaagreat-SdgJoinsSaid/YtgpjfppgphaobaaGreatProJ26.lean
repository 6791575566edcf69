/- whole: a right program's whole graph. Conditions: the program fits. -/
import Derived.Test.YtgpjfppgphaobaaGreatProJ25
set_option linter.all false
set_option maxRecDepth 100000
set_option maxHeartbeats 16000000
namespace Go.Ab
open Go.Proofs.Tryz
open Go.Proofs
variable {f:Pr}{j k m:Nat}{l:List Str}{p:Pg}
def q0k(p:Pg)(h:j<l.length):PE p (l.take (j+1))=PE p (l.take j)++q0g p (NL p l[j]).toNat:=by
 unfold PE;rw[x8c h,z1q];simp
def EA(p:Pg)(h:j<l.length):q6z p (l.take (j+1))=q6z p (l.take j)++q7e p (NL p l[j]).toNat:=by
 unfold q6z;rw[x8c h,z1q];simp
def q1g{V:List Vx}(h:j<V.length):atV (V.take (j+1))=Hg (atV (V.take j)) V[j] j:=by
 unfold atV;rw[x8c h,List.zipIdx_append,z2h];simp[Nat.min_eq_left (Nat.le_of_lt h)]
def q7y{vs i:List Vx}{K:Prop}(h:vs.length+i.length<=1000000000000)(o:m=(avV i).length)(n:K):AppK (avV vs) (avV i) vs.length m 4 48 K:=by
 have e:(avV i).length=i.length:=x8g _;exact .mk (x8g _).symm o (by omega) (by unfold maxLen;omega) (fun x q=>by obtain⟨v,_,rfl⟩:=x8s.1 q;exact⟨rfl,rfl⟩) n
def q7u{vs i:List Eg}{K:Prop}(h:vs.length+i.length<=1000000000000)(o:m=(avE i).length)(n:K):AppK (avE vs) (avE i) vs.length m 9 104 K:=by
 have e:(avE i).length=i.length:=x8g _;exact .mk (x8g _).symm o (by omega) (by unfold maxLen;omega) (fun x q=>by obtain⟨v,_,rfl⟩:=x8s.1 q;exact⟨rfl,rfl⟩) n
def PO(n:Fit p)(i:QL p=false):aH 39 [.p (.agg p.cells)] [] (.p .nilp) []:=by
 have h:=(Sn p n).mono (R':=fun r=>r=.nilp) fun r o=>o.2 i;refine sK Yj func39 ?_;conv=>whnf
 repeat' ((first|(refine gX ?_;intros)|refine dA ?_|refine cP h ?_|((first|apply bD|apply bE|apply bN|apply bB)<;>intro _<;>try omega))<;>conv=>whnf)
 all_goals first
  |exact z1z _ (x9j _) ⟨rfl,rfl⟩
def q6p{h n:Nat}{b:List AV}{P V E:AV}{l:List (Vx×AV)}:
  Le h ⟨[(4,.ptr 1 0)],[(3,.own 183 1 (List.replicate n .nils)),(2,.own 183 1 (List.replicate n .nils)),(1,whO b (.p P) (.p V) (.p E) (.p .nils) (.ext 0 .map) (.hd 2 0 n) (.hd 3 0 n)),(0,.ext (Gs vxV l))]⟩
   ⟨[(4,.ptr 1 0)],[(1,whO b (.p P) (.p V) (.p E) (.p .nils) (.ext 0 .map) (.hd 2 0 n) (.hd 3 0 n)),(0,.ext (Gs vxV l)),(2,.ext (.mat 183 185 2 (avA (List.replicate n [])) [])),(3,.ext (.mat 183 185 2 (avA (List.replicate n [])) []))]⟩:=by
 have q:=JB (N:=h) (sl:=[(4,.ptr 1 0)]) (H:=[(3,.own 183 1 (List.replicate n .nils)),(2,.own 183 1 (List.replicate n .nils)),(1,whO b (.p P) (.p V) (.p E) (.p .nils) (.ext 0 .map) (.hd 2 0 n) (.hd 3 0 n)),(0,.ext (Gs vxV l))])
  (H':=[(3,.ext (.mat 183 185 2 (List.replicate (List.replicate n AV.nils).length []) [])),(2,.own 183 1 (List.replicate n .nils)),(1,whO b (.p P) (.p V) (.p E) (.p .nils) (.ext 0 .map) (.hd 2 0 n) (.hd 3 0 n)),(0,.ext (Gs vxV l))])
  3 185 2 (e:=183) (es:=List.replicate n .nils) rfl (fun x o=>z0s o) rfl rfl rfl rfl (by simp[KK])
 have i:=JB (N:=h) (sl:=[(4,.ptr 1 0)]) (H:=[(3,.ext (.mat 183 185 2 (List.replicate (List.replicate n AV.nils).length []) [])),(2,.own 183 1 (List.replicate n .nils)),(1,whO b (.p P) (.p V) (.p E) (.p .nils) (.ext 0 .map) (.hd 2 0 n) (.hd 3 0 n)),(0,.ext (Gs vxV l))])
  (H':=[(3,.ext (.mat 183 185 2 (List.replicate (List.replicate n AV.nils).length []) [])),(2,.ext (.mat 183 185 2 (List.replicate (List.replicate n AV.nils).length []) [])),(1,whO b (.p P) (.p V) (.p E) (.p .nils) (.ext 0 .map) (.hd 2 0 n) (.hd 3 0 n)),(0,.ext (Gs vxV l))])
  2 185 2 (e:=183) (es:=List.replicate n .nils) rfl (fun x o=>z0s o) rfl rfl rfl rfl (by simp[KK])
 refine(q.trans i).trans ?_;exact lE (hH:=.cons rfl (.refl _) (.cons rfl (.refl _) (.cons rfl (.of_eq (by simp[avA,avP])) (.cons rfl (.of_eq (by simp[avA,avP])) .nil))))
def x4j(k:Nat):Nat:=if k=2 then 3 else if k=3 then 2 else k
def x1s{o n:Nat}{b:List AV}{P V E:AV}{l:List (Vx×AV)}:
  Le o ⟨[(4,.ptr 1 0)],[(3,.own 183 1 (List.replicate n .nils)),(2,.own 183 1 (List.replicate n .nils)),(1,whO b (.p P) (.p V) (.p E) (.p .nils) (.ext 0 .map) (.hd 3 0 n) (.hd 2 0 n)),(0,.ext (Gs vxV l))]⟩
   ⟨[(4,.ptr 1 0)],[(1,whO b (.p P) (.p V) (.p E) (.p .nils) (.ext 0 .map) (.hd 2 0 n) (.hd 3 0 n)),(0,.ext (Gs vxV l)),(2,.ext (.mat 183 185 2 (avA (List.replicate n [])) [])),(3,.ext (.mat 183 185 2 (avA (List.replicate n [])) []))]⟩:=by
 refine Le.trans ?_ q6p;refine Eu x4j (fun k=>by unfold x4j;split<;>(try split)<;>simp_all) (fun j q s=>by unfold x4j;rw[if_neg (by omega),if_neg (by omega)]) (.r .nil) (fun j c h=>?_) (by simp);rcases x8r.1 h with i|h
 .cases i;exact⟨_,x8b _ x8p,CSub.refl _⟩
 rcases x8r.1 h with i|h
 .cases i;exact⟨_,x8p,CSub.refl _⟩
 rcases x8r.1 h with i|h
 .cases i;exact⟨_,x8b _ (x8b _ x8p),CSub.refl _⟩
 rcases x8r.1 h with i|h
 .cases i;exact⟨_,x8b _ (x8b _ (x8b _ x8p)),CSub.refl _⟩
 .cases h
def SY{N:List (List (Int×Int))}(h:∀r∈N,r.length<=m)(a:Nat)(x:Int×Int):∀r∈Me N a x,r.length<=m+1:=by
 intro r i;unfold Me at i;rcases z1d i with i|rfl
 .exact Nat.le_succ_of_le (h r i)
 .rw [x8d,x9h,x8f];cases n:N[a]?with
  |none=>exact Nat.succ_le_succ (x8m _)
  |some y=>exact Nat.succ_le_succ (h y (x9x n))
theorem L9(n:Nat)(l:List (Vx×Nat))(E:List Eg):∀j,j<=E.length->((Kw n l (E.take j)).length=n/\∀r∈Kw n l (E.take j),r.length<=j)/\(Kh n l (E.take j)).length=n/\∀r∈Kh n l (E.take j),r.length<=j
 | 0,_=>by
   unfold Kw Kh;rw[z5s];refine⟨⟨z0g,fun r i=>?_⟩,z0g,fun r i=>?_⟩;all_goals
    rw[z0s i];exact x8m _
 | j+1,h=>by
   obtain⟨⟨o,q⟩,s,t⟩:=L9 n l E j (by omega);unfold Kw Kh at*
   rw[x8c (by omega),z2h,z2h];exact⟨⟨layR_len.trans o,SY q _ _⟩,layR_len.trans s,SY t _ _⟩
def Ak(n:Nat)(l:List (Vx×Nat)){E:List Eg}(h:j<E.length):Kw n l (E.take (j+1))=Me (Kw n l (E.take j)) (ixN l E[j].G) (ixN l E[j].to,E[j].kind)/\Kh n l (E.take (j+1))=Me (Kh n l (E.take j)) (ixN l E[j].to) (ixN l E[j].G,E[j].kind):=by
 unfold Kw Kh;rw[x8c h,z2h,z2h];exact⟨rfl,rfl⟩
def q0n(b:List AV)(R:List Str)(V:List Vx)(E:List Eg)(l:List (Vx×Nat))(N Q:List (List (Int×Int))):Heap:=[(1,whO b (.p (eStrs R)) (.p (.sl (avV V))) (.p (.sl (avE E))) (.p .nils) (.ext 0 .map) (.hd 2 0 V.length) (.hd 3 0 V.length)),(0,.ext (Gs vxV (lG l))),(2,.ext (.mat 183 185 2 (avA N) [])),(3,.ext (.mat 183 185 2 (avA Q) []))]
noncomputable def q7v(p:Pg):Heap:=q0n (QJ p).cells (QF p) (PE p (QF p)) (egsA p) (atV (PE p (QF p))) (Kw (PE p (QF p)).length (atV (PE p (QF p))) (egsA p)) (Kh (PE p (QF p)).length (atV (PE p (QF p))) (egsA p))
def Z9(hf:Fit p)(i:QL p=true):aH 39 [.p (.agg p.cells)] [] (.ptr 1 0) (q7v p):=by
 have hB:=(Sn p hf).mono (R':=fun r=>r=.ip (QJ p).cells) fun r K=>K.1 i;have T:(QJ p).s.p=p:=by rw[(UP i).s];exact(QU p).1
 have hR:=TP i;have hRl:=BM i;obtain⟨hR1,z⟩:=WK i;have G:=fun j=>Cp i ((QF p).take j) fun n U=>z n (z3c U);have F:=fun j=>Bk i ((QF p).take j) fun n U=>z n (z3c U);generalize o:QF p=R at*
 have hRm:(R.map AV.str).length=R.length:=x8g _;refine sK Yj func39 ?_;conv=>whnf
 repeat' ((first|(refine gX ?_;intros)|refine dA ?_|refine cP hB ?_|refine OpK.makeMap rfl ?_|((first|apply bD|apply bE|apply bN|apply bB)<;>intro _<;>try omega)|(refine cH [] 0 hR ?_ (hH:=z0r)))<;>conv=>whnf)
 refine lJ (fun x:Nat×List Vx×List Eg=>⟨[(3,.p (.ip (QJ p).cells)),(4,.ptr 1 0),(25,.p (eStrs R)),(26,.p (.int .i64 (R.map AV.str).length)),(27,.j x.1)],[(1,whO (QJ p).cells (.p (eStrs R)) (.hd 2 0 x.2.1.length) (.hd 3 0 x.2.2.length) (.p .nils) (.ext 0 .map) (.p .nils) (.p .nils)),(0,.ext (Gs vxV [])),(2,.own 27 4 (avV x.2.1)),(3,.own 43 9 (avE x.2.2))]⟩) (fun x=>x.1<=R.length/\x.2.1=PE p (R.take x.1)/\x.2.2=q6z p (R.take x.1)) (fun x=>R.length-x.1) (0,[],[]) (lM [(2,.own 27 4 []),(3,.own 43 9 [])] (hH:=.cons rfl (.obj (.r (.r (.cons (.nil x8p) (.cons (.nil (x8b _ x8p)) (.r (.r (.r (.r .nil))))))))) (.cons rfl (.refl _) (.new x8p (.new (x8b _ x8p) .nil))))) ⟨x8m _,rfl,rfl⟩ ?_;rintro⟨j,vs,es⟩ ⟨Z,w,d⟩;simp only at Z w d⊢;have hvl:vs.length<=16*60000:=by
  have:=G j;have h4:=List.length_take_le j R;rw[w];exact x9r this (z0y _ (by rw[x9n];omega))
 have hel:es.length<=16*14000000:=by
  have:=F j;rw[d];exact x9r this (z0y _ (by rw[x9n];omega))
 rcases x8a j R.length with g|g
 .obtain ⟨k,L,b,_⟩:=GM (z _ (x8o g));have O:aP 65 [.ip (QJ p).s.cells,.str R[j]] (.int .i64 (k:Nat)):=by
   have:=XI (QJ p).s R[j];rw[T,show idxF (fun f=>f.name==R[j]) p.A=(k:Nat)from b]at this;exact this
  have hV:=TN i L;have hE:=AE hf i L;have hv1:=Cm i L;have he1:=Sw i L;have sV:=q0k p g;have sE:=EA p g;rw[<-w,b,z0x]at sV;rw[<-d,b,z0x]at sE;generalize q0g p k=nv at*
  generalize q7e p k=ne at*
  conv=>whnf
  repeat' ((first|(refine gX ?_;intros)|refine cP O ?_|((first|apply bD|apply bE|apply bN|apply bB)<;>intro _<;>try omega))<;>conv=>whnf)
  refine ZW ⟨[(3,.p (.ip (QJ p).cells)),(4,.ptr 1 0),(7,.j k),(25,.p (eStrs R)),(26,.p (.int .i64 (R.map AV.str).length)),(27,.j j)],[(1,whO (QJ p).cells (.p (eStrs R)) (.hd 2 0 (vs++nv).length) (.hd 3 0 es.length) (.p .nils) (.ext 0 .map) (.p .nils) (.p .nils)),(0,.ext (Gs vxV [])),(2,.own 27 4 (avV (vs++nv))),(3,.own 43 9 (avE es))]⟩ ?_ ?_
  .skip
   repeat' ((first|(refine gX ?_;intros)|refine dA ?_|refine q7y (by omega) rfl ?_|((first|apply bD|apply bE|apply bN|apply bB)<;>intro _<;>try omega)|(refine cH [] 4 hV ?_ (hH:=z0r))|refine x9g ?_ ?_)<;>conv=>whnf)
   all_goals first
    |exact Le.of_eq (by simp only[whO,avV,x8i,x8d,x8g];rfl)
  conv=>whnf
  repeat' ((first|(refine gX ?_;intros)|((first|apply bD|apply bE|apply bN|apply bB)<;>intro _<;>try omega))<;>conv=>whnf)
  refine ZW ⟨[(3,.p (.ip (QJ p).cells)),(4,.ptr 1 0),(25,.p (eStrs R)),(26,.p (.int .i64 (R.map AV.str).length)),(27,.j j)],[(1,whO (QJ p).cells (.p (eStrs R)) (.hd 2 0 (vs++nv).length) (.hd 3 0 (es++ne).length) (.p .nils) (.ext 0 .map) (.p .nils) (.p .nils)),(0,.ext (Gs vxV [])),(2,.own 27 4 (avV (vs++nv))),(3,.own 43 9 (avE (es++ne)))]⟩ ?_ ?_
  .skip
   repeat' ((first|(refine gX ?_;intros)|refine dA ?_|refine q7u (by omega) rfl ?_|((first|apply bD|apply bE|apply bN|apply bB)<;>intro _<;>try omega)|(refine cH [] 4 hE ?_ (hH:=z0r))|refine x9g ?_ ?_)<;>conv=>whnf)
   all_goals first
    |exact Le.of_eq (by simp only[whO,avE,x8i,x8d,x8g];rfl)
  conv=>whnf
  repeat' ((first|(refine gX ?_;intros)|refine dA ?_|((first|apply bD|apply bE|apply bN|apply bB)<;>intro _<;>try omega))<;>conv=>whnf)
  all_goals first
   |exact nX (j+1,vs++nv,es++ne) ⟨g,sV.symm,sE.symm⟩
 rw[x9q g]at w d;clear G F;conv=>whnf
 repeat' ((first|(refine gX ?_;intros)|refine dA ?_|((first|apply bD|apply bE|apply bN|apply bB)<;>intro _<;>try omega))<;>conv=>whnf)
 refine lJ (fun j:Nat=>⟨[(4,.ptr 1 0),(63,.p (.sl (avV vs))),(64,.j vs.length),(65,.j j)],[(1,whO (QJ p).cells (.p (eStrs R)) (.p (.sl (avV vs))) (.hd 3 0 es.length) (.p .nils) (.ext 0 .map) (.p .nils) (.p .nils)),(0,.ext (Gs vxV (lG (atV (vs.take j))))),(3,.own 43 9 (avE es))]⟩) (fun j=>j<=vs.length) (fun j=>vs.length-j) 0 (B2 (k:=2) (e:=27) (sz:=4) (es:=avV vs) rfl (.cons (.keep rfl) (.cons (.row (x8g _).symm) (.cons (.keep rfl) (.cons (.keep rfl) .nil)))) (.obj (by decide) (.cons (.keep rfl) (.cons (.keep rfl) (.cons (.row (x8g _).symm) (.cons (.keep rfl) (.cons (.keep rfl) (.cons (.keep rfl) (.cons (.keep rfl) (.cons (.keep rfl) .nil)))))))) (.ext (by decide) (.drop (.own (by decide) .nil))))) (x8m _) ?_;intro B Z;rcases x8a B vs.length with q|q
 .have Y:(avV vs)[B]?=some (.agg vs[B].cells):=by simp[avV,q]
  have c:=q1g q;generalize vs[B]=v at Y c;generalize atV (vs.take B)=l at c⊢;conv=>whnf
  repeat' ((first|(refine gX ?_;intros)|refine dA ?_|refine iT Y ?_|refine H7 XD rfl rfl q0j rfl rfl (ks:=v) rfl (fun σ u h=>Rr (a:=v) h) rfl rfl rfl ?_|((first|apply bD|apply bE|apply bN|apply bB)<;>intro _<;>try omega))<;>conv=>whnf)
  all_goals first
   |exact⟨B+1,q,by omega,Le.of_eq (by rw[c,<-q0q];rfl)⟩
 rw[x9q q];have hJ:=AI i (eStrs R) vs (lG (atV vs)) es (by rw[w,<-o];exact x0y i) (by omega);have hjl:(es++vs.flatMap (jnV p)).length<=300000000:=by
  have:=XK (Tu p) vs;rw[x8d];omega
 have P:=Dk (es++vs.flatMap (jnV p)) (by rw[w,d,<-o];exact q7a i) (by omega);have M:BF (es++vs.flatMap (jnV p))=egsA p:=by rw[w,d,<-o];rfl
 have C:=Xw (es++vs.flatMap (jnV p));rw[M]at P C;have V:vs≠[]:=by rw[w,<-o];exact Cn p
 generalize es++vs.flatMap (jnV p)=es2 at*
 obtain⟨E,D⟩ : ∃E,egsA p=E:=⟨_,rfl⟩;rw[D]at P C;conv=>whnf
 repeat' ((first|(refine gX ?_;intros)|((first|apply bD|apply bE|apply bN|apply bB)<;>intro _<;>try omega)|(refine cH [(1000,1),(2000,3),(1002,0)] 4 hJ ?_)|(refine cH [(1000,3)] 4 P ?_))<;>conv=>whnf)
 have I:(avE E).length=E.length:=x8g _;refine DrawK.le (s':=⟨[(4,.ptr 1 0)],[(1,whO (QJ p).cells (.p (eStrs R)) (.p (.sl (avV vs))) (.p (.sl (avE E))) (.p .nils) (.ext 0 .map) (.p .nils) (.p .nils)),(0,.ext (Gs vxV (lG (atV vs))))]⟩) (B2 (k:=3) (e:=43) (sz:=9) (es:=avE E) rfl (.cons (.keep rfl) .nil) (.drop (.obj (by decide) (.cons (.keep rfl) (.cons (.keep rfl) (.cons (.keep rfl) (.cons (.row I.symm) (.cons (.keep rfl) (.cons (.keep rfl) (.cons (.keep rfl) (.cons (.keep rfl) .nil)))))))) (.ext (by decide) .nil)))) ?_;refine ZW ⟨[(4,.ptr 1 0)],[(1,whO (QJ p).cells (.p (eStrs R)) (.p (.sl (avV vs))) (.p (.sl (avE E))) (.p .nils) (.ext 0 .map) (.hd 2 0 vs.length) (.hd 3 0 vs.length)),(0,.ext (Gs vxV (lG (atV vs)))),(2,.ext (.mat 183 185 2 (avA (List.replicate vs.length [])) [])),(3,.ext (.mat 183 185 2 (avA (List.replicate vs.length [])) []))]⟩ ?_ ?_
 .skip
  repeat' ((first|(refine gX ?_;intros)|refine dA ?_|refine z3k vs.length (by simp[avV]) (by show 24*vs.length<=140737488355328;omega) (by unfold maxLen;omega) ?_|((first|apply bD|apply bE|apply bN|apply bB)<;>intro _<;>try omega)|refine x9g ?_ ?_)<;>conv=>whnf)
  all_goals first
   |exact q6p
   |exact x1s
 conv=>whnf
 repeat' ((first|(refine gX ?_;intros)|refine dA ?_|((first|apply bD|apply bE|apply bN|apply bB)<;>intro _<;>try omega))<;>conv=>whnf)
 have H:=x3h V;have J:q7v p=q0n (QJ p).cells R vs E (atV vs) (Kw vs.length (atV vs) E) (Kh vs.length (atV vs) E):=by rw[w,<-o,<-D];rfl
 rw[J];clear J;generalize atV vs=l at*
 refine lI (fun j:Nat=>⟨[(4,.ptr 1 0),(108,.p (.sl (avE E))),(109,.p (.int .i64 (avE E).length)),(110,.j j)],q0n (QJ p).cells R vs E l (Kw vs.length l (E.take j)) (Kh vs.length l (E.take j))⟩) (fun j=>j<=E.length) (fun j=>E.length-j) 0 (x8m _) ?_;intro y h5;obtain⟨⟨n1,n2⟩,n3,n4⟩:=L9 vs.length l E y h5;rcases x8a y E.length with t|t
 .obtain ⟨s1,s2⟩:=Ak vs.length l t;have ge:(avE E)[y]?=some (.agg E[y].cells):=by simp[avE,t]
  generalize E[y]=e at ge s1 s2;generalize Kw vs.length l (E.take y)=N at*
  generalize Kh vs.length l (E.take y)=Q at*
  have hL:=q0m vs.length (QJ p).cells (eStrs R) (.sl (avV vs)) (.sl (avE E)) l N Q e n1 n3 (H _) (H _) (by omega) (fun r K=>by have:=n2 r K;omega) (fun r K=>by have:=n4 r K;omega);conv=>whnf
  repeat' ((first|(refine gX ?_;intros)|refine dA ?_|refine iT ge ?_|((first|apply bD|apply bE|apply bN|apply bB)<;>intro _<;>try omega)|(refine cH [(1000,1),(1002,0),(2001,2),(2002,3)] 4 hL ?_))<;>conv=>whnf)
  all_goals first
   |exact⟨y+1,t,by omega,Le.of_eq (by rw[s1,s2];rfl)⟩
 rw[x9q t];conv=>whnf
 repeat' ((first|(refine gX ?_;intros)|refine dA ?_|((first|apply bD|apply bE|apply bN|apply bB)<;>intro _<;>try omega))<;>conv=>whnf)
 all_goals first
  |exact z1z _ (x9j _) ⟨rfl,rfl⟩
noncomputable def Od(p:Pg):List Str:=if QL p=true then QF p else []
noncomputable def Ro(p:Pg):List Vx:=if QL p=true then PE p (QF p)else []
noncomputable def La(p:Pg):List Eg:=if QL p=true then egsA p else []
def q5a(n:Nat)(b:List AV)(P V E:AV)(l:List (Vx×Nat))(N Q:List (List (Int×Int)))(v:Vx):
  aH 40 [.ptr 1000 0,.p (.agg v.cells)] (wlH n b P V E l N Q) (.p (.tup [.int .i64 (ixN l v:Nat),.bool (DU l v).isSome])) (wlH n b P V E l N Q):=by
 refine sK U5 func40 ?_;conv=>whnf
 repeat' ((first|(refine gX ?_;intros)|refine dA ?_|((first|apply bD|apply bE|apply bN|apply bB)<;>intro _<;>try omega)|refine CW rfl rfl rfl v rfl rfl rfl ?_)<;>conv=>whnf)
 all_goals first
  |exact z1z _ (x9j _) ⟨rfl,rfl⟩
def R1(p:Pg)(n:Fit p):aP 17 [.agg p.cells] (eStrs (Od p)):=by
 refine sC RD func17 ?_;conv=>whnf
 cases h:QL p with
 | false=>
   have e:Od p=[]:=by unfold Od;rw[if_neg (by rw[h];decide)]
   rw[e];have i:=PO n h;repeat' ((first|(refine gX ?_;intros)|refine dA ?_|((first|apply bD|apply bE|apply bN|apply bB)<;>intro _<;>try omega)|(refine cH [] 0 i ?_ (hH:=z0r)))<;>conv=>whnf)
   all_goals first
    |exact⟨_,.p Sub.nils,rfl⟩
 | true=>
   have e:Od p=QF p:=by unfold Od;rw[if_pos h]
   rw[e];have i:=Z9 n h;repeat' ((first|(refine gX ?_;intros)|refine dA ?_|((first|apply bD|apply bE|apply bN|apply bB)<;>intro _<;>try omega)|(refine cH [] 0 i ?_ (hH:=z0r)))<;>conv=>whnf)
   all_goals first
    |exact⟨_,.p (Sub.refl _),rfl⟩
def Vr(p:Pg)(n:Fit p):aP 11 [.agg p.cells] (.sl (avV (Ro p))):=by
 refine sC Gi func11 ?_;conv=>whnf
 cases h:QL p with
 | false=>
   have e:Ro p=[]:=by unfold Ro;rw[if_neg (by rw[h];decide)]
   rw[e];have i:=PO n h;repeat' ((first|(refine gX ?_;intros)|refine dA ?_|((first|apply bD|apply bE|apply bN|apply bB)<;>intro _<;>try omega)|(refine cH [] 0 i ?_ (hH:=z0r)))<;>conv=>whnf)
   all_goals first
    |exact⟨_,.p Sub.nils,rfl⟩
 | true=>
   have e:Ro p=PE p (QF p):=by unfold Ro;rw[if_pos h]
   rw[e];have i:=Z9 n h;repeat' ((first|(refine gX ?_;intros)|refine dA ?_|((first|apply bD|apply bE|apply bN|apply bB)<;>intro _<;>try omega)|(refine cH [] 0 i ?_ (hH:=z0r)))<;>conv=>whnf)
   all_goals first
    |exact⟨_,.p (Sub.refl _),rfl⟩
def R0(p:Pg)(n:Fit p):aP 16 [.agg p.cells] (.sl (avE (La p))):=by
 refine sC RF func16 ?_;conv=>whnf
 cases h:QL p with
 | false=>
   have e:La p=[]:=by unfold La;rw[if_neg (by rw[h];decide)]
   rw[e];have i:=PO n h;repeat' ((first|(refine gX ?_;intros)|refine dA ?_|((first|apply bD|apply bE|apply bN|apply bB)<;>intro _<;>try omega)|(refine cH [] 0 i ?_ (hH:=z0r)))<;>conv=>whnf)
   all_goals first
    |exact⟨_,.p Sub.nils,rfl⟩
 | true=>
   have e:La p=egsA p:=by unfold La;rw[if_pos h]
   rw[e];have i:=Z9 n h;repeat' ((first|(refine gX ?_;intros)|refine dA ?_|((first|apply bD|apply bE|apply bN|apply bB)<;>intro _<;>try omega)|(refine cH [] 0 i ?_ (hH:=z0r)))<;>conv=>whnf)
   all_goals first
    |exact⟨_,.p (Sub.refl _),rfl⟩
def q9h(p:Pg)(n:Fit p)(v:Vx):aP 12 [.agg p.cells,.agg v.cells] (.bool (decide (v∈Ro p))):=by
 refine sC E9 func12 ?_;conv=>whnf
 cases h:QL p with
 | false=>
   have e:Ro p=[]:=by unfold Ro;rw[if_neg (by rw[h];decide)]
   rw[e];have i:=PO n h;repeat' ((first|(refine gX ?_;intros)|refine dA ?_|((first|apply bD|apply bE|apply bN|apply bB)<;>intro _<;>try omega)|(refine cH [] 0 i ?_ (hH:=z0r)))<;>conv=>whnf)
   all_goals first
    |exact RetK.ff (by simp)
 | true=>
   have e:Ro p=PE p (QF p):=by unfold Ro;rw[if_pos h]
   rw[e,<-q7b];have i:=Z9 n h;repeat' ((first|(refine gX ?_;intros)|refine dA ?_|((first|apply bD|apply bE|apply bN|apply bB)<;>intro _<;>try omega)|(refine cH [] 0 i ?_ (hH:=z0r))|(refine cH [(1000,1),(1002,0),(2001,2),(2002,3)] 4 (q5a _ _ _ _ _ _ _ _ v) ?_))<;>conv=>whnf)
   all_goals first
    |exact⟨_,.p (Sub.refl _),rfl⟩
def KM(p:Pg)(q:Fit p)(h:Int):aP 15 [.agg p.cells,.int .i64 h] (.bool (D9 p h)):=by
 refine sC DD func15 ?_;conv=>whnf
 have i:=DS p q;unfold D9;cases n:QL p with
 | false=>
   rw[n]at i;repeat' ((first|(refine gX ?_;intros)|refine dA ?_|refine cP i ?_|((first|apply bD|apply bE|apply bN|apply bB)<;>intro _<;>try omega))<;>conv=>whnf)
   all_goals first
    |contradiction
    |exact RetK.ff rfl
 | true=>
   rw[n]at i;have o:=(XZ n).2.2;repeat' ((first|(refine gX ?_;intros)|refine dA ?_|refine cP i ?_|refine cP (AR p (by omega)) ?_ (ha:=.cons (Sub.refl _) .nil)|((first|apply bD|apply bE|apply bN|apply bB)<;>intro _<;>try omega))<;>conv=>whnf)
   all_goals first
    |contradiction
    |exact RetK.bool (by simp)
def HX{c:Bool}{s:St}{o:Oper}{K:LV->Prop}{x y:Operand}{u:TypeId}(q:o.op=.binOp .eql 27 x y u){a b:Vx}(d:QP s.sl x=.p (.agg a.cells))(e:QP s.sl y=.p (.agg b.cells))(z:K (.p (.bool (decide (a=b))))):ValO prog c s o K:=by
 refine⟨fun σ β r w v _=>⟨_,.bool (decide (a=b)),z,.p (.bool _),fun w' _ _=>?_⟩⟩;have i:=QX v x;have n:=QX v y;rw[d]at i;rw[e]at n;have i:r.eval x=vxV a:=by cases i with|p h=>exact Rr h
 have n:r.eval y=vxV b:=by cases n with|p h=>exact Rr h
 have t:(Op.equalIn 10000 27 (vxV a) (vxV b)).run prog w'=.ok (decide (a=b)) w':=Pt 9998 a b w';unfold vxV at i n t;simp only[execOp,q,i,n,Sem.run_bind,run_eqGuard_agg _ _ _ _ _ _ _ (show prog.eqGuardType prog.depth 27=false by kernel_rfl),Result.andThen_ok,run_eql_struct,t,Sem.run_pure]
def FS(l:List Eg)(s:l.length<=1000000000)(k:Int):aP 33 [.sl (avE l),.int .i64 k] (.sl (avE (l.filter fun e=>decide (e.kind=k)))):=by
 refine sC Q7 func33 ?_;conv=>whnf
 repeat' ((first|(refine gX ?_;intros)|refine dA ?_|((first|apply bD|apply bE|apply bN|apply bB)<;>intro _<;>try omega))<;>conv=>whnf)
 have w:(avE l).length=l.length:=x8g _;refine lJ (fun x:Nat×List Eg=>⟨[(1,.j k),(5,.hd 0 0 x.2.length),(8,.p (.sl (avE l))),(9,.p (.int .i64 (avE l).length)),(10,.j x.1)],[(0,.own 43 9 (avE x.2))]⟩) (fun x=>x.1<=l.length/\x.2=(l.take x.1).filter (fun e=>decide (e.kind=k))/\x.2.length<=x.1) (fun x=>l.length-x.1) (0,[]) (lM [(0,.own 43 9 [])]) ⟨x8m _,rfl,x9z _⟩ ?_;rintro⟨j,h⟩ ⟨u,n,v⟩;simp only at u n v⊢;have o:(avE h).length=h.length:=x8g _;rcases x8a j l.length with i|i
 .have q:=x8c i;have t:(avE l)[j]?=some (.agg l[j].cells):=by simp[avE,i]
  conv=>whnf
  repeat' ((first|(refine gX ?_;intros)|refine dA ?_|refine iT t ?_|refine pA 1 104 o.symm ?_|((first|apply bD|apply bE|apply bN|apply bB)<;>intro _<;>try omega))<;>conv=>whnf)
  all_goals first
   | (have r:l[j].kind=k:=by assumption
      exact⟨(j+1,h++[l[j]]),⟨i,by simp only;rw[q,z0b,<-n];simp[r],by simp;omega⟩,by simp only;omega,Le.of_eq (by simp only[avE,x8i,x8d];rfl)⟩)
   | (have r:¬l[j].kind=k:=by assumption
      exact nX (j+1,h) ⟨i,by simp only;rw[q,z0b,<-n];simp[r],by simp only;omega⟩)
 rw[x9q i]at n;rw[<-n];conv=>whnf
 repeat' ((first|(refine gX ?_;intros)|refine dA ?_|((first|apply bD|apply bE|apply bN|apply bB)<;>intro _<;>try omega))<;>conv=>whnf)
 exact⟨_,.hd rfl o.symm,rfl⟩
def An(l:List Vx)(n:Int):Vx:=(l[(SF n l.length).toNat]?).getD ⟨[],0,0,[]⟩
def Z6(l:List Vx)(q:l.length<=1000000)(n:Int):aP 14 [.sl (avV l),.int .i64 n] (.agg (An l n).cells):=by
 refine sC NV func14 ?_;conv=>whnf
 have o:(avV l).length=l.length:=x8g _;have h:=Uj n l.length (by omega);rw[<-o]at h;repeat' ((first|(refine gX ?_;intros)|refine dA ?_|refine cP h ?_|((first|apply bD|apply bE|apply bN|apply bB)<;>intro _<;>try omega))<;>conv=>whnf)
 .have s:l=[]:=z0n (by omega);subst s;exact RetK.p rfl
 .have t:0<l.length:=by omega
  obtain⟨u,v⟩:=P1 (n:=n) (k:=(l.length:Int)) (by omega);have i:(SF n l.length).toNat<l.length:=by omega
  have r:(avV l)[(SF n l.length).toNat]?=some (.agg (An l n).cells):=by
   unfold An;rw[x8h i];simp[avV,i]
  refine IdxK.at (k:=(SF n l.length).toNat) (by rw[o];omega) r rfl ?_;conv=>whnf
  repeat' ((first|(refine gX ?_;intros)|refine dA ?_|((first|apply bD|apply bE|apply bN|apply bB)<;>intro _<;>try omega))<;>conv=>whnf)
  exact RetK.p rfl
def XX:aP 7 [] .tt:=by
 have t:Od someP=QF someP:=by unfold Od;rw[if_pos FN]
 have n:Ro someP=PE someP (QF someP):=by unfold Ro;rw[if_pos FN]
 have h:La someP=egsA someP:=by unfold La;rw[if_pos FN]
 have w:((Od someP).map AV.str).length=2:=by rw[x8g,t,some_reach.length_eq];rfl
 have x:(avV (Ro someP)).length=20:=by unfold avV;rw[x8g,n,OZ]
 have y:(avE ((La someP).filter fun e=>decide (e.kind=4))).length=1:=by unfold avE;rw[x8g,h,AU]
 have z:(avE ((La someP).filter fun e=>decide (e.kind=6))).length=2:=by unfold avE;rw[x8g,h,OY]
 have s:(La someP).length<=1000000000:=by
  rw[h];refine x9r (Xw _) ?_;rw[x8d];have o:=Bk FN (QF someP) (WK FN).2;have q:=XK (Tu someP) (PE someP (QF someP));have i:=BM FN;have r:=OZ;omega
 have o:=R1 someP Y5;have q:=Vr someP Y5;have i:=q9h someP Y5 ⟨pqS,2,7,[]⟩;rw[x9e (by rw[n];exact q5w)]at i;have r:=R0 someP Y5;have u:=FS (La someP) s 4;have v:=FS (La someP) s 6;generalize Od someP=Ps at*
 generalize Ro someP=Vs at*
 generalize(La someP).filter (fun e=>decide (e.kind=4))=E4 at*
 generalize(La someP).filter (fun e=>decide (e.kind=6))=E6 at*
 generalize La someP=Es at*
 refine sC FI func7 ?_;conv=>whnf
 repeat' ((first|(refine gX ?_;intros)|refine dA ?_|refine cP Wc ?_|refine cP o ?_|refine cP q ?_|refine cP i ?_|refine cP r ?_|refine cP u ?_|refine cP v ?_|((first|apply bD|apply bE|apply bN|apply bB)<;>intro _<;>try omega))<;>conv=>whnf)
 all_goals first
  |exact⟨_,.p (MP rfl),rfl⟩
  |exact⟨_,.p (MP (by simp[*])),rfl⟩
  |exact RetK.tt rfl
  |(exfalso;omega)
  |(exfalso;simp_all;done)
def Ei(F:Str->List Str):Nat->Nat->List Str->List Str
 |0,_,out=>out
 | m+1,k,out=>match out[k]?with
   |some n=>Ei F m (k+1) (XU out (F n))
   |none=>out
theorem Kd(p:Pg):∀(m k:Nat)(out:List Str),rcL p m k out=Ei (KR p) m k out
 |0,_,_=>rfl
 | m+1,k,out=>by
   rw[rcL,Ei];cases out[k]?with
   |none=>rfl
   |some n=>exact Kd p m _ _
theorem No{F:Str->List Str}{S:Str->Prop}(i:∀n,S n->∀x∈F n,S x):∀(m k:Nat)(out:List Str),(∀n∈out,S n)->∀n∈Ei F m k out,S n
 |0,_,_,h=>h
 | m+1,k,out,h=>by
   rw[Ei];cases o:out[k]?with
   |none=>exact h
   |some n=>exact No i m _ _ fun x q=>((WU _ _).1 q).elim (h x) (i n (h n (x9x o)) x)
theorem Eo{F:Str->List Str}{a:Str}:∀(m k:Nat)(out:List Str),(∀n∈out,n=a\/∃x∈out,n∈F x)->∀n∈Ei F m k out,n=a\/∃x∈Ei F m k out,n∈F x
 |0,_,_,h=>h
 | m+1,k,out,h=>by
   rw[Ei];cases o:out[k]?with
   |none=>exact h
   | some y=>
     refine Eo m _ _ fun n i=>?_;rcases(WU _ _).1 i with i|i
     .rcases h n i with h|⟨x,q,h⟩
      .exact .inl h
      .exact .inr ⟨x,(WU _ _).2 (.inl q),h⟩
     .exact .inr ⟨y,(WU _ _).2 (.inl (x9x o)),i⟩
theorem Ht{p:Pg}{F:Str->List Str}(z:∀n∈QK p,∀x∈F n,x∈QK p):∀(m k:Nat)(out:List Str),out.Nodup->(∀s∈out,s∈QK p)->k<=out.length->p.A.length<m+k->(∀i,i<k->∀n,out[i]?=some n->∀x∈F n,x∈out)->∀n∈Ei F m k out,∀x∈F n,x∈Ei F m k out
 | 0,k,out,h1,h2,h3,h4,_=>by
   have u:=YF h1 h2;have v:(QK p).length=p.A.length:=by simp[QK]
   omega
 | m+1,k,out,h1,h2,h3,h4,u=>by
   rw[Ei];cases t:out[k]?with
   | none=>
     have c:out.length<=k:=z2i.1 t;show ∀n∈out,∀x∈F n,x∈out;intro n q;obtain⟨i,o,rfl⟩:=z0l.1 q;exact u i (by omega) _ (x8h o)
   | some y=>
     have c:=(x8t.1 t).1;obtain⟨v,b,r,w⟩:=VO (F y) h1 h2 (z y (h2 y (x9x t)));refine Ht z m _ _ v b (by rw[w,x8d];omega) (by omega) fun i o n q x a=>?_;have h:out[i]?=some n:=by
      rw[w,z0f (by omega)]at q;exact q
     refine(WU _ _).2 ?_;rcases Nat.lt_succ_iff_lt_or_eq.1 o with o|rfl
     .exact .inl (u i o n h x a)
     .rw [t]at h;cases h;exact .inr a
def Bi(i:QL p=true)(h:p.A[k]?=some f){o:Item}(r:o∈itsOf p k f):Bm (JY p f.name) o.s.id=lvB p k o.s.id:=by
 obtain⟨u,n,t⟩:=q5c i (x9x h);obtain⟨rfl,_⟩:=SI i n h rfl;have q:=VS (QG i).1 h (BU r);have e:JY p f.name=A9 (QQ p u f):=by unfold JY;rw[t]
 rw[e,z2t,q2b,q3y i h];unfold lvB;rw[VX h,Bo i h (.inr (.inr q))];exact and_iff_right (by omega)
def CR(L:List Int)(l:List RI):List Str:=(l.filter fun x=>decide (x.s.kind=4)&&Bm L x.s.id).map fun x=>x.s.C
def CC(L:List Int)(l:List RI):Bool:=l.any fun x=> !Bm L x.s.id
def Sy(o:QL p=true)(q:p.A[k]?=some f):(ZR f).map RI.s=(itsOf p k f).map Item.s:=by
 rw[Ut (QG o).1 (x9x q)];obtain⟨r,t⟩:=x1n (QG o).1 q;refine z5j (by rw[x8g,x8g,r]) fun i h n=>?_;rw[x8g]at h n;rw[z3z,z3z,t i h n]
def EW(h:QL p=true)(i:p.A[k]?=some f):CR (JY p f.name) (ZR f)=HJ p k (itsOf p k f):=by
 have n:CR (JY p f.name) (ZR f)=(((ZR f).map RI.s).filter fun s=>decide (s.kind=4)&&Bm (JY p f.name) s.id).map S.C:=by
  unfold CR;rw[List.filter_map,z2c];rfl
 rw[n,Sy h i];unfold HJ;rw[List.filter_map,z2c];rw[show(itsOf p k f).filter (ZC p k)=(itsOf p k f).filter ((fun s:S=>decide (s.kind=4)&&Bm (JY p f.name) s.id)∘Item.s)from z4d fun q o=>by
  unfold ZC;rw[<-Bi h i o];rfl]
 rfl
def ED(n:QL p=true)(q:p.A[k]?=some f)(h:CC (JY p f.name) (ZR f)=false):∀i∈itsOf p k f,lvB p k i.s.id=true:=by
 have r:CC (JY p f.name) (ZR f)=((ZR f).map RI.s).any fun s=> !Bm (JY p f.name) s.id:=by
  unfold CC;rw[List.any_map];rfl
 rw[r,Sy n q,List.any_map]at h;intro i o;have t:=(z4h.1 h) i o;rw[<-Bi n q o];simpa using t
def Mi(d:QL p=true){n x:Str}(t:n∈QK p)(h:x∈KR p n):x∈YL p n:=by
 obtain⟨k,r,u,_,c⟩:=YP t;have y:p.A[k]?=some p.A[k]:=x8h r;unfold KR at h;rw[show NL p n=(k:Nat)from u,z0x,VX y]at h;obtain⟨a,q,rfl⟩:=x8s.1 h;obtain⟨q,o⟩:=z0v.1 q;have i:p.A.find? (fun f=>f.name==n)=some p.A[k]:=by
  obtain⟨b,z,v,w,_⟩:=YP t;have:k=b:=by omega
  subst this;exact w
 rw[Yc r i];unfold FR;exact KF.2 (XR.2 (x8s.2 ⟨a.s,z0v.2 ⟨BU q,x9e (EU o).1⟩,rfl⟩))
def RC(b:QL p=true){n x:Str}(d:n∈QK p)(i:CC (JY p n) (ZR (prA p (NL p n).toNat))=false)(h:x∈YL p n):x∈KR p n:=by
 obtain⟨k,r,u,w,v⟩:=YP d;have q:p.A[k]?=some p.A[k]:=x8h r;unfold KR;rw[show NL p n=(k:Nat)from u,z0x,VX q]at i⊢;rw[<-v]at i;have c:=ED b q i;rw[Yc r w]at h;obtain⟨t,y,rfl⟩:=x8s.1 (XR.1 (KF.1 h));obtain⟨z,a⟩:=z0v.1 y;obtain⟨s,o,rfl⟩:=q8n (p:=p) (j:=k) z;refine x8s.2 ⟨s,z0v.2 ⟨o,?_⟩,rfl⟩;unfold ZC;rw[c s o,Bool.and_true];exact a
def K3(i:QL p=true){n x:Str}(o:n∈QK p)(h:x∈KR p n):x∈QK p:=DT (QG i).2.1 (Mi i o h)
def D1(h:QL p=true):(QF p).Pairwise ltT:=by
 have hnd:=(WK h).1;unfold QF at hnd⊢;rw[G8 ((z1v _ _).nodup_iff.1 hnd)];exact ZU _
def Vn(q:QL p=true):∀n∈QF p,∀x∈KR p n,x∈QF p:=by
 intro n h x o;unfold QF at h⊢;rw[XR,Kd]at h⊢;exact Ht (fun n h x o=>K3 q h o) _ 0 [mainS] (by simp) (by simpa using FK q) (x8m _) (by omega) (fun i r=>absurd r (Nat.not_lt_zero i)) n h x o
def Oz:∀n∈QF p,n=mainS\/∃m∈QF p,n∈KR p m:=by
 intro n i;unfold QF at i⊢;rw[XR,Kd]at i;rcases Eo (a:=mainS) _ _ _ (fun n i=>.inl (x8l.1 i)) n i with h|⟨x,o,h⟩
 .exact .inl h
 .exact .inr ⟨x,by rw[XR,Kd];exact o,h⟩
def Ln(i:QL p=true):∀n∈QF p,n∈Gl p mainS:=by
 intro n o;unfold QF at o;rw[XR,Kd]at o;exact(B4 (QG i).2.1 (FK i)).2 (No (S:=fun n=>n∈QK p/\Rch (fun x y=>y∈YL p x) mainS n) (fun n h x q=>⟨K3 i h.1 q,.tail h.2 (Mi i h.1 q)⟩) _ _ _ (fun n o=>by rw[x8l.1 o];exact⟨FK i,.refl⟩) n o).2
def El(i:QL p=true)(r:∀n∈QF p,CC (JY p n) (ZR (prA p (NL p n).toNat))=false):∀n∈Gl p mainS,n∈QF p:=by
 intro n s;have h:=(B4 (QG i).2.1 (FK i)).1 s;induction h with
 |refl=>exact W6 p
 | tail o q t=>
   have:=t ((B4 (QG i).2.1 (FK i)).2 o);exact Vn i _ this _ (RC i ((WK i).2 _ this) (r _ this) q)
def LM(a b:List Str):aP 30 [eStrs a,eStrs b] (.bool (a.all fun s=>inS b s)):=by
 refine sC DP func30 ?_;conv=>whnf
 have q:=fun x=>KL b x;have r:(a.map AV.str).length=a.length:=x8g _;repeat' ((first|(refine gX ?_;intros)|refine dA ?_|((first|apply bD|apply bE|apply bN|apply bB)<;>intro _<;>try omega))<;>conv=>whnf)
 refine lI (fun j:Nat=>⟨[(1,.p (eStrs b)),(7,.p (eStrs a)),(8,.p (.int .i64 (a.map AV.str).length)),(9,.j j)],[]⟩) (fun j=>j<=a.length/\(a.drop j).all (fun s=>inS b s)=a.all fun s=>inS b s) (fun j=>a.length-j) 0 ⟨x8m _,rfl⟩ ?_;rintro j ⟨t,i⟩;rcases x8a j a.length with n|n
 .rw [x9t n,List.all_cons]at i;have h:=q a[j];cases o:inS b a[j]with
  | true=>
    rw[o]at h i;conv=>whnf
    repeat' ((first|(refine gX ?_;intros)|refine dA ?_|refine cP h ?_|((first|apply bD|apply bE|apply bN|apply bB)<;>intro _<;>try omega))<;>conv=>whnf)
    all_goals first
     |contradiction
     |exact nX (j+1) ⟨n,i⟩
  | false=>
    rw[o]at h i;conv=>whnf
    repeat' ((first|(refine gX ?_;intros)|refine dA ?_|refine cP h ?_|((first|apply bD|apply bE|apply bN|apply bB)<;>intro _<;>try omega))<;>conv=>whnf)
    all_goals first
     |contradiction
     |exact RetK.ff (by rw[<-i];rfl)
 .rw [x9v n,List.all_nil]at i;conv=>whnf
  repeat' ((first|(refine gX ?_;intros)|refine dA ?_|((first|apply bD|apply bE|apply bN|apply bB)<;>intro _<;>try omega))<;>conv=>whnf)
  all_goals exact RetK.tt i.symm
def OR(p:Pg)(q:Fit p)(h:(QO p).1=0)(n:Str)(i:n∈QK p):aP 31 [.agg p.cells,.str n] (eStrs (Gl p n)):=by
 refine sC RB func31 ?_;conv=>whnf
 obtain⟨r,u,s⟩:=JL h;obtain⟨v,t,o⟩:=WE r;repeat' ((first|(refine gX ?_;intros)|refine cP (Gw p q h n i) ?_|refine cP (Rk p n h i) ?_|refine dA ?_|refine cP (JP p (by omega) (by omega)) ?_ (ha:=.cons (Sub.refl _) .nil)|((first|apply bD|apply bE|apply bN|apply bB)<;>intro _<;>try omega))<;>conv=>whnf)
 exact RetK.p rfl
def S2(p:Pg)(l:List Str):List Str:=mainS::l.flatMap fun n=>CR (JY p n) (ZR (prA p (NL p n).toNat))
def q7s(p:Pg)(l:List Str):Bool:=l.any fun n=>CC (JY p n) (ZR (prA p (NL p n).toNat))
def EX(q:QL p=true)(h:∀n∈l,n∈QK p){x:Str}:x∈S2 p l↔x=mainS\/∃n∈l,x∈KR p n:=by
 unfold S2;rw[x8r,x9m];refine or_congr z4r (z4u fun n=>and_congr_right fun s=>?_);obtain⟨k,r,i,o⟩:=GM (h n s);unfold KR;rw[i,z0x];have:=EW q (VB r);rw[o]at this;rw[this]
def EZ(p:Pg)(h:j<l.length):S2 p (l.take (j+1))=S2 p (l.take j)++CR (JY p l[j]) (ZR (prA p (NL p l[j]).toNat)):=by
 unfold S2;rw[x8c h,z1q];simp
def EF(p:Pg)(h:j<l.length):q7s p (l.take (j+1))=(q7s p (l.take j)||CC (JY p l[j]) (ZR (prA p (NL p l[j]).toNat))):=by
 unfold q7s;rw[x8c h,List.any_append];simp
def EV(L:List Int){l:List RI}(h:j<l.length):CR L (l.take (j+1))=CR L (l.take j)++if(decide (l[j].s.kind=4)&&Bm L l[j].s.id)=true then [l[j].s.C]else []:=by
 unfold CR;rw[x8c h,z0b,x8i,z2a];split<;>rfl
def EB(L:List Int){l:List RI}(h:j<l.length):CC L (l.take (j+1))=(CC L (l.take j) || !Bm L l[j].s.id):=by
 unfold CC;rw[x8c h,List.any_append];simp
def q1b(p:Pg)(l:List Str):(S2 p l).length<=1+l.length*201:=by
 have h:=XK (f:=fun n=>CR (JY p n) (ZR (prA p (NL p n).toNat))) (c:=201) (fun n=>by
  unfold CR;rw[x8g];exact x9r (z0i _ _) (Qc _)) l
 unfold S2;rw[x9s];omega
def Oq(i:QL p=true):QF p=WH (S2 p (QF p))/\((QF p).all fun s=>inS (Gl p mainS) s)=true/\(q7s p (QF p)=false->QF p=Gl p mainS):=by
 have o:=(WK i).2;refine⟨Xd (D1 i) fun s=>?_,z0k.2 fun s u=>KV.2 (Ln i s u),fun r=>?_⟩
 .rw [EX i o];constructor
  .exact fun h=>Oz s h
  .rintro (rfl|⟨n,q,h⟩)
   .exact W6 p
   .exact Vn i n q s h
 .have hnd:(VP p (p.A.length+1) 0 [mainS]).Nodup:=(Ww (QG i).2.1 _ _ _ (by simp) (by simpa using FK i)).1;have e:Gl p mainS=WH (VP p (p.A.length+1) 0 [mainS]):=by
   unfold Gl;exact G8 hnd
  rw[e];refine Xd (D1 i) fun s=>?_;have t:s∈VP p (p.A.length+1) 0 [mainS]↔s∈Gl p mainS:=by rw[e,WZ]
  rw[t];exact⟨Ln i s,El i (fun n q=>by simpa using(z4h.1 r) n q) s⟩
def DV(p:Pg):aP 6 [.agg p.cells] .tt:=by
 refine sC GA func6 ?_;conv=>whnf
 cases h:I3 p with
 | false=>
   have hno:¬gPg p<=20000:=by unfold I3 at h;simpa using h
   repeat' ((first|(refine gX ?_;intros)|refine cP (XE _) ?_|refine dA ?_|refine cP XX ?_|((first|apply bD|apply bE|apply bN|apply bB)<;>intro _<;>try omega))<;>conv=>whnf)
   all_goals first
    |exact⟨_,.p (Sub.refl _),rfl⟩
    |(exfalso;simp_all;done)
 | true =>
   have K:Fit p:=q6v h;have I:gPg p<=20000:=by unfold I3 at h;simpa using h
   have E:=KM p K 60;cases M:D9 p 60 with
   | false=>
     rw[M]at E;repeat' ((first|(refine gX ?_;intros)|refine cP (XE _) ?_|refine dA ?_|refine cP XX ?_|refine cP E ?_|((first|apply bD|apply bE|apply bN|apply bB)<;>intro _<;>try omega))<;>conv=>whnf)
     all_goals first
      |exact⟨_,.p (Sub.refl _),rfl⟩
      |(exfalso;simp_all;done)
   | true=>
     rw[M]at E;have y:QL p=true:=R9 M;have P:=R1 p K;have e:Od p=QF p:=by unfold Od;rw[if_pos y]
     rw[e]at P;obtain⟨q1,q2,q3⟩:=Oq y;have c:=(WK y).2;have T:=BM y;have w:=OR p K (QG y).2.1 mainS (FK y);generalize hRe:QF p=R at*
     have hRm:(R.map AV.str).length=R.length:=x8g _;repeat' ((first|(refine iM fun _=>?_)|refine cP (XE _) ?_|refine dA ?_|refine x9g rfl ?_|refine aD ?_|refine aR ?_|(refine iA fun _=>?_)|refine IdxK.xs (by omega) ?_|refine Yg (by omega) ?_|refine ByteK.at (by omega) ?_|refine wI ?_|refine cP XX ?_|refine cP E ?_|refine cP P ?_|refine z4x (fun x hx=>by rcases x8l.1 hx with rfl;rfl) rfl ?_|((first|apply bD|apply bE|apply bN|apply bB)<;>intro _<;>try omega))<;>conv=>whnf)
     all_goals try exact⟨_,.p (Sub.refl _),rfl⟩
     have z:=fun j=>q1b p (R.take j);refine lJ (fun j:Nat=>⟨[(1,.p (.ip p.cells)),(3,.p (eStrs R)),(4,.hd 0 0 (S2 p (R.take j)).length),(5,.p (.bool (q7s p (R.take j)))),(24,.p (eStrs R)),(25,.p (.int .i64 (R.map AV.str).length)),(26,.j j)],[(0,.own 9 1 ((S2 p (R.take j)).map .str))]⟩) (fun j=>j<=R.length) (fun j=>R.length-j) 0 (lE (hsl:=.r (.r (.r (.cons (.p (Sub.ff rfl)) (.r (.r (.r .nil)))))))) (x8m _) ?_;intro j h1;rcases x8a j R.length with g|g
     .obtain ⟨k,hk,U,hnm⟩:=GM (c _ (x8o g));have a:p.A.find? (fun f=>f.name==R[j])=some (prA p k):=by
       obtain⟨Z,V,J,n,_⟩:=YP (c _ (x8o g));have B:NL p R[j]=(Z:Nat):=J;have:k=Z:=by omega
       subst this;rw[n,VX (x8h V)]
      have hM:Ld p R[j]=(prA p k,true):=by
       unfold Ld O9;rw[(QG y).1,x9y,a]
      have t:=NF p R[j];rw[hM]at t;have Y:=S3 p K R[j];have G:=YB (prA p k);have N:=EZ p g;have O:=EF p g;rw[U,z0x]at N O;have hql:=Qc (prA p k);have hc1:(S2 p (R.take j)).length<=10000:=by
       have:=z j;have J:=List.length_take_le j R;omega
      generalize S2 p (R.take j)=ca at*
      generalize q7s p (R.take j)=da at*
      generalize JY p R[j]=L at*
      generalize ZR (prA p k)=Q at*
      have hQm:(Q.map fun i=>AV.agg i.cells).length=Q.length:=x8g _;conv=>whnf
      repeat' ((first|(refine gX ?_;intros)|refine dA ?_|refine cP t ?_|refine cP Y ?_|refine cP G ?_|((first|apply bD|apply bE|apply bN|apply bB)<;>intro _<;>try omega))<;>conv=>whnf)
      refine lI (fun x:Nat×List Str×Bool=>⟨[(1,.p (.ip p.cells)),(3,.p (eStrs R)),(4,.hd 0 0 x.2.1.length),(5,.p (.bool x.2.2)),(10,.p (QE L)),(24,.p (eStrs R)),(25,.p (.int .i64 (R.map AV.str).length)),(26,.j j),(40,.p (x0f Q)),(41,.p (.int .i64 (Q.map fun i=>AV.agg i.cells).length)),(42,.j x.1)],[(0,.own 9 1 (x.2.1.map .str))]⟩) (fun x=>x.1<=Q.length/\x.2.1=ca++CR L (Q.take x.1)/\x.2.2=(da||CC L (Q.take x.1))/\x.2.1.length<=ca.length+x.1) (fun x=>Q.length-x.1) (0,ca,da) ⟨x8m _,by simp[CR],by simp[CC],x9z _⟩ ?_;rintro⟨m,o,d⟩ ⟨J,n,B,h5⟩;simp only at J n B h5⊢;rcases x8a m Q.length with D|D
      .have t1:=EV L D;have t2:=EB L D;have hH:=HL L Q[m].s.id;have t3:ca++CR L (Q.take (m+1))=o++if(decide (Q[m].s.kind=4)&&Bm L Q[m].s.id)=true then [Q[m].s.C]else []:=by rw[t1,<-x9u,<-n]
       have t4:(da||CC L (Q.take (m+1)))=(d || !Bm L Q[m].s.id):=by rw[t2,<-Bool.or_assoc,<-B]
       clear t1 t2 n B;generalize Bm L Q[m].s.id=b at*
       clear c T w q1 q2 q3 P t Y G N O z E M h I;cases d<;>cases b;all_goals
        conv=>whnf
        repeat' ((first|(refine gX ?_;intros)|refine dA ?_|refine cP hH ?_|refine pS ?_|((first|apply bD|apply bE|apply bN|apply bB)<;>intro _<;>try omega))<;>conv=>whnf)
       all_goals first
        |contradiction
        | (rw[if_pos (by simp only[*];rfl)]at t3
           refine⟨(m+1,o++[Q[m].s.C],_),⟨D,t3.symm,t4.symm,?_⟩,?_,Le.mk [] ?_ ?_ ?_ (.r (.r (.cons (.of_eq ?_) (.cons ?_ (.r (.r (.r (.r (.r (.r (.r .nil))))))))))) (.cons rfl (.of_eq ?_) .nil)⟩)
        | (rw[if_neg (by simp only[*];decide),x9c]at t3
           refine⟨(m+1,o,_),⟨D,t3.symm,t4.symm,?_⟩,?_,Le.mk [] ?_ ?_ ?_ (.r (.r (.cons (.of_eq ?_) (.cons ?_ (.r (.r (.r (.r (.r (.r (.r .nil))))))))))) (.cons rfl (.of_eq ?_) .nil)⟩)
       all_goals first
        |rfl
        |exact .refl _
        |exact .p (Sub.tt rfl)
        |exact .p (Sub.ff rfl)
        |(simp only;omega)
        |(simp only[x8d];rfl)
        |(simp only[x8i];rfl)
        |(simp;done)
        |(simp;omega)
      .rw [x9q D]at n B;rw[<-n]at N;rw[<-B]at O;conv=>whnf
       repeat' ((first|(refine gX ?_;intros)|refine dA ?_|((first|apply bD|apply bE|apply bN|apply bB)<;>intro _<;>try omega))<;>conv=>whnf)
       all_goals exact⟨j+1,g,by omega,Le.of_eq (by rw[N,O];rfl)⟩
     .have H:=z R.length;rw[x9q (x9z _)]at H;rw[x9q g];have u:=LN (S2 p R) (by omega);rw[<-q1]at u;have q:=JF R R;rw[x9e rfl]at q;have v:=LM R (Gl p mainS);rw[q2]at v;have F:=JF R (Gl p mainS);generalize S2 p R=ca at*
      have hcm:(ca.map AV.str).length=ca.length:=x8g _;cases hd:q7s p R with
      | true=>
        generalize Gl p mainS=A at*
        conv=>whnf
        repeat' ((first|(refine gX ?_;intros)|refine dA ?_|(refine JR u (.cons (.hd rfl (by simp)) .nil) ?_;rintro _ rfl)|refine cP q ?_|refine cP w ?_|refine cP v ?_|((first|apply bD|apply bE|apply bN|apply bB)<;>intro _<;>try omega))<;>conv=>whnf)
        all_goals first
         |contradiction
         |exact⟨_,.p (Sub.refl _),rfl⟩
         |exact⟨_,.p (MP rfl),rfl⟩
      | false=>
        rw[x9e (q3 hd)]at F;generalize Gl p mainS=A at*
        conv=>whnf
        repeat' ((first|(refine gX ?_;intros)|refine dA ?_|(refine JR u (.cons (.hd rfl (by simp)) .nil) ?_;rintro _ rfl)|refine cP q ?_|refine cP w ?_|refine cP v ?_|refine cP F ?_|((first|apply bD|apply bE|apply bN|apply bB)<;>intro _<;>try omega))<;>conv=>whnf)
        all_goals first
         |contradiction
         |exact⟨_,.p (Sub.refl _),rfl⟩
         |exact⟨_,.p (MP rfl),rfl⟩
end Go.Ab
