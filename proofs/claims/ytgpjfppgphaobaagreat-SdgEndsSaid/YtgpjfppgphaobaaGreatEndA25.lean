/- whole: a right program's whole graph. Conditions: the program fits. -/
import Derived.Test.YtgpjfppgphaobaaGreatEndA24
set_option linter.all false
set_option maxRecDepth 100000
set_option maxHeartbeats 16000000
namespace Go.Ab
open Go.Proofs.Tryz
open Go.Proofs
variable {f:Pr}{it:Item}{j k m:Nat}{p:Pg}
def I4(p:Pg){l:List Str}(h:j<l.length):BZ p (l.take (j+1))=BZ p (l.take j)++I5 p (Qm p l[j]).toNat:=by
 unfold BZ;rw[x4k h,x6m];simp
def CL(p:Pg){l:List Str}(h:j<l.length):q1c p (l.take (j+1))=q1c p (l.take j)++CR p (Qm p l[j]).toNat:=by
 unfold q1c;rw[x4k h,x6m];simp
def IW{V:List Vx}(h:j<V.length):atV (V.take (j+1))=K5 (atV (V.take j)) V[j] j:=by
 unfold atV;rw[x4k h,List.zipIdx_append,x7s];simp[Nat.min_eq_left (Nat.le_of_lt h)]
def q3z{vs i:List Vx}{K:Prop}(h:vs.length+i.length<=1000000000000)(n:m=(avV i).length)(l:K):AppK (avV vs) (avV i) vs.length m 4 48 K:=by
 have e:(avV i).length=i.length:=x3a _;exact .mk (x3a _).symm n (by omega) (by unfold maxLen;omega) (fun x o=>by obtain⟨v,_,rfl⟩:=x4y.1 o;exact⟨rfl,rfl⟩) l
def q3x{vs i:List Eg}{K:Prop}(h:vs.length+i.length<=1000000000000)(n:m=(avE i).length)(l:K):AppK (avE vs) (avE i) vs.length m 9 104 K:=by
 have e:(avE i).length=i.length:=x3a _;exact .mk (x3a _).symm n (by omega) (by unfold maxLen;omega) (fun x o=>by obtain⟨v,_,rfl⟩:=x4y.1 o;exact⟨rfl,rfl⟩) l
def PW(l:Fit p)(i:QL p=false):aH 39 [.p (.agg p.cells)] [] (.p .nilp) []:=by
 have h:=(F8 p l).mono (R':=fun r=>r=.nilp) fun r n=>n.2 i;refine sK Vk func39 ?_;conv=>whnf
 repeat' ((first|(refine gX ?_;intros)|refine dA ?_|refine cP h ?_|((first|apply bD|apply bE|apply bN|apply bB)<;>intro _<;>try omega))<;>conv=>whnf)
 all_goals first
  |exact x6n _ (x4c _) ⟨rfl,rfl⟩
def q2g{h n:Nat}{b:List AV}{P V E:AV}{l:List (Vx×AV)}:
  Le h ⟨[(4,.ptr 1 0)],[(3,.own 183 1 (List.replicate n .nils)),(2,.own 183 1 (List.replicate n .nils)),(1,whO b (.p P) (.p V) (.p E) (.p .nils) (.ext 0 .map) (.hd 2 0 n) (.hd 3 0 n)),(0,.ext (Jj vxV l))]⟩
   ⟨[(4,.ptr 1 0)],[(1,whO b (.p P) (.p V) (.p E) (.p .nils) (.ext 0 .map) (.hd 2 0 n) (.hd 3 0 n)),(0,.ext (Jj vxV l)),(2,.ext (.mat 183 185 2 (avA (List.replicate n [])) [])),(3,.ext (.mat 183 185 2 (avA (List.replicate n [])) []))]⟩:=by
 have q:=JW (N:=h) (sl:=[(4,.ptr 1 0)]) (H:=[(3,.own 183 1 (List.replicate n .nils)),(2,.own 183 1 (List.replicate n .nils)),(1,whO b (.p P) (.p V) (.p E) (.p .nils) (.ext 0 .map) (.hd 2 0 n) (.hd 3 0 n)),(0,.ext (Jj vxV l))])
  (H':=[(3,.ext (.mat 183 185 2 (List.replicate (List.replicate n AV.nils).length []) [])),(2,.own 183 1 (List.replicate n .nils)),(1,whO b (.p P) (.p V) (.p E) (.p .nils) (.ext 0 .map) (.hd 2 0 n) (.hd 3 0 n)),(0,.ext (Jj vxV l))])
  3 185 2 (e:=183) (es:=List.replicate n .nils) rfl (fun x o=>x6v o) rfl rfl rfl rfl (by simp[JL])
 have i:=JW (N:=h) (sl:=[(4,.ptr 1 0)]) (H:=[(3,.ext (.mat 183 185 2 (List.replicate (List.replicate n AV.nils).length []) [])),(2,.own 183 1 (List.replicate n .nils)),(1,whO b (.p P) (.p V) (.p E) (.p .nils) (.ext 0 .map) (.hd 2 0 n) (.hd 3 0 n)),(0,.ext (Jj vxV l))])
  (H':=[(3,.ext (.mat 183 185 2 (List.replicate (List.replicate n AV.nils).length []) [])),(2,.ext (.mat 183 185 2 (List.replicate (List.replicate n AV.nils).length []) [])),(1,whO b (.p P) (.p V) (.p E) (.p .nils) (.ext 0 .map) (.hd 2 0 n) (.hd 3 0 n)),(0,.ext (Jj vxV l))])
  2 185 2 (e:=183) (es:=List.replicate n .nils) rfl (fun x o=>x6v o) rfl rfl rfl rfl (by simp[JL])
 refine(q.trans i).trans ?_;exact lE (hH:=.cons rfl (.refl _) (.cons rfl (.refl _) (.cons rfl (.of_eq (by simp[avA,avP])) (.cons rfl (.of_eq (by simp[avA,avP])) .nil))))
def q9o(k:Nat):Nat:=if k=2 then 3 else if k=3 then 2 else k
def q7m{o n:Nat}{b:List AV}{P V E:AV}{l:List (Vx×AV)}:
  Le o ⟨[(4,.ptr 1 0)],[(3,.own 183 1 (List.replicate n .nils)),(2,.own 183 1 (List.replicate n .nils)),(1,whO b (.p P) (.p V) (.p E) (.p .nils) (.ext 0 .map) (.hd 3 0 n) (.hd 2 0 n)),(0,.ext (Jj vxV l))]⟩
   ⟨[(4,.ptr 1 0)],[(1,whO b (.p P) (.p V) (.p E) (.p .nils) (.ext 0 .map) (.hd 2 0 n) (.hd 3 0 n)),(0,.ext (Jj vxV l)),(2,.ext (.mat 183 185 2 (avA (List.replicate n [])) [])),(3,.ext (.mat 183 185 2 (avA (List.replicate n [])) []))]⟩:=by
 refine Le.trans ?_ q2g;refine Ch q9o (fun k=>by unfold q9o;split<;>(try split)<;>simp_all) (fun j q s=>by unfold q9o;rw[if_neg (by omega),if_neg (by omega)]) (.r .nil) (fun j c h=>?_) (by simp);rcases x4v.1 h with i|h
 .cases i;exact⟨_,x4x _ x4z,CSub.refl _⟩
 rcases x4v.1 h with i|h
 .cases i;exact⟨_,x4z,CSub.refl _⟩
 rcases x4v.1 h with i|h
 .cases i;exact⟨_,x4x _ (x4x _ x4z),CSub.refl _⟩
 rcases x4v.1 h with i|h
 .cases i;exact⟨_,x4x _ (x4x _ (x4x _ x4z)),CSub.refl _⟩
 .cases h
def RE{N:List (List (Int×Int))}(h:∀r∈N,r.length<=m)(a:Nat)(x:Int×Int):∀r∈Pz N a x,r.length<=m+1:=by
 intro r i;unfold Pz at i;rcases x7q i with i|rfl
 .exact Nat.le_succ_of_le (h r i)
 .rw [x3o,x4i,x3i];cases l:N[a]?with
  |none=>exact Nat.succ_le_succ (x4j _)
  |some y=>exact Nat.succ_le_succ (h y (x4p l))
theorem Pd(n:Nat)(l:List (Vx×Nat))(E:List Eg):∀j,j<=E.length->((Yu n l (E.take j)).length=n/\∀r∈Yu n l (E.take j),r.length<=j)/\(Yg n l (E.take j)).length=n/\∀r∈Yg n l (E.take j),r.length<=j
 | 0,_=>by
   unfold Yu Yg;rw[List.take_zero];refine⟨⟨x5e,fun r i=>?_⟩,x5e,fun r i=>?_⟩;all_goals
    rw[x6v i];exact x4j _
 | j+1,h=>by
   obtain⟨⟨o,q⟩,s,t⟩:=Pd n l E j (by omega);unfold Yu Yg at*
   rw[x4k (by omega),x7s,x7s];exact⟨⟨layR_len.trans o,RE q _ _⟩,layR_len.trans s,RE t _ _⟩
def So(n:Nat)(l:List (Vx×Nat)){E:List Eg}(h:j<E.length):Yu n l (E.take (j+1))=Pz (Yu n l (E.take j)) (ixN l E[j].G) (ixN l E[j].to,E[j].kind)/\Yg n l (E.take (j+1))=Pz (Yg n l (E.take j)) (ixN l E[j].to) (ixN l E[j].G,E[j].kind):=by
 unfold Yu Yg;rw[x4k h,x7s,x7s];exact⟨rfl,rfl⟩
def Iq(b:List AV)(R:List Str)(V:List Vx)(E:List Eg)(l:List (Vx×Nat))(N Q:List (List (Int×Int))):Heap:=[(1,whO b (.p (eStrs R)) (.p (.sl (avV V))) (.p (.sl (avE E))) (.p .nils) (.ext 0 .map) (.hd 2 0 V.length) (.hd 3 0 V.length)),(0,.ext (Jj vxV (lG l))),(2,.ext (.mat 183 185 2 (avA N) [])),(3,.ext (.mat 183 185 2 (avA Q) []))]
noncomputable def q3q(p:Pg):Heap:=Iq (QY p).cells (QH p) (BZ p (QH p)) (FT p) (atV (BZ p (QH p))) (Yu (BZ p (QH p)).length (atV (BZ p (QH p))) (FT p)) (Yg (BZ p (QH p)).length (atV (BZ p (QH p))) (FT p))
def Qp(hf:Fit p)(i:QL p=true):aH 39 [.p (.agg p.cells)] [] (.ptr 1 0) (q3q p):=by
 have hB:=(F8 p hf).mono (R':=fun r=>r=.ip (QY p).cells) fun r K=>K.1 i;have T:(QY p).s.p=p:=by rw[(WH i).s];exact(QU p).1
 have hR:=R9 i;have hRl:=DL i;obtain⟨hR1,z⟩:=ZS i;have G:=fun j=>TY i ((QH p).take j) fun n U=>z n (x8n U);have F:=fun j=>He i ((QH p).take j) fun n U=>z n (x8n U);generalize o:QH p=R at*
 have hRm:(R.map AV.str).length=R.length:=x3a _;refine sK Vk func39 ?_;conv=>whnf
 repeat' ((first|(refine gX ?_;intros)|refine dA ?_|refine cP hB ?_|refine OpK.makeMap rfl ?_|((first|apply bD|apply bE|apply bN|apply bB)<;>intro _<;>try omega)|(refine cH [] 0 hR ?_ (hH:=x6z)))<;>conv=>whnf)
 refine lJ (fun x:Nat×List Vx×List Eg=>⟨[(3,.p (.ip (QY p).cells)),(4,.ptr 1 0),(25,.p (eStrs R)),(26,.p (.int .i64 (R.map AV.str).length)),(27,.j x.1)],[(1,whO (QY p).cells (.p (eStrs R)) (.hd 2 0 x.2.1.length) (.hd 3 0 x.2.2.length) (.p .nils) (.ext 0 .map) (.p .nils) (.p .nils)),(0,.ext (Jj vxV [])),(2,.own 27 4 (avV x.2.1)),(3,.own 43 9 (avE x.2.2))]⟩) (fun x=>x.1<=R.length/\x.2.1=BZ p (R.take x.1)/\x.2.2=q1c p (R.take x.1)) (fun x=>R.length-x.1) (0,[],[]) (lM [(2,.own 27 4 []),(3,.own 43 9 [])] (hH:=.cons rfl (.obj (.r (.r (.cons (.nil x4z) (.cons (.nil (x4x _ x4z)) (.r (.r (.r (.r .nil))))))))) (.cons rfl (.refl _) (.new x4z (.new (x4x _ x4z) .nil))))) ⟨x4j _,rfl,rfl⟩ ?_;rintro⟨j,vs,es⟩ ⟨Z,w,d⟩;simp only at Z w d⊢;have hvl:vs.length<=16*60000:=by
  have:=G j;have h4:=List.length_take_le j R;rw[w];exact x5y this (x5l _ (by rw[x5z];omega))
 have hel:es.length<=16*14000000:=by
  have:=F j;rw[d];exact x5y this (x5l _ (by rw[x5z];omega))
 rcases x4f j R.length with g|g
 .obtain ⟨k,L,b,_⟩:=YW (z _ (x4h g));have O:aP 65 [.ip (QY p).s.cells,.str R[j]] (.int .i64 (k:Nat)):=by
   have:=ZD (QY p).s R[j];rw[T,show idxF (fun f=>f.name==R[j]) p.A=(k:Nat)from b]at this;exact this
  have hV:=Rq i L;have hE:=Gs hf i L;have hv1:=TJ i L;have he1:=Ra i L;have sV:=I4 p g;have sE:=CL p g;rw[<-w,b,x5u]at sV;rw[<-d,b,x5u]at sE;generalize I5 p k=nv at*
  generalize CR p k=ne at*
  conv=>whnf
  repeat' ((first|(refine gX ?_;intros)|refine cP O ?_|((first|apply bD|apply bE|apply bN|apply bB)<;>intro _<;>try omega))<;>conv=>whnf)
  refine ZF ⟨[(3,.p (.ip (QY p).cells)),(4,.ptr 1 0),(7,.j k),(25,.p (eStrs R)),(26,.p (.int .i64 (R.map AV.str).length)),(27,.j j)],[(1,whO (QY p).cells (.p (eStrs R)) (.hd 2 0 (vs++nv).length) (.hd 3 0 es.length) (.p .nils) (.ext 0 .map) (.p .nils) (.p .nils)),(0,.ext (Jj vxV [])),(2,.own 27 4 (avV (vs++nv))),(3,.own 43 9 (avE es))]⟩ ?_ ?_
  .skip
   repeat' ((first|(refine gX ?_;intros)|refine dA ?_|refine q3z (by omega) rfl ?_|((first|apply bD|apply bE|apply bN|apply bB)<;>intro _<;>try omega)|(refine cH [] 4 hV ?_ (hH:=x6z))|refine x4e ?_ ?_)<;>conv=>whnf)
   all_goals first
    |exact Le.of_eq (by simp only[whO,avV,x4d,x3o,x3a];rfl)
  conv=>whnf
  repeat' ((first|(refine gX ?_;intros)|((first|apply bD|apply bE|apply bN|apply bB)<;>intro _<;>try omega))<;>conv=>whnf)
  refine ZF ⟨[(3,.p (.ip (QY p).cells)),(4,.ptr 1 0),(25,.p (eStrs R)),(26,.p (.int .i64 (R.map AV.str).length)),(27,.j j)],[(1,whO (QY p).cells (.p (eStrs R)) (.hd 2 0 (vs++nv).length) (.hd 3 0 (es++ne).length) (.p .nils) (.ext 0 .map) (.p .nils) (.p .nils)),(0,.ext (Jj vxV [])),(2,.own 27 4 (avV (vs++nv))),(3,.own 43 9 (avE (es++ne)))]⟩ ?_ ?_
  .skip
   repeat' ((first|(refine gX ?_;intros)|refine dA ?_|refine q3x (by omega) rfl ?_|((first|apply bD|apply bE|apply bN|apply bB)<;>intro _<;>try omega)|(refine cH [] 4 hE ?_ (hH:=x6z))|refine x4e ?_ ?_)<;>conv=>whnf)
   all_goals first
    |exact Le.of_eq (by simp only[whO,avE,x4d,x3o,x3a];rfl)
  conv=>whnf
  repeat' ((first|(refine gX ?_;intros)|refine dA ?_|((first|apply bD|apply bE|apply bN|apply bB)<;>intro _<;>try omega))<;>conv=>whnf)
  all_goals first
   |exact nX (j+1,vs++nv,es++ne) ⟨g,sV.symm,sE.symm⟩
 rw[x4b g]at w d;clear G F;conv=>whnf
 repeat' ((first|(refine gX ?_;intros)|refine dA ?_|((first|apply bD|apply bE|apply bN|apply bB)<;>intro _<;>try omega))<;>conv=>whnf)
 refine lJ (fun j:Nat=>⟨[(4,.ptr 1 0),(63,.p (.sl (avV vs))),(64,.j vs.length),(65,.j j)],[(1,whO (QY p).cells (.p (eStrs R)) (.p (.sl (avV vs))) (.hd 3 0 es.length) (.p .nils) (.ext 0 .map) (.p .nils) (.p .nils)),(0,.ext (Jj vxV (lG (atV (vs.take j))))),(3,.own 43 9 (avE es))]⟩) (fun j=>j<=vs.length) (fun j=>vs.length-j) 0 (Hg (k:=2) (e:=27) (sz:=4) (es:=avV vs) rfl (.cons (.keep rfl) (.cons (.row (x3a _).symm) (.cons (.keep rfl) (.cons (.keep rfl) .nil)))) (.obj (by decide) (.cons (.keep rfl) (.cons (.keep rfl) (.cons (.row (x3a _).symm) (.cons (.keep rfl) (.cons (.keep rfl) (.cons (.keep rfl) (.cons (.keep rfl) (.cons (.keep rfl) .nil)))))))) (.ext (by decide) (.drop (.own (by decide) .nil))))) (x4j _) ?_;intro B Z;rcases x4f B vs.length with q|q
 .have Y:(avV vs)[B]?=some (.agg vs[B].cells):=by simp[avV,q]
  have c:=IW q;generalize vs[B]=v at Y c;generalize atV (vs.take B)=l at c⊢;conv=>whnf
  repeat' ((first|(refine gX ?_;intros)|refine dA ?_|refine iT Y ?_|refine Jl XM rfl rfl I3 rfl rfl (ks:=v) rfl (fun σ u h=>J9 (a:=v) h) rfl rfl rfl ?_|((first|apply bD|apply bE|apply bN|apply bB)<;>intro _<;>try omega))<;>conv=>whnf)
  all_goals first
   |exact⟨B+1,q,by omega,Le.of_eq (by rw[c,<-EA];rfl)⟩
 rw[x4b q];have hJ:=C6 i (eStrs R) vs (lG (atV vs)) es (by rw[w,<-o];exact q5e i) (by omega);have hjl:(es++vs.flatMap (jnV p)).length<=300000000:=by
  have:=XP (L8 p) vs;rw[x3o];omega
 have P:=Gt (es++vs.flatMap (jnV p)) (by rw[w,d,<-o];exact q3l i) (by omega);have M:DB (es++vs.flatMap (jnV p))=FT p:=by rw[w,d,<-o];rfl
 have C:=LI (es++vs.flatMap (jnV p));rw[M]at P C;have V:vs≠[]:=by rw[w,<-o];exact q1h p
 generalize es++vs.flatMap (jnV p)=es2 at*
 obtain⟨E,D⟩ : ∃E,FT p=E:=⟨_,rfl⟩;rw[D]at P C;conv=>whnf
 repeat' ((first|(refine gX ?_;intros)|((first|apply bD|apply bE|apply bN|apply bB)<;>intro _<;>try omega)|(refine cH [(1000,1),(2000,3),(1002,0)] 4 hJ ?_)|(refine cH [(1000,3)] 4 P ?_))<;>conv=>whnf)
 have I:(avE E).length=E.length:=x3a _;refine DrawK.le (s':=⟨[(4,.ptr 1 0)],[(1,whO (QY p).cells (.p (eStrs R)) (.p (.sl (avV vs))) (.p (.sl (avE E))) (.p .nils) (.ext 0 .map) (.p .nils) (.p .nils)),(0,.ext (Jj vxV (lG (atV vs))))]⟩) (Hg (k:=3) (e:=43) (sz:=9) (es:=avE E) rfl (.cons (.keep rfl) .nil) (.drop (.obj (by decide) (.cons (.keep rfl) (.cons (.keep rfl) (.cons (.keep rfl) (.cons (.row I.symm) (.cons (.keep rfl) (.cons (.keep rfl) (.cons (.keep rfl) (.cons (.keep rfl) .nil)))))))) (.ext (by decide) .nil)))) ?_;refine ZF ⟨[(4,.ptr 1 0)],[(1,whO (QY p).cells (.p (eStrs R)) (.p (.sl (avV vs))) (.p (.sl (avE E))) (.p .nils) (.ext 0 .map) (.hd 2 0 vs.length) (.hd 3 0 vs.length)),(0,.ext (Jj vxV (lG (atV vs)))),(2,.ext (.mat 183 185 2 (avA (List.replicate vs.length [])) [])),(3,.ext (.mat 183 185 2 (avA (List.replicate vs.length [])) []))]⟩ ?_ ?_
 .skip
  repeat' ((first|(refine gX ?_;intros)|refine dA ?_|refine x8a vs.length (by simp[avV]) (by show 24*vs.length<=140737488355328;omega) (by unfold maxLen;omega) ?_|((first|apply bD|apply bE|apply bN|apply bB)<;>intro _<;>try omega)|refine x4e ?_ ?_)<;>conv=>whnf)
  all_goals first
   |exact q2g
   |exact q7m
 conv=>whnf
 repeat' ((first|(refine gX ?_;intros)|refine dA ?_|((first|apply bD|apply bE|apply bN|apply bB)<;>intro _<;>try omega))<;>conv=>whnf)
 have H:=q9v V;have J:q3q p=Iq (QY p).cells R vs E (atV vs) (Yu vs.length (atV vs) E) (Yg vs.length (atV vs) E):=by rw[w,<-o,<-D];rfl
 rw[J];clear J;generalize atV vs=l at*
 refine lI (fun j:Nat=>⟨[(4,.ptr 1 0),(108,.p (.sl (avE E))),(109,.p (.int .i64 (avE E).length)),(110,.j j)],Iq (QY p).cells R vs E l (Yu vs.length l (E.take j)) (Yg vs.length l (E.take j))⟩) (fun j=>j<=E.length) (fun j=>E.length-j) 0 (x4j _) ?_;intro y h5;obtain⟨⟨n1,n2⟩,n3,n4⟩:=Pd vs.length l E y h5;rcases x4f y E.length with t|t
 .obtain ⟨s1,s2⟩:=So vs.length l t;have ge:(avE E)[y]?=some (.agg E[y].cells):=by simp[avE,t]
  generalize E[y]=e at ge s1 s2;generalize Yu vs.length l (E.take y)=N at*
  generalize Yg vs.length l (E.take y)=Q at*
  have hL:=Ix vs.length (QY p).cells (eStrs R) (.sl (avV vs)) (.sl (avE E)) l N Q e n1 n3 (H _) (H _) (by omega) (fun r K=>by have:=n2 r K;omega) (fun r K=>by have:=n4 r K;omega);conv=>whnf
  repeat' ((first|(refine gX ?_;intros)|refine dA ?_|refine iT ge ?_|((first|apply bD|apply bE|apply bN|apply bB)<;>intro _<;>try omega)|(refine cH [(1000,1),(1002,0),(2001,2),(2002,3)] 4 hL ?_))<;>conv=>whnf)
  all_goals first
   |exact⟨y+1,t,by omega,Le.of_eq (by rw[s1,s2];rfl)⟩
 rw[x4b t];conv=>whnf
 repeat' ((first|(refine gX ?_;intros)|refine dA ?_|((first|apply bD|apply bE|apply bN|apply bB)<;>intro _<;>try omega))<;>conv=>whnf)
 all_goals first
  |exact x6n _ (x4c _) ⟨rfl,rfl⟩
noncomputable def Eu(p:Pg):List Str:=if QL p=true then QH p else []
noncomputable def M7(p:Pg):List Vx:=if QL p=true then BZ p (QH p)else []
noncomputable def Nq(p:Pg):List Eg:=if QL p=true then FT p else []
def q1b(n:Nat)(b:List AV)(P V E:AV)(l:List (Vx×Nat))(N Q:List (List (Int×Int)))(v:Vx):
  aH 40 [.ptr 1000 0,.p (.agg v.cells)] (wlH n b P V E l N Q) (.p (.tup [.int .i64 (ixN l v:Nat),.bool (FY l v).isSome])) (wlH n b P V E l N Q):=by
 refine sK W5 func40 ?_;conv=>whnf
 repeat' ((first|(refine gX ?_;intros)|refine dA ?_|((first|apply bD|apply bE|apply bN|apply bB)<;>intro _<;>try omega)|refine TT rfl rfl rfl v rfl rfl rfl ?_)<;>conv=>whnf)
 all_goals first
  |exact x6n _ (x4c _) ⟨rfl,rfl⟩
def Nz(p:Pg)(l:Fit p):aP 17 [.agg p.cells] (eStrs (Eu p)):=by
 refine sC Mh func17 ?_;conv=>whnf
 cases h:QL p with
 | false=>
   have e:Eu p=[]:=by unfold Eu;rw[if_neg (by rw[h];decide)]
   rw[e];have i:=PW l h;repeat' ((first|(refine gX ?_;intros)|refine dA ?_|((first|apply bD|apply bE|apply bN|apply bB)<;>intro _<;>try omega)|(refine cH [] 0 i ?_ (hH:=x6z)))<;>conv=>whnf)
   all_goals first
    |exact⟨_,.p Sub.nils,rfl⟩
 | true=>
   have e:Eu p=QH p:=by unfold Eu;rw[if_pos h]
   rw[e];have i:=Qp l h;repeat' ((first|(refine gX ?_;intros)|refine dA ?_|((first|apply bD|apply bE|apply bN|apply bB)<;>intro _<;>try omega)|(refine cH [] 0 i ?_ (hH:=x6z)))<;>conv=>whnf)
   all_goals first
    |exact⟨_,.p (Sub.refl _),rfl⟩
def Zt(p:Pg)(l:Fit p):aP 11 [.agg p.cells] (.sl (avV (M7 p))):=by
 refine sC Jd func11 ?_;conv=>whnf
 cases h:QL p with
 | false=>
   have e:M7 p=[]:=by unfold M7;rw[if_neg (by rw[h];decide)]
   rw[e];have i:=PW l h;repeat' ((first|(refine gX ?_;intros)|refine dA ?_|((first|apply bD|apply bE|apply bN|apply bB)<;>intro _<;>try omega)|(refine cH [] 0 i ?_ (hH:=x6z)))<;>conv=>whnf)
   all_goals first
    |exact⟨_,.p Sub.nils,rfl⟩
 | true=>
   have e:M7 p=BZ p (QH p):=by unfold M7;rw[if_pos h]
   rw[e];have i:=Qp l h;repeat' ((first|(refine gX ?_;intros)|refine dA ?_|((first|apply bD|apply bE|apply bN|apply bB)<;>intro _<;>try omega)|(refine cH [] 0 i ?_ (hH:=x6z)))<;>conv=>whnf)
   all_goals first
    |exact⟨_,.p (Sub.refl _),rfl⟩
def Nx(p:Pg)(l:Fit p):aP 16 [.agg p.cells] (.sl (avE (Nq p))):=by
 refine sC Mg func16 ?_;conv=>whnf
 cases h:QL p with
 | false=>
   have e:Nq p=[]:=by unfold Nq;rw[if_neg (by rw[h];decide)]
   rw[e];have i:=PW l h;repeat' ((first|(refine gX ?_;intros)|refine dA ?_|((first|apply bD|apply bE|apply bN|apply bB)<;>intro _<;>try omega)|(refine cH [] 0 i ?_ (hH:=x6z)))<;>conv=>whnf)
   all_goals first
    |exact⟨_,.p Sub.nils,rfl⟩
 | true=>
   have e:Nq p=FT p:=by unfold Nq;rw[if_pos h]
   rw[e];have i:=Qp l h;repeat' ((first|(refine gX ?_;intros)|refine dA ?_|((first|apply bD|apply bE|apply bN|apply bB)<;>intro _<;>try omega)|(refine cH [] 0 i ?_ (hH:=x6z)))<;>conv=>whnf)
   all_goals first
    |exact⟨_,.p (Sub.refl _),rfl⟩
def q5z(p:Pg)(l:Fit p)(v:Vx):aP 12 [.agg p.cells,.agg v.cells] (.bool (decide (v∈M7 p))):=by
 refine sC Cu func12 ?_;conv=>whnf
 cases h:QL p with
 | false=>
   have e:M7 p=[]:=by unfold M7;rw[if_neg (by rw[h];decide)]
   rw[e];have i:=PW l h;repeat' ((first|(refine gX ?_;intros)|refine dA ?_|((first|apply bD|apply bE|apply bN|apply bB)<;>intro _<;>try omega)|(refine cH [] 0 i ?_ (hH:=x6z)))<;>conv=>whnf)
   all_goals first
    |exact RetK.ff (by simp)
 | true=>
   have e:M7 p=BZ p (QH p):=by unfold M7;rw[if_pos h]
   rw[e,<-q3k];have i:=Qp l h;repeat' ((first|(refine gX ?_;intros)|refine dA ?_|((first|apply bD|apply bE|apply bN|apply bB)<;>intro _<;>try omega)|(refine cH [] 0 i ?_ (hH:=x6z))|(refine cH [(1000,1),(1002,0),(2001,2),(2002,3)] 4 (q1b _ _ _ _ _ _ _ _ v) ?_))<;>conv=>whnf)
   all_goals first
    |exact⟨_,.p (Sub.refl _),rfl⟩
def NC(p:Pg)(o:Fit p)(h:Int):aP 15 [.agg p.cells,.int .i64 h] (.bool (Ng p h)):=by
 refine sC FB func15 ?_;conv=>whnf
 have i:=Bj p o;unfold Ng;cases l:QL p with
 | false=>
   rw[l]at i;repeat' ((first|(refine gX ?_;intros)|refine dA ?_|refine cP i ?_|((first|apply bD|apply bE|apply bN|apply bB)<;>intro _<;>try omega))<;>conv=>whnf)
   all_goals first
    |contradiction
    |exact RetK.ff rfl
 | true=>
   rw[l]at i;have n:=(XF l).2.2;repeat' ((first|(refine gX ?_;intros)|refine dA ?_|refine cP i ?_|refine cP (C1 p (by omega)) ?_ (ha:=.cons (Sub.refl _) .nil)|((first|apply bD|apply bE|apply bN|apply bB)<;>intro _<;>try omega))<;>conv=>whnf)
   all_goals first
    |contradiction
    |exact RetK.bool (by simp)
def TO{z:Bool}{s:St}{o:Oper}{K:LV->Prop}{x y:Operand}{u:TypeId}(n:o.op=.binOp .eql 27 x y u){a b:Vx}(c:QD s.sl x=.p (.agg a.cells))(d:QD s.sl y=.p (.agg b.cells))(v:K (.p (.bool (decide (a=b))))):ValO prog z s o K:=by
 refine⟨fun σ β q w t _=>⟨_,.bool (decide (a=b)),v,.p (.bool _),fun w' _ _=>?_⟩⟩;have i:=QX t x;have l:=QX t y;rw[c]at i;rw[d]at l;have i:q.eval x=vxV a:=by cases i with|p h=>exact J9 h
 have l:q.eval y=vxV b:=by cases l with|p h=>exact J9 h
 have r:(Op.equalIn 10000 27 (vxV a) (vxV b)).run prog w'=.ok (decide (a=b)) w':=V6 9998 a b w';unfold vxV at i l r;simp only[execOp,n,i,l,Sem.run_bind,run_eqGuard_agg _ _ _ _ _ _ _ (show prog.eqGuardType prog.depth 27=false by kernel_rfl),Result.andThen_ok,run_eql_struct,r,Sem.run_pure]
def HA(l:List Vx)(v:Vx):aP 13 [.sl (avV l),.agg v.cells] (.bool (l.any fun x=>decide (x=v))):=by
 refine sC MF func13 ?_;conv=>whnf
 repeat' ((first|(refine gX ?_;intros)|refine dA ?_|((first|apply bD|apply bE|apply bN|apply bB)<;>intro _<;>try omega))<;>conv=>whnf)
 have r:(avV l).length=l.length:=x3a _;refine lI (fun j:Nat=>⟨[(0,.p (.sl (avV l))),(3,.p (.ip v.cells)),(7,.p (.int .i64 (avV l).length)),(8,.j j)],[]⟩) (fun j=>j<=l.length/\(l.drop j).any (fun x=>decide (x=v))=l.any fun x=>decide (x=v)) (fun j=>l.length-j) 0 ⟨x4j _,rfl⟩ ?_;rintro j ⟨q,h⟩;rcases x4f j l.length with i|i;rotate_left 1
 .rw [x4l i]at h;conv=>whnf
  repeat' ((first|(refine gX ?_;intros)|refine dA ?_|((first|apply bD|apply bE|apply bN|apply bB)<;>intro _<;>try omega))<;>conv=>whnf)
  exact RetK.ff h.symm
 rw[x5j i,List.any_cons]at h;have o:(avV l)[j]?=some (.agg l[j].cells):=by simp[avV,i]
 conv=>whnf
 repeat' ((first|(refine gX ?_;intros)|refine dA ?_|refine iT o ?_|refine TO rfl (a:=l[j]) (b:=v) rfl rfl ?_|((first|apply bD|apply bE|apply bN|apply bB)<;>intro _<;>try omega))<;>conv=>whnf)
 all_goals first
  | (have n:l[j]=v:=by assumption
     exact RetK.tt (by rw[<-h,x5n n];rfl))
  | (have n:¬l[j]=v:=by assumption
     exact nX (j+1) ⟨i,by rw[<-h,x5r n];rfl⟩)
def HE(l:List Eg)(s:l.length<=1000000000)(k:Int):aP 33 [.sl (avE l),.int .i64 k] (.sl (avE (l.filter fun e=>decide (e.kind=k)))):=by
 refine sC MD func33 ?_;conv=>whnf
 repeat' ((first|(refine gX ?_;intros)|refine dA ?_|((first|apply bD|apply bE|apply bN|apply bB)<;>intro _<;>try omega))<;>conv=>whnf)
 have w:(avE l).length=l.length:=x3a _;refine lJ (fun x:Nat×List Eg=>⟨[(1,.j k),(5,.hd 0 0 x.2.length),(8,.p (.sl (avE l))),(9,.p (.int .i64 (avE l).length)),(10,.j x.1)],[(0,.own 43 9 (avE x.2))]⟩) (fun x=>x.1<=l.length/\x.2=(l.take x.1).filter (fun e=>decide (e.kind=k))/\x.2.length<=x.1) (fun x=>l.length-x.1) (0,[]) (lM [(0,.own 43 9 [])]) ⟨x4j _,rfl,x4m _⟩ ?_;rintro⟨j,h⟩ ⟨u,n,v⟩;simp only at u n v⊢;have o:(avE h).length=h.length:=x3a _;rcases x4f j l.length with i|i
 .have q:=x4k i;have t:(avE l)[j]?=some (.agg l[j].cells):=by simp[avE,i]
  conv=>whnf
  repeat' ((first|(refine gX ?_;intros)|refine dA ?_|refine iT t ?_|refine pA 1 104 o.symm ?_|((first|apply bD|apply bE|apply bN|apply bB)<;>intro _<;>try omega))<;>conv=>whnf)
  all_goals first
   | (have r:l[j].kind=k:=by assumption
      exact⟨(j+1,h++[l[j]]),⟨i,by simp only;rw[q,x6y,<-n];simp[r],by simp;omega⟩,by simp only;omega,Le.of_eq (by simp only[avE,x4d,x3o];rfl)⟩)
   | (have r:¬l[j].kind=k:=by assumption
      exact nX (j+1,h) ⟨i,by simp only;rw[q,x6y,<-n];simp[r],by simp only;omega⟩)
 rw[x4b i]at n;rw[<-n];conv=>whnf
 repeat' ((first|(refine gX ?_;intros)|refine dA ?_|((first|apply bD|apply bE|apply bN|apply bB)<;>intro _<;>try omega))<;>conv=>whnf)
 exact⟨_,.hd rfl o.symm,rfl⟩
def VZ:aP 7 [] .tt:=by
 have s:Eu someP=QH someP:=by unfold Eu;rw[if_pos HM]
 have l:M7 someP=BZ someP (QH someP):=by unfold M7;rw[if_pos HM]
 have h:Nq someP=FT someP:=by unfold Nq;rw[if_pos HM]
 have v:((Eu someP).map AV.str).length=2:=by rw[x3a,s,some_reach.length_eq];rfl
 have w:(avV (M7 someP)).length=20:=by unfold avV;rw[x3a,l,Ec]
 have x:(avE ((Nq someP).filter fun e=>decide (e.kind=4))).length=1:=by unfold avE;rw[x3a,h,SL]
 have y:(avE ((Nq someP).filter fun e=>decide (e.kind=6))).length=2:=by unfold avE;rw[x3a,h,Eo]
 have r:(Nq someP).length<=1000000000:=by
  rw[h];refine x5y (LI _) ?_;rw[x3o];have n:=He HM (QH someP) (ZS HM).2;have o:=XP (L8 someP) (BZ someP (QH someP));have i:=DL HM;have q:=Ec;omega
 have n:=Nz someP V4;have o:=Zt someP V4;have i:=q5z someP V4 ⟨pqS,2,7,[]⟩;rw[x5n (by rw[l];exact q0s)]at i;have q:=Nx someP V4;have t:=HE (Nq someP) r 4;have u:=HE (Nq someP) r 6;generalize Eu someP=Ps at*
 generalize M7 someP=Vs at*
 generalize(Nq someP).filter (fun e=>decide (e.kind=4))=E4 at*
 generalize(Nq someP).filter (fun e=>decide (e.kind=6))=E6 at*
 generalize Nq someP=Es at*
 refine sC FQ func7 ?_;conv=>whnf
 repeat' ((first|(refine gX ?_;intros)|refine dA ?_|refine cP Z5 ?_|refine cP n ?_|refine cP o ?_|refine cP i ?_|refine cP q ?_|refine cP t ?_|refine cP u ?_|((first|apply bD|apply bE|apply bN|apply bB)<;>intro _<;>try omega))<;>conv=>whnf)
 all_goals first
  |exact⟨_,.p (Mm rfl),rfl⟩
  |exact⟨_,.p (Mm (by simp[*])),rfl⟩
  |exact RetK.tt rfl
  |(exfalso;omega)
  |(exfalso;simp_all;done)
def q0g(h:QL p=true):(BZ p (QH p)).length<=1000000:=by
 have i:=TY h (QH p) (ZS h).2;have l:=DL h;omega
def q6v(F:Str->List Str):Nat->Nat->List Str->List Str
 |0,_,out=>out
 | m+1,k,out=>match out[k]?with
   |some n=>q6v F m (k+1) (XW out (F n))
   |none=>out
theorem E1(p:Pg):∀(m k:Nat)(out:List Str),rcL p m k out=q6v (FZ p) m k out
 |0,_,_=>rfl
 | m+1,k,out=>by
   rw[rcL,q6v];cases out[k]?with
   |none=>rfl
   |some n=>exact E1 p m _ _
theorem Ku{p:Pg}{F:Str->List Str}(w:∀n∈QK p,∀x∈F n,x∈QK p):∀(m k:Nat)(out:List Str),out.Nodup->(∀s∈out,s∈QK p)->k<=out.length->p.A.length<m+k->(∀i,i<k->∀n,out[i]?=some n->∀x∈F n,x∈out)->∀n∈q6v F m k out,∀x∈F n,x∈q6v F m k out
 | 0,k,out,h1,h2,h3,h4,_=>by
   have t:=YG h1 h2;have u:(QK p).length=p.A.length:=by simp[QK]
   omega
 | m+1,k,out,h1,h2,h3,h4,t=>by
   rw[q6v];cases q:out[k]?with
   | none=>
     have b:out.length<=k:=x8g.1 q;show ∀n∈out,∀x∈F n,x∈out;intro n o;obtain⟨i,l,rfl⟩:=x6u.1 o;exact t i (by omega) _ (x3e l)
   | some y=>
     have b:=(x4u.1 q).1;obtain⟨u,a,r,v⟩:=VT (F y) h1 h2 (w y (h2 y (x4p q)));refine Ku w m _ _ u a (by rw[v,x3o];omega) (by omega) fun i l n o x z=>?_;have h:out[i]?=some n:=by
      rw[v,x5i (by omega)]at o;exact o
     refine(JU _ _).2 ?_;rcases Nat.lt_succ_iff_lt_or_eq.1 l with l|rfl
     .exact .inl (t i l n h x z)
     .rw [q]at h;cases h;exact .inr z
def Ao(b:QL p=true){n x:Str}(r:n∈QK p)(h:x∈FZ p n):x∈US p n:=by
 obtain⟨k,q,t,_,a⟩:=JV r;have w:p.A[k]?=some p.A[k]:=x3e q;unfold FZ at h;rw[show Qm p n=(k:Nat)from t,x5u,VJ w]at h;obtain⟨it,o,rfl⟩:=x4y.1 h;obtain⟨o,l⟩:=x5h.1 o;have i:p.A.find? (fun f=>f.name==n)=some p.A[k]:=by
  obtain⟨z,y,u,v,_⟩:=JV r;have:k=z:=by omega
  subst this;exact v
 rw[By q i];unfold GK;exact UD.2 (XJ.2 (x4y.2 ⟨it.s,x5h.2 ⟨DY o,x5n (Mr l).1⟩,rfl⟩))
def L9(i:QL p=true){n x:Str}(l:n∈QK p)(h:x∈FZ p n):x∈QK p:=FL (QB i).2.1 (Ao i l h)
def N5(o:QL p=true):∀n∈QH p,∀x∈FZ p n,x∈QH p:=by
 intro n h x l;unfold QH at h⊢;rw[XJ,E1]at h⊢;exact Ku (fun n h x l=>L9 o h l) _ 0 [mainS] (by simp) (by simpa using Lz o) (x4j _) (by omega) (fun i q=>absurd q (Nat.not_lt_zero i)) n h x l
def IT(h:QL p=true):(FT p).length<=1000000000:=by
 refine x5y (LI _) ?_;rw[x3o];have i:=He h (QH p) (ZS h).2;have l:=XP (L8 p) (BZ p (QH p));have n:=DL h;have o:=q0g h;omega
def IB{O:List (List Str)}{t:S}{n:Str}(i:n∈FR (bkO p O) t):n∈ZP t\/n=[]\/n=JE\/n=retS\/(t.kind=4/\n∈caO (bkO p O) t/\comB p n=true):=by
 have l:t.kind≠10->t.name∈ZP t\/t.name=[]:=fun o=>by
  by_cases r:t.name=[]
  .exact .inr r
  left;unfold ZP DF;have:(decide (t.kind≠10) && !(t.name==[]))=true:=by simp[o,r]
  rw[this];simp
 unfold FR at i;split at i
 .rename_i v;rw[x4w.1 i];exact(l (by omega)).elim .inl fun h=>.inr (.inl h)
 split at i
 .rename_i v;rcases x4v.1 i with rfl|i
  .exact (l (by omega)).elim .inl fun h=>.inr (.inl h)
  .exact .inr (.inr (.inl (x4w.1 i)))
 split at i
 .exact .inr (.inr (.inr (.inl (x4w.1 i))))
 split at i
 .rename_i u;unfold Iw at i;rcases x4g.1 i with i|i
  .rcases x4g.1 i with i|i
   .split at i
    .cases i
    .rename_i q;rw[x4w.1 i];exact .inl ((l (by omega)).resolve_right q)
   .obtain ⟨x,y,s,rfl⟩:=Q6.1 i;have w:x.1∈t.args:=(List.of_mem_zip (x8n y)).1;refine .inl ?_;unfold ZP;refine x6f _ (x4a.2 ⟨x.1,w,?_⟩);unfold JR;rw[s.1];simp
  .exact .inr (.inr (.inr (.inr ⟨u,(x5h.1 i).1,(x5h.1 i).2⟩)))
 .cases i
def Bb(q:QL p=true)(i:p.A[k]?=some f):p.A.find? (fun g=>g.name==f.name)=some f:=by
 obtain⟨r,h,_,l,o⟩:=JV (p:=p) (n:=f.name) (x4y.2 ⟨f,x4p i,rfl⟩);obtain⟨_,rfl⟩:=OA q (x3e h) i o;exact l
def Sa(h:QL p=true)(l:p.A[k]?=some f){t:S}(n:t∈flL f.body){v:Str}(o:v∈ZP t)(i:v∈p.F):v∈Je p f.name:=by
 unfold Je;rw[Bb h l];refine x4a.2 ⟨t,n,x5h.2 ⟨o,x6s.2 ⟨v,i,by simp⟩⟩⟩
def IP(h:QL p=true)(l:p.A[k]?=some f)(i:it∈itsOf p k f)(O:List (List Str)):LW (dfB p O) it.s.id=VK (FR (bkO p O) it.s):=by
 unfold LW dfB;rw[x3i,x4q,Ok h l i];rfl
def EH:isName JE=false:=by decide
def E7:isName retS=false:=by decide
theorem Tq{p:Pg}(n:QL p=true):∀(m k:Nat),k<p.A.length->∀v∈(itO p m).getD k [],v∈p.F->v∈KS p (prA p k).name
 | 0,k,hk,v,l,_=>by
   unfold itO at l;rw[x3i,x5v]at l;split at l<;>cases l
 | m+1,k,hk,v,l,hg=>by
   have t:=ZG hk;have z:=(QB n).2.1;have u:(prA p k).name∈QK p:=x4y.2 ⟨_,x4p t,rfl⟩;have l:v∈(otB p (dfB p (itO p m))).getD k []:=l;obtain⟨it,y,_,e,_⟩:=(Fb hk).1 l;rw[IP n t y,XA]at e;have i:=LF n hg;have r:=DY y;rcases IB e with h|rfl|rfl|rfl|⟨b,w,_⟩
   .exact (Um z u).2 ⟨_,.refl,Sa n t r h hg⟩
   .exact absurd rfl (AJ i)
   .rw [EH]at i;cases i
   .rw [E7]at i;cases i
   .obtain ⟨c,o,g,_,a,_⟩:=ME n (HS t y) b;have w:v∈(itO p m).getD (caI p it.s).toNat []:=w;rw[g,x5u]at w;have d:=Tq n m c o v w hg;rw[a]at d;have x:it.s.C∈QK p:=x4y.2 ⟨_,x4p (ZG o),a⟩;obtain⟨q,B,D⟩:=(Um z x).1 d;refine(Um z u).2 ⟨q,Rch.trans (.tail .refl ?_) B,D⟩;show it.s.C∈US p (prA p k).name;unfold US;rw[Bb n t];unfold GK;exact UD.2 (XJ.2 (x4y.2 ⟨it.s,x5h.2 ⟨r,x5n b⟩,rfl⟩))
theorem HB{w:Str}{T:List Str}:∀(l:List Arg)(seen:List Str),ZL w T l seen=true->(∀a∈l,a.ref=true->a.name≠w/\a.name∉T/\a.name∉seen)/\l.Pairwise (fun a b=>a.ref=true->b.ref=true->a.name≠b.name)
 |[],_,_=>⟨fun _ h=>(nomatch h),.nil⟩
 | a::r,seen,h=>by
   rw[ZL]at h;cases u:a.ref with
   | false=>
     rw[u,x5q]at h;obtain⟨o,v⟩:=HB r seen h;refine⟨fun b n i=>?_,x6t.2 ⟨fun b _ h=>absurd h (by rw[u];decide),v⟩⟩;rcases x4v.1 n with rfl|n
     .rw [u]at i;cases i
     .exact o b n i
   | true=>
     rw[u,x4s]at h;cases q:(seen.any fun s=>a.name==s)||((a.name==w)||T.any fun s=>a.name==s)with
     |true=>rw[q,x4s]at h;cases h
     | false=>
       rw[q,x5q]at h;obtain⟨o,v⟩:=HB r (seen++[a.name]) h;simp only[x8p,List.any_eq_false,x9c,x8u]at q;refine⟨fun b n i=>?_,x6t.2 ⟨fun b n _ i x=>(o b n i).2.2 (x6f _ (by rw[x];exact x4w.2 rfl)),v⟩⟩;rcases x4v.1 n with rfl|n
       .exact ⟨q.2.1,fun t=>q.2.2 _ t rfl,fun t=>q.1 _ t rfl⟩
       .exact ⟨(o b n i).1,(o b n i).2.1,fun t=>(o b n i).2.2 (x5c _ t)⟩
def q1t{t:S}{O:List Str}{n:Str}(h:n∈O)(l:n≠retS):n∈clO t O:=by
 have i:n∈slO O:=XJ.2 (x5c _ h);unfold clO;split
 .exact x5h.2 ⟨i,by simpa using l⟩
 .exact i
def q7g(c:QL p=true)(Z:p.A[k]?=some f)(K:it∈itsOf p k f){t:Str}(l:t∈FR (bkO p (QY p).za) it.s):gvS p f.name it.s it.s.id t∈ZR p k f (bI p) (bO p):=by
 unfold gvS;by_cases E:it.s.kind=4;rotate_left 1
 .rw [if_pos E];exact QE.2 (.inr (.inr (.inr ⟨it,K,.inl rfl⟩)))
 rw[if_neg (fun h=>h E)];obtain⟨g,J,hgi,hal,U⟩:=GO c (HS Z K) E;have T:=(x4u.1 J).1;have hpg:prG p (cIx p it.s)=g:=by unfold prG;rw[J];rfl
 have eP:caP p it.s=g:=by
  show p.A.getD (cIx p it.s) Pr0=g;rw[x3i,J];rfl
 have hf:=x4p Z;have Y:=DY K;have V:∀v∈bO p (cIx p it.s),v∈p.F->v∈KS p it.s.C:=fun v L hvg=>by
  obtain⟨m,hm⟩:=(WH c).za;have u:v∈(itO p m).getD (cIx p it.s) []:=by rw[<-hm];exact L
  have:=Tq c m (cIx p it.s) T v u hvg;rw[VJ J,U]at this;exact this
 obtain⟨_,_,R,_,H⟩:=QB c;obtain⟨F1,F2⟩:=HB _ _ ((Cs R).1 H it.s (HS Z K) E);have l:t∈Iw p it.s (caP p it.s) (bO p (cIx p it.s)):=by
  unfold FR at l;rw[if_neg (by omega),if_neg (by omega),if_neg (by omega),if_pos E]at l;exact l
 rw[eP]at l;have I:∀v,comB p v=true->v≠[]/\v≠retS:=fun v L=>by
  rcases MO.1 L with rfl|L
  .exact ⟨by decide,by decide⟩
  .have:=LF c L;exact⟨AJ this,fun h=>by rw[h,E7]at this;cases this⟩
 have Q:∀a∈it.s.args,a.ref=true->isName a.name=true:=fun a ha hr=>Ym c hf Y (by
  unfold ZP;refine x6f _ (x4a.2 ⟨a,ha,?_⟩);unfold JR;rw[hr];simp)
 have hpn:∀q∈g.B,isName q.name=true:=fun q N=>BE c (x4p J) (x5c _ (x7g N));have D:∀n∈clO it.s (bO p (cIx p it.s)),(⟨f.name,6,it.s.id,n⟩:Vx)∈ZR p k f (bI p) (bO p):=fun n hn=>QE.2 (.inr (.inr (.inr ⟨it,K,.inr ⟨E,.inr ⟨n,hn,rfl⟩⟩⟩)));have o:(it.s.name=t/\it.s.name≠[])\/(∃j,∃(u:j<it.s.args.length) (w:j<g.B.length),it.s.args[j].ref=true/\it.s.args[j].name=t/\g.B[j].name∈bO p (cIx p it.s))\/(t∈bO p (cIx p it.s)/\comB p t=true):=by
  unfold Iw at l;rcases x4g.1 l with l|l
  .rcases x4g.1 l with l|l
   .split at l
    .cases l
    .rename_i e;exact .inl ⟨(x4w.1 l).symm,e⟩
   .obtain ⟨x,hx,⟨hr,ho⟩,hn⟩:=Q6.1 l;obtain⟨j,hjl,he⟩:=x6u.1 (x8n hx);rw[List.length_zip]at hjl;rw[List.getElem_zip]at he;subst he;exact .inr (.inl ⟨j,by omega,by omega,hr,hn,ho⟩)
  .exact .inr (.inr ⟨(x5h.1 l).1,(x5h.1 l).2⟩)
 by_cases r:it.s.name=t
 .rw [if_pos r];refine D _ ?_;have e:it.s.name≠[]:=by
   rcases o with h|⟨j,u,w,y,h5,_⟩|h
   .exact h.2
   .exact absurd (h5.trans r.symm) (F1 _ (x4h u) y).1
   .rw [r];exact(I _ h.2).1
  unfold clO;rw[if_neg e];exact XJ.2 (x6f _ (x4w.2 rfl))
 rw[if_neg r];have o:=o.resolve_left fun h=>r h.1;cases N:it.s.args.findIdx? fun a=>a.ref&&(a.name==t)with
 | some j=>
   obtain⟨u,w,_⟩:=x8b.1 N;rw[x4n]at w;obtain⟨w,y⟩:=w;have y:it.s.args[j].name=t:=by simpa using y
   have G:j<g.B.length:=by omega
   simp only;rw[hpg,show((g.B.map Param.name)[j]?).getD []=g.B[j].name by simp[G]];refine D _ (q1t ?_ fun h=>?_)
   .rcases o with⟨i,b,M,O,P,i5⟩|⟨b,M⟩
    .rcases Nat.lt_trichotomy i j with d|rfl|d
     .exact absurd (P.trans y.symm) (x7i.1 F2 i j b u d O w)
     .exact i5
     .exact absurd (y.trans P.symm) (x7i.1 F2 j i u b d w O)
    .exfalso;have z:=Q _ (x4h u) w;rcases MO.1 M with h|h
     .rw [y,h,EH]at z;cases z
     .exact (F1 _ (x4h u) w).2.1 (by rw[y];exact V t b h)
   .have:=hpn _ (x4h G);rw[h,E7]at this;cases this
 | none=>
   simp only;rcases o with⟨i,b,M,O,P,i5⟩|⟨b,M⟩
   .have:=x9y.1 N _ (x4h b);rw[O,P]at this;simp at this
   .exact D _ (q1t b (I _ M).2)
def O9(l:QL p=true)(n:p.A[k]?=some f){s:Fl}(z:s∈FE p k f):gvP p f.name s.src s.var∈ZR p k f (bI p) (bO p):=by
 obtain⟨o,c,a,y,x,h,rfl,b⟩:=BM z;show gvP p f.name (QF p k (QJ f.body+2:Nat) a) o∈_;unfold Uj Iu at h;by_cases t:a=0
 .subst t;rw[if_pos rfl,XA]at h;rw[show QF p k (QJ f.body+2:Nat) ((0:Nat):Int)=0 from rfl];unfold gvP;rw[if_pos rfl];exact QE.2 (.inr (.inl ⟨o,XJ.2 h,rfl⟩))
 rw[if_neg t]at h;by_cases u:a=QJ f.body+1
 .rw [if_pos u]at h;cases h
 rw[if_neg u]at h;obtain⟨it,w,v⟩:=GM n (k:=QS p.A k+a-1) (by omega) (by omega);have q:=V3 l n (by omega) (by omega) w;have r:QF p k (QJ f.body+2:Nat) a=it.s.id:=by
  rw[q];unfold QF loI;rw[if_neg (by omega),if_neg (by omega)];omega
 rw[r];have e:gvP p f.name it.s.id o=gvS p f.name it.s it.s.id o:=by
  unfold gvP Li;rw[if_neg (by omega),Ok l n v];rfl
 rw[e];refine q7g l n v ?_;cases i:(QQ p k f).live.getD a false with
 |false=>rw[i]at h;cases h
 | true=>
   rw[i,x4s,(WH l).M]at h;unfold dfB at h;rw[x3i,x4q,w]at h;exact XA.1 h
def RR(i:QL p=true)(h:p.A[k]?=some f){b:Int}(o:(QS p.A k:Int)+1<=b)(q:b<=(QS p.A k+QJ f.body:Nat)):∃it∈itsOf p k f,it.s.id=b:=by
 obtain⟨it,n,l⟩:=GM h (k:=(b-1).toNat) (by omega) (by omega);exact⟨it,l,by rw[V3 i h (by omega) (by omega) n];omega⟩
def EZ{I O:Nat->List Str}(h:it∈itsOf p k f):(⟨f.name,2,it.s.id,[]⟩:Vx)∈ZR p k f I O:=QE.2 (.inr (.inr (.inr ⟨it,h,.inl rfl⟩)))
def EG(o:QL p=true)(r:p.A[k]?=some f){s:Fl}(G:s∈FE p k f):∀v∈tkP p f.name (bI p) s.dst s.var,v∈ZR p k f (bI p) (bO p):=by
 have z:=(FA o r G).2.2;obtain⟨d,c,a,y,H,F,rfl,l⟩:=BM G;intro v i;have i:v∈tkP p f.name (bI p) (QF p k (QJ f.body+2:Nat) c) d:=i;by_cases D:c=QJ f.body+1
 .subst D;have e:QF p k (QJ f.body+2:Nat) (QJ f.body+1:Nat) = -1:=by
   unfold QF;rw[if_neg (by omega),if_pos (by omega)]
  rw[e]at i;unfold tkP at i;rw[if_pos rfl]at i;rw[x4w.1 i];unfold q2t q1x at l;rw[if_pos rfl,XA]at l;exact QE.2 (.inr (.inr (.inl ⟨d,XJ.2 l,rfl⟩)))
 .by_cases C:c=0
  .subst C;unfold q2t q1x at l;rw[if_neg (by omega),if_pos rfl]at l;cases l
  obtain⟨it,q,I⟩:=Ft o r C D y;rw[I]at i;obtain⟨m,O,_,_⟩:=G0 o r q;unfold tkP Li at i;rw[if_neg (by omega),Ok o r q]at i;have i:v∈tkS p f.name it.s it.s.id d (bI p (cIx p it.s)):=i;unfold tkS at i;by_cases x:it.s.kind=4;rotate_left 1
  .rw [if_pos x]at i;rw[x4w.1 i];exact EZ q
  rw[if_neg (fun h=>h x)]at i;obtain⟨g,F,J,E,K⟩:=GO o (HS r q) x;have u:prG p (cIx p it.s)=g:=by unfold prG;rw[F];rfl
  have w:∀n∈bI p (cIx p it.s)++g.B.map Param.name,(⟨f.name,5,it.s.id,n⟩:Vx)∈ZR p k f (bI p) (bO p):=fun n M=>QE.2 (.inr (.inr (.inr ⟨it,q,.inr ⟨x,.inl ⟨n,by rw[u];exact XJ.2 M,rfl⟩⟩⟩)));rcases x4g.1 i with i|i
  .obtain ⟨j,b,i⟩:=x4a.1 i;have L:=x5a.1 b;unfold NS at i;split at i
   .rw [x4w.1 i,u];have t:j<g.B.length:=by omega
    refine w _ (x6f _ ?_);rw[show((g.B.map Param.name)[j]?).getD []=g.B[j].name by simp[t]];exact x7g (x4h t)
   .cases i
  .split at i
   .rename_i N;rw[x4w.1 i];exact w _ (x5c _ (HU.1 N.2))
   .cases i
def IR(l:QL p=true)(o:p.A[k]?=some f):∀e∈Xx p k f (bI p) (bO p) (IF (QQ p k f) f (QJ f.body+2)) (FE p k f),e.G∈ZR p k f (bI p) (bO p)/\e.to∈ZR p k f (bI p) (bO p):=by
 intro e h;have r:(⟨f.name,1,0,[]⟩:Vx)∈ZR p k f (bI p) (bO p):=QE.2 (.inl rfl);unfold Xx at h;rcases x4g.1 h with h|h
 .rcases x4g.1 h with h|h
  .obtain ⟨⟨a,b⟩,D,rfl⟩:=x4y.1 h;obtain⟨i,q,H,t,g,_⟩:=(q3n l o).1 D;have B:=(Hf l o g).2.2.1;have C:(⟨f.name,2,b,[]⟩:Vx)∈ZR p k f (bI p) (bO p):=by
    rcases q with q|q|⟨q,y⟩
    .omega
    .omega
    .obtain ⟨it,u,rfl⟩:=RR l o q y;exact EZ u
   refine⟨?_,C⟩;show(ite _ _ _:Vx)∈_;split
   .exact r
   .rename_i d;rcases i with i|i|⟨i,x⟩
    .exact absurd i d
    .exact absurd i B
    .obtain ⟨it,u,h⟩:=RR l o i x;have:=EZ (I:=bI p) (O:=bO p) u;rw[h]at this;exact this
  .obtain ⟨v,w,h⟩:=x4a.1 h;have w:v∈ZR p k f (bI p) (bO p):=(x6a _ _).mem_iff.1 w;unfold vxE at h;split at h
   .rw [x4w.1 h];exact⟨r,w⟩
   split at h
   .rename_i z;rw[x4w.1 h];refine⟨?_,w⟩;rcases QE.1 w with rfl|⟨n,_,rfl⟩|⟨n,_,rfl⟩|⟨it,u,rfl|⟨_,⟨n,_,rfl⟩|⟨n,_,rfl⟩⟩⟩
    .exact absurd z (by simp)
    .exact absurd z (by simp)
    .exact absurd z (by simp)
    all_goals exact EZ u
   .cases h
 .obtain ⟨s,c,h⟩:=x4a.1 h;unfold flE at h;obtain⟨F,E,rfl⟩:=x4y.1 h;exact⟨O9 l o c,EG l o c F E⟩
def q3r(w:QL p=true):∀e∈FT p,e.G∈BZ p (QH p)/\e.to∈BZ p (QH p):=by
 intro e l;have i:∀n∈QH p,∀(k:Nat),Qm p n=(k:Nat)->∀v∈ZR p k (prA p k) (bI p) (bO p),v∈BZ p (QH p):=fun n q k a v t=>KD.2 ⟨n,q,by rw[a,x5u];exact t⟩;unfold FT at l;rw[WF]at l;rcases x4g.1 l with l|l
 .obtain ⟨n,q,l⟩:=x4a.1 l;obtain⟨k,a,r,D⟩:=YW ((ZS w).2 n q);rw[r,x5u]at l;obtain⟨E,x⟩:=IR w (ZG a) e (WF.1 l);exact⟨i n q k r _ E,i n q k r _ x⟩
 .obtain ⟨v,t,l⟩:=x4a.1 l;obtain⟨n,q,t⟩:=KD.1 t;obtain⟨k,a,r,D⟩:=YW ((ZS w).2 n q);rw[r,x5u]at t;have B:=ZG a;obtain⟨it,z,y,h⟩:=(P9 w B).1 ⟨v,t,l⟩;have x:=(Mr y).1;obtain⟨g,A,c,_,u⟩:=GO w (HS B z) x;have d:prG p (cIx p it.s)=g:=by unfold prG;rw[A];rfl
  have F:it.s.C∈QH p:=N5 w n q _ (by
   unfold FZ;rw[r,x5u];exact x4y.2 ⟨it,x5h.2 ⟨z,y⟩,rfl⟩)
  have o:∀v∈ZR p (cIx p it.s) g (bI p) (bO p),v∈BZ p (QH p):=fun v t=>i _ F (cIx p it.s) c v (by rw[VJ A];exact t);rcases h with rfl|⟨s,b,rfl⟩|⟨s,b,rfl⟩
  .exact ⟨i n q k r _ (EZ z),o _ (QE.2 (.inl (by rw[u])))⟩
  .exact ⟨i n q k r _ (QE.2 (.inr (.inr (.inr ⟨it,z,.inr ⟨x,.inl ⟨s,b,rfl⟩⟩⟩)))),o _ (QE.2 (.inr (.inl ⟨s,by rw[<-d];exact b,by rw[u]⟩)))⟩
  .exact ⟨o _ (QE.2 (.inr (.inr (.inl ⟨s,Mt b,by rw[u]⟩)))),i n q k r _ (QE.2 (.inr (.inr (.inr ⟨it,z,.inr ⟨x,.inr ⟨s,b,rfl⟩⟩⟩))))⟩
def Rc(i:QL p=true){e:Eg}(h:e∈FT p)(t:e.kind<=2):∃n∈QH p,∃k:Nat,k<p.A.length/\Qm p n=(k:Nat)/\(prA p k).name=n/\EgP (prA p k) e/\e∈CR p k:=by
 unfold FT at h;rw[WF]at h;rcases x4g.1 h with h|h
 .obtain ⟨n,q,h⟩:=x4a.1 h;obtain⟨k,l,o,u⟩:=YW ((ZS i).2 n q);rw[o,x5u]at h;exact⟨n,q,k,l,o,u,Wf i (ZG l) (fun s w=>(FA i (ZG l) w).1) e (WF.1 h),h⟩
 .exfalso;obtain⟨v,r,h⟩:=x4a.1 h;obtain⟨n,q,r⟩:=KD.1 r;obtain⟨k,l,o,_⟩:=YW ((ZS i).2 n q);rw[o,x5u]at r;obtain⟨it,_,_,rfl|⟨s,_,rfl⟩|⟨s,_,rfl⟩⟩:=(P9 i (ZG l)).1 ⟨v,r,h⟩
  .exact absurd t (by simp)
  .exact absurd t (by simp)
  .exact absurd t (by simp)
def CM(l:QL p=true){e:Eg}(n:e∈FT p)(i:e.kind<=2):e.G.C=e.to.C:=by
 obtain⟨_,_,_,_,_,_,h,_⟩:=Rc l n i;rw[h.1,h.2.1]
def Xd(n:Str)(e:Eg):Bool:=decide (e.G.C=n)&&decide (e.kind<=2)
def Oi(l:QL p=true){n:Str}(u:n∈QH p)(A:Qm p n=(k:Nat)):(FT p).filter (Xd n)=CR p k:=by
 refine Wi (R:=fun x y:Eg=>egC x y<0) Ma (fun a b c=>Rr) ((BA _).filter _) (BA _) fun e=>?_;rw[x5h];unfold Xd;rw[x4n,x8q,x8q];constructor
 .rintro ⟨o,v,w⟩;obtain⟨D,B,r,i,z,q,d,g⟩:=Rc l o w;have:D=n:=by rw[<-q,<-d.1,v]
  subst this;have:r=k:=by omega
  subst this;exact g
 .intro o;obtain⟨r,i,z,q⟩:=YW ((ZS l).2 n u);have:r=k:=by omega
  subst this;have t:=Wf l (ZG i) (fun s C=>(FA l (ZG i) C).1) e (WF.1 o);refine⟨?_,by rw[t.1,q],by rcases t.2.2.2.2 with h|h<;>omega⟩;unfold FT;rw[WF];exact x5c _ (x4a.2 ⟨n,u,by rw[A,x5u];exact o⟩)
def Sd(a b:Vx):Bool:=if a.C≠b.C then Op.bytesLess a.C b.C else if a.kind≠b.kind then decide (a.kind<b.kind)else if a.id≠b.id then decide (a.id<b.id)else Op.bytesLess a.slot b.slot
def Bu(a b:Str):Op.bytesLess a b=decide (cmpT a b<0):=by
 rw[x8s,x8q];exact(KX a b).symm
def Pw(a b:Vx):Sd a b=decide (vxC a b<0):=by
 rw[R5];unfold Sd lexV x2d x2f vxK;simp only[cmpT_k.zero,cmpI_k.zero];by_cases i:a.C=b.C
 .rw [if_neg (fun h=>h i),if_pos i];by_cases l:a.kind=b.kind
  .rw [if_neg (fun h=>h l),if_pos l];by_cases n:a.id=b.id
   .rw [if_neg (fun h=>h n),if_pos n];exact Bu _ _
   .rw [if_pos n,if_neg n];exact decide_eq_decide.2 (KQ _ _).symm
  .rw [if_pos l,if_neg l];exact decide_eq_decide.2 (KQ _ _).symm
 .rw [if_pos i,if_neg i];exact Bu _ _
def Fg(a b:Eg):Bool:=if a.G≠b.G then Sd a.G b.G else if a.to≠b.to then Sd a.to b.to else decide (a.kind<b.kind)
def Aa(a b:Eg):Fg a b=decide (egC a b<0):=by
 have n:∀x y:Vx,vxK x=vxK y↔x=y:=fun x y=>⟨Dq,fun h=>by rw[h]⟩;rw[Me];unfold Fg lexE x2b egK;simp only[lexV_k.zero,n];by_cases i:a.G=b.G
 .rw [if_neg (fun h=>h i),if_pos i];by_cases l:a.to=b.to
  .rw [if_neg (fun h=>h l),if_pos l];exact decide_eq_decide.2 (KQ _ _).symm
  .rw [if_pos l,if_neg l,Pw,R5]
 .rw [if_pos i,if_neg i,Pw,R5]
def CN(p:Pg){i:Nat}(h:i+1<(FT p).length):Fg ((FT p)[i]'(by omega)) (FT p)[i+1]=true:=by
 rw[Aa];exact x5n (x7i.1 (BA _) i (i+1) (by unfold FT at h;omega) (by unfold FT at h;exact h) (by omega))
def Vd{z:Bool}{s:St}{o:Oper}{K:LV->Prop}{x y:Operand}{u:TypeId}(n:o.op=.binOp .neq 27 x y u){a b:Vx}(c:QD s.sl x=.p (.agg a.cells))(d:QD s.sl y=.p (.agg b.cells))(v:K (.p (.bool (!decide (a=b))))):ValO prog z s o K:=by
 refine⟨fun σ β q w t _=>⟨_,.bool (!decide (a=b)),v,.p (.bool _),fun w' _ _=>?_⟩⟩;have i:=QX t x;have l:=QX t y;rw[c]at i;rw[d]at l;have i:q.eval x=vxV a:=by cases i with|p h=>exact J9 h
 have l:q.eval y=vxV b:=by cases l with|p h=>exact J9 h
 have r:(Op.equalIn 10000 27 (vxV a) (vxV b)).run prog w'=.ok (decide (a=b)) w':=V6 9998 a b w';unfold vxV at i l r;simp only[execOp,n,i,l,Sem.run_bind,run_eqGuard_agg _ _ _ _ _ _ _ (show prog.eqGuardType prog.depth 27=false by kernel_rfl),Result.andThen_ok,run_neq_struct,r,Sem.run_pure]
def KB(a b:Vx):aP 70 [.agg a.cells,.agg b.cells] (.bool (Sd a b)):=by
 refine sC PU func70 ?_;conv=>whnf
 repeat' ((first|(refine gX ?_;intros)|refine dA ?_|((first|apply bD|apply bE|apply bN|apply bB)<;>intro _<;>try omega))<;>conv=>whnf)
 all_goals first
  |exact RetK.bool (by unfold Sd;simp_all[ltT];done)
def FU(a b:Eg):aP 41 [.agg a.cells,.agg b.cells] (.bool (Fg a b)):=by
 refine sC GX func41 ?_;conv=>whnf
 have h:=KB a.G b.G;have i:=KB a.to b.to;repeat' ((first|(refine gX ?_;intros)|refine dA ?_|refine Vd rfl (a:=a.G) (b:=b.G) rfl rfl ?_|refine Vd rfl (a:=a.to) (b:=b.to) rfl rfl ?_|refine cP h ?_|refine cP i ?_|((first|apply bD|apply bE|apply bN|apply bB)<;>intro _<;>try omega))<;>conv=>whnf)
 all_goals first
  |exact RetK.p (by unfold Fg;simp_all;done)
  |exact RetK.bool (by unfold Fg;simp_all;done)
def FV(a b:Eg):aP 19 [.agg a.cells,.agg b.cells] (.bool (Fg a b)):=by
 refine sC GQ func19 ?_;conv=>whnf
 have h:=FU a b;repeat' ((first|(refine gX ?_;intros)|refine dA ?_|refine cP h ?_|((first|apply bD|apply bE|apply bN|apply bB)<;>intro _<;>try omega))<;>conv=>whnf)
 all_goals first
  |exact RetK.p rfl
def BY(l m:List Eg):aP 20 [.sl (avE l),.sl (avE m)] (.bool (decide (l=m))):=by
 refine sC GA func20 ?_;conv=>whnf
 have v:(avE l).length=l.length:=x3a _;have w:(avE m).length=m.length:=x3a _;repeat' ((first|(refine gX ?_;intros)|refine dA ?_|((first|apply bD|apply bE|apply bN|apply bB)<;>intro _<;>try omega))<;>conv=>whnf)
 rotate_left 1
 .exact RetK.ff (x5r fun h=>by subst h;omega)
 refine lI (fun j:Nat=>⟨[(0,.p (.sl (avE l))),(1,.p (.sl (avE m))),(12,.p (.int .i64 (avE l).length)),(13,.j j)],[]⟩) (fun j=>j<=l.length/\l.take j=m.take j) (fun j=>l.length-j) 0 ⟨x4j _,rfl⟩ ?_;rintro j ⟨u,q⟩;have t:l.length=m.length:=by omega
 rcases x4f j l.length with n|n;rotate_left 1
 .rw [x4b n,x4b (by omega)]at q;conv=>whnf
  repeat' ((first|(refine gX ?_;intros)|refine dA ?_|((first|apply bD|apply bE|apply bN|apply bB)<;>intro _<;>try omega))<;>conv=>whnf)
  exact RetK.tt (x5n q)
 have r:(avE l)[j]?=some (.agg l[j].cells):=by simp[avE,n]
 have o:j<m.length:=by omega
 have s:(avE m)[j]?=some (.agg m[j].cells):=by simp[avE,o]
 conv=>whnf
 repeat' ((first|(refine gX ?_;intros)|refine dA ?_|refine iT r ?_|refine iT s ?_|refine Vf rfl (a:=l[j]) (b:=m[j]) rfl rfl ?_|((first|apply bD|apply bE|apply bN|apply bB)<;>intro _<;>try omega))<;>conv=>whnf)
 all_goals first
  | (have i:¬l[j]=m[j]:=by assumption
     exact RetK.ff (x5r fun h=>i (by subst h;rfl)))
  | (have i:l[j]=m[j]:=by assumption
     exact nX (j+1) ⟨n,by rw[x4k n,x4k o,q,i]⟩)
  | (have i:¬l[j]=m[j]:=by simpa using(show(!decide (l[j]=m[j]))=true by assumption)
     exact RetK.ff (x5r fun h=>i (by subst h;rfl)))
def OT(p:Pg)(q:Fit p)(l:QL p=true)(n:Str)(k:Nat)(t:Qm p n=(k:Nat)):aP 42 [.agg p.cells,.str n] (.tup [.ip (QY p).cells,.int .i64 k]):=by
 refine sC TP func42 ?_;conv=>whnf
 have o:=(F8 p q).mono (R':=fun r=>r=.ip (QY p).cells) fun r u=>u.1 l;have i:(QY p).s.p=p:=by rw[(WH l).s];exact(QU p).1
 have h:aP 65 [.ip (QY p).s.cells,.str n] (.int .i64 (k:Nat)):=by
  have:=ZD (QY p).s n;rw[i,show idxF (fun f=>f.name==n) p.A=(k:Nat)from t]at this;exact this
 repeat' ((first|(refine gX ?_;intros)|refine dA ?_|refine cP o ?_|refine cP h ?_|((first|apply bD|apply bE|apply bN|apply bB)<;>intro _<;>try omega))<;>conv=>whnf)
 all_goals first
  |exact RetK.p rfl
  |(exfalso;omega)
def AE(p:Pg)(l:Fit p)(i:QL p=true)(n:Str)(k:Nat)(h:k<p.A.length)(r:Qm p n=(k:Nat)):aP 21 [.agg p.cells,.str n] (.sl (avE (CR p k))):=by
 refine sC Mj func21 ?_;conv=>whnf
 have o:=OT p l i n k r;have q:=Gs l i h;repeat' ((first|(refine gX ?_;intros)|refine dA ?_|refine cP o ?_|((first|apply bD|apply bE|apply bN|apply bB)<;>intro _<;>try omega)|(refine cH [] 0 q ?_ (hH:=x6z)))<;>conv=>whnf)
 all_goals first
  |exact⟨_,.p (Sub.refl _),rfl⟩
theorem SpecP.lit{P:Program}{f:FuncId}{args:List AV}{b:Bool}(h:SpecP P f args (fun r=>r=.bool b))(y:b=true):SpecP P f args (fun r=>r=.tt):=
 ⟨h.go,fun σ w o q t v=>(h.ok σ w o q t v).mono fun e w' ⟨c,u,σ',z,x,i,l⟩=>⟨.tt,u,σ',z,rfl,by subst x y;cases i;exact .tt,l⟩⟩
def q1n{V:List Vx}{v:Vx}(h:v∈V):(V.any fun x=>decide (x=v))=true:=x6s.2 ⟨v,h,x5n rfl⟩
def BU(p:Pg)(n:Int):aP 4 [.agg p.cells,.int .i64 n] .tt:=by
 refine sC GC func4 ?_;conv=>whnf
 cases r:q1e p with
 | false=>
   have hno:¬gPg p<=20000:=by unfold q1e at r;simpa using r
   repeat' ((first|(refine gX ?_;intros)|refine cP (YH _) ?_|refine dA ?_|refine cP VZ ?_|((first|apply bD|apply bE|apply bN|apply bB)<;>intro _<;>try omega))<;>conv=>whnf)
   all_goals first
    |exact⟨_,.p (Sub.refl _),rfl⟩
    |(exfalso;simp_all;done)
 | true=>
   have C:Fit p:=q6o r;have D:gPg p<=20000:=by unfold q1e at r;simpa using r
   have z:=NC p C 30;cases I:Ng p 30 with
   | false=>
     rw[I]at z;repeat' ((first|(refine gX ?_;intros)|refine cP (YH _) ?_|refine dA ?_|refine cP VZ ?_|refine cP z ?_|((first|apply bD|apply bE|apply bN|apply bB)<;>intro _<;>try omega))<;>conv=>whnf)
     all_goals first
      |exact⟨_,.p (Sub.refl _),rfl⟩
      |(exfalso;simp_all;done)
   | true =>
     rw[I]at z;have t:QL p=true:=Ef I;have z:=z.lit rfl;have R:=Zt p C;have J:=Nx p C;have N:=Nz p C;have eV:M7 p=BZ p (QH p):=by unfold M7;rw[if_pos t]
     have eE:Nq p=FT p:=by unfold Nq;rw[if_pos t]
     have eP:Eu p=QH p:=by unfold Eu;rw[if_pos t]
     rw[eV]at R;rw[eE]at J;rw[eP]at N;have hel:=IT t;have O:=DL t;have Q:0<(QH p).length:=x9h (G4 p);have F:=(ZS t).2;have P:((QH p).map AV.str).length=(QH p).length:=x3a _;have A:=Wu n ((QH p).length:Int) (by omega);have Y:=T4 (n:=n) (show(0:Int)<((QH p).length:Int) by omega);have v:(Ss n (QH p).length).toNat<(QH p).length:=by omega
     have gR:((QH p).map AV.str)[(Ss n (QH p).length).toNat]?=some (.str (QH p)[(Ss n (QH p).length).toNat]):=by simp[v]
     obtain⟨k,hk,b,Z⟩:=YW (F _ (x4h v));have B:=AE p C t _ k hk b;have s:=Oi t (x4h v) b;have H:∀i (h:i+1<(FT p).length),Fg ((FT p)[i]'(Nat.lt_of_succ_lt h)) ((FT p)[i+1]'h)=true:=fun i h=>CN p h;have q:=q3r t;have w:=fun e he y=>CM t (e:=e) he y;generalize(QH p)[(Ss n (QH p).length).toNat]=nm at*
     generalize BZ p (QH p)=V at*
     generalize FT p=E at*
     generalize CR p k=K at*
     repeat' ((first|(refine gX ?_;intros)|refine cP (YH _) ?_|refine dA ?_|refine cP VZ ?_|refine cP z ?_|refine cP R ?_|refine cP J ?_|refine cP N ?_|refine cP A ?_|refine iT gR ?_|((first|apply bD|apply bE|apply bN|apply bB)<;>intro _<;>try omega))<;>conv=>whnf)
     all_goals try exact⟨_,.p (Sub.refl _),rfl⟩
     all_goals try (exfalso;omega)
     clear N A gR z R J I D F P Y v Z Q O eV eE eP b hk;have hEm:(avE E).length=E.length:=x3a _;refine lJ (fun x:Nat×List Eg=>⟨[(2,.p (.ip p.cells)),(5,.p (.sl (avV V))),(6,.p (.sl (avE E))),(8,.p (.str nm)),(9,.hd 0 0 x.2.length),(36,.p (.sl (avE E))),(37,.p (.int .i64 (avE E).length)),(38,.j x.1)],[(0,.own 43 9 (avE x.2))]⟩) (fun x=>x.1<=E.length/\x.2=(E.take x.1).filter (Xd nm)/\x.2.length<=x.1) (fun x=>E.length-x.1) (0,[]) (lM [(0,.own 43 9 [])]) ⟨x4j _,rfl,x4m _⟩ ?_;rintro⟨j,l⟩ ⟨h1,y,h3⟩;simp only at h1 y h3⊢;have a:(avE l).length=l.length:=x3a _;rcases x4f j E.length with u|u;rotate_left 1
     .rw [x4b u,s]at y;subst y;have L:=(BY l l).lit (x5n rfl);conv=>whnf
      repeat' ((first|(refine gX ?_;intros)|refine dA ?_|refine cP B ?_|(refine KI L (.cons (.hd rfl a.symm) (.cons (.p (Sub.refl _)) .nil)) ?_;rintro _ rfl)|((first|apply bD|apply bE|apply bN|apply bB)<;>intro _<;>try omega))<;>conv=>whnf)
      all_goals first
       |exact⟨_,.p (Sub.refl _),rfl⟩
     have gE:(avE E)[j]?=some (.agg E[j].cells):=by simp[avE,u]
     have o:(E.take (j+1)).filter (Xd nm)=l++if Xd nm E[j]=true then [E[j]]else []:=by
      rw[x4k u,x6y,<-y,x9v];split<;>rfl
     obtain⟨v1,v2⟩:=q E[j] (x4h u);have d:=(HA V E[j].G).lit (q1n v1);have g:=(HA V E[j].to).lit (q1n v2);have hpc:=w E[j] (x4h u);clear q w s B y;rcases Nat.eq_zero_or_pos j with T|T
     .generalize E[j]=e at*
      conv=>whnf
      repeat' ((first|(refine gX ?_;intros)|refine dA ?_|refine iT gE ?_|refine cP d ?_|refine cP g ?_|refine pA 1 104 a.symm ?_|((first|apply bD|apply bE|apply bN|apply bB)<;>intro _<;>try omega))<;>conv=>whnf)
      all_goals first
       | (have c:Xd nm e=true:=by unfold Xd;simp_all;done
          rw[if_pos c]at o;exact⟨(j+1,l++[e]),⟨u,o.symm,by simp;omega⟩,by simp only;omega,Le.of_eq (by simp only[avE,x4d,x3o];rfl)⟩)
       | (have c:Xd nm e=false:=by unfold Xd;simp_all;done
          rw[if_neg (by rw[c];decide),x5m]at o;exact nX (j+1,l) ⟨u,o.symm,by simp only;omega⟩)
       |(exfalso;simp_all;done)
     .have U:j-1+1=j:=by omega
      have hL:Fg (E[j-1]'(by omega)) E[j]=true:=by
       have:=H (j-1) (by omega);simp only[U]at this;exact this
      have M:=(FV (E[j-1]'(by omega)) E[j]).lit hL;have gP:(avE E)[j-1]?=some (.agg (E[j-1]'(by omega)).cells):=by simp[avE,show j-1<E.length by omega]
      generalize E[j-1]'(by omega)=e0 at*
      generalize E[j]=e at*
      conv=>whnf
      repeat' ((first|(refine gX ?_;intros)|refine dA ?_|refine iT gE ?_|refine iT gP ?_|refine cP d ?_|refine cP g ?_|refine cP M ?_|refine pA 1 104 a.symm ?_|((first|apply bD|apply bE|apply bN|apply bB)<;>intro _<;>try omega))<;>conv=>whnf)
      all_goals first
       | (have c:Xd nm e=true:=by unfold Xd;simp_all;done
          rw[if_pos c]at o;exact⟨(j+1,l++[e]),⟨u,o.symm,by simp;omega⟩,by simp only;omega,Le.of_eq (by simp only[avE,x4d,x3o];rfl)⟩)
       | (have c:Xd nm e=false:=by unfold Xd;simp_all;done
          rw[if_neg (by rw[c];decide),x5m]at o;exact nX (j+1,l) ⟨u,o.symm,by simp only;omega⟩)
       |(exfalso;simp_all;done)
end Go.Ab
