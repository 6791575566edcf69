/- The reference's jumps; all that must hold of a program: just what the program checks. -/
import Derived.Test.YtgljdhjopolmcaaGreatRcA18
set_option linter.all false
set_option maxRecDepth 100000
set_option maxHeartbeats 16000000
open List (Nodup length)
namespace Go.Ab
open Go.Proofs.Tryz
open Go.Proofs
variable {a b:Step}{i:Nat}{m:List Int}
def TZ(L:List RI)(f:Pr)(x:RI):Bool:=if x.s.kind=7\/x.s.kind=8 then(Sf L.reverse x.s.id).2 else if x.s.kind=10 then inS (Fi f) x.s.name else true
def x3f(f:Pr)(n:Str):(atB f n).2=inS (Fi f) n:=by
 rw[z4z,XP];unfold atB Fi;rw[z0o,z1c];cases q:(flL f.body).find? fun t=>t.E.any fun s=>n==s with
 | some t=>
   have l:=z3b q;have o:=z4a q;obtain⟨s,r,k⟩:=z3z.1 o;have k:n=s:=eq_of_beq k;exact⟨fun _=>.inl ⟨t,l,k▸r⟩,fun _=>rfl⟩
 | none=>
   have l:=z3l.1 q;have o:¬∃a∈flL f.body,n∈a.E:=fun⟨t,w,v⟩=>l t w (z3z.2 ⟨n,v,z4p n⟩);cases u:f.fin.any fun s=>n==s with
   | true=>
     obtain⟨s,r,k⟩:=z3z.1 u;have k:n=s:=eq_of_beq k;exact⟨fun _=>.inr (k▸r),fun _=>rfl⟩
   | false=>
     refine⟨fun h=>by simp at h,fun h=>?_⟩;rcases h with h|h
     .exact absurd h o
     .have:=z5e.1 u n h;simp at this
def Ee{p:Pg}(h:UG p=true){j:Nat}{f:Pr}(u:p.A[j]?=some f):NV p j f↔(∀x∈flatU f,TZ (flatU f) f x=true)/\(Fi f).Nodup:=by
 have key:∀it∈itsOf p j f,∀x∈flatU f,x.s=it.s->TZ (flatU f) f x=YG f it:=fun it k x l o=>by
  unfold TZ YG;rw[o,Ht h u k,x3f];congr 1;by_cases r:it.loop=0<;>simp[r]
 unfold NV;refine and_congr_left fun _=>⟨fun q x l=>?_,fun q it k=>?_⟩
 .have t:x.s∈flL f.body:=by
   rw[<-show(flatU f).map RI.s=flL f.body from NN 1 0 false f.body];exact z1z.2 ⟨x,l,rfl⟩
  obtain⟨it,k,o⟩:=x0e (p:=p) (j:=j) t;rw[key it k x l o.symm];exact q it k
 .obtain ⟨x,l,o⟩:=Ki (X2 k);rw[<-key it k x l o];exact q x l
def OW(f:Pr):Fi f=(flatU f).flatMap (fun x=>x.s.E)++f.fin:=by
 unfold Fi;rw[<-show(flatU f).map RI.s=flL f.body from NN 1 0 false f.body,List.flatMap_map]
def Uh(p:Pg)(hf:Fit p)(J:UG p=true):SpecP prog 175 [.agg p.cells] (fun r=>fltR (∀j f,p.A[j]?=some f->NV p j f) r):=by
 refine sC Qc func175 ?_;conv=>whnf
 obtain⟨hg,hpl,hcn⟩:=ZR J;have hpll:(p.A.map fun f=>AV.agg f.cells).length=p.A.length:=z0s _;repeat' ((refine iM fun _=>?_)<;>conv=>whnf)
 refine lI (fun j:Nat=>⟨[(2,.ptr 1 0),(13,.p (.sl (p.A.map fun f=>.agg f.cells))),(14,.p (.int .i64 (p.A.map fun f=>AV.agg f.cells).length)),(15,.j j)],[(1,.obj 68 [.p (.int .i64 0),.j 0])]⟩) (fun j=>j<=p.A.length/\∀k f,k<j->p.A[k]?=some f->NV p k f) (fun j=>p.A.length-j) 0 ⟨z1q _,fun k f h=>absurd h (z8g _)⟩ ?_;rintro j ⟨h2,h3⟩;rcases z1w j p.A.length with V|V;rotate_left 1
 .conv=>whnf
  repeat' ((first|refine z1s rfl ?_|(apply bD<;>intro _<;>try omega))<;>conv=>whnf)
  exact ZH ⟨fun _ k f v=>h3 k f (by have:=(z1k.1 v).1;omega) v,fun _=>rfl⟩
 have o:=z1h V;obtain⟨w1,w2,w3,w4⟩:=A8 hf o;have hwp:=hf.pr o;have u:p.A[j]?=some p.A[j]:=z0c V;have hF:=XU p.A[j];rw[VL J o]at hF;have hrl:(flatU p.A[j]).length<=200:=by rw[show flatU p.A[j]=fuL 1 0 false p.A[j].body from rfl,UU];have:=UC _ _ o;omega
 have w:∀x∈flatU p.A[j],x.s.E.length<=21000:=fun x hx=>by
  have Z:x.s∈flL p.A[j].body:=by
   rw[<-show(flatU p.A[j]).map RI.s=flL p.A[j].body from NN 1 0 false _];exact z1z.2 ⟨_,hx,rfl⟩
  have C:=Hn _ _ Z;have D:=R8 x.s;have h6:=PC x.s.E;unfold wPr at hwp;omega
 have F:=Zl p.A[j] (by rw[VL J o];exact w) w3;rw[VL J o,<-OW]at F;have q:¬NV p j p.A[j]->¬∀j f,p.A[j]?=some f->NV p j f:=fun h h2=>h (h2 j _ u);have t:NV p j p.A[j]->∀k f,k<j+1->p.A[k]?=some f->NV p k f:=fun h k f v g=>by
  rcases z1w k j with C|C
  .exact h3 k f C g
  .obtain rfl:k=j:=by omega
   rw[u]at g;exact z3q g▸h
 rw[Ee J u]at q t;have I:=OW p.A[j];have Y:∀x,TZ (flatU p.A[j]) p.A[j] x=if x.s.kind=7\/x.s.kind=8 then(Sf (flatU p.A[j]).reverse x.s.id).2 else if x.s.kind=10 then inS (Fi p.A[j]) x.s.name else true:=fun x=>rfl;have Q:=fun id=>HC (flatU p.A[j]) id;have T:=fun x=>QF (Fi p.A[j]) x;generalize TZ (flatU p.A[j]) p.A[j]=ld at*
 generalize flatU p.A[j]=L at*
 generalize Fi p.A[j]=LB at*
 have hLl:=WU L;conv=>whnf
 repeat' ((first|(refine gX ?_;intros)|refine cP hF ?_|(apply bD<;>intro _<;>try omega))<;>conv=>whnf)
 refine lJ (fun x:Nat×List Str=>⟨[(2,.ptr 1 0),(4,.p (.ip p.A[j].cells)),(5,.hd 0 0 x.2.length),(6,.p (VY L)),(13,.p (.sl (p.A.map fun f=>.agg f.cells))),(14,.p (.int .i64 (p.A.map fun f=>AV.agg f.cells).length)),(15,.j j),(21,.p (VY L)),(22,.p (.int .i64 (L.map fun i=>AV.agg i.cells).length)),(23,.j x.1)],[(0,.own 9 1 (x.2.map .str)),(1,.obj 68 [.p (.int .i64 0),.j 0])]⟩) (fun x=>x.1<=L.length/\x.2=(L.take x.1).flatMap (fun x=>x.s.E)/\x.2.length<=21000*x.1/\x.2.Nodup/\∀y∈L.take x.1,ld y=true) (fun x=>L.length-x.1) (0,[]) (lM [(0,.own 9 1 [])]) ⟨z1q _,by simp,by simp,by simp,fun y h=>by rw[z5f]at h;cases h⟩ ?_;rintro⟨k,l⟩ ⟨C,D,h6,h7,M⟩;simp only at C D h6 h7 M⊢;rcases z1w k L.length with v|v
 .have hlk:=w _ (z1h v);have O:(L.take (k+1)).flatMap (fun x=>x.s.E)=l++L[k].s.E:=by rw[z1y v,z3g,<-D];simp
  have hT:=ZA (l++L[k].s.E);have P:=Q L[k].s.id;have R:=T L[k].s.name;have z:=Y L[k];have c:LB.Nodup->(l++L[k].s.E).Nodup:=fun h=>by
   rw[I,<-z6i (k+1) L,z3g,O,z1m]at h;exact(z3v.1 h).1
  have B:∀{d:Int}{H:Heap},(ld L[k]=false\/XS (l++L[k].s.E)=true)->RetK H (.p (.agg [.int .i64 7,.int .i64 d])) (fun r=>fltR (∀j f,p.A[j]?=some f->NV p j f) r):=fun h=>by
   refine ZH ⟨fun h=>by omega,fun U=>absurd U (q fun⟨N,e⟩=>?_)⟩;rcases h with h|h
   .rw [N _ (z1h v)]at h;cases h
   .rw [WC.2 (c e)]at h;cases h
  have K:ld L[k]=true->∀y∈L.take (k+1),ld y=true:=fun h y hy=>by
   rcases(QO v).1 hy with N|rfl
   .exact M y N
   .exact h
  rw[<-WC]at c;rw[show eStrs (l++L[k].s.E)=AV.sl (l.map .str++L[k].s.E.map .str) by unfold eStrs;rw[z1v]]at hT;generalize G:l++L[k].s.E=al at hT B O;have hall:al.length=l.length+L[k].s.E.length:=by rw[<-G];simp
  generalize(Sf L.reverse L[k].s.id).2=ar at*
  conv=>whnf
  repeat' ((first|refine dA ?_|(refine gX ?_;intros)|refine XM _ (by simp) (by simp;omega) ?_|(refine QB hT (.cons (.hd rfl (by simp)) .nil) (by rintro _ rfl;rfl) ?_;rintro _ rfl)|refine cP P ?_|refine cP F ?_|refine cP R ?_|refine cP (XW 7 _) ?_|((first|apply bD|apply bN|apply bB)<;>intro _<;>try omega))<;>conv=>whnf)
  all_goals first
   |exact B (.inr (by assumption))
   | (refine B (.inl ?_)
      rw[z];simp_all
      done)
   | (refine⟨(k+1,al),⟨by simp only;omega,by simp only;rw[O],by simp only;omega,WC.1 (by assumption),K ?_⟩,by simp only;omega,Le.of_eq (by subst G;simp only[z0e,z1v,z0s];rfl)⟩
      rw[z];simp_all
      done)
 .rw [z1f v]at D M;have e2:LB=l++p.A[j].fin:=by rw[I,<-D]
  have hT:=ZA (l++p.A[j].fin);rw[show eStrs (l++p.A[j].fin)=AV.sl (l.map .str++p.A[j].fin.map .str) by unfold eStrs;rw[z1v]]at hT;conv=>whnf
  repeat' ((first|refine gX ?_|refine XM _ (by simp) (by simp;omega) ?_|(refine QB hT (.cons (.hd rfl (by simp)) .nil) (by rintro _ rfl;rfl) ?_;rintro _ rfl)|refine cP (XW 7 0) ?_|((first|apply bD|apply bB)<;>intro _<;>try omega))<;>conv=>whnf)
  all_goals first
   | (refine ZH ⟨fun h=>by omega,fun U=>absurd U (q fun⟨N,e⟩=>?_)⟩
      rw[e2,<-WC]at e;simp_all
      done)
   | (refine nX (j+1) ⟨by omega,t ⟨M,?_⟩⟩
      rw[e2,<-WC];assumption)
theorem fltR.yes{P:Prop}{r:AV}(h:fltR P r)(l:P):∃d,r=MP 0 d:=by
 obtain⟨c,d,rfl,h⟩:=h;rw[h.2 l];exact⟨d,rfl⟩
theorem fltR.no{P:Prop}{r:AV}(h:fltR P r)(l:¬P):∃c d,c≠0/\r=MP c d:=by
 obtain⟨c,d,rfl,h⟩:=h;exact⟨c,d,fun e=>l (h.1 e),rfl⟩
def Km(p:Pg)(w:Fit p):SpecP prog 104 [.agg p.cells] (fun r=>fltR (QM p=true) r):=by
 refine sC Wv func104 ?_;conv=>whnf
 have q:=Uy p w;by_cases l:(XZ p).1=0;rotate_left 1
 .have q:=q.mono fun r h=>h.no l;have k:¬QM p=true:=fun h=>l (Mj.1 h).2.1;repeat' ((first|refine z1s rfl ?_|(refine CallK.pure q (.cons (Sub.refl _) .nil) ?_;rintro _ ⟨c,d,t,rfl⟩)|(apply bD<;>intro _<;>try omega))<;>conv=>whnf)
  all_goals first
   |(exfalso;omega)
   |exact ZH ⟨fun h=>absurd h t,fun h=>absurd h k⟩
 have q:=q.mono fun r h=>h.yes l;have x:=(UA l).1;have o:=Uk p x;rw[<-Hx l]at o;by_cases ha:(YZ p).1=0;rotate_left 1
 .have o:=o.mono fun r h=>h.no ha;have k:¬QM p=true:=fun h=>ha (Mj.1 h).2.2.1;repeat' ((first|refine z1s rfl ?_|(refine CallK.pure q (.cons (Sub.refl _) .nil) ?_;rintro _ ⟨d0,rfl⟩)|(refine CallK.pure o (.cons (Sub.refl _) .nil) ?_;rintro _ ⟨c,d,t,rfl⟩)|(apply bD<;>intro _<;>try omega))<;>conv=>whnf)
  all_goals first
   |(exfalso;omega)
   |exact ZH ⟨fun h=>absurd h t,fun h=>absurd h k⟩
 have o:=o.mono fun r h=>h.yes ha;have s:=Uh p w x;rw[<-q4e l]at s;by_cases v:(X3 p).1=0;rotate_left 1
 .have s:=s.mono fun r h=>h.no v;have k:¬QM p=true:=fun h=>v (Mj.1 h).2.2.2.1;repeat' ((first|refine z1s rfl ?_|(refine CallK.pure q (.cons (Sub.refl _) .nil) ?_;rintro _ ⟨d0,rfl⟩)|(refine CallK.pure o (.cons (Sub.refl _) .nil) ?_;rintro _ ⟨d1,rfl⟩)|(refine CallK.pure s (.cons (Sub.refl _) .nil) ?_;rintro _ ⟨c,d,t,rfl⟩)|(apply bD<;>intro _<;>try omega))<;>conv=>whnf)
  all_goals first
   |(exfalso;omega)
   |exact ZH ⟨fun h=>absurd h t,fun h=>absurd h k⟩
 have s:=s.mono fun r h=>h.yes v;have hT:=LN p w l ((Hx l).1 ha);rw[<-IX ha]at hT;have u:QM p=true↔(DO p).1=0:=by
  rw[Mj];exact⟨fun h=>h.2.2.2.2,fun h=>⟨x,l,ha,v,h⟩⟩
 repeat' ((first|refine z1s rfl ?_|(refine CallK.pure q (.cons (Sub.refl _) .nil) ?_;rintro _ ⟨d0,rfl⟩)|(refine CallK.pure o (.cons (Sub.refl _) .nil) ?_;rintro _ ⟨d1,rfl⟩)|(refine CallK.pure s (.cons (Sub.refl _) .nil) ?_;rintro _ ⟨d2,rfl⟩)|(refine CallK.pure hT (.cons (Sub.refl _) .nil) ?_;rintro _ ⟨c,d,rfl,t⟩)|(apply bD<;>intro _<;>try omega))<;>conv=>whnf)
 all_goals first
  |(exfalso;omega)
  |exact ZH (t.trans u.symm)
def VQ(p:Pg)(k:Fit p):aP 49 [.agg p.cells] (.bool (QM p)):=by
 refine sC Qn func49 ?_;conv=>whnf
 repeat' ((refine CallK.pure (Km p k) (.cons (Sub.refl _) .nil) ?_;rintro _ ⟨c,d,rfl,h⟩)<;>conv=>whnf)
 all_goals
  refine RetK.bool ?_;first
  |rw[z4z,z4n];exact h
  |rw[z4z,z2z];exact h
def FM(l:List RI)(id:Int):aP 318 [VY l,.int .i64 id] (.agg (itemR l id).cells):=by
 refine sC Q9 func318 ?_;conv=>whnf
 refine iM fun _=>?_;have t:=WU l;conv=>whnf
 refine lI (fun k:Nat=>⟨[(1,.j id),(4,.ptr 0 0),(7,.p (VY l)),(8,.p (.int .i64 (l.map fun i=>AV.agg i.cells).length)),(9,.j k)],[(0,.obj 152 [.p (.int .i64 0),.j 0,.p .nils,.p (.str []),.p (.str []),.j 0,.j 0,.p (.str []),.p .nils,.p .ff,.p .nils,.p .nils,.p .nils,.j 0,.j 0,.p .ff])]⟩) (fun k=>k<=l.length/\(l.drop k).find? (fun x=>decide (x.s.id=id))=l.find? fun x=>decide (x.s.id=id)) (fun k=>l.length-k) 0 ⟨z1q _,rfl⟩ ?_;rintro k ⟨u,h⟩;rcases z1w k l.length with q|q;rotate_left 1
 .rw [z1b q,List.find?_nil]at h;have r:itemR l id=RI0:=by unfold itemR;rw[<-h];rfl
  rw[r];conv=>whnf
  repeat' ((first|refine z1s rfl ?_|(apply bD<;>intro _<;>try omega))<;>conv=>whnf)
  exact⟨_,.p x2v,rfl⟩
 rw[T5 q]at h;conv=>whnf
 repeat' ((first|(refine gX ?_;intros)|(apply bD<;>intro _<;>try omega))<;>conv=>whnf)
 .have o:l[k].s.id=id:=by assumption
  rw[if_pos (z2t o)]at h;have r:itemR l id=l[k]:=by unfold itemR;rw[<-h];rfl
  rw[r];exact⟨_,.p (Sub.refl _),rfl⟩
 .have o:¬l[k].s.id=id:=by assumption
  rw[if_neg (by simpa using o)]at h;exact nX (k+1) ⟨q,h⟩
def J4(l:List RI)(x:RI)(c:l.length<=1000000):aP 319 [VY l,.agg x.cells] (QG (stdR l x)):=by
 refine sC Xf func319 ?_;conv=>whnf
 refine iM fun _=>?_;have z:=WU l;have t:stdR l x=(l.filter (inI x.O x.M)).map fun y=>y.s.id:=rfl;rw[t];conv=>whnf
 refine lJ (fun q:Nat×List Int=>⟨[(3,.p (.ip x.cells)),(5,.hd 0 0 q.2.length),(8,.p (VY l)),(9,.p (.int .i64 (l.map fun i=>AV.agg i.cells).length)),(10,.j q.1)],[(0,.own 3 1 (q.2.map (.int .i64)))]⟩) (fun q=>q.1<=l.length/\q.2=((l.take q.1).filter (inI x.O x.M)).map (fun y=>y.s.id)/\q.2.length<=q.1) (fun q=>l.length-q.1) (0,[]) (lM [(0,.own 3 1 [])]) ⟨z1q _,by simp,by simp⟩ ?_;rintro⟨j,h⟩ ⟨v,k,w⟩;simp only at v k w⊢;rcases z1w j l.length with r|r
 .have u:=z1y r;have o:inI x.O x.M l[j]=(decide (l[j].O=x.O)&&(l[j].M==x.M)):=rfl;conv=>whnf
  repeat' ((first|(refine gX ?_;intros)|refine pI ?_|refine Jj ZI rfl rfl rfl rfl rfl ?_|(apply bD<;>intro _<;>try omega))<;>conv=>whnf)
  all_goals first
   |exact⟨(j+1,h++[l[j].s.id]),⟨by simp only;omega,by simp only;rw[u,z2j,z1v,<-k,z2m (by rw[o];simp_all)];rfl,by simp;omega⟩,by simp only;omega,Le.of_eq (by simp only[z0e,z1v];rfl)⟩
   |exact nX (j+1,h) ⟨by simp only;omega,by simp only;rw[u,z2j,z1v,<-k,z2n (by rw[o];simp_all)];simp,by simp only;omega⟩
 .rw [z1f r]at k;subst k;conv=>whnf
  repeat' (apply bD<;>intro _<;>first|omega|conv=>whnf)
  exact⟨_,.hd rfl (by simp),rfl⟩
def WN(l:List RI)(id:Int)(e:Bool)(o:Int):aP 261 [VY l,.int .i64 id,.bool e,.int .i64 o] (.int .i64 (x0m l id e o)):=by
 refine sC NE func261 ?_;conv=>whnf
 refine iM fun _=>?_;have s:=WU l;conv=>whnf
 refine lI (fun k:Nat=>⟨[(1,.j id),(2,.p (.bool e)),(3,.j o),(11,.p (VY l)),(12,.p (.int .i64 (l.map fun i=>AV.agg i.cells).length)),(13,.j k)],[]⟩) (fun k=>k<=l.length/\(l.drop k).find? (inI id e)=l.find? (inI id e)) (fun k=>l.length-k) 0 ⟨z1q _,rfl⟩ ?_;rintro k ⟨t,h⟩;rcases z1w k l.length with q|q;rotate_left 1
 .rw [z1b q,List.find?_nil]at h;conv=>whnf
  repeat' (apply bD<;>intro _<;>first|omega|conv=>whnf)
  exact RetK.int (by unfold x0m;rw[<-h];rfl)
 rw[T5 q]at h;have r:inI id e l[k]=(decide (l[k].O=id)&&(l[k].M==e)):=rfl;rw[r]at h;conv=>whnf
 repeat' ((first|(refine gX ?_;intros)|refine Jj ZI rfl rfl rfl rfl rfl ?_|(apply bD<;>intro _<;>try omega))<;>conv=>whnf)
 all_goals first
  | (rw[if_pos (by simp_all)]at h
     exact RetK.int (by unfold x0m;rw[<-h];rfl))
  | (rw[if_neg (by simp_all)]at h
     exact nX (k+1) ⟨q,h⟩)
def C4{r:List Int}{id:Int}(h:i+1<r.length):nextIn (r.drop i) id=if r[i]=id then some r[i+1]else nextIn (r.drop (i+1)) id:=by
 rw[z2v (show i<r.length by omega),z2v h];rfl
def ED{r:List Int}{id:Int}(h:r.length<=i+1):nextIn (r.drop i) id=none:=by
 rcases z1w i r.length with k|k
 .rw [z2v k,z1b h];rfl
 .rw [z1b k];rfl
def XE(l:List RI)(e:l.length<=1000000)(id v:Int)(k:nextIn (stdR l (itemR l id)) id=some v\/(nextIn (stdR l (itemR l id)) id=none/\(((itemR l id).O=0/\v = -1)\/((itemR l id).O≠0/\(itemR l (itemR l id).O).s.kind=6/\v=(itemR l id).O)\/((itemR l id).O≠0/\(itemR l (itemR l id).O).s.kind≠6/\aP 293 [VY l,.int .i64 (itemR l id).O] (.int .i64 v))))):aP 293 [VY l,.int .i64 id] (.int .i64 v):=by
 refine sC NH func293 ?_;conv=>whnf
 have z:=FM l id;have r:=FM l (itemR l id).O;have c:=J4 l (itemR l id) e;have g:(stdR l (itemR l id)).length<=l.length:=by
  unfold stdR;rw[z0s];exact z2s _ _
 generalize itemR l (itemR l id).O=y at*
 generalize itemR l id=x at*
 generalize stdR l x=R at*
 have d:(R.map (AV.int .i64)).length=R.length:=z0s _;repeat' ((first|refine z1s rfl ?_|refine cP z ?_|refine cP c ?_)<;>conv=>whnf)
 refine lI (fun i:Nat=>⟨[(0,.p (VY l)),(1,.j id),(5,.p (.ip x.cells)),(6,.p (QG R)),(7,.j i)],[]⟩) (fun i=>i<=R.length/\nextIn (R.drop i) id=nextIn R id) (fun i=>R.length-i) 0 ⟨z1q _,rfl⟩ ?_;rintro i ⟨B,o⟩;rcases z1w (i+1) R.length with q|q
 .have g1:(R.map (AV.int .i64))[i]?=some (.int .i64 R[i]):=by rw[z1u,z0c (by omega)];rfl
  have A:(R.map (AV.int .i64))[i+1]?=some (.int .i64 R[i+1]):=by rw[z1u,z0c q];rfl
  have h:=C4 (id:=id) q;conv=>whnf
  repeat' ((first|(refine iM fun _=>?_)|(refine iA fun _=>?_)|refine Wr.eq (m:=((i+1:Nat):Int)) (by omega) (by omega) (by omega) ?_|(apply bD<;>intro _<;>try omega))<;>conv=>whnf)
  all_goals first
   | (rw[if_pos (by assumption)]at h
      rw[h]at o;rcases k with k|k
      .rw [k]at o;exact RetK.int (z3q o)
      .rw [k.1]at o;cases o)
   | (rw[if_neg (by assumption)]at h
      exact nX (i+1) ⟨by omega,by rw[<-h];exact o⟩)
 .rw [ED q]at o;rw[<-o]at k;rcases k with k|⟨_,⟨t,rfl⟩|⟨t,u,rfl⟩|⟨t,u,w⟩⟩
  .cases k
  all_goals
   conv=>whnf
   repeat' ((first|(refine iM fun _=>?_)|refine Wr.eq (m:=((i+1:Nat):Int)) (by omega) (by omega) (by omega) ?_|refine cP r ?_|refine cP w ?_|(apply bD<;>intro _<;>try omega))<;>conv=>whnf)
   all_goals first
    |(exfalso;omega)
    |exact RetK.int rfl
def Je{l:List RI}(o:l.length<=1000000){id v:Int}(h:BehP l id v):aP 293 [VY l,.int .i64 id] (.int .i64 v):=by
 induction h with
 |next h=>exact XE l o _ _ (.inl h)
 |exit h k=>exact XE l o _ _ (.inr ⟨h,.inl ⟨k,rfl⟩⟩)
 |loop h k q=>exact XE l o _ _ (.inr ⟨h,.inr (.inl ⟨k,q,rfl⟩)⟩)
 |up h k q _ r=>exact XE l o _ _ (.inr ⟨h,.inr (.inr ⟨k,q,r⟩)⟩)
def slB(a b:Step):Bool:=if a.src≠b.src then q5e a.src b.src else if a.dst≠b.dst then q5e a.dst b.dst else decide (a.kind<b.kind)
def slP(a b:Step):Prop:=slB a b=true
def ltP(a b:Step):Prop:=ordP a.src b.src\/(a.src=b.src/\ordP a.dst b.dst)
def Ya:slP a b↔ordP a.src b.src\/(a.src=b.src/\(ordP a.dst b.dst\/(a.dst=b.dst/\a.kind<b.kind))):=by
 unfold slP slB;by_cases l:a.src=b.src
 .rw [if_neg (fun h=>h l)];have q:¬ordP a.src b.src:=fun h=>ordP.irr b.src (l▸h);by_cases o:a.dst=b.dst
  .rw [if_neg (fun h=>h o)];have r:¬ordP a.dst b.dst:=fun h=>ordP.irr b.dst (o▸h);rw[z2z];exact⟨fun h=>.inr ⟨l,.inr ⟨o,h⟩⟩,fun h=>(h.resolve_left q).2.elim (fun k=>absurd k r) fun k=>k.2⟩
  .rw [if_pos o];exact⟨fun h=>.inr ⟨l,.inl h⟩,fun h=>(h.resolve_left q).2.elim id fun k=>absurd k.1 o⟩
 .rw [if_pos l];exact⟨fun h=>.inl h,fun h=>h.elim id fun k=>absurd k.1 l⟩
theorem slP.irr(a:Step):¬slP a a:=fun h=>by
 rw[Ya]at h;rcases h with h|⟨_,h|⟨_,h⟩⟩
 .exact ordP.irr _ h
 .exact ordP.irr _ h
 .omega
theorem slP.trans(a b c:Step)(o:slP a b)(l:slP b c):slP a c:=by
 rw[Ya]at*
 rcases o with o|⟨r,o⟩
 .rcases l with l|⟨e2,_⟩
  .exact .inl (ordP.trans _ _ _ o l)
  .exact .inl (e2▸o)
 .rcases l with l|⟨e2,l⟩
  .exact .inl (r▸l)
  .refine .inr ⟨r.trans e2,?_⟩;rcases o with o|⟨t,o⟩
   .rcases l with l|⟨q,_⟩
    .exact .inl (ordP.trans _ _ _ o l)
    .exact .inl (q▸o)
   .rcases l with l|⟨q,l⟩
    .exact .inl (t▸l)
    .exact .inr ⟨t.trans q,by omega⟩
theorem slP.total(a b:Step)(h:a≠b):slP a b\/slP b a:=by
 rw[Ya,Ya];by_cases o:a.src=b.src
 .by_cases q:a.dst=b.dst
  .have l:a.kind≠b.kind:=fun l=>h (JC o q l);rcases Int.lt_or_gt_of_ne l with r|r
   .exact .inl (.inr ⟨o,.inr ⟨q,r⟩⟩)
   .exact .inr (.inr ⟨o.symm,.inr ⟨q.symm,r⟩⟩)
  .rcases ordP.total _ _ q with l|l
   .exact .inl (.inr ⟨o,.inl l⟩)
   .exact .inr (.inr ⟨o.symm,.inl l⟩)
 .rcases ordP.total _ _ o with l|l
  .exact .inl (.inl l)
  .exact .inr (.inl l)
theorem slP.lt(h:slP a b)(l:¬(a.src=b.src/\a.dst=b.dst)):ltP a b:=by
 rw[Ya]at h;rcases h with h|⟨e,h|⟨e2,_⟩⟩
 .exact .inl h
 .exact .inr ⟨e,h⟩
 .exact absurd ⟨e,e2⟩ l
theorem ltP.sl{c:Step}(h:ltP a b)(l:slP b c):ltP a c:=by
 rw[Ya]at l;rcases h with h|⟨e,h⟩
 .rcases l with l|⟨e2,_⟩
  .exact .inl (ordP.trans _ _ _ h l)
  .exact .inl (e2▸h)
 .rcases l with l|⟨e2,l|⟨o,_⟩⟩
  .exact .inl (e▸l)
  .exact .inr ⟨e.trans e2,ordP.trans _ _ _ h l⟩
  .exact .inr ⟨e.trans e2,o▸h⟩
structure InvO(P out:List Step):Prop where
 lt:out.Pairwise ltP
 sub:∀o∈out,o∈P
 all:∀s∈P,∃o∈out,o.src=s.src/\o.dst=s.dst
 last:out.getLast?=P.getLast?
theorem InvO.nil:InvO [] []:=⟨.nil,fun _ h=>h,fun _ h=>(by cases h),rfl⟩
theorem InvO.same{P o:List Step}{z m:Step}(h:InvO P (o++[z]))(c:∀p∈P,slP p m)(u:z.src=m.src)(v:z.dst=m.dst):InvO (P++[m]) (o++[m]):=by
 have t:=h.lt;rw[z5a]at t;refine⟨?_,fun x l=>?_,fun s q=>?_,by simp⟩
 .rw [z5a];refine⟨t.1,z7f _ _,fun a ha b y=>?_⟩;rw[z0i.1 y];have w:=t.2.2 a ha z (z0i.2 rfl);unfold ltP at w⊢;rw[<-u,<-v];exact w
 .rcases z0o.1 l with l|l
  .exact z0o.2 (.inl (h.sub x (z0o.2 (.inl l))))
  .exact z0o.2 (.inr l)
 .rcases z0o.1 q with q|q
  .obtain ⟨x,l,r,e2⟩:=h.all s q;rcases z0o.1 l with l|l
   .exact ⟨x,z0o.2 (.inl l),r,e2⟩
   .rw [z0i.1 l]at r e2;exact⟨m,z0o.2 (.inr (z0i.2 rfl)),u▸r,v▸e2⟩
  .rw [z0i.1 q];exact⟨m,z0o.2 (.inr (z0i.2 rfl)),rfl,rfl⟩
theorem InvO.new{P out:List Step}{m:Step}(h:InvO P out)(t:∀p∈P,slP p m)(v:∀o z,out=o++[z]->¬(z.src=m.src/\z.dst=m.dst)):InvO (P++[m]) (out++[m]):=by
 refine⟨?_,fun x l=>?_,fun s q=>?_,by simp⟩
 .rw [z5a];refine⟨h.lt,z7f _ _,fun a ha b u=>?_⟩;rw[z0i.1 u];rcases z6e out with rfl|⟨o,z,rfl⟩
  .cases ha
  .rw [z6a]at*
   have w:ltP z m:=(t z (h.sub z (z0o.2 (.inr (z0i.2 rfl))))).lt (v o z rfl);rcases z0o.1 ha with ha|ha
   .have r:=h.lt;rw[z5a]at r;exact(r.2.2 a ha z (z0i.2 rfl)).sl (t z (h.sub z (z0o.2 (.inr (z0i.2 rfl)))))
   .rw [z0i.1 ha];exact w
 .rcases z0o.1 l with l|l
  .exact z0o.2 (.inl (h.sub x l))
  .exact z0o.2 (.inr l)
 .rcases z0o.1 q with q|q
  .obtain ⟨x,l,e⟩:=h.all s q;exact⟨x,z0o.2 (.inl l),e⟩
  .rw [z0i.1 q];exact⟨m,z0o.2 (.inr (z0i.2 rfl)),rfl,rfl⟩
theorem InvO.none{P:List Step}(h:InvO P []):P=[]:=by
 have:=h.last;rw[List.getLast?_nil]at this;exact List.getLast?_eq_none_iff.1 this.symm
theorem InvO.left{l P o:List Step}{z:Step}(h:InvO P (o++[z]))(u:RiseI slP l P i){s:Step}(x:s∈l):s∉P↔slP z s:=by
 have r:=h.last;rw[List.getLast?_append]at r;simp only[List.getLast?_singleton,Option.some_or]at r;obtain⟨Q,rfl⟩:=List.getLast?_eq_some_iff.1 r.symm;constructor
 .exact fun w=>u.seg s x w z (z0o.2 (.inr (z0i.2 rfl)))
 .intro t q;have v:=u.rise;rw[z5a]at v;rcases z0o.1 q with q|q
  .exact slP.irr _ (slP.trans _ _ _ t (v.2.2 s q z (z0i.2 rfl)))
  .rw [z0i.1 q]at t;exact slP.irr _ t
def Mm(a b:Int):List Step->Int->Int
 |[],k=>k
 |s::r,k=>Mm a b r (if s.src=a/\s.dst=b/\s.kind<k then s.kind else k)
def CB(l:List Step)(o:Step):Step:=⟨o.src,o.dst,Mm o.src o.dst l o.kind⟩
theorem Hd(a b:Int):∀(l:List Step)(k:Int),(Mm a b l k=k\/∃s∈l,s.src=a/\s.dst=b/\s.kind=Mm a b l k)/\Mm a b l k<=k/\∀s∈l,s.src=a->s.dst=b->Mm a b l k<=s.kind
 |[],k=>⟨.inl rfl,z8d _,fun _ h=>(by cases h)⟩
 | s::r,k=>by
   obtain⟨q,w,x⟩:=Hd a b r (if s.src=a/\s.dst=b/\s.kind<k then s.kind else k);rw[Mm];split at q
   .rename_i u;rw[if_pos u]at w x⊢;refine⟨?_,by omega,fun t o v e2=>?_⟩
    .rcases q with q|⟨t,o,y⟩
     .exact .inr ⟨s,z1j,u.1,u.2.1,q.symm⟩
     .exact .inr ⟨t,z1x _ o,y⟩
    .rcases z1g.1 o with rfl|o
     .exact w
     .exact x t o v e2
   .rename_i u;rw[if_neg u]at w x⊢;refine⟨?_,w,fun t o v e2=>?_⟩
    .rcases q with q|⟨t,o,y⟩
     .exact .inl q
     .exact .inr ⟨t,z1x _ o,y⟩
    .rcases z1g.1 o with rfl|o
     .have:¬t.kind<k:=fun h=>u ⟨v,e2,h⟩;omega
     .exact x t o v e2
theorem T8{a b:Int}:∀{l:List Step}{k:Int}{j:Nat}(hj:j<l.length),Mm a b (l.take (j+1)) k=(if l[j].src=a/\l[j].dst=b/\l[j].kind<Mm a b (l.take j) k then l[j].kind else Mm a b (l.take j) k)
 |[],_,_,hj=>by simp at hj
 |s::r,k,0,_=>rfl
 | s::r,k,j+1,hj=>by
   rw[List.take_succ_cons,List.take_succ_cons,Mm,Mm];exact T8 (l:=r) (by simpa using hj)
def Aa{a b:Int}(ha:a<=9223372036854775806)(h:b<=9223372036854775806):ordP a b↔QS a<QS b:=by
 rw[GT];unfold QS;split<;>split<;>omega
def q5f(ha:a.src<=9223372036854775806/\a.dst<=9223372036854775806)(k:b.src<=9223372036854775806/\b.dst<=9223372036854775806)(h:ltP a b):Vz a b:=by
 unfold ltP at h;rw[Aa ha.1 k.1,Aa ha.2 k.2]at h;unfold Vz;rcases h with h|⟨e,h⟩
 .exact .inl h
 .exact .inr ⟨by rw[e],h⟩
def leSt(s:Step):Prop:=s.src<=9223372036854775806/\s.dst<=9223372036854775806
theorem leSt.ok{s:Step}(h:leSt s):okSt s:=by
 unfold leSt at h;unfold okSt;omega
def Iq{l P out:List Step}(k:∀s∈l,leSt s)(w:RiseI slP l P i)(r:∀s∈l,s∈P)(h:InvO P out):out.map (CB l)=WB l:=by
 refine(Gz (fun s q=>(k s q).ok) ?_ ?_ ?_).symm
 .rw [z5o];refine h.lt.imp_of_mem fun {a b} ha e x=>?_;have v:=k a (w.sub a (h.sub a ha));have d:=k b (w.sub b (h.sub b e));exact q5f v d x
 .intro s q;obtain⟨o,y,rfl⟩:=z1z.1 q;have z:=w.sub o (h.sub o y);rcases(Hd o.src o.dst l o.kind).1 with v|⟨t,g,u,e2,c⟩
  .have:CB l o=o:=by unfold CB;rw[v]
   rw[this];exact z
  .have:CB l o=t:=JC u.symm e2.symm c.symm;rw[this];exact g
 .intro s q;obtain⟨o,y,u,e2⟩:=h.all s (r s q);exact⟨CB l o,z1z.2 ⟨o,y,rfl⟩,u,e2,(Hd o.src o.dst l o.kind).2.2 s q u.symm e2.symm⟩
def Chunk.short(m:Nat):Chunk->Chunk
 |.own e sz es=>.own e sz (es.take m)
 |c=>c
def Jo(k m:Nat):Heap->Heap
 |[]=>[]
 |(j,c)::r=>(j,bif j==k then c.short m else c)::Jo k m r
theorem Dp(k m:Nat):∀H:Heap,(Jo k m H).map (·.1)=H.map (·.1)
 |[]=>rfl
 |(j,c)::r=>by rw[Jo,z1t,z1t,Dp k m r]
theorem Nk{k m:Nat}:∀{H:Heap}{j:Nat}{c':Chunk},(j,c')∈Jo k m H->∃c,(j,c)∈H/\(c'=c\/c'=c.short m)
 |[],_,_,h=>by rw[Jo]at h;cases h
 | (j0,c0)::r,j,c',h=>by
   rw[Jo]at h;rcases z1g.1 h with h|h
   .cases h;refine⟨c0,z1j,?_⟩;cases j0==k
    .exact .inl rfl
    .exact .inr rfl
   .obtain ⟨c,l,o⟩:=Nk h;exact⟨c,z1x _ l,o⟩
theorem Le.short{N:Nat}{sl:List (Nat×LV)}{H:Heap}(k m:Nat):Le N ⟨sl,H⟩ ⟨sl,Jo k m H⟩:=fun σ β a w l=>by
 have r:=Dp k m H;refine⟨σ,β,⟨l.size,l.defers,l.G,⟨l.heap.mem,fun j c' o=>?_,by show((Jo k m H).map (·.1)).Nodup;rw[r];exact l.heap.nodup,fun j o=>l.heap.apart j (by rw[<-r];exact o),fun j o K z=>l.heap.inj j (by rw[<-r];exact o) K (by rw[<-r];exact z)⟩⟩,Mem.le_refl σ,Frm.refl _ _,fun _ h g=>absurd h g,fun b ⟨j,o,i,J,I⟩=>.inl ⟨j,by rw[<-r];exact o,i,J,I⟩,fun _ _ _=>rfl⟩;obtain⟨c,A,B⟩:=Nk o;have t:=l.heap.chunks j c A;rcases B with rfl|rfl
 .exact t
 .cases c with
  | own e sz es=>
    show(Chunk.own e sz (es.take m)).holds σ β w j;rcases t with⟨v,y⟩|⟨i,vs,v,y,C,D,L,E,F⟩
    .exact .inl ⟨v,by rw[y];simp⟩
    .refine .inr ⟨i,vs,v,y,C,D,by rw[z1r];omega,E,fun q x u=>F q x ?_⟩;rw[z2p]at u;split at u
     .exact u
     .cases u
  |obj e cs=>exact t
  |ext d=>exact t
def ZB(a b:Step):aP 263 [.agg a.cells,.agg b.cells] (.bool (slB a b)):=by
 refine sC DT func263 ?_;conv=>whnf
 repeat' ((first|refine cP (HL _ _) ?_|(apply bE<;>intro _<;>try omega))<;>conv=>whnf)
 all_goals exact RetK.bool (by unfold slB;simp[*])
def Z7(l:List Step):(l.map fun s=>AV.agg s.cells).length=l.length:=z0s _
def HT(l out:List Step)(F:l.length<=1000000)(G:out.length<=1000000):aH 264 [.p (eSteps l),.hd 2000 0 out.length] [(2000,.own 217 3 (out.map fun s=>.agg s.cells))] (.hd 2000 0 out.length) [(2000,.own 217 3 ((out.map (CB l)).map fun s=>.agg s.cells))]:=by
 refine sK MQ func264 ?_;conv=>whnf
 have B:=Z7 l;repeat' ((refine iM fun _=>?_)<;>conv=>whnf)
 refine lI (fun i:Nat=>⟨[(0,.p (eSteps l)),(1,.hd 2000 0 out.length),(9,.j out.length),(10,.j i)],[(2000,.own 217 3 (((out.take i).map (CB l)++out.drop i).map fun s=>.agg s.cells))]⟩) (fun i=>i<=out.length) (fun i=>out.length-i) 0 (z1q _) ?_;intro i C;rcases z1w i out.length with h|h
 .have hT:((out.take i).map (CB l)).length=i:=by rw[z0s,z1r];omega
  have e:out.drop i=out[i]::out.drop (i+1):=z2v h;have v:(out.take (i+1)).map (CB l)=(out.take i).map (CB l)++[CB l out[i]]:=by rw[z1y h,z1v];rfl
  have A:i+(out.drop (i+1)).length+1=out.length:=by rw[z3n];omega
  have z:CB l out[i]=⟨out[i].src,out[i].dst,Mm out[i].src out[i].dst (l.take l.length) out[i].kind⟩:=by rw[z4k];rfl
  rw[z]at v;rw[e];generalize y:out.drop (i+1)=D at*
  generalize(out.take i).map (CB l)=Tk at*
  generalize out[i]=o at*
  conv=>whnf
  repeat' ((first|(refine iM fun _=>?_)|(apply bD<;>intro _<;>try omega))<;>conv=>whnf)
  refine lI (fun j:Nat=>⟨[(0,.p (eSteps l)),(1,.hd 2000 0 out.length),(5,.j i),(9,.j out.length),(10,.j i),(13,.p (eSteps l)),(14,.p (.int .i64 (l.map fun s=>AV.agg s.cells).length)),(15,.j j)],[(2000,.own 217 3 ((Tk++(⟨o.src,o.dst,Mm o.src o.dst (l.take j) o.kind⟩:Step)::D).map fun s=>.agg s.cells))]⟩) (fun j=>j<=l.length) (fun j=>l.length-j) 0 (z1q _) ?_;intro j E;rcases z1w j l.length with w|w
  .have u:=T8 (a:=o.src) (b:=o.dst) (k:=o.kind) w;have g:((Tk++(⟨o.src,o.dst,Mm o.src o.dst (l.take j) o.kind⟩:Step)::D).map fun s=>AV.agg s.cells)[i]?=some (.agg (⟨o.src,o.dst,Mm o.src o.dst (l.take j) o.kind⟩:Step).cells):=by
    rw[z1u,z2f (by omega),hT,z6x];rfl
   have x:∀k:Int,((Tk++(⟨o.src,o.dst,Mm o.src o.dst (l.take j) o.kind⟩:Step)::D).map fun s=>AV.agg s.cells).set i (.agg (⟨o.src,o.dst,k⟩:Step).cells)=(Tk++(⟨o.src,o.dst,k⟩:Step)::D).map fun s=>.agg s.cells:=fun k=>by
    rw[z1v,z1v,z1t,z1t,z4o _ _ (by rw[z0s,hT];exact z1l _),z0s,hT,z6x];rfl
   have d:(Tk++(⟨o.src,o.dst,Mm o.src o.dst (l.take j) o.kind⟩:Step)::D).length=out.length:=by rw[z0e,z2k,hT];omega
   have t:=x l[j].kind;generalize Mm o.src o.dst (l.take j) o.kind=fk at*
   generalize q:(Tk++(⟨o.src,o.dst,fk⟩:Step)::D).map (fun s=>AV.agg s.cells)=row at*
   conv=>whnf
   repeat' ((first|refine dA ?_|(refine gX ?_;intros)|refine iO i ?_|refine z5r i 0 _ (by show(0+i)*3+0=i*3+0;omega) g ?_|refine z5r i 1 _ (by show(0+i)*3+1=i*3+1;omega) g ?_|refine z5r i 2 _ (by show(0+i)*3+2=i*3+2;omega) g ?_|(apply bD<;>intro _<;>try omega))<;>conv=>whnf)
   all_goals first
    |exact⟨j+1,by omega,by omega,Le.of_eq (by rw[u,if_neg (fun r=>by first|exact absurd r.1 (by assumption)|exact absurd r.2.1 (by assumption)|exact absurd r.2.2 (by assumption)),<-q];rfl)⟩
    | (refine z6g i 2 _ (.agg [.int .i64 o.src,.int .i64 o.dst,.int .i64 l[j].kind]) ?_ g ?_ ?_ ?_
       .show (0+i)*3+2=i*3+2;omega
       .show 2+1<=3;decide
       .rfl
       conv=>whnf
       refine wI ?_;conv=>whnf
       exact⟨j+1,by omega,by omega,Le.of_eq (by rw[u,if_pos ⟨by assumption,by assumption,by assumption⟩,<-t];rfl)⟩)
    |(refine⟨j+1,by omega,by omega,Le.of_eq ?_⟩;rw[u,if_neg (fun r=>by first|exact absurd r.1 (by assumption)|exact absurd r.2.1 (by assumption)|exact absurd r.2.2 (by assumption)),<-q];rfl)
  .have c:j=l.length:=by omega
   subst c;conv=>whnf
   repeat' ((first|refine wI ?_|(apply bD<;>intro _<;>try omega))<;>conv=>whnf)
   exact⟨i+1,by omega,by omega,Le.of_eq (by rw[v,y,z1m];rfl)⟩
 .rw [z1f h,z1b h,z2y];conv=>whnf
  repeat' (apply bD<;>intro _<;>first|omega|conv=>whnf)
  exact⟨_,.refl _,rfl,rfl⟩
def st0:Step:=⟨0,0,0⟩
def Ig(l out:List Step)(i k:Nat)(m:Step)(y:AV):St:=⟨[(0,.p (eSteps l)),(3,.hd 0 0 out.length),(4,.ptr 1 0),(5,.p y),(10,.p (.int .i64 (l.map fun s=>AV.agg s.cells).length)),(11,.j i),(13,.p (eSteps l)),(14,.p (.int .i64 (l.map fun s=>AV.agg s.cells).length)),(15,.j k)],[(0,.own 217 3 (out.map fun s=>.agg s.cells)),(1,.obj 217 [.p (.int .i64 m.src),.j m.dst,.j m.kind])]⟩
def HR(l:List Step)(V:l.length<=1000000)(M:∀s∈l,leSt s):aP 202 [eSteps l] (eSteps (WB l)):=by
 refine sC NO func202 ?_;conv=>whnf
 refine iM fun _=>?_;have hll:=Z7 l;have fin:∀(i:Nat)(P out:List Step),RiseI slP l P i->(∀s∈l,s∈P)->InvO P out->out.map (CB l)=WB l:=fun i P out I D d=>Iq M I D d;conv=>whnf
 refine lJ (fun x:Nat×List Step×List Step=>⟨[(0,.p (eSteps l)),(3,.hd 0 0 x.2.2.length),(10,.p (.int .i64 (l.map fun s=>AV.agg s.cells).length)),(11,.j x.1)],[(0,.own 217 3 (x.2.2.map fun s=>.agg s.cells))]⟩) (fun x=>x.1<=l.length/\RiseI slP l x.2.1 x.1/\InvO x.2.1 x.2.2) (fun x=>l.length-x.1) (0,[],[]) (lM [(0,.own 217 3 [])]) ⟨z1q _,RiseI.zero,InvO.nil⟩ ?_;rintro⟨i,P,out⟩ ⟨D,d,A⟩;simp only at D d A⊢;have hPl:=d.len slP.irr;have hol:out.length<=P.length:=UN (A.lt.imp fun {a b} h e=>by subst e;exact h.elim (ordP.irr _) fun h=>ordP.irr _ h.2) A.sub;have hoa:=Z7 out;rcases z1w i l.length with hi|hi;rotate_left 1
 .have E:=fin i P out d (fun s hs=>(d.all slP.irr (by omega)).2 s |>.2 hs) A;have F:=HT l out V (by omega);rw[E]at F;conv=>whnf
  repeat' ((first|(apply bD<;>intro _<;>try omega)|(refine cH [(2000,0)] 0 F ?_))<;>conv=>whnf)
  exact⟨_,.hd rfl (by rw[<-E];simp),rfl⟩
 conv=>whnf
 repeat' ((first|(refine iM fun _=>?_)|(apply bD<;>intro _<;>try omega))<;>conv=>whnf)
 refine lJ (fun x:Nat×Option Step=>Ig l out i x.1 (x.2.getD st0) (.bool x.2.isSome)) (fun x=>x.1<=l.length/\LeastI slP l P x.1 x.2) (fun x=>l.length-x.1) (0,none) (lE (hnd:=by simp[Ig]) (hsl:=.r (.r (.r (.cons (.p (Sub.ff rfl)) (.r (.r (.r (.r (.r .nil)))))))))) ⟨z1q _,LeastI.zero⟩ ?_;rintro⟨k,o⟩ ⟨Y,v⟩;simp only at Y v⊢;rcases z1w k l.length with w|w
 .rcases z6e out with rfl|⟨q,z,rfl⟩
  .have hP:=A.none;subst hP;have u:True->l[k]∉([]:List Step):=fun _ h=>by cases h
   have t:False->l[k]∈([]:List Step):=fun h=>h.elim;cases o with
   | none=>
     simp only[Ig,z6v,z5s];conv=>whnf
     repeat' ((first|(refine gX ?_;intros)|refine dA ?_|((first|apply bD|apply bN)<;>intro _<;>try omega))<;>conv=>whnf)
     all_goals first
      |(exfalso;simp_all;done)
      |exact nX (k+1,none) ⟨by simp only;omega,v.old w (t (by assumption))⟩
      |exact⟨(k+1,some l[k]),⟨by simp only;omega,v.first w (u trivial)⟩,by simp only;omega,(lE (hnd:=by simp[Ig]) (hsl:=.r (.r (.r (.cons (.p (Sub.tt rfl)) (.r (.r (.r (.r (.r .nil))))))))))⟩
   | some m=>
     simp only[Ig,z2l,z6u];have B:=ZB l[k] m;conv=>whnf
     repeat' ((first|(refine gX ?_;intros)|refine dA ?_|refine cP B ?_|((first|apply bD|apply bN|apply bB)<;>intro _<;>try omega))<;>conv=>whnf)
     all_goals first
      |(exfalso;simp_all;done)
      |exact nX (k+1,some m) ⟨by simp only;omega,v.old w (t (by assumption))⟩
      |exact⟨(k+1,some l[k]),⟨by simp only;omega,v.less slP.trans w (u trivial) (show slB l[k] m=true by assumption)⟩,by simp only;omega,(lE (hnd:=by simp[Ig]) (hsl:=.r (.r (.r (.cons (.p (Sub.tt rfl)) (.r (.r (.r (.r (.r .nil))))))))))⟩
      | (have K:slB l[k] m=false:=by assumption
         exact nX (k+1,some m) ⟨by simp only;omega,v.more slP.total w (fun h=>by unfold slP at h;rw[K]at h;cases h)⟩)
  .rw [z6a]at*
   have c:=A.left d (z1h w);have u:slB z l[k]=true->l[k]∉P:=fun h=>c.2 h;have t:slB z l[k]=false->l[k]∈P:=fun h=>z3t fun R=>by
    have:=c.1 R;unfold slP at this;rw[h]at this;cases this
   have g:((q++[z]).map fun s=>AV.agg s.cells)[q.length]?=some (.agg z.cells):=by simp
   cases o with
   | none=>
     simp only[Ig,z6v,z5s];conv=>whnf
     repeat' ((first|(refine gX ?_;intros)|refine dA ?_|refine z4u q.length (by simp) (by simp) ?_|refine z5r q.length 0 _ (by show(0+q.length)*3+0=q.length*3+0;omega) g ?_|refine cP (ZB z l[k]) ?_|((first|apply bD|apply bN)<;>intro _<;>try omega))<;>conv=>whnf)
     all_goals first
      |(exfalso;simp_all;done)
      |exact nX (k+1,none) ⟨by simp only;omega,v.old w (t (by assumption))⟩
      |exact⟨(k+1,some l[k]),⟨by simp only;omega,v.first w (u (by assumption))⟩,by simp only;omega,(lE (hnd:=by simp[Ig]) (hsl:=.r (.r (.r (.cons (.p (Sub.tt rfl)) (.r (.r (.r (.r (.r .nil))))))))))⟩
   | some m=>
     simp only[Ig,z2l,z6u];have B:=ZB l[k] m;conv=>whnf
     repeat' ((first|(refine gX ?_;intros)|refine dA ?_|refine z4u q.length (by simp) (by simp) ?_|refine z5r q.length 0 _ (by show(0+q.length)*3+0=q.length*3+0;omega) g ?_|refine cP (ZB z l[k]) ?_|refine cP B ?_|((first|apply bD|apply bN|apply bB)<;>intro _<;>try omega))<;>conv=>whnf)
     all_goals first
      |(exfalso;simp_all;done)
      |exact nX (k+1,some m) ⟨by simp only;omega,v.old w (t (by assumption))⟩
      |exact⟨(k+1,some l[k]),⟨by simp only;omega,v.less slP.trans w (u (by assumption)) (show slB l[k] m=true by assumption)⟩,by simp only;omega,(lE (hnd:=by simp[Ig]) (hsl:=.r (.r (.r (.cons (.p (Sub.tt rfl)) (.r (.r (.r (.r (.r .nil))))))))))⟩
      | (have K:slB l[k] m=false:=by assumption
         exact nX (k+1,some m) ⟨by simp only;omega,v.more slP.total w (fun h=>by unfold slP at h;rw[K]at h;cases h)⟩)
 .obtain rfl:k=l.length:=by omega
  cases o with
  | none=>
    have E:=fin i P out d (by have:=v;rw[LeastI,z4k]at this;exact this) A;have F:=HT l out V (by omega);rw[E]at F;simp only[Ig,z6v,z5s];conv=>whnf
    repeat' ((first|(refine gX ?_;intros)|refine dA ?_|((first|apply bD|apply bN)<;>intro _<;>try omega)|(refine cH [(2000,0)] 0 F ?_))<;>conv=>whnf)
    all_goals first
     |(exfalso;simp_all;done)
     |exact⟨_,.hd rfl (by rw[<-E];simp),rfl⟩
  | some m=>
    have N:∀p∈P,slP p m:=fun p hp=>d.seg m v.1 v.2.1 p hp;have J:=d.snoc v;simp only[Ig,z2l,z6u];rcases z6e out with rfl|⟨q,z,rfl⟩
    .have Z:=A.new N (fun o z h=>by simp at h);conv=>whnf
     repeat' ((first|(refine gX ?_;intros)|refine dA ?_|refine AppK.mk (by simp) rfl (by show(0+1)*24<=140737488355328;decide) (by show 0+1<=9223372036854775807;decide) (fun x T=>by rcases z0i.1 T with rfl;exact⟨rfl,rfl⟩) ?_|((first|apply bD|apply bN)<;>intro _<;>try omega))<;>conv=>whnf)
     all_goals first
      |(exfalso;simp_all;done)
      |exact nX (i+1,P++[m],[m]) ⟨by simp only;omega,J,Z⟩
    .rw [z6a]at*
     have g:((q++[z]).map fun s=>AV.agg s.cells)[q.length]?=some (.agg z.cells):=by simp
     have L:((q++[z]).map fun s=>AV.agg s.cells).take q.length=q.map fun s=>AV.agg s.cells:=by rw[z1v,List.take_append_of_le_length (by simp),z1f (by simp)]
     have G:(q++[z]).length=q.length+1:=by simp
     have O:(q++[m]).map (fun s=>AV.agg s.cells)=(q.map fun s=>AV.agg s.cells)++[.agg m.cells]:=by simp
     have Q:((q++[z])++[m]).map (fun s=>AV.agg s.cells)=((q++[z]).map fun s=>AV.agg s.cells)++[.agg m.cells]:=by simp
     have C:=fun I D=>A.same N (z:=z) I D;have H:=fun R:¬(z.src=m.src/\z.dst=m.dst)=>A.new N (fun o y h=>by
      have:=List.append_inj_right' h rfl;have hy:z=y:=by simpa using this
      exact hy▸R)
     conv=>whnf
     repeat' ((first|(refine gX ?_;intros)|refine DrawK.le (id:=16) (Le.short 0 q.length) (Bn ZI mixed (by kernel_rfl) ?_)|refine dA ?_|refine z4u q.length (by simp) (by simp) ?_|refine z5r q.length 0 _ (by show(0+q.length)*3+0=q.length*3+0;omega) g ?_|refine z5r q.length 1 _ (by show(0+q.length)*3+1=q.length*3+1;omega) g ?_|refine SlK.mk 0 q.length rfl (by simp) (by omega) (by simp) ?_|refine pA (n:=q.length-0) 1 24 (by simp) ?_|refine AppK.mk (n:=(q++[z]).length) (by simp) rfl (by simp only[G];show(q.length+1+1)*24<=140737488355328;omega) (by simp only[G];show q.length+1+1<=9223372036854775807;omega) (fun x T=>by rcases z0i.1 T with rfl;exact⟨rfl,rfl⟩) ?_|((first|apply bD|apply bN)<;>intro _<;>try omega))<;>conv=>whnf)
     all_goals first
      |contradiction
      | (refine⟨(i+1,P++[m],q++[m]),⟨by simp only;omega,J,C (by assumption) (by assumption)⟩,by simp only;omega,Le.of_eq ?_⟩
         rw[O,<-L,z0e];rfl)
      | (refine⟨(i+1,P++[m],(q++[z])++[m]),⟨by simp only;omega,J,H (fun U=>by first|exact absurd U.1 (by assumption)|exact absurd U.2 (by assumption))⟩,by simp only;omega,Le.of_eq ?_⟩
         rw[Q,show((q++[z])++[m]).length=(q++[z]).length+1 by simp];rfl)
def IJ(f:Pr)(n:Str):Xq (flatU f) f.fin n=atB f n:=by
 unfold Xq atB;rw[<-show(flatU f).map RI.s=flL f.body from NN 1 0 false f.body,List.find?_map];have h:(fun t:S=>t.E.any fun s=>n==s)∘RI.s=fun x:RI=>inS x.s.E n:=by
  funext x;exact(Jr _ _).symm
 rw[h];cases(flatU f).find? fun x=>inS x.s.E n with
 |some x=>rfl
 | none=>
   simp only[Option.map_none];rw[Jr];cases f.fin.any fun s=>n==s<;>rfl
def WL{p:Pg}(k:UG p=true){j:Nat}{f:Pr}(h:p.A[j]?=some f):(flatU f).length<=200:=by
 rw[show flatU f=fuL 1 0 false f.body from rfl,UU];have:=UC _ _ (z1d h);have:=ZR k;omega
def SG(f:Pr):AV:=.agg [VY (flatU f),eStrs f.fin]
def PE(p:Pg)(j:Nat)(f:Pr)(h:QM p=true)(o:p.A[j]?=some f)(it:Item)(q:it∈itsOf p j f):aP 262 [SG f,.agg it.s.cells] (QG (VG (sheetOf p) f it)):=by
 refine sC FC func262 ?_;conv=>whnf
 have r:=(QV h).1;have E:=WL r o;have C:=WU (flatU f);have B:=Je (by omega) (CP r o q);have v:=WN (flatU f) it.s.id false it.next;rw[Y7 r o (X2 q),z1o]at v;have w:=WN (flatU f) it.s.id true it.next;rw[Y7 r o (X2 q),z1n]at w;have x:=WN (flatU f) it.s.id false it.s.id;rw[Y7 r o (X2 q),z1o]at x;have e:=HC (flatU f) it.s.id;rw[Ht r o q]at e;have t:=Uu (flatU f) f.fin it.s.name;rw[IJ]at t;have F:it.s.kind=7->∃u,(sheetOf p).l[(it.loop-1).toNat]?=some u/\aP 293 [VY (flatU f),.int .i64 it.loop] (.int .i64 u.next):=fun D=>by
  have G:=(MD h o).1 it q D;have H:=(Yu q).2;obtain⟨u,g,c⟩:=BD o (k:=(it.loop-1).toNat) (by omega) (by omega);have I:=Lm h o (by omega) (by omega) g;have d:=Je (l:=flatU f) (by omega) (CP r o c);rw[show u.s.id=it.loop by omega]at d;exact⟨u,g,d⟩
 generalize flatU f=L at*
 repeat' ((first|refine dA ?_|refine gX ?_|refine cP B ?_|refine cP v ?_|refine cP w ?_|refine cP x ?_|refine cP e ?_|refine cP t ?_|refine BsK.pureL rfl rfl ?_|(obtain⟨u,y,z⟩:=F (by assumption);refine cP z ?_)|(apply bD<;>intro _<;>try omega))<;>conv=>whnf)
 all_goals first
  |(exfalso;omega)
  |exact RetK.p (by unfold VG;rw[if_neg (by omega),if_neg (by omega),if_pos (by omega),y];rfl)
  |exact RetK.p (by unfold VG;rw[if_pos (by omega)];rfl)
  |exact RetK.p (by unfold VG;rw[if_neg (by omega),if_pos (by omega)];rfl)
  |exact RetK.p (by unfold VG;rw[if_neg (by omega),if_neg (by omega),if_neg (by omega),if_pos (by omega)];rfl)
  |exact RetK.p (by unfold VG;rw[if_neg (by omega),if_neg (by omega),if_neg (by omega),if_neg (by omega),if_pos (by omega)];rfl)
  |exact RetK.p (by unfold VG;rw[if_neg (by omega),if_neg (by omega),if_neg (by omega),if_neg (by omega),if_neg (by omega),if_pos (by omega)];rfl)
  |exact RetK.p (by unfold VG;rw[if_neg (by omega),if_neg (by omega),if_neg (by omega),if_neg (by omega),if_neg (by omega),if_neg (by omega)];rfl)
def x4h{p:Pg}(h:UG p=true){j:Nat}{f:Pr}(w:p.A[j]?=some f):(itsOf p j f).length=(flatU f).length/\∀(k:Nat)(u:k<(flatU f).length)(q:k<(itsOf p j f).length),(itsOf p j f)[k].s=(flatU f)[k].s:=by
 obtain⟨m,x⟩:=Zu h w;have o:=x4c (j:Nat) 1 0 false f.body (-1) 0 (QL p.A j) x;have r:(itsOf p j f).length=(flatU f).length:=by simpa[itsOf,flatU]using z2b length o
 refine⟨r,fun k u q=>?_⟩;have t:=z2b (fun l=>l[k]?) o;have v:itL (j:Nat) 0 (-1) 0 (QL p.A j) f.body=itsOf p j f:=rfl;have e2:fuL 1 0 false f.body=flatU f:=rfl;rw[v,e2]at t;simp only[z1u,z0c u,z0c q,z3i]at t;exact z2b Prod.fst (z3q t)
def q8p{p:Pg}(h:QM p=true){j:Nat}{f:Pr}(l:p.A[j]?=some f):∀s∈QN p j f,leSt s:=fun s u=>by
 obtain⟨v,q⟩:=(MD h l).2.1 s u;obtain⟨_,_,r⟩:=XF h;obtain⟨_,_,_,o,k⟩:=QK p;obtain⟨_,_,t,_⟩:=k j f l;unfold okI at q;unfold leSt;omega
def q0w(p:Pg)(j:Nat)(f:Pr)(k:Nat):List Step:=⟨0,x5s p j f,1⟩::((itsOf p j f).take k).flatMap fun it=>(VG (sheetOf p) f it).map (Step.mk it.s.id · 1)
def TT{p:Pg}{j:Nat}{f:Pr}{k:Nat}(h:k<(itsOf p j f).length):q0w p j f (k+1)=q0w p j f k++(VG (sheetOf p) f (itsOf p j f)[k]).map (Step.mk (itsOf p j f)[k].s.id · 1):=by
 unfold q0w;rw[z1y h,z3g,z5t];simp
def Gy{p:Pg}{j:Nat}{f:Pr}{k:Nat}(h:(itsOf p j f).length<=k):q0w p j f k=QN p j f:=by
 unfold q0w;rw[z1f h];rfl
theorem Gj(p:Pg)(j:Nat)(f:Pr):∀k,(q0w p j f k).length<=1+2*k
 |0=>by unfold q0w;simp
 | k+1=>by
   rcases z1w k (itsOf p j f).length with h|h
   .have:=Gj p j f k;have l:=(Tp (sheetOf p) f (itsOf p j f)[k]).2.1;rw[TT h,z0e,z0s];omega
   .have:=Gj p j f k;rw[Gy (by omega)];rw[Gy h]at this;omega
def JY(p:Pg)(j:Nat)(f:Pr)(h:QM p=true)(t:p.A[j]?=some f):aP 200 [SG f] (eSteps (QQ p j f).real):=by
 refine sC FS func200 ?_;conv=>whnf
 have g:=(QV h).1;have K:=WL g t;have E:=WU (flatU f);obtain⟨J,c⟩:=x4h g t;have B:=WN (flatU f) 0 false (-1);rw[SD g t,<-q4v h t]at B;have D:=fun it I=>PE p j f h t it I;have o:(QQ p j f).real=WB (QN p j f):=rfl;have e:=q8p h t;have L:(QN p j f).length<=1000:=by
  rw[<-Gy (z1l _)];have:=Gj p j f (itsOf p j f).length;omega
 have F:=HR (QN p j f) (by omega) e;rw[o];repeat' ((first|(refine iM fun _=>?_)|refine z1s rfl ?_|refine aD ?_|refine cP B ?_|refine z5l (fun x O=>by rcases z0i.1 O with rfl;rfl) rfl ?_)<;>conv=>whnf)
 refine lI (fun x:Nat=>⟨[(1,.p (.ip [VY (flatU f),eStrs f.fin])),(3,.hd 0 0 (q0w p j f x).length),(14,.p (VY (flatU f))),(15,.p (.int .i64 ((flatU f).map fun i=>AV.agg i.cells).length)),(16,.j x)],[(0,.own 217 3 ((q0w p j f x).map fun s=>.agg s.cells))]⟩) (fun x=>x<=(flatU f).length) (fun x=>(flatU f).length-x) 0 (z1q _) ?_;intro k P;have N:=Gj p j f k;rcases z1w k (flatU f).length with v|v
 .have l:k<(itsOf p j f).length:=by omega
  have r:=TT l;have u:=D _ (z1h l);have y:=c k v l;have G:=(Tp (sheetOf p) f (itsOf p j f)[k]).2.1;have d:(itsOf p j f)[k].s.id=(flatU f)[k].s.id:=by rw[y]
  rw[y]at u;rw[d]at r;generalize VG (sheetOf p) f (itsOf p j f)[k]=gs at*
  have H:(gs.map (AV.int .i64)).length=gs.length:=z0s _;generalize q0w p j f k=acc at*
  have z:(q0w p j f (k+1)).length=acc.length+gs.length:=by rw[r,z0e,z0s]
  conv=>whnf
  repeat' ((first|(refine gX ?_;intros)|refine cP u ?_|(apply bD<;>intro _<;>try omega))<;>conv=>whnf)
  refine lJ (fun q:Nat=>⟨[(1,.p (.ip [VY (flatU f),eStrs f.fin])),(3,.hd 0 0 (acc.length+q)),(5,.p (.ip (flatU f)[k].cells)),(14,.p (VY (flatU f))),(15,.p (.int .i64 ((flatU f).map fun i=>AV.agg i.cells).length)),(16,.j k),(23,.p (QG gs)),(24,.p (.int .i64 (gs.map (AV.int .i64)).length)),(25,.j q)],[(0,.own 217 3 ((acc++(gs.take q).map (Step.mk (flatU f)[k].s.id · 1)).map fun s=>.agg s.cells))]⟩) (fun q=>q<=gs.length) (fun q=>gs.length-q) 0 (Le.of_eq (by rw[z5f,z5h,z2y];rfl)) (z1q _) ?_;intro q Q;rcases z1w q gs.length with w|w
  .have C:acc++(gs.take (q+1)).map (Step.mk (flatU f)[k].s.id · 1)=(acc++(gs.take q).map (Step.mk (flatU f)[k].s.id · 1))++[⟨(flatU f)[k].s.id,gs[q],1⟩]:=by rw[z1y w,z1v,<-z1m];rfl
   have e2:(acc++(gs.take q).map (Step.mk (flatU f)[k].s.id · 1)).length=acc.length+q:=by rw[z0e,z0s,z1r];omega
   generalize acc++(gs.take q).map (Step.mk (flatU f)[k].s.id · 1)=row at*
   have M:=Z7 row;conv=>whnf
   repeat' ((first|(refine gX ?_;intros)|refine pA 1 24 (by omega) ?_|(apply bD<;>intro _<;>try omega))<;>conv=>whnf)
   all_goals exact⟨q+1,by omega,by omega,Le.of_eq (by rw[C,z1v];rfl)⟩
  .obtain rfl:q=gs.length:=by omega
   rw[z4k];conv=>whnf
   repeat' ((first|refine wI ?_|(apply bD<;>intro _<;>try omega))<;>conv=>whnf)
   all_goals exact⟨k+1,by omega,by omega,Le.of_eq (by rw[z,r];rfl)⟩
 .rw [Gy (by omega)];conv=>whnf
  repeat' ((first|(refine XG F (.cons (.hd rfl (by simp)) .nil) ?_;rintro _ rfl)|(apply bD<;>intro _<;>try omega))<;>conv=>whnf)
  all_goals exact RetK.p rfl
def Dy{p:Pg}{n:Str}{k:Nat}{f:Pr}(w:Zc p n=some (QQ p k f))(v:p.A[k]?=some f):QM p=true/\Yn p n=(f,true):=by
 obtain⟨s,t,h,u,r,_,l⟩:=BN w;have o:(QQ p k f).j=(QQ p s t).j:=by rw[u]
 have q:k=s:=o;subst q;rw[v]at h;obtain rfl:=z3q h;refine⟨r,?_⟩;unfold Yn JF;rw[(QV r).1,l];rfl
def ET{p:Pg}{n:Str}(k:Zc p n=none):QM p=false\/Yn p n=(Pr0,false):=by
 cases h:QM p with
 |false=>exact .inl rfl
 | true=>
   refine .inr ?_;unfold Yn;rw[(QV h).1,ES k h];rfl
def PI(p:Pg)(t:Fit p)(n:Str)(k:Nat)(f:Pr)(u:Zc p n=some (QQ p k f))(r:p.A[k]?=some f):aP 82 [.agg p.cells,.str n] (.tup [VY (flatU f),.bool true]):=by
 refine sC Qx func82 ?_;conv=>whnf
 obtain⟨q,s⟩:=Dy u r;have l:=UK p n;rw[s]at l;have o:=VQ p t;rw[q]at o;have h:=XU f;rw[VL (QV q).1 (z1d r)]at h;repeat' ((first|refine z1s rfl ?_|refine cP l ?_|refine cP o ?_|refine cP h ?_|(apply bN<;>intro _))<;>conv=>whnf)
 all_goals first
  |contradiction
  |exact⟨_,.p (Sub.tup (.cons (Sub.refl _) (.cons (Sub.tt rfl) .nil))),rfl⟩
def YD(p:Pg)(t:Fit p)(n:Str)(k:Nat)(f:Pr)(u:Zc p n=some (QQ p k f))(r:p.A[k]?=some f):aP 151 [.agg p.cells,.str n] (.tup [SG f,.bool true]):=by
 refine sC KJ func151 ?_;conv=>whnf
 obtain⟨q,s⟩:=Dy u r;have l:=UK p n;rw[s]at l;have o:=VQ p t;rw[q]at o;have h:=XU f;rw[VL (QV q).1 (z1d r)]at h;repeat' ((first|refine dA ?_|refine z1s rfl ?_|refine cP l ?_|refine cP o ?_|refine cP h ?_|(apply bN<;>intro _))<;>conv=>whnf)
 all_goals first
  |contradiction
  |exact⟨_,.p (Sub.tup (.cons (Sub.refl _) (.cons (Sub.tt rfl) .nil))),rfl⟩
def YF(p:Pg)(r:Fit p)(n:Str)(s:Zc p n=none):aP 151 [.agg p.cells,.str n] (.tup [.agg [VY [],eStrs []],.bool false]):=by
 refine sC KJ func151 ?_;conv=>whnf
 have l:=UK p n;have o:=VQ p r;have k:=ET s;generalize(Yn p n).1=q at*
 have k:QM p=false\/(Yn p n).2=false:=k.imp id fun h=>by rw[h]
 generalize(Yn p n).2=ok at*
 generalize QM p=ch at*
 repeat' ((first|refine dA ?_|refine z1s rfl ?_|refine cP l ?_|refine cP o ?_|(apply bN<;>intro _))<;>conv=>whnf)
 all_goals first
  |exact⟨_,.p (Sub.tup (.cons (Sub.agg (.cons Sub.nils (.cons Sub.nils .nil))) (.cons (Sub.ff rfl) .nil))),rfl⟩
  |(exfalso;simp_all;done)
def Ja(f:Pr):List Int:=0::(flatU f).map (fun x=>x.s.id)++[-1]
def Q5(f:Pr):(Ja f).length=QY f.body+2:=by
 unfold Ja;have:=UU 1 0 false f.body;simp[flatU,this]
def C8{p:Pg}(o:UG p=true){k:Nat}{f:Pr}(l:p.A[k]?=some f){x:Nat}(q:x<QY f.body+2):(Ja f)[x]?=some (QH p k (QY f.body+2:Nat) x):=by
 unfold Ja;rw[Wo o l];unfold QH loI GM;cases x with
 |zero=>rfl
 | succ x=>
   rw[z5t,List.getElem?_cons_succ];rw[if_neg (by omega)];rcases z1w x (QY f.body)with h|h
   .rw [z2a (by simpa using h),z1u,z5c h,if_neg (by omega)];simp only[z3i];congr 1;omega
   .obtain rfl:x=QY f.body:=by omega
    rw[z2f (by simp),if_pos (by omega)];simp
def KY{p:Pg}(o:UG p=true){k:Nat}{f:Pr}(l:p.A[k]?=some f){x:Int}:x∈Ja f↔plP p k f x:=by
 unfold Ja;rw[Wo o l];unfold plP;simp only[z5t,z1g,z0o,z7u,or_false];constructor
 .rintro (h|h|h)
  .exact .inl h
  .have:=V5 h;exact .inr (.inr (by omega))
  .exact .inr (.inl h)
 .rintro (h|h|h)
  .exact .inl h
  .exact .inr (.inr h)
  .exact .inr (.inl (CI h.1 h.2))
def UT(p:Pg)(v:Fit p)(n:Str)(k:Nat)(f:Pr)(o:Zc p n=some (QQ p k f))(l:p.A[k]?=some f):aP 37 [.agg p.cells,.str n] (QG (Ja f)):=by
 refine sC NB func37 ?_;conv=>whnf
 have t:=PI p v n k f o l;have w:=WL (QV (Dy o l).1).1 l;have u:=WU (flatU f);have y:Ja f=0::(flatU f).map (fun x=>x.s.id)++[-1]:=rfl;rw[y];generalize flatU f=L at*
 repeat' ((first|(refine iM fun _=>?_)|refine z1s rfl ?_|refine aD ?_|refine cP t ?_|refine z5l (fun x z=>by rcases z0i.1 z with rfl;rfl) rfl ?_|(apply bN<;>intro _))<;>conv=>whnf)
 all_goals first
  |contradiction
  |skip
 refine lI (fun j:Nat=>⟨[(7,.hd 0 0 (j+1)),(19,.p (VY L)),(20,.p (.int .i64 (L.map fun i=>AV.agg i.cells).length)),(21,.j j)],[(0,.own 3 1 ((0::(L.take j).map (fun x=>x.s.id)).map (.int .i64)))]⟩) (fun j=>j<=L.length) (fun j=>L.length-j) 0 (z1q _) ?_;intro j c;have q:(0::(L.take j).map (fun x=>x.s.id):List Int).length=j+1:=by rw[z2k,z0s,z1r];omega
 rcases z1w j L.length with h|h
 .have r:(0::(L.take (j+1)).map (fun x=>x.s.id):List Int)=(0::(L.take j).map (fun x=>x.s.id))++[L[j].s.id]:=by rw[z1y h,z1v];rfl
  generalize(0::(L.take j).map (fun x=>x.s.id):List Int)=acc at*
  conv=>whnf
  repeat' ((first|(refine gX ?_;intros)|refine DN (by simp;omega) (by simp;omega) ?_|(apply bD<;>intro _<;>try omega))<;>conv=>whnf)
  all_goals exact⟨j+1,by omega,by omega,Le.of_eq (by rw[r,z1v];rfl)⟩
 .rw [z1f h]at q⊢;have e2:(0::L.map (fun x=>x.s.id)++[-1]:List Int)=(0::L.map (fun x=>x.s.id))++[-1]:=rfl;rw[e2];generalize(0::L.map (fun x=>x.s.id):List Int)=acc at*
  conv=>whnf
  repeat' ((first|refine gX ?_|refine DN (by simp;omega) (by simp;omega) ?_|(apply bD<;>intro _<;>try omega))<;>conv=>whnf)
  all_goals exact⟨_,.hd rfl (by simp;omega),by simp[QG];rfl⟩
section
variable {p:Pg}{j:Nat}{f:Pr}{n:Str}
end
def U6{p:Pg}(h:QM p=true){f:Pr}(r:f∈p.A):∃k,p.A[k]?=some f/\Zc p f.name=some (QQ p k f):=by
 cases o:Zc p f.name with
 | none=>
   exfalso;unfold Zc at o;rw[h,z1n]at o;cases s:p.A.find? (fun g=>g.name==f.name)with
   | none=>
     have:=z3l.1 s _ r;simp at this
   |some g=>rw[s]at o;cases o
 | some w=>
   obtain⟨k,g,l,rfl,_,q,_⟩:=BN o;have t:g=f:=LZ (D6 h) g (z1d l) f r q;subst t;exact⟨k,l,rfl⟩
def q6j{p:Pg}(h:QM p=true){id:Int}(o:id∈x5c p 0):∃k f t,p.A[k]?=some f/\t∈flL f.body/\t.id=id/\Zc p (Mn p id).2.1=some (QQ p k f):=by
 have B:=(QV h).1;unfold x5c at o;obtain⟨x,u,rfl⟩:=z1z.1 o;have u:=(z2u.1 u).1;rw[Y2 B]at u;obtain⟨g,d,q⟩:=z1c.1 u;rw[<-VL B d]at q;unfold Mn;cases r:Ef p x.s.id with
 | none=>
   exfalso;unfold Ef at r;have l:=z5g.1 r g d;unfold q3e at l;rw[z7r,z3l]at l;exact l x q (by simp)
 | some y=>
   obtain⟨y,nm⟩:=y;unfold Ef at r;obtain⟨f,C,l⟩:=List.exists_of_findSome?_eq_some r;unfold q3e at l;rw[z6l]at l;obtain⟨z,w,c⟩:=l;obtain rfl:z=y:=z2b Prod.fst c;have v:f.name=nm:=z2b Prod.snd c;obtain⟨k,e,D⟩:=U6 h C;refine⟨k,f,z.s,e,x0z h e (z3b w),by simpa using z4a w,?_⟩;show Zc p nm=_;rw[<-v];exact D
def IA{p:Pg}(h:QM p=true){id:Int}(I:1<=id)(J:id<=(sheetOf p).l.length):∃k f it,p.A[k]?=some f/\it∈itsOf p k f/\it.s.id=id/\Zc p (Mn p id).2.1=some (QQ p k f)/\(Mn p id).2.2=true/\x9x p id=(it.next,true):=by
 obtain⟨_,_,_,G,_⟩:=QK p;obtain⟨j,f,q,D,E⟩:=Am p.A (id-1).toNat (by omega);obtain⟨it,w,K⟩:=BD q D E;have Q:=Lm h q D E w;have z:it.s.id=id:=by omega
 have d:=(QV h).1;obtain⟨x,H,r⟩:=Ki (X2 K);have c:id∈x5c p 0:=by
  unfold x5c;refine z1z.2 ⟨x,z2u.2 ⟨?_,rfl⟩,by rw[r,z]⟩;rw[Y2 d];exact z1c.2 ⟨f,z1d q,H⟩
 obtain⟨k,g,t,u,M,N,O⟩:=q6j h c;have R:=ZX d u M;have L:QL p.A k+QY g.body<=(sheetOf p).l.length:=by
  obtain⟨_,_,_,_,C⟩:=QK p;have:=(C k g u).2.2.1;omega
 obtain⟨P,F,v⟩:=BD u (k:=(id-1).toNat) (by omega) (by omega);rw[w]at F;obtain rfl:=z3q F;refine⟨k,g,it,u,v,z,O,?_,?_⟩
 .cases e:(Mn p id).2.2 with
  |true=>rfl
  | false=>
    exfalso;unfold Mn at e;cases B:Ef p id with
    |some y=>rw[B]at e;cases e
    | none=>
      unfold Ef at B;have o:=z5g.1 B f (z1d q);unfold q3e at o;rw[z7r,z3l]at o;rw[VL d (z1d q)]at o;exact o x H (by rw[r,z];simp)
 .unfold x9x;rw[h,w,z2t I,z2t J];rfl
def Gw{p:Pg}{n:Str}{w:Way}(h:Zc p n=some w):ofR p n=w.real:=by
 unfold ofR;rw[h]
def Lx{p:Pg}{n:Str}(h:Zc p n=none):ofR p n=[]:=by
 unfold ofR;rw[h]
def x1u(p:Pg)(n:Str):(ofR p n).length<=100000:=by
 cases h:Zc p n with
 |none=>rw[Lx h];exact z1q _
 | some w=>
   obtain⟨k,f,q,o,l,_⟩:=BN h;rw[Gw h,o];exact Ce l q
def Y8{F:List Step}{a b x:Int}:Rch (frR F a []) b x↔Rch (stR F) b x:=by
 have e:frR F a []=stR F:=by
  funext u v;exact propext ⟨fun h=>h.2,fun h=>⟨.inr rfl,h⟩⟩
 rw[e]
def He{steps:List Step}{at_:Int}{but es:List Int}(h:∀x,x∈es↔Rch (frR steps at_ but) at_ x)(o:es.Nodup):es.length<=steps.length+1:=by
 have:=UN o (m:=at_::steps.map Step.dst) fun s q=>by
  have k:=(h s).1 q;cases k with
  |refl=>exact z1j
  | tail _ l=>
    obtain⟨_,t,r,_,rfl⟩:=l;exact z1x _ (z1z.2 ⟨t,r,rfl⟩)
 simpa using this
def q5g{p:Pg}(h:QM p=true){j:Nat}{f:Pr}(u:p.A[j]?=some f){y:Int}:y∈EZ (QQ p j f)↔0<y/\Rch (wR p j f) 0 y:=by
 have v:(QQ p j f).n=(QY f.body+2:Nat):=rfl;have q:∀i:Nat,1<=i->i<=QY f.body->QH p j (QY f.body+2:Nat) i=QL p.A j+i:=fun i l k=>by
  unfold QH loI;rw[if_neg (by omega),if_neg (by omega)];omega
 have o:∀i:Nat,1<=i->i<=QY f.body->(ixI p j f (QL p.A j+i)).toNat=i:=fun i l k=>by
  unfold ixI VO loI hiI
  (repeat' split)<;>omega
 unfold EZ;rw[z1z];constructor
 .rintro ⟨i,s,rfl⟩;obtain⟨l,k⟩:=z2u.1 s;rw[v]at l;have x:=List.mem_range'_1.1 l;have w:=q i (by omega) (by omega);have e2:=o i (by omega) (by omega);show 0<QH p j (QY f.body+2:Nat) i/\Rch (wR p j f) 0 (QH p j (QY f.body+2:Nat) i);rw[w];refine⟨by omega,(GR h u (.inr (.inr ⟨by omega,by omega⟩))).1 ?_⟩;rw[e2];exact k
 .rintro ⟨c,l⟩;have r:plP p j f y:=by
   cases l with
   |refl=>exact .inl rfl
   | tail _ k=>
     obtain⟨t,z,_,rfl⟩:=k;exact(YX h u t z).2
  have k:=(GR h u r).2 l;rcases r with r|r|⟨x,d⟩
  .omega
  .omega
  obtain⟨i,s⟩ : ∃i:Nat,y=QL p.A j+i:=⟨(y-QL p.A j).toNat,by omega⟩;subst s;rw[o i (by omega) (by omega)]at k;refine⟨i,z2u.2 ⟨List.mem_range'_1.2 ⟨by omega,?_⟩,k⟩,q i (by omega) (by omega)⟩;rw[v];omega
def q5h{p:Pg}{j:Nat}{f:Pr}:(EZ (QQ p j f)).Pairwise ordP:=by
 have r:(QQ p j f).n=(QY f.body+2:Nat):=rfl;unfold EZ;rw[z5o];have h:((List.range' 1 ((QQ p j f).n-2).toNat).filter fun i=>(QQ p j f).live.getD i false).Pairwise fun a b=>a<b:=List.Pairwise.sublist z7k List.pairwise_lt_range';refine h.imp_of_mem fun {a b} ha q o=>?_;have k:=List.mem_range'_1.1 (z2u.1 ha).1;have l:=List.mem_range'_1.1 (z2u.1 q).1;rw[r]at k l;rw[GT];right;show QH p j (QY f.body+2:Nat) a ≠ -1/\QH p j (QY f.body+2:Nat) b ≠ -1/\QH p j (QY f.body+2:Nat) a<QH p j (QY f.body+2:Nat) b;unfold QH loI
 (repeat' split)<;>omega
def Aq(p:Pg)(n:Str):(ZN p n).Pairwise ordP/\∀y,y∈ZN p n↔0<y/\Rch (stR (ofR p n)) 0 y:=by
 cases l:Zc p n with
 | none=>
   have e:ZN p n=[]:=by unfold ZN;rw[l]
   rw[e,Lx l];refine⟨.nil,fun y=>⟨fun h=>(by cases h),fun⟨v,o⟩=>?_⟩⟩;cases o with
   |refl=>omega
   |tail _ q=>obtain⟨t,u,_⟩:=q;cases u
 | some w=>
   obtain⟨k,f,s,rfl,r,_⟩:=BN l;have e:ZN p n=EZ (QQ p k f):=by unfold ZN;rw[l]
   rw[e,Gw l];exact⟨q5h,fun y=>q5g r s⟩
def x9l(l:List Int)(r:AV):Prop:=∃m,r=QG m/\m.Pairwise ordP/\∀s,s∈m↔s∈l
def befR(a b:List Int):Prop:=∃x∈a,∀y∈b,ordP x y
theorem befR.irr(a:List Int):¬befR a a:=fun⟨x,l,h⟩=>ordP.irr x (h x l)
theorem befR.trans(a b c:List Int)(o:befR a b)(q:befR b c):befR a c:=by
 obtain⟨x,r,h⟩:=o;obtain⟨y,t,l⟩:=q;exact⟨x,r,fun z u=>ordP.trans _ _ _ (h y t) (l z u)⟩
def tlsP(p:Pg)(j:Nat)(f:Pr)(l:List Int):Prop:=l.Pairwise ordP/\∃r,TrapP p j f l r
def trpX(p:Pg)(j:Nat)(f:Pr)(x:Int):Prop:=¬Rch (wR p j f) x (-1)/\∀y,Rch (wR p j f) x y->Rch (wR p j f) y x
section
variable {p:Pg}{j:Nat}{f:Pr}
def q1t{l:List Int}(z:tlsP p j f l)(c:tlsP p j f m){x:Int}(u:x∈l)(v:x∈m):l=m:=by
 obtain⟨w,r,k⟩:=z;obtain⟨y,s,o⟩:=c;have q:=((k.mem x).1 u).2;have t:=((o.mem x).1 v).2;refine C7 w y fun b=>?_;rw[k.mem,o.mem];exact and_congr z8v ⟨fun h=>(t.trans q.symm).trans h,fun h=>(q.trans t.symm).trans h⟩
def Du{i k:Int}(h:0<=i/\i<k)(l:k<(QY f.body+2:Nat)):ordP (QH p j (QY f.body+2:Nat) i) (QH p j (QY f.body+2:Nat) k):=by
 rw[GT];unfold QH loI
 (repeat' split)<;>omega
def q1e{part:List Int}:(BP (QH p j (QY f.body+2:Nat)) part i (QY f.body+2)).Pairwise ordP:=by
 unfold BP;rw[z5o];have h:((List.range (QY f.body+2)).filter fun j=>part.getD j 0==(i:Int)).Pairwise fun a b=>a<b:=List.Pairwise.sublist z7k List.pairwise_lt_range;refine h.imp_of_mem fun {a b} ha l k=>?_;have o:=z2h.1 (z2u.1 l).1;exact Du (by omega) (by omega)
def Sj(h:QM p=true)(o:p.A[j]?=some f){l:List Int}(k:l∈trapsW (QQ p j f) f):l.Pairwise ordP:=by
 obtain⟨i,_,_,_,rfl⟩:=U1.1 k;exact q1e
def q1i(h:QM p=true)(s:p.A[j]?=some f):(trapsW (QQ p j f) f).Pairwise befR/\∀l,l∈trapsW (QQ p j f) f↔tlsP p j f l:=by
 constructor
 .have e:trapsW (QQ p j f) f=((List.range (QY f.body+2)).filter (U0 (VF (QQ p j f) f) (Kg (QY f.body+2) (VF (QQ p j f) f) (prsW (QQ p j f) f)))).map fun i=>BP (QH p j (QY f.body+2:Nat)) (VF (QQ p j f) f) i (QY f.body+2):=by
   unfold trapsW Zf;rw[Gu];rfl
  rw[e,z5o];have t:((List.range (QY f.body+2)).filter (U0 (VF (QQ p j f) f) (Kg (QY f.body+2) (VF (QQ p j f) f) (prsW (QQ p j f) f)))).Pairwise fun a b=>a<b:=List.Pairwise.sublist z7k List.pairwise_lt_range;refine t.imp_of_mem fun {a b} ha c x=>?_;obtain⟨o,q⟩:=z2u.1 ha;have o:=z2h.1 o;unfold U0 at q;rw[z1p,z4n]at q;refine⟨QH p j (QY f.body+2:Nat) a,Da.2 ⟨a,o,q.1,rfl⟩,fun y z=>?_⟩;obtain⟨k,d,v,rfl⟩:=Da.1 z;have u:=(Vg (p:=p) (j:=j) (f:=f) (i:=(k:Int)) (by omega)).le _ (.refl _);rw[<-Vh,v]at u;exact Du (by omega) (by omega)
 .intro l;constructor
  .intro w;exact⟨Sj h s w,Sy h s w⟩
  .rintro ⟨t,r,o⟩;obtain⟨l',q,u⟩:=x2g h s o.pl o.cl o.n0 o.nx;have:l=l':=C7 t (Sj h s q) fun b=>by rw[o.mem,u]
   rw[this];exact q
def q7m(h:QM p=true)(k:p.A[j]?=some f){a b:Int}(o:wR p j f a b):b≠0:=by
 obtain⟨s,q,_,rfl⟩:=o;have l:=((MD h k).2.1 s (((HP h k).2 s).1 q)).2;unfold okI at l;omega
def x4e(h:QM p=true)(l:p.A[j]?=some f){a b:Int}(ha:a≠0)(o:Rch (wR p j f) a b):b≠0:=by
 cases o with
 |refl=>exact ha
 |tail _ k=>exact q7m h l k
def x2b(h:QM p=true)(u:p.A[j]?=some f){x:Int}(v:plP p j f x)(w:x≠0)(d:trpX p j f x)(o:m.Pairwise ordP)(q:∀s,s∈m↔Rch (wR p j f) x s):tlsP p j f m:=by
 obtain⟨y,t⟩:=d;refine⟨o,x,v,fun b=>?_,fun b c z l=>?_,fun r=>?_,fun r=>y r.1⟩
 .rw [q];exact⟨fun k=>⟨x4i h u v k,k,t b k⟩,fun k=>k.2.1⟩
 .have k:Rch (wR p j f) x c:=.tail z.1 l;exact⟨k,t c k⟩
 .exact x4e h u w r.1 rfl
def q1s(h:QM p=true)(d:p.A[j]?=some f){l:List Int}(w:tlsP p j f l){x:Int}(c:x∈l):trpX p j f x/\(QL p.A j:Int)+1<=x/\x<=(QL p.A j+QY f.body:Nat):=by
 obtain⟨_,r,o⟩:=w;obtain⟨t,q⟩:=(o.mem x).1 c;have k:∀y,Rch (wR p j f) x y->sccP (wR p j f) r y:=fun y u=>u.closed (S:=fun y=>sccP (wR p j f) r y) (fun a b ha s=>o.cl a b ha s) q;refine⟨⟨fun z=>o.nx (k _ z),fun y u=>((k y u).symm.trans q).1⟩,?_⟩;rcases t with rfl|rfl|v
 .exact absurd q o.n0
 .exact absurd q o.nx
 .exact v
structure TrI(p:Pg)(j:Nat)(f:Pr)(k:Nat)(out:List (List Int)):Prop where
 ok:∀l∈out,tlsP p j f l/\∃x∈((flatU f).take k).map (fun y=>y.s.id),x∈l
 has:∀x∈((flatU f).take k).map (fun y=>y.s.id),trpX p j f x->∃l∈out,x∈l
 ord:out.Pairwise befR
theorem TrI.zero:TrI p j f 0 []:=⟨fun _ h=>(by cases h),fun x h=>(by simp at h),.nil⟩
def Mt(h:QM p=true)(r:p.A[j]?=some f){k:Nat}(t:k<(flatU f).length):(flatU f)[k].s.id=(QL p.A j:Int)+1+k:=by
 have q:=Wo (QV h).1 r;have o:=z2b (fun l=>l[k]?) q;simp only[z1u,z0c t,z3i]at o;have u:(flatU f).length=QY f.body:=by
  have:=z2b length q;unfold GM at this;simpa using this
 unfold GM at o;rw[z1u,z5c (by omega)]at o;simp only[z3i,z4r]at o;rw[o];omega
def x0w(h:QM p=true)(o:p.A[j]?=some f){k:Nat}{x:Int}(q:x∈((flatU f).take k).map (fun y=>y.s.id)):(QL p.A j:Int)+1<=x/\x<=(QL p.A j:Int)+k:=by
 obtain⟨y,r,rfl⟩:=z1z.1 q;obtain⟨i,l,rfl⟩:=z2e.1 r;rw[z1r]at l;rw[z7s,Mt h o (by omega)];omega
def O1(h:QM p=true)(l:p.A[j]?=some f){k:Nat}{x:Int}(r:k<=(flatU f).length)(o:(QL p.A j:Int)+1<=x)(q:x<=(QL p.A j:Int)+k):x∈((flatU f).take k).map (fun y=>y.s.id):=by
 refine z1z.2 ⟨(flatU f)[(x-QL p.A j-1).toNat],z2e.2 ⟨(x-QL p.A j-1).toNat,by rw[z1r];omega,by rw[z7s]⟩,?_⟩;rw[Mt h l];omega
theorem TrI.same{k:Nat}{out:List (List Int)}(u:k<(flatU f).length)(r:TrI p j f k out)(w:trpX p j f (flatU f)[k].s.id->∃l∈out,(flatU f)[k].s.id∈l):TrI p j f (k+1) out:=by
 have e:((flatU f).take (k+1)).map (fun y=>y.s.id)=((flatU f).take k).map (fun y=>y.s.id)++[(flatU f)[k].s.id]:=by rw[z1y u,z1v];rfl
 refine⟨fun l v=>?_,fun x o q=>?_,r.ord⟩
 .obtain ⟨o,x,q,t⟩:=r.ok l v;exact⟨o,x,by rw[e];exact z0o.2 (.inl q),t⟩
 .rw [e]at o;rcases z0o.1 o with o|o
  .exact r.has x o q
  .rw [z0i.1 o]at q⊢;exact w q
theorem TrI.more(h:QM p=true)(v:p.A[j]?=some f){k:Nat}{out:List (List Int)}(G:k<(flatU f).length)(r:TrI p j f k out)(N:trpX p j f (flatU f)[k].s.id)(M:∀l∈out,(flatU f)[k].s.id∉l)(D:m.Pairwise ordP)(c:∀s,s∈m↔Rch (wR p j f) (flatU f)[k].s.id s):TrI p j f (k+1) (out++[m]):=by
 have e:((flatU f).take (k+1)).map (fun y=>y.s.id)=((flatU f).take k).map (fun y=>y.s.id)++[(flatU f)[k].s.id]:=by rw[z1y G,z1v];rfl
 have L:=Mt h v G;have H:(flatU f).length=QY f.body:=UU 1 0 false f.body;have hT:tlsP p j f m:=x2b h v (.inr (.inr ⟨by omega,by omega⟩)) (by omega) N D c;have q:(flatU f)[k].s.id∈m:=(c _).2 .refl;refine⟨fun l w=>?_,fun x o t=>?_,?_⟩
 .rcases z0o.1 w with w|w
  .obtain ⟨o,x,t,u⟩:=r.ok l w;exact⟨o,x,by rw[e];exact z0o.2 (.inl t),u⟩
  .rw [z0i.1 w];exact⟨hT,_,by rw[e];exact z0o.2 (.inr (z0i.2 rfl)),q⟩
 .rw [e]at o;rcases z0o.1 o with o|o
  .obtain ⟨l,u,C⟩:=r.has x o t;exact⟨l,z0o.2 (.inl u),C⟩
  .rw [z0i.1 o];exact⟨m,z0o.2 (.inr (z0i.2 rfl)),q⟩
 .rw [z5a];refine⟨r.ord,z7f _ _,fun a ha b K=>?_⟩;rw[z0i.1 K];obtain⟨_,x,t,u⟩:=r.ok a ha;refine⟨x,u,fun z I=>?_⟩;obtain⟨C,J,O⟩:=q1s h v hT I;have P:=x0w h v t;rw[GT];refine .inr ⟨by omega,by omega,?_⟩;rcases Int.lt_or_le (QL p.A j+k:Int) z with E|E
  .omega
  .obtain ⟨l,F,g⟩:=r.has z (O1 h v (by omega) J E) C;have B:=q1t (r.ok l F).1 hT g I;exact absurd (by rw[B];exact q) (M l F)
theorem TrI.all(h:QM p=true)(t:p.A[j]?=some f){k:Nat}{out:List (List Int)}(C:k=(flatU f).length)(q:TrI p j f k out):out=trapsW (QQ p j f) f:=by
 obtain⟨y,z⟩:=q1i h t;have v:(flatU f).length=QY f.body:=UU 1 0 false f.body;refine FB befR.irr befR.trans q.ord y fun l=>?_;rw[z];constructor
 .exact fun o=>(q.ok l o).1
 .intro o;obtain⟨_,r,x⟩:=id o;have w:r∈l:=(x.mem r).2 ⟨x.pl,.refl _⟩;obtain⟨c,e,B⟩:=q1s h t o w;obtain⟨l',u,g⟩:=q.has r (O1 h t (by omega) e (by omega)) c;rw[q1t o (q.ok l' u).1 w g];exact u
theorem TrI.len(h:QM p=true)(x:p.A[j]?=some f){k:Nat}{out:List (List Int)}(z:k<=(flatU f).length)(r:TrI p j f k out):out.length<=k:=by
 have hnd:out.Nodup:=by
  unfold Nodup;refine r.ord.imp fun {a b} o e=>?_;subst e;exact befR.irr _ o
 classical
 let g:List Int->Int:=fun l=>if q:l∈out then Classical.choose (r.ok l q).2 else 0;have t:∀l∈out,g l∈((flatU f).take k).map (fun y=>y.s.id)/\g l∈l:=fun l q=>by
  have e:g l=Classical.choose (r.ok l q).2:=dif_pos q;rw[e];exact Classical.choose_spec (r.ok l q).2
 have v:(out.map g).Nodup:=by
  unfold Nodup;rw[z5o];refine hnd.imp_of_mem fun {a b} ha u o e=>o ?_;exact q1t (r.ok a ha).1 (r.ok b u).1 (t a ha).2 (by rw[e];exact(t b u).2)
 have:=UN v (m:=((flatU f).take k).map (fun y=>y.s.id)) fun s w=>by
  obtain⟨l,q,rfl⟩:=z1z.1 w;exact(t l q).1
 rw[z0s,z0s,z1r]at this;omega
end
def C5{l m:List Step}(k:∀s∈l,okSt s)(h:∀s,s∈l↔s∈m):WB l=WB m:=by
 obtain⟨q,r,t⟩:=BH (l:=m) fun s o=>k s ((h s).2 o);exact Gz k q (fun s o=>(h s).2 (r s o)) fun s o=>t s ((h s).1 o)
end Go.Ab
