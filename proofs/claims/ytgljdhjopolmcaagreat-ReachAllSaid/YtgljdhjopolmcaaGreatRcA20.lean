/- The reference's real steps, what stands behind, rows of places that rise, the live places. -/
import Derived.Test.YtgljdhjopolmcaaGreatRcA19
set_option linter.all false
set_option maxRecDepth 100000
set_option maxHeartbeats 16000000
open List (length)
namespace Go.Ab
open Go.Proofs.Tryz
open Go.Proofs
variable {I' O':List (List Str)}{l:List Bool}{y:Int}
theorem Uq(p:Pg)(q:Fit p)(n:Str):aP 149 [.agg p.cells,.str n] (eSteps (ofR p n)):=by
 refine sC Qv func149 ?_;conv=>whnf
 cases h:Zc p n with
 | none=>
   rw[Lx h];have m:=YF p q n h;repeat' ((first|refine z1s rfl ?_|refine cP m ?_|(apply bN<;>intro _))<;>conv=>whnf)
   all_goals first
    |contradiction
    |exact⟨_,.p Sub.nils,rfl⟩
 | some w=>
   obtain⟨k,f,r,rfl,t,_⟩:=BN h;rw[Gw h];have m:=YD p q n k f h r;have s:=JY p k f t r;repeat' ((first|refine z1s rfl ?_|refine cP m ?_|refine cP s ?_|(apply bN<;>intro _))<;>conv=>whnf)
   all_goals first
    |contradiction
    |exact RetK.p rfl
theorem GF(l:List Int)(C:l.length<=1000000000):SpecP prog 150 [QG l] (fun r=>x9l l r):=by
 refine sC ND func150 ?_;conv=>whnf
 refine iM fun _=>?_;have g:(l.map (AV.int .i64)).length=l.length:=z0s _;conv=>whnf
 refine lJ (fun x:Nat×List Int=>⟨[(0,.p (QG l)),(3,.hd 0 0 x.2.length),(9,.p (.int .i64 (l.map (AV.int .i64)).length)),(10,.j x.1)],[(0,.own 3 1 (x.2.map (.int .i64)))]⟩) (fun x=>x.1<=l.length/\RiseI ordP l x.2 x.1) (fun x=>l.length-x.1) (0,[]) (lM [(0,.own 3 1 [])]) ⟨z1q _,RiseI.zero⟩ ?_;rintro⟨i,out⟩ ⟨w,t⟩;simp only at w t⊢;have B:=t.len ordP.irr;rcases z1w i l.length with e|e
 ·conv=>whnf
  repeat' ((first|(refine iM fun _=>?_)|(apply bD<;>intro _<;>try omega))<;>conv=>whnf)
  refine lJ (fun x:Nat×Option Int=>⟨[(0,.p (QG l)),(3,.hd 0 0 out.length),(4,.j (x.2.getD 0)),(5,.p (.bool x.2.isSome)),(9,.p (.int .i64 (l.map (AV.int .i64)).length)),(10,.j i),(12,.p (QG l)),(13,.p (.int .i64 (l.map (AV.int .i64)).length)),(14,.j x.1)],[(0,.own 3 1 (out.map (.int .i64)))]⟩) (fun x=>x.1<=l.length/\LeastI ordP l out x.1 x.2) (fun x=>l.length-x.1) (0,none) (lE (hsl:=.r (.r (.r (.cons (.p (Sub.ff rfl)) (.r (.r (.r (.r (.r .nil)))))))))) ⟨z1q _,LeastI.zero⟩ ?_;rintro⟨k,o⟩ ⟨z,s⟩;simp only at z s⊢;rcases z1w k l.length with q|q
  ·have u:VR out l[k]=true->l[k]∈out:=ZF.1;have v:VR out l[k]=false->l[k]∉out:=fun h A=>by rw[ZF.2 A]at h;cases h
   cases o with
   | none=>
     simp only[z6v,z5s];conv=>whnf
     repeat' ((first|(refine gX ?_;intros)|(refine QB (XH out (l[k]'q)) (.cons (.hd rfl (by simp)) (.cons (.p (Sub.refl _)) .nil)) (by rintro _ rfl;rfl) ?_;rintro _ rfl)|((first|apply bD|apply bN)<;>intro _<;>try omega))<;>conv=>whnf)
     all_goals first
      |(exfalso;simp_all;done)
      |exact nX (k+1,none) ⟨by simp only;omega,s.old q (u (by assumption))⟩
      |exact⟨(k+1,some l[k]),⟨by simp only;omega,s.first q (v (by assumption))⟩,by simp only;omega,(lE (hsl:=.r (.r (.r (.cons (.p (Sub.tt rfl)) (.r (.r (.r (.r (.r .nil))))))))))⟩
   | some m=>
     simp only[z2l,z6u];conv=>whnf
     repeat' ((first|(refine gX ?_;intros)|(refine QB (XH out (l[k]'q)) (.cons (.hd rfl (by simp)) (.cons (.p (Sub.refl _)) .nil)) (by rintro _ rfl;rfl) ?_;rintro _ rfl)|refine cP (HL (l[k]'q) m) ?_|((first|apply bD|apply bN|apply bB)<;>intro _<;>try omega))<;>conv=>whnf)
     all_goals first
      |(exfalso;simp_all;done)
      |exact nX (k+1,some m) ⟨by simp only;omega,s.old q (u (by assumption))⟩
      |exact⟨(k+1,some l[k]),⟨by simp only;omega,s.less ordP.trans q (v (by assumption)) (by assumption)⟩,by simp only;omega,(lE (hsl:=.r (.r (.r (.cons (.p (Sub.tt rfl)) (.r (.r (.r (.r (.r .nil))))))))))⟩
      | (have d:q5e l[k] m=false:=by assumption
         exact nX (k+1,some m) ⟨by simp only;omega,s.more ordP.total q (fun h=>by unfold ordP at h;rw[d]at h;cases h)⟩)
  ·obtain rfl:k=l.length:=by omega
   cases o with
   | none=>
     simp only[z6v,z5s];conv=>whnf
     repeat' ((first|refine gX ?_|((first|apply bD|apply bB)<;>intro _<;>try omega))<;>conv=>whnf)
     all_goals first
      |(exfalso;simp_all;done)
      |exact nX (i+1,out) ⟨by simp only;omega,t.stay s⟩
   | some m=>
     simp only[z2l,z6u];conv=>whnf
     repeat' ((first|refine gX ?_|refine pI ?_|((first|apply bD|apply bB)<;>intro _<;>try omega))<;>conv=>whnf)
     all_goals first
      |(exfalso;simp_all;done)
      |exact⟨(i+1,out++[m]),⟨by simp only;omega,t.snoc s⟩,by simp only;omega,Le.of_eq (by simp only[z0e,z1v];rfl)⟩
 ·obtain⟨b,c⟩:=t.all ordP.irr (by omega);conv=>whnf
  repeat' (apply bD<;>intro _<;>first|omega|conv=>whnf)
  exact⟨_,.hd rfl (by simp),out,rfl,b,c⟩
theorem U9(p:Pg)(A:Fit p)(n:Str):aP 79 [.agg p.cells,.str n] (QG (ZN p n)):=by
 refine sC Qw func79 ?_;conv=>whnf
 have e:=Uq p A n;have C:=x1u p n;have d:=WO (ofR p n) 0 [] (by omega);obtain⟨u,t⟩:=Aq p n;generalize ZN p n=Q at*
 repeat' ((first|(refine iM fun _=>?_)|refine cP e ?_|(refine CallK.pure d (.cons (Sub.refl _) (.cons (Sub.refl _) (.cons Sub.nils .nil))) ?_;rintro _ ⟨es,rfl,q,hnd⟩))<;>conv=>whnf)
 have g:=He q hnd;have B:(es.map (AV.int .i64)).length=es.length:=z0s _;refine lJ (fun x:Nat×List Int=>⟨[(5,.hd 0 0 x.2.length),(11,.p (QG es)),(12,.p (.int .i64 (es.map (AV.int .i64)).length)),(13,.j x.1)],[(0,.own 3 1 (x.2.map (.int .i64)))]⟩) (fun x=>x.1<=es.length/\x.2=(es.take x.1).filter (fun y=>decide (0<y))/\x.2.length<=x.1) (fun x=>es.length-x.1) (0,[]) (lM [(0,.own 3 1 [])]) ⟨z1q _,by simp,by simp⟩ ?_;rintro⟨j,h⟩ ⟨b,k,c⟩;simp only at b k c⊢;rcases z1w j es.length with r|r
 ·have z:=z1y r;conv=>whnf
  repeat' ((first|(refine gX ?_;intros)|refine pI ?_|(apply bD<;>intro _<;>try omega))<;>conv=>whnf)
  all_goals first
   |exact⟨(j+1,h++[es[j]]),⟨by simp only;omega,by simp only;rw[z,z2j,<-k,z2m (by simp;omega)];rfl,by simp;omega⟩,by simp only;omega,Le.of_eq (by simp only[z0e,z1v];rfl)⟩
   |exact nX (j+1,h) ⟨by simp only;omega,by simp only;rw[z,z2j,<-k,z2n (by simp;omega)];simp,by simp only;omega⟩
 ·rw[z1f r]at k;conv=>whnf
  repeat' ((first|(refine XG (GF h (by omega)) (.cons (.hd rfl (by simp)) .nil) ?_;rintro _ ⟨m,rfl,v,w⟩)|(apply bD<;>intro _<;>try omega))<;>conv=>whnf)
  all_goals exact RetK.p (by
   have:m=Q:=C7 v u fun s=>by
    rw[w,k,z2u,q,Y8,t,z2z,and_comm]
   rw[this])
theorem BM(p:Pg)(j:Nat)(f:Pr)(h:QM p=true)(E:p.A[j]?=some f):aP 265 [SG f,eSteps (QQ p j f).real] (eMat (trapsW (QQ p j f) f)):=by
 refine sC HA func265 ?_;conv=>whnf
 refine iM fun _=>?_;have hm:=(QV h).1;have hlU:=WL hm E;have hLl:=WU (flatU f);have hrl:=Ce h E;have F:=fun a=>WO (QQ p j f).real a [] (by omega);have T:(flatU f).length=QY f.body:=UU 1 0 false f.body;conv=>whnf
 refine lJ (fun x:Nat×List (List Int)=>⟨[(1,.p (eSteps (QQ p j f).real)),(5,.hd 0 0 x.2.length),(16,.p (VY (flatU f))),(17,.p (.int .i64 ((flatU f).map fun i=>AV.agg i.cells).length)),(18,.j x.1)],[(0,.own 54 1 (x.2.map QG))]⟩) (fun x=>x.1<=(flatU f).length/\TrI p j f x.1 x.2) (fun x=>(flatU f).length-x.1) (0,[]) (lM [(0,.own 54 1 [])]) ⟨z1q _,TrI.zero⟩ ?_;rintro⟨k,out⟩ ⟨R,G⟩;simp only at R G⊢;have hol:=G.len h E R;rcases z1w k (flatU f).length with J|J;rotate_left 1
 ·have:=G.all h E (by omega);subst this;conv=>whnf
  repeat' (apply bD<;>intro _<;>first|omega|conv=>whnf)
  exact⟨_,.hd rfl (by simp),by unfold eMat avI;rw[z4e];rfl⟩
 have hid:=Mt h E J;have hpl:plP p j f (flatU f)[k].s.id:=.inr (.inr ⟨by omega,by omega⟩);have L:=F (flatU f)[k].s.id;conv=>whnf
 repeat' ((first|(refine gX ?_;intros)|(refine CallK.pure L (.cons (Sub.refl _) (.cons (Sub.refl _) (.cons Sub.nils .nil))) ?_;rintro _ ⟨es,rfl,t,hnd⟩)|refine cP (XH _ (-1)) ?_|(apply bD<;>intro _<;>try omega))<;>conv=>whnf)
 have hel:=He t hnd;have hml:(es.map (AV.int .i64)).length=es.length:=z0s _;refine lI (fun x:Nat×Bool=>⟨[(1,.p (eSteps (QQ p j f).real)),(5,.hd 0 0 out.length),(7,.p (.ip (flatU f)[k].cells)),(8,.p (QG es)),(9,.p (.bool x.2)),(16,.p (VY (flatU f))),(17,.p (.int .i64 ((flatU f).map fun i=>AV.agg i.cells).length)),(18,.j k),(30,.p (QG es)),(31,.p (.int .i64 (es.map (AV.int .i64)).length)),(32,.j x.1)],[(0,.own 54 1 (out.map QG))]⟩) (fun x=>x.1<=es.length/\(x.2=true↔VR es (-1)=false/\∀y∈es.take x.1,Rch (wR p j f) y (flatU f)[k].s.id)) (fun x=>es.length-x.1) (0,!VR es (-1)) ⟨z1q _,by simp⟩ ?_;rintro⟨q,b⟩ ⟨h3,v⟩;simp only at h3 v⊢;rcases z1w q es.length with Q|Q
 ·have d:∀s,s∈es.take (q+1)↔s∈es.take q\/s=es[q]:=fun s=>QO Q;have M:=F es[q];cases b with
  | true=>
    have v:=v.1 rfl;conv=>whnf
    repeat' ((first|refine dA ?_|(refine gX ?_;intros)|(refine CallK.pure M (.cons (Sub.refl _) (.cons (Sub.refl _) (.cons Sub.nils .nil))) ?_;rintro _ ⟨Z,rfl,N,V⟩)|refine cP (XH _ _) ?_|((first|apply bD|apply bB)<;>intro _<;>try omega))<;>conv=>whnf)
    all_goals first
     |contradiction
     |exact nX (q+1,VR Z (flatU f)[k].s.id) ⟨by simp only;omega,by
        simp only;rw[ZF,N,Y8];constructor
        ·exact fun r=>⟨v.1,fun y B=>((d y).1 B).elim (v.2 y) fun e=>e▸r⟩
        ·exact fun r=>r.2 _ ((d _).2 (.inr rfl))⟩
  | false=>
    conv=>whnf
    repeat' ((first|refine dA ?_|(refine gX ?_;intros)|((first|apply bD|apply bB)<;>intro _<;>try omega))<;>conv=>whnf)
    all_goals first|contradiction|exact⟨(q+1,false),⟨by simp only;omega,by
      simp only;refine⟨fun r=>(by cases r),fun r=>?_⟩;exact v.2 ⟨r.1,fun y B=>r.2 y ((d y).2 (.inl B))⟩⟩,by simp only;omega,(lE (hsl:=by repeat' (first|exact .nil|refine .cons ?_ ?_|exact .refl _|exact .p (Sub.ff rfl)|exact .p (Sub.tt rfl))))⟩
 ·rw [z1f Q]at v;have H:b=true↔trpX p j f (flatU f)[k].s.id:=by
   rw[v];unfold trpX;have Y:VR es (-1)=false ↔ ¬Rch (wR p j f) (flatU f)[k].s.id (-1):=by
    have r:=(ZF (l:=es) (x := -1)).trans ((t (-1)).trans Y8);rw[<-show Rch (stR (QQ p j f).real) (flatU f)[k].s.id (-1)↔Rch (wR p j f) (flatU f)[k].s.id (-1)from z8v,<-r];cases VR es (-1)<;>simp
   rw[Y];refine and_congr z8v ⟨fun r y B=>r y ((t y).2 (Y8.2 B)),fun r y B=>r y (Y8.1 ((t y).1 B))⟩
  conv=>whnf
  repeat' ((first|(refine iM fun _=>?_)|(apply bD<;>intro _<;>try omega))<;>conv=>whnf)
  have hom:(out.map QG).length=out.length:=z0s _;refine lJ (fun x:Nat×Bool=>⟨[(1,.p (eSteps (QQ p j f).real)),(5,.hd 0 0 out.length),(7,.p (.ip (flatU f)[k].cells)),(8,.p (QG es)),(9,.p (.bool b)),(12,.p (.bool x.2)),(16,.p (VY (flatU f))),(17,.p (.int .i64 ((flatU f).map fun i=>AV.agg i.cells).length)),(18,.j k),(47,.hd 0 0 out.length),(48,.j out.length),(49,.j x.1)],[(0,.own 54 1 (out.map QG))]⟩) (fun x=>x.1<=out.length/\x.2=(out.take x.1).any fun l=>VR l (flatU f)[k].s.id) (fun x=>out.length-x.1) (0,false) (lE (hsl:=by repeat' (first|exact .nil|refine .cons ?_ ?_|exact .refl _|exact .p (Sub.ff rfl)|exact .p (Sub.tt rfl)))) ⟨z1q _,by simp⟩ ?_;rintro⟨i,o⟩ ⟨r,I⟩;simp only at r I⊢;rcases z1w i out.length with C|C
  ·have g:(out.map QG)[i]?=some (QG out[i]):=by simp[C]
   have u:((out.take (i+1)).any fun l=>VR l (flatU f)[k].s.id)=(o||VR out[i] (flatU f)[k].s.id):=by rw[z1y C,List.any_append,<-I];simp
   cases o with
   | true=>
     conv=>whnf
     repeat' ((first|refine gX ?_|refine z4u i rfl C ?_|refine z5r i 0 _ (by show(0+i)*1+0=i*1+0;omega) g ?_|((first|apply bD|apply bB)<;>intro _<;>try omega))<;>conv=>whnf)
     all_goals first|contradiction|exact⟨(i+1,true),⟨by simp only;omega,by simp only;rw[u];rfl⟩,by simp only;omega,(lE (hsl:=by repeat' (first|exact .nil|refine .cons ?_ ?_|exact .refl _|exact .p (Sub.ff rfl)|exact .p (Sub.tt rfl))))⟩
   | false=>
     conv=>whnf
     repeat' ((first|refine gX ?_|refine z4u i rfl C ?_|refine z5r i 0 _ (by show(0+i)*1+0=i*1+0;omega) g ?_|refine cP (XH out[i] _) ?_|((first|apply bD|apply bB)<;>intro _<;>try omega))<;>conv=>whnf)
     all_goals first|contradiction|exact nX (i+1,VR out[i] (flatU f)[k].s.id) ⟨by simp only;omega,by simp only;rw[u,Bool.false_or]⟩
  ·rw[z1f C]at I;have w:o=true ↔ ∃l∈out,(flatU f)[k].s.id∈l:=by
    rw[I,z3z];exact⟨fun⟨l,u,z⟩=>⟨l,u,ZF.1 z⟩,fun⟨l,u,z⟩=>⟨l,u,ZF.2 z⟩⟩
   have c:(¬b=true\/o=true)->TrI p j f (k+1) out:=fun u=>G.same J fun z=>u.elim (fun K=>absurd (H.2 z) K) fun K=>w.1 K;have hR:=GF es (by omega);cases b<;>cases o <;>
   (conv=>whnf
    repeat' ((first|refine gX ?_|(refine CallK.pure hR (.cons (Sub.refl _) .nil) ?_;rintro _ ⟨m,rfl,O,P⟩)|refine pA (n:=out.length) (es:=out.map QG) 1 24 (by omega) ?_|((first|apply bD|apply bN|apply bB)<;>intro _<;>try omega))<;>conv=>whnf)
    all_goals first
     |contradiction
     |exact⟨(k+1,out++[m]),⟨by simp only;omega,G.more h E J (H.1 rfl) (fun l u z=>by have:=w.2 ⟨l,u,z⟩;cases this) O fun s=>by rw[P,t,Y8];exact z8v⟩,by simp only;omega,Le.of_eq (by simp only[z0e,z1v];rfl)⟩
     |exact nX (k+1,out) ⟨by simp only;omega,c (by simp)⟩
     |trace_state)
def vrL(L:List RI)(l:List Int):List Step:=(L.filter fun x=>decide (x.s.kind=10)&&VR l x.s.id).map fun x=>⟨x.s.id,-1,3⟩
def vrT(L:List RI)(T:List (List Int)):List Step:=T.flatMap (vrL L)
def q2g(L:List RI)(l:List Int):(vrL L l).length<=L.length:=by
 unfold vrL;rw[z0s];exact z2s _ _
theorem R7(L:List RI):∀T:List (List Int),(vrT L T).length<=T.length*L.length
 |[]=>by unfold vrT;simp
 | a::r=>by
   have h:=R7 L r;have k:=q2g L a;have e:vrT L (a::r)=vrL L a++vrT L r:=by unfold vrT;rw[z2d]
   rw[e,z0e,z2k,z3d];omega
def q7h{L:List RI}{l:List Int}{k:Nat}(m:k<L.length):vrL (L.take (k+1)) l=vrL (L.take k) l++(if L[k].s.kind=10/\VR l L[k].s.id=true then [⟨L[k].s.id,-1,3⟩]else []):=by
 unfold vrL;rw[z1y m,z2j,z1v];congr 1;by_cases h:L[k].s.kind=10/\VR l L[k].s.id=true
 .rw [if_pos h,z2m (by simpa using h)];rfl
 .rw [if_neg h,z2n (by simpa using h)];rfl
section
variable {p:Pg}{j:Nat}{f:Pr}
def x1d(h:QM p=true)(m:p.A[j]?=some f){t u:S}(q:t∈flL f.body)(r:u∈flL f.body)(k:t.id=u.id):t=u:=
 LZ (f:=S.id) (by rw[L9 (QV h).1 m];exact Yw _ _) t q u r k
def YA{x:RI}(h:x∈flatU f):x.s∈flL f.body:=by
 rw[<-show(flatU f).map RI.s=flL f.body from NN 1 0 false f.body];exact z1z.2 ⟨x,h,rfl⟩
def Cs(h:QM p=true)(r:p.A[j]?=some f)(s:Step):s∈vrT (flatU f) (trapsW (QQ p j f) f)↔s∈JV (QQ p j f) f:=by
 have e:JV (QQ p j f) f=(trapsW (QQ p j f) f).flatMap fun l=>l.flatMap (vOf p):=rfl;rw[e];unfold vrT;rw[z1c,z1c];refine exists_congr fun l=>and_congr_right fun g=>?_;have c:=(R5 h r g).2;unfold vrL;rw[z1z,z1c];constructor
 .rintro ⟨x,b,rfl⟩;obtain⟨m,k⟩:=z2u.1 b;rw[z1p,z2z,ZF]at k;refine⟨x.s.id,k.2,?_⟩;obtain⟨u,v⟩:=c _ k.2;obtain⟨t,z,w,q⟩:=PR h r u v;have:t=x.s:=x1d h r z (YA m) q;unfold vOf;rw[w,this];simp only;rw[if_pos k.1];exact z0i.2 rfl
 .rintro ⟨id,m,k⟩;obtain⟨u,v⟩:=c _ m;obtain⟨t,z,w,q⟩:=PR h r u v;unfold vOf at k;rw[w]at k;simp only at k;split at k
  .rename_i d;obtain⟨x,b,rfl⟩:=Ki z;rw[z0i.1 k,<-q];exact⟨x,z2u.2 ⟨b,by rw[z1p,z2z,ZF];exact⟨d,by rw[q];exact m⟩⟩,rfl⟩
  .cases k
theorem x2a(h:QM p=true)(m:p.A[j]?=some f):∀s∈JV (QQ p j f) f,leSt s:=fun s k=>by
 rw[<-Cs h m]at k;unfold vrT vrL at k;obtain⟨l,w,k⟩:=z1c.1 k;obtain⟨x,t,rfl⟩:=z1z.1 k;have u:=ZX (QV h).1 m (YA (z2u.1 t).1);have v:=UC _ _ (z1d m);have r:=(XF h).2.2;obtain⟨_,_,_,_,q⟩:=QK p;have:=(q j f m).2.2.1;unfold leSt;simp only;omega
def x1m(h:QM p=true)(k:p.A[j]?=some f):∀s∈(QQ p j f).real,leSt s:=fun s m=>q8p h k s (((HP h k).2 s).1 m)
def Eg(p:Pg)(j:Nat)(f:Pr):List Step:=(QQ p j f).real++vrT (flatU f) (trapsW (QQ p j f) f)
def CF(h:QM p=true)(m:p.A[j]?=some f):∀s∈Eg p j f,leSt s:=fun s k=>by
 rcases z0o.1 k with k|k
 .exact x1m h m s k
 .exact x2a h m s ((Cs h m s).1 k)
def q3l(h:QM p=true)(k:p.A[j]?=some f):WB (Eg p j f)=BW (QQ p j f) f:=by
 refine C5 (fun s m=>(CF h k s m).ok) fun s=>?_;unfold Eg;rw[z0o,z0o,Cs h k,or_comm]
def Nl:(trapsW (QQ p j f) f).length<=QY f.body+2:=by
 unfold trapsW Zf;rw[z0s,Gu];exact z2g (z2s _ _) (by simp)
end
theorem FX(p:Pg)(j:Nat)(f:Pr)(h:QM p=true)(b:p.A[j]?=some f):aP 203 [SG f,eSteps (QQ p j f).real] (eSteps (vrT (flatU f) (trapsW (QQ p j f) f))):=by
 refine sC GB func203 ?_;conv=>whnf
 have G:=(QV h).1;have t:=WL G b;have hT:=BM p j f h b;have u:(trapsW (QQ p j f) f).length<=202:=by
  have d:=Nl (p:=p) (j:=j) (f:=f);have e:(flatU f).length=QY f.body:=UU 1 0 false f.body;omega
 unfold SG at hT;generalize(QQ p j f).real=R at*
 generalize trapsW (QQ p j f) f=T at*
 generalize flatU f=L at*
 have E:=WU L;have J:=R7 L T;have F:((avI T).map AV.sl).length=T.length:=by unfold avI;simp
 have c:T.length*L.length<=202*200:=z8q u t;repeat' ((first|(refine iM fun _=>?_)|refine cP hT ?_)<;>conv=>whnf)
 refine lJ (fun x:Nat=>⟨[(2,.p (.ip [VY L,eStrs f.fin])),(5,.hd 0 0 (vrT L (T.take x)).length),(12,.p (eMat T)),(13,.p (.int .i64 ((avI T).map AV.sl).length)),(14,.j x)],[(0,.own 217 3 ((vrT L (T.take x)).map fun s=>.agg s.cells))]⟩) (fun x=>x<=T.length) (fun x=>T.length-x) 0 (lM [(0,.own 217 3 [])]) (z1q _) ?_;intro i N;rcases z1w i T.length with m|m;rotate_left 1
 ·rw[z1f m];conv=>whnf
  repeat' (apply bD<;>intro _<;>first|omega|conv=>whnf)
  exact⟨_,.hd rfl (by simp),rfl⟩
 have g:((avI T).map AV.sl)[i]?=some (QG T[i]):=by unfold avI;simp[m,QG]
 have I:vrT L (T.take (i+1))=vrT L (T.take i)++vrL L T[i]:=by unfold vrT;rw[z1y m,z3g];simp
 have M:(vrT L (T.take i)).length<=202*200:=by
  have d:=R7 L (T.take i);have e:(T.take i).length*L.length<=202*200:=z8q (by rw[z1r];omega) t;omega
 have v:∀K,AV.sl ((avI T)[i]'K)=QG T[i]:=fun _=>by simp[avI,QG]
 generalize vrT L (T.take i)=A at*
 conv=>whnf
 repeat' ((first|(refine gX ?_;intros)|(apply bD<;>intro _<;>try omega))<;>conv=>whnf)
 refine lJ (fun x:Nat=>⟨[(2,.p (.ip [VY L,eStrs f.fin])),(5,.hd 0 0 (A++vrL (L.take x) T[i]).length),(7,.p (QG T[i])),(12,.p (eMat T)),(13,.p (.int .i64 ((avI T).map AV.sl).length)),(14,.j i),(19,.p (VY L)),(20,.p (.int .i64 (L.map fun i=>AV.agg i.cells).length)),(21,.j x)],[(0,.own 217 3 ((A++vrL (L.take x) T[i]).map fun s=>.agg s.cells))]⟩) (fun x=>x<=L.length) (fun x=>L.length-x) 0 (Le.of_eq (by simp only[v];rw[show vrL (L.take 0) T[i]=[] by unfold vrL;simp,z2y];rfl)) (z1q _) ?_;intro q O;rcases z1w q L.length with r|r
 ·have k:=q7h (l:=T[i]) r;have H:(A++vrL (L.take q) T[i]).length<=202*200+200:=by
   rw[z0e];have:=q2g (L.take q) T[i];rw[z1r]at this;omega
  have k:A++vrL (L.take (q+1)) T[i]=(A++vrL (L.take q) T[i])++(if L[q].s.kind=10/\VR T[i] L[q].s.id=true then [⟨L[q].s.id,-1,3⟩]else []):=by rw[k,z1m]
  generalize A++vrL (L.take q) T[i]=B at*
  have C:=Z7 B;conv=>whnf
  repeat' ((first|(refine gX ?_;intros)|refine cP (XH T[i] _) ?_|refine pA (n:=B.length) 1 24 (by omega) ?_|((first|apply bD|apply bB)<;>intro _<;>try omega))<;>conv=>whnf)
  all_goals first
   |exact⟨q+1,by omega,by omega,Le.of_eq (by rw[k,if_pos (show L[q].s.kind=10/\VR T[i] L[q].s.id=true from⟨by assumption,by assumption⟩)];simp only[z0e,z1v];rfl)⟩
   |exact⟨q+1,by omega,by omega,Le.of_eq (by rw[k,if_neg (show ¬(L[q].s.kind=10/\VR T[i] L[q].s.id=true)from fun w=>absurd w.1 (by assumption)),z2y];rfl)⟩
   |exact⟨q+1,by omega,by omega,Le.of_eq (by rw[k,if_neg (show ¬(L[q].s.kind=10/\VR T[i] L[q].s.id=true)from fun w=>by have z:=w.2;rw[show VR T[i] L[q].s.id=false by assumption]at z;cases z),z2y];rfl)⟩
 ·rw[z1f r,<-I];conv=>whnf
  repeat' ((first|refine wI ?_|(apply bD<;>intro _<;>try omega))<;>conv=>whnf)
  all_goals exact nX (i+1) (by omega)
theorem PA(p:Pg)(j:Nat)(f:Pr)(h:QM p=true)(k:p.A[j]?=some f):aP 152 [SG f] (eSteps (BW (QQ p j f) f)):=by
 refine sC FT func152 ?_;conv=>whnf
 have t:=JY p j f h k;have v:=FX p j f h k;have z:=Ce h k;have b:(vrT (flatU f) (trapsW (QQ p j f) f)).length<=202*200:=by
  have c:=Nl (p:=p) (j:=j) (f:=f);have d:(flatU f).length=QY f.body:=UU 1 0 false f.body;have r:=WL (QV h).1 k;exact z2g (R7 _ _) (z8q (by omega) r)
 have q:=HR (Eg p j f) (by unfold Eg;rw[z0e];omega) (CF h k);rw[q3l h k]at q;unfold Eg at q;rw[show eSteps ((QQ p j f).real++vrT (flatU f) (trapsW (QQ p j f) f))=.sl (([]++(QQ p j f).real.map fun s=>AV.agg s.cells)++(vrT (flatU f) (trapsW (QQ p j f) f)).map fun s=>AV.agg s.cells) by simp[eSteps]]at q;generalize BW (QQ p j f) f=D at*
 generalize(QQ p j f).real=R at*
 generalize vrT (flatU f) (trapsW (QQ p j f) f)=V at*
 have u:=Z7 R;have w:=Z7 V;repeat' ((first|refine dA ?_|refine z1s rfl ?_|refine aD ?_|refine cP t ?_|refine z5l (fun x m=>(by cases m)) rfl ?_|refine AppK.mk (es:=[]) (by rfl) rfl (by show(0+(R.map fun s=>AV.agg s.cells).length)*24<=140737488355328;omega) (by show 0+(R.map fun s=>AV.agg s.cells).length<=9223372036854775807;omega) (fun x m=>by obtain⟨s,_,rfl⟩:=z1z.1 m;exact⟨rfl,rfl⟩) ?_|refine cP v ?_|refine AppK.mk (es:=[]++R.map fun s=>AV.agg s.cells) (by simp) rfl (by show(0+(R.map fun s=>AV.agg s.cells).length+(V.map fun s=>AV.agg s.cells).length)*24<=140737488355328;omega) (by show 0+(R.map fun s=>AV.agg s.cells).length+(V.map fun s=>AV.agg s.cells).length<=9223372036854775807;omega) (fun x m=>by obtain⟨s,_,rfl⟩:=z1z.1 m;exact⟨rfl,rfl⟩) ?_|(refine XG q (.cons (.hd rfl (by simp)) .nil) ?_;rintro _ rfl))<;>conv=>whnf)
 all_goals first
  |exact RetK.p rfl
theorem AA:∀l:List Pr,l.length<=q9v l
 |[]=>z1q _
 |f::r=>by have:=AA r;simp only[z2k,q9v,wPr];omega
theorem Ed{p:Pg}(h:Fit p):p.A.length<=21000:=by
 have:=AA p.A;unfold Fit wPg at h;omega
theorem U8(p:Pg)(r:Fit p)(n:Str):aP 80 [.agg p.cells,.str n] (eSteps (ZU p n)):=by
 refine sC Qq func80 ?_;conv=>whnf
 cases h:Zc p n with
 | none=>
   rw[Ek h];have m:=YF p r n h;repeat' ((first|refine z1s rfl ?_|refine cP m ?_|(apply bN<;>intro _))<;>conv=>whnf)
   all_goals first
    |contradiction
    |exact⟨_,.p Sub.nils,rfl⟩
 | some w=>
   obtain⟨k,f,q,rfl,t,_⟩:=BN h;rw[P9 h q];have m:=YD p r n k f h q;have s:=PA p k f t q;repeat' ((first|refine z1s rfl ?_|refine cP m ?_|refine cP s ?_|(apply bN<;>intro _))<;>conv=>whnf)
   all_goals first
    |contradiction
    |exact RetK.p rfl
def bkO(p:Pg)(O:List (List Str)):Book:=⟨sheetOf p,[],[],[],[],O⟩
def prA(p:Pg)(i:Nat):Pr:=p.A.getD i Pr0
def Vf{p:Pg}{i:Nat}(h:i<p.A.length):p.A[i]?=some (prA p i):=by
 unfold prA;rw[z0a,z0c h];rfl
def GK{p:Pg}{i:Nat}{f:Pr}(h:p.A[i]?=some f):prA p i=f:=by
 unfold prA;rw[z0a,h];rfl
def dfB(p:Pg)(O:List (List Str)):List (List Str):=(sheetOf p).l.map fun it=>QA (YP (bkO p O) it.s)
def otA(p:Pg)(D:List (List Str))(i:Nat):List Str:=QA (Sp p i (prA p i) D (itsOf p i (prA p i)))
def otB(p:Pg)(D:List (List Str)):List (List Str):=(List.range p.A.length).map (otA p D)
def rdO(p:Pg)(O:List (List Str)):List (List Str):=otB p (dfB p O)
def itO(p:Pg):Nat->List (List Str)
 |0=>List.replicate p.A.length []
 |k+1=>rdO p (itO p k)
def KW{l:List Str}(h:l.Pairwise ltT):l.Nodup:=List.Pairwise.imp (S:=fun a b=>a≠b) (fun {a b} (k:ltT a b)=>fun(m:a=b)=>ltT.irr b (by rw[m]at k;exact k)) h
def UL(l:List Str):(QA l).length<=l.length:=PT (KW (XB l)) fun s h=>XY.1 h
structure OkO(p:Pg)(O:List (List Str)):Prop where
 len:O.length=p.A.length
 rise:∀o∈O,o.Pairwise ltT
 sub:∀i,i<p.A.length->∀n∈O.getD i [],outB p (prA p i) n=true
def YE{O:List (List Str)}(h:∀o∈O,o.Pairwise ltT)(i:Nat):(O.getD i []).Pairwise ltT:=by
 rw[z0a];rcases z1w i O.length with k|k
 .rw [z0c k];exact h _ (z1h k)
 .rw [z3u k];exact .nil
def PW{p:Pg}{n:Str}:comB p n=true↔n=VW\/n∈p.C:=by
 unfold comB;simp only[z4f,z4n,z3z,exists_eq_right']
def Gv{p:Pg}{f:Pr}{n:Str}:outB p f n=true↔(n=VW\/n∈p.C)\/(⟨n,true⟩:Param)∈f.B:=by
 unfold outB;rw[z4f,PW,z2z]
def Q2{p:Pg}(h:QM p=true)(i:Nat):(prA p i).B.length<=8:=by
 rcases z1w i p.A.length with k|k
 .exact (HD.1 (SI (QV h).1 (z1d (Vf k)))).1
 .unfold prA;rw[z0a,z3u k];decide
theorem OkO.len25{p:Pg}{O:List (List Str)}(t:QM p=true)(h:OkO p O)(i:Nat):(O.getD i []).length<=25:=by
 rcases z1w i p.A.length with r|r
 ·have u:=PT (m:=VW::p.C++(prA p i).B.map Param.name) (KW (YE h.rise i)) fun n v=>by
   rcases Gv.1 (h.sub i r n v)with(rfl|q)|q
   ·exact z3f _ z1j
   ·exact z3f _ (z1x _ q)
   ·exact z3o _ (z1z.2 ⟨_,q,rfl⟩)
  have q:=Q2 t i;have w:=(XF t).1;rw[z0e,z2k,z0s]at u;omega
 ·rw[z0a,z3u (by rw[h.len];exact r)];exact z1q _
def Wp{p:Pg}(h:QM p=true){t:S}(C:t∈WE p)(c:t.kind=4):∃k,k<p.A.length/\caI p t=(k:Nat)/\caP p t=prA p k/\(prA p k).name=t.D/\(prA p k).B.map Param.ref=t.args.map Arg.ref:=by
 obtain⟨_,g,ha,_⟩:=QV h;have u:=(Hx g).1 ha t C c;unfold JI at u;rw[z1p]at u;have m:=u.2;cases s:p.A.find? (fun f=>f.name==t.D)with
 |none=>rw[s]at m;cases m
 | some f=>
   rw[s]at m;have e:t.D∈procsN p:=z1z.2 ⟨f,z3b s,by simpa using z4a s⟩;obtain⟨k,w,b,_,v,d⟩:=L1 e;rw[s]at v;have r:p.A[k]=f:=(z3q v).symm;have z:prA p k=f:=by rw[<-r];exact GK (z0c w)
   have q:caI p t=(k:Nat):=b;refine⟨k,w,q,?_,?_,?_⟩
   .unfold caP;rw[q];rfl
   .rw [z,<-r];exact d
   .rw [z];unfold Df at m;exact of_decide_eq_true m
theorem BZ{p:Pg}(h:QM p=true){t:S}(u:t∈WE p)(r:t.kind=4):t.args.length=(caP p t).B.length/\t.args.length<=8:=by
 obtain⟨k,_,_,m,_,q⟩:=Wp h u r;have s:=z2b length q;rw[z0s,z0s]at s;have:=Q2 h k;rw[m];omega
theorem OkO.call{p:Pg}{O:List (List Str)}(m:QM p=true)(h:OkO p O){b:Book}(w:b.s=sheetOf p)(u:b.F=O){t:S}(v:t∈WE p)(q:t.kind=4):CallOk b t:=by
 obtain⟨k,B,z,c,_⟩:=Wp m v q;obtain⟨g,A⟩:=BZ m v q;have e:b.s.p=p:=by rw[w];exact(QK p).1
 have r:caO b t=O.getD (caI p t).toNat []:=by unfold caO;rw[e,u]
 refine⟨by rw[e];omega,by rw[e];omega,by rw[e,u,h.len];exact z1l _,?_,?_,by rw[e];omega,by omega⟩
 ·rw[r];exact YE h.rise _
 ·rw[r];have:=h.len25 m (caI p t).toNat;omega
def IN{p:Pg}{O:List (List Str)}{b:Book}(k:b.s=sheetOf p)(h:b.F=O)(t:S):YP b t=YP (bkO p O) t:=by
 unfold YP caO bkO;rw[k,h]
theorem PV{p:Pg}{O:List (List Str)}(k:QM p=true)(h:OkO p O){t:S}(q:t∈WE p):(YP (bkO p O) t).length<=34:=by
 unfold YP
 (repeat' split)<;>try (simp;done)
 rename_i m;have w:=Lg t (caP p t) (caO (bkO p O) t) t.args.length;have r:=(BZ k q m).2;have s:=h.len25 k (caI p t).toNat;have u:((caO (bkO p O) t).filter (comB p)).length<=(O.getD (caI p t).toNat []).length:=z2s _ _;show((if t.name=[]then []else [t.name])++B5 t (caP p t) (caO (bkO p O) t) t.args.length++(caO (bkO p O) t).filter (comB p)).length<=34;rw[z0e,z0e];have v:(if t.name=[]then []else [t.name]).length<=1:=by split<;>simp
 omega
def Md(p:Pg)(O:List (List Str)):(dfB p O).length=(sheetOf p).l.length:=z0s _
def leO(O O':List (List Str)):Prop:=∀i n,n∈O.getD i []->n∈O'.getD i []
def Lh{t:S}{f:Pr}{O:List Str}{n:Str}:n∈B5 t f O t.args.length ↔ ∃x∈(t.args.zip f.B).take t.args.length,(x.1.ref=true/\x.2.name∈O)/\x.1.name=n:=by
 unfold B5 x5i;simp only[z1z,z2u,z1p,XP,and_assoc]
theorem IM{p:Pg}{O:List (List Str)}(h:leO O O'){t:S}{n:Str}(k:n∈YP (bkO p O) t):n∈YP (bkO p O') t:=by
 unfold YP at k⊢
 (repeat' split at k)
 ·rw[if_pos (by assumption)];exact k
 ·rw[if_neg (by assumption),if_pos (by assumption)];exact k
 ·rw[if_neg (by assumption),if_neg (by assumption),if_pos (by assumption)];exact k
 ·rw[if_neg (by assumption),if_neg (by assumption),if_neg (by assumption),if_pos (by assumption)];unfold SU at k⊢;rcases z0o.1 k with k|k
  ·rcases z0o.1 k with k|k
   ·exact z3f _ (z3f _ k)
   ·refine z3f _ (z3o _ ?_);obtain⟨x,m,⟨q,r⟩,s⟩:=Lh.1 k;exact Lh.2 ⟨x,m,⟨q,h _ _ r⟩,s⟩
  ·obtain⟨m,q⟩:=z2u.1 k;exact z3o _ (z2u.2 ⟨h _ _ m,q⟩)
 ·cases k
def FH{α β:Type}{f:α->List β}{l:List α}{i:Nat}{n:β}:n∈(l.map f).getD i [] ↔ ∃x,l[i]?=some x/\n∈f x:=by
 rw[z0a,z1u];cases l[i]?with
 |none=>simp
 |some x=>simp
def q3r{p:Pg}{O:List (List Str)}(h:leO O O'):leO (dfB p O) (dfB p O'):=fun i n q=>by
 obtain⟨it,k,m⟩:=FH.1 q;exact FH.2 ⟨it,k,XY.2 (IM h (XY.1 m))⟩
def lvB(p:Pg)(i:Nat)(id:Int):Bool:=(QQ p i (prA p i)).live.getD (ixI p i (prA p i) id).toNat false
def q5o{p:Pg}{i:Nat}{D:List (List Str)}{n:Str}:n∈Sp p i (prA p i) D (itsOf p i (prA p i)) ↔ ∃it∈itsOf p i (prA p i),lvB p i it.s.id=true/\n∈DV D it.s.id/\outB p (prA p i) n=true:=by
 unfold Sp;rw[z1c];refine exists_congr fun it=>and_congr_right fun _=>?_;unfold x4t lvB;cases(QQ p i (prA p i)).live.getD (ixI p i (prA p i) it.s.id).toNat false with
 |false=>simp
 |true=>simp[z2u]
def Lw{p:Pg}{D:List (List Str)}{i:Nat}(m:i<p.A.length){n:Str}:n∈(otB p D).getD i [] ↔ ∃it∈itsOf p i (prA p i),lvB p i it.s.id=true/\n∈DV D it.s.id/\outB p (prA p i) n=true:=by
 unfold otB;rw[FH,<-q5o];constructor
 .rintro ⟨x,k,q⟩;rw[z5b m]at k;cases k;exact XY.1 q
 .exact fun h=>⟨i,z5b m,XY.2 h⟩
def q5i{p:Pg}{D q:List (List Str)}(h:leO D q):leO (otB p D) (otB p q):=fun i n r=>by
 rcases z1w i p.A.length with m|m
 .obtain ⟨it,k,s,t,u⟩:=(Lw m).1 r;exact(Lw m).2 ⟨it,k,s,h _ _ t,u⟩
 .obtain ⟨x,k,_⟩:=FH.1 r;rw[z3u (by simpa using m)]at k;cases k
def Ao{p:Pg}{O:List (List Str)}(h:leO O O'):leO (rdO p O) (rdO p O'):=q5i (q3r h)
theorem q8y(p:Pg):∀k,leO (itO p k) (itO p (k+1))
 | 0=>fun i n h=>by
   unfold itO at h;rw[z0a,z2q]at h;split at h<;>cases h
 |k+1=>Ao (q8y p k)
def N7(p:Pg)(D:List (List Str)):OkO p (otB p D):=by
 refine⟨by unfold otB;rw[z0s,z4q],fun o q=>?_,fun i k n m=>?_⟩
 .obtain ⟨i,_,rfl⟩:=z1z.1 q;exact XB _
 .obtain ⟨it,_,_,_,h⟩:=(Lw k).1 m;exact h
def Fr(p:Pg):∀k,OkO p (itO p k)
 | 0=>by
   refine⟨by unfold itO;rw[z2o],fun o m=>?_,fun i q n h=>?_⟩
   .rw [z4j m];exact .nil
   .unfold itO at h;rw[z0a,z2q]at h;split at h<;>cases h
 |k+1=>N7 p _
def tot(O:List (List Str)):Nat:=(O.map length).sum
def q5y{a b:List Str}{O:List (List Str)}(h:leO (a::O) (b::O')):(∀n∈a,n∈b)/\leO O O':=⟨fun n k=>h 0 n k,fun i n k=>h (i+1) n k⟩
theorem AN{a b:List Str}(ha:a.Pairwise ltT)(r:b.Pairwise ltT)(q:∀n∈a,n∈b)(u:b.length<=a.length):a=b:=by
 refine FB ltT.irr ltT.trans ha r fun s=>⟨q s,fun h=>?_⟩;refine z3t fun t=>?_;have:=PT (l:=s::a) (m:=b) (z2i.2 ⟨t,KW ha⟩) fun n k=>by
  rcases z1g.1 k with rfl|k
  ·exact h
  ·exact q n k
 rw[z2k]at this;omega
theorem Sw:∀{O O':List (List Str)},O.length=O'.length->(∀o∈O,o.Pairwise ltT)->(∀o∈O',o.Pairwise ltT)->leO O O'->tot O<=tot O'/\(tot O'<=tot O->O=O')
 |[],[],_,_,_,_=>⟨z1l _,fun _=>rfl⟩
 |[],_::_,h,_,_,_=>by cases h
 |_::_,[],h,_,_,_=>by cases h
 | a::O,b::O',hl,h1,h2,h=>by
   obtain⟨m,q⟩:=q5y h;obtain⟨t,r⟩:=Sw (O:=O) (O':=O') (by simpa using hl) (fun o k=>h1 o (z1x _ k)) (fun o k=>h2 o (z1x _ k)) q;have ha:=h1 a z1j;have s:=h2 b z1j;have u:=PT (KW ha) m;have e:∀(x:List Str)(l:List (List Str)),tot (x::l)=x.length+tot l:=fun x l=>by unfold tot;rw[z1t,z6d]
   rw[e,e];exact⟨by omega,fun v=>by rw[AN ha s m (by omega),r (by omega)]⟩
theorem R2:∀{O:List (List Str)},(∀o∈O,o.length<=25)->tot O<=25*O.length
 |[],_=>z1l _
 | a::O,h=>by
   have m:=R2 (O:=O) fun o k=>h o (z1x _ k);have q:=h a z1j;have e:tot (a::O)=a.length+tot O:=by unfold tot;rw[z1t,z6d]
   rw[e,z2k];omega
theorem OkO.tot{p:Pg}{O:List (List Str)}(m:QM p=true)(h:OkO p O):Go.Ab.tot O<=400:=by
 have q:=R2 (O:=O) fun o t=>by
  obtain⟨i,r,rfl⟩:=z2e.1 t;have:=h.len25 m i
  rwa[z0a,z0c r]at this
 have u:=(XF m).2.1;rw[h.len]at q;omega
def A6{p:Pg}{k:Nat}(h:itO p (k+1)≠itO p k):Go.Ab.tot (itO p k)<Go.Ab.tot (itO p (k+1)):=by
 obtain⟨r,q⟩:=Sw (O:=itO p k) (O':=itO p (k+1)) (by rw[(Fr p k).len,(Fr p (k+1)).len]) (Fr p k).rise (Fr p (k+1)).rise (q8y p k);rcases z1w (Go.Ab.tot (itO p k)) (Go.Ab.tot (itO p (k+1)))with m|m
 .exact m
 .exact absurd (q m).symm h
section
variable (p:Pg)(i:Nat)(f:Pr)(D U:List (List Str))(o:List Str)(x:Str)
def idN(a:Int):Int:=QH p i (QY f.body+2:Nat) a
def hitN(a:Int):Bool:=bif decide (a=(QY f.body+2:Nat)-1)then inS o x else bif decide (0<a)then inS (DV U (idN p i f a)) x else false
def PF(a:Int):Bool:=bif decide (a=(QY f.body+2:Nat)-1)then false else bif decide (0<a)then !inS (DV D (idN p i f a)) x else true
def netR(p:Pg)(i:Nat)(f:Pr):List (List Int):=Vj (QY f.body+2) (JD (QQ p i f) f)
def x6s:List (Int×Int):=(JD (QQ p i f) f).filter fun t=>PF p i f D x t.1
def C2:Bool:=(NM 0 (WT (QE (QY f.body+2) (x6s p i f D x)).1 [0])).any (hitN p i f U o x)
end
section
variable {p:Pg}{i:Nat}{f:Pr}{D U:List (List Str)}{o:List Str}{x:Str}
def nR(p:Pg)(i:Nat)(f:Pr)(D:List (List Str))(x:Str)(a b:Int):Prop:=PF p i f D x a=true/\(a,b)∈JD (QQ p i f) f
theorem Q3(h:QM p=true)(q:p.A[i]?=some f):C2 p i f D U o x=true ↔ ∃a,Rch (nR p i f D x) 0 a/\hitN p i f U o x a=true:=by
 unfold C2;rw[z3z];refine exists_congr fun a=>and_congr_left fun _=>?_;rw[Fh (by omega)];have e:∀a b,((a,b)∈x6s p i f D x/\WH (QY f.body+2) b=true)↔nR p i f D x a b:=fun a b=>by
  unfold x6s nR;rw[z2u];constructor
  ·exact fun k=>⟨k.1.2,k.1.1⟩
  ·intro k;have m:=(PB h q _ k.2).2;exact⟨⟨k.2,k.1⟩,by unfold WH;simp;omega⟩
 exact⟨fun k=>k.mono fun a b m=>(e a b).1 m,fun k=>k.mono fun a b m=>(e a b).2 m⟩
def C3(h:QM p=true)(t:p.A[i]?=some f){S:Int->Prop}(m:S 0)(q:∀a,S a->hitN p i f U o x a=false)(r:∀a b,S a->nR p i f D x a b->S b):C2 p i f D U o x=false:=by
 cases u:C2 p i f D U o x with
 |false=>rfl
 | true=>
   obtain⟨a,s,k⟩:=(Q3 h t).1 u;rw[q a (Rch.closed r m s)]at k;cases k
structure NedI(p:Pg)(i:Nat)(f:Pr)(D U:List (List Str))(o:List Str)(x:Str)(n:Nat)(seen:List Bool)(todo:List Int):Prop where
 len:seen.length=n
 rng:∀a∈todo,0<=a/\a<(n:Int)
 way:∀a:Int,(a=0\/seen.getD a.toNat false=true/\0<=a)->Rch (nR p i f D x) 0 a
 td:∀a∈todo,a=0\/seen.getD a.toNat false=true/\0<=a
 done:∀a:Int,(a=0\/seen.getD a.toNat false=true/\0<=a)->a∉todo->hitN p i f U o x a=false/\∀b,nR p i f D x a b->seen.getD b.toNat false=true
structure NedJ(p:Pg)(i:Nat)(f:Pr)(D U:List (List Str))(o:List Str)(x:Str)(n:Nat)(a:Int)(k:Nat)(seen:List Bool)(todo:List Int):Prop where
 len:seen.length=n
 rng:∀a∈todo,0<=a/\a<(n:Int)
 way:∀a:Int,(a=0\/seen.getD a.toNat false=true/\0<=a)->Rch (nR p i f D x) 0 a
 td:∀a∈todo,a=0\/seen.getD a.toNat false=true/\0<=a
 me:Rch (nR p i f D x) 0 a
 done:∀b:Int,(b=0\/seen.getD b.toNat false=true/\0<=b)->b∉todo->b≠a->hitN p i f U o x b=false/\∀c,nR p i f D x b c->seen.getD c.toNat false=true
 row:∀c∈((netR p i f).getD a.toNat []).take k,seen.getD c.toNat false=true
def x1o{k j:Nat}(h:(l.set k true).getD j false=true):j=k\/l.getD j false=true:=by
 rcases Nat.decEq j k with m|rfl
 .right
  rwa[z0a,z3p (z5q m),<-z0a]at h
 .exact .inl rfl
def SN{k j:Nat}(h:l.getD j false=true):(l.set k true).getD j false=true:=by
 rcases Nat.decEq j k with q|rfl
 .rwa [z0a,z3p (z5q q),<-z0a]
 .have r:j<l.length:=by
   rcases z1w j l.length with m|m
   .exact m
   .rw [z0a,z3u m]at h;cases h
  rw[z0a,z3j r];rfl
def q8t{k:Nat}(h:k<l.length):(l.set k true).getD k false=true:=by
 rw[z0a,z3j h];rfl
variable {n:Nat}{seen:List Bool}{todo:List Int}{a:Int}
theorem NedI.start(n:Nat)(q:0<n):NedI p i f D U o x n (List.replicate n false) [0]:=by
 have m:∀k:Nat,(List.replicate n false).getD k false=true->False:=fun k h=>by
  rw[z0a,z2q]at h;split at h<;>cases h
 refine⟨z2o,fun a ha=>by rw[z0i.1 ha];omega,fun a ha=>?_,fun a ha=>.inl (z0i.1 ha),fun a ha q=>?_⟩
 ·rcases ha with rfl|⟨h,_⟩
  ·exact .refl
  ·exact(m _ h).elim
 ·rcases ha with rfl|⟨h,_⟩
  ·exact absurd (z0i.2 rfl) q
  ·exact(m _ h).elim
theorem NedI.stop(h:QM p=true)(r:p.A[i]?=some f)(m:NedI p i f D U o x n seen []):C2 p i f D U o x=false:=by
 refine C3 h r (S:=fun a=>a=0\/seen.getD a.toNat false=true/\0<=a) (.inl rfl) (fun a ha=>(m.done a ha (by simp)).1) fun a b ha q=>?_;have t:=(m.done a ha (by simp)).2 b q;have u:=(PB h r _ q.2).2;exact .inr ⟨t,u.1⟩
theorem NedI.skip(m:NedI p i f D U o x n seen (todo++[a]))(v:hitN p i f U o x a=false)(t:PF p i f D x a=false):NedI p i f D U o x n seen todo:=by
 refine⟨m.len,fun b q=>m.rng b (z3f _ q),m.way,fun b q=>m.td b (z3f _ q),fun b q z=>?_⟩;by_cases u:b=a
 .subst u;exact⟨v,fun c w=>by rw[w.1]at t;cases t⟩
 .exact m.done b q fun r=>(z0o.1 r).elim z fun r=>u (z0i.1 r)
theorem NedI.open(m:NedI p i f D U o x n seen (todo++[a])):NedJ p i f D U o x n a 0 seen todo:=
 ⟨m.len,fun b q=>m.rng b (z3f _ q),m.way,fun b q=>m.td b (z3f _ q),m.way a (m.td a (z3o _ (z0i.2 rfl))),
   fun b q v u=>m.done b q fun r=>(z0o.1 r).elim v fun r=>u (z0i.1 r),fun c t=>by rw[z5f]at t;cases t⟩
theorem NedJ.shut(h:QM p=true)(u:p.A[i]?=some f){k:Nat}(m:NedJ p i f D U o x n a k seen todo)(z:((netR p i f).getD a.toNat []).length<=k)(v:hitN p i f U o x a=false):NedI p i f D U o x n seen todo:=by
 refine⟨m.len,m.rng,m.way,m.td,fun b w e=>?_⟩;by_cases r:b=a
 ·subst r;refine⟨v,fun c q=>m.row c ?_⟩;rw[z1f z];exact(Dq fun t g=>(PB h u t g).1).2 ⟨(b,c),q.2,by have:=(PB h u _ q.2).1;simp only at this⊢;omega,rfl⟩
 ·exact m.done b w e r
theorem NedJ.old{k:Nat}(m:NedJ p i f D U o x n a k seen todo)(t:k<((netR p i f).getD a.toNat []).length)(u:seen.getD (((netR p i f).getD a.toNat [])[k]).toNat false=true):NedJ p i f D U o x n a (k+1) seen todo:=by
 refine⟨m.len,m.rng,m.way,m.td,m.me,m.done,fun c r=>?_⟩;rcases(QO t).1 r with q|rfl
 .exact m.row c q
 .exact u
theorem NedJ.new{k:Nat}(r:NedJ p i f D U o x n a k seen todo)(E:k<((netR p i f).getD a.toNat []).length){c:Int}(A:c=((netR p i f).getD a.toNat [])[k])(e:0<=c/\c<(n:Int))(g:nR p i f D x a c):NedJ p i f D U o x n a (k+1) (seen.set c.toNat true) (todo++[c]):=by
 have w:c.toNat<seen.length:=by rw[r.len];omega
 have u:∀b:Int,(b=0\/(seen.set c.toNat true).getD b.toNat false=true/\0<=b)->b=c\/(b=0\/seen.getD b.toNat false=true/\0<=b):=fun b q=>by
  rcases q with m|⟨m,t⟩
  ·exact .inr (.inl m)
  ·rcases x1o m with v|v
   ·exact .inl (by omega)
   ·exact .inr (.inr ⟨v,t⟩)
 refine⟨by rw[z3e];exact r.len,fun b q=>?_,fun b q=>?_,fun b q=>?_,r.me,fun b q z C=>?_,fun b q=>?_⟩
 ·rcases z0o.1 q with m|m
  ·exact r.rng b m
  ·rw[z0i.1 m];exact e
 ·rcases u b q with rfl|m
  ·exact .tail r.me g
  ·exact r.way b m
 ·rcases z0o.1 q with m|m
  ·rcases r.td b m with t|t
   ·exact .inl t
   ·exact .inr ⟨SN t.1,t.2⟩
  ·rw[z0i.1 m];exact .inr ⟨q8t w,e.1⟩
 ·rcases u b q with rfl|m
  ·exact absurd (z3o _ (z0i.2 rfl)) z
  ·obtain⟨t,v⟩:=r.done b m (fun h=>z (z3f _ h)) C;exact⟨t,fun d B=>SN (v d B)⟩
 ·rcases(QO E).1 q with m|m
  ·exact SN (r.row b m)
  ·rw[m,<-A];exact q8t w
end
def A2(p:Pg)(i:Nat)(f:Pr)(D U:List (List Str))(o:List Str):List Str:=(p.C++[VW]).filter (C2 p i f D U o)
def fzL{N:Nat}{a b c d e:AV}{L:List Str}{n:Nat}(m:n=(L.map AV.str).length):
  Le N ⟨[(0,.p a),(1,.p b),(5,.p .nils),(6,.p c),(27,.hd 0 0 n),(28,.p d),(29,.p e)],[(0,.own 9 1 (L.map .str))]⟩ ⟨[(0,.p a),(1,.p b),(5,.hd 0 0 0),(6,.p c),(27,.p (eStrs L)),(28,.p d),(29,.p e)],[(0,.own 9 1 [])]⟩:=by
 subst m;obtain⟨s',rfl,h⟩:=Le.row (N:=N) (s:=⟨[(0,.p a),(1,.p b),(5,.p .nils),(6,.p c),(27,.hd 0 0 (L.map AV.str).length),(28,.p d),(29,.p e)],[(0,.own 9 1 (L.map .str))]⟩) (k:=0) (e:=9) (sz:=1) (es:=L.map .str) (zs:=[27]) rfl
  (K:=fun s=>s=⟨[(0,.p a),(1,.p b),(5,.p .nils),(6,.p c),(27,.p (eStrs L)),(28,.p d),(29,.p e)],[]⟩) ⟨rfl,rfl⟩
 exact h.trans (lM [(0,.own 9 1 [])])
theorem Me(b:Book)(p:Pg)(V:b.s=sheetOf p)(h:QM p=true)(i:Nat)(f:Pr)(k:p.A[i]?=some f)(P:b.ways[i]?=some (QQ p i f))(o:List Str)(M:∀x,aP 145 [.ip b.cells,.int .i64 i,eMat (netR p i f),.str x] (.bool (C2 p i f b.N b.Q o x))):SpecH prog 74 [.p (.ip b.cells),.j i] [] (fun r H=>OneRow (Kh (A2 p i f b.N b.Q o)) False r H):=by
 refine sK Gl func74 ?_;conv=>whnf
 have F:b.s.p=p:=by rw[V];exact(QK p).1
 have Z:=(XF h).1;have R:=Ws h k;have E:=Ca (QQ p i f) f (QY f.body+2) (x2e h k) (PB h k) (by omega);have v:aP 143 [.ip (QQ p i f).cells] (eMat (netR p i f)):=E;have B:SpecH prog 144 ([eStrs p.C].map .p) [] (OneRow (Kh p.C) (p.C=[])):=VB p.C (by omega);have G:(b.ways.map fun w=>AV.ip w.cells)[i]?=some (.ip (QQ p i f).cells):=by rw[z1u,P];rfl
 generalize QQ p i f=w at*
 generalize netR p i f=net at*
 repeat' ((first|refine iT G ?_|refine cP v ?_)<;>conv=>whnf)
 obtain⟨L,g⟩ : ∃L,L=p.C++[VW]:=⟨_,rfl⟩;have K:L.length<=17:=by rw[g,z0e];simp;omega
 have z:A2 p i f b.N b.Q o=L.filter (C2 p i f b.N b.Q o):=by unfold A2;rw[g]
 rw[z];generalize C2 p i f b.N b.Q o=ned at*
 refine ZV 0 rfl B (.cons (.p (Sub.of_eq (by rw[F]))) .nil) (fun c=>?_) (fun q e sz es O=>?_);rotate_left;obtain⟨rfl,rfl,rfl⟩:=O
 rotate_right
 all_goals
  conv=>whnf
  repeat' ((first|(refine gX ?_;intros)|refine XK (es:=[]) rfl (by simp) ?_|refine pS ?_)<;>conv=>whnf)
 all_goals
  refine lJ (fun x:Nat×List Str=>⟨[(0,.p (.ip b.cells)),(1,.j i),(5,.hd 0 0 x.2.length),(6,.p (eMat net)),(27,.p (eStrs L)),(28,.p (.int .i64 (L.map AV.str).length)),(29,.j x.1)],[(0,.own 9 1 (x.2.map .str))]⟩) (fun x=>x.1<=L.length/\x.2=(L.take x.1).filter ned/\x.2.length<=x.1) (fun x=>L.length-x.1) (0,[]) (by first
    |exact Le.trans (Le.of_eq (by rw[g,c];rfl)) (fzL (L:=L) rfl)
    |exact Le.trans (Le.of_eq (by rw[g];simp only[z1v,z0e];rfl)) (fzL (L:=L) rfl)
    |trace_state) ⟨z1q _,by simp,by simp⟩ ?_
  rintro⟨j,m⟩ ⟨I,t,J⟩;simp only at I t J⊢;have T:(L.map AV.str).length=L.length:=z0s _;rcases z1w j L.length with k|k
  ·have d:=z1y k;have u:=M L[j];have Y:(L.map AV.str)[j]?=some (.str L[j]):=by simp[k]
   cases hnd:ned L[j];all_goals
    rw[hnd]at u;conv=>whnf
    repeat' ((first|(refine gX ?_;intros)|refine cP u ?_|refine XK (by simp) (by rw[z0s];omega) ?_|refine Br.tt ?_|refine Br.ff ?_|(apply bD<;>intro _<;>try omega))<;>conv=>whnf)
   all_goals first
    |exact⟨(j+1,m++[L[j]]),⟨k,by simp only;rw[d,z2j,z2m hnd,t];rfl,by simp;omega⟩,by simp only;omega,Le.of_eq (by simp only[z0e,z1v];rfl)⟩
    |exact nX (j+1,m) ⟨k,by simp only;rw[d,z2j,z2n (by rw[hnd];decide),t];simp,by simp only;omega⟩
  ·rw[z1f k]at t;subst t;conv=>whnf
   repeat' (apply bD<;>intro _<;>first|omega|conv=>whnf)
   all_goals exact z4g _ (z2x _) (OneRow.str rfl)
def bkI(p:Pg)(I:List (List Str)):Book:=⟨sheetOf p,[],[],[],I,[]⟩
def usB(p:Pg)(I:List (List Str)):List (List Str):=(sheetOf p).l.map fun it=>QA (KA (bkI p I) it.s)
def niA(p:Pg)(D U O:List (List Str))(i:Nat):List Str:=QA (A2 p i (prA p i) D U (O.getD i []))
def niB(p:Pg)(D U O:List (List Str)):List (List Str):=(List.range p.A.length).map (niA p D U O)
def rdI(p:Pg)(D O I:List (List Str)):List (List Str):=niB p D (usB p I) O
def itI(p:Pg)(D O:List (List Str)):Nat->List (List Str)
 |0=>List.replicate p.A.length []
 |k+1=>rdI p D O (itI p D O k)
structure OkI(p:Pg)(I:List (List Str)):Prop where
 len:I.length=p.A.length
 rise:∀o∈I,o.Pairwise ltT
 sub:∀i,∀n∈I.getD i [],comB p n=true
theorem OkI.len25{p:Pg}{I:List (List Str)}(t:QM p=true)(h:OkI p I)(i:Nat):(I.getD i []).length<=25:=by
 have q:=PT (m:=VW::p.C) (KW (YE h.rise i)) fun n u=>by
  rcases PW.1 (h.sub i n u)with rfl|r
  ·exact z1j
  ·exact z1x _ r
 have v:=(XF t).1;rw[z2k]at q;omega
theorem OkI.use{p:Pg}{I:List (List Str)}(m:QM p=true)(h:OkI p I){b:Book}(w:b.s=sheetOf p)(r:b.ins=I){t:S}(u:t∈WE p)(q:t.kind=4):UseOk b t:=by
 obtain⟨k,g,z,_⟩:=Wp m u q;have c:=(BZ m u q).2;have e:b.s.p=p:=by rw[w];exact(QK p).1
 have v:inAt b t=I.getD (caI p t).toNat []:=by unfold inAt;rw[e,r]
 refine⟨by rw[e];omega,by rw[e,r,h.len];omega,by omega,?_⟩;rw[v];have:=h.len25 m (caI p t).toNat;omega
def q2j{p:Pg}{I:List (List Str)}{b:Book}(k:b.s=sheetOf p)(h:b.ins=I)(t:S):KA b t=KA (bkI p I) t:=by
 unfold KA inAt bkI;rw[k,h]
theorem q2k{p:Pg}{I:List (List Str)}(h:leO I I'){t:S}{n:Str}(k:n∈KA (bkI p I) t):n∈KA (bkI p I') t:=by
 unfold KA at k⊢;split at k
 ·rw[if_pos (by assumption)];rcases z0o.1 k with k|k
  ·exact z3f _ k
  ·exact z3o _ (h _ _ k)
 ·rw[if_neg (by assumption)];exact k
def q7g{p:Pg}{I:List (List Str)}(h:leO I I'):leO (usB p I) (usB p I'):=fun i n q=>by
 obtain⟨it,k,m⟩:=FH.1 q;exact FH.2 ⟨it,k,XY.2 (q2k h (XY.1 m))⟩
def Od{p:Pg}{i:Nat}{f:Pr}{U k:List (List Str)}{o:List Str}{x:Str}(h:leO U k){a:Int}(ha:hitN p i f U o x a=true):hitN p i f k o x a=true:=by
 unfold hitN at ha⊢;cases m:decide (a=(QY f.body+2:Nat)-1)with
 |true=>rw[m]at ha;exact ha
 | false=>
   rw[m]at ha;cases q:decide (0<a)with
   | true=>
     rw[q]at ha;exact XP.2 (h _ _ (XP.1 ha))
   |false=>rw[q]at ha;cases ha
def Lq{p:Pg}{D U O:List (List Str)}{i:Nat}(m:i<p.A.length){n:Str}:n∈(niB p D U O).getD i []↔comB p n=true/\C2 p i (prA p i) D U (O.getD i []) n=true:=by
 unfold niB;rw[FH];have e:n∈niA p D U O i↔comB p n=true/\C2 p i (prA p i) D U (O.getD i []) n=true:=by
  unfold niA A2;rw[XY,z2u,PW,z0o,z0i,or_comm]
 rw[<-e];constructor
 .rintro ⟨x,k,q⟩;rw[z5b m]at k;cases k;exact q
 .exact fun h=>⟨i,z5b m,h⟩
def OM{p:Pg}{D U O:List (List Str)}{i:Nat}(m:¬i<p.A.length){n:Str}(h:n∈(niB p D U O).getD i []):False:=by
 obtain⟨x,k,_⟩:=FH.1 h;rw[z3u (by simpa using m)]at k;cases k
def Ai{p:Pg}(m:QM p=true){D O I:List (List Str)}(h:leO I I'):leO (rdI p D O I) (rdI p D O I'):=fun i n q=>by
 by_cases k:i<p.A.length
 .obtain ⟨r,s⟩:=(Lq k).1 q;obtain⟨a,t,u⟩:=(Q3 m (Vf k)).1 s;exact(Lq k).2 ⟨r,(Q3 m (Vf k)).2 ⟨a,t,Od (q7g h) u⟩⟩
 .exact (OM k q).elim
theorem q8u{p:Pg}(m:QM p=true)(D O:List (List Str)):∀k,leO (itI p D O k) (itI p D O (k+1))
 | 0=>fun i n h=>by
   unfold itI at h;rw[z0a,z2q]at h;split at h<;>cases h
 |k+1=>Ai m (q8u m D O k)
def N6(p:Pg)(D U O:List (List Str)):OkI p (niB p D U O):=by
 refine⟨by unfold niB;rw[z0s,z4q],fun o m=>?_,fun i n k=>?_⟩
 .obtain ⟨i,_,rfl⟩:=z1z.1 m;exact XB _
 .by_cases h:i<p.A.length
  .exact ((Lq h).1 k).1
  .exact (OM h k).elim
def Fm(p:Pg)(D O:List (List Str)):∀k,OkI p (itI p D O k)
 | 0=>by
   refine⟨by unfold itI;rw[z2o],fun o m=>?_,fun i n h=>?_⟩
   .rw [z4j m];exact .nil
   .unfold itI at h;rw[z0a,z2q]at h;split at h<;>cases h
 |k+1=>N6 p _ _ _
theorem OkI.tot{p:Pg}{I:List (List Str)}(m:QM p=true)(h:OkI p I):Go.Ab.tot I<=400:=by
 have q:=R2 (O:=I) fun o t=>by
  obtain⟨i,r,rfl⟩:=z2e.1 t;have:=h.len25 m i
  rwa[z0a,z0c r]at this
 have u:=(XF m).2.1;rw[h.len]at q;omega
def A5{p:Pg}(r:QM p=true){D O:List (List Str)}{k:Nat}(h:itI p D O (k+1)≠itI p D O k):Go.Ab.tot (itI p D O k)<Go.Ab.tot (itI p D O (k+1)):=by
 obtain⟨s,q⟩:=Sw (O:=itI p D O k) (O':=itI p D O (k+1)) (by rw[(Fm p D O k).len,(Fm p D O (k+1)).len]) (Fm p D O k).rise (Fm p D O (k+1)).rise (q8u r D O k);rcases z1w (Go.Ab.tot (itI p D O k)) (Go.Ab.tot (itI p D O (k+1)))with m|m
 .exact m
 .exact absurd (q m).symm h
def wysB(p:Pg):List Way:=(List.range p.A.length).map fun i=>QQ p i (prA p i)
def Ry{p:Pg}{i:Nat}(h:i<p.A.length):(wysB p)[i]?=some (QQ p i (prA p i)):=by
 unfold wysB;rw[z1u,z5b h];rfl
structure BookR(p:Pg)(b:Book):Prop where
 s:b.s=sheetOf p
 ways:b.ways=wysB p
 F:∃k,b.F=itO p k
 fixO:rdO p b.F=b.F
 N:b.N=dfB p b.F
 ins:∃k,b.ins=itI p b.N b.F k
 fixI:rdI p b.N b.F b.ins=b.ins
 Q:b.Q=usB p b.ins
theorem L5{p:Pg}{k:Nat}(h:rdO p (itO p k)=itO p k):∀m,itO p (k+m)=itO p k
 |0=>rfl
 | m+1=>by
   show rdO p (itO p (k+m))=_;rw[L5 h m,h]
theorem L3{p:Pg}{D O:List (List Str)}{k:Nat}(h:rdI p D O (itI p D O k)=itI p D O k):∀m,itI p D O (k+m)=itI p D O k
 |0=>rfl
 | m+1=>by
   show rdI p D O (itI p D O (k+m))=_;rw[L3 h m,h]
theorem BookR.uniq{p:Pg}{b c:Book}(q:BookR p b)(r:BookR p c):b=c:=by
 obtain⟨k,v⟩:=q.F;obtain⟨m,t⟩:=r.F;have w:b.F=c.F:=by
  have z:=L5 (p:=p) (k:=k) (by rw[<-v];exact q.fixO) m;have e:=L5 (p:=p) (k:=m) (by rw[<-t];exact r.fixO) k;rw[v,t,<-z,<-e,z7i]
 have g:b.N=c.N:=by rw[q.N,r.N,w]
 obtain⟨k,v⟩:=q.ins;obtain⟨m,t⟩:=r.ins;have B:b.ins=c.ins:=by
  have A:=q.fixI;have u:=r.fixI;rw[<-w,<-g]at t u;have z:=L3 (p:=p) (D:=b.N) (O:=b.F) (k:=k) (by rw[<-v];exact A) m;have e:=L3 (p:=p) (D:=b.N) (O:=b.F) (k:=m) (by rw[<-t];exact u) k;rw[v,t,<-z,<-e,z7i]
 have E:b.Q=c.Q:=by rw[q.Q,r.Q,B]
 have C:b.s=c.s:=by rw[q.s,r.s]
 have G:b.ways=c.ways:=by rw[q.ways,r.ways]
 cases b;cases c;simp only at w g B E C G;subst w g B E C G;rfl
noncomputable def QX(p:Pg):Book:=@Classical.epsilon _ ⟨bkO p []⟩ (BookR p)
theorem BookR.eq{p:Pg}{b:Book}(h:BookR p b):b=QX p:=h.uniq (@Classical.epsilon_spec _ (BookR p) ⟨b,h⟩)
theorem x0c{p:Pg}(q:QM p=true):∃k,itO p (k+1)=itO p k:=by
 refine z3t fun h=>?_;have m:∀k,k<=Go.Ab.tot (itO p k):=fun k=>by
  induction k with
  |zero=>exact z1q _
  | succ k u=>
    have:=A6 (p:=p) (k:=k) fun r=>h ⟨k,r⟩;omega
 have s:=(Fr p 401).tot q;have t:=m 401;omega
theorem x0s{p:Pg}(m:QM p=true)(D O:List (List Str)):∃k,itI p D O (k+1)=itI p D O k:=by
 refine z3t fun h=>?_;have q:∀k,k<=Go.Ab.tot (itI p D O k):=fun k=>by
  induction k with
  |zero=>exact z1q _
  | succ k u=>
    have:=A5 m (p:=p) (D:=D) (O:=O) (k:=k) fun r=>h ⟨k,r⟩;omega
 have s:=(Fm p D O 401).tot m;have t:=q 401;omega
def UZ{p:Pg}(q:QM p=true):BookR p (QX p):=by
 obtain⟨k,r⟩:=x0c q;obtain⟨m,s⟩:=x0s q (dfB p (itO p k)) (itO p k);have h:BookR p ⟨sheetOf p,wysB p,dfB p (itO p k),usB p (itI p (dfB p (itO p k)) (itO p k) m),itI p (dfB p (itO p k)) (itO p k) m,itO p k⟩:=⟨rfl,rfl,⟨k,rfl⟩,r,rfl,⟨m,rfl⟩,s,rfl⟩;rw[<-h.eq];exact h
def UO{p:Pg}(q:QM p=true):OkO p (QX p).F/\OkI p (QX p).ins:=by
 have h:=UZ q;obtain⟨k,r⟩:=h.F;obtain⟨m,s⟩:=h.ins;exact⟨r▸Fr p k,s▸Fm p _ _ m⟩
def q5w{p:Pg}{f:Pr}{n:Str}(h:DJ p f n≠0):n∈p.C\/n∈N8 f:=by
 unfold DJ at h;unfold N8;cases q:f.B.find? (fun a=>a.name==n)with
 | some a=>
   refine .inr (z3f _ (z1z.2 ⟨a,z3b q,by simpa using z4a q⟩))
 | none=>
   rw[q]at h;cases t:f.R.any (fun s=>n==s)with
   | true=>
     obtain⟨s,k,m⟩:=z3z.1 t;exact .inr (z3o _ (by rw[eq_of_beq m];exact k))
   | false=>
     cases r:p.C.any (fun s=>n==s)with
     | true=>
       obtain⟨s,k,m⟩:=z3z.1 r;exact .inl (by rw[eq_of_beq m];exact k)
     |false=>exact absurd (by simp only[t,r];rfl) h
def Tb{p:Pg}(h:QM p=true){n:Str}(m:n∈p.C):isName n=true:=by
 have k:=(QV h).1;unfold UG at k;simp only[z1p]at k;exact z3x.1 k.1.2 n m
def Af{p:Pg}(h:QM p=true){f:Pr}(r:f∈p.A){n:Str}(k:n∈N8 f):isName n=true:=by
 obtain⟨_,_,_,m,_,q⟩:=HD.1 (SI (QV h).1 r);rcases z0o.1 k with k|k
 .obtain ⟨a,ha,rfl⟩:=z1z.1 k;exact z3x.1 q a ha
 .exact z3x.1 m n k
section
variable {p:Pg}{j:Nat}{f:Pr}
def TO(h:QM p=true)(q:f∈p.A){t:S}(u:t∈flL f.body){n:Str}(s:n∈WW t):isName n=true:=by
 have m:=LK (QV h).2.1 q u;unfold knownB at m;rw[z1p]at m;have r:=z3x.1 m.1 n s;rcases q5w (by simpa using r)with k|k
 .exact Tb h k
 .exact Af h q k
def x3p{O:List (List Str)}{t:S}:caO (bkO p O) t=O.getD (caI p t).toNat []:=rfl
def x0b{I:List (List Str)}{t:S}:inAt (bkI p I) t=I.getD (caI p t).toNat []:=rfl
def x3d(h:QM p=true)(r:p.A[j]?=some f){t:S}(u:t∈flL f.body):∃it,(sheetOf p).l[(t.id-1).toNat]?=some it/\it.s=t:=by
 have k:=q1h h r u;unfold q8c at k;obtain⟨it,m,q⟩:=z6l.1 k;exact⟨it,m,q⟩
def T4(h:QM p=true)(m:p.A[j]?=some f){t:S}(q:t∈flL f.body)(O:List (List Str)):DV (dfB p O) t.id=QA (YP (bkO p O) t):=by
 obtain⟨it,k,rfl⟩:=x3d h m q;unfold DV dfB;rw[z0a,z1u,k];rfl
def q2y(h:QM p=true)(m:p.A[j]?=some f){t:S}(q:t∈flL f.body)(I:List (List Str)):DV (usB p I) t.id=QA (KA (bkI p I) t):=by
 obtain⟨it,k,rfl⟩:=x3d h m q;unfold DV usB;rw[z0a,z1u,k];rfl
def T3(h:QM p=true)(k:p.A[j]?=some f){x:Int}(s:Rch (dR p j f) 0 x):x = -1\/Rch (wR p j f) 0 x:=by
 induction s with
 |refl=>exact .inr .refl
 | tail t r m=>
   rcases(T2 h k).1 r with q|⟨_,_,_,_,_,_,_,rfl⟩
   .rcases m with rfl|m
    .exfalso;exact(q2i h k ((RK h k).2 (.inl q))).2.2.1 rfl
    .exact .inr (.tail m q)
   .exact .inl rfl
def x6t(h:QM p=true)(c:p.A[j]?=some f){D:List (List Str)}{x:Str}{a:Int}(ha:Rch (nR p j f D x) 0 a):∃y,plP p j f y/\ixI p j f y=a/\Rch (dR p j f) 0 y:=by
 induction ha with
 |refl=>exact⟨0,.inl rfl,by unfold ixI VO;rw[if_pos rfl],.refl⟩
 | tail e r d=>
   obtain⟨y,t,u,v⟩:=d;obtain⟨s,m,k⟩:=z1z.1 r.2;obtain⟨w,z⟩:=Kz h c ⟨s,m,rfl,rfl⟩;have q:ixI p j f s.src=_:=z2b Prod.fst k;have e2:ixI p j f s.dst=_:=z2b Prod.snd k;have b:=UP w t (q.trans u.symm);exact⟨s.dst,z,e2,.tail v ⟨s,m,b,rfl⟩⟩
def q4m(h:plP p j f y):idN p j f (ixI p j f y)=y:=PD h
theorem x4k{U:List (List Str)}{o:List Str}{x:Str}(z:p.A[j]?=some f)(h:QM p=true)(r:plP p j f y)(k:hitN p j f U o x (ixI p j f y)=true):(y = -1/\x∈o)\/∃t∈flL f.body,t.id=y/\x∈DV U y:=by
 have c:=ZO r;unfold hitN at k;by_cases q:ixI p j f y=(QY f.body+2:Nat)-1
 ·rw[z2t q]at k;exact .inl ⟨UP r (.inr (.inl rfl)) (q.trans ix_exit.symm),XP.1 k⟩
 ·rw[z2r q]at k;by_cases m:0<ixI p j f y
  ·rw[z2t m]at k;have s:=XP.1 k;rw[q4m r]at s;rcases r with rfl|rfl|⟨u,v⟩
   ·unfold ixI VO at m;rw[if_pos rfl]at m;omega
   ·exact absurd ix_exit q
   ·obtain⟨t,b,_,w⟩:=PR h z u v;exact .inr ⟨t,b,w,s⟩
  ·rw[z2r m]at k;cases k
theorem x4j{U:List (List Str)}{o:List Str}{x:Str}(h:QM p=true)(w:p.A[j]?=some f){t:S}(z:t∈flL f.body)(b:x∈DV U t.id):hitN p j f U o x (ixI p j f t.id)=true:=by
 have u:=ZX (QV h).1 w z;have k:plP p j f t.id:=.inr (.inr u);have c:=ZO k;unfold hitN;have s:¬ixI p j f t.id=(QY f.body+2:Nat)-1:=fun v=>by
  have:=UP k (.inr (.inl rfl)) (v.trans ix_exit.symm);omega
 have q:0<ixI p j f t.id:=by
  rcases Int.lt_or_le 0 (ixI p j f t.id)with m|m
  ·exact m
  ·have r:ixI p j f t.id=ixI p j f 0:=by
    have:ixI p j f 0=0:=by unfold ixI VO;rw[if_pos rfl]
    omega
   have:=UP k (.inl rfl) r;omega
 rw[z2r s,z2t q];show inS (DV U (idN p j f (ixI p j f t.id))) x=true;rw[q4m k];exact XP.2 b
theorem q6z{D:List (List Str)}{x:Str}(h:QM p=true)(b:p.A[j]?=some f)(r:plP p j f y)(m:y ≠ -1)(k:PF p j f D x (ixI p j f y)=false):∃t∈flL f.body,t.id=y/\x∈DV D y:=by
 unfold PF at k;by_cases u:ixI p j f y=(QY f.body+2:Nat)-1
 ·exact absurd (UP r (.inr (.inl rfl)) (u.trans ix_exit.symm)) m
 ·rw[z2r u]at k;by_cases q:0<ixI p j f y
  ·rw[z2t q]at k;have s:inS (DV D (idN p j f (ixI p j f y))) x=true:=by simpa using k
   rw[q4m r]at s;rcases r with rfl|rfl|⟨v,w⟩
   ·unfold ixI VO at q;rw[if_pos rfl]at q;omega
   ·exact absurd rfl m
   ·obtain⟨t,c,_,z⟩:=PR h b v w;exact⟨t,c,z,XP.1 s⟩
  ·rw[z2r q]at k;cases k
end
end Go.Ab
