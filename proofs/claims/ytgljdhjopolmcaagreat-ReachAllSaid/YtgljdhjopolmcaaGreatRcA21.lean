/- LAW: sets that grow one by one come to the least; what the reference finds of each procedure is what the rounds find. -/
import Derived.Test.YtgljdhjopolmcaaGreatRcA20
set_option linter.all false
set_option maxRecDepth 100000
set_option maxHeartbeats 16000000
namespace Go.Ab
open Go.Proofs.Tryz
open Go.Proofs
variable {I:List (List Str)}{i k:Nat}{p:Pg}{v:Str}
def Cv{L:List (List Str)}{l:List Str}(m:i<L.length):(L.set i l).getD k []=if k=i then l else L.getD k []:=by
 rw[z0a,z5i,z0a];by_cases h:i=k
 .subst h;rw[if_pos rfl,if_pos m,if_pos rfl];rfl
 .rw [if_neg h,if_neg (z5q h)]
structure GsI(F:List (List Str)->List (List Str))(n:Nat)(L O:List (List Str)):Prop where
 len:O.length=n
 rise:∀o∈O,o.Pairwise ltT
 le:leO O L
 up:leO O (F O)
structure GsF(F:List (List Str)->List (List Str))(n:Nat)(L:List (List Str)):Prop where
 len:∀O,(F O).length=n
 rise:∀O,∀o∈F O,o.Pairwise ltT
 mono:∀A B,leO A B->leO (F A) (F B)
 fix:F L=L
section
variable {F:List (List Str)->List (List Str)}{n:Nat}{L O:List (List Str)}
theorem GsI.zero(m:GsF F n L):GsI F n L (List.replicate n []):=by
 have e:∀(i:Nat)(x:Str),¬x∈(List.replicate n ([]:List Str)).getD i []:=fun i x h=>by
  rw[z0a,z2q]at h;split at h<;>cases h
 exact⟨z2o,fun o l=>by rw[z4j l];exact .nil,fun i x h=>absurd h (e i x),fun i x h=>absurd h (e i x)⟩
theorem GsI.sub(m:GsF F n L)(h:GsI F n L O)(i:Nat):∀x∈O.getD i [],x∈(F O).getD i []:=fun x l=>h.up i x l
theorem GsI.same(l:GsF F n L)(h:GsI F n L O)(m:¬(O.getD i []).length<((F O).getD i []).length):(F O).getD i []=O.getD i []:=
 (AN (YE h.rise i) (YE (l.rise O) i) (h.sub l i) (by omega)).symm
theorem GsI.step(r:GsF F n L)(h:GsI F n L O)(y:i<n):GsI F n L (O.set i ((F O).getD i [])):=by
 have m:i<O.length:=by rw[h.len];exact y
 have w:leO O (O.set i ((F O).getD i [])):=fun k x l=>by
  rw[Cv m];split
  .rename_i q;exact h.up i x (q▸l)
  .exact l
 have u:=r.mono _ _ w;refine⟨by rw[z3e];exact h.len,fun o t=>?_,fun k x l=>?_,fun k x l=>?_⟩
 .rcases z4t t with t|rfl
  .exact h.rise o t
  .exact YE (r.rise O) i
 .rw [Cv m]at l;split at l
  .rename_i q;subst q;have:=r.mono _ _ h.le k x l
   rwa[r.fix]at this
  .exact h.le k x l
 .rw [Cv m]at l;split at l
  .rename_i q;subst q;exact u k x l
  .exact u k x (h.up k x l)
theorem q1c:∀{O:List (List Str)}{i:Nat}{l:List Str},i<O.length->tot (O.set i l)+(O.getD i []).length=tot O+l.length
 |[],i,l,h=>absurd h (z8g _)
 | a::O,0,l,_=>by
   have e:∀(x:List Str)(l:List (List Str)),tot (x::l)=x.length+tot l:=fun x l=>by unfold tot;rw[z1t,z6d]
   rw[z5v,e,e];show l.length+tot O+a.length=_;omega
 | a::O,i+1,l,h=>by
   have e:∀(x:List Str)(l:List (List Str)),tot (x::l)=x.length+tot l:=fun x l=>by unfold tot;rw[z1t,z6d]
   have o:=q1c (O:=O) (i:=i) (l:=l) (by simpa using h);rw[List.set_cons_succ,e,e];have m:(a::O).getD (i+1) []=O.getD i []:=rfl;rw[m];omega
theorem GsI.more(h:GsI F n L O)(m:i<n)(o:(O.getD i []).length<((F O).getD i []).length):tot O<tot (O.set i ((F O).getD i [])):=by
 have:=q1c (O:=O) (i:=i) (l:=(F O).getD i []) (by rw[h.len];exact m);omega
def x0o{A B:List (List Str)}(m:A.length=B.length)(h:∀o∈A,o.Pairwise ltT)(l:∀o∈B,o.Pairwise ltT)(q:leO A B)(r:leO B A):A=B:=by
 have s:=Sw m h l q;have t:=Sw m.symm l h r;exact s.2 t.1
theorem GsI.done(m:GsF F n L)(h:GsI F n L O)(q:∀i,i<n->(F O).getD i []=O.getD i []):F O=O:=by
 refine z8x (by rw[m.len,h.len]) fun i l o=>?_;have:=q i (by rw[m.len]at l;exact l);rw[z0a,z0a,z0c l,z0c o]at this;exact this
theorem GsI.least{it:Nat->List (List Str)}(t:GsF F n L)(h:GsI F n L O)(u:F O=O)(q:∀i x,¬x∈(it 0).getD i [])(y:∀k,it (k+1)=F (it k))(w:L=it k)(l:L.length=n)(m:∀o∈L,o.Pairwise ltT):O=L:=by
 have r:∀k,leO (it k) O:=fun k=>by
  induction k with
  |zero=>exact fun i x z=>absurd z (q i x)
  | succ k a=>
    rw[y,<-u];exact t.mono _ _ a
 exact x0o (by rw[h.len,l]) h.rise m h.le (w▸r k)
end
def q8l{n:Nat}{x:Str}:¬x∈(List.replicate n ([]:List Str)).getD i []:=fun h=>by
 rw[z0a,z2q]at h;split at h<;>cases h
section
variable {p:Pg}
def gsO(l:QM p=true):GsF (rdO p) p.A.length (QX p).F:=
 ⟨fun O=>(N7 p _).len,fun O=>(N7 p _).rise,fun _ _ h=>Ao h,(UZ l).fixO⟩
def gsI(l:QM p=true):GsF (rdI p (QX p).N (QX p).F) p.A.length (QX p).ins:=
 ⟨fun O=>(N6 p _ _ _).len,fun O=>(N6 p _ _ _).rise,fun _ _ h=>Ai l h,(UZ l).fixI⟩
def q4f(l:QM p=true){O:List (List Str)}(h:GsI (rdO p) p.A.length (QX p).F O)(m:rdO p O=O):O=(QX p).F:=by
 obtain⟨k,o⟩:=(UZ l).F;exact h.least (it:=itO p) (gsO l) m (fun i x=>q8l) (fun k=>rfl) o (UO l).1.len (UO l).1.rise
def q4h(l:QM p=true)(h:GsI (rdI p (QX p).N (QX p).F) p.A.length (QX p).ins I)(m:rdI p (QX p).N (QX p).F I=I):I=(QX p).ins:=by
 obtain⟨k,o⟩:=(UZ l).ins;exact h.least (it:=itI p (QX p).N (QX p).F) (gsI l) m (fun i x=>q8l) (fun k=>rfl) o (UO l).2.len (UO l).2.rise
theorem GsI.okO(l:QM p=true){O:List (List Str)}{F:List (List Str)->List (List Str)}(h:GsI F p.A.length (QX p).F O):OkO p O:=
 ⟨h.len,h.rise,fun i m n o=>(UO l).1.sub i m n (h.le i n o)⟩
theorem GsI.okI(l:QM p=true){F:List (List Str)->List (List Str)}(h:GsI F p.A.length (QX p).ins I):OkI p I:=
 ⟨h.len,h.rise,fun i n m=>(UO l).2.sub i n (h.le i n m)⟩
end
section
variable {p:Pg}{j:Nat}{f:Pr}
def Hm(l:UG p=true)(h:p.A[j]?=some f){t:S}:t∈flL f.body ↔ ∃x∈flatU f,x.s=t:=by
 rw[<-show(flatU f).map RI.s=flL f.body from NN 1 0 false f.body,z1z]
def Q1(h:QM p=true)(l:p.A[j]?=some f){y:Int}(m:0<y):VR (ZN p f.name) y=true↔Rch (wR p j f) 0 y:=by
 obtain⟨k,o,q⟩:=U6 h (z1d l);obtain⟨rfl,_⟩:=Vb h o l rfl;rw[ZF,(Aq p f.name).2,Gw q];exact⟨fun h=>h.2,fun h=>⟨m,h⟩⟩
def MB(h:QM p=true)(l:p.A[j]?=some f):ZU p f.name=BW (QQ p j f) f:=by
 obtain⟨k,m,o⟩:=U6 h (z1d l);obtain⟨rfl,_⟩:=Vb h m l rfl;exact P9 o m
def Z8(p:Pg)(f:Pr)(O:List (List Str))(L:List RI):List Str:=L.flatMap fun x=>bif VR (ZN p f.name) x.s.id then QA (YP (bkO p O) x.s)else []
def Oz(p:Pg)(f:Pr)(O:List (List Str)):List Str:=(Z8 p f O (flatU f)).filter (comB p)++((f.B.filter fun x=>x.ref&&inS (Z8 p f O (flatU f)) x.name).map Param.name)
theorem F7(h:QM p=true)(l:p.A[j]?=some f){O:List (List Str)}{n:Str}:n∈Z8 p f O (flatU f) ↔ ∃t∈flL f.body,Rch (wR p j f) 0 t.id/\n∈YP (bkO p O) t:=by
 unfold Z8;rw[z1c];constructor
 ·rintro⟨x,r,o⟩;have m:x.s∈flL f.body:=YA r;have y:=ZX (QV h).1 l m;cases q:VR (ZN p f.name) x.s.id with
  |false=>rw[q]at o;cases o
  | true=>
    rw[q,z1n]at o;exact⟨x.s,m,(Q1 h l (by omega)).1 q,XY.1 o⟩
 ·rintro⟨t,m,u,w⟩;obtain⟨x,r,rfl⟩:=(Hm (QV h).1 l).1 m;have y:=ZX (QV h).1 l m;refine⟨x,r,?_⟩;rw[(Q1 h l (by omega)).2 u,z1n];exact XY.2 w
def Ow(h:QM p=true)(m:p.A[j]?=some f)(O:List (List Str)):QA (Oz p f O)=(rdO p O).getD j []:=by
 have a:j<p.A.length:=(z1k.1 m).1;have c:=GK m;refine FB ltT.irr ltT.trans (XB _) (YE (N7 p _).rise j) fun n=>?_;unfold rdO;rw[XY,Lw a,c];unfold Oz;rw[z0o,z2u,F7 h m,z1z];have q:∀t,t∈flL f.body ↔ ∃it∈itsOf p j f,it.s=t:=fun t=>by
  rw[<-z1z,show(itsOf p j f).map Item.s=flL f.body by
   show(itL (j:Nat) 0 (-1) 0 (QL p.A j) f.body).map Item.s=_;rw[X1]]
 have b:∀{t:S},t∈flL f.body->(lvB p j t.id=true↔Rch (wR p j f) 0 t.id):=fun {t} l=>by
  unfold lvB;rw[c];exact GR h m (.inr (.inr (ZX (QV h).1 m l)))
 constructor
 .rintro (⟨⟨t,l,r,o⟩,u⟩|⟨x,d,rfl⟩)
  .obtain ⟨it,w,rfl⟩:=(q t).1 l;exact⟨it,w,(b l).2 r,by rw[T4 h m l];exact XY.2 o,Gv.2 (.inl (PW.1 u))⟩
  .obtain ⟨r,o⟩:=z2u.1 d;rw[z1p]at o;obtain⟨t,l,u,y⟩:=(F7 h m).1 (XP.1 o.2);obtain⟨it,w,rfl⟩:=(q t).1 l;refine⟨it,w,(b l).2 u,by rw[T4 h m l];exact XY.2 y,Gv.2 (.inr ?_)⟩;have e:x=⟨x.name,true⟩:=by cases x;simp only at o⊢;rw[o.1]
   rw[<-e];exact r
 .rintro ⟨it,w,r,o,u⟩;have l:it.s∈flL f.body:=(q _).2 ⟨it,w,rfl⟩;rw[T4 h m l,XY]at o;have y:∃t∈flL f.body,Rch (wR p j f) 0 t.id/\n∈YP (bkO p O) t:=⟨it.s,l,(b l).1 r,o⟩;rcases Gv.1 u with z|z
  .exact .inl ⟨y,PW.2 z⟩
  .exact .inr ⟨⟨n,true⟩,z2u.2 ⟨z,by rw[z6z];exact XP.2 ((F7 h m).2 y)⟩,rfl⟩
def gvB(p:Pg)(f:Pr)(O:List (List Str))(v:Str)(x:RI):Bool:=VR (ZN p f.name) x.s.id&&inS (QA (YP (bkO p O) x.s)) v
def gvR(p:Pg)(f:Pr)(O:List (List Str))(v:Str)(L:List RI):List Int:=(L.filter (gvB p f O v)).map fun x=>x.s.id
theorem SM(h:QM p=true)(l:p.A[j]?=some f){O:List (List Str)}{y:Int}:y∈gvR p f O v (flatU f) ↔ ∃t∈flL f.body,t.id=y/\Rch (wR p j f) 0 t.id/\v∈DV (dfB p O) t.id:=by
 unfold gvR;rw[z1z];constructor
 ·rintro⟨x,r,rfl⟩;obtain⟨q,o⟩:=z2u.1 r;have m:=YA q;have u:=ZX (QV h).1 l m;unfold gvB at o;rw[z1p]at o;exact⟨x.s,m,rfl,(Q1 h l (by omega)).1 o.1,by rw[T4 h l m];exact XP.1 o.2⟩
 ·rintro⟨t,m,rfl,q,o⟩;obtain⟨x,r,rfl⟩:=(Hm (QV h).1 l).1 m;have u:=ZX (QV h).1 l m;refine⟨x,z2u.2 ⟨r,?_⟩,rfl⟩;unfold gvB;rw[(Q1 h l (by omega)).2 q,XP.2 (by rw[<-T4 h l m];exact o)];rfl
theorem x1f{D:List (List Str)}{x:Str}(h:QM p=true)(w:p.A[j]?=some f){t:S}(y:t∈flL f.body)(z:x∈DV D t.id):PF p j f D x (ixI p j f t.id)=false:=by
 have s:=ZX (QV h).1 w y;have l:plP p j f t.id:=.inr (.inr s);have a:=ZO l;unfold PF;have r:¬ixI p j f t.id=(QY f.body+2:Nat)-1:=fun u=>by
  have:=UP l (.inr (.inl rfl)) (u.trans ix_exit.symm);omega
 have o:0<ixI p j f t.id:=by
  rcases Int.lt_or_le 0 (ixI p j f t.id)with m|m
  ·exact m
  ·have q:ixI p j f t.id=ixI p j f 0:=by
    have:ixI p j f 0=0:=by unfold ixI VO;rw[if_pos rfl]
    omega
   have:=UP l (.inl rfl) q;omega
 rw[z2r r,z2t o];show(!inS (DV D (idN p j f (ixI p j f t.id))) x)=false;rw[q4m l,XP.2 z];rfl
theorem x3c(h:QM p=true)(m:p.A[j]?=some f){a b:Int}(q:dR p j f a b):a ≠ -1:=by
 rcases(T2 h m).1 q with o|⟨l,w,t,r,s,u,rfl,_⟩
 ·exact(q2i h m ((RK h m).2 (.inl o))).2.2.1
 ·have:=ZX (QV h).1 m r;omega
theorem x0y(h:QM p=true)(m:p.A[j]?=some f){O:List (List Str)}{y:Int}:Rch (frR (ZU p f.name) 0 (gvR p f O v (flatU f))) 0 y↔plP p j f y/\Rch (nR p j f (dfB p O) v) 0 (ixI p j f y):=by
 have G:ixI p j f 0=0:=by unfold ixI VO;rw[if_pos rfl]
 have r:=MB h m;have C:∀{y},Rch (frR (ZU p f.name) 0 (gvR p f O v (flatU f))) 0 y->Rch (dR p j f) 0 y:=fun {y} w=>w.mono fun a b l=>by
  rw[r]at l;exact l.2
 constructor
 ·intro w;induction w with
  |refl=>exact⟨.inl rfl,by rw[G];exact .refl⟩
  | @tail a b x q E=>
    obtain⟨u,c⟩:=E;have l:dR p j f a b:=by
     have:=q.2;rw[r]at this;exact this
    obtain⟨g,d⟩:=Kz h m l;refine⟨d,.tail c ⟨?_,(Ly h m g d).2 l⟩⟩;cases D:PF p j f (dfB p O) v (ixI p j f a)with
    |true=>rfl
    | false=>
      exfalso;obtain⟨t,e,rfl,B⟩:=q6z h m u (x3c h m l) D;have R:=ZX (QV h).1 m e;have P:Rch (wR p j f) 0 t.id:=by
       rcases T3 h m (C x)with o|o
       ·omega
       ·exact o
      have N:=ZF.2 ((SM h m).2 ⟨t,e,rfl,P,B⟩);rcases q.1 with o|o
      ·omega
      ·rw[N]at o;cases o
 ·rintro⟨w,Q⟩;have key:∀a,Rch (nR p j f (dfB p O) v) 0 a->∃y,plP p j f y/\ixI p j f y=a/\Rch (frR (ZU p f.name) 0 (gvR p f O v (flatU f))) 0 y:=fun a ha=>by
   induction ha with
   |refl=>exact⟨0,.inl rfl,G,.refl⟩
   | tail x q E=>
     obtain⟨y,u,c,g⟩:=E;obtain⟨s,J,H⟩:=z1z.1 q.2;obtain⟨d,M⟩:=Kz h m ⟨s,J,rfl,rfl⟩;have K:ixI p j f s.src=_:=z2b Prod.fst H;have e2:ixI p j f s.dst=_:=z2b Prod.snd H;have B:=UP d u (K.trans c.symm);refine⟨s.dst,M,e2,.tail g ⟨.inr ?_,s,by rw[r];exact J,B,rfl⟩⟩;cases D:VR (gvR p f O v (flatU f)) y with
     |false=>rfl
     | true=>
       exfalso;obtain⟨t,e,rfl,_,o⟩:=(SM h m).1 (ZF.1 D);have:=x1f h m e o;rw[c,q.1]at this;cases this
  obtain⟨z,x,q,u⟩:=key _ Q;rw[UP w x q.symm];exact u
def ndB(p:Pg)(f:Pr)(I:List (List Str))(o:List Str)(seen:List Int)(v:Str):Bool:=inS o v&&VR seen (-1)||(flatU f).any fun x=>VR seen x.s.id&&inS (QA (KA (bkI p I) x.s)) v
def x4b(h:QM p=true)(l:p.A[j]?=some f){O:List (List Str)}{o:List Str}{seen:List Int}(w:∀y,y∈seen↔Rch (frR (ZU p f.name) 0 (gvR p f O v (flatU f))) 0 y):ndB p f I o seen v=C2 p j f (dfB p O) (usB p I) o v:=by
 rw[z4z,Q3 h l];unfold ndB;rw[z4f,z1p,z3z];constructor
 .rintro (⟨m,s⟩|⟨x,r,m⟩)
  .obtain ⟨_,q⟩:=(x0y h l).1 ((w _).1 (ZF.1 s));refine⟨_,q,?_⟩;unfold hitN;rw[z2t ix_exit];exact m
  .rw [z1p]at m;obtain⟨_,q⟩:=(x0y h l).1 ((w _).1 (ZF.1 m.1));exact⟨_,q,x4j h l (YA r) (by rw[q2y h l (YA r)];exact XP.1 m.2)⟩
 .rintro ⟨a,m,s⟩;obtain⟨y,b,rfl,_⟩:=x6t h l m;have q:=ZF.2 ((w y).2 ((x0y h l).2 ⟨b,m⟩));rcases x4k l h b s with⟨rfl,u⟩|⟨t,z,rfl,u⟩
  .exact .inl ⟨XP.2 u,q⟩
  .obtain ⟨x,r,rfl⟩:=(Hm (QV h).1 l).1 z;refine .inr ⟨x,r,?_⟩;rw[q,XP.2 (by rw[<-q2y h l z];exact u)];rfl
def x4g(h:QM p=true)(m:p.A[j]?=some f)(O I:List (List Str)){q:Str->Bool}(s:∀v,comB p v=true->q v=C2 p j f (dfB p O) (usB p I) (O.getD j []) v):QA ((VW::p.C).filter q)=(rdI p (dfB p O) O I).getD j []:=by
 have l:j<p.A.length:=(z1k.1 m).1;have r:=GK m;refine FB ltT.irr ltT.trans (XB _) (YE (N6 p _ _ _).rise j) fun n=>?_;unfold rdI;rw[XY,Lq l,r,z2u,z1g,<-PW];exact and_congr_right fun o=>by rw[s n o]
end
def Ud(p:Pg)(I O:List (List Str)):List AV:=[eStrs p.C,.sl (p.A.map fun f=>.agg f.cells),.tt,.sl (I.map eStrs),.sl (O.map eStrs),.sl (p.A.map fun f=>VY (flatU f)),.sl (p.A.map fun f=>QG (ZN p f.name)),.sl (p.A.map fun f=>eSteps (ZU p f.name))]
def x3r{n:Str}:comB p n=((n==VW)||inS p.C n):=by
 rw[z4z,PW,z4f,z4n,XP]
def TA(a:Str):QA [a]=[a]:=(Vp (by simp) (fun s=>z8v)).symm
def Cq{l m:List Str}(h:∀s,s∈l↔s∈m):QA l=QA m:=FB ltT.irr ltT.trans (XB l) (XB m) fun s=>by rw[XY,XY,h]
theorem XJ(p:Pg)(m:List AV)(n:Str):aP 36 [.ip (eStrs p.C :: .sl (p.A.map fun f=>.agg f.cells)::m),.str n] (.int .i64 (Zs (fun f=>f.name==n) p.A)):=by
 refine sC DS func36 ?_;conv=>whnf
 repeat' ((refine iM fun _=>?_)<;>conv=>whnf)
 have q:(p.A.map fun f=>AV.agg f.cells).length=p.A.length:=z0s _;refine lI (fun j:Nat=>⟨[(1,.p (.str n)),(11,.p (.sl (p.A.map fun f=>.agg f.cells))),(12,.p (.int .i64 (p.A.map fun f=>AV.agg f.cells).length)),(13,.j j)],[]⟩) (fun j=>j<=p.A.length/\(p.A.drop j).any (fun f=>f.name==n)=p.A.any (fun f=>f.name==n)/\p.A.findIdx (fun f=>f.name==n)=j+(p.A.drop j).findIdx (fun f=>f.name==n)) (fun j=>p.A.length-j) 0 ⟨z1q _,rfl,by simp⟩ ?_;rintro j ⟨o,h,l⟩;conv=>whnf
 repeat' ((first|(refine gX ?_;intros)|((first|apply bD|apply bB)<;>intro _<;>try omega))<;>conv=>whnf)
 ·exact RetK.int (G0 (p:=fun f:Pr=>f.name==n) (by omega) (by assumption) h l).symm
 ·exact nX (j+1) ⟨by omega,by rw[<-h,X9 (p:=fun f:Pr=>f.name==n) (by omega) (by assumption)],by rw[l,q3a (p:=fun f:Pr=>f.name==n) (by omega) (by assumption)];omega⟩
 ·exact RetK.int (by rw[L0];rw[<-h,DZ (by omega)])
theorem XD(l:List Int)(x:Int):aP 84 [QG l,.int .i64 x] (.bool (VR l x)):=by
 refine sC Qg func84 ?_;conv=>whnf
 repeat' ((refine iM fun _=>?_)<;>conv=>whnf)
 have q:(l.map (AV.int .i64)).length=l.length:=z0s _;refine lI (fun j:Nat=>⟨[(1,.j x),(7,.p (QG l)),(8,.p (.int .i64 (l.map (AV.int .i64)).length)),(9,.j j)],[]⟩) (fun j=>j<=l.length/\(l.drop j).any (fun y=>decide (x=y))=VR l x) (fun j=>l.length-j) 0 ⟨z1q _,rfl⟩ ?_;rintro j ⟨o,m⟩;rcases z1w j l.length with h|h
 ·conv=>whnf
  repeat' ((first|(refine gX ?_;intros)|(apply bD<;>intro _<;>try omega))<;>conv=>whnf)
  all_goals first
   |exact RetK.tt (by rw[<-m,Z0 h (by simp_all)])
   |exact nX (j+1) ⟨h,by rw[X9 h (by simp;omega)];exact m⟩
 ·conv=>whnf
  repeat' (apply bD<;>intro _<;>first|omega|conv=>whnf)
  exact RetK.ff (by rw[<-m,DZ h])
theorem Pn(p:Pg)(t:List AV)(l:List Str)(a:l.length<=1000000):SpecH prog 155 ([AV.ip (eStrs p.C::t),eStrs l].map .p) [] (OneRow (Kh (l.filter (comB p))) (l.filter (comB p)=[])):=by
 refine sK GN func155 ?_;conv=>whnf
 repeat' ((refine iM fun _=>?_)<;>conv=>whnf)
 have z:(l.map AV.str).length=l.length:=z0s _;refine lJ (fun x:Nat×List Str=>⟨[(0,.p (.ip (eStrs p.C::t))),(5,.hd 0 0 x.2.length),(8,.p (eStrs l)),(9,.p (.int .i64 (l.map AV.str).length)),(10,.j x.1)],[(0,.own 9 1 (x.2.map .str))]⟩) (fun x=>x.1<=l.length/\x.2=(l.take x.1).filter (comB p)/\x.2.length<=x.1) (fun x=>l.length-x.1) (0,[]) (lM [(0,.own 9 1 [])]) ⟨z1q _,by simp,by simp⟩ ?_;rintro⟨j,h⟩ ⟨u,q,w⟩;simp only at u q w⊢;rcases z1w j l.length with r|r
 ·have o:=z1y r;have y:=QF p.C l[j];have m:comB p l[j]=((l[j]==VW)||inS p.C l[j]):=x3r;generalize inS p.C l[j]=ig at*
  conv=>whnf
  repeat' ((first|(refine gX ?_;intros)|refine cP y ?_|refine XK (by simp) (by rw[z0s];omega) ?_|((first|apply bD|apply bB)<;>intro _<;>try omega))<;>conv=>whnf)
  all_goals first
   | (have s:comB p l[j]=true:=by rw[m,show(l[j]==VW)=true by assumption];rfl
      exact⟨(j+1,h++[l[j]]),⟨r,by simp only;rw[o,z2j,z2m s,q];rfl,by simp;omega⟩,by simp only;omega,Le.of_eq (by simp only[z0e,z1v];rfl)⟩)
   | (have s:comB p l[j]=true:=by rw[m,show ig=true by assumption,z8h]
      exact⟨(j+1,h++[l[j]]),⟨r,by simp only;rw[o,z2j,z2m s,q];rfl,by simp;omega⟩,by simp only;omega,Le.of_eq (by simp only[z0e,z1v];rfl)⟩)
   | (have s:comB p l[j]=false:=by rw[m,show(l[j]==VW)=false by assumption,show ig=false by assumption];rfl
      exact nX (j+1,h) ⟨r,by simp only;rw[o,z2j,z2n (by rw[s];decide),q];simp,by simp only;omega⟩)
 ·rw[z1f r]at q;subst q;conv=>whnf
  repeat' (apply bD<;>intro _<;>first|omega|conv=>whnf)
  all_goals exact z4g _ (z2x _) (UI rfl)
def Fy(p:Pg)(m:List AV)(l:List Str)(o:l.length<=1000000):aP 155 [.ip (eStrs p.C::m),eStrs l] (eStrs (l.filter (comB p))):=(Pn p m l o).toP (fun h=>by rw[h];rfl) fun _ _ _ _ h=>h.2.2
theorem Io(t:S){j:Nat}(ha:t.args.length<=8):(H5 t j).length<=100000000:=by
 have h:=R6 t;have l:=HK Ct (t.args.take j);have m:(t.args.take j).length*1048577<=8*1048577:=z2c _ (by simp;omega);unfold H5;simp only[z0e];omega
def x0f(t:S):(if t.name=[]then []else [t.name]:List Str).length<=1:=by split<;>simp
theorem WK(p:Pg)(I O:List (List Str))(t:S)(U:QM p=true)(T:OkO p O)(ht:t∈WE p):aP 85 [.ip (Ud p I O),.agg t.cells] (eStrs (QA (YP (bkO p O) t))):=by
 refine sC HE func85 ?_;conv=>whnf
 by_cases M:t.kind=4
 ·obtain⟨k,Z,w,c,_,N⟩:=Wp U ht M;have e:YP (bkO p O) t=SU p t (prA p k) (O.getD k []):=by
   unfold YP;rw[if_neg (by omega),if_neg (by omega),if_neg (by omega),if_pos M,<-c];show SU p t (caP p t) (caO (bkO p O) t)=_;rw[x3p,w];rfl
  rw[e];have hA:=XJ p (.tt :: .sl (I.map eStrs) :: .sl (O.map eStrs) :: .sl (p.A.map fun f=>VY (flatU f)) :: .sl (p.A.map fun f=>QG (ZN p f.name))::[.sl (p.A.map fun f=>eSteps (ZU p f.name))]) t.D;have d:Zs (fun f:Pr=>f.name==t.D) p.A=k:=w;rw[d]at hA;obtain⟨f,Q⟩ : ∃f,f=prA p k:=⟨_,rfl⟩;obtain⟨o,R⟩ : ∃o,o=O.getD k []:=⟨_,rfl⟩;have V:(p.A.map fun f=>AV.agg f.cells)[k]?=some (.agg f.cells):=by rw[z1u,Vf Z,Q];rfl
  have H:(O.map eStrs)[k]?=some (eStrs o):=by
   have hkO:k<O.length:=by rw[T.len];exact Z
   rw[R,z1u,z0a,z0c hkO];rfl
  have hol:o.length<=25:=by rw[R];exact T.len25 U k
  have hal:=(BZ U ht M).2;have hG:=Fy p (.sl (p.A.map fun f=>.agg f.cells) :: .tt :: .sl (I.map eStrs) :: .sl (O.map eStrs) :: .sl (p.A.map fun f=>VY (flatU f)) :: .sl (p.A.map fun f=>QG (ZN p f.name))::[.sl (p.A.map fun f=>eSteps (ZU p f.name))]) o (by omega);have hfl:(o.filter (comB p)).length<=o.length:=z2s _ _;rw[<-Q,<-R];rw[<-Q]at N;have h5l:f.B.length=t.args.length:=by
   have:=z2b List.length N
   rwa[z0s,z0s]at this
  have hpm:(f.B.map fun a=>AV.agg a.cells).length=f.B.length:=z0s _;have hrf:∀(j:Nat)(h:j<f.B.length)(h':j<t.args.length),t.args[j].ref=f.B[j].ref:=fun j h h'=>by
   have h6:(f.B.map Param.ref)[j]'(by simpa using h)=(t.args.map Arg.ref)[j]'(by simpa using h'):=by simp only[N]
   rw[z4b,z4b]at h6;exact h6.symm
  have hhl:=x0f t;have hrl:=fun j=>Lg t f o j;have E:∀j,t.args.length<=j->SU p t f o=((if t.name=[]then []else [t.name])++B5 t f o j)++o.filter (comB p):=fun j hj=>by
   unfold SU B5;rw[z1f (l:=t.args.zip f.B) (by rw[List.length_zip];omega),z1f (l:=t.args.zip f.B) (by rw[List.length_zip];omega)]
  clear T Z w c e d ht R Q N;generalize u:(if t.name=[]then []else [t.name]:List Str)=hd0 at*
  repeat' ((first|(refine iM fun _=>?_)|refine z1s rfl ?_|refine aD ?_|refine bP ?_|refine XK (es:=[]) rfl (by simp) ?_|refine cP hA ?_|refine iT V ?_|((first|apply bD|apply bN)<;>intro _<;>try omega))<;>conv=>whnf)
  all_goals
   refine LoopK.inv ZI (fun j:Nat=>⟨[(0,.p (.ip (Ud p I O))),(3,.p (.ip t.cells)),(5,.hd 0 0 (hd0++B5 t f o j).length),(6,.j k),(47,.p (.sl (f.B.map fun a=>.agg a.cells))),(48,.p (.int .i64 (f.B.map fun a=>AV.agg a.cells).length)),(49,.j j)],[(0,.own 9 1 ((hd0++B5 t f o j).map .str))]⟩) (fun j=>j<=f.B.length) (fun j=>f.B.length-j) 0 ?_ (z1q _) ?_
   ·first
     | (have r:(t.name==[])=true:=by assumption
        rw[if_pos (eq_of_beq r)]at u;subst u;exact lM [(0,.own 9 1 [])])
     | (have r:(t.name==[])=false:=by assumption
        rw[if_neg (by simpa using r)]at u;subst u;exact Le.of_eq rfl)
   intro j hj;have hrlj:=hrl j;rcases z1w j f.B.length with q|q
   ·have z:j<t.args.length:=by omega
    have b:=TC (O:=o) (f:=f) z q;rw[hrf j q z]at b;have hI:=QF o f.B[j].name;have Y:(t.args.map fun a=>AV.agg a.cells)[j]?=some (.agg t.args[j].cells):=by rw[z1u,z0c z];rfl
    have m:hd0++B5 t f o (j+1)=(hd0++B5 t f o j)++(if f.B[j].ref=true/\inS o f.B[j].name=true then [t.args[j].name]else []):=by rw[b,z1m]
    have hal2:(hd0++B5 t f o j).length<=1000:=by rw[z0e];omega
    clear b;generalize inS o f.B[j].name=ig at*
    generalize hd0++B5 t f o j=A at*
    conv=>whnf
    repeat' ((first|refine dA ?_|(refine gX ?_;intros)|refine iT H ?_|refine cP hI ?_|refine iT Y ?_|refine XK (by simp) (by rw[z0s];omega) ?_|((first|apply bD|apply bB)<;>intro _<;>try omega))<;>conv=>whnf)
    all_goals first
     | (have r:f.B[j].ref=true:=by assumption
        have y:ig=true:=by assumption
        rw[if_pos ⟨r,y⟩]at m;exact⟨j+1,q,by omega,Le.of_eq (by simp only[m,z0e,z1v];rfl)⟩)
     | (have y:ig=false:=by assumption
        rw[if_neg (fun J=>by rw[y]at J;cases J.2),z2y]at m;exact⟨j+1,q,by omega,Le.of_eq (by rw[m];rfl)⟩)
     | (have r:f.B[j].ref=false:=by assumption
        rw[if_neg (fun J=>by rw[r]at J;cases J.1),z2y]at m;exact⟨j+1,q,by omega,Le.of_eq (by rw[m];rfl)⟩)
   ·have g:=E j (by omega);have hcll:(SU p t f o).length<=1000:=by rw[g,z0e,z0e];omega
    have P:=XQ (SU p t f o) (by omega);have hAl:(hd0++B5 t f o j).length<=1000:=by rw[z0e];omega
    rw[show eStrs (SU p t f o)=.sl ((hd0++B5 t f o j).map AV.str++(o.filter (comB p)).map AV.str) by rw[g,eStrs,z1v]]at P;generalize SU p t f o=C at*
    generalize hd0++B5 t f o j=A at*
    generalize o.filter (comB p)=G at*
    conv=>whnf
    repeat' ((first|refine aD ?_|refine iT H ?_|refine cP hG ?_|refine XM _ (by simp) (by rw[z0s];omega) ?_|(refine XG P (.cons (.hd rfl (by simp)) .nil) ?_;rintro _ rfl)|(apply bD<;>intro _<;>try omega))<;>conv=>whnf)
    all_goals first
     |exact RetK.p rfl
 ·have P:=XQ [VW,t.name] (by simp);have e2:t.kind=2->QA (YP (bkO p O) t)=QA [VW,t.name]:=fun c=>by
   rw[show YP (bkO p O) t=[t.name,VW] by unfold YP;rw[if_neg (by omega),if_pos c]];exact Cq fun s=>by simp[or_comm]
  have e1:t.kind=1->QA (YP (bkO p O) t)=[t.name]:=fun w=>by
   rw[show YP (bkO p O) t=[t.name] by unfold YP;rw[if_pos w],TA]
  have e9:t.kind=9->QA (YP (bkO p O) t)=[EI]:=fun r=>by
   rw[show YP (bkO p O) t=[EI] by unfold YP;rw[if_neg (by omega),if_neg (by omega),if_pos r],TA]
  have e0:¬t.kind=1->¬t.kind=2->¬t.kind=9->QA (YP (bkO p O) t)=[]:=fun w c r=>by
   rw[show YP (bkO p O) t=[] by unfold YP;rw[if_neg w,if_neg c,if_neg r,if_neg M]];exact(Vp .nil (fun s=>z8v)).symm
  generalize QA (YP (bkO p O) t)=D at*
  generalize QA [VW,t.name]=D2 at*
  repeat' ((first|refine z1s rfl ?_|refine aD ?_|refine z5l (fun x K=>by rcases z0i.1 K with rfl;rfl) rfl ?_|refine z5l (fun x K=>by rcases z1g.1 K with rfl|K;rfl;rcases z0i.1 K with rfl;rfl) rfl ?_|(refine XG P (.cons (.hd rfl rfl) .nil) ?_;rintro _ rfl)|(apply bD<;>intro _<;>try omega))<;>conv=>whnf)
  all_goals first
   |(rw[e1 (by assumption)];exact⟨_,.hd rfl rfl,rfl⟩)
   |(rw[e9 (by assumption)];exact⟨_,.hd rfl rfl,rfl⟩)
   |(rw[e2 (by assumption)];exact RetK.p rfl)
   |(rw[e0 (by assumption) (by assumption) (by assumption)];exact⟨_,.p Sub.nils,rfl⟩)
theorem YB(p:Pg)(I O:List (List Str))(t:S)(K:QM p=true)(G:OkI p I)(P:t∈WE p):aP 165 [.ip (Ud p I O),.agg t.cells] (eStrs (QA (KA (bkI p I) t))):=by
 refine sC HI func165 ?_;conv=>whnf
 have H:=N5 t.x;have hnx:=ZM t.x;have g:t.kind=4->∃k:Nat,Zs (fun f:Pr=>f.name==t.D) p.A=k/\(I.map eStrs)[k]?=some (eStrs (I.getD k []))/\(I.getD k []).length<=25/\(I.getD k []).filter (comB p)=I.getD k []/\inAt (bkI p I) t=I.getD k []/\t.args.length<=8:=fun w=>by
  obtain⟨k,hk,R,_⟩:=Wp K P w;have M:k<I.length:=by rw[G.len];exact hk
  refine⟨k,R,?_,G.len25 K k,List.filter_eq_self.2 fun n B=>G.sub k n B,by rw[x0b,R];rfl,(BZ K P w).2⟩;rw[z1u,z0a,z0c M];rfl
 have hml:(QC t.x).length<=1048577:=by omega
 conv=>whnf
 by_cases w:t.kind=4
 ·obtain ⟨k,z,d,N,u,s,hal⟩:=g w;have U:=XJ p (.tt :: .sl (I.map eStrs) :: .sl (O.map eStrs) :: .sl (p.A.map fun f=>VY (flatU f)) :: .sl (p.A.map fun f=>QG (ZN p f.name))::[.sl (p.A.map fun f=>eSteps (ZU p f.name))]) t.D;rw[z]at U;obtain⟨o,Z⟩ : ∃o,o=I.getD k []:=⟨_,rfl⟩;rw[<-Z]at d N u s;have V:=Fy p (.sl (p.A.map fun f=>.agg f.cells) :: .tt :: .sl (I.map eStrs) :: .sl (O.map eStrs) :: .sl (p.A.map fun f=>VY (flatU f)) :: .sl (p.A.map fun f=>QG (ZN p f.name))::[.sl (p.A.map fun f=>eSteps (ZU p f.name))]) o (by omega);rw[u]at V;have Q:H5 t 0=QC t.x:=by unfold H5 Rp;rw[if_neg (by omega),z5f,z6w,z2y,z2y]
  have hl:(t.args.map fun a=>AV.agg a.cells).length=t.args.length:=z0s _;have c:∀j,t.args.length<=j->KA (bkI p I) t=H5 t j++o:=fun j h=>by
   unfold KA H5;rw[if_pos w,z1f h,s]
  clear G P g z Z u s;refine ZV 0 rfl H (.cons (.p (Sub.refl _)) .nil) (fun l=>?_) (fun q e sz es y=>?_);rotate_left;obtain⟨rfl,rfl,rfl⟩:=y
  rotate_right
  all_goals
   conv=>whnf
   repeat' ((first|(refine iM fun _=>?_)|(apply bD<;>intro _<;>try omega))<;>conv=>whnf)
  all_goals
   refine LoopK.inv ZI (fun j:Nat=>⟨[(0,.p (.ip (Ud p I O))),(3,.p (.ip t.cells)),(5,.hd 0 0 (H5 t j).length),(21,.p (.sl (t.args.map fun a=>.agg a.cells))),(22,.p (.int .i64 (t.args.map fun a=>AV.agg a.cells).length)),(23,.j j)],[(0,.own 9 1 ((H5 t j).map .str))]⟩) (fun j=>j<=t.args.length) (fun j=>t.args.length-j) 0 ?_ (z1q _) ?_
   ·first
     | (rw[Q,l]
        exact lM [(0,.own 9 1 [])])
     | (rw[Q]
        exact Le.of_eq (by rw[z0s];rfl))
   intro j hj;have Y:=Io t (j:=j) (by omega);have E:=fun h=>RH (t:=t) (j:=j) h;rcases z1w j t.args.length with r|r
   ·have hnl:=ZM t.args[j].x;have J:=JJ t.args[j].x;generalize H5 t j=acc at*
    conv=>whnf
    repeat' ((first|(refine gX ?_;intros)|refine cP J ?_|refine XM _ (by simp) (by simp;omega) ?_|refine pS ?_|((first|apply bD|apply bB)<;>intro _<;>try omega))<;>conv=>whnf)
    all_goals
     refine⟨j+1,r,by omega,Le.of_eq ?_⟩;first
      | (have B:usA t.args[j]=[t.args[j].name]++QC t.args[j].x:=by rw[usA,if_pos (by assumption)]
         rw[E r,B];simp only[z0e,z1v,z0s,<-z1m,<-z4l];rfl)
      | (have B:usA t.args[j]=QC t.args[j].x:=by rw[usA,if_neg (by rw[show t.args[j].ref=false by assumption];decide)];rfl
         rw[E r,B];simp only[z0e,z1v,z0s];rfl)
   ·have b:=c j r;have m:=XQ (KA (bkI p I) t) (by rw[b,z0e];omega);rw[show eStrs (KA (bkI p I) t)=.sl ((H5 t j).map AV.str++o.map AV.str) by rw[b,eStrs,z1v]]at m;generalize KA (bkI p I) t=C at*
    generalize H5 t j=acc at*
    conv=>whnf
    repeat' ((first|refine dA ?_|refine aD ?_|refine cP U ?_|refine iT d ?_|refine cP V ?_|refine XM _ (by simp) (by simp;omega) ?_|(refine XG m (.cons (.hd rfl (by simp)) .nil) ?_;rintro _ rfl)|(apply bD<;>intro _<;>try omega))<;>conv=>whnf)
    all_goals first
     |exact RetK.p rfl
 ·have hu:KA (bkI p I) t=Rp t:=by unfold KA;rw[if_neg w]
  rw[hu];by_cases T:t.kind=2
  ·have e:Rp t=QC t.x++[VW]:=by unfold Rp;rw[if_pos T]
   rw[e];have m:=XQ (QC t.x++[VW]) (by rw[z0e];simp;omega);rw[show eStrs (QC t.x++[VW])=.sl ((QC t.x).map AV.str++[.str VW]) by rw[eStrs,z1v];rfl]at m;refine ZV 0 rfl H (.cons (.p (Sub.refl _)) .nil) (fun l=>?_) (fun q e sz es y=>?_);rotate_left;obtain⟨rfl,rfl,rfl⟩:=y
   rotate_right
   ·rw[l]at m⊢;conv=>whnf
    repeat' ((first|refine gX ?_|refine XK (es:=[]) rfl (by simp) ?_|(refine XG m (.cons (.hd rfl rfl) .nil) ?_;rintro _ rfl)|(apply bD<;>intro _<;>try omega))<;>conv=>whnf)
    all_goals first
     |exact RetK.p rfl
   ·generalize QC t.x=nx at*
    conv=>whnf
    repeat' ((first|refine gX ?_|refine pS ?_|(refine XG m (.cons (.hd rfl (by simp)) .nil) ?_;rintro _ rfl)|(apply bD<;>intro _<;>try omega))<;>conv=>whnf)
    all_goals first
     |exact RetK.p rfl
  ·have e:Rp t=QC t.x:=by unfold Rp;rw[if_neg T,z2y]
   rw[e];have m:=XQ (QC t.x) (by omega);refine ZV 0 rfl H (.cons (.p (Sub.refl _)) .nil) (fun l=>?_) (fun q e sz es y=>?_);rotate_left;obtain⟨rfl,rfl,rfl⟩:=y
   rotate_right
   ·rw[l]at m⊢;conv=>whnf
    repeat' ((first|refine cP m ?_ (ha:=.cons Sub.nils .nil)|(apply bD<;>intro _<;>try omega))<;>conv=>whnf)
    all_goals first
     |exact RetK.p rfl
   ·generalize QC t.x=nx at*
    conv=>whnf
    repeat' ((first|(refine XG m (.cons (.hd rfl (by simp)) .nil) ?_;rintro _ rfl)|(apply bD<;>intro _<;>try omega))<;>conv=>whnf)
    all_goals first
     |exact RetK.p rfl
def q1p(b:Bool):Sub (.bool b) (bv b):=fun σ v h=>by
 cases h;cases b
 .exact .ff
 .exact .tt
theorem Oj{f:Pr}{O:List (List Str)}(h:QM p=true)(m:OkO p O){j:Nat}(l:p.A[j]?=some f)(k:Nat):(Z8 p f O ((flatU f).take k)).length<=6800:=by
 have o:=(QV h).1;have t:(Z8 p f O ((flatU f).take k)).length<=((flatU f).take k).length*34:=WM _ fun x r=>by
  have q:x.s∈WE p:=z1c.2 ⟨f,z1d l,YA (z7z r)⟩;cases VR (ZN p f.name) x.s.id with
  |false=>exact z1q _
  | true=>
    have:=UL (YP (bkO p O) x.s);have:=PV h m q;show(QA _).length<=_;omega
 have u:=WL o l;have w:((flatU f).take k).length*34<=200*34:=z2c _ (by rw[z1r];omega);omega
def Er{f:Pr}{O:List (List Str)}{L:List RI}(h:k<L.length):Z8 p f O (L.take (k+1))=Z8 p f O (L.take k)++(bif VR (ZN p f.name) L[k].s.id then QA (YP (bkO p O) L[k].s)else []):=by
 unfold Z8;rw[z1y h,z3g];simp
section
variable {p:Pg}{i:Nat}{f:Pr}
def Vo(h:p.A[i]?=some f):(p.A.map fun f=>VY (flatU f))[i]?=some (VY (flatU f)):=by rw[z1u,h];rfl
def Li(h:p.A[i]?=some f):(p.A.map fun f=>QG (ZN p f.name))[i]?=some (QG (ZN p f.name)):=by rw[z1u,h];rfl
def AM(h:p.A[i]?=some f):(p.A.map fun f=>eSteps (ZU p f.name))[i]?=some (eSteps (ZU p f.name)):=by rw[z1u,h];rfl
def R0(h:p.A[i]?=some f):(p.A.map fun f=>AV.agg f.cells)[i]?=some (.agg f.cells):=by rw[z1u,h];rfl
def R1{O:List (List Str)}(h:i<O.length):(O.map eStrs)[i]?=some (eStrs (O.getD i [])):=by
 rw[z1u,z0a,z0c h];rfl
end
theorem Ah(p:Pg)(I O:List (List Str))(g:QM p=true)(Q:OkO p O)(i:Nat)(f:Pr)(r:p.A[i]?=some f):SpecH prog 153 ([AV.ip (Ud p I O),.int .i64 i].map .p) [] (OneRow (Kh ((rdO p O).getD i [])) False):=by
 have hm:=(QV g).1;rw[<-Ow g r];have hlU:=WL hm r;have hLl:=WU (flatU f);have z:=Oj g Q r;have b:=fun k E=>Er (p:=p) (f:=f) (O:=O) (L:=flatU f) (k:=k) E;have K:=Vo r;have M:=Li r;have Z:=R0 r;have T:=fun(k:Nat) (E:k<(flatU f).length)=>WK p I O (flatU f)[k].s g Q (z1c.2 ⟨f,z1d r,YA (z1h E)⟩);have w:=fun(k:Nat) (E:k<(flatU f).length)=>z2g (UL _) (PV g Q (t:=(flatU f)[k].s) (z1c.2 ⟨f,z1d r,YA (z1h E)⟩));have hpar:f.B.length<=8:=by
  have:=Q2 g i
  rwa[GK r]at this
 have u:Oz p f O=(Z8 p f O ((flatU f).take (flatU f).length)).filter (comB p)++((f.B.filter fun x=>x.ref&&inS (Z8 p f O ((flatU f).take (flatU f).length)) x.name).map Param.name):=by rw[z4k];rfl
 refine sK HO func153 ?_;conv=>whnf
 rw[u];clear u Q;repeat' ((first|(refine iM fun _=>?_)|refine iT K ?_)<;>conv=>whnf)
 refine lJ (fun k:Nat=>⟨[(0,.p (.ip (Ud p I O))),(1,.j i),(5,.hd 0 0 (Z8 p f O ((flatU f).take k)).length),(17,.p (VY (flatU f))),(18,.p (.int .i64 ((flatU f).map fun i=>AV.agg i.cells).length)),(19,.j k)],[(0,.own 9 1 ((Z8 p f O ((flatU f).take k)).map .str))]⟩) (fun k=>k<=(flatU f).length) (fun k=>(flatU f).length-k) 0 (lM [(0,.own 9 1 [])]) (z1q _) ?_;intro k E;have hgk:=z k;rcases z1w k (flatU f).length with m|m
 ·have P:=b k m;have Y:=XD (ZN p f.name) (flatU f)[k].s.id;have U:=T k m;have hDlk:=w k m;clear T w b z;generalize VR (ZN p f.name) (flatU f)[k].s.id=lv at*
  generalize QA (YP (bkO p O) (flatU f)[k].s)=D at*
  generalize Z8 p f O ((flatU f).take k)=o at*
  cases lv;all_goals
   conv=>whnf
   repeat' ((first|refine dA ?_|(refine gX ?_;intros)|refine iT M ?_|refine cP Y ?_|refine cP U ?_|refine XM _ (by simp) (by rw[z0s];omega) ?_|refine Br.tt ?_|refine Br.ff ?_|(apply bD<;>intro _<;>try omega))<;>conv=>whnf)
  all_goals first
   |exact⟨k+1,m,by omega,Le.of_eq (by rw[P,z1o,z2y];rfl)⟩
   |exact⟨k+1,m,by omega,Le.of_eq (by rw[P];simp only[z1n,z0e,z1v,z0s];rfl)⟩
 ·obtain rfl:k=(flatU f).length:=by omega
  have hG:=fun l (hl:l.length<=1000000)=>Pn p (.sl (p.A.map fun f=>.agg f.cells) :: .tt :: .sl (I.map eStrs) :: .sl (O.map eStrs) :: .sl (p.A.map fun f=>VY (flatU f)) :: .sl (p.A.map fun f=>QG (ZN p f.name))::[.sl (p.A.map fun f=>eSteps (ZU p f.name))]) l hl;clear T w b z K M;generalize Z8 p f O ((flatU f).take (flatU f).length)=G at*
  have V:=hG G (by omega);have hGl:(G.filter (comB p)).length<=G.length:=z2s _ _;generalize G.filter (comB p)=C at*
  have hGm:(G.map AV.str).length=G.length:=z0s _;have hpm:(f.B.map fun a=>AV.agg a.cells).length=f.B.length:=z0s _;clear hG;conv=>whnf
  repeat' (first|((first|(refine iM fun _=>?_)|refine iT Z ?_);conv=>whnf)|(apply bD<;>intro _<;>first|omega|conv=>whnf)|(refine ZV 1 rfl V (.cons (.p (Sub.refl _)) (.cons (.hd rfl (by simp)) .nil)) (fun N=>?_) ?_;rotate_left;rintro _ _ _ _ ⟨rfl,rfl,rfl⟩;all_goals conv=>whnf))
  all_goals
   refine LoopK.inv ZI (fun x:Nat×List Str=>⟨[(5,.hd 0 0 G.length),(8,.hd 1 0 x.2.length),(52,.p (.sl (f.B.map fun a=>.agg a.cells))),(53,.p (.int .i64 (f.B.map fun a=>AV.agg a.cells).length)),(54,.j x.1)],[(1,.own 9 1 (x.2.map .str)),(0,.own 9 1 (G.map .str))]⟩) (fun x=>x.1<=f.B.length/\x.2=C++((f.B.take x.1).filter fun y=>y.ref&&inS G y.name).map Param.name/\x.2.length<=C.length+x.1) (fun x=>f.B.length-x.1) (0,C) ?_ ⟨z1q _,by simp,by simp⟩ ?_
   ·first
     | (rw[N]
        exact lM [(1,.own 9 1 [])])
     |exact Le.of_eq (by rw[z0s];rfl)
     |exact Le.of_eq rfl
   rintro⟨q,o⟩ ⟨h4,e,h6⟩;simp only at h4 e h6⊢;rcases z1w q f.B.length with H|H
   ·have d:=z1y H;have J:=QF G f.B[q].name;cases c:inS G f.B[q].name;all_goals
     rw[c]at J;conv=>whnf
     repeat' ((first|(refine gX ?_;intros)|(refine QB J (.cons (.hd rfl (by simp)) (.cons (.p (Sub.refl _)) .nil)) (by rintro _ rfl;rfl) ?_;rintro _ rfl)|refine XK (by simp) (by rw[z0s];omega) ?_|refine Br.tt ?_|refine Br.ff ?_|((first|apply bD|apply bB)<;>intro _<;>try omega))<;>conv=>whnf)
    all_goals first
     | (have R:f.B[q].ref=false:=by assumption
        exact nX (q+1,o) ⟨H,by simp only;rw[d,z2j,z2n (by rw[R];simp),e];simp,by simp only;omega⟩)
     | (have R:f.B[q].ref=true:=by assumption
        exact⟨(q+1,o++[f.B[q].name]),⟨H,by simp only;rw[d,z2j,z2m (by rw[R,c];rfl),z1v,e,z1m];rfl,by simp;omega⟩,by simp only;omega,Le.of_eq (by simp only[z0e,z1v];rfl)⟩)
     | (have h8:inS G f.B[q].name=false:=by assumption
        exact nX (q+1,o) ⟨H,by simp only;rw[d,z2j,z2n (by rw[c];simp),e];simp,by simp only;omega⟩)
   ·rw[z1f H]at e;rw[<-e];have hS:=Yi o (by omega);conv=>whnf
    repeat' ((first|(refine ZV 2 rfl hS (.cons (.hd rfl (by simp)) .nil) (fun h=>h.elim) ?_;rintro _ _ _ _ ⟨rfl,rfl,rfl⟩)|(apply bD<;>intro _<;>try omega))<;>conv=>whnf)
    all_goals first
     |exact z4g _ (z2x _) (UI (by rw[z0s]))
theorem UQ(p:Pg)(I O:List (List Str))(e:QM p=true)(d:OkO p O)(i:Nat)(f:Pr)(r:p.A[i]?=some f)(v:Str):aP 99 [.ip (Ud p I O),.int .i64 i,.str v] (QG (gvR p f O v (flatU f))):=by
 refine sC GP func99 ?_;conv=>whnf
 have G:=(QV e).1;have E:=WL G r;have B:=WU (flatU f);have y:=Vo r;have z:=Li r;have c:=fun(k:Nat) (b:k<(flatU f).length)=>WK p I O (flatU f)[k].s e d (z1c.2 ⟨f,z1d r,YA (z1h b)⟩);have a:gvR p f O v (flatU f)=((flatU f).filter (gvB p f O v)).map fun x=>x.s.id:=rfl;rw[a];clear d;repeat' ((first|(refine iM fun _=>?_)|refine iT y ?_)<;>conv=>whnf)
 refine lJ (fun x:Nat×List Int=>⟨[(0,.p (.ip (Ud p I O))),(1,.j i),(2,.p (.str v)),(7,.hd 0 0 x.2.length),(16,.p (VY (flatU f))),(17,.p (.int .i64 ((flatU f).map fun i=>AV.agg i.cells).length)),(18,.j x.1)],[(0,.own 3 1 (x.2.map (.int .i64)))]⟩) (fun x=>x.1<=(flatU f).length/\x.2=(((flatU f).take x.1).filter (gvB p f O v)).map (fun x=>x.s.id)/\x.2.length<=x.1) (fun x=>(flatU f).length-x.1) (0,[]) (lM [(0,.own 3 1 [])]) ⟨z1q _,by simp,by simp⟩ ?_;rintro⟨k,l⟩ ⟨b,m,g⟩;simp only at b m g⊢;rcases z1w k (flatU f).length with h|h
 ·have q:=z1y h;have w:=XD (ZN p f.name) (flatU f)[k].s.id;have t:=c k h;have o:gvB p f O v (flatU f)[k]=(VR (ZN p f.name) (flatU f)[k].s.id&&inS (QA (YP (bkO p O) (flatU f)[k].s)) v):=rfl;have u:=QF (QA (YP (bkO p O) (flatU f)[k].s)) v;clear c;generalize VR (ZN p f.name) (flatU f)[k].s.id=lv at*
  generalize C:inS (QA (YP (bkO p O) (flatU f)[k].s)) v=ig at*
  generalize QA (YP (bkO p O) (flatU f)[k].s)=D at*
  cases lv<;>cases ig;all_goals
   conv=>whnf
   repeat' ((first|refine dA ?_|(refine gX ?_;intros)|refine iT z ?_|refine cP w ?_|refine cP t ?_|refine cP u ?_|refine pI ?_|refine Br.tt ?_|refine Br.ff ?_|(apply bD<;>intro _<;>try omega))<;>conv=>whnf)
  all_goals first
   |exact⟨(k+1,l++[(flatU f)[k].s.id]),⟨h,by simp only;rw[q,z2j,z1v,<-m,z2m (by rw[o];rfl)];rfl,by simp;omega⟩,by simp only;omega,Le.of_eq (by simp only[z0e,z1v];rfl)⟩
   |exact nX (k+1,l) ⟨h,by simp only;rw[q,z2j,z1v,<-m,z2n (by rw[o];decide)];simp,by simp only;omega⟩
 ·rw[z1f h]at m;subst m;conv=>whnf
  repeat' (apply bD<;>intro _<;>first|omega|conv=>whnf)
  exact⟨_,.hd rfl (by simp),rfl⟩
def x9p{N:Nat}{a b d e:AV}{L:List Str}{n:Nat}(l:n=(L.map AV.str).length):
  Le N ⟨[(0,.p a),(1,.p b),(5,.p .nils),(18,.hd 0 0 n),(19,.p d),(20,.p e)],[(0,.own 9 1 (L.map .str))]⟩ ⟨[(0,.p a),(1,.p b),(5,.hd 0 0 0),(18,.p (eStrs L)),(19,.p d),(20,.p e)],[(0,.own 9 1 [])]⟩:=by
 subst l;obtain⟨s',rfl,h⟩:=Le.row (N:=N) (s:=⟨[(0,.p a),(1,.p b),(5,.p .nils),(18,.hd 0 0 (L.map AV.str).length),(19,.p d),(20,.p e)],[(0,.own 9 1 (L.map .str))]⟩) (k:=0) (e:=9) (sz:=1) (es:=L.map .str) (zs:=[18]) rfl
  (K:=fun s=>s=⟨[(0,.p a),(1,.p b),(5,.p .nils),(18,.p (eStrs L)),(19,.p d),(20,.p e)],[]⟩) ⟨rfl,rfl⟩
 exact h.trans (lM [(0,.own 9 1 [])])
theorem x0l(p:Pg)(I O:List (List Str))(y:QM p=true)(P:OkO p O)(hI:OkI p I)(i:Nat)(f:Pr)(u:p.A[i]?=some f):SpecH prog 154 ([AV.ip (Ud p I O),.int .i64 i].map .p) [] (OneRow (Kh ((rdI p (dfB p O) O I).getD i [])) False):=by
 have hm:=(QV y).1;rw[<-x4g y u O I (fun _ _=>rfl)];have hg:=(XF y).1;have hlU:=WL hm u;have hLl:=WU (flatU f);have Y:=Vo u;have V:=AM u;have D:i<O.length:=by rw[P.len];exact(z1k.1 u).1
 have Z:=R1 D;have B:=fun v=>UQ p I O y P i f u v;have R:(ZU p f.name).length<=1000000:=by rw[MB y u];exact z2g (Ws y u) (by decide)
 have hU:=fun(k:Nat) (hk:k<(flatU f).length)=>YB p I O (flatU f)[k].s y hI (z1c.2 ⟨f,z1d u,YA (z1h hk)⟩);have hnd:=fun v seen hs=>x4b y u (O:=O) (I:=I) (o:=O.getD i []) (v:=v) (seen:=seen) hs;refine sK FA func154 ?_;conv=>whnf
 obtain⟨L,M⟩ : ∃L,L=VW::p.C:=⟨_,rfl⟩;have hLn:L.length<=17:=by rw[M,z2k];omega
 rw[<-M];generalize C2 p i f (dfB p O) (usB p I) (O.getD i [])=ned at*
 generalize O.getD i []=o at*
 clear P hI D;repeat' ((first|(refine iM fun _=>?_)|refine z1s rfl ?_|refine aD ?_|refine z5l (fun x hx=>by rcases z0i.1 hx with rfl;rfl) rfl ?_|refine XM _ (by simp) (by simp;omega) ?_)<;>conv=>whnf)
 refine lJ (fun x:Nat×List Str=>⟨[(0,.p (.ip (Ud p I O))),(1,.j i),(5,.hd 0 0 x.2.length),(18,.p (eStrs L)),(19,.p (.int .i64 (L.map AV.str).length)),(20,.j x.1)],[(0,.own 9 1 (x.2.map .str))]⟩) (fun x=>x.1<=L.length/\x.2=(L.take x.1).filter ned/\x.2.length<=x.1) (fun x=>L.length-x.1) (0,[]) (by
   have e9:1+(p.C.map AV.str).length=((VW::p.C).map AV.str).length:=by simp;omega
   subst M;rw[e9];first
   |exact x9p (L:=VW::p.C) rfl
   |trace_state) ⟨z1q _,by simp,by simp⟩ ?_
 rintro⟨j,w⟩ ⟨h2,g,h4⟩;simp only at h2 g h4⊢;have hlm:(L.map AV.str).length=L.length:=z0s _;rcases z1w j L.length with q|q
 ·have G:=z1y q;have H:=B L[j];have hF:=WO (ZU p f.name) 0 (gvR p f O L[j] (flatU f)) R;have K:=QF o L[j];have hnj:=hnd L[j];have e5:(L.map AV.str)[j]?=some (.str L[j]):=by simp[q]
  generalize hv:L[j]=v at*
  generalize gvR p f O v (flatU f)=gv at*
  generalize ZU p f.name=da at*
  clear B hnd;have z:∀es,ndB p f I o es v=(inS o v&&VR es (-1)||(flatU f).any fun x=>VR es x.s.id&&inS (QA (KA (bkI p I) x.s)) v):=fun es=>rfl;generalize inS o v=io at*
  cases io;all_goals
   conv=>whnf
   repeat' (first|((first|(refine iM fun _=>?_)|refine dA ?_|(refine iA fun _=>?_)|refine iT V ?_|refine iT Z ?_|refine iT Y ?_|refine cP H ?_|(refine CallK.pure hF (.cons (Sub.refl _) (.cons (Sub.refl _) (.cons (Sub.refl _) .nil))) ?_;rintro _ ⟨es,rfl,T,hndp⟩)|refine cP K ?_|refine cP (XD _ (-1)) ?_|refine Br.tt ?_|refine Br.ff ?_);conv=>whnf)|(apply bD<;>intro _<;>first|omega|conv=>whnf)|(rw[hv]))
  all_goals
   have c:=hnj es T;rw[z]at c
  rotate_left;generalize d:(true&&VR es (-1))=x0 at*
  rotate_left;generalize d:(false&&VR es (-1))=x0 at*
  all_goals
   refine LoopK.inv ZI (fun x:Nat×Bool=>⟨[(0,.p (.ip (Ud p I O))),(1,.j i),(5,.hd 0 0 w.length),(7,.p (.str v)),(8,.p (QG es)),(9,.p (bv x.2)),(18,.p (eStrs L)),(19,.p (.int .i64 (L.map AV.str).length)),(20,.j j),(55,.p (VY (flatU f))),(56,.p (.int .i64 ((flatU f).map fun i=>AV.agg i.cells).length)),(57,.j x.1)],[(0,.own 9 1 (w.map .str))]⟩) (fun x=>x.1<=(flatU f).length/\x.2=(x0||((flatU f).take x.1).any fun x=>VR es x.s.id&&inS (QA (KA (bkI p I) x.s)) v)) (fun x=>(flatU f).length-x.1) (0,x0) ?_ ⟨z1q _,by simp⟩ ?_
   ·first
     | (rw[<-d]
        exact lE (hsl:=.r (.r (.r (.r (.r (.cons (.p (q1p _)) (.r (.r (.r (.r (.r (.r .nil)))))))))))))
     | (rw[<-d]
        exact lE)
   rintro⟨m,b⟩ ⟨h5,e⟩;simp only at h5 e⊢;rcases z1w m (flatU f).length with l|l
   ·have a:=z1y l;have N:=XD es (flatU f)[m].s.id;have Q:=hU m l;have J:=QF (QA (KA (bkI p I) (flatU f)[m].s)) v;have E:((flatU f).take (m+1)).any (fun x=>VR es x.s.id&&inS (QA (KA (bkI p I) x.s)) v)=(((flatU f).take m).any (fun x=>VR es x.s.id&&inS (QA (KA (bkI p I) x.s)) v)||(VR es (flatU f)[m].s.id&&inS (QA (KA (bkI p I) (flatU f)[m].s)) v)):=by rw[a,List.any_append,List.any_cons,List.any_nil,Bool.or_false]
    have t:(x0||((flatU f).take (m+1)).any (fun x=>VR es x.s.id&&inS (QA (KA (bkI p I) x.s)) v))=(b||(VR es (flatU f)[m].s.id&&inS (QA (KA (bkI p I) (flatU f)[m].s)) v)):=by rw[E,<-Bool.or_assoc,<-e]
    clear E a hU c e z;generalize inS (QA (KA (bkI p I) (flatU f)[m].s)) v=iu at*
    generalize VR es (flatU f)[m].s.id=lv at*
    generalize QA (KA (bkI p I) (flatU f)[m].s)=U at*
    cases b;rotate_left
    ·conv=>whnf
     repeat' ((first|(refine gX ?_;intros)|(apply bD<;>intro _<;>try omega))<;>conv=>whnf)
     all_goals first
      |exact nX (m+1,true) ⟨l,by simp only;rw[t];rfl⟩
    cases lv<;>cases iu;all_goals
     conv=>whnf
     repeat' ((first|(refine gX ?_;intros)|refine cP N ?_|refine cP Q ?_|refine cP J ?_|refine Br.tt ?_|refine Br.ff ?_|(apply bD<;>intro _<;>try omega))<;>conv=>whnf)
    all_goals first
     |exact⟨(m+1,_),⟨l,t.symm⟩,by simp only;omega,Le.of_eq rfl⟩
     |exact⟨(m+1,_),⟨l,t.symm⟩,by simp only;omega,lE (hsl:=.r (.r (.r (.r (.r (.cons (.p (q1p _)) (.r (.r (.r (.r (.r (.r .nil))))))))))))⟩
   ·rw[z1f l,c]at e;cases b;all_goals
     conv=>whnf
     repeat' ((first|refine gX ?_|refine XK (by simp) (by rw[z0s];omega) ?_|(apply bD<;>intro _<;>try omega))<;>conv=>whnf)
    all_goals first
     |exact⟨(j+1,w++[v]),⟨q,by simp only;rw[G,z2j,z2m e.symm,g];rfl,by simp;omega⟩,by simp only;omega,Le.of_eq (by simp only[z0e,z1v];rfl)⟩
     |exact nX (j+1,w) ⟨q,by simp only;rw[G,z2j,z2n (by rw[<-e];decide),g];simp,by simp only;omega⟩
 ·rw[z1f q]at g;subst g;have hS:=Yi (L.filter ned) (by omega);conv=>whnf
  repeat' ((first|(refine ZV 2 rfl hS (.cons (.hd rfl (by simp)) .nil) (fun h=>h.elim) ?_;rintro _ _ _ _ ⟨rfl,rfl,rfl⟩)|(apply bD<;>intro _<;>try omega))<;>conv=>whnf)
  all_goals first
   |exact z4g _ (z2x _) (UI (by rw[z0s]))
abbrev Wd:=BitVec 64
def eW(w:Wd):AV:=.int .u64 (w.toNat:Int)
theorem Ru(w:Wd):IntKind.u64.wrap (w.toNat:Int)=w.toNat:=by
 have h:=w.isLt;unfold IntKind.wrap;simp[IntKind.bits,IntKind.signed];omega
def LT{σ:Mem}{β:Lab}{s:St}{a:Act}(l:∀i,RepL σ β (getS s.sl i) (a.tmps.getD i undef)){x:Operand}{k:IntKind}{n:Int}(m:QR s.sl x=.p (.int k n)):a.eval x=.int k n:=by
 have h:=QU l x;rw[m]at h;generalize a.eval x=v at h;cases h with
 |p h=>cases h;rfl
def JA{P:Program}{D:Bool}{s:St}{o:Oper}{K:LV->Prop}{op:BinOp}{t u:TypeId}{x y:Operand}(q:o.op=.binOp op t x y u)(a b c:Wd){m n:Int}(E:QR s.sl x=.p (.int .u64 m))(G:QR s.sl y=.p (.int .u64 n))(B:m=a.toNat)(C:n=b.toNat)(g:(op=.and/\c=a &&& b)\/(op=.or/\c=a |||b)\/(op=.andNot/\c=a &&& ~~~b))(e:K (.p (eW c))):ValO P D s o K:=by
 refine⟨fun σ β H w r _=>⟨_,.int .u64 c.toNat,e,.p (.int _ _),fun w' _ _=>?_⟩⟩;have z:=LT r E;have d:=LT r G;have A:(eqGuard op t x y (.int .u64 m) (.int .u64 n)).run P w'=.ok () w':=by
  unfold eqGuard;cases op<;>rfl
 have ha:BitVec.ofInt 64 m=a:=by rw[B];simp
 have l:BitVec.ofInt 64 n=b:=by rw[C];simp
 have h:(binOp op t (.int .u64 m) (.int .u64 n)).run P w'=.ok (.int .u64 c.toNat) w':=by
  rcases g with⟨rfl,rfl⟩|⟨rfl,rfl⟩|⟨rfl,rfl⟩
  .show (Op.intBits .and .u64 m n).run P w'=_;show(pure (.int .u64 (IntKind.u64.wrap ((BitVec.ofInt 64 m &&& BitVec.ofInt 64 n).toNat:Int))):Sem Value).run P w'=_;rw[ha,l,Ru];rfl
  .show (pure (.int .u64 (IntKind.u64.wrap ((BitVec.ofInt 64 m |||BitVec.ofInt 64 n).toNat:Int))):Sem Value).run P w'=_;rw[ha,l,Ru];rfl
  .show (pure (.int .u64 (IntKind.u64.wrap ((BitVec.ofInt 64 m &&& ~~~ BitVec.ofInt 64 n).toNat:Int))):Sem Value).run P w'=_;rw[ha,l,Ru];rfl
 simp only[execOp,q,z,d,Sem.run_bind,A,h,Result.andThen_ok,Sem.run_pure]
theorem ValO.shr{P:Program}{C:Bool}{s:St}{o:Oper}{K:LV->Prop}{t u:TypeId}{x y:Operand}(q:o.op=.binOp .shr t x y u)(a:Wd)(n:Nat){m k:Int}(D:QR s.sl x=.p (.int .u64 m))(E:QR s.sl y=.p (.int .i64 k))(B:m=a.toNat)(A:k=n)(H:n<64)(c:K (.p (eW (a >>> n)))):ValO P C s o K:=by
 refine⟨fun σ β G w r _=>⟨_,.int .u64 (a >>> n).toNat,c,.p (.int _ _),fun w' _ _=>?_⟩⟩;have z:=LT r D;have b:=LT r E;have g:(eqGuard .shr t x y (.int .u64 m) (.int .i64 k)).run P w'=.ok () w':=by
  unfold eqGuard;rfl
 have l:(binOp .shr t (.int .u64 m) (.int .i64 k)).run P w'=.ok (.int .u64 (a >>> n).toNat) w':=by
  show(Op.shift .shr .u64 m .i64 k).run P w'=_;unfold Op.shift;rw[if_neg (by omega),B,A];have e:min (n:Int).toNat (IntKind.bits .u64)=n:=by
   show min (n:Int).toNat 64=n;omega
  simp only[e];have e2:(a.toNat:Int).fdiv (2^n)=((a >>> n).toNat:Int):=by
   rw[BitVec.toNat_ushiftRight,Nat.shiftRight_eq_div_pow,Int.fdiv_eq_ediv_of_nonneg _ (by exact_mod_cast z1q _)]
   push_cast
   rfl
  rw[e2];rfl
 simp only[execOp,q,z,b,Sem.run_bind,g,l,Result.andThen_ok,Sem.run_pure]
theorem Ie{P:Program}{g:Bool}{s:St}{o:Oper}{K:LV->Prop}{t u:TypeId}{x y:Operand}(l:o.op=.binOp .shl t x y u)(n:Nat){k:Int}(A:QR s.sl x=.p (.int .u64 1))(B:QR s.sl y=.p (.int .i64 k))(c:k=n)(d:n<64)(a:K (.p (eW (1#64 <<< n)))):ValO P g s o K:=by
 refine⟨fun σ β C w m _=>⟨_,.int .u64 (1#64 <<< n).toNat,a,.p (.int _ _),fun w' _ _=>?_⟩⟩;have r:=LT m A;have z:=LT m B;have b:(eqGuard .shl t x y (.int .u64 1) (.int .i64 k)).run P w'=.ok () w':=by
  unfold eqGuard;rfl
 have h:(binOp .shl t (.int .u64 1) (.int .i64 k)).run P w'=.ok (.int .u64 (1#64 <<< n).toNat) w':=by
  show(Op.shift .shl .u64 1 .i64 k).run P w'=_;unfold Op.shift;rw[if_neg (by omega),c];have e:min (n:Int).toNat (IntKind.bits .u64)=n:=by
   show min (n:Int).toNat 64=n;omega
  simp only[e];have q:(1#64 <<< n).toNat=2^n:=by
   rw[BitVec.toNat_shiftLeft];simp only[BitVec.toNat_ofNat];rw[Nat.shiftLeft_eq,Nat.one_mod_two_pow_eq_one.2 (by decide),z8p,Nat.mod_eq_of_lt (Nat.pow_lt_pow_right (by decide) d)]
  have e2:IntKind.u64.wrap ((1:Int)*2^n)=((1#64 <<< n).toNat:Int):=by
   rw[<-Ru,q];congr 1
   push_cast
   omega
  rw[e2];rfl
 simp only[execOp,l,r,z,Sem.run_bind,b,h,Result.andThen_ok,Sem.run_pure]
def Ik{ws:List Wd}(h:i<ws.length):(ws.map eW)[i]?=some (.int .u64 (ws[i].toNat:Int)):=by
 rw[z1u,z0c h];rfl
def q0z(ws:List Wd)(f:Nat):List Wd:=ws.set (f/64) (ws.getD (f/64) 0 |||1#64 <<< (f%64))
def wsH(k:Nat)(ws:List Wd):Nat×Chunk:=(k,.own 269 1 (ws.map eW))
def q3t(f:Nat):(f:Int).tdiv 64=((f/64:Nat):Int):=rfl
def x4d(f:Nat):(f:Int).tmod 64=((f%64:Nat):Int):=rfl
theorem Bp(ws:List Wd)(f:Nat)(l:f/64<ws.length)(q:ws.length<=1000000):SpecH prog 268 [.hd 1000 0 ws.length,.j f] [wsH 1000 ws] (fun r H=>(∃b,r=.p (.bool b))/\H=[wsH 1000 (q0z ws f)]):=by
 refine sK K9 func268 ?_;conv=>whnf
 have e:=Ik l;have h:=q3t f;have o:=x4d f;have m:(ws.map eW).set (f/64) (eW (ws[f/64] |||1#64 <<< (f%64)))=(q0z ws f).map eW:=by
  unfold q0z;rw[z3w,z0a,z0c l];rfl
 repeat' ((first|refine dA ?_|refine z1s rfl ?_|refine z1s (by decide) ?_|refine Wr.i64 (by rw[h];omega) (by rw[h];omega) ?_|refine z4u (f/64) h l ?_|refine lO e ?_|refine ValO.shr rfl ws[f/64] (f%64) rfl rfl rfl o (by omega) ?_|refine JA rfl _ 1#64 _ rfl rfl rfl rfl (.inl ⟨rfl,rfl⟩) ?_|refine Ie rfl (f%64) rfl rfl o (by omega) ?_|refine JA rfl _ _ _ rfl rfl rfl rfl (.inr (.inl ⟨rfl,rfl⟩)) ?_|refine sO (eW (ws[f/64] |||1#64 <<< (f%64))) e ?_)<;>conv=>whnf)
 all_goals first
  |exact⟨_,.refl _,⟨_,rfl⟩,by unfold wsH;rw[<-m]⟩
def WR(b c:List Wd):List Wd:=List.zipWith (fun x y=>x |||y) b c
def Vu(b c:List Wd)(k:Nat):Bool:=(List.range k).any fun i=> !(((c.getD i 0 &&& ~~~(b.getD i 0)).toNat:Int)==0)
def EG(b c:List Wd)(k:Nat):Vu b c (k+1)=(Vu b c k || !(((c.getD k 0 &&& ~~~(b.getD k 0)).toNat:Int)==0)):=by
 unfold Vu;rw[z5m,List.any_append];simp
theorem I5(b c:List Wd)(y:c.length=b.length)(d:b.length<=1000000):aH 271 [.hd 1000 0 b.length,.hd 1001 0 c.length] [wsH 1000 b,wsH 1001 c] (.p (.bool (Vu b c b.length))) [wsH 1000 (WR b c),wsH 1001 c]:=by
 refine sK Ri func271 ?_;conv=>whnf
 repeat' ((refine iM fun _=>?_)<;>conv=>whnf)
 have z:(WR b c).length=b.length:=by unfold WR;rw[z8j];omega
 refine lJ (fun i:Nat=>⟨[(0,.hd 1000 0 b.length),(1,.hd 1001 0 c.length),(4,.p (.bool (Vu b c i))),(7,.j b.length),(8,.j i)],[wsH 1000 ((WR b c).take i++b.drop i),wsH 1001 c]⟩) (fun i=>i<=b.length) (fun i=>b.length-i) 0 (lE (hnd:=by show(List.map _ _).Nodup;simp[wsH]) (hsl:=.r (.r (.cons (.p (Sub.ff rfl)) (.r (.r .nil)))))) (z1q _) ?_;intro i a;rcases z1w i b.length with l|l
 ·have h:i<c.length:=by omega
  have t:((WR b c).take i++b.drop i).length=b.length:=by rw[z0e,z1r,z3n];omega
  have x:((WR b c).take i++b.drop i)[i]?=some b[i]:=by
   rw[z2f (by rw[z1r];omega),z1r,z3h,show i+(i-min i (WR b c).length)=i by omega,z0c l]
  have q:((WR b c).take i++b.drop i).set i (b[i] |||c[i]'h)=(WR b c).take (i+1)++b.drop (i+1):=by
   rw[z4o _ _ (by rw[z1r];omega),z1r,show i-min i (WR b c).length=0 by omega,z2v l,z5v,z1y (by omega),z1m];congr 1;show _=(WR b c)[i]::_;unfold WR;rw[List.getElem_zipWith];rfl
  have o:=EG b c i;rw[z0a,z0a,z0c l,z0c (show i<c.length by omega)]at o;simp only[z2l]at o;generalize((WR b c).take i++b.drop i)=row at t x q⊢;have u:(row.map eW)[i]?=some (.int .u64 (b[i].toNat:Int)):=by rw[z1u,x];rfl
  have e2:=Ik (ws:=c) (i:=i) (by omega);have w:(row.map eW).set i (eW (b[i] |||c[i]'h))=((WR b c).take (i+1)++b.drop (i+1)).map eW:=by rw[<-q,z3w]
  cases s:Vu b c i;all_goals
   rw[s]at o;unfold wsH;conv=>whnf
   repeat' ((first|refine gX ?_|refine dA ?_|refine iO i ?_|refine lO u ?_|refine lO e2 ?_|refine JA rfl (c[i]'h) b[i] _ rfl rfl rfl rfl (.inr (.inr ⟨rfl,rfl⟩)) ?_|refine JA rfl b[i] (c[i]'h) _ rfl rfl rfl rfl (.inr (.inl ⟨rfl,rfl⟩)) ?_|refine sO (eW (b[i] |||c[i]'h)) u ?_|refine Br.tt ?_|refine Br.ff ?_|(apply bD<;>intro _<;>try omega))<;>conv=>whnf)
   all_goals first
    |exact⟨i+1,l,by omega,Le.of_eq (by rw[o,<-w];rfl)⟩
    |exact⟨i+1,l,by omega,by
       rw[o,<-w];exact lE (hnd:=by show(List.map _ _).Nodup;simp[wsH]) (hsl:=.r (.r (.cons (.p (Sub.tt rfl)) (.r (.r .nil)))))⟩
 ·have m:(WR b c).take i++b.drop i=WR b c:=by rw[z1f (by omega),z1b l,z2y]
  obtain rfl:i=b.length:=by omega
  rw[m];unfold wsH;conv=>whnf
  repeat' (apply bD<;>intro _<;>first|omega|conv=>whnf)
  all_goals first
   |exact⟨_,.refl _,rfl,rfl⟩
def bitW(ws:List Wd)(f:Nat):Bool:=(ws.getD (f/64) 0).getLsbD (f%64)
def KF(ws:List Wd)(h:Nat):List Int:=((List.range h).filter (bitW ws)).map Int.ofNat
def x2q(w:Wd)(k:Nat):((w >>> k &&& 1#64).toNat:Int)=if w.getLsbD k then 1 else 0:=by
 have h:(w >>> k &&& 1#64).toNat=(w.toNat >>> k)%2:=by
  rw[BitVec.toNat_and,BitVec.toNat_ushiftRight];show(w.toNat >>> k) &&& 1=_;exact Nat.and_one_is_mod _
 rw[h,BitVec.getLsbD,Nat.testBit,Nat.and_comm,Nat.and_one_is_mod];have:=Nat.mod_two_eq_zero_or_one (w.toNat >>> k);rcases this with h|h<;>rw[h]<;>rfl
def EX(ws:List Wd)(k:Nat):KF ws (k+1)=KF ws k++(if bitW ws k then [(k:Int)]else []):=by
 unfold KF;rw[z5m,z2j,z1v];congr 1;cases h:bitW ws k
 .rw [z2n (by rw[h];decide)];rfl
 .rw [z2m h];rfl
def OJ(ws:List Wd)(k:Nat):(KF ws k).length<=k:=by
 unfold KF;rw[z0s];exact z2g (z2s _ _) (by simp)
theorem Dr(ws:List Wd)(h:Nat)(b:h<=1000000)(y:h/64<ws.length):aP 272 [.sl (ws.map eW),.int .i64 h] (QG (KF ws h)):=by
 refine sC Uo func272 ?_;conv=>whnf
 skip
 have z:(ws.map eW).length=ws.length:=z0s _;refine lJ (fun f:Nat=>⟨[(0,.p (.sl (ws.map eW))),(1,.j h),(5,.hd 0 0 (KF ws f).length),(6,.j f)],[(0,.own 3 1 ((KF ws f).map (.int .i64)))]⟩) (fun f=>f<=h) (fun f=>h-f) 0 (lM [(0,.own 3 1 [])]) (z1q _) ?_;intro f a;have x:=OJ ws f;have l:=EX ws f;rcases z1w f h with r|r
 ·have o:f/64<ws.length:=Nat.lt_of_le_of_lt (Nat.div_le_div_right (by omega)) y;have e:=Ik o;have q:=q3t f;have w:=x4d f;have t:bitW ws f=(ws[f/64]).getLsbD (f%64):=by unfold bitW;rw[z0a,z0c o];rfl
  have m:=x2q ws[f/64] (f%64);rw[<-t]at m;generalize KF ws f=acc at*
  conv=>whnf
  repeat' ((first|refine gX ?_|refine z1s (by decide) ?_|refine Wr.i64 (by first|omega|(rw[q];omega)) (by first|omega|(rw[q];omega)) ?_|refine IdxK.at (k:=f/64) q e rfl ?_|refine ValO.shr rfl ws[f/64] (f%64) rfl rfl rfl w (by omega) ?_|refine JA rfl _ 1#64 _ rfl rfl rfl rfl (.inl ⟨rfl,rfl⟩) ?_|refine pI ?_|(apply bD<;>intro _<;>try omega))<;>conv=>whnf)
  all_goals first
   | (have s:bitW ws f=true:=by
       cases u:bitW ws f with
       |true=>rfl
       |false=>rw[u]at m;exfalso;simp_all;done
      rw[s]at l;exact⟨f+1,r,by omega,Le.of_eq (by rw[l];simp only[z0e,z1v,if_true];rfl)⟩)
   | (have s:bitW ws f=false:=by
       cases u:bitW ws f with
       |false=>rfl
       |true=>rw[u]at m;exfalso;simp_all;done
      rw[s]at l;exact⟨f+1,r,by omega,Le.of_eq (by rw[l];simp only[z2y,Bool.false_eq_true,if_false];rfl)⟩)
 ·obtain rfl:f=h:=by omega
  conv=>whnf
  repeat' (apply bD<;>intro _<;>first|omega|conv=>whnf)
  all_goals first
   |exact⟨_,.hd rfl (by simp),rfl⟩
end Go.Ab
