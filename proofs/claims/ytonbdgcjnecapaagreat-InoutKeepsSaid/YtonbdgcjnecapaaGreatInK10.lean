/- The reference's expressions: how deep, which may be. -/
import Derived.Test.YtonbdgcjnecapaaGreatInK9
set_option linter.all false
set_option maxRecDepth 100000
set_option maxHeartbeats 16000000
namespace Go.Ab
open Go.Proofs.Tryz
open Go.Proofs
variable {i:Int}{j:Nat}
def Ce:List Nat->Nat
 |[]=>0
 |a::r=>max a (Ce r)
def HK:Nat->X->Nat
 |0,_=>1
 |m+1,x=>1+Ce (x.kids.map (HK m))
def RR{l:List Nat}{m:Nat}(h:∀a∈l,a<=m):Ce l<=m:=by
 induction l with
 |nil=>exact x6t _
 | cons a r n=>
   have:=n fun b k=>h b (x6b _ k);have:=h a x6g;rw[Ce];omega
theorem Di:∀(m:Nat)(x:X),HK m x<=m+1
 |0,_=>x7u _
 | m+1,x=>by
   rw[HK];have:Ce (x.kids.map (HK m))<=m+1:=RR fun a h=>by
    obtain⟨y,_,rfl⟩:=x6r.1 h;exact Di m y
   omega
def FZ:∀(m:Nat)(_:m<=1000)(x:X),SpecP prog 249 [.agg x.cells,.int .i64 m] (fun r=>r=.int .i64 (HK m x)):=by
 intro m;induction m with
 | zero=>
   intro _ x;refine sB KV func249 rfl call249 ?_;conv=>whnf
   repeat' (apply bD<;>intro _<;>first|omega|conv=>whnf)
   exact RetK.int rfl
 | succ m s=>
   intro v x;have u:((X.avs x.kids).length:Int)=x.kids.length:=by rw[X.avs_len]
   refine sB KV func249 rfl call249 ?_;conv=>whnf
   repeat' (apply bD<;>intro _<;>first|omega|conv=>whnf)
   have q:Ce (x.kids.map (HK m))<=m+1:=RR fun a o=>by
    obtain⟨y,_,rfl⟩:=x6r.1 o;exact Di m y
   refine LoopK.inv QW (fun y:Nat×Nat=>⟨[(1,.p (.int .i64 (m+1:Nat))),(2,.p (.ip x.cells)),(5,.p (.int .i64 y.2)),(6,.p (.int .i64 y.1))],[]⟩) (fun y=>y.1<=x.kids.length/\y.2<=m+1/\max y.2 (Ce ((x.kids.drop y.1).map (HK m)))=Ce (x.kids.map (HK m))) (fun y=>x.kids.length-y.1) (0,0) (Le.of_eq rfl) ⟨x6t _,x6t _,by simp⟩ ?_;rintro⟨j,d⟩ ⟨l,n,k⟩;simp only at l n k⊢;rcases x6c j x.kids.length with h|h
   .rw [x7t h,x7l,Ce]at k;have t:=Di m x.kids[j];conv=>whnf
    repeat' (first|((first|(refine iM fun _=>?_)|refine IdxK.xs (by omega) ?_|refine wI ?_|(refine CallK.pure (s (by omega) (x.kids[j]'h)) (.cons (Sub.refl _) (.cons (Sub.int (by omega)) .nil)) ?_;rintro _ rfl));conv=>whnf)|(apply bD<;>intro _<;>first|omega|conv=>whnf))
    all_goals first
     |exact⟨(j+1,HK m x.kids[j]),⟨by simp only;omega,by simp only;omega,by simp only;omega⟩,by simp only;omega,Le.of_eq rfl⟩
     |exact⟨(j+1,d),⟨by simp only;omega,by simp only;omega,by simp only;omega⟩,by simp only;omega,Le.of_eq rfl⟩
     |exact RetK.int (by rw[HK];omega)
   .rw [x7v h,z1u,Ce]at k;conv=>whnf
    repeat' (first|((first|(refine iM fun _=>?_)|refine wI ?_);conv=>whnf)|(apply bD<;>intro _<;>first|omega|conv=>whnf))
    exact RetK.int (by rw[HK];omega)
def mayXR(x:X):Bool:=decide (HK 20 x<=20)&&MG (wX x+1) x
def JL(x:X):SpecP prog 194 [.agg x.cells] (fun r=>r=.bool (mayXR x)):=by
 refine sB YQ func194 rfl call194 ?_;conv=>whnf
 repeat' (first|((first|(refine CallK.pure (FZ 20 (by omega) x) (.cons (Sub.refl _) (.cons (Sub.refl _) .nil)) ?_;rintro _ rfl)|(refine CallK.pure (FW (wX x+1) x (by omega)) (.cons (Sub.refl _) .nil) ?_;rintro _ rfl));conv=>whnf)|(apply bD<;>intro _<;>first|omega|conv=>whnf))
 all_goals first
  |exact RetK.bool (by unfold mayXR;rw[x8r (by omega)];rfl)
  |exact RetK.ff (by unfold mayXR;rw[x8c (by omega)];rfl)
theorem Wj:∀(n:Nat)(x:X),WQ n x=true->HK n x<=n/\∀k,MG k x=true
 |0,x,h=>by rw[WQ]at h;cases h
 | n+1,x,h=>by
   rw [WQ]at h;simp only[x7y,x7s]at h;obtain⟨o,m⟩:=h;have l:(∀y∈x.kids,WQ n y=true)/\HR x=true:=by
    split at m
    .rename_i q;simp only[x7y,x7s]at m;have p:x.kids=[]:=by
      rw[q]at o;have:Xe 1=0:=by decide
      rw[this]at o;exact List.length_eq_zero_iff.1 (by omega)
     refine⟨by rw[p];simp,?_⟩;unfold HR;rw[o,q,m.2];simp[m.1]
    split at m
    .rename_i q;simp only[x7y,x7s]at m;have p:x.kids=[]:=by
      rw[q]at o;have:Xe 2=0:=by decide
      rw[this]at o;exact List.length_eq_zero_iff.1 (by omega)
     have s:(x.name==[])=false:=by
      cases z:x.name with
      | nil=>
        have:=m.2;rw[z]at this;unfold isName at this;rw[dif_neg (by simp)]at this;cases this
      |cons a r=>rfl
     refine⟨by rw[p];simp,?_⟩;unfold HR;rw[o,q,m.2,s,m.1];simp
    .rename_i t u;simp only[x7y,x7s,x8h]at m;refine⟨m.2,?_⟩;unfold HR;rw[o,m.1.1,m.1.2];simp[t,u]
   refine⟨?_,fun k=>?_⟩
   .rw [HK];have:Ce (x.kids.map (HK n))<=n:=RR fun a w=>by
     obtain⟨y,v,rfl⟩:=x6r.1 w;exact(Wj n y (l.1 y v)).1
    omega
   .cases k with
    |zero=>rfl
    | succ k=>
      rw[MG,l.2,z1j,x8h];exact fun y v=>(Wj n y (l.1 y v)).2 k
def EK{x:X}(h:R5 x=true):mayXR x=true:=by
 obtain⟨k,l⟩:=Wj 20 x h;unfold mayXR;rw[x8r k,l];rfl
def argR(a:Arg):Bool:=bif a.ref then isName a.name&&noneB a.x else(a.name==[])&&mayXR a.x
def Ui(a:Arg):SpecP prog 196 [.agg a.cells] (fun r=>r=.bool (argR a)):=by
 refine sB X8 func196 rfl call196 ?_;conv=>whnf
 repeat' (first|((first|refine cP (XE _) ?_|refine cP (FU _) ?_|refine cP (JL _) ?_);conv=>whnf)|(apply bB<;>intro _<;>conv=>whnf))
 all_goals simp only[show(ByteArray.mk #[]).data.toList=[]from rfl]at*
 all_goals first
  |exact RetK.bool (by simp_all[argR])
  |exact RetK.ff (by simp_all[argR])
def q4l{a:Arg}(h:Xc a=true):argR a=true:=by
 unfold Xc JP BQ at h;unfold argR;cases k:a.ref with
 | true=>
   rw[k]at h;simpa using h
 | false=>
   rw[k]at h;simp only[x7k,Bool.not_false,x7z,x7y]at h;rw[h.1,EK h.2];rfl
def oneOk(s:S):Bool:=VV s&&namesB s.F
def hasXB(s:S):Bool:=decide (s.kind=1)||decide (s.kind=3)||decide (s.kind=5)||decide (s.kind=6)||(decide (s.kind=9)&&s.has)
structure OneF(s:S):Prop where
 F:namesB s.F=true
 lo:1<=s.kind
 hi:s.kind<=10
 x:hasXB s=true->mayXR s.x=true
 nox:hasXB s=false->noneB s.x=true
 has:s.has=true->s.kind=9
 name:s.kind=1\/s.kind=2\/s.kind=10->isName s.name=true
 noname:¬(s.kind=1\/s.kind=2\/s.kind=10)->(s.name==[])=true\/(s.kind=4/\isName s.name=true)
 D:s.kind=4->isName s.D=true
 noproc:s.kind≠4->(s.D==[])=true
 args:s.args.all argR=true
 noargs:s.kind≠4->s.args.length=0
 I:s.I.length=0\/s.kind=5\/s.kind=6
 L:s.L.length=0\/s.kind=5
def HP{s:Str}(h:isName s=true):(s==[])=false:=by
 cases s with
 |nil=>unfold isName at h;rw[dif_neg (by simp)]at h;cases h
 |cons a r=>rfl
def YE{s:S}(h:oneOk s=true):OneF s:=by
 unfold oneOk at h;rw[x7y]at h;obtain⟨h,d⟩:=h;have r:s.args.all Xc=true->s.args.all argR=true:=fun h=>by
  rw[x8h]at h⊢;exact fun a K=>q4l (h a K)
 have key:∀(k:Int)(f:Flds),s.kind=k->Xt s.kind s.has (s.name==[])=some f->f.has=false/\(f.I=false->s.I.length=0)/\(f.L=false->s.L.length=0)/\(s.kind≠4->s.args.length=0)/\JP s.name f.name=true/\JP s.D f.D=true/\BQ s.x f.x=true/\s.args.all argR=true:=fun k f l t=>by
  rw[Hd t]at h;simp only[x7y,x9u,z0e,z0b,Bool.not_eq_false',x8o,x7s]at h;obtain⟨⟨⟨⟨⟨⟨⟨e,o⟩,p⟩,v⟩,n⟩,w⟩,q⟩,A⟩:=h;refine⟨e,fun m=>?_,fun m=>?_,fun m=>?_,n,w,q,r A⟩
  .rcases o with o|o
   .rw [m]at o;cases o
   .omega
  .rcases p with p|p
   .rw [m]at p;cases p
   .omega
  .rcases v with v|v
   .exact absurd v m
   .omega
 have u:s.kind=1\/s.kind=2\/s.kind=3\/s.kind=4\/s.kind=5\/s.kind=6\/s.kind=7\/s.kind=8\/s.kind=9\/s.kind=10:=by
  unfold VV at h;split at h
  .cases h
  .rename_i f t;unfold Xt at t
   (repeat' split at t)<;>first|(cases t;done)|omega
 have fin:∀(k:Int)(f:Flds),s.kind=k->Xt s.kind s.has (s.name==[])=some f->(1<=k/\k<=10)->f.x=hasXB s->(s.has=true->f.has=true\/k=9)->((k=1\/k=2\/k=10)->f.name=true)->(¬(k=1\/k=2\/k=10)->f.name=false\/(k=4/\f.name = !(s.name==[])))->f.D=decide (k=4)->(f.I=true->k=5\/k=6)->(f.L=true->k=5)->OneF s:=fun k f l t M c C E z b F B=>by
  obtain⟨e,o,p,v,n,w,q,A⟩:=key k f l t;unfold BQ at q;refine⟨d,by omega,by omega,fun m=>?_,fun m=>?_,fun m=>?_,fun m=>?_,fun m=>?_,fun m=>?_,fun m=>?_,A,v,?_,?_⟩
  .rw [c,m]at q;exact EK q
  .rw [c,m]at q;exact q
  .rcases C m with y|y
   .rw [e]at y;cases y
   .omega
  .rw [E (by omega)]at n;exact n
  .rcases z (by omega)with y|⟨y,g⟩
   .rw [y]at n;exact .inl n
   .cases G:s.name==[]with
    |true=>exact .inl rfl
    | false=>
      rw[g,G]at n;exact .inr ⟨by omega,n⟩
  .rw [b,x8r (by omega)]at w;exact w
  .rw [b,x8c (by omega)]at w;exact w
  .cases J:f.I with
   |true=>exact .inr (by have:=F J;omega)
   |false=>exact .inl (o J)
  .cases H:f.L with
   |true=>exact .inr (by have:=B H;omega)
   |false=>exact .inl (p H)
 rcases u with l|l|l|l|l|l|l|l|l|l
 .exact fin 1 ⟨true,false,true,s.has,false,false⟩ l (by rw[l];rfl) (by omega) (by unfold hasXB;rw[l];rfl) (fun h=>.inl h) (fun _=>rfl) (fun h=>absurd (by omega) h) rfl (fun h=>by cases h) (fun h=>by cases h)
 .exact fin 2 ⟨true,false,false,s.has,false,false⟩ l (by rw[l];rfl) (by omega) (by unfold hasXB;rw[l];rfl) (fun h=>.inl h) (fun _=>rfl) (fun h=>absurd (by omega) h) rfl (fun h=>by cases h) (fun h=>by cases h)
 .exact fin 3 ⟨false,false,true,s.has,false,false⟩ l (by rw[l];rfl) (by omega) (by unfold hasXB;rw[l];rfl) (fun h=>.inl h) (fun h=>by omega) (fun _=>.inl rfl) rfl (fun h=>by cases h) (fun h=>by cases h)
 .exact fin 4 ⟨!(s.name==[]),true,false,s.has,false,false⟩ l (by rw[l];rfl) (by omega) (by unfold hasXB;rw[l];rfl) (fun h=>.inl h) (fun h=>by omega) (fun _=>.inr ⟨rfl,rfl⟩) rfl (fun h=>by cases h) (fun h=>by cases h)
 .exact fin 5 ⟨false,false,true,s.has,true,true⟩ l (by rw[l];rfl) (by omega) (by unfold hasXB;rw[l];rfl) (fun h=>.inl h) (fun h=>by omega) (fun _=>.inl rfl) rfl (fun _=>.inl rfl) (fun _=>rfl)
 .exact fin 6 ⟨false,false,true,s.has,true,false⟩ l (by rw[l];rfl) (by omega) (by unfold hasXB;rw[l];rfl) (fun h=>.inl h) (fun h=>by omega) (fun _=>.inl rfl) rfl (fun _=>.inr rfl) (fun h=>by cases h)
 .exact fin 7 ⟨false,false,false,s.has,false,false⟩ l (by rw[l];rfl) (by omega) (by unfold hasXB;rw[l];rfl) (fun h=>.inl h) (fun h=>by omega) (fun _=>.inl rfl) rfl (fun h=>by cases h) (fun h=>by cases h)
 .exact fin 8 ⟨false,false,false,s.has,false,false⟩ l (by rw[l];rfl) (by omega) (by unfold hasXB;rw[l];rfl) (fun h=>.inl h) (fun h=>by omega) (fun _=>.inl rfl) rfl (fun h=>by cases h) (fun h=>by cases h)
 .exact fin 9 ⟨false,false,s.has,false,false,false⟩ l (by rw[l];rfl) (by omega) (by unfold hasXB;rw[l];cases s.has<;>rfl) (fun _=>.inr rfl) (fun h=>by omega) (fun _=>.inl rfl) rfl (fun h=>by cases h) (fun h=>by cases h)
 .exact fin 10 ⟨true,false,false,s.has,false,false⟩ l (by rw[l];rfl) (by omega) (by unfold hasXB;rw[l];rfl) (fun h=>.inl h) (fun _=>rfl) (fun h=>absurd (by omega) h) rfl (fun h=>by cases h) (fun h=>by cases h)
def JK(n c:Nat):List Int:=(List.range' (n+1) c).map fun(k:Nat)=>(k:Int)
def YP(n a b:Nat):JK n (a+b)=JK n a++JK (n+a) b:=by
 unfold JK;rw[<-x6l,show n+a+1=n+1+1*a by omega,List.range'_append]
def TT(n:Nat):JK n 1=[((n+1:Nat):Int)]:=by simp[JK]
mutual
theorem q0s(nest:Int):∀(t:S){n:Nat}{m:Int},Ge nest n t=some m->(flS t).map S.id=JK n (XT t)
 | .mk id kind F name D x has args I L,n,m,h=>by
   simp only[Ge]at h;split at h
   ·cases h
   split at h
   ·cases h
   rename_i hid;cases hn:namesB F<;>rw[hn]at h
   ·cases h
   cases hf:VV (.mk id kind F name D x has args I L)<;>rw[hf]at h
   ·cases h
   simp only[x7z]at h;split at h
   ·rename_i m1 h1;have h1':UT (nest+1) ((n+1:Nat):Int) I=some m1:=by rw[<-h1];rfl
    have h2:=YM _ _ I h1';have h3:=DY (nest+1) I h1';have h':UT (nest+1) ((n+1+cntL I:Nat):Int) L=some m:=by rw[<-h,h2];rfl
    have h4:=DY (nest+1) L h';rw[flS,XT,x7l,x6l,h3,h4,show 1+cntL I+cntL L=1+(cntL I+cntL L) by omega,YP,TT,YP];have:id=((n+1:Nat):Int):=by omega
    rw[show(S.mk id kind F name D x has args I L).id=id from rfl,this];rfl
   ·cases h
theorem DY(nest:Int):∀(l:List S){n:Nat}{m:Int},UT nest n l=some m->(flL l).map S.id=JK n (cntL l)
 |[],n,m,h=>by rw[flL,cntL];rfl
 | t::r,n,m,h=>by
   simp only[UT]at h;split at h
   ·cases h
   split at h
   ·rename_i m1 h1;have h2:=Yj _ _ t h1;have h3:=q0s nest t h1;have h':UT nest ((n+XT t:Nat):Int) r=some m:=by rw[<-h,h2];rfl
    have h4:=DY nest r h';rw[flL,cntL,x6l,h3,h4,YP]
   ·cases h
end
theorem Fv:∀(l:List Pr){n:Nat}{m:Int},ZZ n l=some m->∀(j:Nat)(f:Pr),l[j]?=some f->(flL f.body).map S.id=JK (n+QH l j) (cntL f.body)
 |[],_,_,_,j,f,hj=>by simp at hj
 | g::r,n,m,h,j,f,hj=>by
   rw[ZZ]at h;cases q:GM g<;>rw[q]at h
   .cases h
   simp only[x7z]at h;split at h
   .rename_i s k;cases j with
    | zero=>
      simp at hj;subst hj;exact DY 1 g.body k
    | succ j=>
      have p:=YM _ _ g.body k;have o:ZZ ((n+cntL g.body:Nat):Int) r=some m:=by rw[<-h,p];rfl
      have:=Fv r o j f (by simpa using hj);rw[QH,this,x9k]
   .cases h
def RS{p:Pg}(h:YH p=true){f:Pr}(l:p.A[j]?=some f):(flL f.body).map S.id=JK (QH p.A j) (cntL f.body):=by
 unfold YH at h;simp only[x7y]at h;cases k:ZZ 0 p.A with
 |none=>rw[k]at h;cases h.2
 | some m=>
   have:=Fv p.A (n:=0) k j f l;simpa using this
def TR{n c:Nat}{a:Int}(h:a∈JK n c):(n:Int)+1<=a/\a<=n+c:=by
 unfold JK at h;obtain⟨k,l,rfl⟩:=x6r.1 h;rw[List.mem_range']at l;obtain⟨i,m,rfl⟩:=l;omega
def okI(k h:Nat)(x:Int):Prop:=x = -1\/((k:Int)+1<=x/\x<=h)
mutual
theorem q4i(D:Int)(lo hi:Nat):∀(t:S)(up nx loop:Int)(n:Nat)(it:Item),it∈itS D up nx loop n t->okI lo hi nx->(loop=0\/((lo:Int)+1<=loop/\loop<=hi))->lo<=n->n+XT t<=hi->
  okI lo hi it.next/\(it.loop=0\/((lo:Int)+1<=it.loop/\it.loop<=hi))
 | .mk id kind F name pr x has args I L,up,nx,loop,n,it,h,h1,h2,h3,h4=>by
   rw[itS]at h;rw[XT]at h4;rcases x6m.1 h with rfl|h
   ·exact⟨h1,h2⟩
   ·have h5:okI lo hi (if kind=6 then((n:Int)+1)else nx):=by
     split
     ·exact .inr ⟨by omega,by omega⟩
     ·exact h1
    have h6:(if kind=6 then((n:Int)+1)else loop)=0\/((lo:Int)+1<=(if kind=6 then((n:Int)+1)else loop)/\(if kind=6 then((n:Int)+1)else loop)<=hi):=by
     split
     ·exact .inr ⟨by omega,by omega⟩
     ·exact h2
    rcases x6s.1 h with h|h
    ·exact Bw D lo hi I _ _ _ _ it h h5 h6 (by omega) (by omega)
    ·exact Bw D lo hi L _ _ _ _ it h h5 h6 (by omega) (by omega)
theorem Bw(D:Int)(lo hi:Nat):∀(l:List S)(up nx loop:Int)(n:Nat)(it:Item),it∈itL D up nx loop n l->okI lo hi nx->(loop=0\/((lo:Int)+1<=loop/\loop<=hi))->lo<=n->n+cntL l<=hi->
  okI lo hi it.next/\(it.loop=0\/((lo:Int)+1<=it.loop/\it.loop<=hi))
 |[],up,nx,loop,n,it,h,h1,h2,h3,h4=>by rw[itL]at h;cases h
 | t::r,up,nx,loop,n,it,h,h1,h2,h3,h4=>by
   rw[itL]at h;rw[cntL]at h4;rcases x6s.1 h with h|h
   ·refine q4i D lo hi t _ _ _ _ it h ?_ h2 h3 (by omega);cases r with
    |nil=>exact h1
    | cons u r=>
      have:1<=cntL (u::r):=by rw[cntL,WB];omega
      exact .inr ⟨by simp;omega,by simp;omega⟩
   ·exact Bw D lo hi r _ _ _ _ it h h1 h2 (by omega) (by omega)
end
theorem Xl:∀(l:List S)(v:S),v∈l->v∈flL l
 |[],v,h=>by cases h
 | t::r,v,h=>by
   rw[flL];rcases x6m.1 h with rfl|h
   .refine x6s.2 (.inl ?_);rw[TK];exact x6g
   .exact x6s.2 (.inr (Xl r v h))
structure RI where
 s:S
 deep:Int
 inn:Int
 L:Bool
def RI.cells(i:RI):List AV:=i.s.cells++[.int .i64 i.deep,.int .i64 i.inn,.bool i.L]
def Na(l:List RI):AV:=.sl (l.map fun i=>.agg i.cells)
def flF:Nat->Int->Bool->List S->List RI->List RI
 |0,i,e,l,out=>l.foldl (fun o s=>if o.length<=200 then o++[⟨s,13,i,e⟩]else o) out
 |m+1,i,e,l,out=>l.foldl (fun o s=>if o.length<=200 then flF m s.id true s.L (flF m s.id false s.I (o++[⟨s,13-((m+1:Nat):Int),i,e⟩]))else o) out
theorem PZ:∀(m:Nat)(i:Int)(e:Bool)(l:List S)(out:List RI),out.length<=(flF m i e l out).length/\(flF m i e l out).length<=max out.length 201
 |0,i,e,[],out=>by show out.length<=out.length/\_;exact⟨x7u _,Nat.le_max_left _ _⟩
 |m+1,i,e,[],out=>by show out.length<=out.length/\_;exact⟨x7u _,Nat.le_max_left _ _⟩
 | 0,i,e,s::r,out=>by
   have h:=PZ 0 i e r (if out.length<=200 then out++[⟨s,13,i,e⟩]else out);show out.length<=(flF 0 i e r (if out.length<=200 then out++[⟨s,13,i,e⟩]else out)).length/\(flF 0 i e r (if out.length<=200 then out++[⟨s,13,i,e⟩]else out)).length<=_;split at h
   .rw [if_pos (by assumption)];simp only[x6f,x7r]at h;omega
   .rw [if_neg (by assumption)];exact h
 | m+1,i,e,s::r,out=>by
   have h:=PZ (m+1) i e r (if out.length<=200 then flF m s.id true s.L (flF m s.id false s.I (out++[⟨s,13-((m+1:Nat):Int),i,e⟩]))else out);show out.length<=(flF (m+1) i e r (if out.length<=200 then flF m s.id true s.L (flF m s.id false s.I (out++[⟨s,13-((m+1:Nat):Int),i,e⟩]))else out)).length/\(flF (m+1) i e r (if out.length<=200 then flF m s.id true s.L (flF m s.id false s.I (out++[⟨s,13-((m+1:Nat):Int),i,e⟩]))else out)).length<=_;split at h
   .rw [if_pos (by assumption)];have k:=PZ m s.id false s.I (out++[⟨s,13-((m+1:Nat):Int),i,e⟩]);have n:=PZ m s.id true s.L (flF m s.id false s.I (out++[⟨s,13-((m+1:Nat):Int),i,e⟩]));simp only[x6f,x7r]at k;omega
   .rw [if_neg (by assumption)];exact h
mutual
def fuS(d i:Int)(e:Bool):S->List RI
 |.mk id kind F name D x has args I L=>⟨.mk id kind F name D x has args I L,d,i,e⟩::(fuL (d+1) id false I++fuL (d+1) id true L)
def fuL(d i:Int)(e:Bool):List S->List RI
 |[]=>[]
 |t::r=>fuS d i e t++fuL d i e r
end
def Ew(d i:Int)(e:Bool)(t:S):fuS d i e t=⟨t,d,i,e⟩::(fuL (d+1) t.id false t.I++fuL (d+1) t.id true t.L):=by
 cases t;rw[fuS];rfl
mutual
theorem x1t(d i:Int)(e:Bool):∀t:S,(fuS d i e t).map RI.s=flS t
 | .mk id kind F name D x has args I L=>by
   rw[fuS,flS,x7l,x6l,Wb _ _ _ I,Wb _ _ _ L]
theorem Wb(d i:Int)(e:Bool):∀l:List S,(fuL d i e l).map RI.s=flL l
 |[]=>by rw[fuL,flL];rfl
 |t::r=>by rw[fuL,flL,x6l,x1t _ _ _ t,Wb _ _ _ r]
end
def DX(d i:Int)(e:Bool)(l:List S):(fuL d i e l).length=cntL l:=by
 rw[<-Wh,<-Wb d i e l,x6j]
def HA{nest seen m:Int}{s:S}(h:Ge nest seen s=some m):oneOk s=true/\s.id=seen+1/\∃k,UT (nest+1) (seen+1) s.I=some k/\UT (nest+1) k s.L=some m:=by
 rw[Iq]at h;split at h
 .cases h
 split at h
 .cases h
 rename_i p;cases n:namesB s.F<;>rw[n]at h
 .cases h
 cases l:VV s<;>rw[l]at h
 .cases h
 simp only[x7z]at h;split at h
 .rename_i k o;exact⟨by unfold oneOk;rw[n,l];rfl,by omega,k,o,h⟩
 .cases h
def KQ{nest seen m:Int}{s:S}{r:List S}(h:UT nest seen (s::r)=some m):nest<=12/\∃k,Ge nest seen s=some k/\UT nest k r=some m:=by
 rw[UT]at h;split at h
 .cases h
 rename_i n;split at h
 .rename_i k l;exact⟨by omega,k,l,h⟩
 .cases h
mutual
theorem q8p(d i:Int)(e:Bool):∀(t:S){n m:Int},d<=12->Ge d n t=some m->∀x∈fuS d i e t,x.deep<=12/\oneOk x.s=true
 | .mk id kind F name D x has args I L,n,m,hd,h,y,hy=>by
   obtain⟨h1,_,m1,h2,h3⟩:=HA h;rw[fuS]at hy;rcases x6m.1 hy with rfl|hy
   ·exact⟨hd,h1⟩
   ·rcases x6s.1 hy with hy|hy
    ·exact TP _ _ _ I h2 y hy
    ·exact TP _ _ _ L h3 y hy
theorem TP(d i:Int)(e:Bool):∀(l:List S){n m:Int},UT d n l=some m->∀x∈fuL d i e l,x.deep<=12/\oneOk x.s=true
 |[],n,m,h,y,hy=>by rw[fuL]at hy;cases hy
 | t::r,n,m,h,y,hy=>by
   obtain⟨h1,m1,h2,h3⟩:=KQ h;rw[fuL]at hy;rcases x6s.1 hy with hy|hy
   ·exact q8p _ _ _ t h1 h2 y hy
   ·exact TP _ _ _ r h3 y hy
end
def q8h:∀(k:Nat)(l:List S)(i:Int)(e:Bool)(out:List RI)(seen m:Int),UT (13-(k:Int)) seen l=some m->out.length+cntL l<=200->flF k i e l out=out++fuL (13-(k:Int)) i e l:=by
 intro k;induction k with
 | zero=>
   intro l i e out seen m h n;cases l with
   |nil=>rw[fuL,x8x];rfl
   | cons s r=>
     have:=(KQ h).1;simp at this
 | succ k u=>
   intro l;induction l with
   |nil=>intro i e out seen m h n;rw[fuL,x8x];rfl
   | cons s r o=>
     intro i e out seen m h n;obtain⟨x,y,v,w⟩:=KQ h;obtain⟨_,_,z,q,t⟩:=HA v;have p:(13:Int)-((k+1:Nat):Int)+1=13-(k:Int):=by omega
     rw[p]at q t;rw[cntL,WB]at n;show flF (k+1) i e r (if out.length<=200 then flF k s.id true s.L (flF k s.id false s.I (out++[⟨s,13-((k+1:Nat):Int),i,e⟩]))else out)=_;rw[if_pos (by omega),u s.I s.id false _ _ _ q (by simp;omega),u s.L s.id true _ _ _ t (by simp[DX];omega),o i e _ _ _ w (by simp[DX];omega),fuL,Ew,p];simp
def VS(f:Pr):List RI:=flF 12 0 false f.body []
def BS(l:List Pr)(out:List RI):List RI:=l.foldl (fun o f=>if o.length<=200 then o++VS f else o) out
def allR(p:Pg):List RI:=BS p.A []
def flatU(f:Pr):List RI:=fuL 1 0 false f.body
theorem K0:∀(l:List Pr){n m:Int},ZZ n l=some m->∀f∈l,GM f=true/\∃a b,UT 1 a f.body=some b
 |[],_,_,_,f,k=>by cases k
 | g::r,n,m,h,f,k=>by
   rw[ZZ]at h;cases o:GM g<;>rw[o]at h
   .cases h
   simp only[x7z]at h;split at h
   .rename_i q p;rcases x6m.1 k with rfl|k
    .exact ⟨o,_,_,p⟩
    .exact K0 r h f k
   .cases h
def Wo{p:Pg}(h:YH p=true):p.B.length<=16/\p.A.length<=16/\namesB p.B=true/\∀f∈p.A,GM f=true/\∃a b,UT 1 a f.body=some b:=by
 unfold YH at h;simp only[x7y,x7s]at h;obtain⟨⟨⟨n,o⟩,q⟩,k⟩:=h;refine⟨n,o,q,?_⟩;cases l:ZZ 0 p.A with
 |none=>rw[l]at k;cases k
 |some m=>exact K0 p.A l
theorem Xh:∀(l:List Pr)(f:Pr),f∈l->cntL f.body<=cntP l
 |[],f,h=>by cases h
 | g::r,f,h=>by
   rw[cntP];rcases x6m.1 h with rfl|h
   .omega
   .have:=Xh r f h;omega
def FA{p:Pg}(h:YH p=true){f:Pr}(k:f∈p.A):VS f=flatU f:=by
 obtain⟨_,_,_,l⟩:=Wo h;obtain⟨_,a,b,m⟩:=l f k;have n:=(ZL h).2.2;have o:=Xh _ f k;have:=q8h 12 f.body 0 false [] a b m (by simp;omega);simpa[VS,flatU]using this
theorem Ta:∀(l:List Pr)(out:List RI),(∀f∈l,VS f=flatU f)->out.length+cntP l<=200->BS l out=out++l.flatMap flatU
 |[],out,_,_=>by show out=_;simp
 | f::r,out,h,hl=>by
   rw[cntP]at hl;show BS r (if out.length<=200 then out++VS f else out)=_;have e:=DX 1 0 false f.body;rw[if_pos (by omega),h f x6g,Ta r _ (fun g k=>h g (x6b _ k)) (by simp only[flatU,x6f,e];omega)];simp
def Df{p:Pg}(h:YH p=true):allR p=p.A.flatMap flatU:=by
 have:=Ta p.A [] (fun f k=>FA h k) (by have:=(ZL h).2.2;simpa using this);simpa[allR]using this
def Al{p:Pg}(h:YH p=true):∀x∈p.A.flatMap flatU,x.deep<=12/\oneOk x.s=true:=by
 intro x k;obtain⟨f,n,k⟩:=x8w.1 k;obtain⟨_,_,_,l⟩:=Wo h;obtain⟨_,a,b,m⟩:=l f n;exact TP 1 0 false f.body m x k
theorem Z2:∀(l:List Pr){n:Nat}{m:Int},ZZ n l=some m->(l.flatMap fun f=>flL f.body).map S.id=JK n (cntP l)
 |[],n,m,_=>by rw[cntP];rfl
 | g::r,n,m,h=>by
   rw[ZZ]at h;cases s:GM g<;>rw[s]at h
   .cases h
   simp only[x7z]at h;split at h
   .rename_i t k;have p:=YM _ _ g.body k;have o:ZZ ((n+cntL g.body:Nat):Int) r=some m:=by rw[<-h,p];rfl
    have q:=Z2 r o;rw[x8n,x6l,DY 1 g.body k,q,cntP,YP]
   .cases h
def q1e(l:List Pr):(l.flatMap flatU).map RI.s=l.flatMap fun f=>flL f.body:=by
 induction l with
 |nil=>rfl
 | cons f r h=>
   rw[x8n,x8n,x6l,h];congr 1;exact Wb _ _ _ _
def Xu(l:List Pr):(l.flatMap flatU).length=cntP l:=by
 induction l with
 |nil=>rfl
 |cons f r h=>rw[x8n,x6f,h,cntP];congr 1;exact DX _ _ _ _
def Oq{p:Pg}(h:YH p=true){k:Nat}{x:RI}(r:(p.A.flatMap flatU)[k]?=some x):x.s.id=(k:Int)+1:=by
 unfold YH at h;simp only[x7y,x7s]at h;cases t:ZZ 0 p.A with
 |none=>rw[t]at h;cases h.2
 | some m=>
   have q:=Z2 p.A (n:=0) t;rw[<-q1e]at q;have l:(((p.A.flatMap flatU).map RI.s).map S.id)[k]?=some x.s.id:=by simp[r]
   rw[q]at l;unfold JK at l;have o:k<cntP p.A:=by rw[<-Xu];exact(x6n.1 r).1
   rw[x6a,z0m o]at l;simp at l;omega
def riH(t:Nat)(out:List RI):Heap:=[(2000,.own t 16 (out.map fun i=>.agg i.cells))]
def q5o{t:Nat}{out:List RI}{x:RI}:riH t (out++[x])=[(2000,.own t 16 ((out.map fun i=>.agg i.cells)++[.agg x.cells]))]:=by simp[riH]
def HS(l:List RI):(l.map fun i=>AV.agg i.cells).length=l.length:=x6j _
def Om{e:Bool}{l:List S}{o:List RI}(k:j<l.length)(h:o.length<=200):flF 0 i e (l.drop j) o=flF 0 i e (l.drop (j+1)) (o++[⟨l[j],13,i,e⟩]):=by
 rw[QF k];show flF 0 i e (l.drop (j+1)) (if o.length<=200 then _ else _)=_;rw[if_pos h]
def q4b{m:Nat}{e:Bool}{l:List S}{o:List RI}(k:j<l.length)(h:o.length<=200):flF (m+1) i e (l.drop j) o=flF (m+1) i e (l.drop (j+1)) (flF m l[j].id true l[j].L (flF m l[j].id false l[j].I (o++[RI.mk l[j] (13-((m+1:Nat):Int)) i e]))):=by
 rw[QF k];show flF (m+1) i e (l.drop (j+1)) (if o.length<=200 then _ else _)=_;rw[if_pos h]
theorem Y6:∀(m:Nat){i:Int}{e:Bool}{l:List S}{o:List RI},¬o.length<=200->flF m i e l o=o
 |0,i,e,[],o,_=>rfl
 |m+1,i,e,[],o,_=>rfl
 | 0,i,e,s::r,o,h=>by
   show flF 0 i e r (if o.length<=200 then _ else o)=o;rw[if_neg h];exact Y6 0 h
 | m+1,i,e,s::r,o,h=>by
   show flF (m+1) i e r (if o.length<=200 then _ else o)=o;rw[if_neg h];exact Y6 (m+1) h
def E4(m:Nat){e:Bool}{o:List RI}:flF m i e [] o=o:=by cases m<;>rfl
def Vp:∀(m:Nat)(_:m<=12)(l:List S)(i:Int)(e:Bool)(out:List RI),
  SpecH prog 61 [.p (eSs l),.p (.int .i64 (13-(m:Int))),.p (.int .i64 i),.p (.bool e),.hd 2000 0 out.length] (riH 119 out)
   (fun r H=>r=.hd 2000 0 (flF m i e l out).length/\H=riH 119 (flF m i e l out)):=by
 intro m;induction m with
 | zero=>
   intro _ l i e out;have q:=S.avs_len l;refine sH KU func61 rfl call61 ?_;conv=>whnf
   skip
   refine LoopK.inv QW (fun x:Nat×List RI=>⟨[(0,.p (eSs l)),(1,.p (.int .i64 (13-((0:Nat):Int)))),(2,.p (.int .i64 i)),(3,.p (.bool e)),(4,.hd 2000 0 x.2.length),(11,.p (.int .i64 x.1))],riH 119 x.2⟩) (fun x=>x.1<=l.length/\flF 0 i e (l.drop x.1) x.2=flF 0 i e l out) (fun x=>l.length-x.1) (0,out) (Le.of_eq rfl) ⟨x6t _,rfl⟩ ?_;rintro⟨j,o⟩ ⟨n,h⟩;simp only at n h⊢;have s:=HS o;rcases x6c j l.length with k|k
   .conv=>whnf
    repeat' (first|((first|(refine iM fun _=>?_)|refine x6d rfl ?_|refine aD ?_|refine bP ?_|refine QI (by omega) ?_|refine wI ?_|refine x8e (by simp) rfl (by show(o.length+1)*232<=140737488355328;omega) (by show o.length+1<=9223372036854775807;omega) (fun x t=>by rcases x6p.1 t with rfl;exact⟨rfl,rfl⟩) ?_);conv=>whnf)|(apply bD<;>intro _<;>first|omega|conv=>whnf))
    .exact ⟨(j+1,o++[⟨l[j],13,i,e⟩]),⟨k,by rw[<-h,Om k (by omega)]⟩,by simp only;omega,Le.of_eq (by simp only[q5o,x6f,x7r];rfl)⟩
    .rw [Y6 0 (by omega)]at h;exact⟨_,.refl _,by rw[<-h];exact⟨rfl,rfl⟩⟩
   .conv=>whnf
    repeat' (first|(refine iM fun _=>?_;conv=>whnf)|(apply bD<;>intro _<;>first|omega|conv=>whnf))
    rw[x7v k,E4]at h;exact⟨_,.refl _,by rw[<-h];exact⟨rfl,rfl⟩⟩
 | succ m u=>
   intro v l i e out;have q:=S.avs_len l;refine sH KU func61 rfl call61 ?_;conv=>whnf
   skip
   refine LoopK.inv QW (fun x:Nat×List RI=>⟨[(0,.p (eSs l)),(1,.p (.int .i64 (13-((m+1:Nat):Int)))),(2,.p (.int .i64 i)),(3,.p (.bool e)),(4,.hd 2000 0 x.2.length),(11,.p (.int .i64 x.1))],riH 119 x.2⟩) (fun x=>x.1<=l.length/\flF (m+1) i e (l.drop x.1) x.2=flF (m+1) i e l out) (fun x=>l.length-x.1) (0,out) (Le.of_eq rfl) ⟨x6t _,rfl⟩ ?_;rintro⟨j,o⟩ ⟨n,h⟩;simp only at n h⊢;have s:=HS o;rcases x6c j l.length with k|k
   .conv=>whnf
    repeat' (first|((first|(refine iM fun _=>?_)|refine dA ?_|refine x6d rfl ?_|refine aD ?_|refine bP ?_|refine QI (by omega) ?_|refine wI ?_|refine x8e (by simp) rfl (by show(o.length+1)*232<=140737488355328;omega) (by show o.length+1<=9223372036854775807;omega) (fun x t=>by rcases x6p.1 t with rfl;exact⟨rfl,rfl⟩) ?_);conv=>whnf)|(apply bD<;>intro _<;>first|omega|conv=>whnf))
    .refine CallK.heap [(2000,2000)] 0 (x6i (x6e _) (x6i (x7q (Sub.int (by omega))) (x6i (x6e _) (x6i (x7q (Sub.ff rfl)) (x6i (z1m (by rw[x6f];rfl)) x7h))))) (by exact x6y (j:=2000) rfl rfl (CSub.of_eq (by rw[x6l];first|done|rfl)) x7f) (u (by omega) l[j].I l[j].id false (o++[RI.mk l[j] (13-((m+1:Nat):Int)) i e])) rfl rfl ?_;rintro l' H' ⟨rfl,rfl⟩;conv=>whnf
     repeat' ((first|refine dA ?_|refine QI (by omega) ?_|refine wI ?_);conv=>whnf)
     refine CallK.heap [(2000,2000)] 0 (x6i (x6e _) (x6i (x7q (Sub.int (by omega))) (x6i (x6e _) (x6i (x7q (Sub.tt rfl)) (x6i (x6e _) x7h))))) (by exact x6y (j:=2000) rfl rfl (CSub.refl _) x7f) (u (by omega) l[j].L l[j].id true (flF m l[j].id false l[j].I (o++[RI.mk l[j] (13-((m+1:Nat):Int)) i e]))) rfl rfl ?_;rintro l' H' ⟨rfl,rfl⟩;conv=>whnf
     repeat' (refine wI ?_;conv=>whnf)
     exact⟨(j+1,flF m l[j].id true l[j].L (flF m l[j].id false l[j].I (o++[RI.mk l[j] (13-((m+1:Nat):Int)) i e]))),⟨k,by rw[<-h,q4b k (by omega)]⟩,by simp only;omega,Le.of_eq rfl⟩
    .rw [Y6 (m+1) (by omega)]at h;exact⟨_,.refl _,by rw[<-h];exact⟨rfl,rfl⟩⟩
   .conv=>whnf
    repeat' (first|(refine iM fun _=>?_;conv=>whnf)|(apply bD<;>intro _<;>first|omega|conv=>whnf))
    rw[x7v k,E4]at h;exact⟨_,.refl _,by rw[<-h];exact⟨rfl,rfl⟩⟩
def XI(f:Pr):SpecP prog 27 [.agg f.cells] (fun r=>r=Na (VS f)):=by
 refine sB LP func27 rfl call27 ?_;conv=>whnf
 skip
 refine CallK.nil 5 119 16 rfl (.cons rfl (.cons rfl (.cons rfl (.cons rfl (.row .nil))))) ?_;refine CallK.heap [(2000,5)] 0 (by repeat' (first|exact x7h|refine x6i ?_ ?_|exact x6e _|exact x7q Sub.nils|exact x7q (Sub.tt rfl)|exact x7q (Sub.ff rfl)|exact x7q (Sub.int (by omega)))) (by refine x6y (j:=5) rfl rfl ?_ ?_;exact CSub.refl _;exact x7f) (Vp 12 (by omega) f.body 0 false []) rfl rfl ?_;rintro l' H' ⟨rfl,rfl⟩;conv=>whnf
 exact⟨_,.hd rfl (by simp[VS]),rfl⟩
def C5{l:List Pr}{o:List RI}(k:j<l.length)(h:o.length<=200):BS (l.drop j) o=BS (l.drop (j+1)) (o++VS l[j]):=by
 rw[QF k];show BS (l.drop (j+1)) (if o.length<=200 then _ else _)=_;rw[if_pos h]
theorem H9:∀{l:List Pr}{o:List RI},¬o.length<=200->BS l o=o
 |[],o,_=>rfl
 | f::r,o,h=>by
   show BS r (if o.length<=200 then _ else o)=o;rw[if_neg h];exact H9 h
def HH(f:Pr):(VS f).length<=201:=by
 have:=(PZ 12 0 false f.body []).2;simpa[VS]using this
def JF(p:Pg):SpecP prog 62 [.agg p.cells] (fun r=>r=Na (allR p)):=by
 refine sB X4 func62 rfl call62 ?_;conv=>whnf
 repeat' (refine iM fun _=>?_;conv=>whnf)
 have v:(p.A.map fun f=>AV.agg f.cells).length=p.A.length:=x6j _;refine LoopK.inv QW (fun x:Nat×List RI=>⟨[(3,.hd 1 0 x.2.length),(7,.p (.sl (p.A.map fun f=>.agg f.cells))),(8,.p (.int .i64 (p.A.map fun f=>AV.agg f.cells).length)),(9,.p (.int .i64 x.1))],[(1,.own 119 16 (x.2.map fun i=>.agg i.cells))]⟩) (fun x=>x.1<=p.A.length/\x.2.length<=200/\BS (p.A.drop x.1) x.2=allR p) (fun x=>p.A.length-x.1) (0,[])
  (Le.mk [(1,.own 119 16 [])] (by simp[Chunk.new0];rfl) (by simp) (by simp) (.cons (.nil x6g) (.r (.r (.r .nil)))) (.new x6g .nil)) ⟨x6t _,x6t _,rfl⟩ ?_
 rintro⟨j,o⟩ ⟨u,q,m⟩;simp only at u m q⊢;have w:=HS o;rcases x6c j p.A.length with n|n
 .have s:=HH p.A[j];have l:=fun(h:o.length<=200)=>C5 n h;have t:=XI p.A[j];generalize a:VS p.A[j]=L at s l t;have k:=HS L;conv=>whnf
  repeat' (first|((first|(refine iM fun _=>?_)|refine x6d rfl ?_|refine aD ?_|(refine iA fun _=>?_)|refine wI ?_|refine cP t ?_|refine x8e (by simp) rfl (by rw[k];show(o.length+L.length)*232<=140737488355328;omega) (by rw[k];show o.length+L.length<=9223372036854775807;omega) (fun x z=>by obtain⟨y,_,rfl⟩:=x6r.1 z;exact⟨rfl,rfl⟩) ?_);conv=>whnf)|(apply bD<;>intro _<;>first|omega|conv=>whnf))
  .refine ⟨_,.hd rfl (by simp),?_⟩;rw[<-m,l q,H9 (by simp;omega),<-x6l];rfl
  .exact ⟨(j+1,o++L),⟨n,by simp;omega,by rw[<-m,l q]⟩,by simp only;omega,Le.of_eq (by simp only[x6f,x6l,x6j];rfl)⟩
 .conv=>whnf
  repeat' (apply bD<;>intro _<;>first|omega|conv=>whnf)
  rw[x7v n]at m;refine⟨_,.hd rfl (by simp),?_⟩;rw[<-m];simp[Na,BS]
structure MayF(p:Pg):Prop where
 gl:p.B.length<=16
 pl:p.A.length<=16
 gn:namesB p.B=true
 pr:∀f∈p.A,f.C.length<=8/\f.E.length<=16/\isName f.name=true/\namesB f.E=true/\namesB f.fin=true/\(f.C.all fun a=>isName a.name)=true
 len:(allR p).length<=200
 its:∀(k:Nat)(x:RI),(allR p)[k]?=some x->x.s.id=(k:Int)+1/\x.deep<=12/\oneOk x.s=true
def ZG{p:Pg}(h:YH p=true):MayF p:=by
 obtain⟨m,n,o,q⟩:=Wo h;refine⟨m,n,o,fun f r=>HM.1 (q f r).1,?_,fun k x l=>?_⟩
 .rw [Df h,Xu];exact(ZL h).2.2
 .rw [Df h]at l;exact⟨Oq h l,Al h x (x7j l)⟩
def Pr0:Pr:=⟨[],[],[],[],[]⟩
def UE(p:Pg)(n:Str):Pr×Bool:=match p.A.find? (fun f=>f.name==n)with
 |some f=>(f,true)
 |none=>(Pr0,false)
def Tv:Sub (.agg [.str [],.nils,.nils,.nils,.nils]) (.agg Pr0.cells):=Sub.agg (SubL.cons (Sub.refl _) (SubL.cons Sub.nils (SubL.cons Sub.nils (SubL.cons Sub.nils (SubL.cons Sub.nils SubL.nil)))))
def WK(l:List Str)(m:l.length<=1000000):SpecP prog 83 [eStrs l] (fun r=>r=eStrs l):=by
 refine sB NO func83 rfl call83 ?_;conv=>whnf
 have h:(l.map AV.str).length=l.length:=x6j _;repeat' (refine aD ?_;conv=>whnf)
 refine x8e rfl rfl (by rw[h];show(0+l.length)*16<=140737488355328;omega) (by rw[h];show 0+l.length<=9223372036854775807;omega) (fun x k=>by obtain⟨s,_,rfl⟩:=x6r.1 k;exact⟨rfl,rfl⟩) ?_;conv=>whnf
 skip
 exact⟨_,.hd rfl (by simp),rfl⟩
def MT:List Str->Nat
 |[]=>0
 |s::r=>1+s.length+MT r
mutual
def gX:X->Nat
 |.mk _ _ name kids=>1+name.length+gXs kids
def gXs:List X->Nat
 |[]=>0
 |x::r=>gX x+gXs r
end
def Gp:List Arg->Nat
 |[]=>0
 |a::r=>gX a.x+(1+a.name.length)+Gp r
mutual
def gS:S->Nat
 |.mk _ _ F name D x _ args I L=>gX x+MT F+(1+name.length)+(1+D.length)+Gp args+gL I+gL L
def gL:List S->Nat
 |[]=>0
 |s::r=>gS s+gL r
end
def IE:List Param->Nat
 |[]=>0
 |a::r=>1+a.name.length+IE r
def gPr(f:Pr):Nat:=1+f.name.length+MT f.E+MT f.fin+IE f.C+gL f.body
def RK:List Pr->Nat
 |[]=>0
 |f::r=>gPr f+RK r
def gPg(p:Pg):Nat:=MT p.B+RK p.A
def x1s(s:S):gS s=gX s.x+MT s.F+(1+s.name.length)+(1+s.D.length)+Gp s.args+gL s.I+gL s.L:=by
 cases s;rw[gS];rfl
theorem R0:∀l:List Str,La l<=MT l
 |[]=>x7u _
 |s::r=>by have:=R0 r;simp only[La,MT];omega
mutual
theorem x4x:∀x:X,wX x<=gX x
 |.mk _ _ name kids=>by have:=x0w kids;rw[wX,gX];omega
theorem x0w:∀l:List X,wXs l<=gXs l
 |[]=>by rw[wXs];omega
 |x::r=>by have:=x4x x;have:=x0w r;rw[wXs,gXs];omega
end
theorem IT:∀l:List Arg,Zb l<=Gp l
 |[]=>x7u _
 |a::r=>by have:=IT r;have:=x4x a.x;simp only[Zb,Gp];omega
mutual
theorem x6w:∀s:S,wS s<=gS s
 | .mk _ _ F name D x _ args I L=>by
   have:=x4x x;have:=R0 F;have:=IT args;have:=x0t I;have:=x0t L;rw[wS,gS];omega
theorem x0t:∀l:List S,wL l<=gL l
 |[]=>by rw[wL];omega
 |s::r=>by have:=x6w s;have:=x0t r;rw[wL,gL];omega
end
theorem q3f:∀l:List Param,q1n l<=IE l
 |[]=>x7u _
 |a::r=>by have:=q3f r;simp only[q1n,IE];omega
theorem q3d:∀l:List Pr,A4 l<=RK l
 |[]=>x7u _
 | f::r=>by
   have:=q3d r;have:=R0 f.E;have:=R0 f.fin;have:=q3f f.C;have:=x0t f.body;simp only[A4,RK,wPr,gPr];omega
def x0z(p:Pg):wPg p<=gPg p:=by
 have:=R0 p.B;have:=q3d p.A;unfold wPg gPg;omega
def XG(x:Int):Int:=if x>20000 then 20001 else x
def ZF{a b:Int}(h:0<=b):XG (XG a+b)=XG (a+b):=by
 unfold XG;split<;>split<;>(try split)<;>omega
def ZY{a:Int}(h:0<=a):0<=XG a/\XG a<=20001:=by
 unfold XG;split<;>omega
def P0{a:Int}(h:a<=20001):XG a=a:=by
 unfold XG;split<;>omega
def YI{a b:Int}(h:a>20000)(k:a<=20001)(l:0<=b):a=XG (a+b):=by
 unfold XG;split<;>omega
def QT(s:Str)(n:Int)(h:0<=n/\n<=20001):SpecP prog 46 [.str s,.int .i64 n] (fun r=>r=.int .i64 (XG (n+(1+s.length:Nat)))):=by
 refine sB GI func46 rfl call46 ?_;conv=>whnf
 repeat' (first|((first|(refine iM fun _=>?_)|refine wI ?_);conv=>whnf)|(apply bD<;>intro _<;>first|omega|conv=>whnf))
 all_goals exact RetK.int (by unfold XG;(repeat' split)<;>omega)
def XR(l:List Str)(n:Int)(t:0<=n/\n<=20001):SpecP prog 45 [eStrs l,.int .i64 n] (fun r=>r=.int .i64 (XG (n+MT l))):=by
 refine sB GF func45 rfl call45 ?_;conv=>whnf
 skip
 have u:(l.map AV.str).length=l.length:=x6j _;refine LoopK.inv QW (fun x:Nat×Int=>⟨[(0,.p (eStrs l)),(1,.p (.int .i64 x.2)),(5,.p (.int .i64 x.1))],[]⟩) (fun x=>x.1<=l.length/\(0<=x.2/\x.2<=20001)/\XG (x.2+MT (l.drop x.1))=XG (n+MT l)) (fun x=>l.length-x.1) (0,n) (Le.of_eq rfl) ⟨x6t _,t,rfl⟩ ?_;rintro⟨j,m⟩ ⟨q,k,h⟩;simp only at q k h⊢;rcases x6c j l.length with o|o
 .rw [x7t o,MT]at h;conv=>whnf
  repeat' (first|((first|(refine iM fun _=>?_)|refine cP (QT _ _ k) ?_|(refine iA fun _=>?_)|refine wI ?_);conv=>whnf)|(apply bD<;>intro _<;>first|omega|conv=>whnf))
  .have s:XG (XG (m+(1+l[j].length:Nat))+MT (l.drop (j+1)))=XG (n+MT l):=by
    rw[ZF (by omega),<-h];congr 1;omega
   exact⟨(j+1,XG (m+(1+l[j].length:Nat))),⟨by simp only;omega,ZY (by omega),s⟩,by simp only;omega,Le.of_eq rfl⟩
  .exact RetK.int (by rw[<-h];exact YI (by omega) k.2 (by omega))
 .rw [x7v o,MT]at h;conv=>whnf
  repeat' (first|(refine iM fun _=>?_;conv=>whnf)|(apply bD<;>intro _<;>first|omega|conv=>whnf))
  exact RetK.int (by rw[<-h,P0 (by omega)];simp)
def YZ:∀(k:Nat)(x:X)(_:gX x<k)(n:Int)(_:0<=n/\n<=20001),SpecP prog 88 [.agg x.cells,.int .i64 n] (fun r=>r=.int .i64 (XG (n+gX x))):=by
 intro k;induction k with
 |zero=>intro x h;omega
 | succ k v=>
   intro x d n c;have u:gX x=1+x.name.length+gXs x.kids:=by cases x;rw[gX];rfl
   have b:=X.avs_len x.kids;refine sB GE func88 rfl call88 ?_;conv=>whnf
   repeat' (refine cP (QT _ _ c) ?_;conv=>whnf)
   refine LoopK.inv QW (fun y:Nat×Int=>⟨[(1,.p (.int .i64 y.2)),(2,.p (.ip x.cells)),(5,.p (.int .i64 y.1))],[]⟩) (fun y=>y.1<=x.kids.length/\(0<=y.2/\y.2<=20001)/\XG (y.2+gXs (x.kids.drop y.1))=XG (n+gX x)) (fun y=>x.kids.length-y.1) (0,XG (n+(1+x.name.length:Nat))) (Le.of_eq rfl) ⟨x6t _,ZY (by omega),by
    show XG (XG (n+(1+x.name.length:Nat))+gXs x.kids)=_;rw[ZF (by omega),u];congr 1;omega⟩ ?_
   rintro⟨j,m⟩ ⟨w,s,o⟩;simp only at w s o⊢;rcases x6c j x.kids.length with q|q
   .rw [x7t q,gXs]at o;have t:gX x.kids[j]<k:=by
     have:∀(l:List X)(y:X),y∈l->gX y<=gXs l:=fun l=>by
      induction l with
      |nil=>intro y h;cases h
      | cons a r v=>
        intro y h;rw[gXs];rcases x6m.1 h with rfl|h
        .omega
        .have:=v y h;omega
     have:=this x.kids _ (x6o q);omega
    conv=>whnf
    repeat' (first|((first|(refine iM fun _=>?_)|refine IdxK.xs (by omega) ?_|refine wI ?_|refine cP (v (x.kids[j]'q) t m s) ?_);conv=>whnf)|(apply bD<;>intro _<;>first|omega|conv=>whnf))
    .have z:XG (XG (m+gX x.kids[j])+gXs (x.kids.drop (j+1)))=XG (n+gX x):=by
      rw[ZF (by omega),<-o];congr 1;omega
     exact⟨(j+1,XG (m+gX x.kids[j])),⟨by simp only;omega,ZY (by omega),z⟩,by simp only;omega,Le.of_eq rfl⟩
    .exact RetK.int (by rw[<-o];exact YI (by omega) s.2 (by omega))
   .rw [x7v q,gXs]at o;conv=>whnf
    repeat' (first|(refine iM fun _=>?_;conv=>whnf)|(apply bD<;>intro _<;>first|omega|conv=>whnf))
    exact RetK.int (by rw[<-o,P0 (by omega)];simp)
theorem q2d:∀(l:List S)(y:S),y∈l->gS y<=gL l
 |[],y,h=>by cases h
 | a::r,y,h=>by
   rw[gL];rcases x6m.1 h with rfl|h
   .omega
   .have:=q2d r y h;omega
def UR:∀(k:Nat)(l:List S)(_:gL l<k)(n:Int)(_:0<=n/\n<=20001),SpecP prog 47 [eSs l,.int .i64 n] (fun r=>r=.int .i64 (XG (n+gL l))):=by
 intro k;induction k with
 |zero=>intro l h;omega
 | succ k w=>
   intro l P n H;have G:=S.avs_len l;refine sB GH func47 rfl call47 ?_;conv=>whnf
   skip
   refine LoopK.inv QW (fun y:Nat×Int=>⟨[(0,.p (eSs l)),(1,.p (.int .i64 y.2)),(5,.p (.int .i64 y.1))],[]⟩) (fun y=>y.1<=l.length/\(0<=y.2/\y.2<=20001)/\XG (y.2+gL (l.drop y.1))=XG (n+gL l)) (fun y=>l.length-y.1) (0,n) (Le.of_eq rfl) ⟨x6t _,H,rfl⟩ ?_;rintro⟨j,m⟩ ⟨A,b,q⟩;simp only at A b q⊢;rcases x6c j l.length with v|v;rotate_left 1
   .rw [x7v v,gL]at q;conv=>whnf
    repeat' (first|(refine iM fun _=>?_;conv=>whnf)|(apply bD<;>intro _<;>first|omega|conv=>whnf))
    exact RetK.int (by rw[<-q,P0 (by omega)];simp)
   rw[x7t v,gL]at q;have J:=q2d l _ (x6o v);have d:=x1s l[j];have K:=ZY (a:=m+gX l[j].x) (by omega);have M:=ZY (a:=XG (m+gX l[j].x)+MT l[j].F) (by omega);have N:=ZY (a:=XG (XG (m+gX l[j].x)+MT l[j].F)+(1+l[j].name.length:Nat)) (by omega);conv=>whnf
   repeat' (first|((first|(refine iM fun _=>?_)|refine dA ?_|refine x6d rfl ?_|refine QI (by omega) ?_|(refine CallK.pure (YZ (gX l[j].x+1) l[j].x (by omega) m b) (.cons (Sub.refl _) (.cons (Sub.refl _) .nil)) ?_;rintro _ rfl)|refine cP (XR l[j].F _ K) ?_|refine cP (QT l[j].name _ M) ?_|refine cP (QT l[j].D _ N) ?_);conv=>whnf)|(apply bD<;>intro _<;>first|omega|conv=>whnf))
   rotate_left 1
   .exact RetK.int (by rw[<-q];exact YI (by omega) b.2 (by omega))
   have f:=ZY (a:=XG (XG (XG (m+gX l[j].x)+MT l[j].F)+(1+l[j].name.length:Nat))+(1+l[j].D.length:Nat)) (by omega);have e:XG (XG (XG (XG (XG (m+gX l[j].x)+MT l[j].F)+(1+l[j].name.length:Nat))+(1+l[j].D.length:Nat))+(Gp l[j].args+(gL l[j].I+gL l[j].L+gL (l.drop (j+1))):Nat))=XG (n+gL l):=by
    rw[ZF (by omega),z1a,ZF (by omega),z1a,ZF (by omega),z1a,ZF (by omega),<-q,d];congr 1;omega
   generalize XG (XG (XG (XG (m+gX l[j].x)+MT l[j].F)+(1+l[j].name.length:Nat))+(1+l[j].D.length:Nat))=m0 at f e⊢;have E:(l[j].args.map fun a=>AV.agg a.cells).length=l[j].args.length:=x6j _;refine LoopK.inv QW (fun y:Nat×Int=>⟨[(0,.p (eSs l)),(1,.p (.int .i64 y.2)),(5,.p (.int .i64 j)),(6,.p (.ip l[j].cells)),(7,.p (.int .i64 y.1))],[]⟩) (fun y=>y.1<=l[j].args.length/\(0<=y.2/\y.2<=20001)/\XG (y.2+(Gp (l[j].args.drop y.1)+(gL l[j].I+gL l[j].L+gL (l.drop (j+1))):Nat))=XG (n+gL l)) (fun y=>l[j].args.length-y.1) (0,m0) (Le.of_eq rfl) ⟨x6t _,f,e⟩ ?_;rintro⟨a,o⟩ ⟨B,s,t⟩;simp only at B s t⊢;have fin:XG (o+(gL l[j].I+gL l[j].L+gL (l.drop (j+1)):Nat))=XG (n+gL l)->(0<=XG (XG (o+gL l[j].I)+gL l[j].L)/\XG (XG (o+gL l[j].I)+gL l[j].L)<=20001)/\XG (XG (XG (o+gL l[j].I)+gL l[j].L)+gL (l.drop (j+1)))=XG (n+gL l):=fun h=>by
    have:=ZY (a:=o+gL l[j].I) (by omega);refine⟨ZY (by omega),?_⟩;rw[ZF (by omega),z1a,ZF (by omega),<-h];congr 1;omega
   have g:=ZY (a:=o+gL l[j].I) (by omega);have u:o>20000->XG (o+(gL l[j].I+gL l[j].L+gL (l.drop (j+1)):Nat))=XG (n+gL l):=fun h=>by
    rw[<-t,<-YI h s.2 (by omega),<-YI h s.2 (by omega)]
   rcases x6c a l[j].args.length with c|c;rotate_left 1
   .have C:XG (o+(gL l[j].I+gL l[j].L+gL (l.drop (j+1)):Nat))=XG (n+gL l):=by
     rw[x7v c,Gp,x8d]at t;exact t
    obtain⟨f1,f2⟩:=fin C;conv=>whnf
    repeat' (first|((first|(refine iM fun _=>?_)|refine dA ?_|refine wI ?_|(refine CallK.pure (w l[j].I (by omega) o s) (.cons (Sub.refl _) (.cons (Sub.refl _) .nil)) ?_;rintro _ rfl)|(refine CallK.pure (w l[j].L (by omega) _ g) (.cons (Sub.refl _) (.cons (Sub.refl _) .nil)) ?_;rintro _ rfl));conv=>whnf)|(apply bD<;>intro _<;>first|omega|conv=>whnf))
    all_goals exact⟨(j+1,XG (XG (o+gL l[j].I)+gL l[j].L)),⟨by simp only;omega,f1,f2⟩,by simp only;omega,Le.of_eq rfl⟩
   rw[x7t c,Gp]at t;have O:=ZY (a:=o+gX l[j].args[a].x) (by omega);conv=>whnf
   repeat' (first|((first|(refine iM fun _=>?_)|refine dA ?_|(refine iA fun _=>?_)|refine wI ?_|(refine CallK.pure (YZ (gX l[j].args[a].x+1) l[j].args[a].x (by omega) o s) (.cons (Sub.refl _) (.cons (Sub.refl _) .nil)) ?_;rintro _ rfl)|refine cP (QT l[j].args[a].name _ O) ?_|(refine CallK.pure (w l[j].I (by omega) o s) (.cons (Sub.refl _) (.cons (Sub.refl _) .nil)) ?_;rintro _ rfl)|(refine CallK.pure (w l[j].L (by omega) _ g) (.cons (Sub.refl _) (.cons (Sub.refl _) .nil)) ?_;rintro _ rfl));conv=>whnf)|(apply bD<;>intro _<;>first|omega|conv=>whnf))
   .have z:XG (XG (XG (o+gX l[j].args[a].x)+(1+l[j].args[a].name.length:Nat))+(Gp (l[j].args.drop (a+1))+(gL l[j].I+gL l[j].L+gL (l.drop (j+1))):Nat))=XG (n+gL l):=by
     rw[ZF (by omega),z1a,ZF (by omega),<-t];congr 1;omega
    exact⟨(a+1,XG (XG (o+gX l[j].args[a].x)+(1+l[j].args[a].name.length:Nat))),⟨by simp only;omega,ZY (by omega),z⟩,by simp only;omega,Le.of_eq rfl⟩
   .obtain ⟨f1,f2⟩:=fin (u (by omega));exact⟨(j+1,XG (XG (o+gL l[j].I)+gL l[j].L)),⟨by simp only;omega,f1,f2⟩,by simp only;omega,Le.of_eq rfl⟩
theorem q3h:∀{l:List X}{y:X},y∈l->wX y<=wXs l
 |[],_,h=>by cases h
 | a::r,y,h=>by
   rw[wXs];rcases x6m.1 h with rfl|h
   .omega
   .have:=q3h h;omega
def x0x(x:X):1<=wX x:=by cases x;rw[wX];omega
theorem IM:∀l:List X,l.length<=wXs l
 |[]=>by simp
 | a::r=>by
   rw[wXs,x7g];have:=IM r;have:=x0x a;omega
def JQ : ∀(k:Nat)(x:X)(_:wX x<k)(_:k<=21002),SpecP prog 209 [.agg x.cells] (fun r=>r=.agg x.cells):=by
 intro k;induction k with
 |zero=>intro x h;omega
 | succ k d=>
   intro x w f;have b:wX x=1+wXs x.kids:=by cases x;rw[wX];rfl
   have y:=X.avs_len x.kids;have z:=IM x.kids;refine sB FH func209 rfl call209 ?_;conv=>whnf
   repeat' ((first|(refine iM fun _=>?_)|refine x6d rfl ?_);conv=>whnf)
   all_goals
    refine LoopK.inv QW (fun j:Nat=>⟨[(1,.p (.ip x.cells)),(2,.ptr 1 0),(3,.ptr 0 0),(14,.p (.int .i64 (X.avs x.kids).length)),(15,.p (.int .i64 j))],[(0,.obj 114 [.p (.int .i64 x.op),.p (.int .i64 x.n),.p (.str (x.name)),.hd 2 0 j]),(1,.obj 114 [.p (.int .i64 0),.p (.int .i64 0),.p (.str []),.p .nils]),(2,.own 114 4 (X.avs (x.kids.take j)))]⟩) (fun j=>j<=x.kids.length) (fun j=>x.kids.length-j) 0
     (Le.mk [(2,.own 114 4 [])] (by simp[Chunk.new0];rfl) (by simp) (by simp) (.r (.r (.r (.r (.r .nil))))) (.cons rfl (.obj (.r (.r (.r (.cons (.nil x6g) .nil))))) (.cons rfl (.refl _) (.new x6g .nil)))) (x6t _) ?_
    intro j e;rcases x6c j x.kids.length with t|t
    .have a:=q3h (x6o t);have v:=d x.kids[j] (by omega) (by omega);have u:X.avs (x.kids.take (j+1))=X.avs (x.kids.take j)++[.agg (x.kids[j]).cells]:=by
      rw[X.avs_eq,X.avs_eq,x7x t,x6l];rfl
     have q:(X.avs (x.kids.take j)).length=j:=by rw[X.avs_len,x7m];omega
     generalize X.avs (x.kids.take j)=acc at u q⊢;conv=>whnf
     repeat' (first|((first|refine dA ?_|refine x6d rfl ?_|refine aD ?_|refine bP ?_|refine IdxK.xs (by omega) ?_|refine wI ?_|refine cP v ?_|refine x8e q.symm rfl (by show(j+1)*56<=140737488355328;omega) (by show j+1<=9223372036854775807;omega) (fun x w=>by rcases x6p.1 w with rfl;exact⟨rfl,rfl⟩) ?_);conv=>whnf)|(apply bD<;>intro _<;>first|omega|conv=>whnf)|(refine x6d ?_ ?_<;>conv=>whnf))
     all_goals exact⟨j+1,t,by omega,Le.of_eq (by rw[u];rfl)⟩
    .have s:X.avs (x.kids.take j)=X.avs x.kids:=by rw[x7w t]
     have q:(X.avs (x.kids.take j)).length=j:=by rw[X.avs_len,x7m];omega
     conv=>whnf
     repeat' (first|(refine x6d rfl ?_;conv=>whnf)|(apply bD<;>intro _<;>first|omega|conv=>whnf))
     refine⟨_,.agg (cs:=x.cells) rfl fun i l c m o=>?_,rfl⟩
     match i,m,o with
     |0,m,o=>cases m;cases o;exact .p (Sub.refl _)
     |1,m,o=>cases m;cases o;exact .p (Sub.refl _)
     |2,m,o=>cases m;cases o;exact .p (Sub.refl _)
     | 3,m,o=>
       cases m;cases o;show Frz _ _ (.sl (X.avs x.kids));rw[<-s];exact .hd rfl q.symm
     |i+4,m,o=>simp at m
def x4m(s:S):S:=.mk s.id s.kind s.F s.name s.D s.x s.has s.args [] []
def JR(s:S)(w:wX s.x<=21000)(d:s.F.length<=1000000)(f:s.args.length<=1000000)(u:∀a∈s.args,wX a.x<=21000):SpecP prog 144 [.agg s.cells] (fun r=>r=.agg (x4m s).cells):=by
 refine sB BW func144 rfl call144 ?_;conv=>whnf
 have b:(s.args.map fun a=>AV.agg a.cells).length=s.args.length:=x6j _;have y:=JQ 21001 s.x (by omega) (by omega);repeat' (first|((first|(refine iM fun _=>?_)|refine dA ?_|refine x6d rfl ?_|refine cP y ?_|refine cP (WK s.F d) ?_);conv=>whnf)|(refine x6d ?_ ?_<;>conv=>whnf))
 all_goals
  refine LoopK.inv QW (fun j:Nat=>⟨[(2,.ptr 1 0),(3,.ptr 0 0),(24,.p (AO s.args)),(25,.p (.int .i64 (s.args.map fun a=>AV.agg a.cells).length)),(26,.p (.int .i64 j))],[(0,.obj 117 [.p (.int .i64 s.id),.p (.int .i64 s.kind),.p (eStrs s.F),.p (.str s.name),.p (.str s.D),.p (.int .i64 s.x.op),.p (.int .i64 s.x.n),.p (.str s.x.name),.p (.sl (X.avs s.x.kids)),.p (.bool s.has),.hd 2 0 j,.p .nils,.p .nils]),(1,.obj 117 [.p (.int .i64 0),.p (.int .i64 0),.p .nils,.p (.str []),.p (.str []),.p (.int .i64 0),.p (.int .i64 0),.p (.str []),.p .nils,.p .ff,.p .nils,.p .nils,.p .nils]),(2,.own 138 6 ((s.args.take j).map fun a=>.agg a.cells))]⟩) (fun j=>j<=s.args.length) (fun j=>s.args.length-j) 0
   (Le.mk [(2,.own 138 6 [])] (by simp[Chunk.new0];rfl) (by simp) (by simp) (.r (.r (.r (.r (.r .nil))))) (.cons rfl (.obj (.r (.r (.r (.r (.r (.r (.r (.r (.r (.r (.cons (.nil x6g) (.r (.r .nil)))))))))))))) (.cons rfl (.refl _) (.new x6g .nil)))) (x6t _) ?_
  intro j e;rcases x6c j s.args.length with q|q
  .have v:=u _ (x6o q);have z:=JQ 21001 s.args[j].x (by omega) (by omega);have t:((s.args.take (j+1)).map fun a=>AV.agg a.cells)=((s.args.take j).map fun a=>AV.agg a.cells)++[.agg s.args[j].cells]:=by
    rw[x7x q,x6l];rfl
   have m:((s.args.take j).map fun a=>AV.agg a.cells).length=j:=by rw[x6j,x7m];omega
   generalize((s.args.take j).map fun a=>AV.agg a.cells)=acc at t m⊢;conv=>whnf
   repeat' (first|((first|refine dA ?_|refine x6d rfl ?_|refine aD ?_|refine bP ?_|(refine iA fun _=>?_)|refine wI ?_|refine cP z ?_|refine x8e m.symm rfl (by show(j+1)*80<=140737488355328;omega) (by show j+1<=9223372036854775807;omega) (fun x w=>by rcases x6p.1 w with rfl;exact⟨rfl,rfl⟩) ?_);conv=>whnf)|(apply bD<;>intro _<;>first|omega|conv=>whnf)|(refine x6d ?_ ?_<;>conv=>whnf))
   all_goals exact⟨j+1,q,by omega,Le.of_eq (by rw[t];rfl)⟩
  .have o:((s.args.take j).map fun a=>AV.agg a.cells)=s.args.map fun a=>.agg a.cells:=by rw[x7w q]
   have m:((s.args.take j).map fun a=>AV.agg a.cells).length=j:=by rw[x6j,x7m];omega
   conv=>whnf
   repeat' (first|(refine x6d rfl ?_;conv=>whnf)|(apply bD<;>intro _<;>first|omega|conv=>whnf))
   refine⟨_,.agg (cs:=(x4m s).cells) rfl fun i l c h k=>?_,rfl⟩
   match i,h,k with
   |0,h,k=>cases h;cases k;exact .p (Sub.refl _)
   |1,h,k=>cases h;cases k;exact .p (Sub.refl _)
   |2,h,k=>cases h;cases k;exact .p (Sub.refl _)
   |3,h,k=>cases h;cases k;exact .p (Sub.refl _)
   |4,h,k=>cases h;cases k;exact .p (Sub.refl _)
   |5,h,k=>cases h;cases k;exact .p (Sub.refl _)
   |6,h,k=>cases h;cases k;exact .p (Sub.refl _)
   |7,h,k=>cases h;cases k;exact .p (Sub.refl _)
   |8,h,k=>cases h;cases k;exact .p (Sub.refl _)
   |9,h,k=>cases h;cases k;exact .p (Sub.refl _)
   | 10,h,k=>
     cases h;cases k;show Frz _ _ (.sl (s.args.map fun a=>.agg a.cells));rw[<-o];exact .hd rfl m.symm
   |11,h,k=>cases h;cases k;exact .p Sub.nils
   |12,h,k=>cases h;cases k;exact .p Sub.nils
   |i+13,h,k=>simp at h
mutual
def nmS(n:Nat):S->S
 |.mk _ kind F name D x has args I L=>.mk ((n+1:Nat):Int) kind F name D x has args (nmL (n+1) I) (nmL (n+1+cntL I) L)
def nmL(n:Nat):List S->List S
 |[]=>[]
 |t::r=>nmS n t::nmL (n+XT t) r
end
def Kv(n:Nat)(t:S):nmS n t=.mk ((n+1:Nat):Int) t.kind t.F t.name t.D t.x t.has t.args (nmL (n+1) t.I) (nmL (n+1+cntL t.I) t.L):=by
 cases t;rw[nmS];rfl
theorem V1(n:Nat):∀l:List S,(nmL n l).length=l.length
 |[]=>by rw[nmL]
 |t::r=>by rw[nmL,x7g,x7g,V1 _ r]
theorem Bf:∀(l:List S)(n j:Nat)(h:j<l.length),(nmL n l)[j]?=some (nmS (n+cntL (l.take j)) l[j])
 |t::r,n,0,h=>by rw[nmL];simp[cntL]
 | t::r,n,j+1,h=>by
   rw[nmL,z0w,Bf r (n+XT t) j (by simpa using h),List.take_succ_cons,cntL,x9k];rfl
theorem Nl:∀(l:List S)(j:Nat)(h:j<l.length),cntL (l.take (j+1))=cntL (l.take j)+XT l[j]
 |t::r,0,h=>by simp[cntL]
 | t::r,j+1,h=>by
   rw[List.take_succ_cons,List.take_succ_cons,cntL,cntL,Nl r j (by simpa using h),x9k];rfl
theorem Xk:∀l:List S,l.length<=cntL l
 |[]=>by simp
 | t::r=>by
   rw[cntL,x7g];have:=Xk r;have:1<=XT t:=by cases t;rw[XT];omega
   omega
def okC(t:S):Prop:=wX t.x<=21000/\t.F.length<=1000000/\t.args.length<=1000000/\∀a∈t.args,wX a.x<=21000
theorem Dc:∀{l:List S}{t:S},t∈l->XT t<=cntL l
 | a::r,t,h=>by
   rw[cntL];rcases x6m.1 h with rfl|h
   .omega
   .have:=Dc h;omega
def NQ:∀(k:Nat)(l:List S)(_:cntL l<k)(n:Nat)(_:n+cntL l<=1000000)(_:∀t∈flL l,okC t),SpecP prog 132 [eSs l,.int .i64 (n:Nat)] (fun r=>r=.tup [eSs (nmL n l),.int .i64 (n+cntL l:Nat)]):=by
 intro k;induction k with
 |zero=>intro l h;omega
 | succ k z=>
   intro l P n Q g;have K:(S.avs l).length=l.length:=by rw[S.avs_eq,x6j]
   have H:=Xk l;refine sB FF func132 rfl call132 ?_;conv=>whnf
   repeat' (refine iM fun _=>?_;conv=>whnf)
   refine LoopK.inv QW (fun j:Nat=>⟨[(1,.p (.int .i64 (n+cntL (l.take j):Nat))),(6,.hd 0 0 j),(10,.p (eSs l)),(11,.p (.int .i64 (S.avs l).length)),(12,.p (.int .i64 j))],[(0,.own 117 13 (S.avs ((nmL n l).take j)))]⟩) (fun j=>j<=l.length) (fun j=>l.length-j) 0
    (Le.mk [(0,.own 117 13 [])] (by simp[Chunk.new0];rfl) (by simp) (by simp) (.cons (.of_eq (by simp[cntL];rfl)) (.cons (.nil x6g) (.r (.r (.r .nil))))) (.new x6g .nil)) (x6t _) ?_
   intro j O;rcases x6c j l.length with q|q
   .have D:=Nl l j q;have M:=Dc (x6o q);have B:=WB l[j];have f:=Bf l n j q;have J:cntL (l.take (j+1))<=cntL l:=by
     conv=>rhs;rw[<-z1b (j+1) l]
     have:∀a b:List S,cntL (a++b)=cntL a+cntL b:=fun a b=>by
      induction a with
      |nil=>simp[cntL]
      |cons x r z=>rw[z0a,cntL,cntL,z,x9k]
     rw[this];omega
    have o:=g _ (Xl l _ (x6o q));have s:∀t,t∈flL l[j].I\/t∈flL l[j].L->okC t:=fun t u=>g t (by
     have:t∈flS l[j]:=by
      rw[TK];exact x6b _ (x6s.2 u)
     have key:∀(m:List S)(i:Nat)(h:i<m.length),t∈flS m[i]->t∈flL m:=fun m=>by
      induction m with
      |nil=>intro i h;simp at h
      | cons a r z=>
        intro i h u;rw[flL];cases i with
        |zero=>exact x6s.2 (.inl u)
        |succ i=>exact x6s.2 (.inr (z i (by simpa using h) u))
     exact key l j q this)
    have E:=JR l[j] o.1 o.2.1 o.2.2.1 o.2.2.2;have F:=z l[j].I (by omega) (n+cntL (l.take j)+1) (by omega) fun t u=>s t (.inl u);have G:=z l[j].L (by omega) (n+cntL (l.take j)+1+cntL l[j].I) (by omega) fun t u=>s t (.inr u);have d:j=(S.avs ((nmL n l).take j)).length:=by rw[S.avs_eq,x6j,x7m,V1];omega
    have A:S.avs ((nmL n l).take (j+1))=S.avs ((nmL n l).take j)++[.agg (nmS (n+cntL (l.take j)) l[j]).cells]:=by
     rw[S.avs_eq,S.avs_eq,List.take_add_one,f,x6l];rfl
    conv=>whnf
    repeat' (first|((first|refine x6d rfl ?_|refine aD ?_|refine bP ?_|refine QI (by omega) ?_|refine wI ?_|refine cP E ?_|(refine CallK.pure F (.cons (Sub.refl _) (.cons (Sub.int (by omega)) .nil)) ?_;rintro _ rfl)|(refine CallK.pure G (.cons (Sub.refl _) (.cons (Sub.int (by omega)) .nil)) ?_;rintro _ rfl)|refine x8e d rfl (by show(j+1)*208<=140737488355328;omega) (by show j+1<=9223372036854775807;omega) (fun x N=>by rcases x6p.1 N with rfl;exact⟨rfl,rfl⟩) ?_);conv=>whnf)|(apply bD<;>intro _<;>first|omega|conv=>whnf))
    exact⟨j+1,q,by omega,Le.mk [] (by simp) (by simp) (by simp) (.cons (.of_eq (by rw[D,B,show n+(cntL (l.take j)+(1+cntL l[j].I+cntL l[j].L))=n+cntL (l.take j)+1+cntL l[j].I+cntL l[j].L by omega];rfl)) (.r (.r (.r (.r .nil))))) (.cons rfl (.of_eq (by rw[A,Kv];rfl)) .nil)⟩
   .have e:(nmL n l).take j=nmL n l:=x7w (by rw[V1];exact q);have w:l.take j=l:=x7w q;have C:j=(S.avs (nmL n l)).length:=by rw[S.avs_eq,x6j,V1];omega
    rw[e,w];conv=>whnf
    repeat' (apply bD<;>intro _<;>first|omega|conv=>whnf)
    refine⟨_,.tup (cs:=[eSs (nmL n l),.int .i64 (n+cntL l:Nat)]) rfl fun i l' c v y=>?_,rfl⟩
    match i,v,y with
    |0,v,y=>cases v;cases y;exact .hd rfl C
    |1,v,y=>cases v;cases y;exact .p (Sub.refl _)
    |i+2,v,y=>simp at v
def ElS(es es':List AV):Prop:=es'.length=es.length/\∀(m:Nat)(x':AV),es'[m]?=some x'->∃x,es[m]?=some x/\x'.cells.length=x.cells.length/\∀(j:Nat)(c':AV),x'.cells[j]?=some c'->∃c,x.cells[j]?=some c/\Sub c c'
theorem ElS.refl(es:List AV):ElS es es:=⟨rfl,fun _ m h=>⟨m,h,rfl,fun _ c' l=>⟨c',l,Sub.refl _⟩⟩⟩
theorem ElS.snoc{es es':List AV}(h:ElS es es'){x r:AV}(w:r.cells.length=x.cells.length)(v:∀(j:Nat)(c':AV),r.cells[j]?=some c'->∃c,x.cells[j]?=some c/\Sub c c'):ElS (es++[x]) (es'++[r]):=by
 refine⟨by simp[h.1],fun m y l=>?_⟩;rcases x6c m es'.length with o|o
 .rw [x7b o]at l;obtain⟨z,t,u⟩:=h.2 m y l;exact⟨z,by rw[x7b (by rw[<-h.1];exact o)];exact t,u⟩
 .rw [x7d o]at l;have q:m-es'.length=0:=by
   have:=(x6n.1 l).1;simp at this;omega
  rw[q]at l;cases l;exact⟨x,by rw[x7d (by rw[<-h.1];exact o),<-h.1,q];rfl,w,v⟩
inductive SubH:Heap->Heap->Prop
 |nil:SubH [] []
 |same {c:Nat×Chunk} {H H':Heap} (h:SubH H H'):SubH (c::H) (c::H')
 |L {k:Nat} {e:TypeId} {sz:Nat} {es es':List AV} {H H':Heap} (hp:ElS es es') (h:SubH H H'):SubH ((k,.own e sz es)::H) ((k,.own e sz es')::H')
theorem SubH.get{H H':Heap}(h:SubH H H'):H'.map (·.1)=H.map (·.1)/\∀j c',(j,c')∈H'->(j,c')∈H\/∃e sz es es',(j,Chunk.own e sz es)∈H/\c'=.own e sz es'/\ElS es es':=by
 induction h with
 |nil=>exact⟨rfl,by simp⟩
 | same h o=>
   refine⟨by simp[o.1],fun j c' l=>?_⟩;rcases x6m.1 l with rfl|l
   .exact .inl x6g
   .rcases o.2 j c' l with m|⟨e,sz,es,es',m,q⟩
    .exact .inl (x6b _ m)
    .exact .inr ⟨e,sz,es,es',x6b _ m,q⟩
 | @L k e sz es es' H H' r h o=>
   refine⟨by simp[o.1],fun j c' l=>?_⟩;rcases x6m.1 l with l|l
   .cases l;exact .inr ⟨e,sz,es,es',x6g,rfl,r⟩
   .rcases o.2 j c' l with m|⟨e,sz,es,es',m,q⟩
    .exact .inl (x6b _ m)
    .exact .inr ⟨e,sz,es,es',x6b _ m,q⟩
theorem Le.L{N:Nat}{sl:List (Nat×LV)}{H H':Heap}(h:SubH H H'):Le N ⟨sl,H⟩ ⟨sl,H'⟩:=fun σ β a w l=>by
 obtain⟨t,f⟩:=h.get;refine⟨σ,β,⟨l.size,l.defers,l.G,⟨l.heap.mem,fun j c' o=>?_,by show(H'.map (·.1)).Nodup;rw[t];exact l.heap.nodup,fun j o=>l.heap.apart j (by rw[<-t];exact o),fun j o R g=>l.heap.inj j (by rw[<-t];exact o) R (by rw[<-t];exact g)⟩⟩,Mem.le_refl σ,Frm.refl _ w,fun b J q=>absurd J q,fun b ⟨j,o,r⟩=>.inl ⟨j,by rw[<-t];exact o,r⟩,fun _ _ _=>rfl⟩;rcases f j c' o with q|⟨e,sz,es,es',q,rfl,v⟩
 .exact l.heap.chunks j c' q
 .rcases l.heap.chunks j _ q with⟨y,z⟩|⟨i,vs,y,z,K,M,O,P,A⟩
  .refine .inl ⟨y,?_⟩;have:=v.1;rw[z]at this;exact x8a this
  .refine .inr ⟨i,vs,y,z,K,M,by rw[v.1];exact O,P,fun m T Q=>?_⟩;obtain⟨x,g1,B,C⟩:=v.2 m T Q;refine⟨by rw[B];exact(A m x g1).1,fun j c' f=>?_⟩;obtain⟨c,D,E⟩:=C j c' f;obtain⟨u,F,I⟩:=(A m x g1).2 j c D;exact⟨u,F,E _ _ I⟩
def q2h(p:Pg):Bool:=decide (gPg p<=20000)
def q8g{p:Pg}(h:q2h p=true):Fit p:=by
 have:=x0z p;have k:gPg p<=20000:=by simpa[q2h]using h
 unfold Fit;omega
def ZA(p:Pg):SpecP prog 11 [.agg p.cells] (fun r=>r=.bool (q2h p)):=by
 refine sB LD func11 rfl call11 ?_;conv=>whnf
 have J:(p.A.map fun f=>AV.agg f.cells).length=p.A.length:=x6j _;have G:=ZY (a:=0+MT p.B) (by omega);repeat' (refine CallK.pure (XR p.B 0 (by omega)) (.cons (Sub.refl _) (.cons (Sub.refl _) .nil)) ?_;rintro _ rfl;conv=>whnf)
 refine LoopK.inv QW (fun y:Nat×Int=>⟨[(1,.p (.ip p.cells)),(3,.p (.int .i64 y.2)),(4,.p (.int .i64 y.1))],[]⟩) (fun y=>y.1<=p.A.length/\(0<=y.2/\y.2<=20001)/\XG (y.2+RK (p.A.drop y.1))=XG (gPg p:Nat)) (fun y=>p.A.length-y.1) (0,XG (0+MT p.B)) (Le.of_eq rfl) ⟨x6t _,G,by
  show XG (XG (0+MT p.B)+RK p.A)=_;rw[ZF (by omega)];congr 1;unfold gPg;omega⟩ ?_
 rintro⟨j,m⟩ ⟨e,n,o⟩;simp only at e n o⊢;have l:∀{x:Int},0<=x/\x<=20001->XG x=XG (gPg p:Nat)->(decide (x<=20000))=q2h p:=fun {x} K h=>by
  unfold q2h;unfold XG at h;by_cases b:gPg p<=20000
  .rw [x8r b,x7s];split at h<;>split at h<;>omega
  .rw [x8c b,x8o];split at h<;>split at h<;>omega
 rcases x6c j p.A.length with w|w;rotate_left 1
 .rw [x7v w,RK]at o;conv=>whnf
  repeat' (first|(refine iM fun _=>?_;conv=>whnf)|(apply bD<;>intro _<;>first|omega|conv=>whnf))
  all_goals exact RetK.bool (l n (by rw[<-o];simp))
 rw[x7t w,RK]at o;have z:gPr p.A[j]=1+p.A[j].name.length+MT p.A[j].E+MT p.A[j].fin+IE p.A[j].C+gL p.A[j].body:=rfl;have H:=ZY (a:=m+(1+p.A[j].name.length:Nat)) (by omega);have I:=ZY (a:=XG (m+(1+p.A[j].name.length:Nat))+MT p.A[j].E) (by omega);have d:=ZY (a:=XG (XG (m+(1+p.A[j].name.length:Nat))+MT p.A[j].E)+MT p.A[j].fin) (by omega);conv=>whnf
 repeat' (first|((first|(refine iM fun _=>?_)|refine dA ?_|refine x6d rfl ?_|(refine iA fun _=>?_)|refine cP (QT p.A[j].name _ n) ?_|refine cP (XR p.A[j].E _ H) ?_|refine cP (XR p.A[j].fin _ I) ?_);conv=>whnf)|(apply bD<;>intro _<;>first|omega|conv=>whnf))
 rotate_left 1
 .exact RetK.bool (l n (by rw[<-o,<-YI (by omega) n.2 (by omega),P0 n.2]))
 have c:XG (XG (XG (XG (m+(1+p.A[j].name.length:Nat))+MT p.A[j].E)+MT p.A[j].fin)+(IE p.A[j].C+(gL p.A[j].body+RK (p.A.drop (j+1))):Nat))=XG (gPg p:Nat):=by
  rw[ZF (by omega),z1a,ZF (by omega),z1a,ZF (by omega),<-o,z];congr 1;omega
 generalize XG (XG (XG (m+(1+p.A[j].name.length:Nat))+MT p.A[j].E)+MT p.A[j].fin)=m0 at d c⊢;have F:(p.A[j].C.map fun a=>AV.agg a.cells).length=p.A[j].C.length:=x6j _;refine LoopK.inv QW (fun y:Nat×Int=>⟨[(1,.p (.ip p.cells)),(3,.p (.int .i64 y.2)),(4,.p (.int .i64 j)),(5,.p (.ip p.A[j].cells)),(6,.p (.int .i64 y.1))],[]⟩) (fun y=>y.1<=p.A[j].C.length/\(0<=y.2/\y.2<=20001)/\XG (y.2+(IE (p.A[j].C.drop y.1)+(gL p.A[j].body+RK (p.A.drop (j+1))):Nat))=XG (gPg p:Nat)) (fun y=>p.A[j].C.length-y.1) (0,m0) (Le.of_eq rfl) ⟨x6t _,d,c⟩ ?_;rintro⟨a,k⟩ ⟨g,q,s⟩;simp only at g q s⊢;have fin:XG (k+(gL p.A[j].body+RK (p.A.drop (j+1)):Nat))=XG (gPg p:Nat)->(0<=XG (k+gL p.A[j].body)/\XG (k+gL p.A[j].body)<=20001)/\XG (XG (k+gL p.A[j].body)+RK (p.A.drop (j+1)))=XG (gPg p:Nat):=fun h=>by
  refine⟨ZY (by omega),?_⟩;rw[ZF (by omega),<-h];congr 1;omega
 have t:k>20000->XG (k+(gL p.A[j].body+RK (p.A.drop (j+1)):Nat))=XG (gPg p:Nat):=fun h=>by
  rw[<-s,<-YI h q.2 (by omega),<-YI h q.2 (by omega)]
 rcases x6c a p.A[j].C.length with v|v;rotate_left 1
 .have D:XG (k+(gL p.A[j].body+RK (p.A.drop (j+1)):Nat))=XG (gPg p:Nat):=by
   rw[x7v v,IE,x8d]at s;exact s
  obtain⟨f1,f2⟩:=fin D;conv=>whnf
  repeat' (first|((first|(refine iM fun _=>?_)|refine wI ?_|(refine CallK.pure (UR (gL p.A[j].body+1) p.A[j].body (by omega) k q) (.cons (Sub.refl _) (.cons (Sub.refl _) .nil)) ?_;rintro _ rfl));conv=>whnf)|(apply bD<;>intro _<;>first|omega|conv=>whnf))
  all_goals exact⟨(j+1,XG (k+gL p.A[j].body)),⟨by simp only;omega,f1,f2⟩,by simp only;omega,Le.of_eq rfl⟩
 rw[x7t v,IE]at s;conv=>whnf
 repeat' (first|((first|(refine iM fun _=>?_)|(refine iA fun _=>?_)|refine wI ?_|refine cP (QT p.A[j].C[a].name _ q) ?_|(refine CallK.pure (UR (gL p.A[j].body+1) p.A[j].body (by omega) k q) (.cons (Sub.refl _) (.cons (Sub.refl _) .nil)) ?_;rintro _ rfl));conv=>whnf)|(apply bD<;>intro _<;>first|omega|conv=>whnf))
 .have u:XG (XG (k+(1+p.A[j].C[a].name.length:Nat))+(IE (p.A[j].C.drop (a+1))+(gL p.A[j].body+RK (p.A.drop (j+1))):Nat))=XG (gPg p:Nat):=by
   rw[ZF (by omega),<-s];congr 1;omega
  exact⟨(a+1,XG (k+(1+p.A[j].C[a].name.length:Nat))),⟨by simp only;omega,ZY (by omega),u⟩,by simp only;omega,Le.of_eq rfl⟩
 .obtain ⟨f1,f2⟩:=fin (t (by omega));exact⟨(j+1,XG (k+gL p.A[j].body)),⟨by simp only;omega,f1,f2⟩,by simp only;omega,Le.of_eq rfl⟩
inductive SubE:List AV->List AV->Prop
 |nil:SubE [] []
 |cons {a b:AV} {xs ys:List AV} (h:SubL a.cells b.cells) (hs:SubE xs ys):SubE (a::xs) (b::ys)
theorem SubE.get{xs m:List AV}(h:SubE xs m):xs.length=m.length/\∀(i:Nat)(b:AV),m[i]?=some b->∃a,xs[i]?=some a/\SubL a.cells b.cells:=by
 induction h with
 |nil=>exact⟨rfl,by simp⟩
 | cons h q o=>
   refine⟨by simp[o.1],fun i b l=>?_⟩;cases i with
   |zero=>simp at l;subst l;exact⟨_,rfl,h⟩
   |succ i=>exact o.2 i b (by simpa using l)
theorem Sub.sl{xs r:List AV}(h:SubE xs r):Sub (.sl xs) (.sl r):=fun σ v D=>by
 obtain⟨y,w⟩:=h.get;cases D with
 | nilsl=>
   obtain rfl:r=[]:=by simpa using y.symm
   exact .nilsl
 | slz b=>
   obtain rfl:r=[]:=by simpa using y.symm
   exact .slz b
 | sl _ b off cap sz cells u B g q f C z=>
   rw[y];refine .sl r b off cap sz cells u B (by omega) q (fun i e o=>?_) (fun i e j c o x=>?_) (fun i e j c o x=>?_)
   .obtain ⟨a,l,m⟩:=w i e o;rw[<-f i a l,m.1]
   .obtain ⟨a,l,m⟩:=w i e o;obtain⟨d,t,_⟩:=m.get x;exact C i a j d l t
   .obtain ⟨a,l,m⟩:=w i e o;obtain⟨d,t,A⟩:=m.get x;exact A _ _ (z i a j d l t)
def DO(n:Int):SpecP prog 85 [.int .i64 n] (fun r=>r=.agg (X.mk 1 n [] []).cells):=by
 refine sB X9 func85 rfl call85 ?_;conv=>whnf
 repeat' (refine x6d rfl ?_;conv=>whnf)
 exact⟨_,.p (Sub.agg (by repeat' (first|exact SubL.nil|refine SubL.cons ?_ ?_|exact Sub.refl _|exact Sub.nils|exact Sub.ff rfl))),rfl⟩
def FV(s:Str):SpecP prog 86 [.str s] (fun r=>r=.agg (X.mk 2 0 s []).cells):=by
 refine sB LM func86 rfl call86 ?_;conv=>whnf
 repeat' (refine x6d rfl ?_;conv=>whnf)
 exact⟨_,.p (Sub.agg (by repeat' (first|exact SubL.nil|refine SubL.cons ?_ ?_|exact Sub.refl _|exact Sub.nils|exact Sub.ff rfl))),rfl⟩
def VL(op:Int)(a b:X):SpecP prog 87 [.int .i64 op,.agg a.cells,.agg b.cells] (fun r=>r=.agg (X.mk op 0 [] [a,b]).cells):=by
 refine sB Xz func87 rfl call87 ?_;conv=>whnf
 repeat' ((first|refine x6d rfl ?_|refine aD ?_|refine BsK.pureL rfl rfl ?_);conv=>whnf)
 have e:X.avs [a,b]=[.agg a.cells,.agg b.cells]:=by simp only[X.avs,X.av_eq]
 exact⟨_,.p (Sub.agg (SubL.cons (Sub.refl _) (SubL.cons (Sub.refl _) (SubL.cons (Sub.refl _) (SubL.cons (Sub.of_eq (by show _=AV.sl (X.avs [a,b]);rw[e];rfl)) SubL.nil))))),rfl⟩
def bs(l:List Nat):Str:=l.map fun n=>UInt8.ofNat n
def someP:Pg:=⟨[[103]],[
 ⟨[109,97,105,110],[],[[118]],[
   .mk 1 1 [] [118] [] (.mk 1 2 [] []) false [] [] [],
   .mk 2 4 [] [103] [112] (.mk 0 0 [] []) false [⟨false,[],.mk 1 3 [] []⟩,⟨true,[118],.mk 0 0 [] []⟩] [] [],
   .mk 3 3 [] [] [] (.mk 2 0 [118] []) false [] [] [],
   .mk 4 3 [] [] [] (.mk 2 0 [103] []) false [] [] []],[]⟩,
 ⟨[112],[⟨[120],false⟩,⟨[121],true⟩],[],[
   .mk 5 1 [] [121] [] (.mk 8 0 [] [.mk 2 0 [121] [],.mk 2 0 [120] []]) false [] [] [],
   .mk 6 5 [] [] [] (.mk 12 0 [] [.mk 2 0 [121] [],.mk 1 9 [] []]) false [] [.mk 7 10 [] [101] [] (.mk 0 0 [] []) false [] [] []] [],
   .mk 8 9 [] [] [] (.mk 2 0 [121] []) true [] [] []],[[101]]⟩]⟩
def Vb:SpecP prog 43 [] (fun r=>r=.agg someP.cells):=by
 refine sB KW func43 rfl call43 ?_;conv=>whnf
 repeat' ((first|refine cP (DO _) ?_|refine cP (FV _) ?_|refine x6d rfl ?_|refine aD ?_|refine bP ?_|refine BsK.pureL rfl rfl ?_|refine cP (VL 8 (.mk 2 0 [121] []) (.mk 2 0 [120] [])) ?_|refine cP (VL 12 (.mk 2 0 [121] []) (.mk 1 9 [] [])) ?_);conv=>whnf)
 exact⟨_,.p (Sub.agg (by repeat' (first|exact SubL.nil|exact SubE.nil|exact Sub.nils|exact Sub.ff rfl|exact Sub.tt rfl|refine SubL.cons ?_ ?_|refine SubE.cons ?_ ?_|exact Sub.refl _|refine Sub.agg ?_|refine Sub.sl ?_))),rfl⟩
end Go.Ab
