/- The reference's expressions. -/
import Derived.Test.YtonbdgcjnecapaaGreatRchC14
set_option linter.all false
set_option maxRecDepth 100000
set_option maxHeartbeats 16000000
open List (Nodup)
namespace Go.Ab
open Go.Proofs.Tryz
open Go.Proofs
variable {e:Bool}{f:Pr}{k:Nat}{p:Pg}{y:Int}
def Qi(op:Int):SpecP prog 299 [.int .i64 op] (fun r=>r=.int .i64 (Wo op)):=by
 refine sB BI func299 rfl call299 ?_;conv=>whnf
 repeat' (apply bD<;>intro _<;>first|omega|conv=>whnf)
 all_goals exact RetK.int (by unfold Wo;(repeat' split)<;>omega)
def GN(x:X):SpecP prog 195 [.agg x.cells] (fun r=>r=.bool (noneB x)):=by
 refine sB NU func195 rfl call195 ?_;conv=>whnf
 repeat' (first|(refine iM fun _=>?_;conv=>whnf)|(apply bD<;>intro _<;>first|omega|conv=>whnf)|(apply bB<;>intro _<;>conv=>whnf))
 all_goals have h:((X.avs x.kids).length:Int)=x.kids.length:=by rw[X.avs_len]
 all_goals first
  |exact RetK.ff (by simp_all[noneB];done)
  |exact RetK.bool (by simp_all[noneB];done)
def GG(x:X):Bool:=decide (Wo x.op=(x.kids.length:Int))&&(decide (x.op=1)||decide (x.n=0))&&decide (0<=x.n)&&(decide (x.op=2) == !(x.name==[]))&&((x.name==[])||isName x.name)
def PX:Nat->X->Bool
 |0,_=>true
 |k+1,x=>GG x&&x.kids.all (PX k)
theorem Li:∀(l:List X)(y:X),y∈l->wX y<=wXs l
 |[],y,h=>by cases h
 | a::r,y,h=>by
   rw[wXs];rcases x0p.1 h with rfl|h
   .omega
   .have:=Li r y h;omega
def Zd : ∀(k:Nat)(x:X)(_:wX x<k),SpecP prog 250 [.agg x.cells] (fun r=>r=.bool (PX k x)):=by
 intro k;induction k with
 |zero=>intro x h;omega
 | succ k s=>
   intro x w;have q:wX x=1+wXs x.kids:=by cases x;rw[wX];rfl
   have u:((X.avs x.kids).length:Int)=x.kids.length:=by rw[X.avs_len]
   refine sB NW func250 rfl call250 ?_;conv=>whnf
   repeat' (first|((first|(refine iM fun _=>?_)|refine cP (Qi _) ?_|refine cP (XL _) ?_|refine dA ?_|refine FP QK rfl rfl rfl rfl rfl ?_);conv=>whnf)|(apply bD<;>intro _<;>first|omega|conv=>whnf)|(apply bE<;>intro _<;>first|omega|conv=>whnf)|(apply bN<;>intro _<;>conv=>whnf))
   all_goals simp only[show(ByteArray.mk #[]).data.toList=[]from rfl]at*
   all_goals first
    | (refine RetK.ff ?_
       rw[PX,x4a];left;unfold GG;rw[show decide (0<=x.n)=false from x2h (by omega)];simp
       done)
    | (refine RetK.ff ?_
       rw[PX,x4a];left;rename_i h;have o:(decide (x.op=2) == !(x.name==[]))=false:=by
        have e:decide (x.op=2)=(x.op==2):=rfl;rw[e]
        revert h
        cases(x.op==2)<;>cases(x.name==[])<;>decide
       unfold GG;rw[o];simp
       done)
    | (refine RetK.ff ?_
       rw[PX,x4a];left;simp_all[GG]
       done)
    | (refine RetK.ff ?_
       rw[PX,x4a];left;simp_all[GG];omega)
    | (have m:GG x=true:=by first
        |(simp_all[GG];done)
        |(simp_all[GG];omega)
       rw[show PX (k+1) x=x.kids.all (PX k) by rw[PX,m];rfl])
   all_goals
    clear m;refine LoopK.inv QK (fun j:Nat=>⟨[(1,.p (.ip x.cells)),(48,.p (.int .i64 (X.avs x.kids).length)),(49,.p (.int .i64 j))],[]⟩) (fun j=>j<=x.kids.length/\(x.kids.drop j).all (PX k)=x.kids.all (PX k)) (fun j=>x.kids.length-j) 0 (Le.of_eq rfl) ⟨x0l _,rfl⟩ ?_;rintro j ⟨t,i⟩;rcases x0t j x.kids.length with l|l
    .have v:=Li x.kids _ (x0s l);conv=>whnf
     repeat' (first|((first|refine IdxK.xs (by omega) ?_|refine wI ?_|(refine CallK.pure (s (x.kids[j]'l) (by omega)) (.cons (Sub.refl _) .nil) ?_;rintro _ rfl));conv=>whnf)|(apply bD<;>intro _<;>first|omega|conv=>whnf)|(apply bN<;>intro _<;>conv=>whnf))
     .exact ⟨j+1,⟨by omega,by rw[GT (by omega) (by assumption)];exact i⟩,by omega,Le.of_eq rfl⟩
     .exact RetK.ff (by rw[<-i,Za (by omega) (by assumption)])
    .conv=>whnf
     repeat' (apply bD<;>intro _<;>first|omega|conv=>whnf)
     exact RetK.tt (by rw[<-i,GR (by omega)])
def S5:List Nat->Nat
 |[]=>0
 |a::r=>max a (S5 r)
def GV:Nat->X->Nat
 |0,_=>1
 |m+1,x=>1+S5 (x.kids.map (GV m))
def Lq{l:List Nat}{m:Nat}(h:∀a∈l,a<=m):S5 l<=m:=by
 induction l with
 |nil=>exact x0l _
 | cons a r j=>
   have:=j fun b i=>h b (x0f _ i);have:=h a x0k;rw[S5];omega
theorem F7:∀(m:Nat)(x:X),GV m x<=m+1
 |0,_=>x0o _
 | m+1,x=>by
   rw[GV];have:S5 (x.kids.map (GV m))<=m+1:=Lq fun a h=>by
    obtain⟨y,_,rfl⟩:=x0n.1 h;exact F7 m y
   omega
def Zh:∀(m:Nat)(_:m<=1000)(x:X),SpecP prog 249 [.agg x.cells,.int .i64 m] (fun r=>r=.int .i64 (GV m x)):=by
 intro m;induction m with
 | zero=>
   intro _ x;refine sB YO func249 rfl call249 ?_;conv=>whnf
   repeat' (apply bD<;>intro _<;>first|omega|conv=>whnf)
   exact RetK.int rfl
 | succ m s=>
   intro v x;have u:((X.avs x.kids).length:Int)=x.kids.length:=by rw[X.avs_len]
   refine sB YO func249 rfl call249 ?_;conv=>whnf
   repeat' (apply bD<;>intro _<;>first|omega|conv=>whnf)
   have q:S5 (x.kids.map (GV m))<=m+1:=Lq fun a o=>by
    obtain⟨y,_,rfl⟩:=x0n.1 o;exact F7 m y
   refine LoopK.inv QK (fun y:Nat×Nat=>⟨[(1,.p (.int .i64 (m+1:Nat))),(2,.p (.ip x.cells)),(5,.p (.int .i64 y.2)),(6,.p (.int .i64 y.1))],[]⟩) (fun y=>y.1<=x.kids.length/\y.2<=m+1/\max y.2 (S5 ((x.kids.drop y.1).map (GV m)))=S5 (x.kids.map (GV m))) (fun y=>x.kids.length-y.1) (0,0) (Le.of_eq rfl) ⟨x0l _,x0l _,by simp⟩ ?_;rintro⟨j,d⟩ ⟨l,n,i⟩;simp only at l n i⊢;rcases x0t j x.kids.length with h|h
   .rw [x1c h,x1j,S5]at i;have t:=F7 m x.kids[j];conv=>whnf
    repeat' (first|((first|(refine iM fun _=>?_)|refine IdxK.xs (by omega) ?_|refine wI ?_|(refine CallK.pure (s (by omega) (x.kids[j]'h)) (.cons (Sub.refl _) (.cons (Sub.int (by omega)) .nil)) ?_;rintro _ rfl));conv=>whnf)|(apply bD<;>intro _<;>first|omega|conv=>whnf))
    all_goals first
     |exact⟨(j+1,GV m x.kids[j]),⟨by simp only;omega,by simp only;omega,by simp only;omega⟩,by simp only;omega,Le.of_eq rfl⟩
     |exact⟨(j+1,d),⟨by simp only;omega,by simp only;omega,by simp only;omega⟩,by simp only;omega,Le.of_eq rfl⟩
     |exact RetK.int (by rw[GV];omega)
   .rw [x1q h,x5j,S5]at i;conv=>whnf
    repeat' (first|((first|(refine iM fun _=>?_)|refine wI ?_);conv=>whnf)|(apply bD<;>intro _<;>first|omega|conv=>whnf))
    exact RetK.int (by rw[GV];omega)
def mayXR(x:X):Bool:=decide (GV 20 x<=20)&&PX (wX x+1) x
def YP(x:X):SpecP prog 194 [.agg x.cells] (fun r=>r=.bool (mayXR x)):=by
 refine sB FX func194 rfl call194 ?_;conv=>whnf
 repeat' (first|((first|(refine CallK.pure (Zh 20 (by omega) x) (.cons (Sub.refl _) (.cons (Sub.refl _) .nil)) ?_;rintro _ rfl)|(refine CallK.pure (Zd (wX x+1) x (by omega)) (.cons (Sub.refl _) .nil) ?_;rintro _ rfl));conv=>whnf)|(apply bD<;>intro _<;>first|omega|conv=>whnf))
 all_goals first
  |exact RetK.bool (by unfold mayXR;rw[x2a (by omega)];rfl)
  |exact RetK.ff (by unfold mayXR;rw[x2h (by omega)];rfl)
theorem Xk:∀(n:Nat)(x:X),VB n x=true->GV n x<=n/\∀k,PX k x=true
 |0,x,h=>by rw[VB]at h;cases h
 | n+1,x,h=>by
   rw [VB]at h;simp only[x1z,x1n]at h;obtain⟨l,j⟩:=h;have i:(∀y∈x.kids,VB n y=true)/\GG x=true:=by
    split at j
    .rename_i o;simp only[x1z,x1n]at j;have m:x.kids=[]:=by
      rw[o]at l;have:Wo 1=0:=by decide
      rw[this]at l;exact x5d.1 (by omega)
     refine⟨by rw[m];simp,?_⟩;unfold GG;rw[l,o,j.2];simp[j.1]
    split at j
    .rename_i o;simp only[x1z,x1n]at j;have m:x.kids=[]:=by
      rw[o]at l;have:Wo 2=0:=by decide
      rw[this]at l;exact x5d.1 (by omega)
     have q:(x.name==[])=false:=by
      cases w:x.name with
      | nil=>
        have:=j.2;rw[w]at this;unfold isName at this;rw[dif_neg (by simp)]at this;cases this
      |cons a r=>rfl
     refine⟨by rw[m];simp,?_⟩;unfold GG;rw[l,o,j.2,q,j.1];simp
    .rename_i s t;simp only[x1z,x1n,x2w]at j;refine⟨j.2,?_⟩;unfold GG;rw[l,j.1.1,j.1.2];simp[s,t]
   refine⟨?_,fun k=>?_⟩
   .rw [GV];have:S5 (x.kids.map (GV n))<=n:=Lq fun a v=>by
     obtain⟨y,u,rfl⟩:=x0n.1 v;exact(Xk n y (i.1 y u)).1
    omega
   .cases k with
    |zero=>rfl
    | succ k=>
      rw[PX,i.2,Bool.true_and,x2w];exact fun y u=>(Xk n y (i.1 y u)).2 k
def CC{x:X}(h:CS x=true):mayXR x=true:=by
 obtain⟨i,j⟩:=Xk 20 x h;unfold mayXR;rw[x2a i,j];rfl
def argR(a:Arg):Bool:=bif a.ref then isName a.name&&noneB a.x else(a.name==[])&&mayXR a.x
def V0(a:Arg):SpecP prog 196 [.agg a.cells] (fun r=>r=.bool (argR a)):=by
 refine sB MO func196 rfl call196 ?_;conv=>whnf
 repeat' (first|((first|refine cP (XL _) ?_|refine cP (GN _) ?_|refine cP (YP _) ?_);conv=>whnf)|(apply bB<;>intro _<;>conv=>whnf))
 all_goals simp only[show(ByteArray.mk #[]).data.toList=[]from rfl]at*
 all_goals first
  |exact RetK.bool (by simp_all[argR])
  |exact RetK.ff (by simp_all[argR])
def q1v{a:Arg}(h:Q2 a=true):argR a=true:=by
 unfold Q2 YF HI at h;unfold argR;cases i:a.ref with
 | true=>
   rw[i]at h;simpa using h
 | false=>
   rw[i]at h;simp only[x1g,Bool.not_false,x1u,x1z]at h;rw[h.1,CC h.2];rfl
def oneOk(s:S):Bool:=WB s&&namesB s.M
def hasXB(s:S):Bool:=decide (s.kind=1)||decide (s.kind=3)||decide (s.kind=5)||decide (s.kind=6)||(decide (s.kind=9)&&s.has)
structure OneF(s:S):Prop where
 M:namesB s.M=true
 lo:1<=s.kind
 hi:s.kind<=10
 x:hasXB s=true->mayXR s.x=true
 nox:hasXB s=false->noneB s.x=true
 has:s.has=true->s.kind=9
 name:s.kind=1\/s.kind=2\/s.kind=10->isName s.name=true
 noname:¬(s.kind=1\/s.kind=2\/s.kind=10)->(s.name==[])=true\/(s.kind=4/\isName s.name=true)
 C:s.kind=4->isName s.C=true
 noproc:s.kind≠4->(s.C==[])=true
 args:s.args.all argR=true
 noargs:s.kind≠4->s.args.length=0
 F:s.F.length=0\/s.kind=5\/s.kind=6
 L:s.L.length=0\/s.kind=5
def G0{s:Str}(h:isName s=true):(s==[])=false:=by
 cases s with
 |nil=>unfold isName at h;rw[dif_neg (by simp)]at h;cases h
 |cons a r=>rfl
def JH{s:S}(h:oneOk s=true):OneF s:=by
 unfold oneOk at h;rw[x1z]at h;obtain⟨h,d⟩:=h;have q:s.args.all Q2=true->s.args.all argR=true:=fun h=>by
  rw[x2w]at h⊢;exact fun a M=>q1v (h a M)
 have key:∀(k:Int)(f:Flds),s.kind=k->LE s.kind s.has (s.name==[])=some f->f.has=false/\(f.F=false->s.F.length=0)/\(f.L=false->s.L.length=0)/\(s.kind≠4->s.args.length=0)/\YF s.name f.name=true/\YF s.C f.C=true/\HI s.x f.x=true/\s.args.all argR=true:=fun k f i r=>by
  rw[Kk r]at h;simp only[x1z,x3f,x5u,x4a,Bool.not_eq_false',x2c,x1n]at h;obtain⟨⟨⟨⟨⟨⟨⟨g,m⟩,n⟩,u⟩,l⟩,v⟩,o⟩,B⟩:=h;refine⟨g,fun j=>?_,fun j=>?_,fun j=>?_,l,v,o,q B⟩
  .rcases m with m|m
   .rw [j]at m;cases m
   .omega
  .rcases n with n|n
   .rw [j]at n;cases n
   .omega
  .rcases u with u|u
   .exact absurd u j
   .omega
 have t:s.kind=1\/s.kind=2\/s.kind=3\/s.kind=4\/s.kind=5\/s.kind=6\/s.kind=7\/s.kind=8\/s.kind=9\/s.kind=10:=by
  unfold WB at h;split at h
  .cases h
  .rename_i f r;unfold LE at r
   (repeat' split at r)<;>first|(cases r;done)|omega
 have fin:∀(k:Int)(f:Flds),s.kind=k->LE s.kind s.has (s.name==[])=some f->(1<=k/\k<=10)->f.x=hasXB s->(s.has=true->f.has=true\/k=9)->((k=1\/k=2\/k=10)->f.name=true)->(¬(k=1\/k=2\/k=10)->f.name=false\/(k=4/\f.name = !(s.name==[])))->f.C=decide (k=4)->(f.F=true->k=5\/k=6)->(f.L=true->k=5)->OneF s:=fun k f i r N c E G z b H D=>by
  obtain⟨g,m,n,u,l,v,o,B⟩:=key k f i r;unfold HI at o;refine⟨d,by omega,by omega,fun j=>?_,fun j=>?_,fun j=>?_,fun j=>?_,fun j=>?_,fun j=>?_,fun j=>?_,B,u,?_,?_⟩
  .rw [c,j]at o;exact CC o
  .rw [c,j]at o;exact o
  .rcases E j with w|w
   .rw [g]at w;cases w
   .omega
  .rw [G (by omega)]at l;exact l
  .rcases z (by omega)with w|⟨w,A⟩
   .rw [w]at l;exact .inl l
   .cases I:s.name==[]with
    |true=>exact .inl rfl
    | false=>
      rw[A,I]at l;exact .inr ⟨by omega,l⟩
  .rw [b,x2a (by omega)]at v;exact v
  .rw [b,x2h (by omega)]at v;exact v
  .cases K:f.F with
   |true=>exact .inr (by have:=H K;omega)
   |false=>exact .inl (m K)
  .cases J:f.L with
   |true=>exact .inr (by have:=D J;omega)
   |false=>exact .inl (n J)
 rcases t with i|i|i|i|i|i|i|i|i|i
 .exact fin 1 ⟨true,false,true,s.has,false,false⟩ i (by rw[i];rfl) (by omega) (by unfold hasXB;rw[i];rfl) (fun h=>.inl h) (fun _=>rfl) (fun h=>absurd (by omega) h) rfl (fun h=>by cases h) (fun h=>by cases h)
 .exact fin 2 ⟨true,false,false,s.has,false,false⟩ i (by rw[i];rfl) (by omega) (by unfold hasXB;rw[i];rfl) (fun h=>.inl h) (fun _=>rfl) (fun h=>absurd (by omega) h) rfl (fun h=>by cases h) (fun h=>by cases h)
 .exact fin 3 ⟨false,false,true,s.has,false,false⟩ i (by rw[i];rfl) (by omega) (by unfold hasXB;rw[i];rfl) (fun h=>.inl h) (fun h=>by omega) (fun _=>.inl rfl) rfl (fun h=>by cases h) (fun h=>by cases h)
 .exact fin 4 ⟨!(s.name==[]),true,false,s.has,false,false⟩ i (by rw[i];rfl) (by omega) (by unfold hasXB;rw[i];rfl) (fun h=>.inl h) (fun h=>by omega) (fun _=>.inr ⟨rfl,rfl⟩) rfl (fun h=>by cases h) (fun h=>by cases h)
 .exact fin 5 ⟨false,false,true,s.has,true,true⟩ i (by rw[i];rfl) (by omega) (by unfold hasXB;rw[i];rfl) (fun h=>.inl h) (fun h=>by omega) (fun _=>.inl rfl) rfl (fun _=>.inl rfl) (fun _=>rfl)
 .exact fin 6 ⟨false,false,true,s.has,true,false⟩ i (by rw[i];rfl) (by omega) (by unfold hasXB;rw[i];rfl) (fun h=>.inl h) (fun h=>by omega) (fun _=>.inl rfl) rfl (fun _=>.inr rfl) (fun h=>by cases h)
 .exact fin 7 ⟨false,false,false,s.has,false,false⟩ i (by rw[i];rfl) (by omega) (by unfold hasXB;rw[i];rfl) (fun h=>.inl h) (fun h=>by omega) (fun _=>.inl rfl) rfl (fun h=>by cases h) (fun h=>by cases h)
 .exact fin 8 ⟨false,false,false,s.has,false,false⟩ i (by rw[i];rfl) (by omega) (by unfold hasXB;rw[i];rfl) (fun h=>.inl h) (fun h=>by omega) (fun _=>.inl rfl) rfl (fun h=>by cases h) (fun h=>by cases h)
 .exact fin 9 ⟨false,false,s.has,false,false,false⟩ i (by rw[i];rfl) (by omega) (by unfold hasXB;rw[i];cases s.has<;>rfl) (fun _=>.inr rfl) (fun h=>by omega) (fun _=>.inl rfl) rfl (fun h=>by cases h) (fun h=>by cases h)
 .exact fin 10 ⟨true,false,false,s.has,false,false⟩ i (by rw[i];rfl) (by omega) (by unfold hasXB;rw[i];rfl) (fun h=>.inl h) (fun _=>rfl) (fun h=>absurd (by omega) h) rfl (fun h=>by cases h) (fun h=>by cases h)
structure RI where
 s:S
 deep:Int
 R:Int
 L:Bool
def RI.cells(i:RI):List AV:=i.s.cells++[.int .i64 i.deep,.int .i64 i.R,.bool i.L]
def q3g(l:List RI):AV:=.sl (l.map fun i=>.agg i.cells)
def flF:Nat->Int->Bool->List S->List RI->List RI
 |0,i,e,l,out=>l.foldl (fun o s=>if o.length<=200 then o++[⟨s,13,i,e⟩]else o) out
 |m+1,i,e,l,out=>l.foldl (fun o s=>if o.length<=200 then flF m s.id true s.L (flF m s.id false s.F (o++[⟨s,13-((m+1:Nat):Int),i,e⟩]))else o) out
theorem FA:∀(m:Nat)(i:Int)(e:Bool)(l:List S)(out:List RI),out.length<=(flF m i e l out).length/\(flF m i e l out).length<=max out.length 201
 |0,i,e,[],out=>by show out.length<=out.length/\_;exact⟨x0o _,Nat.le_max_left _ _⟩
 |m+1,i,e,[],out=>by show out.length<=out.length/\_;exact⟨x0o _,Nat.le_max_left _ _⟩
 | 0,i,e,s::r,out=>by
   have h:=FA 0 i e r (if out.length<=200 then out++[⟨s,13,i,e⟩]else out);show out.length<=(flF 0 i e r (if out.length<=200 then out++[⟨s,13,i,e⟩]else out)).length/\(flF 0 i e r (if out.length<=200 then out++[⟨s,13,i,e⟩]else out)).length<=_;split at h
   .rw [if_pos (by assumption)];simp only[x0g,x1h]at h;omega
   .rw [if_neg (by assumption)];exact h
 | m+1,i,e,s::r,out=>by
   have h:=FA (m+1) i e r (if out.length<=200 then flF m s.id true s.L (flF m s.id false s.F (out++[⟨s,13-((m+1:Nat):Int),i,e⟩]))else out);show out.length<=(flF (m+1) i e r (if out.length<=200 then flF m s.id true s.L (flF m s.id false s.F (out++[⟨s,13-((m+1:Nat):Int),i,e⟩]))else out)).length/\(flF (m+1) i e r (if out.length<=200 then flF m s.id true s.L (flF m s.id false s.F (out++[⟨s,13-((m+1:Nat):Int),i,e⟩]))else out)).length<=_;split at h
   .rw [if_pos (by assumption)];have j:=FA m s.id false s.F (out++[⟨s,13-((m+1:Nat):Int),i,e⟩]);have n:=FA m s.id true s.L (flF m s.id false s.F (out++[⟨s,13-((m+1:Nat):Int),i,e⟩]));simp only[x0g,x1h]at j;omega
   .rw [if_neg (by assumption)];exact h
mutual
def fuS(d i:Int)(e:Bool):S->List RI
 |.mk id kind M name C x has args F L=>⟨.mk id kind M name C x has args F L,d,i,e⟩::(fuL (d+1) id false F++fuL (d+1) id true L)
def fuL(d i:Int)(e:Bool):List S->List RI
 |[]=>[]
 |t::r=>fuS d i e t++fuL d i e r
end
def Cp(d i:Int)(e:Bool)(t:S):fuS d i e t=⟨t,d,i,e⟩::(fuL (d+1) t.id false t.F++fuL (d+1) t.id true t.L):=by
 cases t;rw[fuS];rfl
mutual
theorem q6f(d i:Int)(e:Bool):∀t:S,(fuS d i e t).map RI.s=flS t
 | .mk id kind M name C x has args F L=>by
   rw[fuS,flS,x1j,x0c,Ms _ _ _ F,Ms _ _ _ L]
theorem Ms(d i:Int)(e:Bool):∀l:List S,(fuL d i e l).map RI.s=flL l
 |[]=>by rw[fuL,flL];rfl
 |t::r=>by rw[fuL,flL,x0c,q6f _ _ _ t,Ms _ _ _ r]
end
def FI(d i:Int)(e:Bool)(l:List S):(fuL d i e l).length=QW l:=by
 rw[<-Uw,<-Ms d i e l,x0j]
def Z6{nest seen m:Int}{s:S}(h:D7 nest seen s=some m):oneOk s=true/\s.id=seen+1/\∃i,YL (nest+1) (seen+1) s.F=some i/\YL (nest+1) i s.L=some m:=by
 rw[Ah]at h;split at h
 .cases h
 split at h
 .cases h
 rename_i o;cases l:namesB s.M<;>rw[l]at h
 .cases h
 cases j:WB s<;>rw[j]at h
 .cases h
 simp only[x1u]at h;split at h
 .rename_i i n;exact⟨by unfold oneOk;rw[l,j];rfl,by omega,i,n,h⟩
 .cases h
def BN{nest seen m:Int}{s:S}{r:List S}(h:YL nest seen (s::r)=some m):nest<=12/\∃i,D7 nest seen s=some i/\YL nest i r=some m:=by
 rw[YL]at h;split at h
 .cases h
 rename_i l;split at h
 .rename_i i j;exact⟨by omega,i,j,h⟩
 .cases h
mutual
theorem q4g(d i:Int)(e:Bool):∀(t:S){n m:Int},d<=12->D7 d n t=some m->∀x∈fuS d i e t,x.deep<=12/\oneOk x.s=true
 | .mk id kind M name C x has args F L,n,m,hd,h,y,hy=>by
   obtain⟨h1,_,m1,h2,h3⟩:=Z6 h;rw[fuS]at hy;rcases x0p.1 hy with rfl|hy
   ·exact⟨hd,h1⟩
   ·rcases x0r.1 hy with hy|hy
    ·exact Rn _ _ _ F h2 y hy
    ·exact Rn _ _ _ L h3 y hy
theorem Rn(d i:Int)(e:Bool):∀(l:List S){n m:Int},YL d n l=some m->∀x∈fuL d i e l,x.deep<=12/\oneOk x.s=true
 |[],n,m,h,y,hy=>by rw[fuL]at hy;cases hy
 | t::r,n,m,h,y,hy=>by
   obtain⟨h1,m1,h2,h3⟩:=BN h;rw[fuL]at hy;rcases x0r.1 hy with hy|hy
   ·exact q4g _ _ _ t h1 h2 y hy
   ·exact Rn _ _ _ r h3 y hy
end
def q4y:∀(k:Nat)(l:List S)(i:Int)(e:Bool)(out:List RI)(seen m:Int),YL (13-(k:Int)) seen l=some m->out.length+QW l<=200->flF k i e l out=out++fuL (13-(k:Int)) i e l:=by
 intro k;induction k with
 | zero=>
   intro l i e out seen m h j;cases l with
   |nil=>rw[fuL,x2v];rfl
   | cons s r=>
     have:=(BN h).1;simp at this
 | succ k u=>
   intro l;induction l with
   |nil=>intro i e out seen m h j;rw[fuL,x2v];rfl
   | cons s r n=>
     intro i e out seen m h j;obtain⟨x,z,v,w⟩:=BN h;obtain⟨_,_,a,q,t⟩:=Z6 v;have o:(13:Int)-((k+1:Nat):Int)+1=13-(k:Int):=by omega
     rw[o]at q t;rw[QW,VX]at j;show flF (k+1) i e r (if out.length<=200 then flF k s.id true s.L (flF k s.id false s.F (out++[⟨s,13-((k+1:Nat):Int),i,e⟩]))else out)=_;rw[if_pos (by omega),u s.F s.id false _ _ _ q (by simp;omega),u s.L s.id true _ _ _ t (by simp[FI];omega),n i e _ _ _ w (by simp[FI];omega),fuL,Cp,o];simp
def UD(f:Pr):List RI:=flF 12 0 false f.body []
def FN(l:List Pr)(out:List RI):List RI:=l.foldl (fun o f=>if o.length<=200 then o++UD f else o) out
def allR(p:Pg):List RI:=FN p.A []
def flatU(f:Pr):List RI:=fuL 1 0 false f.body
theorem Yq:∀(l:List Pr){n m:Int},XR n l=some m->∀f∈l,KN f=true/\∃a b,YL 1 a f.body=some b
 |[],_,_,_,f,i=>by cases i
 | g::r,n,m,h,f,i=>by
   rw[XR]at h;cases j:KN g<;>rw[j]at h
   .cases h
   simp only[x1u]at h;split at h
   .rename_i q o;rcases x0p.1 i with rfl|i
    .exact ⟨j,_,_,o⟩
    .exact Yq r h f i
   .cases h
def Xe(h:JJ p=true):p.D.length<=16/\p.A.length<=16/\namesB p.D=true/\∀f∈p.A,KN f=true/\∃a b,YL 1 a f.body=some b:=by
 unfold JJ at h;simp only[x1z,x1n]at h;obtain⟨⟨⟨l,n⟩,o⟩,i⟩:=h;refine⟨l,n,o,?_⟩;cases j:XR 0 p.A with
 |none=>rw[j]at i;cases i
 |some m=>exact Yq p.A j
theorem BQ:∀(l:List Pr)(f:Pr),f∈l->QW f.body<=cntP l
 |[],f,h=>by cases h
 | g::r,f,h=>by
   rw[cntP];rcases x0p.1 h with rfl|h
   .omega
   .have:=BQ r f h;omega
def LS(h:JJ p=true)(i:f∈p.A):UD f=flatU f:=by
 obtain⟨_,_,_,j⟩:=Xe h;obtain⟨_,a,b,l⟩:=j f i;have m:=(WO h).2.2;have n:=BQ _ f i;have:=q4y 12 f.body 0 false [] a b l (by simp;omega);simpa[UD,flatU]using this
theorem R5:∀(l:List Pr)(out:List RI),(∀f∈l,UD f=flatU f)->out.length+cntP l<=200->FN l out=out++l.flatMap flatU
 |[],out,_,_=>by show out=_;simp
 | f::r,out,h,hl=>by
   rw[cntP]at hl;show FN r (if out.length<=200 then out++UD f else out)=_;have e:=FI 1 0 false f.body;rw[if_pos (by omega),h f x0k,R5 r _ (fun g i=>h g (x0f _ i)) (by simp only[flatU,x0g,e];omega)];simp
def Hl(h:JJ p=true):allR p=p.A.flatMap flatU:=by
 have:=R5 p.A [] (fun f i=>LS h i) (by have:=(WO h).2.2;simpa using this);simpa[allR]using this
def q0k(h:JJ p=true):∀x∈p.A.flatMap flatU,x.deep<=12/\oneOk x.s=true:=by
 intro x i;obtain⟨f,m,i⟩:=x1p.1 i;obtain⟨_,_,_,j⟩:=Xe h;obtain⟨_,a,b,l⟩:=j f m;exact Rn 1 0 false f.body l x i
theorem Q9:∀(l:List Pr){n:Nat}{m:Int},XR n l=some m->(l.flatMap fun f=>flL f.body).map S.id=GY n (cntP l)
 |[],n,m,_=>by rw[cntP];rfl
 | g::r,n,m,h=>by
   rw[XR]at h;cases s:KN g<;>rw[s]at h
   .cases h
   simp only[x1u]at h;split at h
   .rename_i t i;have o:=KW _ _ g.body i;have j:XR ((n+QW g.body:Nat):Int) r=some m:=by rw[<-h,o];rfl
    have q:=Q9 r j;rw[x1o,x0c,Qj 1 g.body i,q,cntP,HX]
   .cases h
def q3l(l:List Pr):(l.flatMap flatU).map RI.s=l.flatMap fun f=>flL f.body:=by
 induction l with
 |nil=>rfl
 | cons f r h=>
   rw[x1o,x1o,x0c,h];congr 1;exact Ms _ _ _ _
def LG(l:List Pr):(l.flatMap flatU).length=cntP l:=by
 induction l with
 |nil=>rfl
 |cons f r h=>rw[x1o,x0g,h,cntP];congr 1;exact FI _ _ _ _
def EF(h:JJ p=true){x:RI}(o:(p.A.flatMap flatU)[k]?=some x):x.s.id=(k:Int)+1:=by
 unfold JJ at h;simp only[x1z,x1n]at h;cases q:XR 0 p.A with
 |none=>rw[q]at h;cases h.2
 | some m=>
   have l:=Q9 p.A (n:=0) q;rw[<-q3l]at l;have i:(((p.A.flatMap flatU).map RI.s).map S.id)[k]?=some x.s.id:=by simp[o]
   rw[l]at i;unfold GY at i;have j:k<cntP p.A:=by rw[<-LG];exact(x0m.1 o).1
   rw[x0d,List.getElem?_range' j]at i;simp at i;omega
def riH(t:Nat)(out:List RI):Heap:=[(2000,.own t 16 (out.map fun i=>.agg i.cells))]
def q2x{t:Nat}{out:List RI}{x:RI}:riH t (out++[x])=[(2000,.own t 16 ((out.map fun i=>.agg i.cells)++[.agg x.cells]))]:=by simp[riH]
def Gd(l:List RI):(l.map fun i=>AV.agg i.cells).length=l.length:=x0j _
def I2{i:Int}{l:List S}{j:Nat}{o:List RI}(m:j<l.length)(h:o.length<=200):flF 0 i e (l.drop j) o=flF 0 i e (l.drop (j+1)) (o++[⟨l[j],13,i,e⟩]):=by
 rw[QB m];show flF 0 i e (l.drop (j+1)) (if o.length<=200 then _ else _)=_;rw[if_pos h]
def q0e{m:Nat}{i:Int}{l:List S}{j:Nat}{o:List RI}(n:j<l.length)(h:o.length<=200):flF (m+1) i e (l.drop j) o=flF (m+1) i e (l.drop (j+1)) (flF m l[j].id true l[j].L (flF m l[j].id false l[j].F (o++[RI.mk l[j] (13-((m+1:Nat):Int)) i e]))):=by
 rw[QB n];show flF (m+1) i e (l.drop (j+1)) (if o.length<=200 then _ else _)=_;rw[if_pos h]
theorem V6:∀(m:Nat){i:Int}{e:Bool}{l:List S}{o:List RI},¬o.length<=200->flF m i e l o=o
 |0,i,e,[],o,_=>rfl
 |m+1,i,e,[],o,_=>rfl
 | 0,i,e,s::r,o,h=>by
   show flF 0 i e r (if o.length<=200 then _ else o)=o;rw[if_neg h];exact V6 0 h
 | m+1,i,e,s::r,o,h=>by
   show flF (m+1) i e r (if o.length<=200 then _ else o)=o;rw[if_neg h];exact V6 (m+1) h
def Cu(m:Nat){i:Int}{o:List RI}:flF m i e [] o=o:=by cases m<;>rfl
def Zf:∀(m:Nat)(_:m<=12)(l:List S)(i:Int)(e:Bool)(out:List RI),
  SpecH prog 61 [.p (eSs l),.p (.int .i64 (13-(m:Int))),.p (.int .i64 i),.p (.bool e),.hd 2000 0 out.length] (riH 119 out)
   (fun r H=>r=.hd 2000 0 (flF m i e l out).length/\H=riH 119 (flF m i e l out)):=by
 intro m;induction m with
 | zero=>
   intro _ l i e out;have s:=S.avs_len l;refine sH JQ func61 rfl call61 ?_;conv=>whnf
   skip
   refine LoopK.inv QK (fun x:Nat×List RI=>⟨[(0,.p (eSs l)),(1,.p (.int .i64 (13-((0:Nat):Int)))),(2,.p (.int .i64 i)),(3,.p (.bool e)),(4,.hd 2000 0 x.2.length),(11,.p (.int .i64 x.1))],riH 119 x.2⟩) (fun x=>x.1<=l.length/\flF 0 i e (l.drop x.1) x.2=flF 0 i e l out) (fun x=>l.length-x.1) (0,out) (Le.of_eq rfl) ⟨x0l _,rfl⟩ ?_;rintro⟨j,o⟩ ⟨q,h⟩;simp only at q h⊢;have t:=Gd o;rcases x0t j l.length with n|n
   .conv=>whnf
    repeat' (first|((first|(refine iM fun _=>?_)|refine x0h rfl ?_|refine aD ?_|refine bP ?_|refine QX (by omega) ?_|refine wI ?_|refine x4n (by simp) rfl (by show(o.length+1)*232<=140737488355328;omega) (by show o.length+1<=9223372036854775807;omega) (fun x u=>by rcases x0b.1 u with rfl;exact⟨rfl,rfl⟩) ?_);conv=>whnf)|(apply bD<;>intro _<;>first|omega|conv=>whnf))
    .exact ⟨(j+1,o++[⟨l[j],13,i,e⟩]),⟨n,by rw[<-h,I2 n (by omega)]⟩,by simp only;omega,Le.of_eq (by simp only[q2x,x0g,x1h];rfl)⟩
    .rw [V6 0 (by omega)]at h;exact⟨_,.refl _,by rw[<-h];exact⟨rfl,rfl⟩⟩
   .conv=>whnf
    repeat' (first|(refine iM fun _=>?_;conv=>whnf)|(apply bD<;>intro _<;>first|omega|conv=>whnf))
    rw[x1q n,Cu]at h;exact⟨_,.refl _,by rw[<-h];exact⟨rfl,rfl⟩⟩
 | succ m v=>
   intro w l i e out;have s:=S.avs_len l;refine sH JQ func61 rfl call61 ?_;conv=>whnf
   skip
   refine LoopK.inv QK (fun x:Nat×List RI=>⟨[(0,.p (eSs l)),(1,.p (.int .i64 (13-((m+1:Nat):Int)))),(2,.p (.int .i64 i)),(3,.p (.bool e)),(4,.hd 2000 0 x.2.length),(11,.p (.int .i64 x.1))],riH 119 x.2⟩) (fun x=>x.1<=l.length/\flF (m+1) i e (l.drop x.1) x.2=flF (m+1) i e l out) (fun x=>l.length-x.1) (0,out) (Le.of_eq rfl) ⟨x0l _,rfl⟩ ?_;rintro⟨j,o⟩ ⟨q,h⟩;simp only at q h⊢;have t:=Gd o;rcases x0t j l.length with n|n
   .conv=>whnf
    repeat' (first|((first|(refine iM fun _=>?_)|refine dA ?_|refine x0h rfl ?_|refine aD ?_|refine bP ?_|refine QX (by omega) ?_|refine wI ?_|refine x4n (by simp) rfl (by show(o.length+1)*232<=140737488355328;omega) (by show o.length+1<=9223372036854775807;omega) (fun x u=>by rcases x0b.1 u with rfl;exact⟨rfl,rfl⟩) ?_);conv=>whnf)|(apply bD<;>intro _<;>first|omega|conv=>whnf))
    .refine CallK.heap [(2000,2000)] 0 (x1x (x1v _) (x1x (x1d (Sub.int (by omega))) (x1x (x1v _) (x1x (x1d (Sub.ff rfl)) (x1x (x5n (by rw[x0g];rfl)) x1m))))) (by exact x0e (j:=2000) rfl rfl (CSub.of_eq (by rw[x0c];first|done|rfl)) x1l) (v (by omega) l[j].F l[j].id false (o++[RI.mk l[j] (13-((m+1:Nat):Int)) i e])) rfl rfl ?_;rintro l' H' ⟨rfl,rfl⟩;conv=>whnf
     repeat' ((first|refine dA ?_|refine QX (by omega) ?_|refine wI ?_);conv=>whnf)
     refine CallK.heap [(2000,2000)] 0 (x1x (x1v _) (x1x (x1d (Sub.int (by omega))) (x1x (x1v _) (x1x (x1d (Sub.tt rfl)) (x1x (x1v _) x1m))))) (by exact x0e (j:=2000) rfl rfl (CSub.refl _) x1l) (v (by omega) l[j].L l[j].id true (flF m l[j].id false l[j].F (o++[RI.mk l[j] (13-((m+1:Nat):Int)) i e]))) rfl rfl ?_;rintro l' H' ⟨rfl,rfl⟩;conv=>whnf
     repeat' (refine wI ?_;conv=>whnf)
     exact⟨(j+1,flF m l[j].id true l[j].L (flF m l[j].id false l[j].F (o++[RI.mk l[j] (13-((m+1:Nat):Int)) i e]))),⟨n,by rw[<-h,q0e n (by omega)]⟩,by simp only;omega,Le.of_eq rfl⟩
    .rw [V6 (m+1) (by omega)]at h;exact⟨_,.refl _,by rw[<-h];exact⟨rfl,rfl⟩⟩
   .conv=>whnf
    repeat' (first|(refine iM fun _=>?_;conv=>whnf)|(apply bD<;>intro _<;>first|omega|conv=>whnf))
    rw[x1q n,Cu]at h;exact⟨_,.refl _,by rw[<-h];exact⟨rfl,rfl⟩⟩
def UL(f:Pr):SpecP prog 27 [.agg f.cells] (fun r=>r=q3g (UD f)):=by
 refine sB NX func27 rfl call27 ?_;conv=>whnf
 skip
 refine CallK.nil 5 119 16 rfl (.cons rfl (.cons rfl (.cons rfl (.cons rfl (.row .nil))))) ?_;refine CallK.heap [(2000,5)] 0 (by repeat' (first|exact x1m|refine x1x ?_ ?_|exact x1v _|exact x1d Sub.nils|exact x1d (Sub.tt rfl)|exact x1d (Sub.ff rfl)|exact x1d (Sub.int (by omega)))) (by refine x0e (j:=5) rfl rfl ?_ ?_;exact CSub.refl _;exact x1l) (Zf 12 (by omega) f.body 0 false []) rfl rfl ?_;rintro l' H' ⟨rfl,rfl⟩;conv=>whnf
 exact⟨_,.hd rfl (by simp[UD]),rfl⟩
def TY{l:List Pr}{j:Nat}{o:List RI}(i:j<l.length)(h:o.length<=200):FN (l.drop j) o=FN (l.drop (j+1)) (o++UD l[j]):=by
 rw[QB i];show FN (l.drop (j+1)) (if o.length<=200 then _ else _)=_;rw[if_pos h]
theorem K5:∀{l:List Pr}{o:List RI},¬o.length<=200->FN l o=o
 |[],o,_=>rfl
 | f::r,o,h=>by
   show FN r (if o.length<=200 then _ else o)=o;rw[if_neg h];exact K5 h
def Uv(f:Pr):(UD f).length<=201:=by
 have:=(FA 12 0 false f.body []).2;simpa[UD]using this
def HC(p:Pg):SpecP prog 62 [.agg p.cells] (fun r=>r=q3g (allR p)):=by
 refine sB MA func62 rfl call62 ?_;conv=>whnf
 repeat' (refine iM fun _=>?_;conv=>whnf)
 have w:(p.A.map fun f=>AV.agg f.cells).length=p.A.length:=x0j _;refine LoopK.inv QK (fun x:Nat×List RI=>⟨[(3,.hd 1 0 x.2.length),(7,.p (.sl (p.A.map fun f=>.agg f.cells))),(8,.p (.int .i64 (p.A.map fun f=>AV.agg f.cells).length)),(9,.p (.int .i64 x.1))],[(1,.own 119 16 (x.2.map fun i=>.agg i.cells))]⟩) (fun x=>x.1<=p.A.length/\x.2.length<=200/\FN (p.A.drop x.1) x.2=allR p) (fun x=>p.A.length-x.1) (0,[])
  (Le.mk [(1,.own 119 16 [])] (by simp[Chunk.new0];rfl) (by simp) (by simp) (.cons (.nil x0k) (.r (.r (.r .nil)))) (.new x0k .nil)) ⟨x0l _,x0l _,rfl⟩ ?_
 rintro⟨j,o⟩ ⟨v,s,n⟩;simp only at v n s⊢;have z:=Gd o;rcases x0t j p.A.length with q|q
 .have t:=Uv p.A[j];have m:=fun(h:o.length<=200)=>TY q h;have u:=UL p.A[j];generalize b:UD p.A[j]=L at t m u;have l:=Gd L;conv=>whnf
  repeat' (first|((first|(refine iM fun _=>?_)|refine x0h rfl ?_|refine aD ?_|(refine iA fun _=>?_)|refine wI ?_|refine cP u ?_|refine x4n (by simp) rfl (by rw[l];show(o.length+L.length)*232<=140737488355328;omega) (by rw[l];show o.length+L.length<=9223372036854775807;omega) (fun x a=>by obtain⟨y,_,rfl⟩:=x0n.1 a;exact⟨rfl,rfl⟩) ?_);conv=>whnf)|(apply bD<;>intro _<;>first|omega|conv=>whnf))
  .refine ⟨_,.hd rfl (by simp),?_⟩;rw[<-n,m s,K5 (by simp;omega),<-x0c];rfl
  .exact ⟨(j+1,o++L),⟨q,by simp;omega,by rw[<-n,m s]⟩,by simp only;omega,Le.of_eq (by simp only[x0g,x0c,x0j];rfl)⟩
 .conv=>whnf
  repeat' (apply bD<;>intro _<;>first|omega|conv=>whnf)
  rw[x1q q]at n;refine⟨_,.hd rfl (by simp),?_⟩;rw[<-n];simp[q3g,FN]
def B0(n k:Int):Int:=if k<1 then 0 else if n.tmod k<0 then n.tmod k+k else n.tmod k
def Qq{n k:Int}(i:0<k):0<=B0 n k/\B0 n k<k:=by
 unfold B0;have l:=Int.tmod_lt_of_pos n i;have m : -k<n.tmod k:=by
  rcases Int.le_total 0 n with h|h
  .have:=Int.tmod_nonneg k h;omega
  .have j:=Int.tmod_lt_of_pos (-n) i;rw[Int.neg_tmod]at j;omega
 rw[if_neg (by omega)];split<;>omega
def HA(n k:Int)(j:k<=1000000):SpecP prog 39 [.int .i64 n,.int .i64 k] (fun r=>r=.int .i64 (B0 n k)):=by
 refine sB MI func39 rfl call39 ?_;conv=>whnf
 have i:=fun h:0<k=>Qq (n:=n) h;repeat' (first|(refine x0h (by omega) ?_;conv=>whnf)|(apply bD<;>intro _<;>first|omega|conv=>whnf))
 all_goals first
  | (refine Wr.i64 (by have:=i (by omega);unfold B0 at this;rw[if_neg (by omega),if_pos (by assumption)]at this;omega) (by have:=i (by omega);unfold B0 at this;rw[if_neg (by omega),if_pos (by assumption)]at this;omega) ?_
     conv=>whnf
     exact RetK.int (by unfold B0;rw[if_neg (by assumption),if_pos (by assumption)]))
  |exact RetK.int (by unfold B0;rw[if_pos (by assumption)])
  |exact RetK.int (by unfold B0;rw[if_neg (by assumption),if_neg (by assumption)])
def Rs(l:List Int)(x:Int):Bool:=l.any fun y=>decide (x=y)
def Zj(l:List Int)(x:Int):SpecP prog 66 [QI l,.int .i64 x] (fun r=>r=.bool (Rs l x)):=by
 refine sB PE func66 rfl call66 ?_;conv=>whnf
 repeat' (refine iM fun _=>?_;conv=>whnf)
 have n:(l.map (AV.int .i64)).length=l.length:=x0j _;refine LoopK.inv QK (fun j:Nat=>⟨[(1,.p (.int .i64 x)),(7,.p (QI l)),(8,.p (.int .i64 (l.map (AV.int .i64)).length)),(9,.p (.int .i64 j))],[]⟩) (fun j=>j<=l.length/\(l.drop j).any (fun y=>decide (x=y))=Rs l x) (fun j=>l.length-j) 0 (Le.of_eq rfl) ⟨x0l _,rfl⟩ ?_;rintro j ⟨m,i⟩;rcases x0t j l.length with h|h
 .conv=>whnf
  repeat' (first|((first|(refine iA fun _=>?_)|refine wI ?_);conv=>whnf)|(apply bD<;>intro _<;>first|omega|conv=>whnf))
  all_goals first
   |exact RetK.tt (by rw[<-i,U0 h (by simp_all)])
   |exact⟨j+1,⟨h,by rw[Vo h (by simp;omega)];exact i⟩,by omega,Le.of_eq rfl⟩
 .conv=>whnf
  repeat' (apply bD<;>intro _<;>first|omega|conv=>whnf)
  exact RetK.ff (by rw[<-i,NH h])
def inS(l:List Str)(x:Str):Bool:=l.any fun y=>y==x
def WV(l:List Str)(x:Str):SpecP prog 24 [eStrs l,.str x] (fun r=>r=.bool (inS l x)):=by
 refine sB Xu func24 rfl call24 ?_;conv=>whnf
 repeat' (refine iM fun _=>?_;conv=>whnf)
 have n:(l.map AV.str).length=l.length:=x0j _;refine LoopK.inv QK (fun j:Nat=>⟨[(0,.p (eStrs l)),(1,.p (.str x)),(7,.p (.int .i64 (l.map AV.str).length)),(8,.p (.int .i64 j))],[]⟩) (fun j=>j<=l.length/\(l.drop j).any (fun y=>y==x)=inS l x) (fun j=>l.length-j) 0 (Le.of_eq rfl) ⟨x0l _,rfl⟩ ?_;rintro j ⟨m,i⟩;rcases x0t j l.length with h|h
 .conv=>whnf
  repeat' (first|((first|(refine iA fun _=>?_)|refine wI ?_);conv=>whnf)|(apply bD<;>intro _<;>first|omega|conv=>whnf)|(apply bB<;>intro _<;>conv=>whnf))
  .exact RetK.tt (by rw[<-i,U0 h (by assumption)])
  .exact ⟨j+1,⟨h,by rw[Vo h (by assumption)];exact i⟩,by omega,Le.of_eq rfl⟩
 .conv=>whnf
  repeat' (apply bD<;>intro _<;>first|omega|conv=>whnf)
  exact RetK.ff (by rw[<-i,NH h])
def ZL(p:Pg)(n:Int):Str:=match p.A[(B0 n p.A.length).toNat]?with
 |some f=>f.name
 |none=>[]
def JL(p:Pg)(n:Int)(s:p.A.length<=20000):SpecP prog 14 [.agg p.cells,.int .i64 n] (fun r=>r=.str (ZL p n)):=by
 refine sB FF func14 rfl call14 ?_;conv=>whnf
 have q:(p.A.map fun f=>AV.agg f.cells).length=p.A.length:=x0j _;have l:=fun h:0<(p.A.length:Int)=>Qq (n:=n) h;repeat' (first|((first|(refine iM fun _=>?_)|refine dA ?_|(refine CallK.pure (HA n (p.A.length:Int) (by omega)) (.cons (Sub.refl _) (.cons (Sub.int (by omega)) .nil)) ?_;rintro _ rfl));conv=>whnf)|(apply bD<;>intro _<;>first|omega|conv=>whnf))
 .refine RetK.p ?_;have j:p.A=[]:=x5d.1 (by omega);unfold ZL;rw[j];rfl
 .obtain ⟨m,o⟩:=l (by omega);have i:(B0 n p.A.length).toNat<p.A.length:=by omega
  refine IdxK.at (k:=(B0 n p.A.length).toNat) (e:=.agg p.A[(B0 n p.A.length).toNat].cells) (by omega) (by rw[x0d,x0u i];rfl) rfl ?_;conv=>whnf
  skip
  exact RetK.p (by unfold ZL;rw[x0u i])
def q9x(a b:Int):Bool:=bif decide (a = -1)||decide (b = -1)then decide (b = -1) && !decide (a = -1)else decide (a<b)
theorem Yg{α β:Type}{f:α->β}:∀{l:List α},(l.map f).Nodup->∀a∈l,∀b∈l,f a=f b->a=b
 |[],_,a,ha,_,_,_=>by cases ha
 | c::r,h,a,ha,b,hb,e=>by
   rw[x1j,x2u]at h;rcases x0p.1 ha with j|j
   .rcases x0p.1 hb with i|i
    .rw [j,i]
    .exact (h.1 (x0n.2 ⟨b,i,by rw[<-e,j]⟩)).elim
   .rcases x0p.1 hb with i|i
    .exact (h.1 (x0n.2 ⟨a,j,by rw[e,i]⟩)).elim
    .exact Yg h.2 a j b i e
theorem Yh{α:Type}[DecidableEq α]:∀{l m:List α},l.Nodup->(∀s∈l,s∈m)->l.length<=m.length
 |[],m,_,_=>x0l _
 | a::r,m,h,hs=>by
   rw[x2u]at h;have j:=hs a x0k;have n:=Yh (m:=m.erase a) h.2 fun s i=>(List.mem_erase_of_ne (fun e=>h.1 (by rw[<-e];exact i))).2 (hs s (x0f _ i));rw[List.length_erase_of_mem j]at n;have:=x6g j;simp only[x1r];omega
def TT(n c:Nat):(GY n c).Nodup:=by
 unfold GY Nodup;rw[List.pairwise_map];exact List.Pairwise.imp (fun h e=>h (by omega)) (List.nodup_range' (s:=n+1) (n:=c) (step:=1))
def CW(i:JJ p=true){j:Nat}(h:p.A[j]?=some f):(itsOf p j f).map (fun l=>l.s.id)=GY (QR p.A j) (QW f.body):=by
 rw[<-CE i h,<-Q4 (j:Nat) 0 (-1) 0 (QR p.A j) f.body,x4i];rfl
def OK(n:JJ p=true){j:Nat}(m:p.A[j]?=some f){a b:Item}(i:a∈itsOf p j f)(l:b∈itsOf p j f)(h:a.s.id=b.s.id):a=b:=
 Yg (f:=fun o:Item=>o.s.id) (by rw[CW n m];exact TT _ _) a i b l h
def q1b{j:Nat}{t:S}(h:t∈flL f.body):∃i∈itsOf p j f,i.s=t:=by
 rw[<-Q4 (j:Nat) 0 (-1) 0 (QR p.A j) f.body]at h;obtain⟨i,l,m⟩:=x0n.1 h;exact⟨i,l,m⟩
def IQ{l:List Step}(h:l.Pairwise Xs):l.Nodup:=h.imp fun h e=>by subst e;exact HW h
def Ix{l:List Int}{x:Int}:Rs l x=true↔x∈l:=by
 unfold Rs;rw[x2e];refine⟨fun⟨y,j,i⟩=>by simp at i;exact i▸j,fun h=>⟨x,h,by simp⟩⟩
def Rc{n c:Nat}{a:Int}(h:(n:Int)+1<=a)(i:a<=(n+c:Nat)):a∈GY n c:=by
 unfold GY;refine x0n.2 ⟨a.toNat,List.mem_range'.2 ⟨a.toNat-(n+1),by omega,by omega⟩,by omega⟩
inductive Rch{α:Type}(R:α->α->Prop)(a:α):α->Prop
 |refl:Rch R a a
 |tail {b c:α} (h:Rch R a b) (hr:R b c):Rch R a c
theorem Rch.trans{α:Type}{R:α->α->Prop}{a b c:α}(h:Rch R a b)(i:Rch R b c):Rch R a c:=by
 induction i with
 |refl=>exact h
 |tail _ j l=>exact .tail l j
theorem Rch.head{α:Type}{R:α->α->Prop}{a b c:α}(i:R a b)(h:Rch R b c):Rch R a c:=Rch.trans (.tail .refl i) h
theorem Rch.mono{α:Type}{R R':α->α->Prop}(h:∀x y,R x y->R' x y){a b:α}(i:Rch R a b):Rch R' a b:=by
 induction i with
 |refl=>exact .refl
 |tail _ i j=>exact .tail j (h _ _ i)
theorem Rch.closed{α:Type}{R:α->α->Prop}{S:α->Prop}(i:∀x y,S x->R x y->S y){a b:α}(j:S a)(h:Rch R a b):S b:=by
 induction h with
 |refl=>exact j
 |tail _ l m=>exact i _ _ m l
structure WkM(n:Nat)(st:List Bool×List Int):Prop where
 inv:wkInv n st
 mem:∀x,x∈st.2↔(0<=x/\x<n)/\st.1.getD x.toNat false=true
theorem WkM.start(n:Nat):WkM n (List.replicate n false,[]):=⟨MH n,fun x=>by
 simp only[List.not_mem_nil,false_iff,not_and];intro _;rw[x0y,x1b];split<;>simp⟩
theorem WkM.see{n:Nat}{st:List Bool×List Int}(h:WkM n st){b:Int}(m:0<=b/\b<n):WkM n (KU st b)/\(∀x,x∈(KU st b).2↔x∈st.2\/x=b)/\st.2 <+: (KU st b).2:=by
 have q:=Qh h.inv m;cases o:st.1.getD b.toNat false with
 | true=>
   have e:KU st b=st:=by unfold KU;rw[o];rfl
   rw[e];refine⟨h,fun x=>⟨.inl,fun j=>?_⟩,List.prefix_refl _⟩;rcases j with j|rfl
   .exact j
   .exact (h.mem _).2 ⟨m,o⟩
 | false=>
   have e:KU st b=(st.1.set b.toNat true,st.2++[b]):=by unfold KU;rw[o];rfl
   rw[e]at q⊢;have r:=h.inv.1;refine⟨⟨q,fun x=>?_⟩,fun x=>by simp,List.prefix_append _ _⟩;rw[x0r,x0b,h.mem];simp only[x0y,x5h];by_cases j:x=b
   .subst j;rw[if_pos rfl,if_pos (by omega)];simp[m]
   .constructor
    .rintro (⟨l,i⟩|i)
     .refine ⟨l,?_⟩;rw[if_neg (by omega)];exact i
     .exact absurd i j
    .rintro ⟨l,i⟩;rw[if_neg (by omega)]at i;exact .inl ⟨l,i⟩
theorem WkM.fold{n:Nat}:∀(l:List Int){st:List Bool×List Int},WkM n st->(∀b∈l,0<=b/\b<n)->WkM n (l.foldl KU st)/\(∀x,x∈(l.foldl KU st).2↔x∈st.2\/x∈l)/\st.2 <+: (l.foldl KU st).2
 |[],st,h,_=>⟨h,fun x=>by simp,List.prefix_refl _⟩
 | b::r,st,h,hl=>by
   obtain⟨i,j,m⟩:=h.see (hl b x0k);obtain⟨o,q,t⟩:=WkM.fold r i fun c u=>hl c (x0f _ u);refine⟨o,fun x=>?_,m.trans t⟩;rw[x3m,q,j,x0p,or_assoc]
def D6(rows:List (List Int))(x y:Int):Prop:=y∈rows.getD x.toNat []
def DN{n:Nat}{rows:List (List Int)}(j:XK n rows){x:Int}(h:D6 rows x y):0<=y/\y<n:=by
 unfold D6 at h;rw[x0y]at h;cases i:rows[x.toNat]?with
 |none=>rw[i]at h;simp at h
 |some r=>rw[i]at h;exact j.2 r (x0i i) y h
def Gj{α:Type}{l m:List α}(h:l <+: m){i:Nat}{a:α}(j:l[i]?=some a):m[i]?=some a:=by
 obtain⟨t,rfl⟩:=h;rw[x2j (x0m.1 j).1];exact j
theorem Jv{n:Nat}{rows:List (List Int)}(C:XK n rows):∀(k i:Nat){st:List Bool×List Int},WkM n st->i<=st.2.length->n+1<=k+i->(∀(m:Nat)(a:Int),m<i->st.2[m]?=some a->∀b,D6 rows a b->b∈st.2)->
  WkM n (ZZ rows k i st)/\(∀x∈st.2,x∈(ZZ rows k i st).2)/\(∀x∈(ZZ rows k i st).2,∀b,D6 rows x b->b∈(ZZ rows k i st).2)/\(∀S:Int->Prop,(∀x∈st.2,S x)->(∀x b,S x->D6 rows x b->S b)->∀x∈(ZZ rows k i st).2,S x)
 | 0,i,st,h,hi,hk,_=>by
   have:=DC h.inv;omega
 | k+1,i,st,h,hi,hk,hc=>by
   rw[ZZ];split
   .rename_i a q;have g:=(x0m.1 q).1;have v:∀b∈rows.getD a.toNat [],0<=b/\b<n:=fun b o=>DN C o;obtain⟨D,z,d⟩:=h.fold (rows.getD a.toNat []) v;obtain⟨E,F,G,H⟩:=Jv C k (i+1) D (x1t g d.length_le) (by omega) fun m c A l b o=>by
     rw[z];rcases x0t m i with t|t
     .have u:m<st.2.length:=by omega
      have s:st.2[m]?=some c:=by
       have:=Gj d (x0u u);rw[x0u u,<-this,l]
      exact .inl (hc m c t s b o)
     .obtain rfl:m=i:=by omega
      have:=Gj d q;rw[this]at l;cases l;exact .inr o
    refine⟨E,fun x j=>F x ((z x).2 (.inl j)),G,fun S w r=>H S (fun x j=>?_) r⟩;rcases(z x).1 j with j|j
    .exact w x j
    .exact r a x (w a (x0i q)) j
   .rename_i q;have B:st.2.length<=i:=List.getElem?_eq_none_iff.1 q;refine⟨h,fun x j=>j,fun x j b o=>?_,fun S w _=>w⟩;obtain⟨m,A⟩:=x3y.1 j;exact hc m x (by have:=(x0m.1 A).1;omega) A b o
theorem Zq{n:Nat}:∀(l:List Int){st:List Bool×List Int},WkM n st->WkM n (l.foldl (fun st a=>bif ZK n a then KU st a else st) st)/\∀x,x∈(l.foldl (fun st a=>bif ZK n a then KU st a else st) st).2↔x∈st.2\/(x∈l/\ZK n x=true)
 |[],st,h=>⟨h,fun x=>by simp⟩
 | a::r,st,h=>by
   rw[x3m];cases q:ZK n a with
   | true=>
     obtain⟨s,t,_⟩:=h.see (XO q);obtain⟨m,o⟩:=Zq r s;rw[x1u];refine⟨m,fun x=>?_⟩;rw[o,t,x0p];constructor
     .rintro ((i|rfl)|⟨i,j⟩)
      .exact .inl i
      .exact .inr ⟨.inl rfl,q⟩
      .exact .inr ⟨.inr i,j⟩
     .rintro (i|⟨rfl|i,j⟩)
      .exact .inl (.inl i)
      .exact .inl (.inr rfl)
      .exact .inr ⟨i,j⟩
   | false=>
     obtain⟨m,o⟩:=Zq r h;rw[x1g];refine⟨m,fun x=>?_⟩;rw[o,x0p];constructor
     .rintro (i|⟨i,j⟩)
      .exact .inl i
      .exact .inr ⟨.inr i,j⟩
     .rintro (i|⟨rfl|i,j⟩)
      .exact .inl i
      .rw [q]at j;cases j
      .exact .inr ⟨i,j⟩
theorem RF:∀(l:List Bool)(i:Nat)(y:Int),y∈FW i l ↔ ∃k:Nat,l[k]?=some true/\y=((i+k:Nat):Int)
 |[],i,y=>by simp[FW]
 | b::r,i,y=>by
   have m:=RF r (i+1) y;have key:(∃k:Nat,(b::r)[k]?=some true/\y=((i+k:Nat):Int))↔(b=true/\y=(i:Int))\/∃k:Nat,r[k]?=some true/\y=((i+1+k:Nat):Int):=by
    constructor
    .rintro ⟨k,h,j⟩;cases k with
     |zero=>simp at h;exact .inl ⟨h,by simpa using j⟩
     |succ k=>exact .inr ⟨k,by simpa using h,by rw[j];omega⟩
    .rintro (⟨h,j⟩|⟨k,h,j⟩)
     .exact ⟨0,by simp[h],by simpa using j⟩
     .exact ⟨k+1,by simpa using h,by rw[j];omega⟩
   rw[key,<-m,FW];cases b<;>simp
def Nk{n:Nat}{rows:List (List Int)}(r:XK n rows)(l:List Int)(y:Int):y∈FW 0 (ZN rows l) ↔ ∃a∈l,ZK n a=true/\Rch (D6 rows) a y:=by
 obtain⟨w,z⟩:=Zq (n:=n) l (WkM.start n);obtain⟨s,c,d,g⟩:=Jv r (rows.length+1) 0 (st:=DL rows.length l) (by rw[r.1];exact w) (x0l _) (by rw[r.1];omega) (fun m a B=>by omega);have q:∀x,x∈(DL rows.length l).2↔x∈l/\ZK n x=true:=fun x=>by
  rw[r.1];unfold DL;rw[z];simp
 have o:∀y,y∈FW 0 (ZN rows l)↔y∈(ZZ rows (rows.length+1) 0 (DL rows.length l)).2:=fun y=>by
  rw[RF,s.mem];show(∃k:Nat,(ZZ rows (rows.length+1) 0 (DL rows.length l)).1[k]?=some true/\_)↔_;constructor
  .rintro ⟨k,i,h⟩;have j:=(x0m.1 i).1;rw[s.inv.1]at j;refine⟨by omega,?_⟩;rw[h,x0y];simp[i]
  .rintro ⟨i,h⟩;have j:y.toNat<(ZZ rows (rows.length+1) 0 (DL rows.length l)).1.length:=by rw[s.inv.1];omega
   refine⟨y.toNat,?_,by omega⟩;rw[x0y,x0u j]at h;rw[x0u j];simpa using h
 rw[o];constructor
 .intro A;refine g (fun y=>∃a∈l,ZK n a=true/\Rch (D6 rows) a y) (fun x v=>?_) (fun x b ⟨a,i,h,t⟩ u=>⟨a,i,h,.tail t u⟩) y A;obtain⟨i,h⟩:=(q x).1 v;exact⟨x,i,h,.refl⟩
 .rintro ⟨a,i,h,t⟩;exact t.closed (S:=fun y=>y∈(ZZ rows (rows.length+1) 0 (DL rows.length l)).2) (fun x b v u=>d x v b u) (c a ((q a).2 ⟨i,h⟩))
def Ro{l:List Int}{b x:Int}:x∈W7 l k b↔x∈l\/x=b:=by
 unfold W7;rw[x0r,x0p];have:x∈l↔x∈l.take k\/x∈l.drop k:=by rw[<-x0r,List.take_append_drop]
 rw[this];constructor
 .rintro (h|h|h)
  .exact .inl (.inl h)
  .exact .inr h
  .exact .inl (.inr h)
 .rintro ((h|h)|h)
  .exact .inl h
  .exact .inr (.inr h)
  .exact .inr (.inl h)
def EY{n:Nat}{g:List (List Int)×List (List Int)}(r:g.1.length=n)(e:Int×Int){x:Int}(o:0<=x/\x<n):y∈(Dc n g e).1.getD x.toNat []↔y∈g.1.getD x.toNat []\/((x,y)=e/\ZK n y=true):=by
 rw[Va];cases i:(ZK n e.1&&ZK n e.2 && !(g.1.getD e.1.toNat []).contains e.2)with
 | true=>
   simp only[x1z,x3f]at i;obtain⟨⟨l,m⟩,_⟩:=i;have q:=XO l;rw[x1u];unfold Gk;rw[x0y,x5h];by_cases j:e.1.toNat=x.toNat
   .rw [if_pos j,if_pos (by omega)];simp only[x2k];rw[Ro,<-j];have:x=e.1:=by omega
    constructor
    .rintro (h|h)
     .exact .inl h
     .exact .inr ⟨by rw[this,h],by rw[h];exact m⟩
    .rintro (h|⟨h,_⟩)
     .exact .inl h
     .exact .inr (by rw[<-h])
   .rw [if_neg j,<-x0y];constructor
    .exact .inl
    .rintro (h|⟨h,_⟩)
     .exact h
     .exact absurd (by rw[<-h]) j
 | false=>
   rw[x1g];constructor
   .exact .inl
   .rintro (h|⟨rfl,h⟩)
    .exact h
    .have l:ZK n x=true:=by unfold ZK;simp[o]
     simp only[l,h,Bool.true_and,Bool.not_eq_false']at i;simpa using i
def R3{n:Nat}{g:List (List Int)×List (List Int)}(h:g.1.length=n)(e:Int×Int):(Dc n g e).1.length=n:=by
 rw[Va];cases(ZK n e.1&&ZK n e.2 && !(g.1.getD e.1.toNat []).contains e.2)with
 |true=>rw[x1u];unfold Gk;rw[x3g];exact h
 |false=>exact h
theorem Pl{n:Nat}{x y:Int}(m:0<=x/\x<n):∀(l:List (Int×Int)){g:List (List Int)×List (List Int)},g.1.length=n->(y∈(l.foldl (Dc n) g).1.getD x.toNat []↔y∈g.1.getD x.toNat []\/((x,y)∈l/\ZK n y=true))
 |[],g,_=>by simp
 | e::r,g,h=>by
   rw[x3m,Pl m r (R3 h e),EY h e m,x0p];constructor
   .rintro ((i|⟨i,j⟩)|⟨i,j⟩)
    .exact .inl i
    .exact .inr ⟨.inl i,j⟩
    .exact .inr ⟨.inr i,j⟩
   .rintro (i|⟨i|i,j⟩)
    .exact .inl (.inl i)
    .exact .inl (.inr ⟨i,j⟩)
    .exact .inr ⟨i,j⟩
def BJ{n:Nat}{l:List (Int×Int)}{x:Int}(h:0<=x/\x<n):D6 (QS n l).1 x y↔(x,y)∈l/\ZK n y=true:=by
 unfold D6 QS;rw[Pl h l (by simp)];have:(List.replicate n ([]:List Int)).getD x.toNat []=[]:=by
  rw[x0y,x1b];split<;>rfl
 rw[this];simp
def Ue{n:Nat}{l:List (Int×Int)}(s:0<n)(y:Int):y∈FW 0 (ZN (QS n l).1 [0])↔Rch (fun a b=>(a,b)∈l/\ZK n b=true) 0 y:=by
 rw[Nk (JW n l).1];have r:ZK n 0=true:=by unfold ZK;simp;omega
 constructor
 .rintro ⟨a,q,_,h⟩;obtain rfl:a=0:=by simpa using q
  exact(h.closed (S:=fun x:Int=>(0<=x/\x<n)/\Rch (fun a b=>(a,b)∈l/\ZK n b=true) 0 x) (fun x y ⟨j,m⟩ i=>by
   have o:=(BJ j).1 i;exact⟨XO o.2,.tail m o⟩) ⟨⟨by omega,by omega⟩,.refl⟩).2
 .intro h;refine⟨0,by simp,r,?_⟩;exact(h.closed (S:=fun x:Int=>(0<=x/\x<n)/\Rch (D6 (QS n l).1) 0 x) (fun x y ⟨j,m⟩ i=>⟨XO i.2,.tail m ((BJ j).2 i)⟩) ⟨⟨by omega,by omega⟩,.refl⟩).2
def stR(F:List Step)(a b:Int):Prop:=∃s∈F,s.src=a/\s.dst=b
def plP(p:Pg)(j:Nat)(f:Pr)(x:Int):Prop:=x=0\/x = -1\/((QR p.A j:Int)+1<=x/\x<=(QR p.A j+QW f.body:Nat))
def ixI(p:Pg)(j:Nat)(f:Pr)(x:Int):Int:=UJ (loI p j) (hiI p j f) (QW f.body+2:Nat) x
def ZE{j:Nat}{x:Int}(h:plP p j f x):0<=ixI p j f x/\ixI p j f x<(QW f.body+2:Nat):=by
 unfold ixI UJ loI hiI;unfold plP at h
 (repeat' split)<;>omega
def PB{j:Nat}{x:Int}(i:plP p j f x)(l:plP p j f y)(h:ixI p j f x=ixI p j f y):x=y:=by
 unfold ixI UJ loI hiI at h;unfold plP at i l
 (repeat' split at h)<;>omega
def Sc{j:Nat}{F:List Step}(u:∀s∈F,plP p j f s.src/\plP p j f s.dst)(g:plP p j f y):
  ixI p j f y∈FW 0 (ZN (QS (QW f.body+2) (F.map (ixP p j f (QW f.body+2:Nat)))).1 [0])↔Rch (stR F) 0 y:=by
 rw[Ue (by omega)];have r:ixI p j f 0=0:=by unfold ixI UJ;rw[if_pos rfl]
 have w:plP p j f 0:=.inl rfl;constructor
 .intro h;obtain⟨z,n,l,q⟩:=h.closed (S:=fun i=>∃z,plP p j f z/\ixI p j f z=i/\Rch (stR F) 0 z) (by
   rintro a b ⟨z,n,l,q⟩ ⟨d,_⟩;obtain⟨s,m,v⟩:=x0n.1 d;obtain⟨t,o⟩:=u s m;have x:ixI p j f s.src=a:=x2o Prod.fst v;have e2:ixI p j f s.dst=b:=x2o Prod.snd v;have c:s.src=z:=PB t n (by rw[x,l]);exact⟨s.dst,o,e2,.tail q ⟨s,m,c,rfl⟩⟩) ⟨0,w,r,.refl⟩
  rw[<-PB n g l];exact q
 .intro h;have:=h.closed (S:=fun z=>plP p j f z/\Rch (fun a b=>(a,b)∈F.map (ixP p j f (QW f.body+2:Nat))/\ZK (QW f.body+2) b=true) 0 (ixI p j f z)) (by
   rintro a b ⟨n,l⟩ ⟨s,m,rfl,rfl⟩;obtain⟨t,o⟩:=u s m;refine⟨o,.tail l ⟨x0n.2 ⟨s,m,rfl⟩,?_⟩⟩;have:=ZE o;unfold ZK;simp only[x1z,x1n];exact this) ⟨w,by rw[r];exact .refl⟩
  exact this.2
def VZ(h:QE p=true){j:Nat}(i:p.A[j]?=some f):∀s∈(QQ p j f).real,plP p j f s.src/\plP p j f s.dst:=fun s o=>by
 obtain⟨_,l⟩:=GF h i;obtain⟨_,m,_⟩:=Xj h i;obtain⟨q,n⟩:=m s ((l s).1 o);unfold okI at n;unfold plP;omega
def Tf{l:List Str}(h:ZG l=false):l.Nodup:=by
 unfold ZG at h;rw[x5a]at h;unfold Nodup;rw[x4k];intro i j r m q o;have n:=h j (x1a.2 m);apply n;rw[x2e];refine⟨l[i],?_,?_⟩
 .exact x2m.2 ⟨i,by simp;omega,by simp⟩
 .rw [x0u m];simp[o]
def Yv(h:QE p=true):(procsN p).Nodup:=by
 obtain⟨l,j,_⟩:=QF h;unfold XX at j;rw[l,x1u]at j;cases i:ZF p with
 |true=>rw[i]at j;cases j
 | false=>
   unfold ZF at i;simp only[x5u]at i;exact Tf i.2.1
def Fe(h:QE p=true){j:Nat}{g:Pr}(n:p.A[j]?=some f)(m:p.A[k]?=some g)(q:f.name=g.name):j=k/\f=g:=by
 have r:=Yv h;have i:(procsN p)[j]?=some f.name:=by simp[procsN,n]
 have o:(procsN p)[k]?=some g.name:=by simp[procsN,m]
 rw[q]at i;have l:=(x0m.1 i).1;obtain rfl:j=k:=(List.getElem?_inj l r).1 (i.trans o.symm);rw[n]at m;exact⟨rfl,x3h m⟩
def Cw{E:Int->Int->Prop}{B:List Int}{u x:Int}(h:Rch E u x)(s:u∈B)(l:x∉B):∃z y,z∈B/\E z y/\y∉B/\Rch E u y/\Rch E y x:=by
 induction h with
 |refl=>exact absurd s l
 | @tail b c h i t=>
   by_cases j:b∈B
   .exact ⟨b,c,j,i,l,.tail h i,.refl⟩
   .obtain ⟨z,y,m,n,o,q,r⟩:=t j;exact⟨z,y,m,n,o,q,.tail r i⟩
def chainE(E:Int->Int->Prop):List Int->Prop
 |[]=>True
 |[_]=>True
 |a::b::r=>E a b/\chainE E (b::r)
theorem NF{E:Int->Int->Prop}:∀(l:List Int){a y:Int},chainE E (l++[a])->y∈l++[a]->Rch E y a
 | [],a,y,_,i=>by
   simp at i;rw[i];exact .refl
 | [b],a,y,h,i=>by
   simp at i;rcases i with rfl|rfl
   .exact .tail .refl h.1
   .exact .refl
 | b::c::r,a,y,h,i=>by
   have j:chainE E ((c::r)++[a]):=h.2;rcases x0p.1 i with rfl|i
   .exact .head h.1 (NF (c::r) j (by simp))
   .exact NF (c::r) j i
theorem U8{E:Int->Int->Prop}:∀(l:List Int){a b:Int},chainE E (l++[a])->E a b->chainE E (l++[a]++[b])
 |[],a,b,_,hb=>⟨hb,trivial⟩
 |[c],a,b,h,hb=>⟨h.1,hb,trivial⟩
 |c::d::r,a,b,h,hb=>⟨h.1,U8 (d::r) h.2 hb⟩
theorem Kx{E:Int->Int->Prop}:∀(l:List Int){a:Int},chainE E (l++[a])->chainE E l
 |[],_,_=>trivial
 |[_],_,_=>trivial
 |c::d::r,_,h=>⟨h.1,Kx (d::r) h.2⟩
structure DfsI(n:Nat)(E:Int->Int->Prop)(out stack:List Int):Prop where
 nd:(out++stack).Nodup
 rng:∀x∈out++stack,0<=x/\x<n
 path:chainE E stack
 cl:∀u∈out,∀v,E u v->v∈out\/v∈stack
 J:∀u∈out,∀x,Rch E u x->x∉out->∃s∈stack,Rch E u s/\Rch E s u/\Rch E s x
 K:∀(i:Nat)(r:Int),out[i]?=some r->∀u,Rch E u r->Rch E r u\/∃u',Rch E u u'/\Rch E u' u/\(u'∉out\/∃j,i<j/\out[j]?=some u')
theorem DfsI.start(n:Nat)(E:Int->Int->Prop):DfsI n E [] []:=⟨by simp,by simp,trivial,by simp,by simp,by simp⟩
theorem DfsI.push{n:Nat}{E:Int->Int->Prop}{out stack:List Int}(h:DfsI n E out stack){b:Int}(q:0<=b/\b<n)(r:b∉out++stack)(t:chainE E (stack++[b])):DfsI n E out (stack++[b]):=by
 refine⟨?_,fun x i=>?_,t,fun u l v w=>?_,fun u l x i m=>?_,h.K⟩
 .rw [<-x1k,x2b];refine⟨h.nd,by simp,fun x i y z=>?_⟩;rw[x0b.1 z];exact fun e=>r (e▸i)
 .rw [<-x1k]at i;rcases x0r.1 i with i|i
  .exact h.rng x i
  .rw [x0b.1 i];exact q
 .rcases h.cl u l v w with j|j
  .exact .inl j
  .exact .inr (x0r.2 (.inl j))
 .obtain ⟨s,j,o⟩:=h.J u l x i m;exact⟨s,x0r.2 (.inl j),o⟩
theorem DfsI.pop{n:Nat}{E:Int->Int->Prop}{out st:List Int}{a:Int}(h:DfsI n E out (st++[a]))(ha:∀v,E a v->v∈out\/v∈st++[a]):DfsI n E (out++[a]) st:=by
 have N:=h.nd;rw[x2b]at N;obtain⟨T,M,A⟩:=N;rw[x2b]at M;obtain⟨U,_,V⟩:=M;have R:a∉out:=fun m=>A a m a (by simp) rfl;have C:a∉st:=fun m=>V a m a (by simp) rfl;have H:∀u∈out++[a],∀v,E u v->v∈out++[a]\/v∈st:=fun u q v Y=>by
  have:v∈out\/v∈st++[a]:=by
   rcases x0r.1 q with q|q
   .exact h.cl u q v Y
   .rw [x0b.1 q]at Y;exact ha v Y
  rcases this with l|l
  .exact .inl (x0r.2 (.inl l))
  .rcases x0r.1 l with l|l
   .exact .inr l
   .exact .inl (x0r.2 (.inr l))
 have I:∀u∈out++[a],∀x,Rch E u x->x∉out++[a]->∃y∈st,Rch E u y/\Rch E y x:=fun u q x b D=>by
  obtain⟨z,y,l,B,t,o,F⟩:=Cw b q D;rcases H z l y B with w|w
  .exact absurd w t
  .exact ⟨y,w,o,F⟩
 have Q:∀y∈st,Rch E y a:=fun y G=>NF st h.path (x0r.2 (.inl G));refine⟨?_,fun x b=>?_,Kx st h.path,H,fun u q x b D=>?_,fun i r L u q=>?_⟩
 .rw [x1k,x2b];refine⟨T,?_,fun x b y G=>A x b y (by simp at G⊢;exact G.symm)⟩;rw[x2b];refine⟨by simp,U,fun x b y G e=>?_⟩;rw[x0b.1 b]at e;exact C (e▸G)
 .refine h.rng x ?_;simp only[x0r,x0b]at b⊢;rcases b with(l|l)|l
  .exact .inl l
  .exact .inr (.inr l)
  .exact .inr (.inl l)
 .obtain ⟨y,l,B,t⟩:=I u q x b D;rcases x0r.1 q with q|q
  .have Z:y∉out:=fun m=>A y m y (x0r.2 (.inl l)) rfl;obtain⟨s,o,F,w,h7⟩:=h.J u q y B Z;rcases x0r.1 o with o|o
   .exact ⟨s,o,F,w,h7.trans t⟩
   .rw [x0b.1 o]at F w;exact⟨y,l,B,(Q y l).trans w,t⟩
  .rw [x0b.1 q]at B⊢;exact⟨y,l,B,Q y l,t⟩
 .rcases x0t i out.length with g|g
  .rw [x2j g]at L;rcases h.K i r L u q with l|⟨u',l,B,t⟩
   .exact .inl l
   .refine .inr ⟨u',l,B,?_⟩;rcases t with t|⟨j,t,o⟩
    .by_cases O:u'=a
     .exact .inr ⟨out.length,g,by rw[O];simp⟩
     .exact .inl fun m=>by
       rcases x0r.1 m with m|m
       .exact t m
       .exact O (x0b.1 m)
    .exact .inr ⟨j,t,by rw[x2j (x0m.1 o).1];exact o⟩
  .have hr:r=a:=by
    have l:=(x0m.1 L).1;simp at l;rw[x2q g,show i-out.length=0 by omega]at L;simpa using L.symm
   subst hr;by_cases c:Rch E r u
   .exact .inl c
   .right;by_cases P:u∈out
    .obtain ⟨s,o,F,w,h7⟩:=h.J u P r q R;rcases x0r.1 o with o|o
     .refine ⟨s,F,w,.inl fun m=>?_⟩;rcases x0r.1 m with m|m
      .exact A s m s (x0r.2 (.inl o)) rfl
      .rw [x0b.1 m]at o;exact C o
     .rw [x0b.1 o]at w;exact absurd w c
    .refine ⟨u,.refl,.refl,.inl fun m=>?_⟩;rcases x0r.1 m with m|m
     .exact P m
     .rw [x0b.1 m]at c;exact c .refl
structure EndsP(n:Nat)(E:Int->Int->Prop)(es:List Int):Prop where
 nd:es.Nodup
 mem:∀x:Int,x∈es↔0<=x/\x<n
 K:∀(i:Nat)(r:Int),es[i]?=some r->∀u:Int,0<=u/\u<n->Rch E u r->Rch E r u\/∃u',Rch E u u'/\Rch E u' u/\∃j,i<j/\es[j]?=some u'
theorem DfsI.fin{n:Nat}{E:Int->Int->Prop}(t:∀x y,E x y->0<=y/\y<n){out:List Int}(h:DfsI n E out [])(j:∀x:Int,0<=x/\x<n->x∈out):EndsP n E out:=by
 refine⟨by simpa using h.nd,fun x=>⟨fun a=>h.rng x (by simpa using a),j x⟩,fun i r v u o z=>?_⟩;rcases h.K i r v u z with m|⟨b,m,q,l⟩
 .exact .inl m
 .refine .inr ⟨b,m,q,?_⟩;rcases l with l|l
  .exfalso;apply l;apply j;cases m with
   |refl=>exact o
   |tail _ w=>exact t _ _ w
  .exact l
def sccP(E:Int->Int->Prop)(x y:Int):Prop:=Rch E x y/\Rch E y x
theorem sccP.refl{E:Int->Int->Prop}(x:Int):sccP E x x:=⟨.refl,.refl⟩
theorem sccP.symm{E:Int->Int->Prop}{x:Int}(h:sccP E x y):sccP E y x:=⟨h.2,h.1⟩
theorem sccP.trans{E:Int->Int->Prop}{x y z:Int}(h:sccP E x y)(i:sccP E y z):sccP E x z:=⟨h.1.trans i.1,i.2.trans h.2⟩
def SeenP(E:Int->Int->Prop)(es:List Int)(i:Nat)(x:Int):Prop:=∃(j:Nat) (y:Int),i<=j/\es[j]?=some y/\sccP E x y
def SA{n:Nat}{E:Int->Int->Prop}(A:∀x y,E x y->(0<=x/\x<n)/\0<=y/\y<n){es:List Int}(h:EndsP n E es){i:Nat}{r:Int}(d:es[i]?=some r)(g:¬SeenP E es (i+1) r)(x:Int):
  Rch (fun a b=>E b a/\¬SeenP E es (i+1) b) r x↔sccP E r x:=by
 have w:=(h.mem r).1 (x0i d);constructor
 .intro B;have key:(0<=x/\x<n)/\¬SeenP E es (i+1) x/\Rch E x r:=B.closed (S:=fun x:Int=>(0<=x/\x<n)/\¬SeenP E es (i+1) x/\Rch E x r) (fun a b ⟨q,u,l⟩ ⟨m,s⟩=>⟨(A _ _ m).1,s,.head m l⟩) ⟨w,g,.refl⟩;refine⟨?_,key.2.2⟩;rcases h.K i r d x key.1 key.2.2 with q|⟨F,q,u,j,l,m⟩
  .exact q
  .exact absurd ⟨j,F,l,m,q,u⟩ key.2.1
 .rintro ⟨q,u⟩;have v:∀y,sccP E r y->¬SeenP E es (i+1) y:=fun y C ⟨j,z,l,m,s⟩=>g ⟨j,z,l,m,C.trans s⟩;have key:∀{a b:Int},Rch E a b->Rch E r a->Rch E b r->Rch (fun a b=>E b a/\¬SeenP E es (i+1) b) b a:=fun {a b} o=>by
   induction o with
   |refl=>intro _ _;exact .refl
   | @tail b c o t D=>
     intro l m;have s:Rch E b r:=.head t m;exact .head ⟨t,v b ⟨l.trans o,s⟩⟩ (D l s)
  exact key u q .refl
def Al{E:Int->Int->Prop}{es:List Int}{i:Nat}{r:Int}(t:es[i]?=some r)(u:SeenP E es (i+1) r)(x:Int):SeenP E es i x↔SeenP E es (i+1) x:=by
 constructor
 .rintro ⟨j,y,n,h,l⟩;rcases Nat.eq_or_lt_of_le n with m|m
  .subst m;rw[t]at h;cases h;obtain⟨k,z,o,q,s⟩:=u;exact⟨k,z,o,q,l.trans s⟩
  .exact ⟨j,y,m,h,l⟩
 .rintro ⟨j,y,n,h,l⟩;exact⟨j,y,by omega,h,l⟩
def Nb{E:Int->Int->Prop}{es:List Int}{i:Nat}{r:Int}(q:es[i]?=some r)(x:Int):SeenP E es i x↔SeenP E es (i+1) x\/sccP E r x:=by
 constructor
 .rintro ⟨j,y,o,l,m⟩;rcases Nat.eq_or_lt_of_le o with n|n
  .subst n;rw[q]at l;cases l;exact .inr m.symm
  .exact .inl ⟨j,y,n,l,m⟩
 .rintro (⟨j,y,o,l,m⟩|h)
  .exact ⟨j,y,by omega,l,m⟩
  .exact ⟨i,r,x0o _,q,h.symm⟩
def O6{n:Nat}{E:Int->Int->Prop}{es:List Int}(h:EndsP n E es){x:Int}(l:0<=x/\x<n):SeenP E es 0 x:=by
 obtain⟨j,i⟩:=x3y.1 ((h.mem x).2 l);exact⟨j,x,x0l _,i,.refl x⟩
end Go.Ab
