/- The reference's expressions. -/
import Derived.Test.YtmfnbgbblkhneaaGreatRchL14
set_option linter.unusedSimpArgs false
set_option linter.unusedVariables false
set_option maxRecDepth 100000
set_option maxHeartbeats 16000000
open List (Nodup)
namespace Go.Ab
open Go.Proofs.Tryz
open Go.Proofs
variable {e:Bool}{f:Pr}{k:Nat}{p:Pg}{y:Int}
theorem X3(op:Int):SpecP prog 246 [.int .i64 op] (fun r=>r=.int .i64 (Wa op)):=by
 refine sB PV func246 rfl call246 ?_;conv=>whnf
 repeat' (apply bD<;>intro _<;>first|omega|conv=>whnf)
 all_goals exact RetK.int (by unfold Wa;(repeat' split)<;>omega)
theorem GE(x:X):SpecP prog 168 [.agg x.cells] (fun r=>r=.bool (noneB x)):=by
 refine sB NK func168 rfl call168 ?_;conv=>whnf
 repeat' (first|(refine iM fun _=>?_;conv=>whnf)|(apply bD<;>intro _<;>first|omega|conv=>whnf)|(apply bB<;>intro _<;>conv=>whnf))
 all_goals have hk:((X.avs x.kids).length:Int)=x.kids.length:=by rw[X.avs_len]
 all_goals first
  |exact RetK.ff (by simp_all[noneB];done)
  |exact RetK.bool (by simp_all[noneB];done)
def GR(x:X):Bool:=decide (Wa x.op=(x.kids.length:Int))&&(decide (x.op=1)||decide (x.n=0))&&decide (0<=x.n)&&(decide (x.op=2) == !(x.name==[]))&&((x.name==[])||isName x.name)
def PJ:Nat->X->Bool
 |0,_=>true
 |k+1,x=>GR x&&x.kids.all (PJ k)
theorem Rn:∀(l:List X)(y:X),y∈l->wX y<=wXs l
 |[],y,h=>by cases h
 | a::r,y,h=>by
   rw[wXs];rcases x2i.1 h with rfl|h
   ·omega
   ·have:=Rn r y h;omega
theorem Zf:∀(k:Nat)(x:X)(_:wX x<k),SpecP prog 213 [.agg x.cells] (fun r=>r=.bool (PJ k x)):=by
 intro k;induction k with
 |zero=>intro x h;omega
 | succ k ih=>
   intro x hx;have hxe:wX x=1+wXs x.kids:=by cases x;rw[wX];rfl
   have hk:((X.avs x.kids).length:Int)=x.kids.length:=by rw[X.avs_len]
   refine sB NY func213 rfl call213 ?_;conv=>whnf
   repeat' (first|((first|(refine iM fun _=>?_)|refine cP (X3 _) ?_|refine cP (XP _) ?_|refine dA ?_|refine FE QY rfl rfl rfl rfl rfl ?_);conv=>whnf)|(apply bD<;>intro _<;>first|omega|conv=>whnf)|(apply bE<;>intro _<;>first|omega|conv=>whnf)|(apply bN<;>intro _<;>conv=>whnf))
   all_goals simp only[show(ByteArray.mk #[]).data.toList=[]from rfl]at*
   all_goals first
    | (refine RetK.ff ?_
       rw[PJ,x7d];left;unfold GR;rw[show decide (0<=x.n)=false from x4i (by omega)];simp
       done)
    | (refine RetK.ff ?_
       rw[PJ,x7d];left;rename_i h;have hq:(decide (x.op=2) == !(x.name==[]))=false:=by
        have e:decide (x.op=2)=(x.op==2):=rfl;rw[e]
        revert h
        cases(x.op==2)<;>cases(x.name==[])<;>decide
       unfold GR;rw[hq];simp
       done)
    | (refine RetK.ff ?_
       rw[PJ,x7d];left;simp_all[GR]
       done)
    | (refine RetK.ff ?_
       rw[PJ,x7d];left;simp_all[GR];omega)
    | (have h0:GR x=true:=by first
        |(simp_all[GR];done)
        |(simp_all[GR];omega)
       rw[show PJ (k+1) x=x.kids.all (PJ k) by rw[PJ,h0];rfl])
   all_goals
    clear h0;refine LoopK.inv QY (fun j:Nat=>⟨[(1,.p (.ip x.cells)),(48,.p (.int .i64 (X.avs x.kids).length)),(49,.p (.int .i64 j))],[]⟩) (fun j=>j<=x.kids.length/\(x.kids.drop j).all (PJ k)=x.kids.all (PJ k)) (fun j=>x.kids.length-j) 0 (Le.of_eq rfl) ⟨x3z _,rfl⟩ ?_;rintro j ⟨h2,h3⟩;rcases x3v j x.kids.length with hj|hj
    ·have hw:=Rn x.kids _ (x3w hj);conv=>whnf
     repeat' (first|((first|refine IdxK.xs (by omega) ?_|refine wI ?_|(refine CallK.pure (ih (x.kids[j]'hj) (by omega)) (.cons (Sub.refl _) .nil) ?_;rintro _ rfl));conv=>whnf)|(apply bD<;>intro _<;>first|omega|conv=>whnf)|(apply bN<;>intro _<;>conv=>whnf))
     ·exact⟨j+1,⟨by omega,by rw[HW (by omega) (by assumption)];exact h3⟩,by omega,Le.of_eq rfl⟩
     ·exact RetK.ff (by rw[<-h3,Zt (by omega) (by assumption)])
    ·conv=>whnf
     repeat' (apply bD<;>intro _<;>first|omega|conv=>whnf)
     exact RetK.tt (by rw[<-h3,HZ (by omega)])
def Sa:List Nat->Nat
 |[]=>0
 |a::r=>max a (Sa r)
def GD:Nat->X->Nat
 |0,_=>1
 |m+1,x=>1+Sa (x.kids.map (GD m))
theorem Li{l:List Nat}{m:Nat}(h:∀a∈l,a<=m):Sa l<=m:=by
 induction l with
 |nil=>exact x3z _
 | cons a r ih=>
   have:=ih fun b hb=>h b (x2c _ hb);have:=h a x2r;rw[Sa];omega
theorem Fg:∀(m:Nat)(x:X),GD m x<=m+1
 |0,_=>x3g _
 | m+1,x=>by
   rw[GD];have:Sa (x.kids.map (GD m))<=m+1:=Li fun a ha=>by
    obtain⟨y,_,rfl⟩:=x3q.1 ha;exact Fg m y
   omega
theorem Zg:∀(m:Nat)(_:m<=1000)(x:X),SpecP prog 212 [.agg x.cells,.int .i64 m] (fun r=>r=.int .i64 (GD m x)):=by
 intro m;induction m with
 | zero=>
   intro _ x;refine sB JD func212 rfl call212 ?_;conv=>whnf
   repeat' (apply bD<;>intro _<;>first|omega|conv=>whnf)
   exact RetK.int rfl
 | succ m ih=>
   intro hm x;have hk:((X.avs x.kids).length:Int)=x.kids.length:=by rw[X.avs_len]
   refine sB JD func212 rfl call212 ?_;conv=>whnf
   repeat' (apply bD<;>intro _<;>first|omega|conv=>whnf)
   have hmx:Sa (x.kids.map (GD m))<=m+1:=Li fun a ha=>by
    obtain⟨y,_,rfl⟩:=x3q.1 ha;exact Fg m y
   refine LoopK.inv QY (fun y:Nat×Nat=>⟨[(1,.p (.int .i64 (m+1:Nat))),(2,.p (.ip x.cells)),(5,.p (.int .i64 y.2)),(6,.p (.int .i64 y.1))],[]⟩) (fun y=>y.1<=x.kids.length/\y.2<=m+1/\max y.2 (Sa ((x.kids.drop y.1).map (GD m)))=Sa (x.kids.map (GD m))) (fun y=>x.kids.length-y.1) (0,0) (Le.of_eq rfl) ⟨x3z _,x3z _,by simp⟩ ?_;rintro⟨j,d⟩ ⟨h2,h3,h4⟩;simp only at h2 h3 h4⊢;rcases x3v j x.kids.length with hj|hj
   ·rw[x4v hj,x3l,Sa]at h4;have hd:=Fg m x.kids[j];conv=>whnf
    repeat' (first|((first|(refine iM fun _=>?_)|refine IdxK.xs (by omega) ?_|refine wI ?_|(refine CallK.pure (ih (by omega) (x.kids[j]'hj)) (.cons (Sub.refl _) (.cons (Sub.int (by omega)) .nil)) ?_;rintro _ rfl));conv=>whnf)|(apply bD<;>intro _<;>first|omega|conv=>whnf))
    all_goals first
     |exact⟨(j+1,GD m x.kids[j]),⟨by simp only;omega,by simp only;omega,by simp only;omega⟩,by simp only;omega,Le.of_eq rfl⟩
     |exact⟨(j+1,d),⟨by simp only;omega,by simp only;omega,by simp only;omega⟩,by simp only;omega,Le.of_eq rfl⟩
     |exact RetK.int (by rw[GD];omega)
   ·rw[x3b hj,x9u,Sa]at h4;conv=>whnf
    repeat' (first|((first|(refine iM fun _=>?_)|refine wI ?_);conv=>whnf)|(apply bD<;>intro _<;>first|omega|conv=>whnf))
    exact RetK.int (by rw[GD];omega)
def mayXR(x:X):Bool:=decide (GD 20 x<=20)&&PJ (wX x+1) x
theorem YE(x:X):SpecP prog 167 [.agg x.cells] (fun r=>r=.bool (mayXR x)):=by
 refine sB FH func167 rfl call167 ?_;conv=>whnf
 repeat' (first|((first|(refine CallK.pure (Zg 20 (by omega) x) (.cons (Sub.refl _) (.cons (Sub.refl _) .nil)) ?_;rintro _ rfl)|(refine CallK.pure (Zf (wX x+1) x (by omega)) (.cons (Sub.refl _) .nil) ?_;rintro _ rfl));conv=>whnf)|(apply bD<;>intro _<;>first|omega|conv=>whnf))
 all_goals first
  |exact RetK.bool (by unfold mayXR;rw[x5g (by omega)];rfl)
  |exact RetK.ff (by unfold mayXR;rw[x4i (by omega)];rfl)
theorem Xb:∀(n:Nat)(x:X),VD n x=true->GD n x<=n/\∀k,PJ k x=true
 |0,x,h=>by rw[VD]at h;cases h
 | n+1,x,h=>by
   rw [VD]at h;simp only[x3h,x3i]at h;obtain⟨h1,h2⟩:=h;have hkids:(∀y∈x.kids,VD n y=true)/\GR x=true:=by
    split at h2
    ·rename_i ho;simp only[x3h,x3i]at h2;have hk0:x.kids=[]:=by
      rw[ho]at h1;have:Wa 1=0:=by decide
      rw[this]at h1;exact List.length_eq_zero_iff.1 (by omega)
     refine⟨by rw[hk0];simp,?_⟩;unfold GR;rw[h1,ho,h2.2];simp[h2.1]
    split at h2
    ·rename_i ho;simp only[x3h,x3i]at h2;have hk0:x.kids=[]:=by
      rw[ho]at h1;have:Wa 2=0:=by decide
      rw[this]at h1;exact List.length_eq_zero_iff.1 (by omega)
     have hne:(x.name==[])=false:=by
      cases hq:x.name with
      | nil=>
        have:=h2.2;rw[hq]at this;unfold isName at this;rw[dif_neg (by simp)]at this;cases this
      |cons a r=>rfl
     refine⟨by rw[hk0];simp,?_⟩;unfold GR;rw[h1,ho,h2.2,hne,h2.1];simp
    ·rename_i ho1 ho2;simp only[x3h,x3i,x4d]at h2;refine⟨h2.2,?_⟩;unfold GR;rw[h1,h2.1.1,h2.1.2];simp[ho1,ho2]
   refine⟨?_,fun k=>?_⟩
   ·rw[GD];have:Sa (x.kids.map (GD n))<=n:=Li fun a ha=>by
     obtain⟨y,hy,rfl⟩:=x3q.1 ha;exact(Xb n y (hkids.1 y hy)).1
    omega
   ·cases k with
    |zero=>rfl
    | succ k=>
      rw[PJ,hkids.2,Bool.true_and,x4d];exact fun y hy=>(Xb n y (hkids.1 y hy)).2 k
theorem Ae{x:X}(h:Aa x=true):mayXR x=true:=by
 obtain⟨h1,h2⟩:=Xb 20 x h;unfold mayXR;rw[x5g h1,h2];rfl
def argR(a:Arg):Bool:=bif a.ref then isName a.name&&noneB a.x else(a.name==[])&&mayXR a.x
theorem V0(a:Arg):SpecP prog 169 [.agg a.cells] (fun r=>r=.bool (argR a)):=by
 refine sB LU func169 rfl call169 ?_;conv=>whnf
 repeat' (first|((first|refine cP (XP _) ?_|refine cP (GE _) ?_|refine cP (YE _) ?_);conv=>whnf)|(apply bB<;>intro _<;>conv=>whnf))
 all_goals simp only[show(ByteArray.mk #[]).data.toList=[]from rfl]at*
 all_goals first
  |exact RetK.bool (by simp_all[argR])
  |exact RetK.ff (by simp_all[argR])
theorem q2o{a:Arg}(h:Q6 a=true):argR a=true:=by
 unfold Q6 YT FJ at h;unfold argR;cases hr:a.ref with
 | true=>
   rw[hr]at h;simpa using h
 | false=>
   rw[hr]at h;simp only[x3t,Bool.not_false,x3p,x3h]at h;rw[h.1,Ae h.2];rfl
def oneOk(s:S):Bool:=XA s&&namesB s.labels
def hasXB(s:S):Bool:=decide (s.kind=1)||decide (s.kind=3)||decide (s.kind=5)||decide (s.kind=6)||(decide (s.kind=9)&&s.has)
structure OneF(s:S):Prop where
 labels:namesB s.labels=true
 lo:1<=s.kind
 hi:s.kind<=10
 x:hasXB s=true->mayXR s.x=true
 nox:hasXB s=false->noneB s.x=true
 has:s.has=true->s.kind=9
 name:s.kind=1\/s.kind=2\/s.kind=10->isName s.name=true
 noname:¬(s.kind=1\/s.kind=2\/s.kind=10)->(s.name==[])=true\/(s.kind=4/\isName s.name=true)
 proc:s.kind=4->isName s.proc=true
 noproc:s.kind≠4->(s.proc==[])=true
 args:s.args.all argR=true
 noargs:s.kind≠4->s.args.length=0
 thn:s.thn.length=0\/s.kind=5\/s.kind=6
 els:s.els.length=0\/s.kind=5
theorem G9{s:Str}(h:isName s=true):(s==[])=false:=by
 cases s with
 |nil=>unfold isName at h;rw[dif_neg (by simp)]at h;cases h
 |cons a r=>rfl
theorem VE{s:S}(h:oneOk s=true):OneF s:=by
 unfold oneOk at h;rw[x3h]at h;obtain⟨h,hlab⟩:=h;have hargs:s.args.all Q6=true->s.args.all argR=true:=fun h=>by
  rw[x4d]at h⊢;exact fun a ha=>q2o (h a ha)
 have key:∀(k:Int)(f:Flds),s.kind=k->Q1 s.kind s.has (s.name==[])=some f->f.has=false/\(f.thn=false->s.thn.length=0)/\(f.els=false->s.els.length=0)/\(s.kind≠4->s.args.length=0)/\YT s.name f.name=true/\YT s.proc f.proc=true/\FJ s.x f.x=true/\s.args.all argR=true:=fun k f hk hf=>by
  rw[Kb hf]at h;simp only[x3h,x5l,x6s,x7d,Bool.not_eq_false',x5k,x3i]at h;obtain⟨⟨⟨⟨⟨⟨⟨h1,h2⟩,h3⟩,h4⟩,h5⟩,h6⟩,h7⟩,h8⟩:=h;refine⟨h1,fun hq=>?_,fun hq=>?_,fun hq=>?_,h5,h6,h7,hargs h8⟩
  ·rcases h2 with h2|h2
   ·rw[hq]at h2;cases h2
   ·omega
  ·rcases h3 with h3|h3
   ·rw[hq]at h3;cases h3
   ·omega
  ·rcases h4 with h4|h4
   ·exact absurd h4 hq
   ·omega
 have hkind:s.kind=1\/s.kind=2\/s.kind=3\/s.kind=4\/s.kind=5\/s.kind=6\/s.kind=7\/s.kind=8\/s.kind=9\/s.kind=10:=by
  unfold XA at h;split at h
  ·cases h
  ·rename_i f hf;unfold Q1 at hf
   (repeat' split at hf)<;>first|(cases hf;done)|omega
 have fin:∀(k:Int)(f:Flds),s.kind=k->Q1 s.kind s.has (s.name==[])=some f->(1<=k/\k<=10)->f.x=hasXB s->(s.has=true->f.has=true\/k=9)->((k=1\/k=2\/k=10)->f.name=true)->(¬(k=1\/k=2\/k=10)->f.name=false\/(k=4/\f.name = !(s.name==[])))->f.proc=decide (k=4)->(f.thn=true->k=5\/k=6)->(f.els=true->k=5)->OneF s:=fun k f hk hf hkk hfx hfh hfn hfnn hfp hft hfe=>by
  obtain⟨h1,h2,h3,h4,h5,h6,h7,h8⟩:=key k f hk hf;unfold FJ at h7;refine⟨hlab,by omega,by omega,fun hq=>?_,fun hq=>?_,fun hq=>?_,fun hq=>?_,fun hq=>?_,fun hq=>?_,fun hq=>?_,h8,h4,?_,?_⟩
  ·rw[hfx,hq]at h7;exact Ae h7
  ·rw[hfx,hq]at h7;exact h7
  ·rcases hfh hq with h9|h9
   ·rw[h1]at h9;cases h9
   ·omega
  ·rw[hfn (by omega)]at h5;exact h5
  ·rcases hfnn (by omega)with h9|⟨h9,h10⟩
   ·rw[h9]at h5;exact .inl h5
   ·cases hq2:s.name==[]with
    |true=>exact .inl rfl
    | false=>
      rw[h10,hq2]at h5;exact .inr ⟨by omega,h5⟩
  ·rw[hfp,x5g (by omega)]at h6;exact h6
  ·rw[hfp,x4i (by omega)]at h6;exact h6
  ·cases ht:f.thn with
   |true=>exact .inr (by have:=hft ht;omega)
   |false=>exact .inl (h2 ht)
  ·cases he:f.els with
   |true=>exact .inr (by have:=hfe he;omega)
   |false=>exact .inl (h3 he)
 rcases hkind with hk|hk|hk|hk|hk|hk|hk|hk|hk|hk
 ·exact fin 1 ⟨true,false,true,s.has,false,false⟩ hk (by rw[hk];rfl) (by omega) (by unfold hasXB;rw[hk];rfl) (fun h=>.inl h) (fun _=>rfl) (fun h=>absurd (by omega) h) rfl (fun h=>by cases h) (fun h=>by cases h)
 ·exact fin 2 ⟨true,false,false,s.has,false,false⟩ hk (by rw[hk];rfl) (by omega) (by unfold hasXB;rw[hk];rfl) (fun h=>.inl h) (fun _=>rfl) (fun h=>absurd (by omega) h) rfl (fun h=>by cases h) (fun h=>by cases h)
 ·exact fin 3 ⟨false,false,true,s.has,false,false⟩ hk (by rw[hk];rfl) (by omega) (by unfold hasXB;rw[hk];rfl) (fun h=>.inl h) (fun h=>by omega) (fun _=>.inl rfl) rfl (fun h=>by cases h) (fun h=>by cases h)
 ·exact fin 4 ⟨!(s.name==[]),true,false,s.has,false,false⟩ hk (by rw[hk];rfl) (by omega) (by unfold hasXB;rw[hk];rfl) (fun h=>.inl h) (fun h=>by omega) (fun _=>.inr ⟨rfl,rfl⟩) rfl (fun h=>by cases h) (fun h=>by cases h)
 ·exact fin 5 ⟨false,false,true,s.has,true,true⟩ hk (by rw[hk];rfl) (by omega) (by unfold hasXB;rw[hk];rfl) (fun h=>.inl h) (fun h=>by omega) (fun _=>.inl rfl) rfl (fun _=>.inl rfl) (fun _=>rfl)
 ·exact fin 6 ⟨false,false,true,s.has,true,false⟩ hk (by rw[hk];rfl) (by omega) (by unfold hasXB;rw[hk];rfl) (fun h=>.inl h) (fun h=>by omega) (fun _=>.inl rfl) rfl (fun _=>.inr rfl) (fun h=>by cases h)
 ·exact fin 7 ⟨false,false,false,s.has,false,false⟩ hk (by rw[hk];rfl) (by omega) (by unfold hasXB;rw[hk];rfl) (fun h=>.inl h) (fun h=>by omega) (fun _=>.inl rfl) rfl (fun h=>by cases h) (fun h=>by cases h)
 ·exact fin 8 ⟨false,false,false,s.has,false,false⟩ hk (by rw[hk];rfl) (by omega) (by unfold hasXB;rw[hk];rfl) (fun h=>.inl h) (fun h=>by omega) (fun _=>.inl rfl) rfl (fun h=>by cases h) (fun h=>by cases h)
 ·exact fin 9 ⟨false,false,s.has,false,false,false⟩ hk (by rw[hk];rfl) (by omega) (by unfold hasXB;rw[hk];cases s.has<;>rfl) (fun _=>.inr rfl) (fun h=>by omega) (fun _=>.inl rfl) rfl (fun h=>by cases h) (fun h=>by cases h)
 ·exact fin 10 ⟨true,false,false,s.has,false,false⟩ hk (by rw[hk];rfl) (by omega) (by unfold hasXB;rw[hk];rfl) (fun h=>.inl h) (fun _=>rfl) (fun h=>absurd (by omega) h) rfl (fun h=>by cases h) (fun h=>by cases h)
structure RI where
 s:S
 deep:Int
 inn:Int
 els:Bool
def RI.cells(i:RI):List AV:=i.s.cells++[.int .i64 i.deep,.int .i64 i.inn,.bool i.els]
def q7i(l:List RI):AV:=.sl (l.map fun i=>.agg i.cells)
def flF:Nat->Int->Bool->List S->List RI->List RI
 |0,i,e,l,out=>l.foldl (fun o s=>if o.length<=200 then o++[⟨s,13,i,e⟩]else o) out
 |m+1,i,e,l,out=>l.foldl (fun o s=>if o.length<=200 then flF m s.id true s.els (flF m s.id false s.thn (o++[⟨s,13-((m+1:Nat):Int),i,e⟩]))else o) out
theorem DX:∀(m:Nat)(i:Int)(e:Bool)(l:List S)(out:List RI),out.length<=(flF m i e l out).length/\(flF m i e l out).length<=max out.length 201
 |0,i,e,[],out=>by show out.length<=out.length/\_;exact⟨x3g _,Nat.le_max_left _ _⟩
 |m+1,i,e,[],out=>by show out.length<=out.length/\_;exact⟨x3g _,Nat.le_max_left _ _⟩
 | 0,i,e,s::r,out=>by
   have h:=DX 0 i e r (if out.length<=200 then out++[⟨s,13,i,e⟩]else out);show out.length<=(flF 0 i e r (if out.length<=200 then out++[⟨s,13,i,e⟩]else out)).length/\(flF 0 i e r (if out.length<=200 then out++[⟨s,13,i,e⟩]else out)).length<=_;split at h
   ·rw[if_pos (by assumption)];simp only[x2s,x3a]at h;omega
   ·rw[if_neg (by assumption)];exact h
 | m+1,i,e,s::r,out=>by
   have h:=DX (m+1) i e r (if out.length<=200 then flF m s.id true s.els (flF m s.id false s.thn (out++[⟨s,13-((m+1:Nat):Int),i,e⟩]))else out);show out.length<=(flF (m+1) i e r (if out.length<=200 then flF m s.id true s.els (flF m s.id false s.thn (out++[⟨s,13-((m+1:Nat):Int),i,e⟩]))else out)).length/\(flF (m+1) i e r (if out.length<=200 then flF m s.id true s.els (flF m s.id false s.thn (out++[⟨s,13-((m+1:Nat):Int),i,e⟩]))else out)).length<=_;split at h
   ·rw[if_pos (by assumption)];have h1:=DX m s.id false s.thn (out++[⟨s,13-((m+1:Nat):Int),i,e⟩]);have h2:=DX m s.id true s.els (flF m s.id false s.thn (out++[⟨s,13-((m+1:Nat):Int),i,e⟩]));simp only[x2s,x3a]at h1;omega
   ·rw[if_neg (by assumption)];exact h
mutual
def fuS(d i:Int)(e:Bool):S->List RI
 |.mk id kind labels name proc x has args thn els=>⟨.mk id kind labels name proc x has args thn els,d,i,e⟩::(fuL (d+1) id false thn++fuL (d+1) id true els)
def fuL(d i:Int)(e:Bool):List S->List RI
 |[]=>[]
 |t::r=>fuS d i e t++fuL d i e r
end
theorem CS(d i:Int)(e:Bool)(t:S):fuS d i e t=⟨t,d,i,e⟩::(fuL (d+1) t.id false t.thn++fuL (d+1) t.id true t.els):=by
 cases t;rw[fuS];rfl
mutual
theorem q8l(d i:Int)(e:Bool):∀t:S,(fuS d i e t).map RI.s=flS t
 | .mk id kind labels name proc x has args thn els=>by
   rw[fuS,flS,x3l,x3y,N0 _ _ _ thn,N0 _ _ _ els]
theorem N0(d i:Int)(e:Bool):∀l:List S,(fuL d i e l).map RI.s=flL l
 |[]=>by rw[fuL,flL];rfl
 |t::r=>by rw[fuL,flL,x3y,q8l _ _ _ t,N0 _ _ _ r]
end
theorem NR(d i:Int)(e:Bool)(l:List S):(fuL d i e l).length=cntL l:=by
 rw[<-Xn,<-N0 d i e l,x2m]
theorem JK{nest seen m:Int}{s:S}(h:Jb nest seen s=some m):oneOk s=true/\s.id=seen+1/\∃m1,WY (nest+1) (seen+1) s.thn=some m1/\WY (nest+1) m1 s.els=some m:=by
 rw[Dp]at h;split at h
 ·cases h
 split at h
 ·cases h
 rename_i hid;cases hn:namesB s.labels<;>rw[hn]at h
 ·cases h
 cases hf:XA s<;>rw[hf]at h
 ·cases h
 simp only[x3p]at h;split at h
 ·rename_i m1 h1;exact⟨by unfold oneOk;rw[hn,hf];rfl,by omega,m1,h1,h⟩
 ·cases h
theorem US{nest seen m:Int}{s:S}{r:List S}(h:WY nest seen (s::r)=some m):nest<=12/\∃m1,Jb nest seen s=some m1/\WY nest m1 r=some m:=by
 rw[WY]at h;split at h
 ·cases h
 rename_i h0;split at h
 ·rename_i m1 h1;exact⟨by omega,m1,h1,h⟩
 ·cases h
mutual
theorem q6k(d i:Int)(e:Bool):∀(t:S){n m:Int},d<=12->Jb d n t=some m->∀x∈fuS d i e t,x.deep<=12/\oneOk x.s=true
 | .mk id kind labels name proc x has args thn els,n,m,hd,h,y,hy=>by
   obtain⟨h1,_,m1,h2,h3⟩:=JK h;rw[fuS]at hy;rcases x2i.1 hy with rfl|hy
   ·exact⟨hd,h1⟩
   ·rcases x3x.1 hy with hy|hy
    ·exact RK _ _ _ thn h2 y hy
    ·exact RK _ _ _ els h3 y hy
theorem RK(d i:Int)(e:Bool):∀(l:List S){n m:Int},WY d n l=some m->∀x∈fuL d i e l,x.deep<=12/\oneOk x.s=true
 |[],n,m,h,y,hy=>by rw[fuL]at hy;cases hy
 | t::r,n,m,h,y,hy=>by
   obtain⟨h1,m1,h2,h3⟩:=US h;rw[fuL]at hy;rcases x3x.1 hy with hy|hy
   ·exact q6k _ _ _ t h1 h2 y hy
   ·exact RK _ _ _ r h3 y hy
end
theorem q6w:∀(k:Nat)(l:List S)(i:Int)(e:Bool)(out:List RI)(seen m:Int),WY (13-(k:Int)) seen l=some m->out.length+cntL l<=200->flF k i e l out=out++fuL (13-(k:Int)) i e l:=by
 intro k;induction k with
 | zero=>
   intro l i e out seen m h hl;cases l with
   |nil=>rw[fuL,x4b];rfl
   | cons s r=>
     have:=(US h).1;simp at this
 | succ k ih=>
   intro l;induction l with
   |nil=>intro i e out seen m h hl;rw[fuL,x4b];rfl
   | cons s r ihr=>
     intro i e out seen m h hl;obtain⟨h1,m1,h2,h3⟩:=US h;obtain⟨_,_,m2,h4,h5⟩:=JK h2;have ed:(13:Int)-((k+1:Nat):Int)+1=13-(k:Int):=by omega
     rw[ed]at h4 h5;rw[cntL,ZV]at hl;show flF (k+1) i e r (if out.length<=200 then flF k s.id true s.els (flF k s.id false s.thn (out++[⟨s,13-((k+1:Nat):Int),i,e⟩]))else out)=_;rw[if_pos (by omega),ih s.thn s.id false _ _ _ h4 (by simp;omega),ih s.els s.id true _ _ _ h5 (by simp[NR];omega),ihr i e _ _ _ h3 (by simp[NR];omega),fuL,CS,ed];simp
def GB(f:Pr):List RI:=flF 12 0 false f.body []
def FI(l:List Pr)(out:List RI):List RI:=l.foldl (fun o f=>if o.length<=200 then o++GB f else o) out
def allR(p:Pg):List RI:=FI p.procs []
def flatU(f:Pr):List RI:=fuL 1 0 false f.body
theorem Yy:∀(l:List Pr){n m:Int},XG n l=some m->∀f∈l,JX f=true/\∃a b,WY 1 a f.body=some b
 |[],_,_,_,f,hf=>by cases hf
 | g::r,n,m,h,f,hf=>by
   rw[XG]at h;cases hm:JX g<;>rw[hm]at h
   ·cases h
   simp only[x3p]at h;split at h
   ·rename_i m1 h1;rcases x2i.1 hf with rfl|hf
    ·exact⟨hm,_,_,h1⟩
    ·exact Yy r h f hf
   ·cases h
theorem JJ(h:YL p=true):p.globals.length<=16/\p.procs.length<=16/\namesB p.globals=true/\∀f∈p.procs,JX f=true/\∃a b,WY 1 a f.body=some b:=by
 unfold YL at h;simp only[x3h,x3i]at h;obtain⟨⟨⟨h1,h2⟩,h3⟩,h4⟩:=h;refine⟨h1,h2,h3,?_⟩;cases hm:XG 0 p.procs with
 |none=>rw[hm]at h4;cases h4
 |some m=>exact Yy p.procs hm
theorem KU:∀(l:List Pr)(f:Pr),f∈l->cntL f.body<=cntP l
 |[],f,h=>by cases h
 | g::r,f,h=>by
   rw[cntP];rcases x2i.1 h with rfl|h
   ·omega
   ·have:=KU r f h;omega
theorem LI(h:YL p=true)(hf:f∈p.procs):GB f=flatU f:=by
 obtain⟨_,_,_,h4⟩:=JJ h;obtain⟨_,a,b,h5⟩:=h4 f hf;have h6:=(VQ h).2.2;have h7:=KU _ f hf;have:=q6w 12 f.body 0 false [] a b h5 (by simp;omega);simpa[GB,flatU]using this
theorem Rs:∀(l:List Pr)(out:List RI),(∀f∈l,GB f=flatU f)->out.length+cntP l<=200->FI l out=out++l.flatMap flatU
 |[],out,_,_=>by show out=_;simp
 | f::r,out,h,hl=>by
   rw[cntP]at hl;show FI r (if out.length<=200 then out++GB f else out)=_;have e:=NR 1 0 false f.body;rw[if_pos (by omega),h f x2r,Rs r _ (fun g hg=>h g (x2c _ hg)) (by simp only[flatU,x2s,e];omega)];simp
theorem F7(h:YL p=true):allR p=p.procs.flatMap flatU:=by
 have:=Rs p.procs [] (fun f hf=>LI h hf) (by have:=(VQ h).2.2;simpa using this);simpa[allR]using this
theorem q2w(h:YL p=true):∀x∈p.procs.flatMap flatU,x.deep<=12/\oneOk x.s=true:=by
 intro x hx;obtain⟨f,hf,hx⟩:=x3c.1 hx;obtain⟨_,_,_,h4⟩:=JJ h;obtain⟨_,a,b,h5⟩:=h4 f hf;exact RK 1 0 false f.body h5 x hx
theorem Qu:∀(l:List Pr){n:Nat}{m:Int},XG n l=some m->(l.flatMap fun f=>flL f.body).map S.id=KO n (cntP l)
 |[],n,m,_=>by rw[cntP];rfl
 | g::r,n,m,h=>by
   rw[XG]at h;cases hm:JX g<;>rw[hm]at h
   ·cases h
   simp only[x3p]at h;split at h
   ·rename_i m1 h1;have h2:=KF _ _ g.body h1;have h':XG ((n+cntL g.body:Nat):Int) r=some m:=by rw[<-h,h2];rfl
    have h3:=Qu r h';rw[x4n,x3y,Qf 1 g.body h1,h3,cntP,HG]
   ·cases h
theorem q5b(l:List Pr):(l.flatMap flatU).map RI.s=l.flatMap fun f=>flL f.body:=by
 induction l with
 |nil=>rfl
 | cons f r ih=>
   rw[x4n,x4n,x3y,ih];congr 1;exact N0 _ _ _ _
theorem LB(l:List Pr):(l.flatMap flatU).length=cntP l:=by
 induction l with
 |nil=>rfl
 |cons f r ih=>rw[x4n,x2s,ih,cntP];congr 1;exact NR _ _ _ _
theorem Ig(h:YL p=true){x:RI}(hk:(p.procs.flatMap flatU)[k]?=some x):x.s.id=(k:Int)+1:=by
 unfold YL at h;simp only[x3h,x3i]at h;cases hm:XG 0 p.procs with
 |none=>rw[hm]at h;cases h.2
 | some m=>
   have h1:=Qu p.procs (n:=0) hm;rw[<-q5b]at h1;have h2:(((p.procs.flatMap flatU).map RI.s).map S.id)[k]?=some x.s.id:=by simp[hk]
   rw[h1]at h2;unfold KO at h2;have hlt:k<cntP p.procs:=by rw[<-LB];exact(x2o.1 hk).1
   rw[x2e,x9k hlt]at h2;simp at h2;omega
def riH(t:Nat)(out:List RI):Heap:=[(2000,.own t 16 (out.map fun i=>.agg i.cells))]
theorem q3i{t:Nat}{out:List RI}{x:RI}:riH t (out++[x])=[(2000,.own t 16 ((out.map fun i=>.agg i.cells)++[.agg x.cells]))]:=by simp[riH]
theorem M5(l:List RI):(l.map fun i=>AV.agg i.cells).length=l.length:=x2m _
theorem IZ{i:Int}{l:List S}{j:Nat}{o:List RI}(hj:j<l.length)(h:o.length<=200):flF 0 i e (l.drop j) o=flF 0 i e (l.drop (j+1)) (o++[⟨l[j],13,i,e⟩]):=by
 rw[QF hj];show flF 0 i e (l.drop (j+1)) (if o.length<=200 then _ else _)=_;rw[if_pos h]
theorem q2l{m:Nat}{i:Int}{l:List S}{j:Nat}{o:List RI}(hj:j<l.length)(h:o.length<=200):flF (m+1) i e (l.drop j) o=flF (m+1) i e (l.drop (j+1)) (flF m l[j].id true l[j].els (flF m l[j].id false l[j].thn (o++[RI.mk l[j] (13-((m+1:Nat):Int)) i e]))):=by
 rw[QF hj];show flF (m+1) i e (l.drop (j+1)) (if o.length<=200 then _ else _)=_;rw[if_pos h]
theorem V9:∀(m:Nat){i:Int}{e:Bool}{l:List S}{o:List RI},¬o.length<=200->flF m i e l o=o
 |0,i,e,[],o,_=>rfl
 |m+1,i,e,[],o,_=>rfl
 | 0,i,e,s::r,o,h=>by
   show flF 0 i e r (if o.length<=200 then _ else o)=o;rw[if_neg h];exact V9 0 h
 | m+1,i,e,s::r,o,h=>by
   show flF (m+1) i e r (if o.length<=200 then _ else o)=o;rw[if_neg h];exact V9 (m+1) h
theorem CJ(m:Nat){i:Int}{o:List RI}:flF m i e [] o=o:=by cases m<;>rfl
theorem Zh:∀(m:Nat)(_:m<=12)(l:List S)(i:Int)(e:Bool)(out:List RI),
  SpecH prog 61 [.p (eSs l),.p (.int .i64 (13-(m:Int))),.p (.int .i64 i),.p (.bool e),.hd 2000 0 out.length] (riH 101 out)
   (fun r H=>r=.hd 2000 0 (flF m i e l out).length/\H=riH 101 (flF m i e l out)):=by
 intro m;induction m with
 | zero=>
   intro _ l i e out;have hll:=S.avs_len l;refine sH JB func61 rfl call61 ?_;conv=>whnf
   skip
   refine LoopK.inv QY (fun x:Nat×List RI=>⟨[(0,.p (eSs l)),(1,.p (.int .i64 (13-((0:Nat):Int)))),(2,.p (.int .i64 i)),(3,.p (.bool e)),(4,.hd 2000 0 x.2.length),(11,.p (.int .i64 x.1))],riH 101 x.2⟩) (fun x=>x.1<=l.length/\flF 0 i e (l.drop x.1) x.2=flF 0 i e l out) (fun x=>l.length-x.1) (0,out) (Le.of_eq rfl) ⟨x3z _,rfl⟩ ?_;rintro⟨j,o⟩ ⟨h2,h3⟩;simp only at h2 h3⊢;have hol:=M5 o;rcases x3v j l.length with hj|hj
   ·conv=>whnf
    repeat' (first|((first|(refine iM fun _=>?_)|refine x2t rfl ?_|refine aD ?_|refine bP ?_|refine QX (by omega) ?_|refine wI ?_|refine x6y (by simp) rfl (by show(o.length+1)*232<=140737488355328;omega) (by show o.length+1<=9223372036854775807;omega) (fun x hx=>by rcases x2a.1 hx with rfl;exact⟨rfl,rfl⟩) ?_);conv=>whnf)|(apply bD<;>intro _<;>first|omega|conv=>whnf))
    ·exact⟨(j+1,o++[⟨l[j],13,i,e⟩]),⟨hj,by rw[<-h3,IZ hj (by omega)]⟩,by simp only;omega,Le.of_eq (by simp only[q3i,x2s,x3a];rfl)⟩
    ·rw[V9 0 (by omega)]at h3;exact⟨_,.refl _,by rw[<-h3];exact⟨rfl,rfl⟩⟩
   ·conv=>whnf
    repeat' (first|(refine iM fun _=>?_;conv=>whnf)|(apply bD<;>intro _<;>first|omega|conv=>whnf))
    rw[x3b hj,CJ]at h3;exact⟨_,.refl _,by rw[<-h3];exact⟨rfl,rfl⟩⟩
 | succ m ih=>
   intro hm l i e out;have hll:=S.avs_len l;refine sH JB func61 rfl call61 ?_;conv=>whnf
   skip
   refine LoopK.inv QY (fun x:Nat×List RI=>⟨[(0,.p (eSs l)),(1,.p (.int .i64 (13-((m+1:Nat):Int)))),(2,.p (.int .i64 i)),(3,.p (.bool e)),(4,.hd 2000 0 x.2.length),(11,.p (.int .i64 x.1))],riH 101 x.2⟩) (fun x=>x.1<=l.length/\flF (m+1) i e (l.drop x.1) x.2=flF (m+1) i e l out) (fun x=>l.length-x.1) (0,out) (Le.of_eq rfl) ⟨x3z _,rfl⟩ ?_;rintro⟨j,o⟩ ⟨h2,h3⟩;simp only at h2 h3⊢;have hol:=M5 o;rcases x3v j l.length with hj|hj
   ·conv=>whnf
    repeat' (first|((first|(refine iM fun _=>?_)|refine dA ?_|refine x2t rfl ?_|refine aD ?_|refine bP ?_|refine QX (by omega) ?_|refine wI ?_|refine x6y (by simp) rfl (by show(o.length+1)*232<=140737488355328;omega) (by show o.length+1<=9223372036854775807;omega) (fun x hx=>by rcases x2a.1 hx with rfl;exact⟨rfl,rfl⟩) ?_);conv=>whnf)|(apply bD<;>intro _<;>first|omega|conv=>whnf))
    ·refine CallK.heap [(2000,2000)] 0 (x3d (x3n _) (x3d (x3e (Sub.int (by omega))) (x3d (x3n _) (x3d (x3e (Sub.ff rfl)) (x3d (x8z (by rw[x2s];rfl)) x4x))))) (by exact x3j (j:=2000) rfl rfl (CSub.of_eq (by rw[x3y];first|done|rfl)) x4z) (ih (by omega) l[j].thn l[j].id false (o++[RI.mk l[j] (13-((m+1:Nat):Int)) i e])) rfl rfl ?_;rintro l' H' ⟨rfl,rfl⟩;conv=>whnf
     repeat' ((first|refine dA ?_|refine QX (by omega) ?_|refine wI ?_);conv=>whnf)
     refine CallK.heap [(2000,2000)] 0 (x3d (x3n _) (x3d (x3e (Sub.int (by omega))) (x3d (x3n _) (x3d (x3e (Sub.tt rfl)) (x3d (x3n _) x4x))))) (by exact x3j (j:=2000) rfl rfl (CSub.refl _) x4z) (ih (by omega) l[j].els l[j].id true (flF m l[j].id false l[j].thn (o++[RI.mk l[j] (13-((m+1:Nat):Int)) i e]))) rfl rfl ?_;rintro l' H' ⟨rfl,rfl⟩;conv=>whnf
     repeat' (refine wI ?_;conv=>whnf)
     exact⟨(j+1,flF m l[j].id true l[j].els (flF m l[j].id false l[j].thn (o++[RI.mk l[j] (13-((m+1:Nat):Int)) i e]))),⟨hj,by rw[<-h3,q2l hj (by omega)]⟩,by simp only;omega,Le.of_eq rfl⟩
    ·rw[V9 (m+1) (by omega)]at h3;exact⟨_,.refl _,by rw[<-h3];exact⟨rfl,rfl⟩⟩
   ·conv=>whnf
    repeat' (first|(refine iM fun _=>?_;conv=>whnf)|(apply bD<;>intro _<;>first|omega|conv=>whnf))
    rw[x3b hj,CJ]at h3;exact⟨_,.refl _,by rw[<-h3];exact⟨rfl,rfl⟩⟩
theorem Zy(f:Pr):SpecP prog 31 [.agg f.cells] (fun r=>r=q7i (GB f)):=by
 refine sB NW func31 rfl call31 ?_;conv=>whnf
 skip
 refine CallK.nil 5 101 16 rfl (.cons rfl (.cons rfl (.cons rfl (.cons rfl (.row .nil))))) ?_;refine CallK.heap [(2000,5)] 0 (by repeat' (first|exact x4x|refine x3d ?_ ?_|exact x3n _|exact x3e Sub.nils|exact x3e (Sub.tt rfl)|exact x3e (Sub.ff rfl)|exact x3e (Sub.int (by omega)))) (by refine x3j (j:=5) rfl rfl ?_ ?_;exact CSub.refl _;exact x4z) (Zh 12 (by omega) f.body 0 false []) rfl rfl ?_;rintro l' H' ⟨rfl,rfl⟩;conv=>whnf
 exact⟨_,.hd rfl (by simp[GB]),rfl⟩
theorem S2{l:List Pr}{j:Nat}{o:List RI}(hj:j<l.length)(h:o.length<=200):FI (l.drop j) o=FI (l.drop (j+1)) (o++GB l[j]):=by
 rw[QF hj];show FI (l.drop (j+1)) (if o.length<=200 then _ else _)=_;rw[if_pos h]
theorem Kq:∀{l:List Pr}{o:List RI},¬o.length<=200->FI l o=o
 |[],o,_=>rfl
 | f::r,o,h=>by
   show FI r (if o.length<=200 then _ else o)=o;rw[if_neg h];exact Kq h
theorem CK(f:Pr):(GB f).length<=201:=by
 have:=(DX 12 0 false f.body []).2;simpa[GB]using this
theorem We(p:Pg):SpecP prog 62 [.agg p.cells] (fun r=>r=q7i (allR p)):=by
 refine sB LQ func62 rfl call62 ?_;conv=>whnf
 repeat' (refine iM fun _=>?_;conv=>whnf)
 have hl2:(p.procs.map fun f=>AV.agg f.cells).length=p.procs.length:=x2m _;refine LoopK.inv QY (fun x:Nat×List RI=>⟨[(3,.hd 1 0 x.2.length),(7,.p (.sl (p.procs.map fun f=>.agg f.cells))),(8,.p (.int .i64 (p.procs.map fun f=>AV.agg f.cells).length)),(9,.p (.int .i64 x.1))],[(1,.own 101 16 (x.2.map fun i=>.agg i.cells))]⟩) (fun x=>x.1<=p.procs.length/\x.2.length<=200/\FI (p.procs.drop x.1) x.2=allR p) (fun x=>p.procs.length-x.1) (0,[])
  (Le.mk [(1,.own 101 16 [])] (by simp[Chunk.new0];rfl) (by simp) (by simp) (.cons (.nil x2r) (.r (.r (.r .nil)))) (.new x2r .nil)) ⟨x3z _,x3z _,rfl⟩ ?_
 rintro⟨j,o⟩ ⟨h2,h4,h3⟩;simp only at h2 h3 h4⊢;have hol:=M5 o;rcases x3v j p.procs.length with hj|hj
 ·have hfl:=CK p.procs[j];have hst:=fun(h:o.length<=200)=>S2 hj h;have hF:=Zy p.procs[j];generalize hL:GB p.procs[j]=L at hfl hst hF;have hfl2:=M5 L;conv=>whnf
  repeat' (first|((first|(refine iM fun _=>?_)|refine x2t rfl ?_|refine aD ?_|(refine iA fun _=>?_)|refine wI ?_|refine cP hF ?_|refine x6y (by simp) rfl (by rw[hfl2];show(o.length+L.length)*232<=140737488355328;omega) (by rw[hfl2];show o.length+L.length<=9223372036854775807;omega) (fun x hx=>by obtain⟨y,_,rfl⟩:=x3q.1 hx;exact⟨rfl,rfl⟩) ?_);conv=>whnf)|(apply bD<;>intro _<;>first|omega|conv=>whnf))
  ·refine⟨_,.hd rfl (by simp),?_⟩;rw[<-h3,hst h4,Kq (by simp;omega),<-x3y];rfl
  ·exact⟨(j+1,o++L),⟨hj,by simp;omega,by rw[<-h3,hst h4]⟩,by simp only;omega,Le.of_eq (by simp only[x2s,x3y,x2m];rfl)⟩
 ·conv=>whnf
  repeat' (apply bD<;>intro _<;>first|omega|conv=>whnf)
  rw[x3b hj]at h3;refine⟨_,.hd rfl (by simp),?_⟩;rw[<-h3];simp[q7i,FI]
def Ao(n k:Int):Int:=if k<1 then 0 else if n.tmod k<0 then n.tmod k+k else n.tmod k
theorem T5{n k:Int}(hk:0<k):0<=Ao n k/\Ao n k<k:=by
 unfold Ao;have h1:=Int.tmod_lt_of_pos n hk;have h2 : -k<n.tmod k:=by
  rcases Int.le_total 0 n with h|h
  ·have:=Int.tmod_nonneg k h;omega
  ·have h3:=Int.tmod_lt_of_pos (-n) hk;rw[Int.neg_tmod]at h3;omega
 rw[if_neg (by omega)];split<;>omega
theorem Wi(n k:Int)(hk:k<=1000000):SpecP prog 24 [.int .i64 n,.int .i64 k] (fun r=>r=.int .i64 (Ao n k)):=by
 refine sB LZ func24 rfl call24 ?_;conv=>whnf
 have h1:=fun h:0<k=>T5 (n:=n) h;repeat' (first|(refine x2t (by omega) ?_;conv=>whnf)|(apply bD<;>intro _<;>first|omega|conv=>whnf))
 all_goals first
  | (refine Wr.i64 (by have:=h1 (by omega);unfold Ao at this;rw[if_neg (by omega),if_pos (by assumption)]at this;omega) (by have:=h1 (by omega);unfold Ao at this;rw[if_neg (by omega),if_pos (by assumption)]at this;omega) ?_
     conv=>whnf
     exact RetK.int (by unfold Ao;rw[if_neg (by assumption),if_pos (by assumption)]))
  |exact RetK.int (by unfold Ao;rw[if_pos (by assumption)])
  |exact RetK.int (by unfold Ao;rw[if_neg (by assumption),if_neg (by assumption)])
def inS(l:List Str)(x:Str):Bool:=l.any fun y=>y==x
theorem Jk(l:List Str)(x:Str):SpecP prog 27 [eStrs l,.str x] (fun r=>r=.bool (inS l x)):=by
 refine sB Xk func27 rfl call27 ?_;conv=>whnf
 repeat' (refine iM fun _=>?_;conv=>whnf)
 have hl:(l.map AV.str).length=l.length:=x2m _;refine LoopK.inv QY (fun j:Nat=>⟨[(0,.p (eStrs l)),(1,.p (.str x)),(7,.p (.int .i64 (l.map AV.str).length)),(8,.p (.int .i64 j))],[]⟩) (fun j=>j<=l.length/\(l.drop j).any (fun y=>y==x)=inS l x) (fun j=>l.length-j) 0 (Le.of_eq rfl) ⟨x3z _,rfl⟩ ?_;rintro j ⟨h2,h3⟩;rcases x3v j l.length with hj|hj
 ·conv=>whnf
  repeat' (first|((first|(refine iA fun _=>?_)|refine wI ?_);conv=>whnf)|(apply bD<;>intro _<;>first|omega|conv=>whnf)|(apply bB<;>intro _<;>conv=>whnf))
  ·exact RetK.tt (by rw[<-h3,F9 hj (by assumption)])
  ·exact⟨j+1,⟨hj,by rw[Kz hj (by assumption)];exact h3⟩,by omega,Le.of_eq rfl⟩
 ·conv=>whnf
  repeat' (apply bD<;>intro _<;>first|omega|conv=>whnf)
  exact RetK.ff (by rw[<-h3,Xf hj])
theorem Yn{α β:Type}{f:α->β}:∀{l:List α},(l.map f).Nodup->∀a∈l,∀b∈l,f a=f b->a=b
 |[],_,a,ha,_,_,_=>by cases ha
 | c::r,h,a,ha,b,hb,e=>by
   rw[x3l,x4r]at h;rcases x2i.1 ha with ha1|ha1
   ·rcases x2i.1 hb with hb1|hb1
    ·rw[ha1,hb1]
    ·exact(h.1 (x3q.2 ⟨b,hb1,by rw[<-e,ha1]⟩)).elim
   ·rcases x2i.1 hb with hb1|hb1
    ·exact(h.1 (x3q.2 ⟨a,ha1,by rw[e,hb1]⟩)).elim
    ·exact Yn h.2 a ha1 b hb1 e
theorem Ym{α:Type}[DecidableEq α]:∀{l m:List α},l.Nodup->(∀s∈l,s∈m)->l.length<=m.length
 |[],m,_,_=>x3z _
 | a::r,m,h,hs=>by
   rw[x4r]at h;have ha:=hs a x2r;have h1:=Ym (m:=m.erase a) h.2 fun s hsr=>(List.mem_erase_of_ne (fun e=>h.1 (by rw[<-e];exact hsr))).2 (hs s (x2c _ hsr));rw[List.length_erase_of_mem ha]at h1;have:=x8e ha;simp only[x4q];omega
theorem Sj(n c:Nat):(KO n c).Nodup:=by
 unfold KO Nodup;rw[List.pairwise_map];exact List.Pairwise.imp (fun h e=>h (by omega)) (List.nodup_range' (s:=n+1) (n:=c) (step:=1))
theorem A9(hm:YL p=true){j:Nat}(hj:p.procs[j]?=some f):(itsOf p j f).map (fun it=>it.s.id)=KO (QB p.procs j) (cntL f.body):=by
 rw[<-D9 hm hj,<-DD (j:Nat) 0 (-1) 0 (QB p.procs j) f.body,x7p];rfl
theorem q1z(hm:YL p=true){j:Nat}(hj:p.procs[j]?=some f){a b:Item}(ha:a∈itsOf p j f)(hb:b∈itsOf p j f)(h:a.s.id=b.s.id):a=b:=
 Yn (f:=fun it:Item=>it.s.id) (by rw[A9 hm hj];exact Sj _ _) a ha b hb h
theorem IS{j:Nat}{t:S}(h:t∈flL f.body):∃it∈itsOf p j f,it.s=t:=by
 rw[<-DD (j:Nat) 0 (-1) 0 (QB p.procs j) f.body]at h;obtain⟨it,h1,h2⟩:=x3q.1 h;exact⟨it,h1,h2⟩
theorem Oz{l:List Step}(h:l.Pairwise Xa):l.Nodup:=h.imp fun h e=>by subst e;exact HF h
theorem RP{n c:Nat}{a:Int}(h1:(n:Int)+1<=a)(h2:a<=(n+c:Nat)):a∈KO n c:=by
 unfold KO;refine x3q.2 ⟨a.toNat,List.mem_range'.2 ⟨a.toNat-(n+1),by omega,by omega⟩,by omega⟩
inductive Rch{α:Type}(R:α->α->Prop)(a:α):α->Prop
 |refl:Rch R a a
 |tail {b c:α} (h:Rch R a b) (hr:R b c):Rch R a c
theorem Rch.trans{α:Type}{R:α->α->Prop}{a b c:α}(h:Rch R a b)(h':Rch R b c):Rch R a c:=by
 induction h' with
 |refl=>exact h
 |tail _ hr ih=>exact .tail ih hr
theorem Rch.head{α:Type}{R:α->α->Prop}{a b c:α}(hr:R a b)(h:Rch R b c):Rch R a c:=Rch.trans (.tail .refl hr) h
theorem Rch.mono{α:Type}{R R':α->α->Prop}(h:∀x y,R x y->R' x y){a b:α}(hr:Rch R a b):Rch R' a b:=by
 induction hr with
 |refl=>exact .refl
 |tail _ hr ih=>exact .tail ih (h _ _ hr)
theorem Rch.closed{α:Type}{R:α->α->Prop}{S:α->Prop}(hS:∀x y,S x->R x y->S y){a b:α}(ha:S a)(h:Rch R a b):S b:=by
 induction h with
 |refl=>exact ha
 |tail _ hr ih=>exact hS _ _ ih hr
structure WkM(n:Nat)(st:List Bool×List Int):Prop where
 inv:wkInv n st
 mem:∀x,x∈st.2↔(0<=x/\x<n)/\st.1.getD x.toNat false=true
theorem WkM.start(n:Nat):WkM n (List.replicate n false,[]):=⟨MP n,fun x=>by
 simp only[x9f,false_iff,not_and];intro _;rw[x2l,x3o];split<;>simp⟩
theorem WkM.see{n:Nat}{st:List Bool×List Int}(h:WkM n st){b:Int}(hb:0<=b/\b<n):WkM n (KB st b)/\(∀x,x∈(KB st b).2↔x∈st.2\/x=b)/\st.2 <+: (KB st b).2:=by
 have hi:=Qn h.inv hb;cases hs:st.1.getD b.toNat false with
 | true=>
   have e:KB st b=st:=by unfold KB;rw[hs];rfl
   rw[e];refine⟨h,fun x=>⟨.inl,fun hx=>?_⟩,List.prefix_refl _⟩;rcases hx with hx|rfl
   ·exact hx
   ·exact(h.mem _).2 ⟨hb,hs⟩
 | false=>
   have e:KB st b=(st.1.set b.toNat true,st.2++[b]):=by unfold KB;rw[hs];rfl
   rw[e]at hi⊢;have hlen:=h.inv.1;refine⟨⟨hi,fun x=>?_⟩,fun x=>by simp,List.prefix_append _ _⟩;rw[x3x,x2a,h.mem];simp only[x2l,x7x];by_cases hx:x=b
   ·subst hx;rw[if_pos rfl,if_pos (by omega)];simp[hb]
   ·constructor
    ·rintro(⟨h1,h2⟩|h2)
     ·refine⟨h1,?_⟩;rw[if_neg (by omega)];exact h2
     ·exact absurd h2 hx
    ·rintro⟨h1,h2⟩;rw[if_neg (by omega)]at h2;exact .inl ⟨h1,h2⟩
theorem WkM.fold{n:Nat}:∀(l:List Int){st:List Bool×List Int},WkM n st->(∀b∈l,0<=b/\b<n)->WkM n (l.foldl KB st)/\(∀x,x∈(l.foldl KB st).2↔x∈st.2\/x∈l)/\st.2 <+: (l.foldl KB st).2
 |[],st,h,_=>⟨h,fun x=>by simp,List.prefix_refl _⟩
 | b::r,st,h,hl=>by
   obtain⟨h1,h2,h3⟩:=h.see (hl b x2r);obtain⟨h4,h5,h6⟩:=WkM.fold r h1 fun c hc=>hl c (x2c _ hc);refine⟨h4,fun x=>?_,h3.trans h6⟩;rw[x6v,h5,h2,x2i,or_assoc]
def Db(rows:List (List Int))(x y:Int):Prop:=y∈rows.getD x.toNat []
theorem DA{n:Nat}{rows:List (List Int)}(hr:XU n rows){x:Int}(h:Db rows x y):0<=y/\y<n:=by
 unfold Db at h;rw[x2l]at h;cases hq:rows[x.toNat]?with
 |none=>rw[hq]at h;simp at h
 |some r=>rw[hq]at h;exact hr.2 r (x3k hq) y h
theorem Gm{α:Type}{l m:List α}(h:l <+: m){i:Nat}{a:α}(ha:l[i]?=some a):m[i]?=some a:=by
 obtain⟨t,rfl⟩:=h;rw[x4p (x2o.1 ha).1];exact ha
theorem Jy{n:Nat}{rows:List (List Int)}(hr:XU n rows):∀(k i:Nat){st:List Bool×List Int},WkM n st->i<=st.2.length->n+1<=k+i->(∀(m:Nat)(a:Int),m<i->st.2[m]?=some a->∀b,Db rows a b->b∈st.2)->
  WkM n (ZZ rows k i st)/\(∀x∈st.2,x∈(ZZ rows k i st).2)/\(∀x∈(ZZ rows k i st).2,∀b,Db rows x b->b∈(ZZ rows k i st).2)/\(∀S:Int->Prop,(∀x∈st.2,S x)->(∀x b,S x->Db rows x b->S b)->∀x∈(ZZ rows k i st).2,S x)
 | 0,i,st,h,hi,hk,_=>by
   have:=BJ h.inv;omega
 | k+1,i,st,h,hi,hk,hc=>by
   rw[ZZ];split
   ·rename_i a ha;have hlt:=(x2o.1 ha).1;have hrow:∀b∈rows.getD a.toNat [],0<=b/\b<n:=fun b hb=>DA hr hb;obtain⟨h1,h2,h3⟩:=h.fold (rows.getD a.toNat []) hrow;obtain⟨h4,h5,h6,h7⟩:=Jy hr k (i+1) h1 (x4k hlt h3.length_le) (by omega) fun m c hm hmc b hb=>by
     rw[h2];rcases x3v m i with hmi|hmi
     ·have hml:m<st.2.length:=by omega
      have hmc':st.2[m]?=some c:=by
       have:=Gm h3 (x2n hml);rw[x2n hml,<-this,hmc]
      exact .inl (hc m c hmi hmc' b hb)
     ·obtain rfl:m=i:=by omega
      have:=Gm h3 ha;rw[this]at hmc;cases hmc;exact .inr hb
    refine⟨h4,fun x hx=>h5 x ((h2 x).2 (.inl hx)),h6,fun S hS hcl=>h7 S (fun x hx=>?_) hcl⟩;rcases(h2 x).1 hx with hx|hx
    ·exact hS x hx
    ·exact hcl a x (hS a (x3k ha)) hx
   ·rename_i ha;have hlen:st.2.length<=i:=x8g.1 ha;refine⟨h,fun x hx=>hx,fun x hx b hb=>?_,fun S hS _=>hS⟩;obtain⟨m,hm⟩:=x5s.1 hx;exact hc m x (by have:=(x2o.1 hm).1;omega) hm b hb
theorem Zq{n:Nat}:∀(l:List Int){st:List Bool×List Int},WkM n st->WkM n (l.foldl (fun st a=>bif ZF n a then KB st a else st) st)/\∀x,x∈(l.foldl (fun st a=>bif ZF n a then KB st a else st) st).2↔x∈st.2\/(x∈l/\ZF n x=true)
 |[],st,h=>⟨h,fun x=>by simp⟩
 | a::r,st,h=>by
   rw[x6v];cases hb:ZF n a with
   | true=>
     obtain⟨h1,h2,_⟩:=h.see (XI hb);obtain⟨h3,h4⟩:=Zq r h1;rw[x3p];refine⟨h3,fun x=>?_⟩;rw[h4,h2,x2i];constructor
     ·rintro((h5|rfl)|⟨h5,h6⟩)
      ·exact .inl h5
      ·exact .inr ⟨.inl rfl,hb⟩
      ·exact .inr ⟨.inr h5,h6⟩
     ·rintro(h5|⟨rfl|h5,h6⟩)
      ·exact .inl (.inl h5)
      ·exact .inl (.inr rfl)
      ·exact .inr ⟨h5,h6⟩
   | false=>
     obtain⟨h3,h4⟩:=Zq r h;rw[x3t];refine⟨h3,fun x=>?_⟩;rw[h4,x2i];constructor
     ·rintro(h5|⟨h5,h6⟩)
      ·exact .inl h5
      ·exact .inr ⟨.inr h5,h6⟩
     ·rintro(h5|⟨rfl|h5,h6⟩)
      ·exact .inl h5
      ·rw[hb]at h6;cases h6
      ·exact .inr ⟨h5,h6⟩
theorem T3:∀(l:List Bool)(i:Nat)(y:Int),y∈FZ i l ↔ ∃k:Nat,l[k]?=some true/\y=((i+k:Nat):Int)
 |[],i,y=>by simp[FZ]
 | b::r,i,y=>by
   have ih:=T3 r (i+1) y;have key:(∃k:Nat,(b::r)[k]?=some true/\y=((i+k:Nat):Int))↔(b=true/\y=(i:Int))\/∃k:Nat,r[k]?=some true/\y=((i+1+k:Nat):Int):=by
    constructor
    ·rintro⟨k,h1,h2⟩;cases k with
     |zero=>simp at h1;exact .inl ⟨h1,by simpa using h2⟩
     |succ k=>exact .inr ⟨k,by simpa using h1,by rw[h2];omega⟩
    ·rintro(⟨h1,h2⟩|⟨k,h1,h2⟩)
     ·exact⟨0,by simp[h1],by simpa using h2⟩
     ·exact⟨k+1,by simpa using h1,by rw[h2];omega⟩
   rw[key,<-ih,FZ];cases b<;>simp
theorem M4{n:Nat}{rows:List (List Int)}(hr:XU n rows)(l:List Int)(y:Int):y∈FZ 0 (ZP rows l) ↔ ∃a∈l,ZF n a=true/\Rch (Db rows) a y:=by
 obtain⟨h1,h2⟩:=Zq (n:=n) l (WkM.start n);obtain⟨h3,h4,h5,h6⟩:=Jy hr (rows.length+1) 0 (st:=BQ rows.length l) (by rw[hr.1];exact h1) (x3z _) (by rw[hr.1];omega) (fun m a hm=>by omega);have hst:∀x,x∈(BQ rows.length l).2↔x∈l/\ZF n x=true:=fun x=>by
  rw[hr.1];unfold BQ;rw[h2];simp
 have hmem:∀y,y∈FZ 0 (ZP rows l)↔y∈(ZZ rows (rows.length+1) 0 (BQ rows.length l)).2:=fun y=>by
  rw[T3,h3.mem];show(∃k:Nat,(ZZ rows (rows.length+1) 0 (BQ rows.length l)).1[k]?=some true/\_)↔_;constructor
  ·rintro⟨k,h7,h8⟩;have hlt:=(x2o.1 h7).1;rw[h3.inv.1]at hlt;refine⟨by omega,?_⟩;rw[h8,x2l];simp[h7]
  ·rintro⟨h7,h8⟩;have hlt:y.toNat<(ZZ rows (rows.length+1) 0 (BQ rows.length l)).1.length:=by rw[h3.inv.1];omega
   refine⟨y.toNat,?_,by omega⟩;rw[x2l,x2n hlt]at h8;rw[x2n hlt];simpa using h8
 rw[hmem];constructor
 ·intro hy;refine h6 (fun y=>∃a∈l,ZF n a=true/\Rch (Db rows) a y) (fun x hx=>?_) (fun x b ⟨a,h7,h8,h9⟩ hb=>⟨a,h7,h8,.tail h9 hb⟩) y hy;obtain⟨h7,h8⟩:=(hst x).1 hx;exact⟨x,h7,h8,.refl⟩
 ·rintro⟨a,h7,h8,h9⟩;exact h9.closed (S:=fun y=>y∈(ZZ rows (rows.length+1) 0 (BQ rows.length l)).2) (fun x b hx hb=>h5 x hx b hb) (h4 a ((hst a).2 ⟨h7,h8⟩))
theorem RM{l:List Int}{b x:Int}:x∈W5 l k b↔x∈l\/x=b:=by
 unfold W5;rw[x3x,x2i];have:x∈l↔x∈l.take k\/x∈l.drop k:=by rw[<-x3x,x7s]
 rw[this];constructor
 ·rintro(h|h|h)
  ·exact .inl (.inl h)
  ·exact .inr h
  ·exact .inl (.inr h)
 ·rintro((h|h)|h)
  ·exact .inl h
  ·exact .inr (.inr h)
  ·exact .inr (.inl h)
theorem Iw{n:Nat}{g:List (List Int)×List (List Int)}(hl:g.1.length=n)(e:Int×Int){x:Int}(hx:0<=x/\x<n):y∈(B9 n g e).1.getD x.toNat []↔y∈g.1.getD x.toNat []\/((x,y)=e/\ZF n y=true):=by
 rw[Vo];cases hc:(ZF n e.1&&ZF n e.2 && !(g.1.getD e.1.toNat []).contains e.2)with
 | true=>
   simp only[x3h,x5l]at hc;obtain⟨⟨h1,h2⟩,_⟩:=hc;have h3:=XI h1;rw[x3p];unfold Gl;rw[x2l,x7x];by_cases he:e.1.toNat=x.toNat
   ·rw[if_pos he,if_pos (by omega)];simp only[x5q];rw[RM,<-he];have:x=e.1:=by omega
    constructor
    ·rintro(h|h)
     ·exact .inl h
     ·exact .inr ⟨by rw[this,h],by rw[h];exact h2⟩
    ·rintro(h|⟨h,_⟩)
     ·exact .inl h
     ·exact .inr (by rw[<-h])
   ·rw[if_neg he,<-x2l];constructor
    ·exact .inl
    ·rintro(h|⟨h,_⟩)
     ·exact h
     ·exact absurd (by rw[<-h]) he
 | false=>
   rw[x3t];constructor
   ·exact .inl
   ·rintro(h|⟨rfl,h⟩)
    ·exact h
    ·have h1:ZF n x=true:=by unfold ZF;simp[hx]
     simp only[h1,h,Bool.true_and,Bool.not_eq_false']at hc;simpa using hc
theorem Rr{n:Nat}{g:List (List Int)×List (List Int)}(hl:g.1.length=n)(e:Int×Int):(B9 n g e).1.length=n:=by
 rw[Vo];cases(ZF n e.1&&ZF n e.2 && !(g.1.getD e.1.toNat []).contains e.2)with
 |true=>rw[x3p];unfold Gl;rw[x5e];exact hl
 |false=>exact hl
theorem Nz{n:Nat}{x y:Int}(hx:0<=x/\x<n):∀(l:List (Int×Int)){g:List (List Int)×List (List Int)},g.1.length=n->(y∈(l.foldl (B9 n) g).1.getD x.toNat []↔y∈g.1.getD x.toNat []\/((x,y)∈l/\ZF n y=true))
 |[],g,_=>by simp
 | e::r,g,h=>by
   rw[x6v,Nz hx r (Rr h e),Iw h e hx,x2i];constructor
   ·rintro((h1|⟨h1,h2⟩)|⟨h1,h2⟩)
    ·exact .inl h1
    ·exact .inr ⟨.inl h1,h2⟩
    ·exact .inr ⟨.inr h1,h2⟩
   ·rintro(h1|⟨h1|h1,h2⟩)
    ·exact .inl (.inl h1)
    ·exact .inl (.inr ⟨h1,h2⟩)
    ·exact .inr ⟨h1,h2⟩
theorem BR{n:Nat}{l:List (Int×Int)}{x:Int}(hx:0<=x/\x<n):Db (QR n l).1 x y↔(x,y)∈l/\ZF n y=true:=by
 unfold Db QR;rw[Nz hx l (by simp)];have:(List.replicate n ([]:List Int)).getD x.toNat []=[]:=by
  rw[x2l,x3o];split<;>rfl
 rw[this];simp
theorem Y1{n:Nat}{l:List (Int×Int)}(h0:0<n)(y:Int):y∈FZ 0 (ZP (QR n l).1 [0])↔Rch (fun a b=>(a,b)∈l/\ZF n b=true) 0 y:=by
 rw[M4 (JN n l).1];have hs:ZF n 0=true:=by unfold ZF;simp;omega
 constructor
 ·rintro⟨a,ha,_,h⟩;obtain rfl:a=0:=by simpa using ha
  exact(h.closed (S:=fun x:Int=>(0<=x/\x<n)/\Rch (fun a b=>(a,b)∈l/\ZF n b=true) 0 x) (fun x y ⟨h1,h2⟩ h3=>by
   have h4:=(BR h1).1 h3;exact⟨XI h4.2,.tail h2 h4⟩) ⟨⟨by omega,by omega⟩,.refl⟩).2
 ·intro h;refine⟨0,by simp,hs,?_⟩;exact(h.closed (S:=fun x:Int=>(0<=x/\x<n)/\Rch (Db (QR n l).1) 0 x) (fun x y ⟨h1,h2⟩ h3=>⟨XI h3.2,.tail h2 ((BR h1).2 h3)⟩) ⟨⟨by omega,by omega⟩,.refl⟩).2
def stR(F:List Step)(a b:Int):Prop:=∃s∈F,s.src=a/\s.dst=b
def plP(p:Pg)(j:Nat)(f:Pr)(x:Int):Prop:=x=0\/x = -1\/((QB p.procs j:Int)+1<=x/\x<=(QB p.procs j+cntL f.body:Nat))
def ixI(p:Pg)(j:Nat)(f:Pr)(x:Int):Int:=UE (loI p j) (hiI p j f) (cntL f.body+2:Nat) x
theorem WQ{j:Nat}{x:Int}(h:plP p j f x):0<=ixI p j f x/\ixI p j f x<(cntL f.body+2:Nat):=by
 unfold ixI UE loI hiI;unfold plP at h
 (repeat' split)<;>omega
theorem PR{j:Nat}{x:Int}(hx:plP p j f x)(hy:plP p j f y)(h:ixI p j f x=ixI p j f y):x=y:=by
 unfold ixI UE loI hiI at h;unfold plP at hx hy
 (repeat' split at h)<;>omega
theorem SA{j:Nat}{F:List Step}(hF:∀s∈F,plP p j f s.src/\plP p j f s.dst)(hy:plP p j f y):
  ixI p j f y∈FZ 0 (ZP (QR (cntL f.body+2) (F.map (ixP p j f (cntL f.body+2:Nat)))).1 [0])↔Rch (stR F) 0 y:=by
 rw[Y1 (by omega)];have e0:ixI p j f 0=0:=by unfold ixI UE;rw[if_pos rfl]
 have p0:plP p j f 0:=.inl rfl;constructor
 ·intro h;obtain⟨z,h1,h2,h3⟩:=h.closed (S:=fun i=>∃z,plP p j f z/\ixI p j f z=i/\Rch (stR F) 0 z) (by
   rintro a b ⟨z,h1,h2,h3⟩ ⟨h4,_⟩;obtain⟨s,hs,he⟩:=x3q.1 h4;obtain⟨h5,h6⟩:=hF s hs;have e1:ixI p j f s.src=a:=x5u Prod.fst he;have e2:ixI p j f s.dst=b:=x5u Prod.snd he;have e3:s.src=z:=PR h5 h1 (by rw[e1,h2]);exact⟨s.dst,h6,e2,.tail h3 ⟨s,hs,e3,rfl⟩⟩) ⟨0,p0,e0,.refl⟩
  rw[<-PR h1 hy h2];exact h3
 ·intro h;have:=h.closed (S:=fun z=>plP p j f z/\Rch (fun a b=>(a,b)∈F.map (ixP p j f (cntL f.body+2:Nat))/\ZF (cntL f.body+2) b=true) 0 (ixI p j f z)) (by
   rintro a b ⟨h1,h2⟩ ⟨s,hs,rfl,rfl⟩;obtain⟨h5,h6⟩:=hF s hs;refine⟨h6,.tail h2 ⟨x3q.2 ⟨s,hs,rfl⟩,?_⟩⟩;have:=WQ h6;unfold ZF;simp only[x3h,x3i];exact this) ⟨p0,by rw[e0];exact .refl⟩
  exact this.2
theorem UR(h:QE p=true){j:Nat}(hj:p.procs[j]?=some f):∀s∈(QQ p j f).real,plP p j f s.src/\plP p j f s.dst:=fun s hs=>by
 obtain⟨_,h2⟩:=JC h hj;obtain⟨_,h3,_⟩:=Ux h hj;obtain⟨h4,h5⟩:=h3 s ((h2 s).1 hs);unfold okI at h5;unfold plP;omega
theorem B0{l:List Str}(h:ZN l=false):l.Nodup:=by
 unfold ZN at h;rw[x7i]at h;unfold Nodup;rw[x7c];intro i j hi hj hij he;have h1:=h j (x4y.2 hj);apply h1;rw[x4o];refine⟨l[i],?_,?_⟩
 ·exact x4t.2 ⟨i,by simp;omega,by simp⟩
 ·rw[x2n hj];simp[he]
theorem Yg(h:QE p=true):(procsN p).Nodup:=by
 obtain⟨hm,hs,_⟩:=QK h;unfold QA at hs;rw[hm,x3p]at hs;cases hb:ZY p with
 |true=>rw[hb]at hs;cases hs
 | false=>
   unfold ZY at hb;simp only[x6s]at hb;exact B0 hb.2.1
theorem OQ(h:QE p=true){j:Nat}{g:Pr}(hj:p.procs[j]?=some f)(hk:p.procs[k]?=some g)(he:f.name=g.name):j=k/\f=g:=by
 have hn:=Yg h;have h1:(procsN p)[j]?=some f.name:=by simp[procsN,hj]
 have h2:(procsN p)[k]?=some g.name:=by simp[procsN,hk]
 rw[he]at h1;have hjl:=(x2o.1 h1).1;obtain rfl:j=k:=(List.getElem?_inj hjl hn).1 (h1.trans h2.symm);rw[hj]at hk;exact⟨rfl,x5j hk⟩
theorem CY{E:Int->Int->Prop}{B:List Int}{u x:Int}(h:Rch E u x)(hu:u∈B)(hx:x∉B):∃z y,z∈B/\E z y/\y∉B/\Rch E u y/\Rch E y x:=by
 induction h with
 |refl=>exact absurd hu hx
 | @tail b c h hr ih=>
   by_cases hb:b∈B
   ·exact⟨b,c,hb,hr,hx,.tail h hr,.refl⟩
   ·obtain⟨z,y,h1,h2,h3,h4,h5⟩:=ih hb;exact⟨z,y,h1,h2,h3,h4,.tail h5 hr⟩
def chainE(E:Int->Int->Prop):List Int->Prop
 |[]=>True
 |[_]=>True
 |a::b::r=>E a b/\chainE E (b::r)
theorem NF{E:Int->Int->Prop}:∀(l:List Int){a y:Int},chainE E (l++[a])->y∈l++[a]->Rch E y a
 | [],a,y,_,hy=>by
   simp at hy;rw[hy];exact .refl
 | [b],a,y,h,hy=>by
   simp at hy;rcases hy with rfl|rfl
   ·exact .tail .refl h.1
   ·exact .refl
 | b::c::r,a,y,h,hy=>by
   have h1:chainE E ((c::r)++[a]):=h.2;rcases x2i.1 hy with rfl|hy
   ·exact .head h.1 (NF (c::r) h1 (by simp))
   ·exact NF (c::r) h1 hy
theorem Uq{E:Int->Int->Prop}:∀(l:List Int){a b:Int},chainE E (l++[a])->E a b->chainE E (l++[a]++[b])
 |[],a,b,_,hb=>⟨hb,trivial⟩
 |[c],a,b,h,hb=>⟨h.1,hb,trivial⟩
 |c::d::r,a,b,h,hb=>⟨h.1,Uq (d::r) h.2 hb⟩
theorem Ky{E:Int->Int->Prop}:∀(l:List Int){a:Int},chainE E (l++[a])->chainE E l
 |[],_,_=>trivial
 |[_],_,_=>trivial
 |c::d::r,_,h=>⟨h.1,Ky (d::r) h.2⟩
structure DfsI(n:Nat)(E:Int->Int->Prop)(out stack:List Int):Prop where
 nd:(out++stack).Nodup
 rng:∀x∈out++stack,0<=x/\x<n
 path:chainE E stack
 cl:∀u∈out,∀v,E u v->v∈out\/v∈stack
 J:∀u∈out,∀x,Rch E u x->x∉out->∃s∈stack,Rch E u s/\Rch E s u/\Rch E s x
 K:∀(i:Nat)(r:Int),out[i]?=some r->∀u,Rch E u r->Rch E r u\/∃u',Rch E u u'/\Rch E u' u/\(u'∉out\/∃j,i<j/\out[j]?=some u')
theorem DfsI.start(n:Nat)(E:Int->Int->Prop):DfsI n E [] []:=⟨by simp,by simp,trivial,by simp,by simp,by simp⟩
theorem DfsI.push{n:Nat}{E:Int->Int->Prop}{out stack:List Int}(h:DfsI n E out stack){b:Int}(hb:0<=b/\b<n)(hn:b∉out++stack)(hp:chainE E (stack++[b])):DfsI n E out (stack++[b]):=by
 refine⟨?_,fun x hx=>?_,hp,fun u hu v hv=>?_,fun u hu x hx hxo=>?_,h.K⟩
 ·rw[<-x3s,x4l];refine⟨h.nd,by simp,fun x hx y hy=>?_⟩;rw[x2a.1 hy];exact fun e=>hn (e▸hx)
 ·rw[<-x3s]at hx;rcases x3x.1 hx with hx|hx
  ·exact h.rng x hx
  ·rw[x2a.1 hx];exact hb
 ·rcases h.cl u hu v hv with h1|h1
  ·exact .inl h1
  ·exact .inr (x3x.2 (.inl h1))
 ·obtain⟨s,h1,h2⟩:=h.J u hu x hx hxo;exact⟨s,x3x.2 (.inl h1),h2⟩
theorem DfsI.pop{n:Nat}{E:Int->Int->Prop}{out st:List Int}{a:Int}(h:DfsI n E out (st++[a]))(ha:∀v,E a v->v∈out\/v∈st++[a]):DfsI n E (out++[a]) st:=by
 have hnd:=h.nd;rw[x4l]at hnd;obtain⟨hn1,hn2,hn3⟩:=hnd;rw[x4l]at hn2;obtain⟨hn4,_,hn5⟩:=hn2;have hao:a∉out:=fun hm=>hn3 a hm a (by simp) rfl;have hast:a∉st:=fun hm=>hn5 a hm a (by simp) rfl;have hcl:∀u∈out++[a],∀v,E u v->v∈out++[a]\/v∈st:=fun u hu v hv=>by
  have:v∈out\/v∈st++[a]:=by
   rcases x3x.1 hu with hu|hu
   ·exact h.cl u hu v hv
   ·rw[x2a.1 hu]at hv;exact ha v hv
  rcases this with h1|h1
  ·exact .inl (x3x.2 (.inl h1))
  ·rcases x3x.1 h1 with h1|h1
   ·exact .inr h1
   ·exact .inl (x3x.2 (.inr h1))
 have hfst:∀u∈out++[a],∀x,Rch E u x->x∉out++[a]->∃y∈st,Rch E u y/\Rch E y x:=fun u hu x hx hxo=>by
  obtain⟨z,y,h1,h2,h3,h4,h5⟩:=CY hx hu hxo;rcases hcl z h1 y h2 with h6|h6
  ·exact absurd h6 h3
  ·exact⟨y,h6,h4,h5⟩
 have hya:∀y∈st,Rch E y a:=fun y hy=>NF st h.path (x3x.2 (.inl hy));refine⟨?_,fun x hx=>?_,Ky st h.path,hcl,fun u hu x hx hxo=>?_,fun i r hi u hu=>?_⟩
 ·rw[x3s,x4l];refine⟨hn1,?_,fun x hx y hy=>hn3 x hx y (by simp at hy⊢;exact hy.symm)⟩;rw[x4l];refine⟨by simp,hn4,fun x hx y hy e=>?_⟩;rw[x2a.1 hx]at e;exact hast (e▸hy)
 ·refine h.rng x ?_;simp only[x3x,x2a]at hx⊢;rcases hx with(h1|h1)|h1
  ·exact .inl h1
  ·exact .inr (.inr h1)
  ·exact .inr (.inl h1)
 ·obtain⟨y,h1,h2,h3⟩:=hfst u hu x hx hxo;rcases x3x.1 hu with hu|hu
  ·have hyo:y∉out:=fun hm=>hn3 y hm y (x3x.2 (.inl h1)) rfl;obtain⟨s,h4,h5,h6,h7⟩:=h.J u hu y h2 hyo;rcases x3x.1 h4 with h4|h4
   ·exact⟨s,h4,h5,h6,h7.trans h3⟩
   ·rw[x2a.1 h4]at h5 h6;exact⟨y,h1,h2,(hya y h1).trans h6,h3⟩
  ·rw[x2a.1 hu]at h2⊢;exact⟨y,h1,h2,hya y h1,h3⟩
 ·rcases x3v i out.length with hil|hil
  ·rw [x4p hil]at hi;rcases h.K i r hi u hu with h1|⟨u',h1,h2,h3⟩
   ·exact .inl h1
   ·refine .inr ⟨u',h1,h2,?_⟩;rcases h3 with h3|⟨j,h3,h4⟩
    ·by_cases hua:u'=a
     ·exact .inr ⟨out.length,hil,by rw[hua];simp⟩
     ·exact .inl fun hm=>by
       rcases x3x.1 hm with hm|hm
       ·exact h3 hm
       ·exact hua (x2a.1 hm)
    ·exact .inr ⟨j,h3,by rw[x4p (x2o.1 h4).1];exact h4⟩
  ·have hr:r=a:=by
    have h1:=(x2o.1 hi).1;simp at h1;rw[x4u hil,show i-out.length=0 by omega]at hi;simpa using hi.symm
   subst hr;by_cases hau:Rch E r u
   ·exact .inl hau
   ·right;by_cases huo:u∈out
    ·obtain⟨s,h4,h5,h6,h7⟩:=h.J u huo r hu hao;rcases x3x.1 h4 with h4|h4
     ·refine⟨s,h5,h6,.inl fun hm=>?_⟩;rcases x3x.1 hm with hm|hm
      ·exact hn3 s hm s (x3x.2 (.inl h4)) rfl
      ·rw[x2a.1 hm]at h4;exact hast h4
     ·rw[x2a.1 h4]at h6;exact absurd h6 hau
    ·refine⟨u,.refl,.refl,.inl fun hm=>?_⟩;rcases x3x.1 hm with hm|hm
     ·exact huo hm
     ·rw[x2a.1 hm]at hau;exact hau .refl
structure EndsP(n:Nat)(E:Int->Int->Prop)(es:List Int):Prop where
 nd:es.Nodup
 mem:∀x:Int,x∈es↔0<=x/\x<n
 K:∀(i:Nat)(r:Int),es[i]?=some r->∀u:Int,0<=u/\u<n->Rch E u r->Rch E r u\/∃u',Rch E u u'/\Rch E u' u/\∃j,i<j/\es[j]?=some u'
theorem DfsI.fin{n:Nat}{E:Int->Int->Prop}(hE:∀x y,E x y->0<=y/\y<n){out:List Int}(h:DfsI n E out [])(hall:∀x:Int,0<=x/\x<n->x∈out):EndsP n E out:=by
 refine⟨by simpa using h.nd,fun x=>⟨fun hx=>h.rng x (by simpa using hx),hall x⟩,fun i r hi u hur hu=>?_⟩;rcases h.K i r hi u hu with h1|⟨u',h1,h2,h3⟩
 ·exact .inl h1
 ·refine .inr ⟨u',h1,h2,?_⟩;rcases h3 with h3|h3
  ·exfalso;apply h3;apply hall;cases h1 with
   |refl=>exact hur
   |tail _ hr=>exact hE _ _ hr
  ·exact h3
def sccP(E:Int->Int->Prop)(x y:Int):Prop:=Rch E x y/\Rch E y x
theorem sccP.refl{E:Int->Int->Prop}(x:Int):sccP E x x:=⟨.refl,.refl⟩
theorem sccP.symm{E:Int->Int->Prop}{x:Int}(h:sccP E x y):sccP E y x:=⟨h.2,h.1⟩
theorem sccP.trans{E:Int->Int->Prop}{x y z:Int}(h:sccP E x y)(h':sccP E y z):sccP E x z:=⟨h.1.trans h'.1,h'.2.trans h.2⟩
def SeenP(E:Int->Int->Prop)(es:List Int)(i:Nat)(x:Int):Prop:=∃(j:Nat) (y:Int),i<=j/\es[j]?=some y/\sccP E x y
theorem Cp{n:Nat}{E:Int->Int->Prop}(hE:∀x y,E x y->(0<=x/\x<n)/\0<=y/\y<n){es:List Int}(h:EndsP n E es){i:Nat}{r:Int}(hi:es[i]?=some r)(hr:¬SeenP E es (i+1) r)(x:Int):
  Rch (fun a b=>E b a/\¬SeenP E es (i+1) b) r x↔sccP E r x:=by
 have hrr:=(h.mem r).1 (x3k hi);constructor
 ·intro hx;have key:(0<=x/\x<n)/\¬SeenP E es (i+1) x/\Rch E x r:=hx.closed (S:=fun x:Int=>(0<=x/\x<n)/\¬SeenP E es (i+1) x/\Rch E x r) (fun a b ⟨h1,h2,h3⟩ ⟨h4,h5⟩=>⟨(hE _ _ h4).1,h5,.head h4 h3⟩) ⟨hrr,hr,.refl⟩;refine⟨?_,key.2.2⟩;rcases h.K i r hi x key.1 key.2.2 with h1|⟨u',h1,h2,j,h3,h4⟩
  ·exact h1
  ·exact absurd ⟨j,u',h3,h4,h1,h2⟩ key.2.1
 ·rintro⟨h1,h2⟩;have hns:∀y,sccP E r y->¬SeenP E es (i+1) y:=fun y hy ⟨j,z,h3,h4,h5⟩=>hr ⟨j,z,h3,h4,hy.trans h5⟩;have key:∀{a b:Int},Rch E a b->Rch E r a->Rch E b r->Rch (fun a b=>E b a/\¬SeenP E es (i+1) b) b a:=fun {a b} hab=>by
   induction hab with
   |refl=>intro _ _;exact .refl
   | @tail b c hab hbc ih=>
     intro h3 h4;have h5:Rch E b r:=.head hbc h4;exact .head ⟨hbc,hns b ⟨h3.trans hab,h5⟩⟩ (ih h3 h5)
  exact key h2 h1 .refl
theorem E9{E:Int->Int->Prop}{es:List Int}{i:Nat}{r:Int}(hi:es[i]?=some r)(hr:SeenP E es (i+1) r)(x:Int):SeenP E es i x↔SeenP E es (i+1) x:=by
 constructor
 ·rintro⟨j,y,h1,h2,h3⟩;rcases Nat.eq_or_lt_of_le h1 with h4|h4
  ·subst h4;rw[hi]at h2;cases h2;obtain⟨k,z,h5,h6,h7⟩:=hr;exact⟨k,z,h5,h6,h3.trans h7⟩
  ·exact⟨j,y,h4,h2,h3⟩
 ·rintro⟨j,y,h1,h2,h3⟩;exact⟨j,y,by omega,h2,h3⟩
theorem M9{E:Int->Int->Prop}{es:List Int}{i:Nat}{r:Int}(hi:es[i]?=some r)(x:Int):SeenP E es i x↔SeenP E es (i+1) x\/sccP E r x:=by
 constructor
 ·rintro⟨j,y,h1,h2,h3⟩;rcases Nat.eq_or_lt_of_le h1 with h4|h4
  ·subst h4;rw[hi]at h2;cases h2;exact .inr h3.symm
  ·exact .inl ⟨j,y,h4,h2,h3⟩
 ·rintro(⟨j,y,h1,h2,h3⟩|h)
  ·exact⟨j,y,by omega,h2,h3⟩
  ·exact⟨i,r,x3g _,hi,h.symm⟩
theorem ON{n:Nat}{E:Int->Int->Prop}{es:List Int}(h:EndsP n E es){x:Int}(hx:0<=x/\x<n):SeenP E es 0 x:=by
 obtain⟨j,hj⟩:=x5s.1 ((h.mem x).2 hx);exact⟨j,x,x3z _,hj,.refl x⟩
end Go.Ab
