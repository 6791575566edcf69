/- The reference's expressions: how deep, which may be. -/
import Derived.Test.YtonbdgcjnecapaaGreatRchR14
set_option linter.all false
set_option maxRecDepth 100000
set_option maxHeartbeats 16000000
open List (Nodup)
namespace Go.Ab
open Go.Proofs.Tryz
open Go.Proofs
variable {e:Bool}{f:Pr}{k:Nat}{p:Pg}{y:Int}
def x0z:List Nat->Nat
 |[]=>0
 |a::r=>max a (x0z r)
def Ah:Nat->X->Nat
 |0,_=>1
 |m+1,x=>1+x0z (x.kids.map (Ah m))
def q6v{l:List Nat}{m:Nat}(h:∀a∈l,a<=m):x0z l<=m:=by
 induction l with
 |nil=>exact x7p _
 | cons a r j=>
   have:=j fun b i=>h b (x7j _ i);have:=h a x7v;rw[x0z];omega
def mayXR(x:X):Bool:=decide (Ah 20 x<=20)&&OX (wX x+1) x
theorem Xq:∀(n:Nat)(x:X),WY n x=true->Ah n x<=n/\∀k,OX k x=true
 |0,x,h=>by rw[WY]at h;cases h
 | n+1,x,h=>by
   rw [WY]at h;simp only[x7i,x8l]at h;obtain⟨l,j⟩:=h;have i:(∀y∈x.kids,WY n y=true)/\Ni x=true:=by
    split at j
    .rename_i o;simp only[x7i,x8l]at j;have m:x.kids=[]:=by
      rw[o]at l;have:Wn 1=0:=by decide
      rw[this]at l;exact List.length_eq_zero_iff.1 (by omega)
     refine⟨by rw[m];simp,?_⟩;unfold Ni;rw[l,o,j.2];simp[j.1]
    split at j
    .rename_i o;simp only[x7i,x8l]at j;have m:x.kids=[]:=by
      rw[o]at l;have:Wn 2=0:=by decide
      rw[this]at l;exact List.length_eq_zero_iff.1 (by omega)
     have q:(x.name==[])=false:=by
      cases v:x.name with
      | nil=>
        have:=j.2;rw[v]at this;unfold isName at this;rw[dif_neg (by simp)]at this;cases this
      |cons a r=>rfl
     refine⟨by rw[m];simp,?_⟩;unfold Ni;rw[l,o,j.2,q,j.1];simp
    .rename_i s t;simp only[x7i,x8l,x8a]at j;refine⟨j.2,?_⟩;unfold Ni;rw[l,j.1.1,j.1.2];simp[s,t]
   refine⟨?_,fun k=>?_⟩
   .rw [Ah];have:x0z (x.kids.map (Ah n))<=n:=q6v fun a ha=>by
     obtain⟨y,u,rfl⟩:=x7d.1 ha;exact(Xq n y (i.1 y u)).1
    omega
   .cases k with
    |zero=>rfl
    | succ k=>
      rw[OX,i.2,Bool.true_and,x8a];exact fun y u=>(Xq n y (i.1 y u)).2 k
def q3k{x:X}(h:CX x=true):mayXR x=true:=by
 obtain⟨i,j⟩:=Xq 20 x h;unfold mayXR;rw[z0y i,j];rfl
def argR(a:Arg):Bool:=bif a.ref then isName a.name&&noneB a.x else(a.name==[])&&mayXR a.x
def q5n{a:Arg}(h:Y8 a=true):argR a=true:=by
 unfold Y8 HO PP at h;unfold argR;cases i:a.ref with
 | true=>
   rw[i]at h;simpa using h
 | false=>
   rw[i]at h;simp only[x7o,Bool.not_false,x7c,x7i]at h;rw[h.1,q3k h.2];rfl
def oneOk(s:S):Bool:=ZM s&&namesB s.G
def hasXB(s:S):Bool:=decide (s.kind=1)||decide (s.kind=3)||decide (s.kind=5)||decide (s.kind=6)||(decide (s.kind=9)&&s.has)
structure OneF(s:S):Prop where
 G:namesB s.G=true
 lo:1<=s.kind
 hi:s.kind<=10
 x:hasXB s=true->mayXR s.x=true
 nox:hasXB s=false->noneB s.x=true
 has:s.has=true->s.kind=9
 name:s.kind=1\/s.kind=2\/s.kind=10->isName s.name=true
 noname:¬(s.kind=1\/s.kind=2\/s.kind=10)->(s.name==[])=true\/(s.kind=4/\isName s.name=true)
 D:s.kind=4->isName s.D=true
 noproc:s.kind≠4->(s.D==[])=true
 args:s.args.all argR=true
 noargs:s.kind≠4->s.args.length=0
 L:s.L.length=0\/s.kind=5\/s.kind=6
 M:s.M.length=0\/s.kind=5
def SD{s:Str}(h:isName s=true):(s==[])=false:=by
 cases s with
 |nil=>unfold isName at h;rw[dif_neg (by simp)]at h;cases h
 |cons a r=>rfl
def Yi{s:S}(h:oneOk s=true):OneF s:=by
 unfold oneOk at h;rw[x7i]at h;obtain⟨h,d⟩:=h;have q:s.args.all Y8=true->s.args.all argR=true:=fun h=>by
  rw[x8a]at h⊢;exact fun a ha=>q5n (h a ha)
 have key:∀(k:Int)(f:Flds),s.kind=k->Zi s.kind s.has (s.name==[])=some f->f.has=false/\(f.L=false->s.L.length=0)/\(f.M=false->s.M.length=0)/\(s.kind≠4->s.args.length=0)/\HO s.name f.name=true/\HO s.D f.D=true/\PP s.x f.x=true/\s.args.all argR=true:=fun k f i r=>by
  rw[SQ r]at h;simp only[x7i,x9r,z1l,z3t,Bool.not_eq_false',z0k,x8l]at h;obtain⟨⟨⟨⟨⟨⟨⟨g,m⟩,n⟩,u⟩,l⟩,v⟩,o⟩,B⟩:=h;refine⟨g,fun j=>?_,fun j=>?_,fun j=>?_,l,v,o,q B⟩
  .rcases m with m|m
   .rw [j]at m;cases m
   .omega
  .rcases n with n|n
   .rw [j]at n;cases n
   .omega
  .rcases u with u|u
   .exact absurd u j
   .omega
 have t:s.kind=1\/s.kind=2\/s.kind=3\/s.kind=4\/s.kind=5\/s.kind=6\/s.kind=7\/s.kind=8\/s.kind=9\/s.kind=10:=by
  unfold ZM at h;split at h
  .cases h
  .rename_i f r;unfold Zi at r
   (repeat' split at r)<;>first|(cases r;done)|omega
 have fin:∀(k:Int)(f:Flds),s.kind=k->Zi s.kind s.has (s.name==[])=some f->(1<=k/\k<=10)->f.x=hasXB s->(s.has=true->f.has=true\/k=9)->((k=1\/k=2\/k=10)->f.name=true)->(¬(k=1\/k=2\/k=10)->f.name=false\/(k=4/\f.name = !(s.name==[])))->f.D=decide (k=4)->(f.L=true->k=5\/k=6)->(f.M=true->k=5)->OneF s:=fun k f i r K c E F z b G C=>by
  obtain⟨g,m,n,u,l,v,o,B⟩:=key k f i r;unfold PP at o;refine⟨d,by omega,by omega,fun j=>?_,fun j=>?_,fun j=>?_,fun j=>?_,fun j=>?_,fun j=>?_,fun j=>?_,B,u,?_,?_⟩
  .rw [c,j]at o;exact q3k o
  .rw [c,j]at o;exact o
  .rcases E j with w|w
   .rw [g]at w;cases w
   .omega
  .rw [F (by omega)]at l;exact l
  .rcases z (by omega)with w|⟨w,A⟩
   .rw [w]at l;exact .inl l
   .cases H:s.name==[]with
    |true=>exact .inl rfl
    | false=>
      rw[A,H]at l;exact .inr ⟨by omega,l⟩
  .rw [b,z0y (by omega)]at v;exact v
  .rw [b,x9m (by omega)]at v;exact v
  .cases J:f.L with
   |true=>exact .inr (by have:=G J;omega)
   |false=>exact .inl (m J)
  .cases I:f.M with
   |true=>exact .inr (by have:=C I;omega)
   |false=>exact .inl (n I)
 rcases t with i|i|i|i|i|i|i|i|i|i
 .exact fin 1 ⟨true,false,true,s.has,false,false⟩ i (by rw[i];rfl) (by omega) (by unfold hasXB;rw[i];rfl) (fun h=>.inl h) (fun _=>rfl) (fun h=>absurd (by omega) h) rfl (fun h=>by cases h) (fun h=>by cases h)
 .exact fin 2 ⟨true,false,false,s.has,false,false⟩ i (by rw[i];rfl) (by omega) (by unfold hasXB;rw[i];rfl) (fun h=>.inl h) (fun _=>rfl) (fun h=>absurd (by omega) h) rfl (fun h=>by cases h) (fun h=>by cases h)
 .exact fin 3 ⟨false,false,true,s.has,false,false⟩ i (by rw[i];rfl) (by omega) (by unfold hasXB;rw[i];rfl) (fun h=>.inl h) (fun h=>by omega) (fun _=>.inl rfl) rfl (fun h=>by cases h) (fun h=>by cases h)
 .exact fin 4 ⟨!(s.name==[]),true,false,s.has,false,false⟩ i (by rw[i];rfl) (by omega) (by unfold hasXB;rw[i];rfl) (fun h=>.inl h) (fun h=>by omega) (fun _=>.inr ⟨rfl,rfl⟩) rfl (fun h=>by cases h) (fun h=>by cases h)
 .exact fin 5 ⟨false,false,true,s.has,true,true⟩ i (by rw[i];rfl) (by omega) (by unfold hasXB;rw[i];rfl) (fun h=>.inl h) (fun h=>by omega) (fun _=>.inl rfl) rfl (fun _=>.inl rfl) (fun _=>rfl)
 .exact fin 6 ⟨false,false,true,s.has,true,false⟩ i (by rw[i];rfl) (by omega) (by unfold hasXB;rw[i];rfl) (fun h=>.inl h) (fun h=>by omega) (fun _=>.inl rfl) rfl (fun _=>.inr rfl) (fun h=>by cases h)
 .exact fin 7 ⟨false,false,false,s.has,false,false⟩ i (by rw[i];rfl) (by omega) (by unfold hasXB;rw[i];rfl) (fun h=>.inl h) (fun h=>by omega) (fun _=>.inl rfl) rfl (fun h=>by cases h) (fun h=>by cases h)
 .exact fin 8 ⟨false,false,false,s.has,false,false⟩ i (by rw[i];rfl) (by omega) (by unfold hasXB;rw[i];rfl) (fun h=>.inl h) (fun h=>by omega) (fun _=>.inl rfl) rfl (fun h=>by cases h) (fun h=>by cases h)
 .exact fin 9 ⟨false,false,s.has,false,false,false⟩ i (by rw[i];rfl) (by omega) (by unfold hasXB;rw[i];cases s.has<;>rfl) (fun _=>.inr rfl) (fun h=>by omega) (fun _=>.inl rfl) rfl (fun h=>by cases h) (fun h=>by cases h)
 .exact fin 10 ⟨true,false,false,s.has,false,false⟩ i (by rw[i];rfl) (by omega) (by unfold hasXB;rw[i];rfl) (fun h=>.inl h) (fun _=>rfl) (fun h=>absurd (by omega) h) rfl (fun h=>by cases h) (fun h=>by cases h)
structure RI where
 s:S
 deep:Int
 R:Int
 M:Bool
def RI.cells(i:RI):List AV:=i.s.cells++[.int .i64 i.deep,.int .i64 i.R,.bool i.M]
def x1n(l:List RI):AV:=.sl (l.map fun i=>.agg i.cells)
def flF:Nat->Int->Bool->List S->List RI->List RI
 |0,i,e,l,out=>l.foldl (fun o s=>if o.length<=200 then o++[⟨s,13,i,e⟩]else o) out
 |m+1,i,e,l,out=>l.foldl (fun o s=>if o.length<=200 then flF m s.id true s.M (flF m s.id false s.L (o++[⟨s,13-((m+1:Nat):Int),i,e⟩]))else o) out
theorem Ub:∀(m:Nat)(i:Int)(e:Bool)(l:List S)(out:List RI),out.length<=(flF m i e l out).length/\(flF m i e l out).length<=max out.length 201
 |0,i,e,[],out=>by show out.length<=out.length/\_;exact⟨x7s _,Nat.le_max_left _ _⟩
 |m+1,i,e,[],out=>by show out.length<=out.length/\_;exact⟨x7s _,Nat.le_max_left _ _⟩
 | 0,i,e,s::r,out=>by
   have h:=Ub 0 i e r (if out.length<=200 then out++[⟨s,13,i,e⟩]else out);show out.length<=(flF 0 i e r (if out.length<=200 then out++[⟨s,13,i,e⟩]else out)).length/\(flF 0 i e r (if out.length<=200 then out++[⟨s,13,i,e⟩]else out)).length<=_;split at h
   .rw [if_pos (by assumption)];simp only[x7u,x8k]at h;omega
   .rw [if_neg (by assumption)];exact h
 | m+1,i,e,s::r,out=>by
   have h:=Ub (m+1) i e r (if out.length<=200 then flF m s.id true s.M (flF m s.id false s.L (out++[⟨s,13-((m+1:Nat):Int),i,e⟩]))else out);show out.length<=(flF (m+1) i e r (if out.length<=200 then flF m s.id true s.M (flF m s.id false s.L (out++[⟨s,13-((m+1:Nat):Int),i,e⟩]))else out)).length/\(flF (m+1) i e r (if out.length<=200 then flF m s.id true s.M (flF m s.id false s.L (out++[⟨s,13-((m+1:Nat):Int),i,e⟩]))else out)).length<=_;split at h
   .rw [if_pos (by assumption)];have j:=Ub m s.id false s.L (out++[⟨s,13-((m+1:Nat):Int),i,e⟩]);have n:=Ub m s.id true s.M (flF m s.id false s.L (out++[⟨s,13-((m+1:Nat):Int),i,e⟩]));simp only[x7u,x8k]at j;omega
   .rw [if_neg (by assumption)];exact h
mutual
def fuS(d i:Int)(e:Bool):S->List RI
 |.mk id kind G name D x has args L M=>⟨.mk id kind G name D x has args L M,d,i,e⟩::(fuL (d+1) id false L++fuL (d+1) id true M)
def fuL(d i:Int)(e:Bool):List S->List RI
 |[]=>[]
 |t::r=>fuS d i e t++fuL d i e r
end
def q9d(d i:Int)(e:Bool)(t:S):fuS d i e t=⟨t,d,i,e⟩::(fuL (d+1) t.id false t.L++fuL (d+1) t.id true t.M):=by
 cases t;rw[fuS];rfl
mutual
theorem x2g(d i:Int)(e:Bool):∀t:S,(fuS d i e t).map RI.s=flS t
 | .mk id kind G name D x has args L M=>by
   rw[fuS,flS,x8v,x7n,R4 _ _ _ L,R4 _ _ _ M]
theorem R4(d i:Int)(e:Bool):∀l:List S,(fuL d i e l).map RI.s=flL l
 |[]=>by rw[fuL,flL];rfl
 |t::r=>by rw[fuL,flL,x7n,x2g _ _ _ t,R4 _ _ _ r]
end
def Fb(d i:Int)(e:Bool)(l:List S):(fuL d i e l).length=cntL l:=by
 rw[<-Un,<-R4 d i e l,x7z]
def BM{nest seen m:Int}{s:S}(h:Df nest seen s=some m):oneOk s=true/\s.id=seen+1/\∃i,UR (nest+1) (seen+1) s.L=some i/\UR (nest+1) i s.M=some m:=by
 rw[Rl]at h;split at h
 .cases h
 split at h
 .cases h
 rename_i o;cases l:namesB s.G<;>rw[l]at h
 .cases h
 cases j:ZM s<;>rw[j]at h
 .cases h
 simp only[x7c]at h;split at h
 .rename_i i n;exact⟨by unfold oneOk;rw[l,j];rfl,by omega,i,n,h⟩
 .cases h
def GF{nest seen m:Int}{s:S}{r:List S}(h:UR nest seen (s::r)=some m):nest<=12/\∃i,Df nest seen s=some i/\UR nest i r=some m:=by
 rw[UR]at h;split at h
 .cases h
 rename_i l;split at h
 .rename_i i j;exact⟨by omega,i,j,h⟩
 .cases h
mutual
theorem q9b(d i:Int)(e:Bool):∀(t:S){n m:Int},d<=12->Df d n t=some m->∀x∈fuS d i e t,x.deep<=12/\oneOk x.s=true
 | .mk id kind G name D x has args L M,n,m,hd,h,y,hy=>by
   obtain⟨h1,_,m1,h2,h3⟩:=BM h;rw[fuS]at hy;rcases x7f.1 hy with rfl|hy
   ·exact⟨hd,h1⟩
   ·rcases x7b.1 hy with hy|hy
    ·exact T6 _ _ _ L h2 y hy
    ·exact T6 _ _ _ M h3 y hy
theorem T6(d i:Int)(e:Bool):∀(l:List S){n m:Int},UR d n l=some m->∀x∈fuL d i e l,x.deep<=12/\oneOk x.s=true
 |[],n,m,h,y,hy=>by rw[fuL]at hy;cases hy
 | t::r,n,m,h,y,hy=>by
   obtain⟨h1,m1,h2,h3⟩:=GF h;rw[fuL]at hy;rcases x7b.1 hy with hy|hy
   ·exact q9b _ _ _ t h1 h2 y hy
   ·exact T6 _ _ _ r h3 y hy
end
def q9g:∀(k:Nat)(l:List S)(i:Int)(e:Bool)(out:List RI)(seen m:Int),UR (13-(k:Int)) seen l=some m->out.length+cntL l<=200->flF k i e l out=out++fuL (13-(k:Int)) i e l:=by
 intro k;induction k with
 | zero=>
   intro l i e out seen m h j;cases l with
   |nil=>rw[fuL,x9q];rfl
   | cons s r=>
     have:=(GF h).1;simp at this
 | succ k u=>
   intro l;induction l with
   |nil=>intro i e out seen m h j;rw[fuL,x9q];rfl
   | cons s r n=>
     intro i e out seen m h j;obtain⟨x,z,v,w⟩:=GF h;obtain⟨_,_,a,q,t⟩:=BM v;have o:(13:Int)-((k+1:Nat):Int)+1=13-(k:Int):=by omega
     rw[o]at q t;rw[cntL,WQ]at j;show flF (k+1) i e r (if out.length<=200 then flF k s.id true s.M (flF k s.id false s.L (out++[⟨s,13-((k+1:Nat):Int),i,e⟩]))else out)=_;rw[if_pos (by omega),u s.L s.id false _ _ _ q (by simp;omega),u s.M s.id true _ _ _ t (by simp[Fb];omega),n i e _ _ _ w (by simp[Fb];omega),fuL,q9d,o];simp
def Xw(f:Pr):List RI:=flF 12 0 false f.body []
def Ji(l:List Pr)(out:List RI):List RI:=l.foldl (fun o f=>if o.length<=200 then o++Xw f else o) out
def allR(p:Pg):List RI:=Ji p.A []
def flatU(f:Pr):List RI:=fuL 1 0 false f.body
theorem Yd:∀(l:List Pr){n m:Int},XL n l=some m->∀f∈l,DJ f=true/\∃a b,UR 1 a f.body=some b
 |[],_,_,_,f,i=>by cases i
 | g::r,n,m,h,f,i=>by
   rw[XL]at h;cases j:DJ g<;>rw[j]at h
   .cases h
   simp only[x7c]at h;split at h
   .rename_i q o;rcases x7f.1 i with rfl|i
    .exact ⟨j,_,_,o⟩
    .exact Yd r h f i
   .cases h
def BD(h:KR p=true):p.B.length<=16/\p.A.length<=16/\namesB p.B=true/\∀f∈p.A,DJ f=true/\∃a b,UR 1 a f.body=some b:=by
 unfold KR at h;simp only[x7i,x8l]at h;obtain⟨⟨⟨l,n⟩,o⟩,i⟩:=h;refine⟨l,n,o,?_⟩;cases j:XL 0 p.A with
 |none=>rw[j]at i;cases i
 |some m=>exact Yd p.A j
theorem KZ:∀(l:List Pr)(f:Pr),f∈l->cntL f.body<=cntP l
 |[],f,h=>by cases h
 | g::r,f,h=>by
   rw[cntP];rcases x7f.1 h with rfl|h
   .omega
   .have:=KZ r f h;omega
def V5(h:KR p=true)(i:f∈p.A):Xw f=flatU f:=by
 obtain⟨_,_,_,j⟩:=BD h;obtain⟨_,a,b,l⟩:=j f i;have m:=(WO h).2.2;have n:=KZ _ f i;have:=q9g 12 f.body 0 false [] a b l (by simp;omega);simpa[Xw,flatU]using this
theorem RP:∀(l:List Pr)(out:List RI),(∀f∈l,Xw f=flatU f)->out.length+cntP l<=200->Ji l out=out++l.flatMap flatU
 |[],out,_,_=>by show out=_;simp
 | f::r,out,h,hl=>by
   rw[cntP]at hl;show Ji r (if out.length<=200 then out++Xw f else out)=_;have e:=Fb 1 0 false f.body;rw[if_pos (by omega),h f x7v,RP r _ (fun g i=>h g (x7j _ i)) (by simp only[flatU,x7u,e];omega)];simp
def U3(h:KR p=true):allR p=p.A.flatMap flatU:=by
 have:=RP p.A [] (fun f i=>V5 h i) (by have:=(WO h).2.2;simpa using this);simpa[allR]using this
def q4d(h:KR p=true):∀x∈p.A.flatMap flatU,x.deep<=12/\oneOk x.s=true:=by
 intro x i;obtain⟨f,m,i⟩:=x8h.1 i;obtain⟨_,_,_,j⟩:=BD h;obtain⟨_,a,b,l⟩:=j f m;exact T6 1 0 false f.body l x i
theorem LO:∀(l:List Pr){n:Nat}{m:Int},XL n l=some m->(l.flatMap fun f=>flL f.body).map S.id=V6 n (cntP l)
 |[],n,m,_=>by rw[cntP];rfl
 | g::r,n,m,h=>by
   rw[XL]at h;cases s:DJ g<;>rw[s]at h
   .cases h
   simp only[x7c]at h;split at h
   .rename_i t i;have o:=KJ _ _ g.body i;have j:XL ((n+cntL g.body:Nat):Int) r=some m:=by rw[<-h,o];rfl
    have q:=LO r j;rw[x9v,x7n,Q6 1 g.body i,q,cntP,V7]
   .cases h
def q2n(l:List Pr):(l.flatMap flatU).map RI.s=l.flatMap fun f=>flL f.body:=by
 induction l with
 |nil=>rfl
 | cons f r h=>
   rw[x9v,x9v,x7n,h];congr 1;exact R4 _ _ _ _
def RN(l:List Pr):(l.flatMap flatU).length=cntP l:=by
 induction l with
 |nil=>rfl
 |cons f r h=>rw[x9v,x7u,h,cntP];congr 1;exact Fb _ _ _ _
def O9(h:KR p=true){x:RI}(o:(p.A.flatMap flatU)[k]?=some x):x.s.id=(k:Int)+1:=by
 unfold KR at h;simp only[x7i,x8l]at h;cases q:XL 0 p.A with
 |none=>rw[q]at h;cases h.2
 | some m=>
   have l:=LO p.A (n:=0) q;rw[<-q2n]at l;have i:(((p.A.flatMap flatU).map RI.s).map S.id)[k]?=some x.s.id:=by simp[o]
   rw[l]at i;unfold V6 at i;have j:k<cntP p.A:=by rw[<-RN];exact(x7h.1 o).1
   rw[x7k,List.getElem?_range' j]at i;simp at i;omega
def riH(t:Nat)(out:List RI):Heap:=[(2000,.own t 16 (out.map fun i=>.agg i.cells))]
def q6c{t:Nat}{out:List RI}{x:RI}:riH t (out++[x])=[(2000,.own t 16 ((out.map fun i=>.agg i.cells)++[.agg x.cells]))]:=by simp[riH]
def Mx(l:List RI):(l.map fun i=>AV.agg i.cells).length=l.length:=x7z _
def Oa{i:Int}{l:List S}{j:Nat}{o:List RI}(m:j<l.length)(h:o.length<=200):flF 0 i e (l.drop j) o=flF 0 i e (l.drop (j+1)) (o++[⟨l[j],13,i,e⟩]):=by
 rw[QG m];show flF 0 i e (l.drop (j+1)) (if o.length<=200 then _ else _)=_;rw[if_pos h]
def q5y{m:Nat}{i:Int}{l:List S}{j:Nat}{o:List RI}(n:j<l.length)(h:o.length<=200):flF (m+1) i e (l.drop j) o=flF (m+1) i e (l.drop (j+1)) (flF m l[j].id true l[j].M (flF m l[j].id false l[j].L (o++[RI.mk l[j] (13-((m+1:Nat):Int)) i e]))):=by
 rw[QG n];show flF (m+1) i e (l.drop (j+1)) (if o.length<=200 then _ else _)=_;rw[if_pos h]
theorem V3:∀(m:Nat){i:Int}{e:Bool}{l:List S}{o:List RI},¬o.length<=200->flF m i e l o=o
 |0,i,e,[],o,_=>rfl
 |m+1,i,e,[],o,_=>rfl
 | 0,i,e,s::r,o,h=>by
   show flF 0 i e r (if o.length<=200 then _ else o)=o;rw[if_neg h];exact V3 0 h
 | m+1,i,e,s::r,o,h=>by
   show flF (m+1) i e r (if o.length<=200 then _ else o)=o;rw[if_neg h];exact V3 (m+1) h
def Aa(m:Nat){i:Int}{o:List RI}:flF m i e [] o=o:=by cases m<;>rfl
def Zu:∀(m:Nat)(_:m<=12)(l:List S)(i:Int)(e:Bool)(out:List RI),
  SpecH prog 61 [.p (eSs l),.j (13-(m:Int)),.j i,.p (.bool e),.hd 2000 0 out.length] (riH 119 out)
   (fun r H=>r=.hd 2000 0 (flF m i e l out).length/\H=riH 119 (flF m i e l out)):=by
 intro m;induction m with
 | zero=>
   intro _ l i e out;have s:=S.avs_len l;refine sH JH func61 rfl call61 ?_;conv=>whnf
   skip
   refine LoopK.inv QV (fun x:Nat×List RI=>⟨[(0,.p (eSs l)),(1,.j (13-((0:Nat):Int))),(2,.j i),(3,.p (.bool e)),(4,.hd 2000 0 x.2.length),(11,.j x.1)],riH 119 x.2⟩) (fun x=>x.1<=l.length/\flF 0 i e (l.drop x.1) x.2=flF 0 i e l out) (fun x=>l.length-x.1) (0,out) (Le.of_eq rfl) ⟨x7p _,rfl⟩ ?_;rintro⟨j,o⟩ ⟨q,h⟩;simp only at q h⊢;have t:=Mx o;rcases x7m j l.length with n|n
   .conv=>whnf
    repeat' (first|((first|(refine iM fun _=>?_)|refine x7g rfl ?_|refine aD ?_|refine bP ?_|refine UK (by omega) ?_|refine wI ?_|refine z0w (by simp) rfl (by show(o.length+1)*232<=140737488355328;omega) (by show o.length+1<=9223372036854775807;omega) (fun x u=>by rcases x7y.1 u with rfl;exact⟨rfl,rfl⟩) ?_);conv=>whnf)|(apply bD<;>intro _<;>first|omega|conv=>whnf))
    .exact ⟨(j+1,o++[⟨l[j],13,i,e⟩]),⟨n,by rw[<-h,Oa n (by omega)]⟩,by simp only;omega,Le.of_eq (by simp only[q6c,x7u,x8k];rfl)⟩
    .rw [V3 0 (by omega)]at h;exact⟨_,.refl _,by rw[<-h];exact⟨rfl,rfl⟩⟩
   .conv=>whnf
    repeat' (first|(refine iM fun _=>?_;conv=>whnf)|(apply bD<;>intro _<;>first|omega|conv=>whnf))
    rw[x7e n,Aa]at h;exact⟨_,.refl _,by rw[<-h];exact⟨rfl,rfl⟩⟩
 | succ m v=>
   intro w l i e out;have s:=S.avs_len l;refine sH JH func61 rfl call61 ?_;conv=>whnf
   skip
   refine LoopK.inv QV (fun x:Nat×List RI=>⟨[(0,.p (eSs l)),(1,.j (13-((m+1:Nat):Int))),(2,.j i),(3,.p (.bool e)),(4,.hd 2000 0 x.2.length),(11,.j x.1)],riH 119 x.2⟩) (fun x=>x.1<=l.length/\flF (m+1) i e (l.drop x.1) x.2=flF (m+1) i e l out) (fun x=>l.length-x.1) (0,out) (Le.of_eq rfl) ⟨x7p _,rfl⟩ ?_;rintro⟨j,o⟩ ⟨q,h⟩;simp only at q h⊢;have t:=Mx o;rcases x7m j l.length with n|n
   .conv=>whnf
    repeat' (first|((first|(refine iM fun _=>?_)|refine dA ?_|refine x7g rfl ?_|refine aD ?_|refine bP ?_|refine UK (by omega) ?_|refine wI ?_|refine z0w (by simp) rfl (by show(o.length+1)*232<=140737488355328;omega) (by show o.length+1<=9223372036854775807;omega) (fun x u=>by rcases x7y.1 u with rfl;exact⟨rfl,rfl⟩) ?_);conv=>whnf)|(apply bD<;>intro _<;>first|omega|conv=>whnf))
    .refine cJ [(2000,2000)] 0 (v (by omega) l[j].L l[j].id false (o++[RI.mk l[j] (13-((m+1:Nat):Int)) i e])) ?_ (ha:=(x8y (x8z _) (x8y (z1u (Sub.int (by omega))) (x8y (x8z _) (x8y (z1u (Sub.ff rfl)) (x8y (z2r (by rw[x7u];rfl)) z0v)))))) (hH:=by exact x8u (j:=2000) rfl rfl (CSub.of_eq (by rw[x7n];first|done|rfl)) z0z);rintro l' H' ⟨rfl,rfl⟩;conv=>whnf
     repeat' ((first|refine dA ?_|refine UK (by omega) ?_|refine wI ?_);conv=>whnf)
     refine cJ [(2000,2000)] 0 (v (by omega) l[j].M l[j].id true (flF m l[j].id false l[j].L (o++[RI.mk l[j] (13-((m+1:Nat):Int)) i e]))) ?_ (ha:=(x8y (x8z _) (x8y (z1u (Sub.int (by omega))) (x8y (x8z _) (x8y (z1u (Sub.tt rfl)) (x8y (x8z _) z0v)))))) (hH:=by exact x8u (j:=2000) rfl rfl (CSub.refl _) z0z);rintro l' H' ⟨rfl,rfl⟩;conv=>whnf
     repeat' (refine wI ?_;conv=>whnf)
     exact⟨(j+1,flF m l[j].id true l[j].M (flF m l[j].id false l[j].L (o++[RI.mk l[j] (13-((m+1:Nat):Int)) i e]))),⟨n,by rw[<-h,q5y n (by omega)]⟩,by simp only;omega,Le.of_eq rfl⟩
    .rw [V3 (m+1) (by omega)]at h;exact⟨_,.refl _,by rw[<-h];exact⟨rfl,rfl⟩⟩
   .conv=>whnf
    repeat' (first|(refine iM fun _=>?_;conv=>whnf)|(apply bD<;>intro _<;>first|omega|conv=>whnf))
    rw[x7e n,Aa]at h;exact⟨_,.refl _,by rw[<-h];exact⟨rfl,rfl⟩⟩
def Zz(f:Pr):SpecP prog 27 [.agg f.cells] (fun r=>r=x1n (Xw f)):=by
 refine sB NX func27 rfl call27 ?_;conv=>whnf
 skip
 refine CallK.nil 5 119 16 rfl (.cons rfl (.cons rfl (.cons rfl (.cons rfl (.row .nil))))) ?_;refine cJ [(2000,5)] 0 (Zu 12 (by omega) f.body 0 false []) ?_;rintro l' H' ⟨rfl,rfl⟩;conv=>whnf
 exact⟨_,.hd rfl (by simp[Xw]),rfl⟩
def Ss{l:List Pr}{j:Nat}{o:List RI}(i:j<l.length)(h:o.length<=200):Ji (l.drop j) o=Ji (l.drop (j+1)) (o++Xw l[j]):=by
 rw[QG i];show Ji (l.drop (j+1)) (if o.length<=200 then _ else _)=_;rw[if_pos h]
theorem Kk:∀{l:List Pr}{o:List RI},¬o.length<=200->Ji l o=o
 |[],o,_=>rfl
 | f::r,o,h=>by
   show Ji r (if o.length<=200 then _ else o)=o;rw[if_neg h];exact Kk h
def Ae(f:Pr):(Xw f).length<=201:=by
 have:=(Ub 12 0 false f.body []).2;simpa[Xw]using this
def Wt(p:Pg):SpecP prog 62 [.agg p.cells] (fun r=>r=x1n (allR p)):=by
 refine sB ML func62 rfl call62 ?_;conv=>whnf
 repeat' (refine iM fun _=>?_;conv=>whnf)
 have w:(p.A.map fun f=>AV.agg f.cells).length=p.A.length:=x7z _;refine LoopK.inv QV (fun x:Nat×List RI=>⟨[(3,.hd 1 0 x.2.length),(7,.p (.sl (p.A.map fun f=>.agg f.cells))),(8,.p (.int .i64 (p.A.map fun f=>AV.agg f.cells).length)),(9,.j x.1)],[(1,.own 119 16 (x.2.map fun i=>.agg i.cells))]⟩) (fun x=>x.1<=p.A.length/\x.2.length<=200/\Ji (p.A.drop x.1) x.2=allR p) (fun x=>p.A.length-x.1) (0,[])
  (Le.mk [(1,.own 119 16 [])] (by simp[Chunk.new0];rfl) (by simp) (by simp) (.cons (.nil x7v) (.r (.r (.r .nil)))) (.new x7v .nil)) ⟨x7p _,x7p _,rfl⟩ ?_
 rintro⟨j,o⟩ ⟨v,s,n⟩;simp only at v n s⊢;have z:=Mx o;rcases x7m j p.A.length with q|q
 .have t:=Ae p.A[j];have m:=fun(h:o.length<=200)=>Ss q h;have u:=Zz p.A[j];generalize b:Xw p.A[j]=L at t m u;have l:=Mx L;conv=>whnf
  repeat' (first|((first|(refine iM fun _=>?_)|refine x7g rfl ?_|refine aD ?_|(refine iA fun _=>?_)|refine wI ?_|refine cP u ?_|refine z0w (by simp) rfl (by rw[l];show(o.length+L.length)*232<=140737488355328;omega) (by rw[l];show o.length+L.length<=9223372036854775807;omega) (fun x a=>by obtain⟨y,_,rfl⟩:=x7d.1 a;exact⟨rfl,rfl⟩) ?_);conv=>whnf)|(apply bD<;>intro _<;>first|omega|conv=>whnf))
  .refine ⟨_,.hd rfl (by simp),?_⟩;rw[<-n,m s,Kk (by simp;omega),<-x7n];rfl
  .exact ⟨(j+1,o++L),⟨q,by simp;omega,by rw[<-n,m s]⟩,by simp only;omega,Le.of_eq (by simp only[x7u,x7n,x7z];rfl)⟩
 .conv=>whnf
  repeat' (apply bD<;>intro _<;>first|omega|conv=>whnf)
  rw[x7e q]at n;refine⟨_,.hd rfl (by simp),?_⟩;rw[<-n];simp[x1n,Ji]
def inS(l:List Str)(x:Str):Bool:=l.any fun y=>y==x
def Jp(l:List Str)(x:Str):SpecP prog 24 [eStrs l,.str x] (fun r=>r=.bool (inS l x)):=by
 refine sB X5 func24 rfl call24 ?_;conv=>whnf
 repeat' (refine iM fun _=>?_;conv=>whnf)
 have n:(l.map AV.str).length=l.length:=x7z _;refine LoopK.inv QV (fun j:Nat=>⟨[(0,.p (eStrs l)),(1,.p (.str x)),(7,.p (.int .i64 (l.map AV.str).length)),(8,.j j)],[]⟩) (fun j=>j<=l.length/\(l.drop j).any (fun y=>y==x)=inS l x) (fun j=>l.length-j) 0 (Le.of_eq rfl) ⟨x7p _,rfl⟩ ?_;rintro j ⟨m,i⟩;rcases x7m j l.length with h|h
 .conv=>whnf
  repeat' (first|((first|(refine iA fun _=>?_)|refine wI ?_);conv=>whnf)|(apply bD<;>intro _<;>first|omega|conv=>whnf)|(apply bB<;>intro _<;>conv=>whnf))
  .exact RetK.tt (by rw[<-i,Ll h (by assumption)])
  .exact ⟨j+1,⟨h,by rw[Kf h (by assumption)];exact i⟩,by omega,Le.of_eq rfl⟩
 .conv=>whnf
  repeat' (apply bD<;>intro _<;>first|omega|conv=>whnf)
  exact RetK.ff (by rw[<-i,X8 h])
theorem Ya{α β:Type}{f:α->β}:∀{l:List α},(l.map f).Nodup->∀a∈l,∀b∈l,f a=f b->a=b
 |[],_,a,ha,_,_,_=>by cases ha
 | c::r,h,a,ha,b,hb,e=>by
   rw[x8v,x8i]at h;rcases x7f.1 ha with j|j
   .rcases x7f.1 hb with i|i
    .rw [j,i]
    .exact (h.1 (x7d.2 ⟨b,i,by rw[<-e,j]⟩)).elim
   .rcases x7f.1 hb with i|i
    .exact (h.1 (x7d.2 ⟨a,j,by rw[e,i]⟩)).elim
    .exact Ya h.2 a j b i e
theorem Ye{α:Type}[DecidableEq α]:∀{l m:List α},l.Nodup->(∀s∈l,s∈m)->l.length<=m.length
 |[],m,_,_=>x7p _
 | a::r,m,h,hs=>by
   rw[x8i]at h;have ha:=hs a x7v;have j:=Ye (m:=m.erase a) h.2 fun s i=>(List.mem_erase_of_ne (fun e=>h.1 (by rw[<-e];exact i))).2 (hs s (x7j _ i));rw[List.length_erase_of_mem ha]at j;have:=z3p ha;simp only[x8j];omega
def SG(n c:Nat):(V6 n c).Nodup:=by
 unfold V6 Nodup;rw[List.pairwise_map];exact List.Pairwise.imp (fun h e=>h (by omega)) (List.nodup_range' (s:=n+1) (n:=c) (step:=1))
def AI(i:KR p=true){j:Nat}(h:p.A[j]?=some f):(itsOf p j f).map (fun it=>it.s.id)=V6 (QP p.A j) (cntL f.body):=by
 rw[<-Ry i h,<-BI (j:Nat) 0 (-1) 0 (QP p.A j) f.body,z1s];rfl
def q3u(m:KR p=true){j:Nat}(l:p.A[j]?=some f){a b:Item}(ha:a∈itsOf p j f)(i:b∈itsOf p j f)(h:a.s.id=b.s.id):a=b:=
 Ya (f:=fun it:Item=>it.s.id) (by rw[AI m l];exact SG _ _) a ha b i h
def q9o{j:Nat}{t:S}(h:t∈flL f.body):∃it∈itsOf p j f,it.s=t:=by
 rw[<-BI (j:Nat) 0 (-1) 0 (QP p.A j) f.body]at h;obtain⟨it,i,l⟩:=x7d.1 h;exact⟨it,i,l⟩
def q0z{l:List Step}(h:l.Pairwise Xn):l.Nodup:=h.imp fun h e=>by subst e;exact HG h
def Tq{n c:Nat}{a:Int}(h:(n:Int)+1<=a)(i:a<=(n+c:Nat)):a∈V6 n c:=by
 unfold V6;refine x7d.2 ⟨a.toNat,List.mem_range'.2 ⟨a.toNat-(n+1),by omega,by omega⟩,by omega⟩
inductive Rch{α:Type}(R:α->α->Prop)(a:α):α->Prop
 |refl:Rch R a a
 |tail {b c:α} (h:Rch R a b) (hr:R b c):Rch R a c
theorem Rch.trans{α:Type}{R:α->α->Prop}{a b c:α}(h:Rch R a b)(i:Rch R b c):Rch R a c:=by
 induction i with
 |refl=>exact h
 |tail _ j l=>exact .tail l j
theorem Rch.head{α:Type}{R:α->α->Prop}{a b c:α}(i:R a b)(h:Rch R b c):Rch R a c:=Rch.trans (.tail .refl i) h
theorem Rch.mono{α:Type}{R R':α->α->Prop}(h:∀x y,R x y->R' x y){a b:α}(i:Rch R a b):Rch R' a b:=by
 induction i with
 |refl=>exact .refl
 |tail _ i j=>exact .tail j (h _ _ i)
theorem Rch.closed{α:Type}{R:α->α->Prop}{S:α->Prop}(i:∀x y,S x->R x y->S y){a b:α}(ha:S a)(h:Rch R a b):S b:=by
 induction h with
 |refl=>exact ha
 |tail _ j l=>exact i _ _ l j
structure WkM(n:Nat)(st:List Bool×List Int):Prop where
 inv:wkInv n st
 mem:∀x,x∈st.2↔(0<=x/\x<n)/\st.1.getD x.toNat false=true
theorem WkM.start(n:Nat):WkM n (List.replicate n false,[]):=⟨MU n,fun x=>by
 simp only[z2m,false_iff,not_and];intro _;rw[x7w,x8g];split<;>simp⟩
theorem WkM.see{n:Nat}{st:List Bool×List Int}(h:WkM n st){b:Int}(m:0<=b/\b<n):WkM n (KG st b)/\(∀x,x∈(KG st b).2↔x∈st.2\/x=b)/\st.2 <+: (KG st b).2:=by
 have q:=Q9 h.inv m;cases o:st.1.getD b.toNat false with
 | true=>
   have e:KG st b=st:=by unfold KG;rw[o];rfl
   rw[e];refine⟨h,fun x=>⟨.inl,fun j=>?_⟩,List.prefix_refl _⟩;rcases j with j|rfl
   .exact j
   .exact (h.mem _).2 ⟨m,o⟩
 | false=>
   have e:KG st b=(st.1.set b.toNat true,st.2++[b]):=by unfold KG;rw[o];rfl
   rw[e]at q⊢;have r:=h.inv.1;refine⟨⟨q,fun x=>?_⟩,fun x=>by simp,List.prefix_append _ _⟩;rw[x7b,x7y,h.mem];simp only[x7w,z1n];by_cases j:x=b
   .subst j;rw[if_pos rfl,if_pos (by omega)];simp[m]
   .constructor
    .rintro (⟨l,i⟩|i)
     .refine ⟨l,?_⟩;rw[if_neg (by omega)];exact i
     .exact absurd i j
    .rintro ⟨l,i⟩;rw[if_neg (by omega)]at i;exact .inl ⟨l,i⟩
theorem WkM.fold{n:Nat}:∀(l:List Int){st:List Bool×List Int},WkM n st->(∀b∈l,0<=b/\b<n)->WkM n (l.foldl KG st)/\(∀x,x∈(l.foldl KG st).2↔x∈st.2\/x∈l)/\st.2 <+: (l.foldl KG st).2
 |[],st,h,_=>⟨h,fun x=>by simp,List.prefix_refl _⟩
 | b::r,st,h,hl=>by
   obtain⟨i,j,m⟩:=h.see (hl b x7v);obtain⟨o,q,t⟩:=WkM.fold r i fun c u=>hl c (x7j _ u);refine⟨o,fun x=>?_,m.trans t⟩;rw[z0b,q,j,x7f,or_assoc]
def Dh(rows:List (List Int))(x y:Int):Prop:=y∈rows.getD x.toNat []
def DP{n:Nat}{rows:List (List Int)}(j:XG n rows){x:Int}(h:Dh rows x y):0<=y/\y<n:=by
 unfold Dh at h;rw[x7w]at h;cases i:rows[x.toNat]?with
 |none=>rw[i]at h;simp at h
 |some r=>rw[i]at h;exact j.2 r (x7t i) y h
def Gt{α:Type}{l m:List α}(h:l <+: m){i:Nat}{a:α}(ha:l[i]?=some a):m[i]?=some a:=by
 obtain⟨t,rfl⟩:=h;rw[x8c (x7h.1 ha).1];exact ha
theorem Jb{n:Nat}{rows:List (List Int)}(B:XG n rows):∀(k i:Nat){st:List Bool×List Int},WkM n st->i<=st.2.length->n+1<=k+i->(∀(m:Nat)(a:Int),m<i->st.2[m]?=some a->∀b,Dh rows a b->b∈st.2)->
  WkM n (ZW rows k i st)/\(∀x∈st.2,x∈(ZW rows k i st).2)/\(∀x∈(ZW rows k i st).2,∀b,Dh rows x b->b∈(ZW rows k i st).2)/\(∀S:Int->Prop,(∀x∈st.2,S x)->(∀x b,S x->Dh rows x b->S b)->∀x∈(ZW rows k i st).2,S x)
 | 0,i,st,h,hi,hk,_=>by
   have:=DI h.inv;omega
 | k+1,i,st,h,hi,hk,hc=>by
   rw[ZW];split
   .rename_i a ha;have d:=(x7h.1 ha).1;have u:∀b∈rows.getD a.toNat [],0<=b/\b<n:=fun b o=>DP B o;obtain⟨C,w,z⟩:=h.fold (rows.getD a.toNat []) u;obtain⟨D,E,F,G⟩:=Jb B k (i+1) C (x8m d z.length_le) (by omega) fun m c g l b o=>by
     rw[w];rcases x7m m i with s|s
     .have t:m<st.2.length:=by omega
      have r:st.2[m]?=some c:=by
       have:=Gt z (x7x t);rw[x7x t,<-this,l]
      exact .inl (hc m c s r b o)
     .obtain rfl:m=i:=by omega
      have:=Gt z ha;rw[this]at l;cases l;exact .inr o
    refine⟨D,fun x j=>E x ((w x).2 (.inl j)),F,fun S v q=>G S (fun x j=>?_) q⟩;rcases(w x).1 j with j|j
    .exact v x j
    .exact q a x (v a (x7t ha)) j
   .rename_i ha;have A:st.2.length<=i:=List.getElem?_eq_none_iff.1 ha;refine⟨h,fun x j=>j,fun x j b o=>?_,fun S v _=>v⟩;obtain⟨m,g⟩:=x9c.1 j;exact hc m x (by have:=(x7h.1 g).1;omega) g b o
theorem Z7{n:Nat}:∀(l:List Int){st:List Bool×List Int},WkM n st->WkM n (l.foldl (fun st a=>bif ZB n a then KG st a else st) st)/\∀x,x∈(l.foldl (fun st a=>bif ZB n a then KG st a else st) st).2↔x∈st.2\/(x∈l/\ZB n x=true)
 |[],st,h=>⟨h,fun x=>by simp⟩
 | a::r,st,h=>by
   rw[z0b];cases q:ZB n a with
   | true=>
     obtain⟨s,t,_⟩:=h.see (XO q);obtain⟨m,o⟩:=Z7 r s;rw[x7c];refine⟨m,fun x=>?_⟩;rw[o,t,x7f];constructor
     .rintro ((i|rfl)|⟨i,j⟩)
      .exact .inl i
      .exact .inr ⟨.inl rfl,q⟩
      .exact .inr ⟨.inr i,j⟩
     .rintro (i|⟨rfl|i,j⟩)
      .exact .inl (.inl i)
      .exact .inl (.inr rfl)
      .exact .inr ⟨i,j⟩
   | false=>
     obtain⟨m,o⟩:=Z7 r h;rw[x7o];refine⟨m,fun x=>?_⟩;rw[o,x7f];constructor
     .rintro (i|⟨i,j⟩)
      .exact .inl i
      .exact .inr ⟨.inr i,j⟩
     .rintro (i|⟨rfl|i,j⟩)
      .exact .inl i
      .rw [q]at j;cases j
      .exact .inr ⟨i,j⟩
theorem Tn:∀(l:List Bool)(i:Nat)(y:Int),y∈HI i l ↔ ∃k:Nat,l[k]?=some true/\y=((i+k:Nat):Int)
 |[],i,y=>by simp[HI]
 | b::r,i,y=>by
   have m:=Tn r (i+1) y;have key:(∃k:Nat,(b::r)[k]?=some true/\y=((i+k:Nat):Int))↔(b=true/\y=(i:Int))\/∃k:Nat,r[k]?=some true/\y=((i+1+k:Nat):Int):=by
    constructor
    .rintro ⟨k,h,j⟩;cases k with
     |zero=>simp at h;exact .inl ⟨h,by simpa using j⟩
     |succ k=>exact .inr ⟨k,by simpa using h,by rw[j];omega⟩
    .rintro (⟨h,j⟩|⟨k,h,j⟩)
     .exact ⟨0,by simp[h],by simpa using j⟩
     .exact ⟨k+1,by simpa using h,by rw[j];omega⟩
   rw[key,<-m,HI];cases b<;>simp
def M9{n:Nat}{rows:List (List Int)}(r:XG n rows)(l:List Int)(y:Int):y∈HI 0 (ZN rows l) ↔ ∃a∈l,ZB n a=true/\Rch (Dh rows) a y:=by
 obtain⟨w,z⟩:=Z7 (n:=n) l (WkM.start n);obtain⟨s,c,d,g⟩:=Jb r (rows.length+1) 0 (st:=DL rows.length l) (by rw[r.1];exact w) (x7p _) (by rw[r.1];omega) (fun m a B=>by omega);have q:∀x,x∈(DL rows.length l).2↔x∈l/\ZB n x=true:=fun x=>by
  rw[r.1];unfold DL;rw[z];simp
 have o:∀y,y∈HI 0 (ZN rows l)↔y∈(ZW rows (rows.length+1) 0 (DL rows.length l)).2:=fun y=>by
  rw[Tn,s.mem];show(∃k:Nat,(ZW rows (rows.length+1) 0 (DL rows.length l)).1[k]?=some true/\_)↔_;constructor
  .rintro ⟨k,i,h⟩;have j:=(x7h.1 i).1;rw[s.inv.1]at j;refine⟨by omega,?_⟩;rw[h,x7w];simp[i]
  .rintro ⟨i,h⟩;have j:y.toNat<(ZW rows (rows.length+1) 0 (DL rows.length l)).1.length:=by rw[s.inv.1];omega
   refine⟨y.toNat,?_,by omega⟩;rw[x7w,x7x j]at h;rw[x7x j];simpa using h
 rw[o];constructor
 .intro A;refine g (fun y=>∃a∈l,ZB n a=true/\Rch (Dh rows) a y) (fun x v=>?_) (fun x b ⟨a,i,h,t⟩ u=>⟨a,i,h,.tail t u⟩) y A;obtain⟨i,h⟩:=(q x).1 v;exact⟨x,i,h,.refl⟩
 .rintro ⟨a,i,h,t⟩;exact t.closed (S:=fun y=>y∈(ZW rows (rows.length+1) 0 (DL rows.length l)).2) (fun x b v u=>d x v b u) (c a ((q a).2 ⟨i,h⟩))
def Tz{l:List Int}{b x:Int}:x∈W0 l k b↔x∈l\/x=b:=by
 unfold W0;rw[x7b,x7f];have:x∈l↔x∈l.take k\/x∈l.drop k:=by rw[<-x7b,z2z]
 rw[this];constructor
 .rintro (h|h|h)
  .exact .inl (.inl h)
  .exact .inr h
  .exact .inl (.inr h)
 .rintro ((h|h)|h)
  .exact .inl h
  .exact .inr (.inr h)
  .exact .inr (.inl h)
def O4{n:Nat}{g:List (List Int)×List (List Int)}(r:g.1.length=n)(e:Int×Int){x:Int}(o:0<=x/\x<n):y∈(B9 n g e).1.getD x.toNat []↔y∈g.1.getD x.toNat []\/((x,y)=e/\ZB n y=true):=by
 rw[U1];cases i:(ZB n e.1&&ZB n e.2 && !(g.1.getD e.1.toNat []).contains e.2)with
 | true=>
   simp only[x7i,x9r]at i;obtain⟨⟨l,m⟩,_⟩:=i;have q:=XO l;rw[x7c];unfold Gs;rw[x7w,z1n];by_cases j:e.1.toNat=x.toNat
   .rw [if_pos j,if_pos (by omega)];simp only[x9u];rw[Tz,<-j];have:x=e.1:=by omega
    constructor
    .rintro (h|h)
     .exact .inl h
     .exact .inr ⟨by rw[this,h],by rw[h];exact m⟩
    .rintro (h|⟨h,_⟩)
     .exact .inl h
     .exact .inr (by rw[<-h])
   .rw [if_neg j,<-x7w];constructor
    .exact .inl
    .rintro (h|⟨h,_⟩)
     .exact h
     .exact absurd (by rw[<-h]) j
 | false=>
   rw[x7o];constructor
   .exact .inl
   .rintro (h|⟨rfl,h⟩)
    .exact h
    .have l:ZB n x=true:=by unfold ZB;simp[o]
     simp only[l,h,Bool.true_and,Bool.not_eq_false']at i;simpa using i
def RD{n:Nat}{g:List (List Int)×List (List Int)}(h:g.1.length=n)(e:Int×Int):(B9 n g e).1.length=n:=by
 rw[U1];cases(ZB n e.1&&ZB n e.2 && !(g.1.getD e.1.toNat []).contains e.2)with
 |true=>rw[x7c];unfold Gs;rw[x9d];exact h
 |false=>exact h
theorem Nv{n:Nat}{x y:Int}(m:0<=x/\x<n):∀(l:List (Int×Int)){g:List (List Int)×List (List Int)},g.1.length=n->(y∈(l.foldl (B9 n) g).1.getD x.toNat []↔y∈g.1.getD x.toNat []\/((x,y)∈l/\ZB n y=true))
 |[],g,_=>by simp
 | e::r,g,h=>by
   rw[z0b,Nv m r (RD h e),O4 h e m,x7f];constructor
   .rintro ((i|⟨i,j⟩)|⟨i,j⟩)
    .exact .inl i
    .exact .inr ⟨.inl i,j⟩
    .exact .inr ⟨.inr i,j⟩
   .rintro (i|⟨i|i,j⟩)
    .exact .inl (.inl i)
    .exact .inl (.inr ⟨i,j⟩)
    .exact .inr ⟨i,j⟩
def BH{n:Nat}{l:List (Int×Int)}{x:Int}(h:0<=x/\x<n):Dh (QL n l).1 x y↔(x,y)∈l/\ZB n y=true:=by
 unfold Dh QL;rw[Nv h l (by simp)];have:(List.replicate n ([]:List Int)).getD x.toNat []=[]:=by
  rw[x7w,x8g];split<;>rfl
 rw[this];simp
def Y7{n:Nat}{l:List (Int×Int)}(r:0<n)(y:Int):y∈HI 0 (ZN (QL n l).1 [0])↔Rch (fun a b=>(a,b)∈l/\ZB n b=true) 0 y:=by
 rw[M9 (JD n l).1];have q:ZB n 0=true:=by unfold ZB;simp;omega
 constructor
 .rintro ⟨a,ha,_,h⟩;obtain rfl:a=0:=by simpa using ha
  exact(h.closed (S:=fun x:Int=>(0<=x/\x<n)/\Rch (fun a b=>(a,b)∈l/\ZB n b=true) 0 x) (fun x y ⟨j,m⟩ i=>by
   have o:=(BH j).1 i;exact⟨XO o.2,.tail m o⟩) ⟨⟨by omega,by omega⟩,.refl⟩).2
 .intro h;refine⟨0,by simp,q,?_⟩;exact(h.closed (S:=fun x:Int=>(0<=x/\x<n)/\Rch (Dh (QL n l).1) 0 x) (fun x y ⟨j,m⟩ i=>⟨XO i.2,.tail m ((BH j).2 i)⟩) ⟨⟨by omega,by omega⟩,.refl⟩).2
def stR(F:List Step)(a b:Int):Prop:=∃s∈F,s.src=a/\s.dst=b
def plP(p:Pg)(j:Nat)(f:Pr)(x:Int):Prop:=x=0\/x = -1\/((QP p.A j:Int)+1<=x/\x<=(QP p.A j+cntL f.body:Nat))
def ixI(p:Pg)(j:Nat)(f:Pr)(x:Int):Int:=UV (loI p j) (hiI p j f) (cntL f.body+2:Nat) x
def WS{j:Nat}{x:Int}(h:plP p j f x):0<=ixI p j f x/\ixI p j f x<(cntL f.body+2:Nat):=by
 unfold ixI UV loI hiI;unfold plP at h
 (repeat' split)<;>omega
def PH{j:Nat}{x:Int}(i:plP p j f x)(l:plP p j f y)(h:ixI p j f x=ixI p j f y):x=y:=by
 unfold ixI UV loI hiI at h;unfold plP at i l
 (repeat' split at h)<;>omega
def Hy{j:Nat}{F:List Step}(u:∀s∈F,plP p j f s.src/\plP p j f s.dst)(g:plP p j f y):
  ixI p j f y∈HI 0 (ZN (QL (cntL f.body+2) (F.map (ixP p j f (cntL f.body+2:Nat)))).1 [0])↔Rch (stR F) 0 y:=by
 rw[Y7 (by omega)];have r:ixI p j f 0=0:=by unfold ixI UV;rw[if_pos rfl]
 have w:plP p j f 0:=.inl rfl;constructor
 .intro h;obtain⟨z,n,l,q⟩:=h.closed (S:=fun i=>∃z,plP p j f z/\ixI p j f z=i/\Rch (stR F) 0 z) (by
   rintro a b ⟨z,n,l,q⟩ ⟨d,_⟩;obtain⟨s,m,v⟩:=x7d.1 d;obtain⟨t,o⟩:=u s m;have x:ixI p j f s.src=a:=x9l Prod.fst v;have e2:ixI p j f s.dst=b:=x9l Prod.snd v;have c:s.src=z:=PH t n (by rw[x,l]);exact⟨s.dst,o,e2,.tail q ⟨s,m,c,rfl⟩⟩) ⟨0,w,r,.refl⟩
  rw[<-PH n g l];exact q
 .intro h;have:=h.closed (S:=fun z=>plP p j f z/\Rch (fun a b=>(a,b)∈F.map (ixP p j f (cntL f.body+2:Nat))/\ZB (cntL f.body+2) b=true) 0 (ixI p j f z)) (by
   rintro a b ⟨n,l⟩ ⟨s,m,rfl,rfl⟩;obtain⟨t,o⟩:=u s m;refine⟨o,.tail l ⟨x7d.2 ⟨s,m,rfl⟩,?_⟩⟩;have:=WS o;unfold ZB;simp only[x7i,x8l];exact this) ⟨w,by rw[r];exact .refl⟩
  exact this.2
def VX(h:chkB p=true){j:Nat}(i:p.A[j]?=some f):∀s∈(newWay p j f).real,plP p j f s.src/\plP p j f s.dst:=fun s o=>by
 obtain⟨_,l⟩:=YY h i;obtain⟨_,m,_⟩:=NK h i;obtain⟨q,n⟩:=m s ((l s).1 o);unfold okI at n;unfold plP;omega
def q5x(p:Pg)(k:Nat)(f:Pr)(E:List Str):Prop:=Rch (stR ((newWay p k f).real.filter (Nd p E))) 0 (-1)
def Pn(h:chkB p=true)(n:p.A[k]?=some f)(E:List Str):Ar (newWay p k f) f E=true↔q5x p k f E:=by
 unfold q5x;rw[<-Hy (p:=p) (j:=k) (f:=f) (fun s o=>VX h n s (x8d.1 o).1) (y := -1) (.inr (.inl rfl))];unfold Ar;rw[x8e];have m:ixI p k f (-1)=((cntL f.body+2:Nat):Int)-1:=by unfold ixI UV;rw[if_neg (by omega),if_pos rfl]
 rw[m];constructor
 .rintro ⟨x,i,l⟩;have l:((cntL f.body+2:Nat):Int)-1=x:=z3l l;rw[l];exact i
 .intro i;exact⟨_,i,z0y rfl⟩
def x5b(E:List Str)(s:Str):Bool:=E.any fun x=>s==x
def D7{E:List Str}{s:Str}:x5b E s=true↔s∈E:=by
 unfold x5b;rw[x8e];constructor
 .rintro ⟨x,i,j⟩;have:s=x:=by simpa using j
  rw[this];exact i
 .intro h;exact⟨s,h,by simp⟩
def SR{E j:List Str}(h:∀s∈E,s∈j){t:Step}(i:Nd p E t=true):Nd p j t=true:=by
 unfold Nd at i⊢;rw[z1y]at i⊢;rcases i with i|i
 .exact .inl i
 .refine .inr ?_;split at i
  .simp only[x9r,z3t,Bool.not_eq_false']at i⊢;rcases i with i|i
   .exact .inl i
   .exact .inr (D7.2 (h _ (D7.1 i)))
  .rfl
def LF{E i:List Str}(h:∀s∈E,s∈i)(o:q5x p k f E):q5x p k f i:=by
 refine o.mono fun x y ⟨s,q,j,l⟩=>⟨s,?_,j,l⟩;obtain⟨m,n⟩:=x8d.1 q;exact x8d.2 ⟨m,SR h n⟩
theorem Xy{p:Pg}:∀(l:List Nat)(o:List Str)(b:Bool),(l.foldl (Fk p) (o,b)).2=false->b=false/\(l.foldl (Fk p) (o,b)).1=o/\∀k∈l,Fk p (o,false) k=(o,false)
 |[],o,b,h=>⟨h,rfl,by simp⟩
 | k::r,o,b,h=>by
   rw[z0b]at h⊢;have i:Fk p (o,b) k=(o,b)\/(Fk p (o,b) k).2=true:=by
    unfold Fk;split
    .rename_i f _;cases(!((o,b).1.any fun s=>f.name==s)&&Ar (newWay p k f) f (o,b).1)with
     |true=>exact .inr rfl
     |false=>exact .inl rfl
    .exact .inl rfl
   rcases i with i|i
   .rw [i]at h⊢;obtain⟨j,q,t⟩:=Xy r o b h;refine⟨j,q,fun m n=>?_⟩;rcases x7f.1 n with rfl|n
    .rw [<-j];rw[j]at i⊢;exact i
    .exact t m n
   .have:=(Xy r (Fk p (o,b) k).1 (Fk p (o,b) k).2 h).1;rw[i]at this;cases this
def Ka(p:Pg)(out:List Str):Prop:=∀s∈out,∃(k:Nat) (f:Pr),p.A[k]?=some f/\f.name=s/\q5x p k f out
def Ob(r:chkB p=true){st:List Str×Bool}(h:Ka p st.1)(k:Nat):Ka p (Fk p st k).1/\Yh p (Fk p st k).1+(Fk p st k).2.toNat<=Yh p st.1+st.2.toNat:=by
 unfold Fk;split
 .rename_i f j;cases l:(!(st.1.any fun s=>f.name==s)&&Ar (newWay p k f) f st.1)with
  | true=>
    rw[x7c];simp only[x7i,x9r]at l;have v:=E8 (p:=p) (out:=st.1) (x7t j) l.1;have t:=(Pn r j st.1).1 l.2;refine⟨fun s i=>?_,?_⟩
    .rcases x7b.1 i with i|i
     .obtain ⟨u,m,n,o,q⟩:=h s i;exact⟨u,m,n,o,LF (fun s i=>x7b.2 (.inl i)) q⟩
     .obtain rfl:=x7y.1 i;exact⟨k,f,j,rfl,LF (fun s i=>x7b.2 (.inl i)) t⟩
    .simp only[z3k];omega
  |false=>exact⟨h,x7s _⟩
 .exact ⟨h,x7s _⟩
theorem Pi{p:Pg}(i:chkB p=true):∀(l:List Nat){st:List Str×Bool},Ka p st.1->Ka p (l.foldl (Fk p) st).1/\Yh p (l.foldl (Fk p) st).1+(l.foldl (Fk p) st).2.toNat<=Yh p st.1+st.2.toNat
 |[],st,h=>⟨h,x7s _⟩
 | k::r,st,h=>by
   obtain⟨j,n⟩:=Ob i h k;obtain⟨m,o⟩:=Pi i r j;rw[z0b];exact⟨m,by omega⟩
theorem Ke{p:Pg}(n:chkB p=true):∀(k:Nat){out:List Str},Yh p out<k->Ka p out->Ka p (R1 p k out)/\(∀s∈out,True)/\∀(m:Nat)(f:Pr),p.A[m]?=some f->q5x p m f (R1 p k out)->f.name∈R1 p k out
 |0,out,h,_=>by omega
 | k+1,out,h,hi=>by
   obtain⟨v,r⟩:=Pi n (List.range p.A.length) (st:=(out,false)) hi;rw[R1];cases u:(Ge p out).2 with
   | true=>
     rw[x7c];have q:((List.range p.A.length).foldl (Fk p) (out,false)).2=true:=u;rw[q]at r;simp only[z3k,Bool.toNat_false]at r;have j:Yh p (Ge p out).1<k:=by show Yh p ((List.range p.A.length).foldl (Fk p) (out,false)).1<k;omega
     obtain⟨l,_,i⟩:=Ke n k j v;exact⟨l,fun _ _=>trivial,i⟩
   | false=>
     rw[x7o];obtain⟨_,j,l⟩:=Xy (List.range p.A.length) out false u;have j:(Ge p out).1=out:=j;rw[j];refine⟨hi,fun _ _=>trivial,fun m f o w=>?_⟩;have i:=l m (x8n.2 (x7h.1 o).1);unfold Fk at i;rw[o]at i;simp only at i;cases t:(out.any fun s=>f.name==s)with
     |true=>exact D7.1 t
     | false=>
       rw[t,(Pn n o out).2 w]at i;have:=x9l Prod.snd i;cases this
def E9(p:Pg):Yh p []<=p.A.length:=z2c
def Do{l:List Str}(h:ZD l=false):l.Nodup:=by
 unfold ZD at h;rw[z2k]at h;unfold Nodup;rw[List.pairwise_iff_getElem];intro i j r m q o;have n:=h j (x8n.2 m);apply n;rw[x8e];refine⟨l[i],?_,?_⟩
 .exact x9s.2 ⟨i,by simp;omega,by simp⟩
 .rw [x7x m];simp[o]
def Ym(h:chkB p=true):(procsN p).Nodup:=by
 obtain⟨l,j,_⟩:=QY h;unfold QI at j;rw[l,x7c]at j;cases i:XI p with
 |true=>rw[i]at j;cases j
 | false=>
   unfold XI at i;simp only[z1l]at i;exact Do i.2.1
def Vu(h:chkB p=true){j:Nat}{g:Pr}(n:p.A[j]?=some f)(m:p.A[k]?=some g)(q:f.name=g.name):j=k/\f=g:=by
 have r:=Ym h;have i:(procsN p)[j]?=some f.name:=by simp[procsN,n]
 have o:(procsN p)[k]?=some g.name:=by simp[procsN,m]
 rw[q]at i;have l:=(x7h.1 i).1;obtain rfl:j=k:=(List.getElem?_inj l r).1 (i.trans o.symm);rw[n]at m;exact⟨rfl,z0m m⟩
def Om(h:chkB p=true)(j:p.A[k]?=some f):f.name∈endsR p↔q5x p k f (endsR p):=by
 obtain⟨l,_,m⟩:=Ke h (p.A.length+1) (out:=[]) (by have:=E9 p;omega) (fun s i=>by cases i);have e:∀s,s∈endsR p↔s∈R1 p (p.A.length+1) []:=fun s=>by unfold endsR;rw[h,x7c,Qw]
 rw[e];constructor
 .intro t;obtain⟨v,u,n,o,q⟩:=l _ t;obtain⟨rfl,rfl⟩:=Vu h j n o.symm;exact LF (fun s i=>(e s).2 i) q
 .intro r;exact m k f j (LF (fun s i=>(e s).1 i) r)
def Ac{E:Int->Int->Prop}{B:List Int}{u x:Int}(h:Rch E u x)(s:u∈B)(l:x∉B):∃z y,z∈B/\E z y/\y∉B/\Rch E u y/\Rch E y x:=by
 induction h with
 |refl=>exact absurd s l
 | @tail b c h i t=>
   by_cases j:b∈B
   .exact ⟨b,c,j,i,l,.tail h i,.refl⟩
   .obtain ⟨z,y,m,n,o,q,r⟩:=t j;exact⟨z,y,m,n,o,q,.tail r i⟩
def chainE(E:Int->Int->Prop):List Int->Prop
 |[]=>True
 |[_]=>True
 |a::b::r=>E a b/\chainE E (b::r)
theorem NJ{E:Int->Int->Prop}:∀(l:List Int){a y:Int},chainE E (l++[a])->y∈l++[a]->Rch E y a
 | [],a,y,_,i=>by
   simp at i;rw[i];exact .refl
 | [b],a,y,h,i=>by
   simp at i;rcases i with rfl|rfl
   .exact .tail .refl h.1
   .exact .refl
 | b::c::r,a,y,h,i=>by
   have j:chainE E ((c::r)++[a]):=h.2;rcases x7f.1 i with rfl|i
   .exact .head h.1 (NJ (c::r) j (by simp))
   .exact NJ (c::r) j i
theorem Uv{E:Int->Int->Prop}:∀(l:List Int){a b:Int},chainE E (l++[a])->E a b->chainE E (l++[a]++[b])
 |[],a,b,_,hb=>⟨hb,trivial⟩
 |[c],a,b,h,hb=>⟨h.1,hb,trivial⟩
 |c::d::r,a,b,h,hb=>⟨h.1,Uv (d::r) h.2 hb⟩
theorem Km{E:Int->Int->Prop}:∀(l:List Int){a:Int},chainE E (l++[a])->chainE E l
 |[],_,_=>trivial
 |[_],_,_=>trivial
 |c::d::r,_,h=>⟨h.1,Km (d::r) h.2⟩
structure DfsI(n:Nat)(E:Int->Int->Prop)(out stack:List Int):Prop where
 nd:(out++stack).Nodup
 rng:∀x∈out++stack,0<=x/\x<n
 path:chainE E stack
 cl:∀u∈out,∀v,E u v->v∈out\/v∈stack
 J:∀u∈out,∀x,Rch E u x->x∉out->∃s∈stack,Rch E u s/\Rch E s u/\Rch E s x
 K:∀(i:Nat)(r:Int),out[i]?=some r->∀u,Rch E u r->Rch E r u\/∃u',Rch E u u'/\Rch E u' u/\(u'∉out\/∃j,i<j/\out[j]?=some u')
theorem DfsI.start(n:Nat)(E:Int->Int->Prop):DfsI n E [] []:=⟨by simp,by simp,trivial,by simp,by simp,by simp⟩
theorem DfsI.push{n:Nat}{E:Int->Int->Prop}{out stack:List Int}(h:DfsI n E out stack){b:Int}(q:0<=b/\b<n)(r:b∉out++stack)(t:chainE E (stack++[b])):DfsI n E out (stack++[b]):=by
 refine⟨?_,fun x i=>?_,t,fun u l v w=>?_,fun u l x i m=>?_,h.K⟩
 .rw [<-x8w,x9k];refine⟨h.nd,by simp,fun x i y z=>?_⟩;rw[x7y.1 z];exact fun e=>r (e▸i)
 .rw [<-x8w]at i;rcases x7b.1 i with i|i
  .exact h.rng x i
  .rw [x7y.1 i];exact q
 .rcases h.cl u l v w with j|j
  .exact .inl j
  .exact .inr (x7b.2 (.inl j))
 .obtain ⟨s,j,o⟩:=h.J u l x i m;exact⟨s,x7b.2 (.inl j),o⟩
theorem DfsI.pop{n:Nat}{E:Int->Int->Prop}{out st:List Int}{a:Int}(h:DfsI n E out (st++[a]))(ha:∀v,E a v->v∈out\/v∈st++[a]):DfsI n E (out++[a]) st:=by
 have N:=h.nd;rw[x9k]at N;obtain⟨T,M,A⟩:=N;rw[x9k]at M;obtain⟨U,_,V⟩:=M;have R:a∉out:=fun m=>A a m a (by simp) rfl;have C:a∉st:=fun m=>V a m a (by simp) rfl;have H:∀u∈out++[a],∀v,E u v->v∈out++[a]\/v∈st:=fun u q v Y=>by
  have:v∈out\/v∈st++[a]:=by
   rcases x7b.1 q with q|q
   .exact h.cl u q v Y
   .rw [x7y.1 q]at Y;exact ha v Y
  rcases this with l|l
  .exact .inl (x7b.2 (.inl l))
  .rcases x7b.1 l with l|l
   .exact .inr l
   .exact .inl (x7b.2 (.inr l))
 have I:∀u∈out++[a],∀x,Rch E u x->x∉out++[a]->∃y∈st,Rch E u y/\Rch E y x:=fun u q x b D=>by
  obtain⟨z,y,l,B,t,o,F⟩:=Ac b q D;rcases H z l y B with w|w
  .exact absurd w t
  .exact ⟨y,w,o,F⟩
 have Q:∀y∈st,Rch E y a:=fun y G=>NJ st h.path (x7b.2 (.inl G));refine⟨?_,fun x b=>?_,Km st h.path,H,fun u q x b D=>?_,fun i r L u q=>?_⟩
 .rw [x8w,x9k];refine⟨T,?_,fun x b y G=>A x b y (by simp at G⊢;exact G.symm)⟩;rw[x9k];refine⟨by simp,U,fun x b y G e=>?_⟩;rw[x7y.1 b]at e;exact C (e▸G)
 .refine h.rng x ?_;simp only[x7b,x7y]at b⊢;rcases b with(l|l)|l
  .exact .inl l
  .exact .inr (.inr l)
  .exact .inr (.inl l)
 .obtain ⟨y,l,B,t⟩:=I u q x b D;rcases x7b.1 q with q|q
  .have Z:y∉out:=fun m=>A y m y (x7b.2 (.inl l)) rfl;obtain⟨s,o,F,w,h7⟩:=h.J u q y B Z;rcases x7b.1 o with o|o
   .exact ⟨s,o,F,w,h7.trans t⟩
   .rw [x7y.1 o]at F w;exact⟨y,l,B,(Q y l).trans w,t⟩
  .rw [x7y.1 q]at B⊢;exact⟨y,l,B,Q y l,t⟩
 .rcases x7m i out.length with g|g
  .rw [x8c g]at L;rcases h.K i r L u q with l|⟨u',l,B,t⟩
   .exact .inl l
   .refine .inr ⟨u',l,B,?_⟩;rcases t with t|⟨j,t,o⟩
    .by_cases O:u'=a
     .exact .inr ⟨out.length,g,by rw[O];simp⟩
     .exact .inl fun m=>by
       rcases x7b.1 m with m|m
       .exact t m
       .exact O (x7y.1 m)
    .exact .inr ⟨j,t,by rw[x8c (x7h.1 o).1];exact o⟩
  .have hr:r=a:=by
    have l:=(x7h.1 L).1;simp at l;rw[x8f g,show i-out.length=0 by omega]at L;simpa using L.symm
   subst hr;by_cases c:Rch E r u
   .exact .inl c
   .right;by_cases P:u∈out
    .obtain ⟨s,o,F,w,h7⟩:=h.J u P r q R;rcases x7b.1 o with o|o
     .refine ⟨s,F,w,.inl fun m=>?_⟩;rcases x7b.1 m with m|m
      .exact A s m s (x7b.2 (.inl o)) rfl
      .rw [x7y.1 m]at o;exact C o
     .rw [x7y.1 o]at w;exact absurd w c
    .refine ⟨u,.refl,.refl,.inl fun m=>?_⟩;rcases x7b.1 m with m|m
     .exact P m
     .rw [x7y.1 m]at c;exact c .refl
structure EndsP(n:Nat)(E:Int->Int->Prop)(es:List Int):Prop where
 nd:es.Nodup
 mem:∀x:Int,x∈es↔0<=x/\x<n
 K:∀(i:Nat)(r:Int),es[i]?=some r->∀u:Int,0<=u/\u<n->Rch E u r->Rch E r u\/∃u',Rch E u u'/\Rch E u' u/\∃j,i<j/\es[j]?=some u'
theorem DfsI.fin{n:Nat}{E:Int->Int->Prop}(t:∀x y,E x y->0<=y/\y<n){out:List Int}(h:DfsI n E out [])(j:∀x:Int,0<=x/\x<n->x∈out):EndsP n E out:=by
 refine⟨by simpa using h.nd,fun x=>⟨fun a=>h.rng x (by simpa using a),j x⟩,fun i r v u o z=>?_⟩;rcases h.K i r v u z with m|⟨b,m,q,l⟩
 .exact .inl m
 .refine .inr ⟨b,m,q,?_⟩;rcases l with l|l
  .exfalso;apply l;apply j;cases m with
   |refl=>exact o
   |tail _ w=>exact t _ _ w
  .exact l
def sccP(E:Int->Int->Prop)(x y:Int):Prop:=Rch E x y/\Rch E y x
theorem sccP.refl{E:Int->Int->Prop}(x:Int):sccP E x x:=⟨.refl,.refl⟩
theorem sccP.symm{E:Int->Int->Prop}{x:Int}(h:sccP E x y):sccP E y x:=⟨h.2,h.1⟩
theorem sccP.trans{E:Int->Int->Prop}{x y z:Int}(h:sccP E x y)(i:sccP E y z):sccP E x z:=⟨h.1.trans i.1,i.2.trans h.2⟩
def SeenP(E:Int->Int->Prop)(es:List Int)(i:Nat)(x:Int):Prop:=∃(j:Nat) (y:Int),i<=j/\es[j]?=some y/\sccP E x y
def A2{n:Nat}{E:Int->Int->Prop}(A:∀x y,E x y->(0<=x/\x<n)/\0<=y/\y<n){es:List Int}(h:EndsP n E es){i:Nat}{r:Int}(d:es[i]?=some r)(g:¬SeenP E es (i+1) r)(x:Int):
  Rch (fun a b=>E b a/\¬SeenP E es (i+1) b) r x↔sccP E r x:=by
 have w:=(h.mem r).1 (x7t d);constructor
 .intro B;have key:(0<=x/\x<n)/\¬SeenP E es (i+1) x/\Rch E x r:=B.closed (S:=fun x:Int=>(0<=x/\x<n)/\¬SeenP E es (i+1) x/\Rch E x r) (fun a b ⟨q,u,l⟩ ⟨m,s⟩=>⟨(A _ _ m).1,s,.head m l⟩) ⟨w,g,.refl⟩;refine⟨?_,key.2.2⟩;rcases h.K i r d x key.1 key.2.2 with q|⟨F,q,u,j,l,m⟩
  .exact q
  .exact absurd ⟨j,F,l,m,q,u⟩ key.2.1
 .rintro ⟨q,u⟩;have v:∀y,sccP E r y->¬SeenP E es (i+1) y:=fun y C ⟨j,z,l,m,s⟩=>g ⟨j,z,l,m,C.trans s⟩;have key:∀{a b:Int},Rch E a b->Rch E r a->Rch E b r->Rch (fun a b=>E b a/\¬SeenP E es (i+1) b) b a:=fun {a b} o=>by
   induction o with
   |refl=>intro _ _;exact .refl
   | @tail b c o t D=>
     intro l m;have s:Rch E b r:=.head t m;exact .head ⟨t,v b ⟨l.trans o,s⟩⟩ (D l s)
  exact key u q .refl
def EA{E:Int->Int->Prop}{es:List Int}{i:Nat}{r:Int}(t:es[i]?=some r)(u:SeenP E es (i+1) r)(x:Int):SeenP E es i x↔SeenP E es (i+1) x:=by
 constructor
 .rintro ⟨j,y,n,h,l⟩;rcases Nat.eq_or_lt_of_le n with m|m
  .subst m;rw[t]at h;cases h;obtain⟨k,z,o,q,s⟩:=u;exact⟨k,z,o,q,l.trans s⟩
  .exact ⟨j,y,m,h,l⟩
 .rintro ⟨j,y,n,h,l⟩;exact⟨j,y,by omega,h,l⟩
def Mj{E:Int->Int->Prop}{es:List Int}{i:Nat}{r:Int}(q:es[i]?=some r)(x:Int):SeenP E es i x↔SeenP E es (i+1) x\/sccP E r x:=by
 constructor
 .rintro ⟨j,y,o,l,m⟩;rcases Nat.eq_or_lt_of_le o with n|n
  .subst n;rw[q]at l;cases l;exact .inr m.symm
  .exact .inl ⟨j,y,n,l,m⟩
 .rintro (⟨j,y,o,l,m⟩|h)
  .exact ⟨j,y,by omega,l,m⟩
  .exact ⟨i,r,x7s _,q,h.symm⟩
def q1n{n:Nat}{E:Int->Int->Prop}{es:List Int}(h:EndsP n E es){x:Int}(l:0<=x/\x<n):SeenP E es 0 x:=by
 obtain⟨j,i⟩:=x9c.1 ((h.mem x).2 l);exact⟨j,x,x7p _,i,.refl x⟩
end Go.Ab
