/- The reference's statements: what the program's own reading lets stand has the reference's marks. -/
import Derived.Test.YtgljdhjopolmcaaGreatRcA9
set_option linter.all false
set_option maxRecDepth 100000
set_option maxHeartbeats 16000000
namespace Go.Ab
open Go.Proofs.Tryz
open Go.Proofs
variable {e:Bool}{i:Int}{j:Nat}
def oneOk(s:S):Bool:=UW s&&namesB s.E
def hasXB(s:S):Bool:=decide (s.kind=1)||decide (s.kind=3)||decide (s.kind=5)||decide (s.kind=6)||(decide (s.kind=9)&&s.has)
structure OneF(s:S):Prop where
 E:namesB s.E=true
 lo:1<=s.kind
 hi:s.kind<=10
 x:hasXB s=true->mayXR s.x=true
 nox:hasXB s=false->noneB s.x=true
 has:s.has=true->s.kind=9
 name:s.kind=1\/s.kind=2\/s.kind=10->isName s.name=true
 noname:¬(s.kind=1\/s.kind=2\/s.kind=10)->(s.name==[])=true\/(s.kind=4/\isName s.name=true)
 D:s.kind=4->isName s.D=true
 noproc:s.kind≠4->(s.D==[])=true
 args:s.args.all argR=true
 noargs:s.kind≠4->s.args.length=0
 L:s.L.length=0\/s.kind=5\/s.kind=6
 M:s.M.length=0\/s.kind=5
def Yv{s:Str}(h:isName s=true):(s==[])=false:=by
 cases s with
 |nil=>unfold isName at h;rw[dif_neg (by simp)]at h;cases h
 |cons a r=>rfl
def KP{s:S}(h:oneOk s=true):OneF s:=by
 unfold oneOk at h;rw[z1p]at h;obtain⟨h,d⟩:=h;have r:s.args.all V4=true->s.args.all argR=true:=fun h=>by
  rw[z3x]at h⊢;exact fun a ha=>x0h (h a ha)
 have key:∀(k:Int)(f:Flds),s.kind=k->V0 s.kind s.has (s.name==[])=some f->f.has=false/\(f.L=false->s.L.length=0)/\(f.M=false->s.M.length=0)/\(s.kind≠4->s.args.length=0)/\GJ s.name f.name=true/\GJ s.D f.D=true/\NK s.x f.x=true/\s.args.all argR=true:=fun k f l t=>by
  rw[Pw t]at h;simp only[z1p,z4w,z6j,z6c,Bool.not_eq_false',z4h,z2z]at h;obtain⟨⟨⟨⟨⟨⟨⟨g,o⟩,p⟩,v⟩,n⟩,w⟩,q⟩,B⟩:=h;refine⟨g,fun m=>?_,fun m=>?_,fun m=>?_,n,w,q,r B⟩
  .rcases o with o|o
   .rw [m]at o;cases o
   .omega
  .rcases p with p|p
   .rw [m]at p;cases p
   .omega
  .rcases v with v|v
   .exact absurd v m
   .omega
 have u:s.kind=1\/s.kind=2\/s.kind=3\/s.kind=4\/s.kind=5\/s.kind=6\/s.kind=7\/s.kind=8\/s.kind=9\/s.kind=10:=by
  unfold UW at h;split at h
  .cases h
  .rename_i f t;unfold V0 at t
   (repeat' split at t)<;>first|(cases t;done)|omega
 have fin:∀(k:Int)(f:Flds),s.kind=k->V0 s.kind s.has (s.name==[])=some f->(1<=k/\k<=10)->f.x=hasXB s->(s.has=true->f.has=true\/k=9)->((k=1\/k=2\/k=10)->f.name=true)->(¬(k=1\/k=2\/k=10)->f.name=false\/(k=4/\f.name = !(s.name==[])))->f.D=decide (k=4)->(f.L=true->k=5\/k=6)->(f.M=true->k=5)->OneF s:=fun k f l t K c E F z b G C=>by
  obtain⟨g,o,p,v,n,w,q,B⟩:=key k f l t;unfold NK at q;refine⟨d,by omega,by omega,fun m=>?_,fun m=>?_,fun m=>?_,fun m=>?_,fun m=>?_,fun m=>?_,fun m=>?_,B,v,?_,?_⟩
  .rw [c,m]at q;exact OP q
  .rw [c,m]at q;exact q
  .rcases E m with y|y
   .rw [g]at y;cases y
   .omega
  .rw [F (by omega)]at n;exact n
  .rcases z (by omega)with y|⟨y,A⟩
   .rw [y]at n;exact .inl n
   .cases H:s.name==[]with
    |true=>exact .inl rfl
    | false=>
      rw[A,H]at n;exact .inr ⟨by omega,n⟩
  .rw [b,z2t (by omega)]at w;exact w
  .rw [b,z2r (by omega)]at w;exact w
  .cases J:f.L with
   |true=>exact .inr (by have:=G J;omega)
   |false=>exact .inl (o J)
  .cases I:f.M with
   |true=>exact .inr (by have:=C I;omega)
   |false=>exact .inl (p I)
 rcases u with l|l|l|l|l|l|l|l|l|l
 .exact fin 1 ⟨true,false,true,s.has,false,false⟩ l (by rw[l];rfl) (by omega) (by unfold hasXB;rw[l];rfl) (fun h=>.inl h) (fun _=>rfl) (fun h=>absurd (by omega) h) rfl (fun h=>by cases h) (fun h=>by cases h)
 .exact fin 2 ⟨true,false,false,s.has,false,false⟩ l (by rw[l];rfl) (by omega) (by unfold hasXB;rw[l];rfl) (fun h=>.inl h) (fun _=>rfl) (fun h=>absurd (by omega) h) rfl (fun h=>by cases h) (fun h=>by cases h)
 .exact fin 3 ⟨false,false,true,s.has,false,false⟩ l (by rw[l];rfl) (by omega) (by unfold hasXB;rw[l];rfl) (fun h=>.inl h) (fun h=>by omega) (fun _=>.inl rfl) rfl (fun h=>by cases h) (fun h=>by cases h)
 .exact fin 4 ⟨!(s.name==[]),true,false,s.has,false,false⟩ l (by rw[l];rfl) (by omega) (by unfold hasXB;rw[l];rfl) (fun h=>.inl h) (fun h=>by omega) (fun _=>.inr ⟨rfl,rfl⟩) rfl (fun h=>by cases h) (fun h=>by cases h)
 .exact fin 5 ⟨false,false,true,s.has,true,true⟩ l (by rw[l];rfl) (by omega) (by unfold hasXB;rw[l];rfl) (fun h=>.inl h) (fun h=>by omega) (fun _=>.inl rfl) rfl (fun _=>.inl rfl) (fun _=>rfl)
 .exact fin 6 ⟨false,false,true,s.has,true,false⟩ l (by rw[l];rfl) (by omega) (by unfold hasXB;rw[l];rfl) (fun h=>.inl h) (fun h=>by omega) (fun _=>.inl rfl) rfl (fun _=>.inr rfl) (fun h=>by cases h)
 .exact fin 7 ⟨false,false,false,s.has,false,false⟩ l (by rw[l];rfl) (by omega) (by unfold hasXB;rw[l];rfl) (fun h=>.inl h) (fun h=>by omega) (fun _=>.inl rfl) rfl (fun h=>by cases h) (fun h=>by cases h)
 .exact fin 8 ⟨false,false,false,s.has,false,false⟩ l (by rw[l];rfl) (by omega) (by unfold hasXB;rw[l];rfl) (fun h=>.inl h) (fun h=>by omega) (fun _=>.inl rfl) rfl (fun h=>by cases h) (fun h=>by cases h)
 .exact fin 9 ⟨false,false,s.has,false,false,false⟩ l (by rw[l];rfl) (by omega) (by unfold hasXB;rw[l];cases s.has<;>rfl) (fun _=>.inr rfl) (fun h=>by omega) (fun _=>.inl rfl) rfl (fun h=>by cases h) (fun h=>by cases h)
 .exact fin 10 ⟨true,false,false,s.has,false,false⟩ l (by rw[l];rfl) (by omega) (by unfold hasXB;rw[l];rfl) (fun h=>.inl h) (fun _=>rfl) (fun h=>absurd (by omega) h) rfl (fun h=>by cases h) (fun h=>by cases h)
def GM(n c:Nat):List Int:=(List.range' (n+1) c).map fun(k:Nat)=>(k:Int)
def PJ(n a b:Nat):GM n (a+b)=GM n a++GM (n+a) b:=by
 unfold GM;rw[<-z1v,show n+a+1=n+1+1*a by omega,List.range'_append]
def q4l(n:Nat):GM n 1=[((n+1:Nat):Int)]:=by simp[GM]
mutual
theorem q6n(nest:Int):∀(t:S){n:Nat}{m:Int},Gh nest n t=some m->(flS t).map S.id=GM n (WG t)
 | .mk id kind E name D x has args L M,n,m,h=>by
   simp only[Gh]at h;split at h
   ·cases h
   split at h
   ·cases h
   rename_i hid;cases hn:namesB E<;>rw[hn]at h
   ·cases h
   cases hf:UW (.mk id kind E name D x has args L M)<;>rw[hf]at h
   ·cases h
   simp only[z1n]at h;split at h
   ·rename_i m1 h1;have h1':WY (nest+1) ((n+1:Nat):Int) L=some m1:=by rw[<-h1];rfl
    have h2:=WP _ _ L h1';have h3:=GS (nest+1) L h1';have h':WY (nest+1) ((n+1+QY L:Nat):Int) M=some m:=by rw[<-h,h2];rfl
    have h4:=GS (nest+1) M h';rw[flS,WG,z1t,z1v,h3,h4,show 1+QY L+QY M=1+(QY L+QY M) by omega,PJ,q4l,PJ];have:id=((n+1:Nat):Int):=by omega
    rw[show(S.mk id kind E name D x has args L M).id=id from rfl,this];rfl
   ·cases h
theorem GS(nest:Int):∀(l:List S){n:Nat}{m:Int},WY nest n l=some m->(flL l).map S.id=GM n (QY l)
 |[],n,m,h=>by rw[flL,QY];rfl
 | t::r,n,m,h=>by
   simp only[WY]at h;split at h
   ·cases h
   split at h
   ·rename_i m1 h1;have h2:=GC _ _ t h1;have h3:=q6n nest t h1;have h':WY nest ((n+WG t:Nat):Int) r=some m:=by rw[<-h,h2];rfl
    have h4:=GS nest r h';rw[flL,QY,z1v,h3,h4,PJ]
   ·cases h
end
theorem N3:∀(l:List Pr){n:Nat}{m:Int},ZK n l=some m->∀(j:Nat)(f:Pr),l[j]?=some f->(flL f.body).map S.id=GM (n+QL l j) (QY f.body)
 |[],_,_,_,j,f,hj=>by simp at hj
 | g::r,n,m,h,j,f,hj=>by
   rw[ZK]at h;cases q:DG g<;>rw[q]at h
   .cases h
   simp only[z1n]at h;split at h
   .rename_i s k;cases j with
    | zero=>
      simp at hj;subst hj;exact GS 1 g.body k
    | succ j=>
      have p:=WP _ _ g.body k;have o:ZK ((n+QY g.body:Nat):Int) r=some m:=by rw[<-h,p];rfl
      have:=N3 r o j f (by simpa using hj);rw[QL,this,z4l]
   .cases h
def L9{p:Pg}(h:UG p=true){f:Pr}(l:p.A[j]?=some f):(flL f.body).map S.id=GM (QL p.A j) (QY f.body):=by
 unfold UG at h;simp only[z1p]at h;cases k:ZK 0 p.A with
 |none=>rw[k]at h;cases h.2
 | some m=>
   have:=N3 p.A (n:=0) k j f l;simpa using this
def V5{n c:Nat}{a:Int}(h:a∈GM n c):(n:Int)+1<=a/\a<=n+c:=by
 unfold GM at h;obtain⟨k,l,rfl⟩:=z1z.1 h;rw[List.mem_range']at l;obtain⟨i,m,rfl⟩:=l;omega
def okI(k h:Nat)(x:Int):Prop:=x = -1\/((k:Int)+1<=x/\x<=h)
mutual
theorem x0a(D:Int)(lo hi:Nat):∀(t:S)(up nx loop:Int)(n:Nat)(it:Item),it∈itS D up nx loop n t->okI lo hi nx->(loop=0\/((lo:Int)+1<=loop/\loop<=hi))->lo<=n->n+WG t<=hi->
  okI lo hi it.next/\(it.loop=0\/((lo:Int)+1<=it.loop/\it.loop<=hi))
 | .mk id kind E name pr x has args L M,up,nx,loop,n,it,h,h1,h2,h3,h4=>by
   rw[itS]at h;rw[WG]at h4;rcases z1g.1 h with rfl|h
   ·exact⟨h1,h2⟩
   ·have h5:okI lo hi (if kind=6 then((n:Int)+1)else nx):=by
     split
     ·exact .inr ⟨by omega,by omega⟩
     ·exact h1
    have h6:(if kind=6 then((n:Int)+1)else loop)=0\/((lo:Int)+1<=(if kind=6 then((n:Int)+1)else loop)/\(if kind=6 then((n:Int)+1)else loop)<=hi):=by
     split
     ·exact .inr ⟨by omega,by omega⟩
     ·exact h2
    rcases z0o.1 h with h|h
    ·exact L4 D lo hi L _ _ _ _ it h h5 h6 (by omega) (by omega)
    ·exact L4 D lo hi M _ _ _ _ it h h5 h6 (by omega) (by omega)
theorem L4(D:Int)(lo hi:Nat):∀(l:List S)(up nx loop:Int)(n:Nat)(it:Item),it∈itL D up nx loop n l->okI lo hi nx->(loop=0\/((lo:Int)+1<=loop/\loop<=hi))->lo<=n->n+QY l<=hi->
  okI lo hi it.next/\(it.loop=0\/((lo:Int)+1<=it.loop/\it.loop<=hi))
 |[],up,nx,loop,n,it,h,h1,h2,h3,h4=>by rw[itL]at h;cases h
 | t::r,up,nx,loop,n,it,h,h1,h2,h3,h4=>by
   rw[itL]at h;rw[QY]at h4;rcases z0o.1 h with h|h
   ·refine x0a D lo hi t _ _ _ _ it h ?_ h2 h3 (by omega);cases r with
    |nil=>exact h1
    | cons u r=>
      have:1<=QY (u::r):=by rw[QY,VU];omega
      exact .inr ⟨by simp;omega,by simp;omega⟩
   ·exact L4 D lo hi r _ _ _ _ it h h1 h2 (by omega) (by omega)
end
theorem Ml:∀(l:List S)(v:S),v∈l->v∈flL l
 |[],v,h=>by cases h
 | t::r,v,h=>by
   rw[flL];rcases z1g.1 h with rfl|h
   .refine z0o.2 (.inl ?_);rw[q7t];exact z1j
   .exact z0o.2 (.inr (Ml r v h))
structure RI where
 s:S
 deep:Int
 O:Int
 M:Bool
def RI.cells(i:RI):List AV:=i.s.cells++[.int .i64 i.deep,.int .i64 i.O,.bool i.M]
def VY(l:List RI):AV:=.sl (l.map fun i=>.agg i.cells)
def flF:Nat->Int->Bool->List S->List RI->List RI
 |0,i,e,l,out=>l.foldl (fun o s=>if o.length<=200 then o++[⟨s,13,i,e⟩]else o) out
 |m+1,i,e,l,out=>l.foldl (fun o s=>if o.length<=200 then flF m s.id true s.M (flF m s.id false s.L (o++[⟨s,13-((m+1:Nat):Int),i,e⟩]))else o) out
theorem ML:∀(m:Nat)(i:Int)(e:Bool)(l:List S)(out:List RI),out.length<=(flF m i e l out).length/\(flF m i e l out).length<=max out.length 201
 |0,i,e,[],out=>by show out.length<=out.length/\_;exact⟨z1l _,Nat.le_max_left _ _⟩
 |m+1,i,e,[],out=>by show out.length<=out.length/\_;exact⟨z1l _,Nat.le_max_left _ _⟩
 | 0,i,e,s::r,out=>by
   have h:=ML 0 i e r (if out.length<=200 then out++[⟨s,13,i,e⟩]else out);show out.length<=(flF 0 i e r (if out.length<=200 then out++[⟨s,13,i,e⟩]else out)).length/\(flF 0 i e r (if out.length<=200 then out++[⟨s,13,i,e⟩]else out)).length<=_;split at h
   .rw [if_pos (by assumption)];simp only[z0e,z2w]at h;omega
   .rw [if_neg (by assumption)];exact h
 | m+1,i,e,s::r,out=>by
   have h:=ML (m+1) i e r (if out.length<=200 then flF m s.id true s.M (flF m s.id false s.L (out++[⟨s,13-((m+1:Nat):Int),i,e⟩]))else out);show out.length<=(flF (m+1) i e r (if out.length<=200 then flF m s.id true s.M (flF m s.id false s.L (out++[⟨s,13-((m+1:Nat):Int),i,e⟩]))else out)).length/\(flF (m+1) i e r (if out.length<=200 then flF m s.id true s.M (flF m s.id false s.L (out++[⟨s,13-((m+1:Nat):Int),i,e⟩]))else out)).length<=_;split at h
   .rw [if_pos (by assumption)];have k:=ML m s.id false s.L (out++[⟨s,13-((m+1:Nat):Int),i,e⟩]);have n:=ML m s.id true s.M (flF m s.id false s.L (out++[⟨s,13-((m+1:Nat):Int),i,e⟩]));simp only[z0e,z2w]at k;omega
   .rw [if_neg (by assumption)];exact h
mutual
def fuS(d i:Int)(e:Bool):S->List RI
 |.mk id kind E name D x has args L M=>⟨.mk id kind E name D x has args L M,d,i,e⟩::(fuL (d+1) id false L++fuL (d+1) id true M)
def fuL(d i:Int)(e:Bool):List S->List RI
 |[]=>[]
 |t::r=>fuS d i e t++fuL d i e r
end
def Pb(d i:Int)(e:Bool)(t:S):fuS d i e t=⟨t,d,i,e⟩::(fuL (d+1) t.id false t.L++fuL (d+1) t.id true t.M):=by
 cases t;rw[fuS];rfl
mutual
theorem x6g(d i:Int)(e:Bool):∀t:S,(fuS d i e t).map RI.s=flS t
 | .mk id kind E name D x has args L M=>by
   rw[fuS,flS,z1t,z1v,NN _ _ _ L,NN _ _ _ M]
theorem NN(d i:Int)(e:Bool):∀l:List S,(fuL d i e l).map RI.s=flL l
 |[]=>by rw[fuL,flL];rfl
 |t::r=>by rw[fuL,flL,z1v,x6g _ _ _ t,NN _ _ _ r]
end
def UU(d i:Int)(e:Bool)(l:List S):(fuL d i e l).length=QY l:=by
 rw[<-Hp,<-NN d i e l,z0s]
def WJ{nest seen m:Int}{s:S}(h:Gh nest seen s=some m):oneOk s=true/\s.id=seen+1/\∃k,WY (nest+1) (seen+1) s.L=some k/\WY (nest+1) k s.M=some m:=by
 rw[q0j]at h;split at h
 .cases h
 split at h
 .cases h
 rename_i p;cases n:namesB s.E<;>rw[n]at h
 .cases h
 cases l:UW s<;>rw[l]at h
 .cases h
 simp only[z1n]at h;split at h
 .rename_i k o;exact⟨by unfold oneOk;rw[n,l];rfl,by omega,k,o,h⟩
 .cases h
def ZY{nest seen m:Int}{s:S}{r:List S}(h:WY nest seen (s::r)=some m):nest<=12/\∃k,Gh nest seen s=some k/\WY nest k r=some m:=by
 rw[WY]at h;split at h
 .cases h
 rename_i n;split at h
 .rename_i k l;exact⟨by omega,k,l,h⟩
 .cases h
mutual
theorem x4w(d i:Int)(e:Bool):∀(t:S){n m:Int},d<=12->Gh d n t=some m->∀x∈fuS d i e t,x.deep<=12/\oneOk x.s=true
 | .mk id kind E name D x has args L M,n,m,hd,h,y,hy=>by
   obtain⟨h1,_,m1,h2,h3⟩:=WJ h;rw[fuS]at hy;rcases z1g.1 hy with rfl|hy
   ·exact⟨hd,h1⟩
   ·rcases z0o.1 hy with hy|hy
    ·exact CT _ _ _ L h2 y hy
    ·exact CT _ _ _ M h3 y hy
theorem CT(d i:Int)(e:Bool):∀(l:List S){n m:Int},WY d n l=some m->∀x∈fuL d i e l,x.deep<=12/\oneOk x.s=true
 |[],n,m,h,y,hy=>by rw[fuL]at hy;cases hy
 | t::r,n,m,h,y,hy=>by
   obtain⟨h1,m1,h2,h3⟩:=ZY h;rw[fuL]at hy;rcases z0o.1 hy with hy|hy
   ·exact x4w _ _ _ t h1 h2 y hy
   ·exact CT _ _ _ r h3 y hy
end
def x4x:∀(k:Nat)(l:List S)(i:Int)(e:Bool)(out:List RI)(seen m:Int),WY (13-(k:Int)) seen l=some m->out.length+QY l<=200->flF k i e l out=out++fuL (13-(k:Int)) i e l:=by
 intro k;induction k with
 | zero=>
   intro l i e out seen m h n;cases l with
   |nil=>rw[fuL,z2y];rfl
   | cons s r=>
     have:=(ZY h).1;simp at this
 | succ k u=>
   intro l;induction l with
   |nil=>intro i e out seen m h n;rw[fuL,z2y];rfl
   | cons s r o=>
     intro i e out seen m h n;obtain⟨x,y,v,w⟩:=ZY h;obtain⟨_,_,z,q,t⟩:=WJ v;have p:(13:Int)-((k+1:Nat):Int)+1=13-(k:Int):=by omega
     rw[p]at q t;rw[QY,VU]at n;show flF (k+1) i e r (if out.length<=200 then flF k s.id true s.M (flF k s.id false s.L (out++[⟨s,13-((k+1:Nat):Int),i,e⟩]))else out)=_;rw[if_pos (by omega),u s.L s.id false _ _ _ q (by simp;omega),u s.M s.id true _ _ _ t (by simp[UU];omega),o i e _ _ _ w (by simp[UU];omega),fuL,Pb,p];simp
def UV(f:Pr):List RI:=flF 12 0 false f.body []
def MH(l:List Pr)(out:List RI):List RI:=l.foldl (fun o f=>if o.length<=200 then o++UV f else o) out
def allR(p:Pg):List RI:=MH p.A []
def flatU(f:Pr):List RI:=fuL 1 0 false f.body
theorem D1:∀(l:List Pr){n m:Int},ZK n l=some m->∀f∈l,DG f=true/\∃a b,WY 1 a f.body=some b
 |[],_,_,_,f,k=>by cases k
 | g::r,n,m,h,f,k=>by
   rw[ZK]at h;cases o:DG g<;>rw[o]at h
   .cases h
   simp only[z1n]at h;split at h
   .rename_i q p;rcases z1g.1 k with rfl|k
    .exact ⟨o,_,_,p⟩
    .exact D1 r h f k
   .cases h
def Yk{p:Pg}(h:UG p=true):p.C.length<=16/\p.A.length<=16/\namesB p.C=true/\∀f∈p.A,DG f=true/\∃a b,WY 1 a f.body=some b:=by
 unfold UG at h;simp only[z1p,z2z]at h;obtain⟨⟨⟨n,o⟩,q⟩,k⟩:=h;refine⟨n,o,q,?_⟩;cases l:ZK 0 p.A with
 |none=>rw[l]at k;cases k
 |some m=>exact D1 p.A l
theorem UC:∀(l:List Pr)(f:Pr),f∈l->QY f.body<=cntP l
 |[],f,h=>by cases h
 | g::r,f,h=>by
   rw[cntP];rcases z1g.1 h with rfl|h
   .omega
   .have:=UC r f h;omega
def VL{p:Pg}(h:UG p=true){f:Pr}(k:f∈p.A):UV f=flatU f:=by
 obtain⟨_,_,_,l⟩:=Yk h;obtain⟨_,a,b,m⟩:=l f k;have n:=(ZR h).2.2;have o:=UC _ f k;have:=x4x 12 f.body 0 false [] a b m (by simp;omega);simpa[UV,flatU]using this
theorem CW:∀(l:List Pr)(out:List RI),(∀f∈l,UV f=flatU f)->out.length+cntP l<=200->MH l out=out++l.flatMap flatU
 |[],out,_,_=>by show out=_;simp
 | f::r,out,h,hl=>by
   rw[cntP]at hl;show MH r (if out.length<=200 then out++UV f else out)=_;have e:=UU 1 0 false f.body;rw[if_pos (by omega),h f z1j,CW r _ (fun g k=>h g (z1x _ k)) (by simp only[flatU,z0e,e];omega)];simp
def Y2{p:Pg}(h:UG p=true):allR p=p.A.flatMap flatU:=by
 have:=CW p.A [] (fun f k=>VL h k) (by have:=(ZR h).2.2;simpa using this);simpa[allR]using this
def IZ{p:Pg}(h:UG p=true):∀x∈p.A.flatMap flatU,x.deep<=12/\oneOk x.s=true:=by
 intro x k;obtain⟨f,n,k⟩:=z1c.1 k;obtain⟨_,_,_,l⟩:=Yk h;obtain⟨_,a,b,m⟩:=l f n;exact CT 1 0 false f.body m x k
theorem Vv:∀(l:List Pr){n:Nat}{m:Int},ZK n l=some m->(l.flatMap fun f=>flL f.body).map S.id=GM n (cntP l)
 |[],n,m,_=>by rw[cntP];rfl
 | g::r,n,m,h=>by
   rw[ZK]at h;cases s:DG g<;>rw[s]at h
   .cases h
   simp only[z1n]at h;split at h
   .rename_i t k;have p:=WP _ _ g.body k;have o:ZK ((n+QY g.body:Nat):Int) r=some m:=by rw[<-h,p];rfl
    have q:=Vv r o;rw[z2d,z1v,GS 1 g.body k,q,cntP,PJ]
   .cases h
def q7b(l:List Pr):(l.flatMap flatU).map RI.s=l.flatMap fun f=>flL f.body:=by
 induction l with
 |nil=>rfl
 | cons f r h=>
   rw[z2d,z2d,z1v,h];congr 1;exact NN _ _ _ _
def Wh(l:List Pr):(l.flatMap flatU).length=cntP l:=by
 induction l with
 |nil=>rfl
 |cons f r h=>rw[z2d,z0e,h,cntP];congr 1;exact UU _ _ _ _
def q3u{p:Pg}(h:UG p=true){k:Nat}{x:RI}(r:(p.A.flatMap flatU)[k]?=some x):x.s.id=(k:Int)+1:=by
 unfold UG at h;simp only[z1p,z2z]at h;cases t:ZK 0 p.A with
 |none=>rw[t]at h;cases h.2
 | some m=>
   have q:=Vv p.A (n:=0) t;rw[<-q7b]at q;have l:(((p.A.flatMap flatU).map RI.s).map S.id)[k]?=some x.s.id:=by simp[r]
   rw[q]at l;unfold GM at l;have o:k<cntP p.A:=by rw[<-Wh];exact(z1k.1 r).1
   rw[z1u,z5c o]at l;simp at l;omega
def riH(t:Nat)(out:List RI):Heap:=[(2000,.own t 16 (out.map fun i=>.agg i.cells))]
def x1t{t:Nat}{out:List RI}{x:RI}:riH t (out++[x])=[(2000,.own t 16 ((out.map fun i=>.agg i.cells)++[.agg x.cells]))]:=by simp[riH]
def WU(l:List RI):(l.map fun i=>AV.agg i.cells).length=l.length:=z0s _
def q3o{l:List S}{o:List RI}(k:j<l.length)(h:o.length<=200):flF 0 i e (l.drop j) o=flF 0 i e (l.drop (j+1)) (o++[⟨l[j],13,i,e⟩]):=by
 rw[QP k];show flF 0 i e (l.drop (j+1)) (if o.length<=200 then _ else _)=_;rw[if_pos h]
def x0q{m:Nat}{l:List S}{o:List RI}(k:j<l.length)(h:o.length<=200):flF (m+1) i e (l.drop j) o=flF (m+1) i e (l.drop (j+1)) (flF m l[j].id true l[j].M (flF m l[j].id false l[j].L (o++[RI.mk l[j] (13-((m+1:Nat):Int)) i e]))):=by
 rw[QP k];show flF (m+1) i e (l.drop (j+1)) (if o.length<=200 then _ else _)=_;rw[if_pos h]
theorem Ka:∀(m:Nat){i:Int}{e:Bool}{l:List S}{o:List RI},¬o.length<=200->flF m i e l o=o
 |0,i,e,[],o,_=>rfl
 |m+1,i,e,[],o,_=>rfl
 | 0,i,e,s::r,o,h=>by
   show flF 0 i e r (if o.length<=200 then _ else o)=o;rw[if_neg h];exact Ka 0 h
 | m+1,i,e,s::r,o,h=>by
   show flF (m+1) i e r (if o.length<=200 then _ else o)=o;rw[if_neg h];exact Ka (m+1) h
def II(m:Nat){o:List RI}:flF m i e [] o=o:=by cases m<;>rfl
def J7:∀(m:Nat)(_:m<=12)(l:List S)(i:Int)(e:Bool)(out:List RI),
  aH 147 [.p (eSs l),.j (13-(m:Int)),.j i,.p (.bool e),.hd 2000 0 out.length] (riH 152 out) (.hd 2000 0 (flF m i e l out).length) (riH 152 (flF m i e l out)):=by
 intro m;induction m with
 | zero=>
   intro _ l i e out;have q:=S.avs_len l;refine sK HY func147 ?_;conv=>whnf
   skip
   refine lI (fun x:Nat×List RI=>⟨[(0,.p (eSs l)),(1,.j (13-((0:Nat):Int))),(2,.j i),(3,.p (.bool e)),(4,.hd 2000 0 x.2.length),(11,.j x.1)],riH 152 x.2⟩) (fun x=>x.1<=l.length/\flF 0 i e (l.drop x.1) x.2=flF 0 i e l out) (fun x=>l.length-x.1) (0,out) ⟨z1q _,rfl⟩ ?_;rintro⟨j,o⟩ ⟨n,h⟩;simp only at n h⊢;have r:=WU o;rcases z1w j l.length with k|k
   .conv=>whnf
    repeat' ((first|(refine gX ?_;intros)|refine pA 1 232 (by simp) ?_|(apply bD<;>intro _<;>try omega))<;>conv=>whnf)
    .exact ⟨(j+1,o++[⟨l[j],13,i,e⟩]),⟨k,by rw[<-h,q3o k (by omega)]⟩,by simp only;omega,Le.of_eq (by simp only[x1t,z0e,z2w];rfl)⟩
    .rw [Ka 0 (by omega)]at h;exact⟨_,.refl _,by rw[<-h];exact⟨rfl,rfl⟩⟩
   .conv=>whnf
    repeat' ((first|(refine iM fun _=>?_)|(apply bD<;>intro _<;>try omega))<;>conv=>whnf)
    rw[z1b k,II]at h;exact⟨_,.refl _,by rw[<-h];exact⟨rfl,rfl⟩⟩
 | succ m s=>
   intro t l i e out;have q:=S.avs_len l;refine sK HY func147 ?_;conv=>whnf
   skip
   refine lI (fun x:Nat×List RI=>⟨[(0,.p (eSs l)),(1,.j (13-((m+1:Nat):Int))),(2,.j i),(3,.p (.bool e)),(4,.hd 2000 0 x.2.length),(11,.j x.1)],riH 152 x.2⟩) (fun x=>x.1<=l.length/\flF (m+1) i e (l.drop x.1) x.2=flF (m+1) i e l out) (fun x=>l.length-x.1) (0,out) ⟨z1q _,rfl⟩ ?_;rintro⟨j,o⟩ ⟨n,h⟩;simp only at n h⊢;have r:=WU o;rcases z1w j l.length with k|k
   .conv=>whnf
    repeat' ((first|(refine gX ?_;intros)|refine dA ?_|refine pA 1 232 (by simp) ?_|(apply bD<;>intro _<;>try omega))<;>conv=>whnf)
    .refine cJ rH2 0 (s (by omega) l[j].L l[j].id false (o++[RI.mk l[j] (13-((m+1:Nat):Int)) i e])) ?_ (ha:=(z1e (z2x _) (z1e (z5y (Sub.int (by omega))) (z1e (z2x _) (z1e (z5y (Sub.ff rfl)) (z1e (z6m (by rw[z0e];rfl)) z3a)))))) (hH:=by exact z1i (j:=2000) rfl rfl (CSub.of_eq (by rw[z1v];first|done|rfl)) z4x);rintro l' H' ⟨rfl,rfl⟩;conv=>whnf
     repeat' ((first|refine dA ?_|(refine gX ?_;intros))<;>conv=>whnf)
     refine cJ rH2 0 (s (by omega) l[j].M l[j].id true (flF m l[j].id false l[j].L (o++[RI.mk l[j] (13-((m+1:Nat):Int)) i e]))) ?_ (ha:=(z1e (z2x _) (z1e (z5y (Sub.int (by omega))) (z1e (z2x _) (z1e (z5y (Sub.tt rfl)) (z1e (z2x _) z3a)))))) (hH:=by exact z1i (j:=2000) rfl rfl (CSub.refl _) z4x);rintro l' H' ⟨rfl,rfl⟩;conv=>whnf
     repeat' (refine wI ?_;conv=>whnf)
     exact nX (j+1,flF m l[j].id true l[j].M (flF m l[j].id false l[j].L (o++[RI.mk l[j] (13-((m+1:Nat):Int)) i e]))) ⟨k,by rw[<-h,x0q k (by omega)]⟩
    .rw [Ka (m+1) (by omega)]at h;exact⟨_,.refl _,by rw[<-h];exact⟨rfl,rfl⟩⟩
   .conv=>whnf
    repeat' ((first|(refine iM fun _=>?_)|(apply bD<;>intro _<;>try omega))<;>conv=>whnf)
    rw[z1b k,II]at h;exact⟨_,.refl _,by rw[<-h];exact⟨rfl,rfl⟩⟩
def XU(f:Pr):aP 78 [.agg f.cells] (VY (UV f)):=by
 refine sC Xm func78 ?_;conv=>whnf
 skip
 refine CallK.nil 5 152 16 rfl (.cons rfl (.cons rfl (.cons rfl (.cons rfl (.row .nil))))) ?_;refine cJ [(2000,5)] 0 (J7 12 (by omega) f.body 0 false []) ?_;rintro l' H' ⟨rfl,rfl⟩;conv=>whnf
 exact⟨_,.hd rfl (by simp[UV]),rfl⟩
def Ex{l:List Pr}{o:List RI}(k:j<l.length)(h:o.length<=200):MH (l.drop j) o=MH (l.drop (j+1)) (o++UV l[j]):=by
 rw[QP k];show MH (l.drop (j+1)) (if o.length<=200 then _ else _)=_;rw[if_pos h]
theorem Be:∀{l:List Pr}{o:List RI},¬o.length<=200->MH l o=o
 |[],o,_=>rfl
 | f::r,o,h=>by
   show MH r (if o.length<=200 then _ else o)=o;rw[if_neg h];exact Be h
def BU(f:Pr):(UV f).length<=201:=by
 have:=(ML 12 0 false f.body []).2;simpa[UV]using this
def GU(p:Pg):aP 168 [.agg p.cells] (VY (allR p)):=by
 refine sC W7 func168 ?_;conv=>whnf
 repeat' ((refine iM fun _=>?_)<;>conv=>whnf)
 have u:(p.A.map fun f=>AV.agg f.cells).length=p.A.length:=z0s _;refine lJ (fun x:Nat×List RI=>⟨[(3,.hd 1 0 x.2.length),(7,.p (.sl (p.A.map fun f=>.agg f.cells))),(8,.p (.int .i64 (p.A.map fun f=>AV.agg f.cells).length)),(9,.j x.1)],[(1,.own 152 16 (x.2.map fun i=>.agg i.cells))]⟩) (fun x=>x.1<=p.A.length/\x.2.length<=200/\MH (p.A.drop x.1) x.2=allR p) (fun x=>p.A.length-x.1) (0,[]) (lM [(1,.own 152 16 [])]) ⟨z1q _,z1q _,rfl⟩ ?_;rintro⟨j,o⟩ ⟨t,q,m⟩;simp only at t m q⊢;have v:=WU o;rcases z1w j p.A.length with n|n
 .have r:=BU p.A[j];have l:=fun(h:o.length<=200)=>Ex n h;have s:=XU p.A[j];generalize z:UV p.A[j]=L at r l s;have k:=WU L;conv=>whnf
  repeat' ((first|(refine gX ?_;intros)|refine cP s ?_|refine AppK.mk (by simp) rfl (by rw[k];show(o.length+L.length)*232<=140737488355328;omega) (by rw[k];show o.length+L.length<=9223372036854775807;omega) (fun x w=>by obtain⟨y,_,rfl⟩:=z1z.1 w;exact⟨rfl,rfl⟩) ?_|(apply bD<;>intro _<;>try omega))<;>conv=>whnf)
  .refine ⟨_,.hd rfl (by simp),?_⟩;rw[<-m,l q,Be (by simp;omega),<-z1v];rfl
  .exact ⟨(j+1,o++L),⟨n,by simp;omega,by rw[<-m,l q]⟩,by simp only;omega,Le.of_eq (by simp only[z0e,z1v,z0s];rfl)⟩
 .conv=>whnf
  repeat' (apply bD<;>intro _<;>first|omega|conv=>whnf)
  rw[z1b n]at m;refine⟨_,.hd rfl (by simp),?_⟩;rw[<-m];simp[VY,MH]
structure MayF(p:Pg):Prop where
 gl:p.C.length<=16
 pl:p.A.length<=16
 gn:namesB p.C=true
 pr:∀f∈p.A,f.B.length<=8/\f.R.length<=16/\isName f.name=true/\namesB f.R=true/\namesB f.fin=true/\(f.B.all fun a=>isName a.name)=true
 len:(allR p).length<=200
 its:∀(k:Nat)(x:RI),(allR p)[k]?=some x->x.s.id=(k:Int)+1/\x.deep<=12/\oneOk x.s=true
def KD{p:Pg}(h:UG p=true):MayF p:=by
 obtain⟨m,n,o,q⟩:=Yk h;refine⟨m,n,o,fun f r=>HD.1 (q f r).1,?_,fun k x l=>?_⟩
 .rw [Y2 h,Wh];exact(ZR h).2.2
 .rw [Y2 h]at l;exact⟨q3u h l,IZ h x (z1d l)⟩
def Pr0:Pr:=⟨[],[],[],[],[]⟩
def JF(p:Pg)(n:Str):Pr×Bool:=match p.A.find? (fun f=>f.name==n)with
 |some f=>(f,true)
 |none=>(Pr0,false)
def Cb:Sub (.agg [.str [],.nils,.nils,.nils,.nils]) (.agg Pr0.cells):=Sub.agg (SubL.cons (Sub.refl _) (SubL.cons Sub.nils (SubL.cons Sub.nils (SubL.cons Sub.nils (SubL.cons Sub.nils SubL.nil)))))
def Xz:List Str->Nat
 |[]=>0
 |s::r=>1+s.length+Xz r
mutual
def gXx:X->Nat
 |.mk _ _ name kids=>1+name.length+gXs kids
def gXs:List X->Nat
 |[]=>0
 |x::r=>gXx x+gXs r
end
def Bz:List Arg->Nat
 |[]=>0
 |a::r=>gXx a.x+(1+a.name.length)+Bz r
mutual
def gS:S->Nat
 |.mk _ _ E name D x _ args L M=>gXx x+Xz E+(1+name.length)+(1+D.length)+Bz args+gL L+gL M
def gL:List S->Nat
 |[]=>0
 |s::r=>gS s+gL r
end
def q2n:List Param->Nat
 |[]=>0
 |a::r=>1+a.name.length+q2n r
def gPr(f:Pr):Nat:=1+f.name.length+Xz f.R+Xz f.fin+q2n f.B+gL f.body
def SB:List Pr->Nat
 |[]=>0
 |f::r=>gPr f+SB r
def gPg(p:Pg):Nat:=Xz p.C+SB p.A
def x6h(s:S):gS s=gXx s.x+Xz s.E+(1+s.name.length)+(1+s.D.length)+Bz s.args+gL s.L+gL s.M:=by
 cases s;rw[gS];rfl
theorem Sh:∀l:List Str,q2s l<=Xz l
 |[]=>z1l _
 |s::r=>by have:=Sh r;simp only[q2s,Xz];omega
mutual
theorem x8s:∀x:X,wX x<=gXx x
 |.mk _ _ name kids=>by have:=x5p kids;rw[wX,gXx];omega
theorem x5p:∀l:List X,wXs l<=gXs l
 |[]=>by rw[wXs];omega
 |x::r=>by have:=x8s x;have:=x5p r;rw[wXs,gXs];omega
end
theorem q2b:∀l:List Arg,J3 l<=Bz l
 |[]=>z1l _
 |a::r=>by have:=q2b r;have:=x8s a.x;simp only[J3,Bz];omega
mutual
theorem z0t:∀s:S,wS s<=gS s
 | .mk _ _ E name D x _ args L M=>by
   have:=x8s x;have:=Sh E;have:=q2b args;have:=x6q L;have:=x6q M;rw[wS,gS];omega
theorem x6q:∀l:List S,wL l<=gL l
 |[]=>by rw[wL];omega
 |s::r=>by have:=z0t s;have:=x6q r;rw[wL,gL];omega
end
theorem q9u:∀l:List Param,x3j l<=q2n l
 |[]=>z1l _
 |a::r=>by have:=q9u r;simp only[x3j,q2n];omega
theorem q9y:∀l:List Pr,q9v l<=SB l
 |[]=>z1l _
 | f::r=>by
   have:=q9y r;have:=Sh f.R;have:=Sh f.fin;have:=q9u f.B;have:=x6q f.body;simp only[q9v,SB,wPr,gPr];omega
def x8t(p:Pg):wPg p<=gPg p:=by
 have:=Sh p.C;have:=q9y p.A;unfold wPg gPg;omega
def XR(x:Int):Int:=if x>20000 then 20001 else x
def ZS{a b:Int}(h:0<=b):XR (XR a+b)=XR (a+b):=by
 unfold XR;split<;>split<;>(try split)<;>omega
def ZD{a:Int}(h:0<=a):0<=XR a/\XR a<=20001:=by
 unfold XR;split<;>omega
def Lp{a:Int}(h:a<=20001):XR a=a:=by
 unfold XR;split<;>omega
def KM{a b:Int}(h:a>20000)(k:a<=20001)(l:0<=b):a=XR (a+b):=by
 unfold XR;split<;>omega
def XX(s:Str)(n:Int)(h:0<=n/\n<=20001):aP 28 [.str s,.int .i64 n] (.int .i64 (XR (n+(1+s.length:Nat)))):=by
 refine sC DA func28 ?_;conv=>whnf
 repeat' ((first|(refine gX ?_;intros)|(apply bD<;>intro _<;>try omega))<;>conv=>whnf)
 all_goals exact RetK.int (by unfold XR;(repeat' split)<;>omega)
def ZW(l:List Str)(n:Int)(s:0<=n/\n<=20001):aP 27 [eStrs l,.int .i64 n] (.int .i64 (XR (n+Xz l))):=by
 refine sC FI func27 ?_;conv=>whnf
 skip
 have t:(l.map AV.str).length=l.length:=z0s _;refine lI (fun x:Nat×Int=>⟨[(0,.p (eStrs l)),(1,.j x.2),(5,.j x.1)],[]⟩) (fun x=>x.1<=l.length/\(0<=x.2/\x.2<=20001)/\XR (x.2+Xz (l.drop x.1))=XR (n+Xz l)) (fun x=>l.length-x.1) (0,n) ⟨z1q _,s,rfl⟩ ?_;rintro⟨j,m⟩ ⟨q,k,h⟩;simp only at q k h⊢;rcases z1w j l.length with o|o
 .rw [z2v o,Xz]at h;conv=>whnf
  repeat' ((first|(refine gX ?_;intros)|refine cP (XX _ _ k) ?_|(apply bD<;>intro _<;>try omega))<;>conv=>whnf)
  .have r:XR (XR (m+(1+l[j].length:Nat))+Xz (l.drop (j+1)))=XR (n+Xz l):=by
    rw[ZS (by omega),<-h];congr 1;omega
   exact nX (j+1,XR (m+(1+l[j].length:Nat))) ⟨by simp only;omega,ZD (by omega),r⟩
  .exact RetK.int (by rw[<-h];exact KM (by omega) k.2 (by omega))
 .rw [z1b o,Xz]at h;conv=>whnf
  repeat' ((first|(refine iM fun _=>?_)|(apply bD<;>intro _<;>try omega))<;>conv=>whnf)
  exact RetK.int (by rw[<-h,Lp (by omega)];simp)
def JR:∀(k:Nat)(x:X)(_:gXx x<k)(n:Int)(_:0<=n/\n<=20001),aP 62 [.agg x.cells,.int .i64 n] (.int .i64 (XR (n+gXx x))):=by
 intro k;induction k with
 |zero=>intro x h;omega
 | succ k v=>
   intro x d n c;have u:gXx x=1+x.name.length+gXs x.kids:=by cases x;rw[gXx];rfl
   have b:=X.avs_len x.kids;refine sC DC func62 ?_;conv=>whnf
   repeat' (refine cP (XX _ _ c) ?_;conv=>whnf)
   refine lI (fun y:Nat×Int=>⟨[(1,.j y.2),(2,.p (.ip x.cells)),(5,.j y.1)],[]⟩) (fun y=>y.1<=x.kids.length/\(0<=y.2/\y.2<=20001)/\XR (y.2+gXs (x.kids.drop y.1))=XR (n+gXx x)) (fun y=>x.kids.length-y.1) (0,XR (n+(1+x.name.length:Nat))) ⟨z1q _,ZD (by omega),by
    show XR (XR (n+(1+x.name.length:Nat))+gXs x.kids)=_;rw[ZS (by omega),u];congr 1;omega⟩ ?_
   rintro⟨j,m⟩ ⟨w,s,o⟩;simp only at w s o⊢;rcases z1w j x.kids.length with q|q
   .rw [z2v q,gXs]at o;have t:gXx x.kids[j]<k:=by
     have:∀(l:List X)(y:X),y∈l->gXx y<=gXs l:=fun l=>by
      induction l with
      |nil=>intro y h;cases h
      | cons a r v=>
        intro y h;rw[gXs];rcases z1g.1 h with rfl|h
        .omega
        .have:=v y h;omega
     have:=this x.kids _ (z1h q);omega
    conv=>whnf
    repeat' ((first|(refine gX ?_;intros)|refine cP (v (x.kids[j]'q) t m s) ?_|(apply bD<;>intro _<;>try omega))<;>conv=>whnf)
    .have z:XR (XR (m+gXx x.kids[j])+gXs (x.kids.drop (j+1)))=XR (n+gXx x):=by
      rw[ZS (by omega),<-o];congr 1;omega
     exact nX (j+1,XR (m+gXx x.kids[j])) ⟨by simp only;omega,ZD (by omega),z⟩
    .exact RetK.int (by rw[<-o];exact KM (by omega) s.2 (by omega))
   .rw [z1b q,gXs]at o;conv=>whnf
    repeat' ((first|(refine iM fun _=>?_)|(apply bD<;>intro _<;>try omega))<;>conv=>whnf)
    exact RetK.int (by rw[<-o,Lp (by omega)];simp)
theorem q7c:∀(l:List S)(y:S),y∈l->gS y<=gL l
 |[],y,h=>by cases h
 | a::r,y,h=>by
   rw[gL];rcases z1g.1 h with rfl|h
   .omega
   .have:=q7c r y h;omega
def JG:∀(k:Nat)(l:List S)(_:gL l<k)(n:Int)(_:0<=n/\n<=20001),aP 29 [eSs l,.int .i64 n] (.int .i64 (XR (n+gL l))):=by
 intro k;induction k with
 |zero=>intro l h;omega
 | succ k v=>
   intro l O n G;have F:=S.avs_len l;refine sC FE func29 ?_;conv=>whnf
   skip
   refine lI (fun y:Nat×Int=>⟨[(0,.p (eSs l)),(1,.j y.2),(5,.j y.1)],[]⟩) (fun y=>y.1<=l.length/\(0<=y.2/\y.2<=20001)/\XR (y.2+gL (l.drop y.1))=XR (n+gL l)) (fun y=>l.length-y.1) (0,n) ⟨z1q _,G,rfl⟩ ?_;rintro⟨j,m⟩ ⟨g,z,q⟩;simp only at g z q⊢;rcases z1w j l.length with u|u;rotate_left 1
   .rw [z1b u,gL]at q;conv=>whnf
    repeat' ((first|(refine iM fun _=>?_)|(apply bD<;>intro _<;>try omega))<;>conv=>whnf)
    exact RetK.int (by rw[<-q,Lp (by omega)];simp)
   rw[z2v u,gL]at q;have H:=q7c l _ (z1h u);have b:=x6h l[j];have I:=ZD (a:=m+gXx l[j].x) (by omega);have J:=ZD (a:=XR (m+gXx l[j].x)+Xz l[j].E) (by omega);have K:=ZD (a:=XR (XR (m+gXx l[j].x)+Xz l[j].E)+(1+l[j].name.length:Nat)) (by omega);conv=>whnf
   repeat' ((first|(refine gX ?_;intros)|refine dA ?_|refine cP (JR (gXx l[j].x+1) l[j].x (by omega) m z) ?_|refine cP (ZW l[j].E _ I) ?_|refine cP (XX l[j].name _ J) ?_|refine cP (XX l[j].D _ K) ?_|(apply bD<;>intro _<;>try omega))<;>conv=>whnf)
   rotate_left 1
   .exact RetK.int (by rw[<-q];exact KM (by omega) z.2 (by omega))
   have d:=ZD (a:=XR (XR (XR (m+gXx l[j].x)+Xz l[j].E)+(1+l[j].name.length:Nat))+(1+l[j].D.length:Nat)) (by omega);have c:XR (XR (XR (XR (XR (m+gXx l[j].x)+Xz l[j].E)+(1+l[j].name.length:Nat))+(1+l[j].D.length:Nat))+(Bz l[j].args+(gL l[j].L+gL l[j].M+gL (l.drop (j+1))):Nat))=XR (n+gL l):=by
    rw[ZS (by omega),z7d,ZS (by omega),z7d,ZS (by omega),z7d,ZS (by omega),<-q,b];congr 1;omega
   generalize XR (XR (XR (XR (m+gXx l[j].x)+Xz l[j].E)+(1+l[j].name.length:Nat))+(1+l[j].D.length:Nat))=m0 at d c⊢;have C:(l[j].args.map fun a=>AV.agg a.cells).length=l[j].args.length:=z0s _;refine lI (fun y:Nat×Int=>⟨[(0,.p (eSs l)),(1,.j y.2),(5,.j j),(6,.p (.ip l[j].cells)),(7,.j y.1)],[]⟩) (fun y=>y.1<=l[j].args.length/\(0<=y.2/\y.2<=20001)/\XR (y.2+(Bz (l[j].args.drop y.1)+(gL l[j].L+gL l[j].M+gL (l.drop (j+1))):Nat))=XR (n+gL l)) (fun y=>l[j].args.length-y.1) (0,m0) ⟨z1q _,d,c⟩ ?_;rintro⟨a,o⟩ ⟨A,r,s⟩;simp only at A r s⊢;have fin:XR (o+(gL l[j].L+gL l[j].M+gL (l.drop (j+1)):Nat))=XR (n+gL l)->(0<=XR (XR (o+gL l[j].L)+gL l[j].M)/\XR (XR (o+gL l[j].L)+gL l[j].M)<=20001)/\XR (XR (XR (o+gL l[j].L)+gL l[j].M)+gL (l.drop (j+1)))=XR (n+gL l):=fun h=>by
    have:=ZD (a:=o+gL l[j].L) (by omega);refine⟨ZD (by omega),?_⟩;rw[ZS (by omega),z7d,ZS (by omega),<-h];congr 1;omega
   have f:=ZD (a:=o+gL l[j].L) (by omega);have t:o>20000->XR (o+(gL l[j].L+gL l[j].M+gL (l.drop (j+1)):Nat))=XR (n+gL l):=fun h=>by
    rw[<-s,<-KM h r.2 (by omega),<-KM h r.2 (by omega)]
   rcases z1w a l[j].args.length with ha|ha;rotate_left 1
   .have B:XR (o+(gL l[j].L+gL l[j].M+gL (l.drop (j+1)):Nat))=XR (n+gL l):=by
     rw[z1b ha,Bz,z3m]at s;exact s
    obtain⟨f1,f2⟩:=fin B;conv=>whnf
    repeat' ((first|(refine gX ?_;intros)|refine dA ?_|refine cP (v l[j].L (by omega) o r) ?_|refine cP (v l[j].M (by omega) _ f) ?_|(apply bD<;>intro _<;>try omega))<;>conv=>whnf)
    all_goals exact nX (j+1,XR (XR (o+gL l[j].L)+gL l[j].M)) ⟨by simp only;omega,f1,f2⟩
   rw[z2v ha,Bz]at s;have N:=ZD (a:=o+gXx l[j].args[a].x) (by omega);conv=>whnf
   repeat' ((first|(refine gX ?_;intros)|refine dA ?_|refine cP (JR (gXx l[j].args[a].x+1) l[j].args[a].x (by omega) o r) ?_|refine cP (XX l[j].args[a].name _ N) ?_|refine cP (v l[j].L (by omega) o r) ?_|refine cP (v l[j].M (by omega) _ f) ?_|(apply bD<;>intro _<;>try omega))<;>conv=>whnf)
   .have w:XR (XR (XR (o+gXx l[j].args[a].x)+(1+l[j].args[a].name.length:Nat))+(Bz (l[j].args.drop (a+1))+(gL l[j].L+gL l[j].M+gL (l.drop (j+1))):Nat))=XR (n+gL l):=by
     rw[ZS (by omega),z7d,ZS (by omega),<-s];congr 1;omega
    exact nX (a+1,XR (XR (o+gXx l[j].args[a].x)+(1+l[j].args[a].name.length:Nat))) ⟨by simp only;omega,ZD (by omega),w⟩
   .obtain ⟨f1,f2⟩:=fin (t (by omega));exact nX (j+1,XR (XR (o+gL l[j].L)+gL l[j].M)) ⟨by simp only;omega,f1,f2⟩
end Go.Ab
