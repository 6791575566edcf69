/- The reference's statements: what the program's own reading lets stand has the reference's marks. -/
import Derived.Test.YtgljdhjopolmcaaGreatInN9
set_option linter.all false
set_option maxRecDepth 100000
set_option maxHeartbeats 16000000
namespace Go.Ab
open Go.Proofs.Tryz
open Go.Proofs
variable {i:Int}{j:Nat}
def oneOk(s:S):Bool:=VW s&&namesB s.F
def hasXB(s:S):Bool:=decide (s.kind=1)||decide (s.kind=3)||decide (s.kind=5)||decide (s.kind=6)||(decide (s.kind=9)&&s.has)
structure OneF(s:S):Prop where
 F:namesB s.F=true
 lo:1<=s.kind
 hi:s.kind<=10
 x:hasXB s=true->mayXR s.x=true
 nox:hasXB s=false->noneB s.x=true
 has:s.has=true->s.kind=9
 name:s.kind=1\/s.kind=2\/s.kind=10->isName s.name=true
 noname:¬(s.kind=1\/s.kind=2\/s.kind=10)->(s.name==[])=true\/(s.kind=4/\isName s.name=true)
 D:s.kind=4->isName s.D=true
 noproc:s.kind≠4->(s.D==[])=true
 args:s.args.all argR=true
 noargs:s.kind≠4->s.args.length=0
 I:s.I.length=0\/s.kind=5\/s.kind=6
 L:s.L.length=0\/s.kind=5
def HC{s:Str}(h:isName s=true):(s==[])=false:=by
 cases s with
 |nil=>unfold isName at h;rw[dif_neg (by simp)]at h;cases h
 |cons a r=>rfl
def JZ{s:S}(h:oneOk s=true):OneF s:=by
 unfold oneOk at h;rw[x9g]at h;obtain⟨h,d⟩:=h;have r:s.args.all Zd=true->s.args.all argR=true:=fun h=>by
  rw[z0p]at h⊢;exact fun a ha=>q6s (h a ha)
 have key:∀(k:Int)(f:Flds),s.kind=k->Zh s.kind s.has (s.name==[])=some f->f.has=false/\(f.I=false->s.I.length=0)/\(f.L=false->s.L.length=0)/\(s.kind≠4->s.args.length=0)/\JR s.name f.name=true/\JR s.D f.D=true/\BF s.x f.x=true/\s.args.all argR=true:=fun k f l t=>by
  rw[Fg t]at h;simp only[x9g,z1b,z3u,z2s,Bool.not_eq_false',z1u,x9o]at h;obtain⟨⟨⟨⟨⟨⟨⟨e,o⟩,p⟩,v⟩,n⟩,w⟩,q⟩,A⟩:=h;refine⟨e,fun m=>?_,fun m=>?_,fun m=>?_,n,w,q,r A⟩
  .rcases o with o|o
   .rw [m]at o;cases o
   .omega
  .rcases p with p|p
   .rw [m]at p;cases p
   .omega
  .rcases v with v|v
   .exact absurd v m
   .omega
 have u:s.kind=1\/s.kind=2\/s.kind=3\/s.kind=4\/s.kind=5\/s.kind=6\/s.kind=7\/s.kind=8\/s.kind=9\/s.kind=10:=by
  unfold VW at h;split at h
  .cases h
  .rename_i f t;unfold Zh at t
   (repeat' split at t)<;>first|(cases t;done)|omega
 have fin:∀(k:Int)(f:Flds),s.kind=k->Zh s.kind s.has (s.name==[])=some f->(1<=k/\k<=10)->f.x=hasXB s->(s.has=true->f.has=true\/k=9)->((k=1\/k=2\/k=10)->f.name=true)->(¬(k=1\/k=2\/k=10)->f.name=false\/(k=4/\f.name = !(s.name==[])))->f.D=decide (k=4)->(f.I=true->k=5\/k=6)->(f.L=true->k=5)->OneF s:=fun k f l t K c C E z b F B=>by
  obtain⟨e,o,p,v,n,w,q,A⟩:=key k f l t;unfold BF at q;refine⟨d,by omega,by omega,fun m=>?_,fun m=>?_,fun m=>?_,fun m=>?_,fun m=>?_,fun m=>?_,fun m=>?_,A,v,?_,?_⟩
  .rw [c,m]at q;exact Ia q
  .rw [c,m]at q;exact q
  .rcases C m with y|y
   .rw [e]at y;cases y
   .omega
  .rw [E (by omega)]at n;exact n
  .rcases z (by omega)with y|⟨y,g⟩
   .rw [y]at n;exact .inl n
   .cases G:s.name==[]with
    |true=>exact .inl rfl
    | false=>
      rw[g,G]at n;exact .inr ⟨by omega,n⟩
  .rw [b,z0r (by omega)]at w;exact w
  .rw [b,z0s (by omega)]at w;exact w
  .cases J:f.I with
   |true=>exact .inr (by have:=F J;omega)
   |false=>exact .inl (o J)
  .cases H:f.L with
   |true=>exact .inr (by have:=B H;omega)
   |false=>exact .inl (p H)
 rcases u with l|l|l|l|l|l|l|l|l|l
 .exact fin 1 ⟨true,false,true,s.has,false,false⟩ l (by rw[l];rfl) (by omega) (by unfold hasXB;rw[l];rfl) (fun h=>.inl h) (fun _=>rfl) (fun h=>absurd (by omega) h) rfl (fun h=>by cases h) (fun h=>by cases h)
 .exact fin 2 ⟨true,false,false,s.has,false,false⟩ l (by rw[l];rfl) (by omega) (by unfold hasXB;rw[l];rfl) (fun h=>.inl h) (fun _=>rfl) (fun h=>absurd (by omega) h) rfl (fun h=>by cases h) (fun h=>by cases h)
 .exact fin 3 ⟨false,false,true,s.has,false,false⟩ l (by rw[l];rfl) (by omega) (by unfold hasXB;rw[l];rfl) (fun h=>.inl h) (fun h=>by omega) (fun _=>.inl rfl) rfl (fun h=>by cases h) (fun h=>by cases h)
 .exact fin 4 ⟨!(s.name==[]),true,false,s.has,false,false⟩ l (by rw[l];rfl) (by omega) (by unfold hasXB;rw[l];rfl) (fun h=>.inl h) (fun h=>by omega) (fun _=>.inr ⟨rfl,rfl⟩) rfl (fun h=>by cases h) (fun h=>by cases h)
 .exact fin 5 ⟨false,false,true,s.has,true,true⟩ l (by rw[l];rfl) (by omega) (by unfold hasXB;rw[l];rfl) (fun h=>.inl h) (fun h=>by omega) (fun _=>.inl rfl) rfl (fun _=>.inl rfl) (fun _=>rfl)
 .exact fin 6 ⟨false,false,true,s.has,true,false⟩ l (by rw[l];rfl) (by omega) (by unfold hasXB;rw[l];rfl) (fun h=>.inl h) (fun h=>by omega) (fun _=>.inl rfl) rfl (fun _=>.inr rfl) (fun h=>by cases h)
 .exact fin 7 ⟨false,false,false,s.has,false,false⟩ l (by rw[l];rfl) (by omega) (by unfold hasXB;rw[l];rfl) (fun h=>.inl h) (fun h=>by omega) (fun _=>.inl rfl) rfl (fun h=>by cases h) (fun h=>by cases h)
 .exact fin 8 ⟨false,false,false,s.has,false,false⟩ l (by rw[l];rfl) (by omega) (by unfold hasXB;rw[l];rfl) (fun h=>.inl h) (fun h=>by omega) (fun _=>.inl rfl) rfl (fun h=>by cases h) (fun h=>by cases h)
 .exact fin 9 ⟨false,false,s.has,false,false,false⟩ l (by rw[l];rfl) (by omega) (by unfold hasXB;rw[l];cases s.has<;>rfl) (fun _=>.inr rfl) (fun h=>by omega) (fun _=>.inl rfl) rfl (fun h=>by cases h) (fun h=>by cases h)
 .exact fin 10 ⟨true,false,false,s.has,false,false⟩ l (by rw[l];rfl) (by omega) (by unfold hasXB;rw[l];rfl) (fun h=>.inl h) (fun _=>rfl) (fun h=>absurd (by omega) h) rfl (fun h=>by cases h) (fun h=>by cases h)
def JB(n c:Nat):List Int:=(List.range' (n+1) c).map fun(k:Nat)=>(k:Int)
def YT(n a b:Nat):JB n (a+b)=JB n a++JB (n+a) b:=by
 unfold JB;rw[<-x8a,show n+a+1=n+1+1*a by omega,List.range'_append]
def Ss(n:Nat):JB n 1=[((n+1:Nat):Int)]:=by simp[JB]
mutual
theorem q3q(nest:Int):∀(t:S){n:Nat}{m:Int},Hm nest n t=some m->(flS t).map S.id=JB n (XL t)
 | .mk id kind F name D x has args I L,n,m,h=>by
   simp only[Hm]at h;split at h
   ·cases h
   split at h
   ·cases h
   rename_i hid;cases hn:namesB F<;>rw[hn]at h
   ·cases h
   cases hf:VW (.mk id kind F name D x has args I L)<;>rw[hf]at h
   ·cases h
   simp only[x9z]at h;split at h
   ·rename_i m1 h1;have h1':UA (nest+1) ((n+1:Nat):Int) I=some m1:=by rw[<-h1];rfl
    have h2:=YC _ _ I h1';have h3:=DM (nest+1) I h1';have h':UA (nest+1) ((n+1+cntL I:Nat):Int) L=some m:=by rw[<-h,h2];rfl
    have h4:=DM (nest+1) L h';rw[flS,XL,x9c,x8a,h3,h4,show 1+cntL I+cntL L=1+(cntL I+cntL L) by omega,YT,Ss,YT];have:id=((n+1:Nat):Int):=by omega
    rw[show(S.mk id kind F name D x has args I L).id=id from rfl,this];rfl
   ·cases h
theorem DM(nest:Int):∀(l:List S){n:Nat}{m:Int},UA nest n l=some m->(flL l).map S.id=JB n (cntL l)
 |[],n,m,h=>by rw[flL,cntL];rfl
 | t::r,n,m,h=>by
   simp only[UA]at h;split at h
   ·cases h
   split at h
   ·rename_i m1 h1;have h2:=J7 _ _ t h1;have h3:=q3q nest t h1;have h':UA nest ((n+XL t:Nat):Int) r=some m:=by rw[<-h,h2];rfl
    have h4:=DM nest r h';rw[flL,cntL,x8a,h3,h4,YT]
   ·cases h
end
theorem D5:∀(l:List Pr){n:Nat}{m:Int},XO n l=some m->∀(j:Nat)(f:Pr),l[j]?=some f->(flL f.body).map S.id=JB (n+offN l j) (cntL f.body)
 |[],_,_,_,j,f,hj=>by simp at hj
 | g::r,n,m,h,j,f,hj=>by
   rw[XO]at h;cases q:HX g<;>rw[q]at h
   .cases h
   simp only[x9z]at h;split at h
   .rename_i s k;cases j with
    | zero=>
      simp at hj;subst hj;exact DM 1 g.body k
    | succ j=>
      have p:=YC _ _ g.body k;have o:XO ((n+cntL g.body:Nat):Int) r=some m:=by rw[<-h,p];rfl
      have:=D5 r o j f (by simpa using hj);rw[offN,this,z1j]
   .cases h
def Tt{p:Pg}(h:YV p=true){f:Pr}(l:p.A[j]?=some f):(flL f.body).map S.id=JB (offN p.A j) (cntL f.body):=by
 unfold YV at h;simp only[x9g]at h;cases k:XO 0 p.A with
 |none=>rw[k]at h;cases h.2
 | some m=>
   have:=D5 p.A (n:=0) k j f l;simpa using this
def Sr{n c:Nat}{a:Int}(h:a∈JB n c):(n:Int)+1<=a/\a<=n+c:=by
 unfold JB at h;obtain⟨k,l,rfl⟩:=x8c.1 h;rw[List.mem_range']at l;obtain⟨i,m,rfl⟩:=l;omega
def okI(k h:Nat)(x:Int):Prop:=x = -1\/((k:Int)+1<=x/\x<=h)
mutual
theorem q7z(D:Int)(lo hi:Nat):∀(t:S)(up nx loop:Int)(n:Nat)(it:Item),it∈itS D up nx loop n t->okI lo hi nx->(loop=0\/((lo:Int)+1<=loop/\loop<=hi))->lo<=n->n+XL t<=hi->
  okI lo hi it.next/\(it.loop=0\/((lo:Int)+1<=it.loop/\it.loop<=hi))
 | .mk id kind F name pr x has args I L,up,nx,loop,n,it,h,h1,h2,h3,h4=>by
   rw[itS]at h;rw[XL]at h4;rcases x8s.1 h with rfl|h
   ·exact⟨h1,h2⟩
   ·have h5:okI lo hi (if kind=6 then((n:Int)+1)else nx):=by
     split
     ·exact .inr ⟨by omega,by omega⟩
     ·exact h1
    have h6:(if kind=6 then((n:Int)+1)else loop)=0\/((lo:Int)+1<=(if kind=6 then((n:Int)+1)else loop)/\(if kind=6 then((n:Int)+1)else loop)<=hi):=by
     split
     ·exact .inr ⟨by omega,by omega⟩
     ·exact h2
    rcases x8e.1 h with h|h
    ·exact P5 D lo hi I _ _ _ _ it h h5 h6 (by omega) (by omega)
    ·exact P5 D lo hi L _ _ _ _ it h h5 h6 (by omega) (by omega)
theorem P5(D:Int)(lo hi:Nat):∀(l:List S)(up nx loop:Int)(n:Nat)(it:Item),it∈itL D up nx loop n l->okI lo hi nx->(loop=0\/((lo:Int)+1<=loop/\loop<=hi))->lo<=n->n+cntL l<=hi->
  okI lo hi it.next/\(it.loop=0\/((lo:Int)+1<=it.loop/\it.loop<=hi))
 |[],up,nx,loop,n,it,h,h1,h2,h3,h4=>by rw[itL]at h;cases h
 | t::r,up,nx,loop,n,it,h,h1,h2,h3,h4=>by
   rw[itL]at h;rw[cntL]at h4;rcases x8e.1 h with h|h
   ·refine q7z D lo hi t _ _ _ _ it h ?_ h2 h3 (by omega);cases r with
    |nil=>exact h1
    | cons u r=>
      have:1<=cntL (u::r):=by rw[cntL,WN];omega
      exact .inr ⟨by simp;omega,by simp;omega⟩
   ·exact P5 D lo hi r _ _ _ _ it h h1 h2 (by omega) (by omega)
end
theorem Zk:∀(l:List S)(v:S),v∈l->v∈flL l
 |[],v,h=>by cases h
 | t::r,v,h=>by
   rw[flL];rcases x8s.1 h with rfl|h
   .refine x8e.2 (.inl ?_);rw[Sk];exact x8l
   .exact x8e.2 (.inr (Zk r v h))
structure RI where
 s:S
 deep:Int
 inn:Int
 L:Bool
def RI.cells(i:RI):List AV:=i.s.cells++[.int .i64 i.deep,.int .i64 i.inn,.bool i.L]
def Ml(l:List RI):AV:=.sl (l.map fun i=>.agg i.cells)
def flF:Nat->Int->Bool->List S->List RI->List RI
 |0,i,e,l,out=>l.foldl (fun o s=>if o.length<=200 then o++[⟨s,13,i,e⟩]else o) out
 |m+1,i,e,l,out=>l.foldl (fun o s=>if o.length<=200 then flF m s.id true s.L (flF m s.id false s.I (o++[⟨s,13-((m+1:Nat):Int),i,e⟩]))else o) out
theorem PT:∀(m:Nat)(i:Int)(e:Bool)(l:List S)(out:List RI),out.length<=(flF m i e l out).length/\(flF m i e l out).length<=max out.length 201
 |0,i,e,[],out=>by show out.length<=out.length/\_;exact⟨x9h _,Nat.le_max_left _ _⟩
 |m+1,i,e,[],out=>by show out.length<=out.length/\_;exact⟨x9h _,Nat.le_max_left _ _⟩
 | 0,i,e,s::r,out=>by
   have h:=PT 0 i e r (if out.length<=200 then out++[⟨s,13,i,e⟩]else out);show out.length<=(flF 0 i e r (if out.length<=200 then out++[⟨s,13,i,e⟩]else out)).length/\(flF 0 i e r (if out.length<=200 then out++[⟨s,13,i,e⟩]else out)).length<=_;split at h
   .rw [if_pos (by assumption)];simp only[x8m,x9a]at h;omega
   .rw [if_neg (by assumption)];exact h
 | m+1,i,e,s::r,out=>by
   have h:=PT (m+1) i e r (if out.length<=200 then flF m s.id true s.L (flF m s.id false s.I (out++[⟨s,13-((m+1:Nat):Int),i,e⟩]))else out);show out.length<=(flF (m+1) i e r (if out.length<=200 then flF m s.id true s.L (flF m s.id false s.I (out++[⟨s,13-((m+1:Nat):Int),i,e⟩]))else out)).length/\(flF (m+1) i e r (if out.length<=200 then flF m s.id true s.L (flF m s.id false s.I (out++[⟨s,13-((m+1:Nat):Int),i,e⟩]))else out)).length<=_;split at h
   .rw [if_pos (by assumption)];have k:=PT m s.id false s.I (out++[⟨s,13-((m+1:Nat):Int),i,e⟩]);have n:=PT m s.id true s.L (flF m s.id false s.I (out++[⟨s,13-((m+1:Nat):Int),i,e⟩]));simp only[x8m,x9a]at k;omega
   .rw [if_neg (by assumption)];exact h
mutual
def fuS(d i:Int)(e:Bool):S->List RI
 |.mk id kind F name D x has args I L=>⟨.mk id kind F name D x has args I L,d,i,e⟩::(fuL (d+1) id false I++fuL (d+1) id true L)
def fuL(d i:Int)(e:Bool):List S->List RI
 |[]=>[]
 |t::r=>fuS d i e t++fuL d i e r
end
def EE(d i:Int)(e:Bool)(t:S):fuS d i e t=⟨t,d,i,e⟩::(fuL (d+1) t.id false t.I++fuL (d+1) t.id true t.L):=by
 cases t;rw[fuS];rfl
mutual
theorem x3o(d i:Int)(e:Bool):∀t:S,(fuS d i e t).map RI.s=flS t
 | .mk id kind F name D x has args I L=>by
   rw[fuS,flS,x9c,x8a,Vw _ _ _ I,Vw _ _ _ L]
theorem Vw(d i:Int)(e:Bool):∀l:List S,(fuL d i e l).map RI.s=flL l
 |[]=>by rw[fuL,flL];rfl
 |t::r=>by rw[fuL,flL,x8a,x3o _ _ _ t,Vw _ _ _ r]
end
def DH(d i:Int)(e:Bool)(l:List S):(fuL d i e l).length=cntL l:=by
 rw[<-Vq,<-Vw d i e l,x8b]
def FW{nest seen m:Int}{s:S}(h:Hm nest seen s=some m):oneOk s=true/\s.id=seen+1/\∃k,UA (nest+1) (seen+1) s.I=some k/\UA (nest+1) k s.L=some m:=by
 rw[O3]at h;split at h
 .cases h
 split at h
 .cases h
 rename_i p;cases n:namesB s.F<;>rw[n]at h
 .cases h
 cases l:VW s<;>rw[l]at h
 .cases h
 simp only[x9z]at h;split at h
 .rename_i k o;exact⟨by unfold oneOk;rw[n,l];rfl,by omega,k,o,h⟩
 .cases h
def KH{nest seen m:Int}{s:S}{r:List S}(h:UA nest seen (s::r)=some m):nest<=12/\∃k,Hm nest seen s=some k/\UA nest k r=some m:=by
 rw[UA]at h;split at h
 .cases h
 rename_i n;split at h
 .rename_i k l;exact⟨by omega,k,l,h⟩
 .cases h
mutual
theorem x0d(d i:Int)(e:Bool):∀(t:S){n m:Int},d<=12->Hm d n t=some m->∀x∈fuS d i e t,x.deep<=12/\oneOk x.s=true
 | .mk id kind F name D x has args I L,n,m,hd,h,y,hy=>by
   obtain⟨h1,_,m1,h2,h3⟩:=FW h;rw[fuS]at hy;rcases x8s.1 hy with rfl|hy
   ·exact⟨hd,h1⟩
   ·rcases x8e.1 hy with hy|hy
    ·exact Sp _ _ _ I h2 y hy
    ·exact Sp _ _ _ L h3 y hy
theorem Sp(d i:Int)(e:Bool):∀(l:List S){n m:Int},UA d n l=some m->∀x∈fuL d i e l,x.deep<=12/\oneOk x.s=true
 |[],n,m,h,y,hy=>by rw[fuL]at hy;cases hy
 | t::r,n,m,h,y,hy=>by
   obtain⟨h1,m1,h2,h3⟩:=KH h;rw[fuL]at hy;rcases x8e.1 hy with hy|hy
   ·exact x0d _ _ _ t h1 h2 y hy
   ·exact Sp _ _ _ r h3 y hy
end
def x0k:∀(k:Nat)(l:List S)(i:Int)(e:Bool)(out:List RI)(seen m:Int),UA (13-(k:Int)) seen l=some m->out.length+cntL l<=200->flF k i e l out=out++fuL (13-(k:Int)) i e l:=by
 intro k;induction k with
 | zero=>
   intro l i e out seen m h n;cases l with
   |nil=>rw[fuL,z0k];rfl
   | cons s r=>
     have:=(KH h).1;simp at this
 | succ k u=>
   intro l;induction l with
   |nil=>intro i e out seen m h n;rw[fuL,z0k];rfl
   | cons s r o=>
     intro i e out seen m h n;obtain⟨x,y,v,w⟩:=KH h;obtain⟨_,_,z,q,t⟩:=FW v;have p:(13:Int)-((k+1:Nat):Int)+1=13-(k:Int):=by omega
     rw[p]at q t;rw[cntL,WN]at n;show flF (k+1) i e r (if out.length<=200 then flF k s.id true s.L (flF k s.id false s.I (out++[⟨s,13-((k+1:Nat):Int),i,e⟩]))else out)=_;rw[if_pos (by omega),u s.I s.id false _ _ _ q (by simp;omega),u s.L s.id true _ _ _ t (by simp[DH];omega),o i e _ _ _ w (by simp[DH];omega),fuL,EE,p];simp
def VC(f:Pr):List RI:=flF 12 0 false f.body []
def PK(l:List Pr)(out:List RI):List RI:=l.foldl (fun o f=>if o.length<=200 then o++VC f else o) out
def allR(p:Pg):List RI:=PK p.A []
def flatU(f:Pr):List RI:=fuL 1 0 false f.body
theorem Kt:∀(l:List Pr){n m:Int},XO n l=some m->∀f∈l,HX f=true/\∃a b,UA 1 a f.body=some b
 |[],_,_,_,f,k=>by cases k
 | g::r,n,m,h,f,k=>by
   rw[XO]at h;cases o:HX g<;>rw[o]at h
   .cases h
   simp only[x9z]at h;split at h
   .rename_i q p;rcases x8s.1 k with rfl|k
    .exact ⟨o,_,_,p⟩
    .exact Kt r h f k
   .cases h
def Vn{p:Pg}(h:YV p=true):p.B.length<=16/\p.A.length<=16/\namesB p.B=true/\∀f∈p.A,HX f=true/\∃a b,UA 1 a f.body=some b:=by
 unfold YV at h;simp only[x9g,x9o]at h;obtain⟨⟨⟨n,o⟩,q⟩,k⟩:=h;refine⟨n,o,q,?_⟩;cases l:XO 0 p.A with
 |none=>rw[l]at k;cases k
 |some m=>exact Kt p.A l
theorem Zx:∀(l:List Pr)(f:Pr),f∈l->cntL f.body<=cntP l
 |[],f,h=>by cases h
 | g::r,f,h=>by
   rw[cntP];rcases x8s.1 h with rfl|h
   .omega
   .have:=Zx r f h;omega
def DU{p:Pg}(h:YV p=true){f:Pr}(k:f∈p.A):VC f=flatU f:=by
 obtain⟨_,_,_,l⟩:=Vn h;obtain⟨_,a,b,m⟩:=l f k;have n:=(ZM h).2.2;have o:=Zx _ f k;have:=x0k 12 f.body 0 false [] a b m (by simp;omega);simpa[VC,flatU]using this
theorem S8:∀(l:List Pr)(out:List RI),(∀f∈l,VC f=flatU f)->out.length+cntP l<=200->PK l out=out++l.flatMap flatU
 |[],out,_,_=>by show out=_;simp
 | f::r,out,h,hl=>by
   rw[cntP]at hl;show PK r (if out.length<=200 then out++VC f else out)=_;have e:=DH 1 0 false f.body;rw[if_pos (by omega),h f x8l,S8 r _ (fun g k=>h g (x8r _ k)) (by simp only[flatU,x8m,e];omega)];simp
def Bq{p:Pg}(h:YV p=true):allR p=p.A.flatMap flatU:=by
 have:=S8 p.A [] (fun f k=>DU h k) (by have:=(ZM h).2.2;simpa using this);simpa[allR]using this
def Ez{p:Pg}(h:YV p=true):∀x∈p.A.flatMap flatU,x.deep<=12/\oneOk x.s=true:=by
 intro x k;obtain⟨f,n,k⟩:=z0j.1 k;obtain⟨_,_,_,l⟩:=Vn h;obtain⟨_,a,b,m⟩:=l f n;exact Sp 1 0 false f.body m x k
theorem Zr:∀(l:List Pr){n:Nat}{m:Int},XO n l=some m->(l.flatMap fun f=>flL f.body).map S.id=JB n (cntP l)
 |[],n,m,_=>by rw[cntP];rfl
 | g::r,n,m,h=>by
   rw[XO]at h;cases s:HX g<;>rw[s]at h
   .cases h
   simp only[x9z]at h;split at h
   .rename_i t k;have p:=YC _ _ g.body k;have o:XO ((n+cntL g.body:Nat):Int) r=some m:=by rw[<-h,p];rfl
    have q:=Zr r o;rw[z0e,x8a,DM 1 g.body k,q,cntP,YT]
   .cases h
def q4x(l:List Pr):(l.flatMap flatU).map RI.s=l.flatMap fun f=>flL f.body:=by
 induction l with
 |nil=>rfl
 | cons f r h=>
   rw[z0e,z0e,x8a,h];congr 1;exact Vw _ _ _ _
def Z5(l:List Pr):(l.flatMap flatU).length=cntP l:=by
 induction l with
 |nil=>rfl
 |cons f r h=>rw[z0e,x8m,h,cntP];congr 1;exact DH _ _ _ _
def q0u{p:Pg}(h:YV p=true){k:Nat}{x:RI}(r:(p.A.flatMap flatU)[k]?=some x):x.s.id=(k:Int)+1:=by
 unfold YV at h;simp only[x9g,x9o]at h;cases t:XO 0 p.A with
 |none=>rw[t]at h;cases h.2
 | some m=>
   have q:=Zr p.A (n:=0) t;rw[<-q4x]at q;have l:(((p.A.flatMap flatU).map RI.s).map S.id)[k]?=some x.s.id:=by simp[r]
   rw[q]at l;unfold JB at l;have o:k<cntP p.A:=by rw[<-Z5];exact(x8t.1 r).1
   rw[x9x,z2e o]at l;simp at l;omega
def riH(t:Nat)(out:List RI):Heap:=[(2000,.own t 16 (out.map fun i=>.agg i.cells))]
def q8z{t:Nat}{out:List RI}{x:RI}:riH t (out++[x])=[(2000,.own t 16 ((out.map fun i=>.agg i.cells)++[.agg x.cells]))]:=by simp[riH]
def FX(l:List RI):(l.map fun i=>AV.agg i.cells).length=l.length:=x8b _
def q0o{e:Bool}{l:List S}{o:List RI}(k:j<l.length)(h:o.length<=200):flF 0 i e (l.drop j) o=flF 0 i e (l.drop (j+1)) (o++[⟨l[j],13,i,e⟩]):=by
 rw[QG k];show flF 0 i e (l.drop (j+1)) (if o.length<=200 then _ else _)=_;rw[if_pos h]
def q6m{m:Nat}{e:Bool}{l:List S}{o:List RI}(k:j<l.length)(h:o.length<=200):flF (m+1) i e (l.drop j) o=flF (m+1) i e (l.drop (j+1)) (flF m l[j].id true l[j].L (flF m l[j].id false l[j].I (o++[RI.mk l[j] (13-((m+1:Nat):Int)) i e]))):=by
 rw[QG k];show flF (m+1) i e (l.drop (j+1)) (if o.length<=200 then _ else _)=_;rw[if_pos h]
theorem Yt:∀(m:Nat){i:Int}{e:Bool}{l:List S}{o:List RI},¬o.length<=200->flF m i e l o=o
 |0,i,e,[],o,_=>rfl
 |m+1,i,e,[],o,_=>rfl
 | 0,i,e,s::r,o,h=>by
   show flF 0 i e r (if o.length<=200 then _ else o)=o;rw[if_neg h];exact Yt 0 h
 | m+1,i,e,s::r,o,h=>by
   show flF (m+1) i e r (if o.length<=200 then _ else o)=o;rw[if_neg h];exact Yt (m+1) h
def EB(m:Nat){e:Bool}{o:List RI}:flF m i e [] o=o:=by cases m<;>rfl
def Uw:∀(m:Nat)(_:m<=12)(l:List S)(i:Int)(e:Bool)(out:List RI),
  aH 147 [.p (eSs l),.j (13-(m:Int)),.j i,.p (.bool e),.hd 2000 0 out.length] (riH 152 out) (.hd 2000 0 (flF m i e l out).length) (riH 152 (flF m i e l out)):=by
 intro m;induction m with
 | zero=>
   intro _ l i e out;have q:=S.avs_len l;refine sK KN func147 ?_;conv=>whnf
   skip
   refine lI (fun x:Nat×List RI=>⟨[(0,.p (eSs l)),(1,.j (13-((0:Nat):Int))),(2,.j i),(3,.p (.bool e)),(4,.hd 2000 0 x.2.length),(11,.j x.1)],riH 152 x.2⟩) (fun x=>x.1<=l.length/\flF 0 i e (l.drop x.1) x.2=flF 0 i e l out) (fun x=>l.length-x.1) (0,out) ⟨x8i _,rfl⟩ ?_;rintro⟨j,o⟩ ⟨n,h⟩;simp only at n h⊢;have r:=FX o;rcases x8o j l.length with k|k
   .conv=>whnf
    repeat' ((first|(refine gX ?_;intros)|refine pA 1 232 (by simp) ?_|(apply bD<;>intro _<;>try omega))<;>conv=>whnf)
    .exact ⟨(j+1,o++[⟨l[j],13,i,e⟩]),⟨k,by rw[<-h,q0o k (by omega)]⟩,by simp only;omega,Le.of_eq (by simp only[q8z,x8m,x9a];rfl)⟩
    .rw [Yt 0 (by omega)]at h;exact⟨_,.refl _,by rw[<-h];exact⟨rfl,rfl⟩⟩
   .conv=>whnf
    repeat' ((first|(refine iM fun _=>?_)|(apply bD<;>intro _<;>try omega))<;>conv=>whnf)
    rw[x9j k,EB]at h;exact⟨_,.refl _,by rw[<-h];exact⟨rfl,rfl⟩⟩
 | succ m s=>
   intro t l i e out;have q:=S.avs_len l;refine sK KN func147 ?_;conv=>whnf
   skip
   refine lI (fun x:Nat×List RI=>⟨[(0,.p (eSs l)),(1,.j (13-((m+1:Nat):Int))),(2,.j i),(3,.p (.bool e)),(4,.hd 2000 0 x.2.length),(11,.j x.1)],riH 152 x.2⟩) (fun x=>x.1<=l.length/\flF (m+1) i e (l.drop x.1) x.2=flF (m+1) i e l out) (fun x=>l.length-x.1) (0,out) ⟨x8i _,rfl⟩ ?_;rintro⟨j,o⟩ ⟨n,h⟩;simp only at n h⊢;have r:=FX o;rcases x8o j l.length with k|k
   .conv=>whnf
    repeat' ((first|(refine gX ?_;intros)|refine dA ?_|refine pA 1 232 (by simp) ?_|(apply bD<;>intro _<;>try omega))<;>conv=>whnf)
    .refine cJ rH4 0 (s (by omega) l[j].I l[j].id false (o++[RI.mk l[j] (13-((m+1:Nat):Int)) i e])) ?_ (ha:=(x9t (x9b _) (x9t (z2v (Sub.int (by omega))) (x9t (x9b _) (x9t (z2v (Sub.ff rfl)) (x9t (z4q (by rw[x8m];rfl)) z1w)))))) (hH:=by exact x9m (j:=2000) rfl rfl (CSub.of_eq (by rw[x8a];first|done|rfl)) z1x);rintro l' H' ⟨rfl,rfl⟩;conv=>whnf
     repeat' ((first|refine dA ?_|(refine gX ?_;intros))<;>conv=>whnf)
     refine cJ rH4 0 (s (by omega) l[j].L l[j].id true (flF m l[j].id false l[j].I (o++[RI.mk l[j] (13-((m+1:Nat):Int)) i e]))) ?_ (ha:=(x9t (x9b _) (x9t (z2v (Sub.int (by omega))) (x9t (x9b _) (x9t (z2v (Sub.tt rfl)) (x9t (x9b _) z1w)))))) (hH:=by exact x9m (j:=2000) rfl rfl (CSub.refl _) z1x);rintro l' H' ⟨rfl,rfl⟩;conv=>whnf
     repeat' (refine wI ?_;conv=>whnf)
     exact nX (j+1,flF m l[j].id true l[j].L (flF m l[j].id false l[j].I (o++[RI.mk l[j] (13-((m+1:Nat):Int)) i e]))) ⟨k,by rw[<-h,q6m k (by omega)]⟩
    .rw [Yt (m+1) (by omega)]at h;exact⟨_,.refl _,by rw[<-h];exact⟨rfl,rfl⟩⟩
   .conv=>whnf
    repeat' ((first|(refine iM fun _=>?_)|(apply bD<;>intro _<;>try omega))<;>conv=>whnf)
    rw[x9j k,EB]at h;exact⟨_,.refl _,by rw[<-h];exact⟨rfl,rfl⟩⟩
def XA(f:Pr):aP 78 [.agg f.cells] (Ml (VC f)):=by
 refine sC Q8 func78 ?_;conv=>whnf
 skip
 refine CallK.nil 5 152 16 rfl (.cons rfl (.cons rfl (.cons rfl (.cons rfl (.row .nil))))) ?_;refine cJ [(2000,5)] 0 (Uw 12 (by omega) f.body 0 false []) ?_;rintro l' H' ⟨rfl,rfl⟩;conv=>whnf
 exact⟨_,.hd rfl (by simp[VC]),rfl⟩
def CN{l:List Pr}{o:List RI}(k:j<l.length)(h:o.length<=200):PK (l.drop j) o=PK (l.drop (j+1)) (o++VC l[j]):=by
 rw[QG k];show PK (l.drop (j+1)) (if o.length<=200 then _ else _)=_;rw[if_pos h]
theorem Ho:∀{l:List Pr}{o:List RI},¬o.length<=200->PK l o=o
 |[],o,_=>rfl
 | f::r,o,h=>by
   show PK r (if o.length<=200 then _ else o)=o;rw[if_neg h];exact Ho h
def HR(f:Pr):(VC f).length<=201:=by
 have:=(PT 12 0 false f.body []).2;simpa[VC]using this
def JN(p:Pg):aP 168 [.agg p.cells] (Ml (allR p)):=by
 refine sC Xs func168 ?_;conv=>whnf
 repeat' ((refine iM fun _=>?_)<;>conv=>whnf)
 have u:(p.A.map fun f=>AV.agg f.cells).length=p.A.length:=x8b _;refine lJ (fun x:Nat×List RI=>⟨[(3,.hd 1 0 x.2.length),(7,.p (.sl (p.A.map fun f=>.agg f.cells))),(8,.p (.int .i64 (p.A.map fun f=>AV.agg f.cells).length)),(9,.j x.1)],[(1,.own 152 16 (x.2.map fun i=>.agg i.cells))]⟩) (fun x=>x.1<=p.A.length/\x.2.length<=200/\PK (p.A.drop x.1) x.2=allR p) (fun x=>p.A.length-x.1) (0,[]) (lM [(1,.own 152 16 [])]) ⟨x8i _,x8i _,rfl⟩ ?_;rintro⟨j,o⟩ ⟨t,q,m⟩;simp only at t m q⊢;have v:=FX o;rcases x8o j p.A.length with n|n
 .have r:=HR p.A[j];have l:=fun(h:o.length<=200)=>CN n h;have s:=XA p.A[j];generalize z:VC p.A[j]=L at r l s;have k:=FX L;conv=>whnf
  repeat' ((first|(refine gX ?_;intros)|refine cP s ?_|refine z5w (by simp) rfl (by rw[k];show(o.length+L.length)*232<=140737488355328;omega) (by rw[k];show o.length+L.length<=9223372036854775807;omega) (fun x w=>by obtain⟨y,_,rfl⟩:=x8c.1 w;exact⟨rfl,rfl⟩) ?_|(apply bD<;>intro _<;>try omega))<;>conv=>whnf)
  .refine ⟨_,.hd rfl (by simp),?_⟩;rw[<-m,l q,Ho (by simp;omega),<-x8a];rfl
  .exact ⟨(j+1,o++L),⟨n,by simp;omega,by rw[<-m,l q]⟩,by simp only;omega,Le.of_eq (by simp only[x8m,x8a,x8b];rfl)⟩
 .conv=>whnf
  repeat' (apply bD<;>intro _<;>first|omega|conv=>whnf)
  rw[x9j n]at m;refine⟨_,.hd rfl (by simp),?_⟩;rw[<-m];simp[Ml,PK]
structure MayF(p:Pg):Prop where
 gl:p.B.length<=16
 pl:p.A.length<=16
 gn:namesB p.B=true
 pr:∀f∈p.A,f.C.length<=8/\f.E.length<=16/\isName f.name=true/\namesB f.E=true/\namesB f.fin=true/\(f.C.all fun a=>isName a.name)=true
 len:(allR p).length<=200
 its:∀(k:Nat)(x:RI),(allR p)[k]?=some x->x.s.id=(k:Int)+1/\x.deep<=12/\oneOk x.s=true
def ZA{p:Pg}(h:YV p=true):MayF p:=by
 obtain⟨m,n,o,q⟩:=Vn h;refine⟨m,n,o,fun f r=>HE.1 (q f r).1,?_,fun k x l=>?_⟩
 .rw [Bq h,Z5];exact(ZM h).2.2
 .rw [Bq h]at l;exact⟨q0u h l,Ez h x (x9y l)⟩
def Pr0:Pr:=⟨[],[],[],[],[]⟩
def UI(p:Pg)(n:Str):Pr×Bool:=match p.A.find? (fun f=>f.name==n)with
 |some f=>(f,true)
 |none=>(Pr0,false)
def TD:Sub (.agg [.str [],.nils,.nils,.nils,.nils]) (.agg Pr0.cells):=Sub.agg (SubL.cons (Sub.refl _) (SubL.cons Sub.nils (SubL.cons Sub.nils (SubL.cons Sub.nils (SubL.cons Sub.nils SubL.nil)))))
def WH(l:List Str)(m:l.length<=1000000):aP 170 [eStrs l] (eStrs l):=by
 refine sC MR func170 ?_;conv=>whnf
 have h:(l.map AV.str).length=l.length:=x8b _;repeat' (refine aD ?_;conv=>whnf)
 refine z5w rfl rfl (by rw[h];show(0+l.length)*16<=140737488355328;omega) (by rw[h];show 0+l.length<=9223372036854775807;omega) (fun x k=>by obtain⟨s,_,rfl⟩:=x8c.1 k;exact⟨rfl,rfl⟩) ?_;conv=>whnf
 skip
 exact⟨_,.hd rfl (by simp),rfl⟩
def LP:List Str->Nat
 |[]=>0
 |s::r=>1+s.length+LP r
mutual
def gXx:X->Nat
 |.mk _ _ name kids=>1+name.length+gXs kids
def gXs:List X->Nat
 |[]=>0
 |x::r=>gXx x+gXs r
end
def Hj:List Arg->Nat
 |[]=>0
 |a::r=>gXx a.x+(1+a.name.length)+Hj r
mutual
def gS:S->Nat
 |.mk _ _ F name D x _ args I L=>gXx x+LP F+(1+name.length)+(1+D.length)+Hj args+gL I+gL L
def gL:List S->Nat
 |[]=>0
 |s::r=>gS s+gL r
end
def OT:List Param->Nat
 |[]=>0
 |a::r=>1+a.name.length+OT r
def gPr(f:Pr):Nat:=1+f.name.length+LP f.E+LP f.fin+OT f.C+gL f.body
def Ty:List Pr->Nat
 |[]=>0
 |f::r=>gPr f+Ty r
def gPg(p:Pg):Nat:=LP p.B+Ty p.A
def x4q(s:S):gS s=gXx s.x+LP s.F+(1+s.name.length)+(1+s.D.length)+Hj s.args+gL s.I+gL s.L:=by
 cases s;rw[gS];rfl
theorem Rr:∀l:List Str,Rm l<=LP l
 |[]=>x9h _
 |s::r=>by have:=Rr r;simp only[Rm,LP];omega
mutual
theorem x6b:∀x:X,wX x<=gXx x
 |.mk _ _ name kids=>by have:=x2f kids;rw[wX,gXx];omega
theorem x2f:∀l:List X,wXs l<=gXs l
 |[]=>by rw[wXs];omega
 |x::r=>by have:=x6b x;have:=x2f r;rw[wXs,gXs];omega
end
theorem OP:∀l:List Arg,Wq l<=Hj l
 |[]=>x9h _
 |a::r=>by have:=OP r;have:=x6b a.x;simp only[Wq,Hj];omega
mutual
theorem x8d:∀s:S,wS s<=gS s
 | .mk _ _ F name D x _ args I L=>by
   have:=x6b x;have:=Rr F;have:=OP args;have:=x3z I;have:=x3z L;rw[wS,gS];omega
theorem x3z:∀l:List S,wL l<=gL l
 |[]=>by rw[wL];omega
 |s::r=>by have:=x8d s;have:=x3z r;rw[wL,gL];omega
end
theorem q5p:∀l:List Param,q3c l<=OT l
 |[]=>x9h _
 |a::r=>by have:=q5p r;simp only[q3c,OT];omega
theorem q5n:∀l:List Pr,AN l<=Ty l
 |[]=>x9h _
 | f::r=>by
   have:=q5n r;have:=Rr f.E;have:=Rr f.fin;have:=q5p f.C;have:=x3z f.body;simp only[AN,Ty,wPr,gPr];omega
def x2h(p:Pg):wPg p<=gPg p:=by
 have:=Rr p.B;have:=q5n p.A;unfold wPg gPg;omega
def XG(x:Int):Int:=if x>20000 then 20001 else x
def ZK{a b:Int}(h:0<=b):XG (XG a+b)=XG (a+b):=by
 unfold XG;split<;>split<;>(try split)<;>omega
def ZV{a:Int}(h:0<=a):0<=XG a/\XG a<=20001:=by
 unfold XG;split<;>omega
def Pt{a:Int}(h:a<=20001):XG a=a:=by
 unfold XG;split<;>omega
def JW{a b:Int}(h:a>20000)(k:a<=20001)(l:0<=b):a=XG (a+b):=by
 unfold XG;split<;>omega
def QT(s:Str)(n:Int)(h:0<=n/\n<=20001):aP 28 [.str s,.int .i64 n] (.int .i64 (XG (n+(1+s.length:Nat)))):=by
 refine sC HK func28 ?_;conv=>whnf
 repeat' ((first|(refine gX ?_;intros)|(apply bD<;>intro _<;>try omega))<;>conv=>whnf)
 all_goals exact RetK.int (by unfold XG;(repeat' split)<;>omega)
def XM(l:List Str)(n:Int)(s:0<=n/\n<=20001):aP 27 [eStrs l,.int .i64 n] (.int .i64 (XG (n+LP l))):=by
 refine sC GC func27 ?_;conv=>whnf
 skip
 have t:(l.map AV.str).length=l.length:=x8b _;refine lI (fun x:Nat×Int=>⟨[(0,.p (eStrs l)),(1,.j x.2),(5,.j x.1)],[]⟩) (fun x=>x.1<=l.length/\(0<=x.2/\x.2<=20001)/\XG (x.2+LP (l.drop x.1))=XG (n+LP l)) (fun x=>l.length-x.1) (0,n) ⟨x8i _,s,rfl⟩ ?_;rintro⟨j,m⟩ ⟨q,k,h⟩;simp only at q k h⊢;rcases x8o j l.length with o|o
 .rw [x9i o,LP]at h;conv=>whnf
  repeat' ((first|(refine gX ?_;intros)|refine cP (QT _ _ k) ?_|(apply bD<;>intro _<;>try omega))<;>conv=>whnf)
  .have r:XG (XG (m+(1+l[j].length:Nat))+LP (l.drop (j+1)))=XG (n+LP l):=by
    rw[ZK (by omega),<-h];congr 1;omega
   exact nX (j+1,XG (m+(1+l[j].length:Nat))) ⟨by simp only;omega,ZV (by omega),r⟩
  .exact RetK.int (by rw[<-h];exact JW (by omega) k.2 (by omega))
 .rw [x9j o,LP]at h;conv=>whnf
  repeat' ((first|(refine iM fun _=>?_)|(apply bD<;>intro _<;>try omega))<;>conv=>whnf)
  exact RetK.int (by rw[<-h,Pt (by omega)];simp)
def YU:∀(k:Nat)(x:X)(_:gXx x<k)(n:Int)(_:0<=n/\n<=20001),aP 62 [.agg x.cells,.int .i64 n] (.int .i64 (XG (n+gXx x))):=by
 intro k;induction k with
 |zero=>intro x h;omega
 | succ k v=>
   intro x d n c;have u:gXx x=1+x.name.length+gXs x.kids:=by cases x;rw[gXx];rfl
   have b:=X.avs_len x.kids;refine sC HJ func62 ?_;conv=>whnf
   repeat' (refine cP (QT _ _ c) ?_;conv=>whnf)
   refine lI (fun y:Nat×Int=>⟨[(1,.j y.2),(2,.p (.ip x.cells)),(5,.j y.1)],[]⟩) (fun y=>y.1<=x.kids.length/\(0<=y.2/\y.2<=20001)/\XG (y.2+gXs (x.kids.drop y.1))=XG (n+gXx x)) (fun y=>x.kids.length-y.1) (0,XG (n+(1+x.name.length:Nat))) ⟨x8i _,ZV (by omega),by
    show XG (XG (n+(1+x.name.length:Nat))+gXs x.kids)=_;rw[ZK (by omega),u];congr 1;omega⟩ ?_
   rintro⟨j,m⟩ ⟨w,s,o⟩;simp only at w s o⊢;rcases x8o j x.kids.length with q|q
   .rw [x9i q,gXs]at o;have t:gXx x.kids[j]<k:=by
     have:∀(l:List X)(y:X),y∈l->gXx y<=gXs l:=fun l=>by
      induction l with
      |nil=>intro y h;cases h
      | cons a r v=>
        intro y h;rw[gXs];rcases x8s.1 h with rfl|h
        .omega
        .have:=v y h;omega
     have:=this x.kids _ (x9w q);omega
    conv=>whnf
    repeat' ((first|(refine gX ?_;intros)|refine cP (v (x.kids[j]'q) t m s) ?_|(apply bD<;>intro _<;>try omega))<;>conv=>whnf)
    .have z:XG (XG (m+gXx x.kids[j])+gXs (x.kids.drop (j+1)))=XG (n+gXx x):=by
      rw[ZK (by omega),<-o];congr 1;omega
     exact nX (j+1,XG (m+gXx x.kids[j])) ⟨by simp only;omega,ZV (by omega),z⟩
    .exact RetK.int (by rw[<-o];exact JW (by omega) s.2 (by omega))
   .rw [x9j q,gXs]at o;conv=>whnf
    repeat' ((first|(refine iM fun _=>?_)|(apply bD<;>intro _<;>try omega))<;>conv=>whnf)
    exact RetK.int (by rw[<-o,Pt (by omega)];simp)
theorem q4r:∀(l:List S)(y:S),y∈l->gS y<=gL l
 |[],y,h=>by cases h
 | a::r,y,h=>by
   rw[gL];rcases x8s.1 h with rfl|h
   .omega
   .have:=q4r r y h;omega
def UC:∀(k:Nat)(l:List S)(_:gL l<k)(n:Int)(_:0<=n/\n<=20001),aP 29 [eSs l,.int .i64 n] (.int .i64 (XG (n+gL l))):=by
 intro k;induction k with
 |zero=>intro l h;omega
 | succ k v=>
   intro l N n E;have C:=S.avs_len l;refine sC GS func29 ?_;conv=>whnf
   skip
   refine lI (fun y:Nat×Int=>⟨[(0,.p (eSs l)),(1,.j y.2),(5,.j y.1)],[]⟩) (fun y=>y.1<=l.length/\(0<=y.2/\y.2<=20001)/\XG (y.2+gL (l.drop y.1))=XG (n+gL l)) (fun y=>l.length-y.1) (0,n) ⟨x8i _,E,rfl⟩ ?_;rintro⟨j,m⟩ ⟨f,z,q⟩;simp only at f z q⊢;rcases x8o j l.length with u|u;rotate_left 1
   .rw [x9j u,gL]at q;conv=>whnf
    repeat' ((first|(refine iM fun _=>?_)|(apply bD<;>intro _<;>try omega))<;>conv=>whnf)
    exact RetK.int (by rw[<-q,Pt (by omega)];simp)
   rw[x9i u,gL]at q;have G:=q4r l _ (x9w u);have b:=x4q l[j];have H:=ZV (a:=m+gXx l[j].x) (by omega);have J:=ZV (a:=XG (m+gXx l[j].x)+LP l[j].F) (by omega);have K:=ZV (a:=XG (XG (m+gXx l[j].x)+LP l[j].F)+(1+l[j].name.length:Nat)) (by omega);conv=>whnf
   repeat' ((first|(refine gX ?_;intros)|refine dA ?_|refine cP (YU (gXx l[j].x+1) l[j].x (by omega) m z) ?_|refine cP (XM l[j].F _ H) ?_|refine cP (QT l[j].name _ J) ?_|refine cP (QT l[j].D _ K) ?_|(apply bD<;>intro _<;>try omega))<;>conv=>whnf)
   rotate_left 1
   .exact RetK.int (by rw[<-q];exact JW (by omega) z.2 (by omega))
   have d:=ZV (a:=XG (XG (XG (m+gXx l[j].x)+LP l[j].F)+(1+l[j].name.length:Nat))+(1+l[j].D.length:Nat)) (by omega);have c:XG (XG (XG (XG (XG (m+gXx l[j].x)+LP l[j].F)+(1+l[j].name.length:Nat))+(1+l[j].D.length:Nat))+(Hj l[j].args+(gL l[j].I+gL l[j].L+gL (l.drop (j+1))):Nat))=XG (n+gL l):=by
    rw[ZK (by omega),z4k,ZK (by omega),z4k,ZK (by omega),z4k,ZK (by omega),<-q,b];congr 1;omega
   generalize XG (XG (XG (XG (m+gXx l[j].x)+LP l[j].F)+(1+l[j].name.length:Nat))+(1+l[j].D.length:Nat))=m0 at d c⊢;have B:(l[j].args.map fun a=>AV.agg a.cells).length=l[j].args.length:=x8b _;refine lI (fun y:Nat×Int=>⟨[(0,.p (eSs l)),(1,.j y.2),(5,.j j),(6,.p (.ip l[j].cells)),(7,.j y.1)],[]⟩) (fun y=>y.1<=l[j].args.length/\(0<=y.2/\y.2<=20001)/\XG (y.2+(Hj (l[j].args.drop y.1)+(gL l[j].I+gL l[j].L+gL (l.drop (j+1))):Nat))=XG (n+gL l)) (fun y=>l[j].args.length-y.1) (0,m0) ⟨x8i _,d,c⟩ ?_;rintro⟨a,o⟩ ⟨g,r,s⟩;simp only at g r s⊢;have fin:XG (o+(gL l[j].I+gL l[j].L+gL (l.drop (j+1)):Nat))=XG (n+gL l)->(0<=XG (XG (o+gL l[j].I)+gL l[j].L)/\XG (XG (o+gL l[j].I)+gL l[j].L)<=20001)/\XG (XG (XG (o+gL l[j].I)+gL l[j].L)+gL (l.drop (j+1)))=XG (n+gL l):=fun h=>by
    have:=ZV (a:=o+gL l[j].I) (by omega);refine⟨ZV (by omega),?_⟩;rw[ZK (by omega),z4k,ZK (by omega),<-h];congr 1;omega
   have e:=ZV (a:=o+gL l[j].I) (by omega);have t:o>20000->XG (o+(gL l[j].I+gL l[j].L+gL (l.drop (j+1)):Nat))=XG (n+gL l):=fun h=>by
    rw[<-s,<-JW h r.2 (by omega),<-JW h r.2 (by omega)]
   rcases x8o a l[j].args.length with ha|ha;rotate_left 1
   .have A:XG (o+(gL l[j].I+gL l[j].L+gL (l.drop (j+1)):Nat))=XG (n+gL l):=by
     rw[x9j ha,Hj,z0t]at s;exact s
    obtain⟨f1,f2⟩:=fin A;conv=>whnf
    repeat' ((first|(refine gX ?_;intros)|refine dA ?_|refine cP (v l[j].I (by omega) o r) ?_|refine cP (v l[j].L (by omega) _ e) ?_|(apply bD<;>intro _<;>try omega))<;>conv=>whnf)
    all_goals exact nX (j+1,XG (XG (o+gL l[j].I)+gL l[j].L)) ⟨by simp only;omega,f1,f2⟩
   rw[x9i ha,Hj]at s;have M:=ZV (a:=o+gXx l[j].args[a].x) (by omega);conv=>whnf
   repeat' ((first|(refine gX ?_;intros)|refine dA ?_|refine cP (YU (gXx l[j].args[a].x+1) l[j].args[a].x (by omega) o r) ?_|refine cP (QT l[j].args[a].name _ M) ?_|refine cP (v l[j].I (by omega) o r) ?_|refine cP (v l[j].L (by omega) _ e) ?_|(apply bD<;>intro _<;>try omega))<;>conv=>whnf)
   .have w:XG (XG (XG (o+gXx l[j].args[a].x)+(1+l[j].args[a].name.length:Nat))+(Hj (l[j].args.drop (a+1))+(gL l[j].I+gL l[j].L+gL (l.drop (j+1))):Nat))=XG (n+gL l):=by
     rw[ZK (by omega),z4k,ZK (by omega),<-s];congr 1;omega
    exact nX (a+1,XG (XG (o+gXx l[j].args[a].x)+(1+l[j].args[a].name.length:Nat))) ⟨by simp only;omega,ZV (by omega),w⟩
   .obtain ⟨f1,f2⟩:=fin (t (by omega));exact nX (j+1,XG (XG (o+gL l[j].I)+gL l[j].L)) ⟨by simp only;omega,f1,f2⟩
theorem q5b:∀{l:List X}{y:X},y∈l->wX y<=wXs l
 |[],_,h=>by cases h
 | a::r,y,h=>by
   rw[wXs];rcases x8s.1 h with rfl|h
   .omega
   .have:=q5b h;omega
def x2k(x:X):1<=wX x:=by cases x;rw[wX];omega
theorem OF:∀l:List X,l.length<=wXs l
 |[]=>by simp
 | a::r=>by
   rw[wXs,x9f];have:=OF r;have:=x2k a;omega
def JU : ∀(k:Nat)(x:X)(_:wX x<k)(_:k<=21002),aP 230 [.agg x.cells] (.agg x.cells):=by
 intro k;induction k with
 |zero=>intro x h;omega
 | succ k b=>
   intro x f e;have a:wX x=1+wXs x.kids:=by cases x;rw[wX];rfl
   have w:=X.avs_len x.kids;have y:=OF x.kids;refine sC FS func230 ?_;conv=>whnf
   repeat' ((refine gX ?_;intros)<;>conv=>whnf)
   all_goals
    refine lJ (fun j:Nat=>⟨[(1,.p (.ip x.cells)),(2,.ptr 1 0),(3,.ptr 0 0),(14,.p (.int .i64 (X.avs x.kids).length)),(15,.j j)],[(0,.obj 100 [.p (.int .i64 x.op),.j x.n,.p (.str (x.name)),.hd 2 0 j]),(1,.obj 100 [.p (.int .i64 0),.j 0,.p (.str []),.p .nils]),(2,.own 100 4 (X.avs (x.kids.take j)))]⟩) (fun j=>j<=x.kids.length) (fun j=>x.kids.length-j) 0 (lM [(2,.own 100 4 [])] (hH:=.cons rfl (.obj (.r (.r (.r (.cons (.nil x8l) .nil))))) (.cons rfl (.refl _) (.new x8l .nil)))) (x8i _) ?_;intro j d;rcases x8o j x.kids.length with t|t
    .have z:=q5b (x9w t);have v:=b x.kids[j] (by omega) (by omega);have u:X.avs (x.kids.take (j+1))=X.avs (x.kids.take j)++[.agg (x.kids[j]).cells]:=by
      rw[X.avs_eq,X.avs_eq,x9v t,x8a];rfl
     have q:(X.avs (x.kids.take j)).length=j:=by rw[X.avs_len,x9s];omega
     generalize X.avs (x.kids.take j)=acc at u q⊢;conv=>whnf
     repeat' ((first|refine dA ?_|(refine gX ?_;intros)|refine cP v ?_|refine pA 1 56 q.symm ?_|(apply bD<;>intro _<;>try omega)|refine x9p ?_ ?_)<;>conv=>whnf)
     all_goals exact⟨j+1,t,by omega,Le.of_eq (by rw[u];rfl)⟩
    .have s:X.avs (x.kids.take j)=X.avs x.kids:=by rw[x9u t]
     have q:(X.avs (x.kids.take j)).length=j:=by rw[X.avs_len,x9s];omega
     conv=>whnf
     repeat' ((first|refine x9p rfl ?_|(apply bD<;>intro _<;>try omega))<;>conv=>whnf)
     refine⟨_,.agg (cs:=x.cells) rfl fun i l c m o=>?_,rfl⟩
     match i,m,o with
     |0,m,o=>cases m;cases o;exact .p (Sub.refl _)
     |1,m,o=>cases m;cases o;exact .p (Sub.refl _)
     |2,m,o=>cases m;cases o;exact .p (Sub.refl _)
     | 3,m,o=>
       cases m;cases o;show Frz _ _ (.sl (X.avs x.kids));rw[<-s];exact .hd rfl q.symm
     |i+4,m,o=>simp at m
def x7x(s:S):S:=.mk s.id s.kind s.F s.name s.D s.x s.has s.args [] []
def JI(s:S)(e:wX s.x<=21000)(b:s.F.length<=1000000)(ha:s.args.length<=1000000)(u:∀a∈s.args,wX a.x<=21000):aP 172 [.agg s.cells] (.agg (x7x s).cells):=by
 refine sC BN func172 ?_;conv=>whnf
 have z:(s.args.map fun a=>AV.agg a.cells).length=s.args.length:=x8b _;have w:=JU 21001 s.x (by omega) (by omega);repeat' ((first|(refine gX ?_;intros)|refine dA ?_|refine cP w ?_|refine cP (WH s.F b) ?_|refine x9p ?_ ?_)<;>conv=>whnf)
 all_goals
  refine lJ (fun j:Nat=>⟨[(2,.ptr 1 0),(3,.ptr 0 0),(24,.p (EJ s.args)),(25,.p (.int .i64 (s.args.map fun a=>AV.agg a.cells).length)),(26,.j j)],[(0,.obj 103 [.p (.int .i64 s.id),.j s.kind,.p (eStrs s.F),.p (.str s.name),.p (.str s.D),.j s.x.op,.j s.x.n,.p (.str s.x.name),.p (.sl (X.avs s.x.kids)),.p (.bool s.has),.hd 2 0 j,.p .nils,.p .nils]),(1,.obj 103 [.p (.int .i64 0),.j 0,.p .nils,.p (.str []),.p (.str []),.j 0,.j 0,.p (.str []),.p .nils,.p .ff,.p .nils,.p .nils,.p .nils]),(2,.own 106 6 ((s.args.take j).map fun a=>.agg a.cells))]⟩) (fun j=>j<=s.args.length) (fun j=>s.args.length-j) 0 (lM [(2,.own 106 6 [])] (hH:=.cons rfl (.obj (.r (.r (.r (.r (.r (.r (.r (.r (.r (.r (.cons (.nil x8l) (.r (.r .nil)))))))))))))) (.cons rfl (.refl _) (.new x8l .nil)))) (x8i _) ?_;intro j d;rcases x8o j s.args.length with q|q
  .have v:=u _ (x9w q);have y:=JU 21001 s.args[j].x (by omega) (by omega);have t:((s.args.take (j+1)).map fun a=>AV.agg a.cells)=((s.args.take j).map fun a=>AV.agg a.cells)++[.agg s.args[j].cells]:=by
    rw[x9v q,x8a];rfl
   have m:((s.args.take j).map fun a=>AV.agg a.cells).length=j:=by rw[x8b,x9s];omega
   generalize((s.args.take j).map fun a=>AV.agg a.cells)=acc at t m⊢;conv=>whnf
   repeat' ((first|refine dA ?_|(refine gX ?_;intros)|refine cP y ?_|refine pA 1 80 m.symm ?_|(apply bD<;>intro _<;>try omega)|refine x9p ?_ ?_)<;>conv=>whnf)
   all_goals exact⟨j+1,q,by omega,Le.of_eq (by rw[t];rfl)⟩
  .have o:((s.args.take j).map fun a=>AV.agg a.cells)=s.args.map fun a=>.agg a.cells:=by rw[x9u q]
   have m:((s.args.take j).map fun a=>AV.agg a.cells).length=j:=by rw[x8b,x9s];omega
   conv=>whnf
   repeat' ((first|refine x9p rfl ?_|(apply bD<;>intro _<;>try omega))<;>conv=>whnf)
   refine⟨_,.agg (cs:=(x7x s).cells) rfl fun i l c h k=>?_,rfl⟩
   match i,h,k with
   |0,h,k=>cases h;cases k;exact .p (Sub.refl _)
   |1,h,k=>cases h;cases k;exact .p (Sub.refl _)
   |2,h,k=>cases h;cases k;exact .p (Sub.refl _)
   |3,h,k=>cases h;cases k;exact .p (Sub.refl _)
   |4,h,k=>cases h;cases k;exact .p (Sub.refl _)
   |5,h,k=>cases h;cases k;exact .p (Sub.refl _)
   |6,h,k=>cases h;cases k;exact .p (Sub.refl _)
   |7,h,k=>cases h;cases k;exact .p (Sub.refl _)
   |8,h,k=>cases h;cases k;exact .p (Sub.refl _)
   |9,h,k=>cases h;cases k;exact .p (Sub.refl _)
   | 10,h,k=>
     cases h;cases k;show Frz _ _ (.sl (s.args.map fun a=>.agg a.cells));rw[<-o];exact .hd rfl m.symm
   |11,h,k=>cases h;cases k;exact .p Sub.nils
   |12,h,k=>cases h;cases k;exact .p Sub.nils
   |i+13,h,k=>simp at h
mutual
def nmS(n:Nat):S->S
 |.mk _ kind F name D x has args I L=>.mk ((n+1:Nat):Int) kind F name D x has args (nmL (n+1) I) (nmL (n+1+cntL I) L)
def nmL(n:Nat):List S->List S
 |[]=>[]
 |t::r=>nmS n t::nmL (n+XL t) r
end
def Gx(n:Nat)(t:S):nmS n t=.mk ((n+1:Nat):Int) t.kind t.F t.name t.D t.x t.has t.args (nmL (n+1) t.I) (nmL (n+1+cntL t.I) t.L):=by
 cases t;rw[nmS];rfl
theorem Vl(n:Nat):∀l:List S,(nmL n l).length=l.length
 |[]=>by rw[nmL]
 |t::r=>by rw[nmL,x9f,x9f,Vl _ r]
theorem Pw:∀(l:List S)(n j:Nat)(h:j<l.length),(nmL n l)[j]?=some (nmS (n+cntL (l.take j)) l[j])
 |t::r,n,0,h=>by rw[nmL];simp[cntL]
 | t::r,n,j+1,h=>by
   rw[nmL,z2n,Pw r (n+XL t) j (by simpa using h),List.take_succ_cons,cntL,z1j];rfl
theorem Mb:∀(l:List S)(j:Nat)(h:j<l.length),cntL (l.take (j+1))=cntL (l.take j)+XL l[j]
 |t::r,0,h=>by simp[cntL]
 | t::r,j+1,h=>by
   rw[List.take_succ_cons,List.take_succ_cons,cntL,cntL,Mb r j (by simpa using h),z1j];rfl
theorem Z9:∀l:List S,l.length<=cntL l
 |[]=>by simp
 | t::r=>by
   rw[cntL,x9f];have:=Z9 r;have:1<=XL t:=by cases t;rw[XL];omega
   omega
def okC(t:S):Prop:=wX t.x<=21000/\t.F.length<=1000000/\t.args.length<=1000000/\∀a∈t.args,wX a.x<=21000
theorem Bk:∀{l:List S}{t:S},t∈l->XL t<=cntL l
 | a::r,t,h=>by
   rw[cntL];rcases x8s.1 h with rfl|h
   .omega
   .have:=Bk h;omega
def NM:∀(k:Nat)(l:List S)(_:cntL l<k)(n:Nat)(_:n+cntL l<=1000000)(_:∀t∈flL l,okC t),aP 103 [eSs l,.int .i64 (n:Nat)] (.tup [eSs (nmL n l),.int .i64 (n+cntL l:Nat)]):=by
 intro k;induction k with
 |zero=>intro l h;omega
 | succ k z=>
   intro l N n O g;have hsl:(S.avs l).length=l.length:=by rw[S.avs_eq,x8b]
   have H:=Z9 l;refine sC FC func103 ?_;conv=>whnf
   repeat' ((refine iM fun _=>?_)<;>conv=>whnf)
   refine lJ (fun j:Nat=>⟨[(1,.j (n+cntL (l.take j):Nat)),(6,.hd 0 0 j),(10,.p (eSs l)),(11,.p (.int .i64 (S.avs l).length)),(12,.j j)],[(0,.own 103 13 (S.avs ((nmL n l).take j)))]⟩) (fun j=>j<=l.length) (fun j=>l.length-j) 0 (lM [(0,.own 103 13 [])] (hsl:=.cons (.of_eq (by simp[cntL];rfl)) (.cons (.nil x8l) (.r (.r (.r .nil)))))) (x8i _) ?_;intro j M;rcases x8o j l.length with q|q
   .have D:=Mb l j q;have K:=Bk (x9w q);have B:=WN l[j];have f:=Pw l n j q;have J:cntL (l.take (j+1))<=cntL l:=by
     conv=>rhs;rw[<-z3e (j+1) l]
     have:∀a b:List S,cntL (a++b)=cntL a+cntL b:=fun a b=>by
      induction a with
      |nil=>simp[cntL]
      |cons x r z=>rw[z3v,cntL,cntL,z,z1j]
     rw[this];omega
    have o:=g _ (Zk l _ (x9w q));have s:∀t,t∈flL l[j].I\/t∈flL l[j].L->okC t:=fun t u=>g t (by
     have:t∈flS l[j]:=by
      rw[Sk];exact x8r _ (x8e.2 u)
     have key:∀(m:List S)(i:Nat)(h:i<m.length),t∈flS m[i]->t∈flL m:=fun m=>by
      induction m with
      |nil=>intro i h;simp at h
      | cons a r z=>
        intro i h u;rw[flL];cases i with
        |zero=>exact x8e.2 (.inl u)
        |succ i=>exact x8e.2 (.inr (z i (by simpa using h) u))
     exact key l j q this)
    have E:=JI l[j] o.1 o.2.1 o.2.2.1 o.2.2.2;have F:=z l[j].I (by omega) (n+cntL (l.take j)+1) (by omega) fun t u=>s t (.inl u);have G:=z l[j].L (by omega) (n+cntL (l.take j)+1+cntL l[j].I) (by omega) fun t u=>s t (.inr u);have d:j=(S.avs ((nmL n l).take j)).length:=by rw[S.avs_eq,x8b,x9s,Vl];omega
    have A:S.avs ((nmL n l).take (j+1))=S.avs ((nmL n l).take j)++[.agg (nmS (n+cntL (l.take j)) l[j]).cells]:=by
     rw[S.avs_eq,S.avs_eq,List.take_add_one,f,x8a];rfl
    conv=>whnf
    repeat' ((first|(refine gX ?_;intros)|refine cP E ?_|refine cP F ?_|refine cP G ?_|refine pA 1 208 d ?_|(apply bD<;>intro _<;>try omega))<;>conv=>whnf)
    exact⟨j+1,q,by omega,lE (hsl:=.cons (.of_eq (by rw[D,B,show n+(cntL (l.take j)+(1+cntL l[j].I+cntL l[j].L))=n+cntL (l.take j)+1+cntL l[j].I+cntL l[j].L by omega];rfl)) (.r (.r (.r (.r .nil))))) (hH:=.cons rfl (.of_eq (by rw[A,Gx];rfl)) .nil)⟩
   .have e:(nmL n l).take j=nmL n l:=x9u (by rw[Vl];exact q);have w:l.take j=l:=x9u q;have C:j=(S.avs (nmL n l)).length:=by rw[S.avs_eq,x8b,Vl];omega
    rw[e,w];conv=>whnf
    repeat' (apply bD<;>intro _<;>first|omega|conv=>whnf)
    refine⟨_,.tup (cs:=[eSs (nmL n l),.int .i64 (n+cntL l:Nat)]) rfl fun i l' c v y=>?_,rfl⟩
    match i,v,y with
    |0,v,y=>cases v;cases y;exact .hd rfl C
    |1,v,y=>cases v;cases y;exact .p (Sub.refl _)
    |i+2,v,y=>simp at v
def ElS(es es':List AV):Prop:=es'.length=es.length/\∀(m:Nat)(x':AV),es'[m]?=some x'->∃x,es[m]?=some x/\x'.cells.length=x.cells.length/\∀(j:Nat)(c':AV),x'.cells[j]?=some c'->∃c,x.cells[j]?=some c/\Sub c c'
theorem ElS.refl(es:List AV):ElS es es:=⟨rfl,fun _ m h=>⟨m,h,rfl,fun _ c' l=>⟨c',l,Sub.refl _⟩⟩⟩
theorem ElS.snoc{es es':List AV}(h:ElS es es'){x r:AV}(w:r.cells.length=x.cells.length)(v:∀(j:Nat)(c':AV),r.cells[j]?=some c'->∃c,x.cells[j]?=some c/\Sub c c'):ElS (es++[x]) (es'++[r]):=by
 refine⟨by simp[h.1],fun m y l=>?_⟩;rcases x8o m es'.length with o|o
 .rw [x9d o]at l;obtain⟨z,t,u⟩:=h.2 m y l;exact⟨z,by rw[x9d (by rw[<-h.1];exact o)];exact t,u⟩
 .rw [x9n o]at l;have q:m-es'.length=0:=by
   have:=(x8t.1 l).1;simp at this;omega
  rw[q]at l;cases l;exact⟨x,by rw[x9n (by rw[<-h.1];exact o),<-h.1,q];rfl,w,v⟩
inductive SubH:Heap->Heap->Prop
 |nil:SubH [] []
 |same {c:Nat×Chunk} {H H':Heap} (h:SubH H H'):SubH (c::H) (c::H')
 |L {k:Nat} {e:TypeId} {sz:Nat} {es es':List AV} {H H':Heap} (hp:ElS es es') (h:SubH H H'):SubH ((k,.own e sz es)::H) ((k,.own e sz es')::H')
theorem SubH.get{H H':Heap}(h:SubH H H'):H'.map (·.1)=H.map (·.1)/\∀j c',(j,c')∈H'->(j,c')∈H\/∃e sz es es',(j,Chunk.own e sz es)∈H/\c'=.own e sz es'/\ElS es es':=by
 induction h with
 |nil=>exact⟨rfl,by simp⟩
 | same h o=>
   refine⟨by simp[o.1],fun j c' l=>?_⟩;rcases x8s.1 l with rfl|l
   .exact .inl x8l
   .rcases o.2 j c' l with m|⟨e,sz,es,es',m,q⟩
    .exact .inl (x8r _ m)
    .exact .inr ⟨e,sz,es,es',x8r _ m,q⟩
 | @L k e sz es es' H H' r h o=>
   refine⟨by simp[o.1],fun j c' l=>?_⟩;rcases x8s.1 l with l|l
   .cases l;exact .inr ⟨e,sz,es,es',x8l,rfl,r⟩
   .rcases o.2 j c' l with m|⟨e,sz,es,es',m,q⟩
    .exact .inl (x8r _ m)
    .exact .inr ⟨e,sz,es,es',x8r _ m,q⟩
theorem Le.L{N:Nat}{sl:List (Nat×LV)}{H H':Heap}(h:SubH H H'):Le N ⟨sl,H⟩ ⟨sl,H'⟩:=fun σ β a w l=>by
 obtain⟨t,f⟩:=h.get;refine⟨σ,β,⟨l.size,l.defers,l.G,⟨l.heap.mem,fun j c' o=>?_,by show(H'.map (·.1)).Nodup;rw[t];exact l.heap.nodup,fun j o=>l.heap.apart j (by rw[<-t];exact o),fun j o R g=>l.heap.inj j (by rw[<-t];exact o) R (by rw[<-t];exact g)⟩⟩,Mem.le_refl σ,Frm.refl _ w,fun b J q=>absurd J q,fun b ⟨j,o,r⟩=>.inl ⟨j,by rw[<-t];exact o,r⟩,fun _ _ _=>rfl⟩;rcases f j c' o with q|⟨e,sz,es,es',q,rfl,v⟩
 .exact l.heap.chunks j c' q
 .rcases l.heap.chunks j _ q with⟨y,z⟩|⟨i,vs,y,z,K,M,O,P,A⟩
  .refine .inl ⟨y,?_⟩;have:=v.1;rw[z]at this;exact z1z this
  .refine .inr ⟨i,vs,y,z,K,M,by rw[v.1];exact O,P,fun m T Q=>?_⟩;obtain⟨x,g1,B,C⟩:=v.2 m T Q;refine⟨by rw[B];exact(A m x g1).1,fun j c' f=>?_⟩;obtain⟨c,D,E⟩:=C j c' f;obtain⟨u,F,I⟩:=(A m x g1).2 j c D;exact⟨u,F,E _ _ I⟩
def q4p(p:Pg):Bool:=decide (gPg p<=20000)
def x0j{p:Pg}(h:q4p p=true):Fit p:=by
 have:=x2h p;have k:gPg p<=20000:=by simpa[q4p]using h
 unfold Fit;omega
def XS(p:Pg):aP 6 [.agg p.cells] (.bool (q4p p)):=by
 refine sC Q7 func6 ?_;conv=>whnf
 have H:(p.A.map fun f=>AV.agg f.cells).length=p.A.length:=x8b _;have D:=ZV (a:=0+LP p.B) (by omega);repeat' ((refine cP (XM p.B 0 (by omega)) ?_ (ha:=.cons (Sub.refl _) (.cons (Sub.refl _) .nil)))<;>conv=>whnf)
 refine lI (fun y:Nat×Int=>⟨[(1,.p (.ip p.cells)),(3,.j y.2),(4,.j y.1)],[]⟩) (fun y=>y.1<=p.A.length/\(0<=y.2/\y.2<=20001)/\XG (y.2+Ty (p.A.drop y.1))=XG (gPg p:Nat)) (fun y=>p.A.length-y.1) (0,XG (0+LP p.B)) ⟨x8i _,D,by
  show XG (XG (0+LP p.B)+Ty p.A)=_;rw[ZK (by omega)];congr 1;unfold gPg;omega⟩ ?_
 rintro⟨j,m⟩ ⟨c,n,o⟩;simp only at c n o⊢;have l:∀{x:Int},0<=x/\x<=20001->XG x=XG (gPg p:Nat)->(decide (x<=20000))=q4p p:=fun {x} I h=>by
  unfold q4p;unfold XG at h;by_cases w:gPg p<=20000
  .rw [z0r w,x9o];split at h<;>split at h<;>omega
  .rw [z0s w,z1u];split at h<;>split at h<;>omega
 rcases x8o j p.A.length with u|u;rotate_left 1
 .rw [x9j u,Ty]at o;conv=>whnf
  repeat' ((first|(refine iM fun _=>?_)|(apply bD<;>intro _<;>try omega))<;>conv=>whnf)
  all_goals exact RetK.bool (l n (by rw[<-o];simp))
 rw[x9i u,Ty]at o;have v:gPr p.A[j]=1+p.A[j].name.length+LP p.A[j].E+LP p.A[j].fin+OT p.A[j].C+gL p.A[j].body:=rfl;have F:=ZV (a:=m+(1+p.A[j].name.length:Nat)) (by omega);have G:=ZV (a:=XG (m+(1+p.A[j].name.length:Nat))+LP p.A[j].E) (by omega);have b:=ZV (a:=XG (XG (m+(1+p.A[j].name.length:Nat))+LP p.A[j].E)+LP p.A[j].fin) (by omega);conv=>whnf
 repeat' ((first|(refine gX ?_;intros)|refine dA ?_|refine cP (QT p.A[j].name _ n) ?_|refine cP (XM p.A[j].E _ F) ?_|refine cP (XM p.A[j].fin _ G) ?_|(apply bD<;>intro _<;>try omega))<;>conv=>whnf)
 rotate_left 1
 .exact RetK.bool (l n (by rw[<-o,<-JW (by omega) n.2 (by omega),Pt n.2]))
 have z:XG (XG (XG (XG (m+(1+p.A[j].name.length:Nat))+LP p.A[j].E)+LP p.A[j].fin)+(OT p.A[j].C+(gL p.A[j].body+Ty (p.A.drop (j+1))):Nat))=XG (gPg p:Nat):=by
  rw[ZK (by omega),z4k,ZK (by omega),z4k,ZK (by omega),<-o,v];congr 1;omega
 generalize XG (XG (XG (m+(1+p.A[j].name.length:Nat))+LP p.A[j].E)+LP p.A[j].fin)=m0 at b z⊢;have g:(p.A[j].C.map fun a=>AV.agg a.cells).length=p.A[j].C.length:=x8b _;refine lI (fun y:Nat×Int=>⟨[(1,.p (.ip p.cells)),(3,.j y.2),(4,.j j),(5,.p (.ip p.A[j].cells)),(6,.j y.1)],[]⟩) (fun y=>y.1<=p.A[j].C.length/\(0<=y.2/\y.2<=20001)/\XG (y.2+(OT (p.A[j].C.drop y.1)+(gL p.A[j].body+Ty (p.A.drop (j+1))):Nat))=XG (gPg p:Nat)) (fun y=>p.A[j].C.length-y.1) (0,m0) ⟨x8i _,b,z⟩ ?_;rintro⟨a,k⟩ ⟨d,q,r⟩;simp only at d q r⊢;have fin:XG (k+(gL p.A[j].body+Ty (p.A.drop (j+1)):Nat))=XG (gPg p:Nat)->(0<=XG (k+gL p.A[j].body)/\XG (k+gL p.A[j].body)<=20001)/\XG (XG (k+gL p.A[j].body)+Ty (p.A.drop (j+1)))=XG (gPg p:Nat):=fun h=>by
  refine⟨ZV (by omega),?_⟩;rw[ZK (by omega),<-h];congr 1;omega
 have s:k>20000->XG (k+(gL p.A[j].body+Ty (p.A.drop (j+1)):Nat))=XG (gPg p:Nat):=fun h=>by
  rw[<-r,<-JW h q.2 (by omega),<-JW h q.2 (by omega)]
 rcases x8o a p.A[j].C.length with ha|ha;rotate_left 1
 .have e:XG (k+(gL p.A[j].body+Ty (p.A.drop (j+1)):Nat))=XG (gPg p:Nat):=by
   rw[x9j ha,OT,z0t]at r;exact r
  obtain⟨f1,f2⟩:=fin e;conv=>whnf
  repeat' ((first|(refine gX ?_;intros)|refine cP (UC (gL p.A[j].body+1) p.A[j].body (by omega) k q) ?_ (ha:=.cons (Sub.refl _) (.cons (Sub.refl _) .nil))|(apply bD<;>intro _<;>try omega))<;>conv=>whnf)
  all_goals exact nX (j+1,XG (k+gL p.A[j].body)) ⟨by simp only;omega,f1,f2⟩
 rw[x9i ha,OT]at r;conv=>whnf
 repeat' ((first|(refine gX ?_;intros)|refine cP (QT p.A[j].C[a].name _ q) ?_|refine cP (UC (gL p.A[j].body+1) p.A[j].body (by omega) k q) ?_ (ha:=.cons (Sub.refl _) (.cons (Sub.refl _) .nil))|(apply bD<;>intro _<;>try omega))<;>conv=>whnf)
 .have t:XG (XG (k+(1+p.A[j].C[a].name.length:Nat))+(OT (p.A[j].C.drop (a+1))+(gL p.A[j].body+Ty (p.A.drop (j+1))):Nat))=XG (gPg p:Nat):=by
   rw[ZK (by omega),<-r];congr 1;omega
  exact nX (a+1,XG (k+(1+p.A[j].C[a].name.length:Nat))) ⟨by simp only;omega,ZV (by omega),t⟩
 .obtain ⟨f1,f2⟩:=fin (s (by omega));exact nX (j+1,XG (k+gL p.A[j].body)) ⟨by simp only;omega,f1,f2⟩
inductive SubE:List AV->List AV->Prop
 |nil:SubE [] []
 |cons {a b:AV} {xs ys:List AV} (h:SubL a.cells b.cells) (hs:SubE xs ys):SubE (a::xs) (b::ys)
theorem SubE.get{xs m:List AV}(h:SubE xs m):xs.length=m.length/\∀(i:Nat)(b:AV),m[i]?=some b->∃a,xs[i]?=some a/\SubL a.cells b.cells:=by
 induction h with
 |nil=>exact⟨rfl,by simp⟩
 | cons h q o=>
   refine⟨by simp[o.1],fun i b l=>?_⟩;cases i with
   |zero=>simp at l;subst l;exact⟨_,rfl,h⟩
   |succ i=>exact o.2 i b (by simpa using l)
theorem Sub.sl{xs r:List AV}(h:SubE xs r):Sub (.sl xs) (.sl r):=fun σ v D=>by
 obtain⟨y,w⟩:=h.get;cases D with
 | nilsl=>
   obtain rfl:r=[]:=by simpa using y.symm
   exact .nilsl
 | slz b=>
   obtain rfl:r=[]:=by simpa using y.symm
   exact .slz b
 | sl _ b off cap sz cells u B g q f C z=>
   rw[y];refine .sl r b off cap sz cells u B (by omega) q (fun i e o=>?_) (fun i e j c o x=>?_) (fun i e j c o x=>?_)
   .obtain ⟨a,l,m⟩:=w i e o;rw[<-f i a l,m.1]
   .obtain ⟨a,l,m⟩:=w i e o;obtain⟨d,t,_⟩:=m.get x;exact C i a j d l t
   .obtain ⟨a,l,m⟩:=w i e o;obtain⟨d,t,A⟩:=m.get x;exact A _ _ (z i a j d l t)
def BH(n:Int):aP 58 [.int .i64 n] (.agg (X.mk 1 n [] []).cells):=by
 refine sC Xo func58 ?_;conv=>whnf
 repeat' (refine x9p rfl ?_;conv=>whnf)
 exact⟨_,.p (Sub.agg x7k),rfl⟩
def FD(s:Str):aP 59 [.str s] (.agg (X.mk 2 0 s []).cells):=by
 refine sC Qq func59 ?_;conv=>whnf
 repeat' (refine x9p rfl ?_;conv=>whnf)
 exact⟨_,.p (Sub.agg x7k),rfl⟩
def VR(op:Int)(a b:X):aP 60 [.int .i64 op,.agg a.cells,.agg b.cells] (.agg (X.mk op 0 [] [a,b]).cells):=by
 refine sC Z2 func60 ?_;conv=>whnf
 repeat' ((first|refine x9p rfl ?_|refine aD ?_|refine BsK.pureL rfl rfl ?_)<;>conv=>whnf)
 have e:X.avs [a,b]=[.agg a.cells,.agg b.cells]:=by simp only[X.avs,X.av_eq]
 exact⟨_,.p (Sub.agg (SubL.cons (Sub.refl _) (SubL.cons (Sub.refl _) (SubL.cons (Sub.refl _) (SubL.cons (Sub.of_eq (by show _=AV.sl (X.avs [a,b]);rw[e];rfl)) SubL.nil))))),rfl⟩
def bs(l:List Nat):Str:=l.map fun n=>UInt8.ofNat n
def someP:Pg:=⟨[[103]],[
 ⟨[109,97,105,110],[],[[118]],[
   .mk 1 1 [] [118] [] (.mk 1 2 [] []) false [] [] [],
   .mk 2 4 [] [103] [112] (.mk 0 0 [] []) false [⟨false,[],.mk 1 3 [] []⟩,⟨true,[118],.mk 0 0 [] []⟩] [] [],
   .mk 3 3 [] [] [] (.mk 2 0 [118] []) false [] [] [],
   .mk 4 3 [] [] [] (.mk 2 0 [103] []) false [] [] []],[]⟩,
 ⟨[112],[⟨[120],false⟩,⟨[121],true⟩],[],[
   .mk 5 1 [] [121] [] (.mk 8 0 [] [.mk 2 0 [121] [],.mk 2 0 [120] []]) false [] [] [],
   .mk 6 5 [] [] [] (.mk 12 0 [] [.mk 2 0 [121] [],.mk 1 9 [] []]) false [] [.mk 7 10 [] [101] [] (.mk 0 0 [] []) false [] [] []] [],
   .mk 8 9 [] [] [] (.mk 2 0 [121] []) true [] [] []],[[101]]⟩]⟩
def Uz:aP 24 [] (.agg someP.cells):=by
 refine sC KB func24 ?_;conv=>whnf
 repeat' ((first|refine cP (BH _) ?_|refine cP (FD _) ?_|refine gX ?_|refine BsK.pureL rfl rfl ?_|refine cP (VR 8 (.mk 2 0 [121] []) (.mk 2 0 [120] [])) ?_|refine cP (VR 12 (.mk 2 0 [121] []) (.mk 1 9 [] [])) ?_)<;>conv=>whnf)
 exact⟨_,.p (Sub.agg (by repeat' (first|exact SubL.nil|exact SubE.nil|exact Sub.nils|exact Sub.ff rfl|exact Sub.tt rfl|refine SubL.cons ?_ ?_|refine SubE.cons ?_ ?_|exact Sub.refl _|refine Sub.agg ?_|refine Sub.sl ?_))),rfl⟩
end Go.Ab
