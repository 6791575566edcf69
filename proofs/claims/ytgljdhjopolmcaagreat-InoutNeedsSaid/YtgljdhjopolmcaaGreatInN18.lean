/- LAW: what must hold of a program, told without the places of faults. -/
import Derived.Test.YtgljdhjopolmcaaGreatInN17
set_option linter.all false
set_option maxRecDepth 100000
set_option maxHeartbeats 16000000
namespace Go.Ab
open Go.Proofs.Tryz
open Go.Proofs
def Fs(l:List Str)(x:Str):inS l x=l.any fun s=>x==s:=by
 unfold inS;congr 1;funext s;exact Bool.beq_comm
def WK{l:List Str}:XF l=false↔l.Nodup:=by
 refine⟨Jq,fun h=>?_⟩;unfold XF;rw[z3y];intro i m;rw[z1i]at m;rw[z4v,z3y];intro s o j;rw[x8p m]at j;have j:l[i]=s:=eq_of_beq j;obtain⟨k,n,rfl⟩:=z0v.1 o;rw[x9s]at n;rw[List.getElem_take]at j;have:=(z4a h).1 j;omega
theorem Qt:∀(l seen:List Str),seen.Nodup->((UP seen l).isSome=true↔(seen++l).Nodup)
 |[],seen,h=>by rw[UP,z0k];exact⟨fun _=>h,fun _=>rfl⟩
 | n::r,seen,h=>by
   rw[UP];cases k:(seen.any fun s=>n==s)with
   | true=>
     rw[x9z];obtain⟨s,u,i⟩:=z0g.1 k;have i:n=s:=eq_of_beq i;refine⟨fun h=>by(cases h),fun j=>?_⟩;rw[z0a]at j;exact absurd rfl (j.2.2 s u n x8l |> fun p=>i▸p)
   | false=>
     rw[x9k];have t:n∉seen:=fun q=>by
      have:=z3y.1 k n q;simp at this
     have m:(seen++[n]).Nodup:=by
      rw[z0a];exact⟨h,by simp,fun a ha b o e=>t (by rw[<-x9q.1 o,<-e];exact ha)⟩
     rw[Qt r (seen++[n]) m,x9l];rfl
theorem Lg(f:Pr):∀(its:List Item)(seen:List Str),seen.Nodup->((∃s,JP f its seen=.ok s)↔(∀it∈its,UW f it=true)/\(seen++its.flatMap fun it=>it.s.F).Nodup)
 | [],seen,h=>by
   rw[JP];refine⟨fun _=>⟨fun _ p=>(by cases p),by simpa using h⟩,fun _=>⟨seen,rfl⟩⟩
 | it::r,seen,h=>by
   have l:=Qt it.s.F seen h;rw[JP];cases m:UP seen it.s.F with
   | none=>
     rw[m]at l;refine⟨fun⟨s,n⟩=>by(cases n),fun⟨_,i⟩=>?_⟩;have:(seen++it.s.F).Nodup:=by
      rw[z0e,<-x9l]at i;exact(z0a.1 i).1
     have:=l.2 this;cases this
   | some s=>
     obtain rfl:=Zb m;rw[m]at l;have q:=l.1 rfl;simp only;cases o:UW f it with
     | false=>
       rw[x9k];refine⟨fun⟨s,n⟩=>by(cases n),fun⟨j,_⟩=>?_⟩;have:=j it x8l;rw[o]at this;cases this
     | true=>
       rw[x9z,Lg f r _ q,z0e,x9l];constructor
       .rintro ⟨j,i⟩;refine⟨fun x k=>?_,i⟩;rcases x8s.1 k with rfl|k
        .exact o
        .exact j x k
       .rintro ⟨j,i⟩;exact⟨fun x k=>j x (x8r _ k),i⟩
theorem Fi(f:Pr):∀(its:List Item)(seen s:List Str),JP f its seen=.ok s->s=seen++its.flatMap fun it=>it.s.F
 |[],seen,s,h=>by rw[JP]at h;cases h;simp
 | it::r,seen,s,h=>by
   rw[JP]at h;cases i:UP seen it.s.F with
   |none=>rw[i]at h;cases h
   | some k=>
     obtain rfl:=Zb i;rw[i]at h;simp only at h;cases j:UW f it with
     |false=>rw[j]at h;cases h
     | true=>
       rw[j,x9z]at h;rw[Fi f r _ s h,z0e,x9l]
def Kn(f:Pr):List Str:=(flL f.body).flatMap S.F++f.fin
def BW(p:Pg)(j:Nat)(f:Pr):Prop:=(∀it∈itsOf p j f,UW f it=true)/\(Kn f).Nodup
def Fa(p:Pg)(j:Nat)(f:Pr):((itsOf p j f).flatMap fun it=>it.s.F)=(flL f.body).flatMap S.F:=by
 unfold itsOf;rw[<-BL (j:Nat) 0 (-1) 0 (offN p.A j) f.body,List.flatMap_map]
def Fe{p:Pg}{j:Nat}{f:Pr}(u:p.A[j]?=some f):JQ p j=none↔BW p j f:=by
 unfold JQ BW Kn;rw[u];simp only;have i:=Lg f (itsOf p j f) [] z4s;rw[z1g,Fa]at i;have r:JP f (itL (j:Nat) 0 (-1) 0 (offN p.A j) f.body) []=JP f (itsOf p j f) []:=rfl;rw[r];cases q:JP f (itsOf p j f) []with
 | error id=>
   rw[q]at i;refine⟨fun h=>by(cases h),fun⟨n,o⟩=>?_⟩;obtain⟨s,l⟩:=i.2 ⟨n,(z0a.1 o).1⟩;cases l
 | ok seen=>
   rw[q]at i;have l:=Fi f _ _ _ q;rw[z1g,Fa]at l;obtain⟨n,o⟩:=i.1 ⟨seen,rfl⟩;have m:=Qt f.fin seen (by rw[l];exact o);simp only;rw[<-l];cases k:UP seen f.fin with
   | none=>
     rw[k]at m;refine⟨fun h=>by(cases h),fun⟨_,t⟩=>?_⟩;have:=m.2 t;cases this
   | some s=>
     rw[k]at m;exact⟨fun _=>⟨n,m.1 rfl⟩,fun _=>rfl⟩
def q1a{p:Pg}(n:(QC p).1=0):(LW p).1=0 ↔ ∀j f,p.A[j]?=some f->BW p j f:=by
 unfold LW;rw[if_neg (by omega)];cases l:(List.range p.A.length).findSome? (JQ p)with
 | some a=>
   refine⟨fun h=>by simp at h,fun h=>?_⟩;obtain⟨j,i,m⟩:=List.exists_of_findSome?_eq_some l;rw[z1i]at i;have:=(Fe (x8p i)).2 (h j _ (x8p i));rw[this]at m;cases m
 | none=>
   refine⟨fun _ j f i=>?_,fun _=>rfl⟩;have k:j<p.A.length:=(x8t.1 i).1;exact(Fe i).1 (z3i.1 l j (z1i.2 k))
def allV(p:Pg)(f:Pr):List Str:=p.B++Vs f
structure ScopeOK(p:Pg)(f:Pr):Prop where
 nd:(allV p f).Nodup
 kn:∀t∈flL f.body,knownB p f (procsN p) t=true
def Gp{p:Pg}{f:Pr}(r:XF p.B=false):VY p f=none↔ScopeOK p f:=by
 unfold VY;have m:(XF (Vs f)||(Vs f).any (fun n=>p.B.any fun s=>n==s))=false↔(allV p f).Nodup:=by
  unfold allV;rw[z3u,WK,z0a,z3y];have i:=WK.1 r;constructor
  .rintro ⟨a,b⟩;refine⟨i,a,fun x k y l e=>b y l ?_⟩;rw[z0g];exact⟨x,k,by rw[e];exact z0d _⟩
  .rintro ⟨_,a,b⟩;refine⟨a,fun y l u=>?_⟩;obtain⟨x,k,q⟩:=z0g.1 u;exact b x k y l (eq_of_beq q).symm
 cases o:(XF (Vs f)||(Vs f).any (fun n=>p.B.any fun s=>n==s))with
 | true=>
   rw[x9z];refine⟨fun h=>by(cases h),fun h=>?_⟩;have:=m.2 h.nd;rw[o]at this;cases this
 | false=>
   rw[x9k,Option.map_eq_none_iff,z2m];constructor
   .exact fun h=>⟨m.1 o,fun t j=>by have:=h t j;simpa using this⟩
   .intro h t j;rw[h.kn t j];decide
def Gn{p:Pg}(n:YV p=true):(QC p).1=0↔XI p=false/\∀f∈p.A,ScopeOK p f:=by
 unfold QC;rw[n,x9z];cases j:XI p with
 |true=>rw[x9z];exact⟨fun h=>by simp at h,fun h=>by cases h.1⟩
 | false=>
   have l:XF p.B=false:=by
    unfold XI at j;rw[z3u]at j;exact j.1
   rw[x9k];cases k:p.A.findSome? (VY p)with
   | some a=>
     refine⟨fun h=>by simp at h,fun h=>?_⟩;obtain⟨f,i,m⟩:=List.exists_of_findSome?_eq_some k;rw[(Gp l).2 (h.2 f i)]at m;cases m
   |none=>exact⟨fun _=>⟨rfl,fun f i=>(Gp l).1 (z3i.1 k f i)⟩,fun _=>rfl⟩
def Ja{p:Pg}(n:(QC p).1=0):(VO p).1=0 ↔ ∀t∈WI p,t.kind=4->YK p t=true:=by
 unfold VO;rw[if_neg (by omega)];cases j:(WI p).find? fun t=>decide (t.kind=4) && !YK p t with
 | some t=>
   have k:=z1a j;have i:=z3k j;simp only[x9g,x9o,z1b]at i;refine⟨fun h=>by simp at h,fun h=>?_⟩;have:=h t k i.1;rw[i.2]at this;cases this
 | none=>
   refine⟨fun _ t m l=>?_,fun _=>rfl⟩;have:=z2m.1 j t m;simp only[x9g,x9o,z1b,not_and]at this;simpa using this l
def Ex{p:Pg}(ha:(VO p).1=0):(HB p).1=0 ↔ ∀t∈WI p,t.kind=4->XP t.name (YD p t.D) t.args []=true:=by
 unfold HB;rw[if_neg (by omega)];cases j:(WI p).find? fun t=>decide (t.kind=4) && !XP t.name (YD p t.D) t.args []with
 | some t=>
   have k:=z1a j;have i:=z3k j;simp only[x9g,x9o,z1b]at i;refine⟨fun h=>by simp at h,fun h=>?_⟩;have:=h t k i.1;rw[i.2]at this;cases this
 | none=>
   refine⟨fun _ t m l=>?_,fun _=>rfl⟩;have:=z2m.1 j t m;simp only[x9g,x9o,z1b,not_and]at this;simpa using this l
def Bj{p:Pg}:QP p=true↔YV p=true/\(QC p).1=0/\(VO p).1=0/\(LW p).1=0/\(HB p).1=0:=by
 refine⟨QU,fun⟨h,j,k,l,i⟩=>?_⟩;unfold QP q5e;rw[x9o,if_neg (by rw[h];decide),if_neg (by omega),if_neg (by omega),if_neg (by omega)];exact i
def Mq{p:Pg}(h:YV p=true):(allR p).map RI.s=WI p:=by
 rw[Bq h];exact q4x p.A
def q7u{l:List Nat}{a:Nat}(h:a∈l):a<=Au l:=by
 induction l with
 |nil=>cases h
 | cons b r i=>
   rw[Au];rcases x8s.1 h with rfl|h
   .omega
   .have:=i h;omega
theorem Fp:∀(n:Nat)(x:X)(k:Nat),wX x<k->HM n x<=n->LZ k x=true->WW n x=true
 |0,x,k,_,h,_=>by rw[HM]at h;omega
 |n+1,x,0,hk,_,_=>by omega
 | n+1,x,k+1,hk,h,hf=>by
   rw[HM]at h;rw[LZ,x9g,z0p]at hf;obtain⟨m,i⟩:=hf;have s:wX x=1+wXs x.kids:=by cases x;rw[wX];rfl
   have r:∀y∈x.kids,WW n y=true:=fun y o=>Fp n y k (by have:=TT _ _ o;omega) (by have:=q7u (x8c.2 ⟨y,o,rfl⟩:HM n y∈x.kids.map (HM n));omega) (i y o);unfold HO at m;simp only[x9g,z3x,x9o,z2d]at m;obtain⟨⟨⟨⟨q,t⟩,u⟩,j⟩,v⟩:=m;rw[WW,x9g,x9o];refine⟨q.symm,?_⟩;split
   .rename_i p;rw[p,z0s (by decide)]at j;simp_all
   .rename_i p;split
    .rename_i l;rw[z0r l]at j;simp_all
    .rename_i l;rw[z0s l]at j;simp_all
def Tr(x:X):mayXR x=J0 x:=by
 rw[z2c];refine⟨fun h=>?_,Ia⟩;unfold mayXR at h;rw[x9g,x9o]at h;exact Fp 20 x _ (Nat.lt_succ_self _) h.1 h.2
def q5i(a:Arg):argR a=Zd a:=by
 unfold argR Zd JR BF;rw[Tr];cases a.ref<;>rfl
def q2f{s:S}(h:OneF s):oneOk s=true:=by
 obtain⟨f1,f2,f3,f4,f5,f6,f7,f8,f9,f10,f11,f12,f13,f14⟩:=h;have n:s.args.all Zd=true:=by
  rw[z0p]at f11⊢;exact fun a ha=>by rw[<-q5i];exact f11 a ha
 rw[Tr]at f4;have i:s.kind=1\/s.kind=2\/s.kind=3\/s.kind=4\/s.kind=5\/s.kind=6\/s.kind=7\/s.kind=8\/s.kind=9\/s.kind=10:=by omega
 have p:∀{α:Type}(l:List α),l.length=0->decide (0<l.length)=false:=fun l h=>z0s (by omega);have m:¬(s.kind=1\/s.kind=2\/s.kind=10)->s.kind≠4->(s.name==[])=true:=fun g A=>by
  rcases f8 g with h|h
  .exact h
  .exact absurd h.1 A
 have j:s.kind≠9->s.has=false:=fun h=>by
  cases C:s.has with
  |false=>rfl
  |true=>exact absurd (f6 C) h
 unfold oneOk;rw[x9g];refine⟨?_,f1⟩;have key:∀(f:Flds),Zh s.kind s.has (s.name==[])=some f->f.has=false->(f.I=false->s.I.length=0)->(f.L=false->s.L.length=0)->(s.kind≠4->s.args.length=0)->JR s.name f.name=true->JR s.D f.D=true->BF s.x f.x=true->VW s=true:=fun f B t u v w y z b=>by
  rw[Fg B,t,y,z,b,n];have c:(!f.I&&decide (0<s.I.length))=false:=by
   cases o:f.I with
   |true=>rfl
   |false=>rw[p _ (u o)];rfl
  have d:(!f.L&&decide (0<s.L.length))=false:=by
   cases o:f.L with
   |true=>rfl
   |false=>rw[p _ (v o)];rfl
  have e:(!decide (s.kind=4)&&decide (0<s.args.length))=false:=by
   by_cases q:s.kind=4
   .rw [z0r q];rfl
   .rw [p _ (w q)];exact Bool.and_false _
  rw[c,d,e];rfl
 have k:s.kind≠4->JR s.D false=true:=fun h=>f10 h;rcases i with i|i|i|i|i|i|i|i|i|i
 .exact key ⟨true,false,true,s.has,false,false⟩ (by rw[i];rfl) (j (by omega)) (fun _=>by omega) (fun _=>by omega) f12 (f7 (by omega)) (k (by omega)) (f4 (by unfold hasXB;rw[i];rfl))
 .exact key ⟨true,false,false,s.has,false,false⟩ (by rw[i];rfl) (j (by omega)) (fun _=>by omega) (fun _=>by omega) f12 (f7 (by omega)) (k (by omega)) (f5 (by unfold hasXB;rw[i];rfl))
 .exact key ⟨false,false,true,s.has,false,false⟩ (by rw[i];rfl) (j (by omega)) (fun _=>by omega) (fun _=>by omega) f12 (m (by omega) (by omega)) (k (by omega)) (f4 (by unfold hasXB;rw[i];rfl))
 .refine key ⟨!(s.name==[]),true,false,s.has,false,false⟩ (by rw[i];rfl) (j (by omega)) (fun _=>by omega) (fun _=>by omega) f12 ?_ (f9 i) (f5 (by unfold hasXB;rw[i];rfl));rcases f8 (by omega)with h|h
  .rw [h];exact h
  .rw [HC h.2];exact h.2
 .exact key ⟨false,false,true,s.has,true,true⟩ (by rw[i];rfl) (j (by omega)) (fun h=>by cases h) (fun h=>by cases h) f12 (m (by omega) (by omega)) (k (by omega)) (f4 (by unfold hasXB;rw[i];rfl))
 .exact key ⟨false,false,true,s.has,true,false⟩ (by rw[i];rfl) (j (by omega)) (fun h=>by cases h) (fun _=>by omega) f12 (m (by omega) (by omega)) (k (by omega)) (f4 (by unfold hasXB;rw[i];rfl))
 .exact key ⟨false,false,false,s.has,false,false⟩ (by rw[i];rfl) (j (by omega)) (fun _=>by omega) (fun _=>by omega) f12 (m (by omega) (by omega)) (k (by omega)) (f5 (by unfold hasXB;rw[i];rfl))
 .exact key ⟨false,false,false,s.has,false,false⟩ (by rw[i];rfl) (j (by omega)) (fun _=>by omega) (fun _=>by omega) f12 (m (by omega) (by omega)) (k (by omega)) (f5 (by unfold hasXB;rw[i];rfl))
 .refine key ⟨false,false,s.has,false,false,false⟩ (by rw[i];rfl) rfl (fun _=>by omega) (fun _=>by omega) f12 (m (by omega) (by omega)) (k (by omega)) ?_;cases r:s.has with
  |true=>exact f4 (by unfold hasXB;rw[i,r];rfl)
  |false=>exact f5 (by unfold hasXB;rw[i,r];rfl)
 .exact key ⟨true,false,false,s.has,false,false⟩ (by rw[i];rfl) (j (by omega)) (fun _=>by omega) (fun _=>by omega) f12 (f7 (by omega)) (k (by omega)) (f5 (by unfold hasXB;rw[i];rfl))
def q1q:∀(k:Nat)(l:List S)(i:Int)(e:Bool)(out:List RI),(flF k i e l out).length<=200->(∀x∈flF k i e l out,x.deep<=12)->flF k i e l out=out++fuL (13-(k:Int)) i e l:=by
 intro k;induction k with
 | zero=>
   intro l i e out j h;cases l with
   |nil=>rw[fuL,z0k];rfl
   | cons s r=>
     exfalso;have w:flF 0 i e (s::r) out=flF 0 i e r (if out.length<=200 then out++[⟨s,13,i,e⟩]else out):=rfl;rw[w]at j h;have q:=(PT 0 i e r (if out.length<=200 then out++[⟨s,13,i,e⟩]else out)).1;by_cases u:out.length<=200
     .rw [if_pos u]at j h q;have t:∀(r:List S)(o:List RI)(x:RI),x∈o->x∈flF 0 i e r o:=fun r=>by
       induction r with
       |nil=>exact fun o x m=>m
       | cons a r v=>
         intro o x m;show x∈flF 0 i e r (if o.length<=200 then o++[⟨a,13,i,e⟩]else o);refine v _ _ ?_;split
         .exact x8e.2 (.inl m)
         .exact m
      have:=h _ (t r _ ⟨s,13,i,e⟩ (x8e.2 (.inr (x9q.2 rfl))));simp at this
     .rw [if_neg u]at j q;omega
 | succ k v=>
   intro l;induction l with
   |nil=>intro i e out j h;rw[fuL,z0k];rfl
   | cons s r y=>
     intro i e out j h;have w:flF (k+1) i e (s::r) out=flF (k+1) i e r (if out.length<=200 then flF k s.id true s.L (flF k s.id false s.I (out++[⟨s,13-((k+1:Nat):Int),i,e⟩]))else out):=rfl;rw[w]at j h⊢;have q:=(PT (k+1) i e r (if out.length<=200 then flF k s.id true s.L (flF k s.id false s.I (out++[⟨s,13-((k+1:Nat):Int),i,e⟩]))else out)).1;have u:out.length<=200:=by
      refine z2r fun g=>?_;rw[if_neg g]at q j;omega
     rw[if_pos u]at j h q⊢;have z:=y i e _ j h;rw[z]at h;have n:∀x∈flF k s.id true s.L (flF k s.id false s.I (out++[⟨s,13-((k+1:Nat):Int),i,e⟩])),x.deep<=12:=fun x m=>h x (x8e.2 (.inl m));have b:=v s.L s.id true _ (by omega) n;rw[b]at n;have p:∀x∈flF k s.id false s.I (out++[⟨s,13-((k+1:Nat):Int),i,e⟩]),x.deep<=12:=fun x m=>n x (x8e.2 (.inl m));have f:=(PT k s.id true s.L (flF k s.id false s.I (out++[⟨s,13-((k+1:Nat):Int),i,e⟩]))).1;have d:=v s.I s.id false _ (by omega) p;have c:(13:Int)-((k+1:Nat):Int)+1=13-(k:Int):=by omega
     rw[z,b,d,fuL,EE,c];simp
mutual
theorem q8v(d i:Int)(e:Bool)(seen:Nat):∀(t:S),(fuS d i e t).map (fun x=>x.s.id)=JB seen (XL t)->(∀x∈fuS d i e t,x.deep<=12/\oneOk x.s=true)->seen+XL t<=200->Hm d seen t=some ((seen+XL t:Nat):Int)
 | .mk id kind F name D x has args I L,h1,h2,h3=>by
   have hc:XL (.mk id kind F name D x has args I L)=1+cntL I+cntL L:=WN _;rw[fuS]at h1 h2;rw[hc]at h1 h3⊢;have hsp:JB seen (1+cntL I+cntL L)=((seen:Int)+1)::(JB (seen+1) (cntL I)++JB (seen+1+cntL I) (cntL L)):=by
    rw[<-YT];unfold JB;rw[show 1+cntL I+cntL L=(cntL I+cntL L)+1 by omega,List.range'_succ,x9c];congr 1
   rw[hsp,x9c,x8a]at h1;have hid:id=(seen:Int)+1:=(z1f h1).1;have h1':=(z1f h1).2;have hlen:((fuL (d+1) id false I).map fun x=>x.s.id).length=(JB (seen+1) (cntL I)).length:=by
    rw[x8b,DH];unfold JB;simp
   obtain⟨ha,hb⟩:=z5x h1' hlen;have hok:=h2 _ x8l;have r1:=Pp (d+1) id false (seen+1) I ha (fun x hx=>h2 x (x8r _ (x8e.2 (.inl hx)))) (by omega);have r2:=Pp (d+1) id true (seen+1+cntL I) L hb (fun x hx=>h2 x (x8r _ (x8e.2 (.inr hx)))) (by omega);have hoo:=hok.2;unfold oneOk at hoo;rw[x9g]at hoo;rw[Hm,if_neg (by omega),if_neg (by omega),show namesB F=true from hoo.2,x9z,show VW (.mk id kind F name D x has args I L)=true from hoo.1,x9z];have e1:(seen:Int)+1=((seen+1:Nat):Int):=by omega
   rw[e1,r1];simp only;rw[r2];congr 1;omega
theorem Pp(d i:Int)(e:Bool)(seen:Nat):∀(l:List S),(fuL d i e l).map (fun x=>x.s.id)=JB seen (cntL l)->(∀x∈fuL d i e l,x.deep<=12/\oneOk x.s=true)->seen+cntL l<=200->UA d seen l=some ((seen+cntL l:Nat):Int)
 |[],_,_,_=>by rw[UA,cntL];rfl
 | t::r,h1,h2,h3=>by
   rw[fuL]at h1 h2;have hc:cntL (t::r)=XL t+cntL r:=by rw[cntL]
   rw[hc]at h1 h3⊢;rw[YT,x8a]at h1;have hlen:((fuS d i e t).map fun x=>x.s.id).length=(JB seen (XL t)).length:=by
    have:=DH d i e [t];rw[fuL,fuL,z0k,cntL,cntL]at this;rw[x8b,this];unfold JB;simp
   obtain⟨ha,hb⟩:=z5x h1 hlen;have hd:d<=12:=by
    have:(⟨t,d,i,e⟩:RI)∈fuS d i e t++fuL d i e r:=x8e.2 (.inl (by rw[EE];exact x8l));exact(h2 _ this).1
   have r1:=q8v d i e seen t ha (fun x hx=>h2 x (x8e.2 (.inl hx))) (by omega);have r2:=Pp d i e (seen+XL t) r hb (fun x hx=>h2 x (x8e.2 (.inr hx))) (by omega);rw[UA,if_neg (by omega),r1];simp only;rw[r2];congr 1;omega
end
theorem Lp:∀(l:List Pr)(seen:Nat),(∀f∈l,HX f=true)->((l.flatMap flatU).map fun x=>x.s.id)=JB seen (cntP l)->(∀x∈l.flatMap flatU,x.deep<=12/\oneOk x.s=true)->seen+cntP l<=200->(XO seen l).isSome=true
 |[],_,_,_,_,_=>rfl
 | f::r,seen,h1,h2,h3,h4=>by
   rw[z0e]at h2 h3;have k:cntP (f::r)=cntL f.body+cntP r:=by rw[cntP]
   rw[k]at h2 h4;rw[YT,x8a]at h2;have h:((flatU f).map fun x=>x.s.id).length=(JB seen (cntL f.body)).length:=by
    unfold flatU;rw[x8b,DH];unfold JB;simp
   obtain⟨ha,j⟩:=z5x h2 h;have n:=Pp 1 0 false seen f.body ha (fun x i=>h3 x (x8e.2 (.inl i))) (by omega);have o:=Lp r (seen+cntL f.body) (fun g m=>h1 g (x8r _ m)) j (fun x i=>h3 x (x8e.2 (.inr i))) (by omega);rw[XO,h1 f x8l,x9z,n];exact o
def CP:∀(l:List Pr)(out:List RI),(PK l out).length<=200->(∀x∈PK l out,x.deep<=12)->PK l out=out++l.flatMap flatU:=by
 intro l;induction l with
 |nil=>intro out _ _;show out=_;simp
 | cons f r j=>
   intro out h i;have mono:∀(r:List Pr)(o:List RI),o.length<=(PK r o).length:=fun r=>by
    induction r with
    |nil=>exact fun o=>x9h _
    | cons g r j=>
      intro o;show _<=(PK r (if o.length<=200 then o++VC g else o)).length;have:=j (if o.length<=200 then o++VC g else o);split at this
      .rw [if_pos (by assumption)];simp only[x8m]at this;omega
      .rw [if_neg (by assumption)];exact this
   have m:PK (f::r) out=PK r (if out.length<=200 then out++VC f else out):=rfl;rw[m]at h i⊢;have k:=mono r (if out.length<=200 then out++VC f else out);have s:out.length<=200:=by
    refine z2r fun t=>?_;rw[if_neg t]at k h;omega
   rw[if_pos s]at h i k⊢;have n:=j _ h i;rw[n]at i h⊢;simp only[x8m]at h;have p:=q1q 12 f.body 0 false [] (by show(VC f).length<=200;omega) (fun x u=>i x (x8e.2 (.inl (x8e.2 (.inr u)))));have q:VC f=flatU f:=by simpa[VC,flatU]using p
   rw[q];simp
def x1x{p:Pg}(r:p.B.length<=16)(t:p.A.length<=16)(u:namesB p.B=true)(v:∀f∈p.A,HX f=true)(w:(allR p).length<=200)(q:∀(k:Nat)(x:RI),(allR p)[k]?=some x->x.s.id=(k:Int)+1/\x.deep<=12/\oneOk x.s=true):YV p=true:=by
 have i:∀x∈allR p,x.deep<=12/\oneOk x.s=true:=fun x o=>by
  obtain⟨k,h,rfl⟩:=z0v.1 o;exact(q k _ (x8p h)).2
 have l:allR p=p.A.flatMap flatU:=by
  have:=CP p.A [] w (fun x o=>(i x o).1);simpa[allR]using this
 have m:(p.A.flatMap flatU).map (fun x=>x.s.id)=JB 0 (cntP p.A):=by
  refine z3m fun k=>?_;rw[x9x,<-l];rcases x8o k (allR p).length with h|h
  .have j:k<cntP p.A:=by rw[<-Z5,<-l];exact h
   rw[x8p h];have:=(q k _ (x8p h)).1;unfold JB;rw[x9x,z2e j];simp only[z1e,this];congr 1;omega
  .have j:cntP p.A<=k:=by rw[<-Z5,<-l];exact h
   rw[z0x h,z0x (by unfold JB;simpa using j)];rfl
 have n:0+cntP p.A<=200:=by rw[<-Z5,<-l];omega
 have:=Lp p.A 0 v m (fun x o=>i x (by rw[l];exact o)) n;unfold YV;rw[z0r r,z0r t,u];exact this
def spo(out:List Str)(s:Str):List Str:=if(out.any fun y=>s==y)=false then out++[s]else out
def q1u(x:X)(out:List Str):Wn x out=YF x.kids (if x.op=2 then spo out x.name else out):=by
 rw[Vv];unfold spo;by_cases h:x.op=2
 .rw [if_pos h];by_cases i:(out.any fun y=>x.name==y)=false
  .rw [if_pos ⟨h,i⟩,if_pos i]
  .rw [if_neg (fun j=>i j.2),if_neg i]
 .rw [if_neg h,if_neg (fun j=>h j.1)]
def Xq(out:List Str)(s:Str)(q:out.length<=1073741824):aH 307 [.hd 2000 0 out.length,.p (.str s)] (Pk 9 out) (.hd 2000 0 (spo out s).length) (Pk 9 (spo out s)):=by
 refine sK PQ func307 ?_;conv=>whnf
 repeat' ((refine iM fun _=>?_)<;>conv=>whnf)
 have o:(out.map AV.str).length=out.length:=x8b _;refine lI (fun j:Nat=>⟨[(0,.hd 2000 0 out.length),(1,.p (.str s)),(7,.hd 2000 0 out.length),(8,.j out.length),(9,.j j)],Pk 9 out⟩) (fun j=>j<=out.length/\(out.drop j).any (fun y=>s==y)=out.any fun y=>s==y) (fun j=>out.length-j) 0 ⟨x8i _,rfl⟩ ?_;rintro j ⟨n,i⟩;rcases x8o j out.length with h|h
 .have g:(out.map AV.str)[j]?=some (.str out[j]):=by simp[h]
  conv=>whnf
  repeat' ((first|refine gX ?_|refine iO j ?_|refine lO g ?_|((first|apply bD|apply bB)<;>intro _<;>try omega))<;>conv=>whnf)
  .have k:(s==out[j])=true:=by rw[Bool.beq_comm];assumption
   have e:=Jt (p:=fun y=>s==y) h k;rw[i]at e;have m:spo out s=out:=by unfold spo;rw[if_neg (by rw[e];decide)]
   exact⟨_,.refl _,by rw[m];exact⟨rfl,rfl⟩⟩
  .have k:(s==out[j])=false:=by rw[Bool.beq_comm];assumption
   exact nX (j+1) ⟨by omega,by rw[<-i,Ud (p:=fun y=>s==y) h k]⟩
 .have e:=PG (p:=fun y=>s==y) (l:=out) h;rw[i]at e;have m:spo out s=out++[s]:=by unfold spo;rw[if_pos e]
  rw[m];conv=>whnf
  repeat' ((first|refine gX ?_|refine pS ?_|(apply bD<;>intro _<;>try omega))<;>conv=>whnf)
  exact⟨_,.refl _,by simp only[Pk,x8m,x8a];exact⟨rfl,rfl⟩⟩
def Uv:∀(n:Nat)(_:n<=20)(x:X)(_:WW n x=true)(out:List Str)(_:out.length+2^n<=1073741824),
  aH 278 [.p (.agg x.cells),.hd 2000 0 out.length] (Pk 9 out) (.hd 2000 0 (Wn x out).length) (Pk 9 (Wn x out)):=by
 intro n;induction n with
 |zero=>intro _ x h;rw[WW]at h;cases h
 | succ n g=>
   intro B x d out C;have D:2^(n+1)=2*2^n:=by rw[Nat.pow_succ];omega
   have w:0<2^n:=Nat.pow_pos (by decide);obtain⟨t,u,o⟩:=NE d;have e:=X.avs_len x.kids;have q:∀j,j<x.kids.length->(x.kids.length-j)*2^n=(x.kids.length-(j+1))*2^n+2^n:=fun j m=>by
    rw[show x.kids.length-j=(x.kids.length-(j+1))+1 by omega,z1l,z5v]
   have v:x.kids.length*2^n<=2*2^n:=z0m _ t;have y:(spo out x.name).length<=out.length+1:=by unfold spo;split<;>simp
   have s:=q1u x out;have f:x.op=2->x.kids.length*2^n=0:=fun h=>by rw[u h,Nat.zero_mul]
   rw[s];have c:=Xq out x.name (by omega);have k:(if x.op=2 then spo out x.name else out).length+x.kids.length*2^n<=1073741824:=by
    split
    .rename_i h;have:=f h;omega
    .omega
   clear s;refine sK Qz func278 ?_;conv=>whnf
   generalize spo out x.name=o2 at*
   repeat' ((first|(refine iM fun _=>?_)|(apply bD<;>intro _<;>try omega)|(refine cH rH4 0 c ?_))<;>conv=>whnf)
   all_goals
    first
    |rw[if_pos (by assumption)]at k⊢
    |rw[if_neg (by assumption)]at k⊢
   rotate_left 1;generalize out=o2 at*
   all_goals
    refine lI (fun i:Nat×List Str=>⟨[(1,.hd 2000 0 i.2.length),(2,.p (.ip x.cells)),(15,.p (.int .i64 (X.avs x.kids).length)),(16,.j i.1)],Pk 9 i.2⟩) (fun i=>i.1<=x.kids.length/\YF (x.kids.drop i.1) i.2=YF x.kids o2/\i.2.length+(x.kids.length-i.1)*2^n<=1073741824) (fun i=>x.kids.length-i.1) (0,o2) ⟨x8i _,rfl,by simpa using k⟩ ?_;rintro⟨j,l⟩ ⟨z,r,a⟩;simp only at z r a⊢;rcases x8o j x.kids.length with m|m
    .have A:=q j m;have s:=Tj n x.kids[j] l (o _ (x9w m));have b:=g (by omega) x.kids[j] (o _ (x9w m)) l (by omega);conv=>whnf
     repeat' ((first|(refine gX ?_;intros)|(apply bD<;>intro _<;>try omega)|(refine cH rH4 0 b ?_))<;>conv=>whnf)
     all_goals exact nX (j+1,Wn x.kids[j] l) ⟨by simp only;omega,by simp only;rw[<-r,Fl m],by simp only;omega⟩
    .rw [L6 (by omega)]at r;conv=>whnf
     repeat' (apply bD<;>intro _<;>first|omega|conv=>whnf)
     exact⟨_,.refl _,by rw[r];exact⟨rfl,rfl⟩⟩
def DE(x:X):aP 227 [.agg x.cells] (.bool (J0 x)):=by
 refine sC YX func227 ?_;conv=>whnf
 repeat' ((first|refine cP (FH 20 (by omega) x) ?_ (ha:=.cons (Sub.refl _) (.cons (Sub.refl _) .nil))|refine cP (FF (wX x+1) x (by omega)) ?_ (ha:=.cons (Sub.refl _) .nil)|(apply bD<;>intro _<;>try omega))<;>conv=>whnf)
 all_goals rw[<-Tr]
 all_goals first
  |exact RetK.bool (by unfold mayXR;rw[z0r (by omega)];rfl)
  |exact RetK.ff (by unfold mayXR;rw[z0s (by omega)];rfl)
def Ah(x:X):SpecH prog 223 ([AV.agg x.cells].map .p) [] (OneRow (H9 (QN x)) (QN x=[])):=by
 refine sK MM func223 ?_;conv=>whnf
 have h:=DE x;cases i:J0 x with
 | false=>
   have e:QN x=[]:=by unfold QN;rw[i];rfl
   rw[i]at h;rw[e];repeat' ((first|refine cP h ?_|(apply bN<;>intro _))<;>conv=>whnf)
   all_goals first
    |exact z0f _ (x9b _) (.inl ⟨rfl,rfl,rfl⟩)
    |(exfalso;simp_all;done)
 | true=>
   have e:QN x=Wn x []:=by unfold QN;rw[i];rfl
   rw[i]at h;rw[e];repeat' ((first|refine cP h ?_|(apply bN<;>intro _))<;>conv=>whnf)
   all_goals first
    |(exfalso;simp_all;done)
    | (refine CallK.nil 5 9 1 rfl (.cons rfl (.row .nil)) ?_
       refine cJ [(2000,5)] 0 (Uv 20 (by omega) x (by assumption) [] (by simp)) ?_;rintro l' H' ⟨rfl,rfl⟩;conv=>whnf
       exact z0f _ (x9b _) (FI rfl))
def GR(x:X):aP 223 [.agg x.cells] (eStrs (QN x)):=(Ah x).toP (fun h=>by rw[h];rfl) fun _ _ _ _ h=>h.2.2
def Gw{s:S}(h:oneOk s=true->False):oneOk s=false:=by
 cases i:oneOk s with
 |false=>rfl
 |true=>exact(h i).elim
def X9(s:S):aP 169 [.agg s.cells] (.bool (oneOk s)):=by
 refine sC Z0 func169 ?_;conv=>whnf
 have n:(s.args.map fun a=>AV.agg a.cells).length=s.args.length:=x8b _;have r:((S.avs s.I).length:Int)=s.I.length:=by rw[S.avs_len]
 have o:((S.avs s.L).length:Int)=s.L.length:=by rw[S.avs_len]
 repeat' ((first|(refine iM fun _=>?_)|refine cP (XT _) ?_|refine cP (US _) ?_|refine cP (FB _) ?_|refine cP (JE _) ?_|refine GG ZP rfl rfl rfl rfl rfl ?_|((first|apply bD|apply bE|apply bN|apply bB)<;>intro _<;>try omega))<;>conv=>whnf)
 all_goals simp only[show(ByteArray.mk #[]).data.toList=[]from rfl]at*
 all_goals first
  | (refine RetK.ff (Gw fun h=>?_)
     obtain⟨f1,f2,f3,f4,f5,f6,f7,f8,f9,f10,f11,f12,f13,f14⟩:=JZ h;first
      |omega
      |(exfalso;simp_all[hasXB];done)
      |(exfalso;simp_all[hasXB];omega)
      | (rename_i b
         by_cases v:s.kind=4
         .have k:=HC (f9 v);simp_all
          done
         .have k:=f10 v;simp_all
          done))
  |skip
 all_goals
  have G:s.args.all argR=true->(s.I.length=0\/s.kind=5\/s.kind=6)->(s.L.length=0\/s.kind=5)->oneOk s=true:=fun g1 t u=>by
   refine q2f ⟨by assumption,by omega,by omega,fun q=>?_,fun q=>?_,fun q=>?_,fun q=>?_,fun q=>?_,fun q=>?_,fun q=>?_,g1,fun q=>?_,t,u⟩;all_goals clear n r o g1 t u
   all_goals first
    |omega
    |assumption
    |(simp_all[hasXB];done)
    |(simp_all[hasXB];omega)
    | (have m:(s.kind==4) = !(s.D==[]):=by assumption
       have y:(s.kind==4)=false:=z2t.2 (by assumption);rw[y]at m
       revert m
       cases(s.D==[])<;>simp
       done)
  refine lI (fun j:Nat=>⟨[(1,.p (.ip s.cells)),(143,.p (.sl (s.args.map fun a=>.agg a.cells))),(144,.p (.int .i64 (s.args.map fun a=>AV.agg a.cells).length)),(145,.j j)],[]⟩) (fun j=>j<=s.args.length/\(s.args.drop j).all argR=s.args.all argR) (fun j=>s.args.length-j) 0 ⟨x8i _,rfl⟩ ?_;rintro j ⟨z,l⟩;rcases x8o j s.args.length with i|i
  .conv=>whnf
   repeat' ((first|refine cP (Yb _) ?_|(refine gX ?_;intros)|((first|apply bD|apply bN)<;>intro _<;>try omega))<;>conv=>whnf)
   all_goals first
    |exact nX (j+1) ⟨i,by rw[GI i (by assumption)];exact l⟩
    | (refine RetK.ff (Gw fun h=>?_)
       have m:=z0p.1 (JZ h).args _ (x9w i);simp_all)
  .rw [GE i]at l;have G:=G l.symm;conv=>whnf
   repeat' ((first|(refine iM fun _=>?_)|(apply bD<;>intro _<;>try omega))<;>conv=>whnf)
   all_goals first
    |exact RetK.tt (G (by omega) (by omega))
    | (refine RetK.ff (Gw fun h=>?_)
       have w:=(JZ h).I;have x:=(JZ h).L;omega)
    | (refine RetK.bool ?_
       first
        |rw[z2c,z2d]
        |rw[z2c,x9o]
       exact⟨fun q=>G (by omega) (by omega),fun h=>by have w:=(JZ h).I;have x:=(JZ h).L;omega⟩)
def NQ{p:Pg}(h:YV p=true->False):YV p=false:=by
 cases i:YV p with
 |false=>rfl
 |true=>exact(h i).elim
def GQ(p:Pg):aP 101 [.agg p.cells] (.bool (YV p)):=by
 refine sC Xc func101 ?_;conv=>whnf
 have I:(p.B.map AV.str).length=p.B.length:=x8b _;have K:(p.A.map fun f=>AV.agg f.cells).length=p.A.length:=x8b _;repeat' ((first|(refine iM fun _=>?_)|refine cP (US _) ?_|((first|apply bD|apply bN)<;>intro _<;>try omega))<;>conv=>whnf)
 all_goals first
  | (refine RetK.ff (NQ fun h=>?_)
     have F:=ZA h;have w:=F.gl;have y:=F.pl;have z:=F.gn;first
      |omega
      |(simp_all;done))
  |skip
 have d:p.B.length<=16:=by omega
 have e:p.A.length<=16:=by omega
 have D:namesB p.B=true:=by assumption
 refine lI (fun j:Nat=>⟨[(1,.p (.ip p.cells)),(26,.p (.sl (p.A.map fun f=>.agg f.cells))),(27,.p (.int .i64 (p.A.map fun f=>AV.agg f.cells).length)),(28,.j j)],[]⟩) (fun j=>j<=p.A.length/\∀m (o:m<p.A.length),m<j->HX p.A[m]=true) (fun j=>p.A.length-j) 0 ⟨x8i _,fun m o h=>absurd h (z4f _)⟩ ?_;rintro j ⟨R,b⟩;rcases x8o j p.A.length with r|r
 .have L:(p.A[j].C.map fun a=>AV.agg a.cells).length=p.A[j].C.length:=x8b _;have N:(p.A[j].E.map AV.str).length=p.A[j].E.length:=x8b _;conv=>whnf
  repeat' ((first|(refine gX ?_;intros)|refine cP (US _) ?_|refine cP (XT _) ?_|((first|apply bD|apply bN)<;>intro _<;>try omega))<;>conv=>whnf)
  all_goals first
   | (refine RetK.ff (NQ fun h=>?_)
      obtain⟨w,y,z,O,P,Q⟩:=(ZA h).pr _ (x9w r);first
       |omega
       |(simp_all;done))
   |skip
  have t:(p.A[j].C.all fun a=>isName a.name)=true->HX p.A[j]=true:=fun g=>HE.2 ⟨by omega,by omega,by assumption,by assumption,by assumption,g⟩;refine lI (fun k:Nat=>⟨[(1,.p (.ip p.cells)),(26,.p (.sl (p.A.map fun f=>.agg f.cells))),(27,.p (.int .i64 (p.A.map fun f=>AV.agg f.cells).length)),(28,.j j),(61,.p (.sl (p.A[j].C.map fun a=>.agg a.cells))),(62,.p (.int .i64 (p.A[j].C.map fun a=>AV.agg a.cells).length)),(63,.j k)],[]⟩) (fun k=>k<=p.A[j].C.length/\(p.A[j].C.drop k).all (fun a=>isName a.name)=p.A[j].C.all fun a=>isName a.name) (fun k=>p.A[j].C.length-k) 0 ⟨x8i _,rfl⟩ ?_;rintro k ⟨G,v⟩;rcases x8o k p.A[j].C.length with l|l
  .conv=>whnf
   repeat' ((first|refine cP (XT _) ?_|(refine gX ?_;intros)|((first|apply bD|apply bN)<;>intro _<;>try omega))<;>conv=>whnf)
   .exact nX (k+1) ⟨l,by rw[<-v,GI (p:=fun a:Param=>isName a.name) l (by assumption)]⟩
   .refine RetK.ff (NQ fun h=>?_);have n:=z0p.1 ((ZA h).pr _ (x9w r)).2.2.2.2.2 _ (x9w l);simp_all
  .rw [GE l]at v;have u:=t v.symm;conv=>whnf
   repeat' ((first|refine wI ?_|(apply bD<;>intro _<;>try omega))<;>conv=>whnf)
   refine nX (j+1) ⟨r,fun m o J=>?_⟩;rcases x8o m j with n|n
   .exact b m o n
   .obtain rfl:m=j:=by omega
    exact u
 .have t : ∀f∈p.A,HX f=true:=fun f H=>by
   obtain⟨m,o,rfl⟩:=z0v.1 H;exact b m o (by omega)
  conv=>whnf
  have M:=FX (allR p);repeat' ((first|(refine iM fun _=>?_)|refine cP (JN _) ?_|(apply bD<;>intro _<;>try omega))<;>conv=>whnf)
  .refine RetK.ff (NQ fun h=>?_);have:=(ZA h).len;omega
  have u:(allR p).length<=200:=by omega
  refine lI (fun k:Nat=>⟨[(7,.p (Ml (allR p))),(79,.p (.int .i64 ((allR p).map fun i=>AV.agg i.cells).length)),(80,.j k)],[]⟩) (fun k=>k<=(allR p).length/\∀(m:Nat)(x:RI),m<k->(allR p)[m]?=some x->x.s.id=(m:Int)+1/\x.deep<=12/\oneOk x.s=true) (fun k=>(allR p).length-k) 0 ⟨x8i _,fun m x h=>absurd h (z4f _)⟩ ?_;rintro k ⟨G,c⟩;rcases x8o k (allR p).length with l|l
  .conv=>whnf
   have F:=fun h:YV p=true=>(ZA h).its k _ (x8p l);repeat' ((first|(refine gX ?_;intros)|refine cP (X9 (allR p)[k].s) ?_|((first|apply bD|apply bE|apply bN)<;>intro _<;>try omega))<;>conv=>whnf)
   all_goals first
    | (refine nX (k+1) ⟨l,fun m x o q=>?_⟩
       rcases x8o m k with n|n
       .exact c m x n q
       .obtain rfl:m=k:=by omega
        rw[x8p l]at q;obtain rfl:=z0y q;exact⟨by omega,by omega,by assumption⟩)
    | (refine RetK.ff (NQ fun h=>?_)
       obtain⟨w,y,z⟩:=F h;first
        |omega
        | (simp_all
           done))
  .conv=>whnf
   repeat' (apply bD<;>intro _<;>first|omega|conv=>whnf)
   exact RetK.tt (x1x d e D t u fun m x q=>c m x (by have:=(x8t.1 q).1;omega) q)
def Hn(p:Pg)(n:Str):Pr×Bool:=bif YV p then UI p n else(Pr0,false)
def JO(p:Pg)(n:Str):aP 45 [.agg p.cells,.str n] (.tup [.agg (Hn p n).1.cells,.bool (Hn p n).2]):=by
 refine sC Qw func45 ?_;conv=>whnf
 have m:(p.A.map fun f=>AV.agg f.cells).length=p.A.length:=x8b _;repeat' ((first|(refine gX ?_;intros)|refine cP (GQ _) ?_|(apply bB<;>intro _))<;>conv=>whnf)
 .have k:Hn p n=UI p n:=by unfold Hn;rw[show YV p=true by assumption];rfl
  rw[k];refine lI (fun j:Nat=>⟨[(1,.p (.str n)),(4,.ptr 1 0),(11,.p (.sl (p.A.map fun f=>.agg f.cells))),(12,.p (.int .i64 (p.A.map fun f=>AV.agg f.cells).length)),(13,.j j)],[(1,.obj 62 [.p (.str []),.p .nils,.p .nils,.p .nils,.p .nils])]⟩) (fun j=>j<=p.A.length/\(p.A.drop j).find? (fun f=>f.name==n)=p.A.find? fun f=>f.name==n) (fun j=>p.A.length-j) 0 ⟨x8i _,rfl⟩ ?_;rintro j ⟨o,h⟩;rcases x8o j p.A.length with i|i
  .rw [QG i,List.find?_cons]at h;conv=>whnf
   repeat' ((first|(refine gX ?_;intros)|((first|apply bD|apply bB)<;>intro _<;>try omega))<;>conv=>whnf)
   .have l:(p.A[j].name==n)=true:=by assumption
    rw[l]at h;exact⟨_,.p (Sub.tup (SubL.cons (Sub.refl _) (SubL.cons (Sub.tt rfl) SubL.nil))),by unfold UI;rw[<-h];first|done|rfl⟩
   .have l:(p.A[j].name==n)=false:=by assumption
    rw[l]at h;exact nX (j+1) ⟨i,h⟩
  .rw [x9j i,List.find?_nil]at h;conv=>whnf
   repeat' ((first|refine x9p rfl ?_|(apply bD<;>intro _<;>try omega))<;>conv=>whnf)
   exact⟨_,.p (Sub.tup (SubL.cons TD (SubL.cons (Sub.ff rfl) SubL.nil))),by unfold UI;rw[<-h];first|done|rfl⟩
 .have k:Hn p n=(Pr0,false):=by unfold Hn;rw[show YV p=false by assumption];rfl
  rw[k];exact⟨_,.p (Sub.tup (SubL.cons TD (SubL.cons (Sub.ff rfl) SubL.nil))),rfl⟩
def TL{l:List Str}(h:¬l.Nodup):XF l=true:=by
 cases i:XF l with
 |true=>rfl
 |false=>exact absurd (WK.1 i) h
def ZF(l:List Str):aP 233 [eStrs l] (.bool (XF l)):=by
 refine sC LX func233 ?_;conv=>whnf
 refine iM fun _=>?_;have x:(l.map AV.str).length=l.length:=x8b _;conv=>whnf
 refine lI (fun j:Nat=>⟨[(0,.p (eStrs l)),(6,.p (.int .i64 (l.map AV.str).length)),(7,.j j)],[]⟩) (fun j=>j<=l.length/\(l.take j).Nodup) (fun j=>l.length-j) 0 ⟨x8i _,by simp⟩ ?_;rintro j ⟨v,m⟩;rcases x8o j l.length with n|n
 .conv=>whnf
  repeat' (apply bD<;>intro _<;>first|omega|conv=>whnf)
  refine lI (fun k:Nat=>⟨[(0,.p (eStrs l)),(3,.j j),(4,.j k),(6,.p (.int .i64 (l.map AV.str).length)),(7,.j j)],[]⟩) (fun k=>k<=j/\∀s∈l.take k,s≠l[j]) (fun k=>j-k) 0 ⟨x8i _,fun s i=>by rw[z3q]at i;cases i⟩ ?_;rintro k ⟨w,o⟩;rcases x8o k j with t|t
  .conv=>whnf
   repeat' ((first|refine dA ?_|(refine gX ?_;intros)|((first|apply bD|apply bB)<;>intro _<;>try omega))<;>conv=>whnf)
   .refine RetK.tt (TL fun u=>?_);have h:l[j]=l[k]:=eq_of_beq (by assumption);have:=(z4a u).1 h;omega
   .have h:(l[j]==l[k])=false:=by assumption
    refine nX (k+1) ⟨by omega,fun s i=>?_⟩;rcases(QS (by omega)).1 i with q|rfl
    .exact o s q
    .exact fun e=>by rw[e]at h;simp at h
  .obtain rfl:k=j:=by omega
   conv=>whnf
   repeat' ((first|refine wI ?_|(apply bD<;>intro _<;>try omega))<;>conv=>whnf)
   refine nX (k+1) ⟨by omega,?_⟩;rw[x9v n,z0a];exact⟨m,by simp,fun a ha b r e=>o a ha (by rw[e];exact x9q.1 r)⟩
 .rw [x9u n]at m;conv=>whnf
  repeat' (apply bD<;>intro _<;>first|omega|conv=>whnf)
  exact RetK.ff (WK.2 m)
def Xu(f:Pr)(l:f.C.length<=1000000):aP 234 [.agg f.cells] (eStrs (f.C.map Param.name)):=by
 refine sC PY func234 ?_;conv=>whnf
 refine iM fun _=>?_;have n:(f.C.map fun a=>AV.agg a.cells).length=f.C.length:=x8b _;conv=>whnf
 refine lJ (fun j:Nat=>⟨[(3,.hd 0 0 j),(7,.p (.sl (f.C.map fun a=>AV.agg a.cells))),(8,.p (.int .i64 (f.C.map fun a=>AV.agg a.cells).length)),(9,.j j)],[(0,.own 9 1 (((f.C.map Param.name).take j).map .str))]⟩) (fun j=>j<=f.C.length) (fun j=>f.C.length-j) 0 (lM [(0,.own 9 1 [])]) (x8i _) ?_;intro j m;rcases x8o j f.C.length with h|h
 .have k:((f.C.map Param.name).take (j+1))=(f.C.map Param.name).take j++[f.C[j].name]:=by
   rw[x9v (by simpa using h),z2l]
  have i:((f.C.map Param.name).take j).length=j:=by simp;omega
  generalize(f.C.map Param.name).take j=acc at*
  conv=>whnf
  repeat' ((first|(refine gX ?_;intros)|refine WU (by simp;omega) (by simp;omega) ?_|(apply bD<;>intro _<;>try omega))<;>conv=>whnf)
  exact⟨j+1,by omega,by omega,Le.of_eq (by rw[k];simp;rfl)⟩
 .rw [x9u (by simpa using h)];conv=>whnf
  repeat' (apply bD<;>intro _<;>first|omega|conv=>whnf)
  exact⟨_,.hd rfl (by simp;omega),rfl⟩
def Uu(p:Pg)(f:Pr)(name:Str):aP 236 [.agg p.cells,.agg f.cells,.str name] (.int .i64 (GY p f name)):=by
 refine sC Qu func236 ?_;conv=>whnf
 repeat' ((refine iM fun _=>?_)<;>conv=>whnf)
 have l:(f.C.map fun a=>AV.agg a.cells).length=f.C.length:=x8b _;refine lI (fun j:Nat=>⟨[(2,.p (.str name)),(3,.p (.ip p.cells)),(4,.p (.ip f.cells)),(10,.p (.sl (f.C.map fun a=>.agg a.cells))),(11,.p (.int .i64 (f.C.map fun a=>AV.agg a.cells).length)),(12,.j j)],[]⟩) (fun j=>j<=f.C.length/\(f.C.drop j).find? (fun a=>a.name==name)=f.C.find? fun a=>a.name==name) (fun j=>f.C.length-j) 0 ⟨x8i _,rfl⟩ ?_;rintro j ⟨k,h⟩;rcases x8o j f.C.length with i|i
 .conv=>whnf
  repeat' ((first|(refine gX ?_;intros)|((first|apply bD|apply bB)<;>intro _<;>try omega))<;>conv=>whnf)
  all_goals first
   |(exfalso;simp_all;done)
   | (have e:=DW (p:=fun a:Param=>a.name==name) i (by assumption)
      rw[h]at e;exact RetK.int (by unfold GY;rw[e];simp[*]))
   |(refine nX (j+1) ⟨by omega,by rw[<-h,Qd (p:=fun a:Param=>a.name==name) i (by assumption)]⟩)
 .have e:f.C.find? (fun a=>a.name==name)=none:=by rw[<-h,DZ (by omega)]
  conv=>whnf
  repeat' ((first|refine cP (QE _ _) ?_|((first|apply bD|apply bB)<;>intro _<;>try omega))<;>conv=>whnf)
  all_goals
   simp only[Fs]at*
   exact RetK.int (by unfold GY;rw[e];simp[*])
def FP(t:S)(ha:t.args.length<=21000):aP 235 [.agg t.cells] (eStrs (ZU t)):=by
 refine sC Qv func235 ?_;conv=>whnf
 repeat' ((first|(refine gX ?_;intros)|refine cP (GR _) ?_|refine ZT _ (by simp) (by have:=WJ t.x;simp;omega) ?_|refine WU (by simp) (by simp) ?_|((first|apply bE|apply bN)<;>intro _<;>try omega))<;>conv=>whnf)
 all_goals simp only[show(ByteArray.mk #[]).data.toList=[]from rfl]at*
 all_goals
  have n:(t.args.map fun a=>AV.agg a.cells).length=t.args.length:=x8b _;refine lJ (BU t 9) (fun j=>j<=t.args.length) (fun j=>t.args.length-j) 0 (Le.of_eq ?_) (x8i _) ?_
  .first
    | (have e:B9 t 0=QN t.x:=by simp[B9,HI,show t.kind=10 by assumption]
       rw[BU,e];simp only[z0t,x8b,x8m,x8a,z1g];rfl)
    | (have e:B9 t 0=QN t.x:=by simp[B9,HI,show t.name=[] by simpa using(show(t.name==[])=true by assumption)]
       rw[BU,e];simp only[z0t,x8b,x8m,x8a,z1g];rfl)
    | (have e:B9 t 0=[t.name]++QN t.x:=by
        have:(t.name==[])=false:=by assumption
        simp[B9,HI,show ¬t.kind=10 by assumption,this]
       rw[BU,e];simp only[z0t,x8b,x8m,x8a,z1g];rfl)
  intro j l;have k:=S4 t l ha;conv=>whnf
  repeat' ((first|refine cP (GR _) ?_|(refine gX ?_;intros)|refine ZT _ (by simp) (by have:=WJ (t.args[j]'(by omega)).x;simp;omega) ?_|refine pS ?_|((first|apply bD|apply bB)<;>intro _<;>try omega))<;>conv=>whnf)
  all_goals first
   |exact⟨_,.hd rfl (by simp),by
      have:t.args.take j=t.args:=x9u (by omega);rw[ZU,<-this];rfl⟩
   | (have m:j<t.args.length:=by omega
      have h:=M7 m;refine⟨j+1,by show j+1<=_;omega,by show t.args.length-(j+1)<t.args.length-j;omega,Le.of_eq ?_⟩;first
       | (have i:JX t.args[j]=[t.args[j].name]++QN t.args[j].x:=by rw[JX,show t.args[j].ref=true by assumption];rfl
          rw[BU,h,i];simp only[x8m,x8a,x8b,<-x9l,<-z1j];rfl)
       | (have i:JX t.args[j]=QN t.args[j].x:=by rw[JX,show t.args[j].ref=false by assumption];rfl
          rw[BU,h,i];simp only[x8m,x8a,x8b];rfl))
def WF(p:Pg)(n:Str):aP 232 [.agg p.cells,.str n] (.tup [.agg (UI p n).1.cells,.bool (UI p n).2]):=by
 refine sC LQ func232 ?_;conv=>whnf
 have l:(p.A.map fun f=>AV.agg f.cells).length=p.A.length:=x8b _;repeat' ((refine iM fun _=>?_)<;>conv=>whnf)
 refine lI (fun j:Nat=>⟨[(1,.p (.str n)),(4,.ptr 1 0),(9,.p (.sl (p.A.map fun f=>.agg f.cells))),(10,.p (.int .i64 (p.A.map fun f=>AV.agg f.cells).length)),(11,.j j)],[(1,.obj 62 [.p (.str []),.p .nils,.p .nils,.p .nils,.p .nils])]⟩) (fun j=>j<=p.A.length/\(p.A.drop j).find? (fun f=>f.name==n)=p.A.find? fun f=>f.name==n) (fun j=>p.A.length-j) 0 ⟨x8i _,rfl⟩ ?_;rintro j ⟨m,h⟩;rcases x8o j p.A.length with i|i
 .rw [QG i,List.find?_cons]at h;conv=>whnf
  repeat' ((first|(refine gX ?_;intros)|((first|apply bD|apply bB)<;>intro _<;>try omega))<;>conv=>whnf)
  .have k:(p.A[j].name==n)=true:=by assumption
   rw[k]at h;exact⟨_,.p (Sub.tup (SubL.cons (Sub.refl _) (SubL.cons (Sub.tt rfl) SubL.nil))),by unfold UI;rw[<-h];first|done|rfl⟩
  .have k:(p.A[j].name==n)=false:=by assumption
   rw[k]at h;exact nX (j+1) ⟨i,h⟩
 .rw [x9j i,List.find?_nil]at h;conv=>whnf
  repeat' ((first|refine x9p rfl ?_|(apply bD<;>intro _<;>try omega))<;>conv=>whnf)
  exact⟨_,.p (Sub.tup (SubL.cons TD (SubL.cons (Sub.ff rfl) SubL.nil))),by unfold UI;rw[<-h];first|done|rfl⟩
def q0i(p:Pg)(s:S):YK p s=(decide (s.kind=4)&&((UI p s.D).2&&Gb (UI p s.D).1.C s.args)):=by
 unfold YK UI;cases p.A.find? (fun f=>f.name==s.D)<;>rfl
def JY(p:Pg)(s:S):aP 237 [.agg p.cells,.agg s.cells] (.bool (YK p s)):=by
 refine sC FA func237 ?_;conv=>whnf
 have z:=WF p s.D;have y:=q0i p s;rw[y];generalize(UI p s.D).2=ok at*
 generalize(UI p s.D).1=q at*
 have b:(s.args.map fun a=>AV.agg a.cells).length=s.args.length:=x8b _;have c:(q.C.map fun a=>AV.agg a.cells).length=q.C.length:=x8b _;repeat' ((first|(refine gX ?_;intros)|refine cP z ?_|((first|apply bE|apply bN)<;>intro _<;>try omega))<;>conv=>whnf)
 all_goals first
  |(refine RetK.ff ?_;simp_all;done)
  | (refine RetK.ff ?_
     have:Gb q.C s.args=false:=by
      unfold Gb;rw[z1u];intro o;have:=z0l List.length o;simp at this;omega
     rw[this];simp)
  |skip
 have m:s.kind=4:=by omega
 have x:s.args.length=q.C.length:=by omega
 have t:ok=true:=by assumption
 rw[t,z0r m,z3l,z3l];refine lI (fun j:Nat=>⟨[(3,.p (.ip s.cells)),(5,.p (.ip q.cells)),(33,.p (.int .i64 (s.args.map fun a=>AV.agg a.cells).length)),(34,.j j)],[]⟩) (fun j=>j<=s.args.length/\∀k (m:k<j) (u:k<s.args.length) (n:k<q.C.length),s.args[k].ref=q.C[k].ref) (fun j=>s.args.length-j) 0 ⟨x8i _,fun k m=>absurd m (z4f _)⟩ ?_;rintro j ⟨n,v⟩;rcases x8o j s.args.length with w|w
 .have r:j<q.C.length:=by omega
  conv=>whnf
  repeat' ((first|refine dA ?_|(refine gX ?_;intros)|refine GG ZP rfl rfl rfl rfl rfl ?_|((first|apply bD|apply bE)<;>intro _<;>try omega))<;>conv=>whnf)
  all_goals first
   | (refine RetK.ff ?_
      unfold Gb;rw[z1u];intro o;have i:=z0l (fun l=>l[j]?) o;simp only[x9x,x8p w,x8p r,z1e]at i;have h:=z0y i;simp_all
      done)
   | (refine nX (j+1) ⟨by omega,fun k m u n=>?_⟩
      rcases x8o k j with h|h
      .exact v k h u n
      .obtain rfl:k=j:=by omega
       simp_all)
 .conv=>whnf
  repeat' (apply bD<;>intro _<;>first|omega|conv=>whnf)
  refine RetK.tt ?_;unfold Gb;rw[x9o];refine List.ext_getElem (by simp;omega) fun k i h=>?_;simp only[x8b]at i h;rw[z2l,z2l,v k (by omega) h i]
def Xv(f:Pr)(t:∀x∈VC f,x.s.F.length<=21000)(w:f.fin.length<=21000):aP 239 [.agg f.cells] (eStrs ((VC f).flatMap (fun x=>x.s.F)++f.fin)):=by
 refine sC PU func239 ?_;conv=>whnf
 have q:=XA f;have u:=HR f;generalize VC f=L at*
 have r:=FX L;repeat' ((first|(refine iM fun _=>?_)|refine cP q ?_)<;>conv=>whnf)
 refine lJ (fun x:Nat×List Str=>⟨[(1,.p (.ip f.cells)),(3,.hd 0 0 x.2.length),(7,.p (Ml L)),(8,.p (.int .i64 (L.map fun i=>AV.agg i.cells).length)),(9,.j x.1)],[(0,.own 9 1 (x.2.map .str))]⟩) (fun x=>x.1<=L.length/\x.2=(L.take x.1).flatMap (fun x=>x.s.F)/\x.2.length<=21000*x.1) (fun x=>L.length-x.1) (0,[]) (lM [(0,.own 9 1 [])]) ⟨x8i _,by simp,by simp⟩ ?_;rintro⟨j,h⟩ ⟨m,k,n⟩;simp only at m k n⊢;rcases x8o j L.length with l|l
 .have v:=t _ (x9w l);have o:h++L[j].s.F=(L.take (j+1)).flatMap (fun x=>x.s.F):=by rw[x9v l,z3t,<-k];simp
  conv=>whnf
  repeat' ((first|(refine gX ?_;intros)|refine ZT _ (by simp) (by simp;omega) ?_|(apply bD<;>intro _<;>try omega))<;>conv=>whnf)
  exact⟨(j+1,h++L[j].s.F),⟨by simp only;omega,o,by simp;omega⟩,by simp only;omega,Le.of_eq (by simp;rfl)⟩
 .rw [x9u l]at k;conv=>whnf
  repeat' ((first|refine aD ?_|refine ZT _ (by simp) (by simp;omega) ?_|(apply bD<;>intro _<;>try omega))<;>conv=>whnf)
  exact⟨_,.hd rfl (by simp),by rw[<-k];simp[eStrs]⟩
def Xx(l:List RI)(id:Int):aP 238 [Ml l,.int .i64 id] (.tup [.int .i64 (Re l.reverse id).1,.bool (Re l.reverse id).2]):=by
 refine sC PX func238 ?_;conv=>whnf
 refine iM fun _=>?_;have r:=FX l;conv=>whnf
 repeat' (refine wI ?_;conv=>whnf)
 refine lJ (fun n:Nat=>⟨[(0,.p (Ml l)),(1,.j id),(6,.j ((n:Int)-1))],[]⟩) (fun n=>n<=l.length/\Re (l.take n).reverse id=Re l.reverse id) (fun n=>n) l.length (Le.of_eq (by rw[r])) ⟨x9h _,by rw[z3s]⟩ ?_;rintro n ⟨y,q⟩;cases n with
 | zero=>
   rw[<-q];conv=>whnf
   repeat' (apply bD<;>intro _<;>first|omega|conv=>whnf)
   exact RetK.tup2 rfl (Sub.ff rfl)
 | succ n=>
   have w:n<l.length:=by omega
   have h:=Mv w id;have s:((n+1:Nat):Int)-1=(n:Nat):=by omega
   rw[s];conv=>whnf
   repeat' ((first|(refine iA fun _=>?_)|refine Wr.eq (m:=(n:Int)-1) rfl (by omega) (by omega) ?_|((first|apply bD|apply bE)<;>intro _<;>try omega))<;>conv=>whnf)
   rotate_left 1
   .rw [if_neg (by assumption)]at h;exact nX n ⟨by omega,by rw[<-h];exact q⟩
   rw[if_pos (by omega)]at h;refine lI (fun x:Nat×Int=>⟨[(0,.p (Ml l)),(1,.j id),(6,.j n),(7,.j x.2),(8,.j ((x.1:Int)-1))],[]⟩) (fun x=>x.1<=n/\GO (l.take x.1).reverse x.2=GO (l.take n).reverse l[n].inn) (fun x=>x.1) (n,l[n].inn) ⟨x9h _,rfl⟩ ?_;rintro⟨m,i⟩ ⟨u,o⟩;simp only at u o⊢;cases m with
   | zero=>
     have e:GO (l.take 0).reverse i=(0,false):=rfl;rw[e]at o;rw[<-o,if_neg (by decide)]at h;conv=>whnf
     repeat' ((first|refine Wr.eq (m:=(n:Int)-1) rfl (by omega) (by omega) ?_|(apply bD<;>intro _<;>try omega))<;>conv=>whnf)
     exact nX n ⟨by omega,by rw[<-h];exact q⟩
   | succ m=>
     have v:m<l.length:=by omega
     have k:=CS v i;have t:((m+1:Nat):Int)-1=(m:Nat):=by omega
     rw[t];conv=>whnf
     repeat' ((first|(refine iA fun _=>?_)|refine Wr.eq (m:=(n:Int)-1) rfl (by omega) (by omega) ?_|refine Wr.eq (m:=(m:Int)-1) rfl (by omega) (by omega) ?_|((first|apply bD|apply bE)<;>intro _<;>try omega))<;>conv=>whnf)
     all_goals first
      | (rw[if_pos (by omega)]at k
         rw[k]at o;rw[<-o,if_neg (by decide)]at h;exact nX n ⟨by omega,by rw[<-h];exact q⟩)
      | (rw[if_neg (by assumption),if_neg (by assumption)]at k
         exact nX (m,i) ⟨by simp only;omega,by rw[<-k];exact o⟩)
      | (rw[if_neg (by assumption),if_pos (by omega),if_pos (by assumption)]at k
         rw[k]at o;rw[<-o,if_pos rfl]at h;rw[<-q,h];exact RetK.tup2 rfl (Sub.tt rfl))
      | (rw[if_neg (by assumption),if_pos (by omega),if_neg (by assumption)]at k
         exact nX (m,l[m].inn) ⟨by simp only;omega,by rw[<-k];exact o⟩)
def pureL:LV->LV
 |.p a=>.p a
 |_=>.p .any
def Ar:List (Nat×LV)->List (Nat×LV)
 |[]=>[]
 |(j,l)::r=>(j,pureL l)::Ar r
theorem R4:∀(sl:List (Nat×LV))(i:Nat),getS (Ar sl) i=pureL (getS sl i)
 |[],i=>rfl
 | (j,l)::r,i=>by
   rw[Ar,getS,getS];cases j==i with
   |true=>rfl
   |false=>exact R4 r i
def Wl{P:Program}{N:Nat}{g:FuncId}{args:List LV}{o:Option Nat}{s:St}{K:St->Prop}{avs:List AV}{R:AV->Prop}(F:SpecP P g avs R)(ha:FrzL s.H args avs)(h:∀c,R c->setD N (Ar s.sl) o (.p c) fun sl=>K ⟨sl,[]⟩):CallK P N g args o s K:=by
 refine⟨fun σ β a w f m Y Z=>⟨F.go m,?_⟩⟩;obtain⟨t,q⟩:=ha.get;obtain⟨τ,E,J,L,M⟩:=PA f.heap;refine(F.ok τ w m (Y.trans t) (fun j c C=>?_) J).mono fun e w' ⟨c,u,σ',U,Q,z,r,V,n,v⟩=>?_
 .obtain ⟨l,A,d⟩:=q j c C;exact M l _ c (Z j l A) d
 .have D:Rel N σ' β ⟨Ar s.sl,[]⟩ a w':=⟨f.size,f.defers,fun i=>by
   show RepL σ' β (getS (Ar s.sl) i) _;rw[R4];have:=f.G i;generalize getS s.sl i=l at this⊢;cases l with
   |p x=>exact this.mono (Mem.le_trans E r)
   |_=>exact .p (.any _),⟨V,fun k c h=>(by cases h),z4s,fun k h=>(by cases h),fun k h=>(by cases h)⟩⟩
  obtain⟨sl,O,y⟩:=D.setD (.p z) (h c Q);refine⟨u,σ',β,_,U,O,y,Mem.le_trans E r,⟨n.os,n.tape,n.output,n.drawn,n.size,fun b T _=>n.block b T id⟩,fun b I A=>?_,fun b ⟨j,C,_⟩=>(by cases C),fun _ _ _=>rfl⟩;by_cases d:τ b=none
  .exact .inr (v b d A)
  .rcases L b d with B|B
   .exact absurd I B
   .exact .inl B
def AY(l:List Str)(f:l.length<=1000000000):SpecH prog 83 ([eStrs l].map .p) [] (OneRow (H9 (WB l)) False):=by
 refine sK PW func83 ?_;conv=>whnf
 refine iM fun _=>?_;have c:(l.map AV.str).length=l.length:=x8b _;conv=>whnf
 refine lJ (fun x:Nat×List Str=>⟨[(0,.p (eStrs l)),(3,.hd 0 0 x.2.length),(9,.p (.int .i64 (l.map AV.str).length)),(10,.j x.1)],[(0,.own 9 1 (x.2.map .str))]⟩) (fun x=>x.1<=l.length/\RiseI ltT l x.2 x.1) (fun x=>l.length-x.1) (0,[]) (lM [(0,.own 9 1 [])]) ⟨x8i _,RiseI.zero⟩ ?_;rintro⟨i,out⟩ ⟨v,s⟩;simp only at v s⊢;have e:=s.len Qa;rcases x8o i l.length with b|b
 .conv=>whnf
  repeat' ((first|(refine iM fun _=>?_)|(apply bD<;>intro _<;>try omega))<;>conv=>whnf)
  refine lJ (fun x:Nat×Option Str=>⟨[(0,.p (eStrs l)),(3,.hd 0 0 out.length),(4,.p (.str (x.2.getD []))),(5,.p (.bool x.2.isSome)),(9,.p (.int .i64 (l.map AV.str).length)),(10,.j i),(12,.p (eStrs l)),(13,.p (.int .i64 (l.map AV.str).length)),(14,.j x.1)],[(0,.own 9 1 (out.map .str))]⟩) (fun x=>x.1<=l.length/\LeastI ltT l out x.1 x.2) (fun x=>l.length-x.1) (0,none) (lE (hsl:=.r (.r (.r (.cons (.p (Sub.ff rfl)) (.r (.r (.r (.r (.r .nil)))))))))) ⟨x8i _,LeastI.zero⟩ ?_;rintro⟨k,o⟩ ⟨w,n⟩;simp only at w n⊢;rcases x8o k l.length with q|q
  .have t:inS out l[k]=true->l[k]∈out:=VV.1;have u:inS out l[k]=false->l[k]∉out:=fun h d=>by rw[VV.2 d]at h;cases h
   cases o with
   | none=>
     simp only[Option.getD_none,Option.isSome_none];conv=>whnf
     repeat' ((first|(refine gX ?_;intros)|(refine QH (QE out (l[k]'q)) (.cons (.hd rfl (by simp)) (.cons (.p (Sub.refl _)) .nil)) (by rintro _ rfl;rfl) ?_;rintro _ rfl)|((first|apply bD|apply bN|apply bB)<;>intro _<;>try omega))<;>conv=>whnf)
     all_goals first
      |(exfalso;simp_all;done)
      |exact nX (k+1,none) ⟨by simp only;omega,n.old q (t (by assumption))⟩
      |exact⟨(k+1,some l[k]),⟨by simp only;omega,n.first q (u (by assumption))⟩,by simp only;omega,(lE (hsl:=.r (.r (.r (.cons (.p (Sub.tt rfl)) (.r (.r (.r (.r (.r .nil))))))))))⟩
   | some m=>
     simp only[z1k,Option.isSome_some];conv=>whnf
     repeat' ((first|(refine gX ?_;intros)|(refine QH (QE out (l[k]'q)) (.cons (.hd rfl (by simp)) (.cons (.p (Sub.refl _)) .nil)) (by rintro _ rfl;rfl) ?_;rintro _ rfl)|((first|apply bD|apply bN|apply bB)<;>intro _<;>try omega))<;>conv=>whnf)
     all_goals first
      |(exfalso;simp_all;done)
      |exact nX (k+1,some m) ⟨by simp only;omega,n.old q (t (by assumption))⟩
      |exact⟨(k+1,some l[k]),⟨by simp only;omega,n.less ltT.trans q (u (by assumption)) (by assumption)⟩,by simp only;omega,(lE (hsl:=.r (.r (.r (.cons (.p (Sub.tt rfl)) (.r (.r (.r (.r (.r .nil))))))))))⟩
      | (have a:Op.bytesLess l[k] m=false:=by assumption
         exact nX (k+1,some m) ⟨by simp only;omega,n.more (fun _ _=>Im) q (fun h=>by unfold ltT at h;rw[a]at h;cases h)⟩)
  .obtain rfl:k=l.length:=by omega
   cases o with
   | none=>
     simp only[Option.getD_none,Option.isSome_none];conv=>whnf
     repeat' ((first|refine gX ?_|((first|apply bD|apply bB)<;>intro _<;>try omega))<;>conv=>whnf)
     all_goals first
      |(exfalso;simp_all;done)
      |exact nX (i+1,out) ⟨by simp only;omega,s.stay n⟩
   | some m=>
     simp only[z1k,Option.isSome_some];conv=>whnf
     repeat' ((first|refine gX ?_|refine pS ?_|((first|apply bD|apply bB)<;>intro _<;>try omega))<;>conv=>whnf)
     all_goals first
      |(exfalso;simp_all;done)
      |exact⟨(i+1,out++[m]),⟨by simp only;omega,s.snoc n⟩,by simp only;omega,Le.of_eq (by simp only[x8m,x8a];rfl)⟩
 .obtain ⟨y,z⟩:=s.all Qa (by omega);rw[<-Pf y z];conv=>whnf
  repeat' (apply bD<;>intro _<;>first|omega|conv=>whnf)
  exact z0f _ (x9b _) (OneRow.str rfl)
def VI(l:List Str)(i:l.length<=1000000000):aP 83 [eStrs l] (eStrs (WB l)):=(AY l i).toP (fun h=>h.elim) fun _ _ _ _ h=>h.2.2
def Un(f:Pr):List Str:=((VC f).filter fun x=>decide (x.s.kind=4)).map fun x=>x.s.D
def CE(f:Pr):(Un f).length<=201:=by
 unfold Un;rw[x8b];exact z1q (z2p _ _) (HR f)
def Wb(p:Pg)(n:Str):aP 323 [.agg p.cells,.str n] (eStrs (WB (Un (UI p n).1))):=by
 refine sC ME func323 ?_;conv=>whnf
 have v:=WF p n;generalize(UI p n).2=ok at*
 generalize(UI p n).1=f at*
 have t:=XA f;have y:=CE f;have z:=HR f;have l:Un f=((VC f).filter fun x=>decide (x.s.kind=4)).map fun x=>x.s.D:=rfl;have w:=VI (Un f) (by omega);generalize Un f=C at*
 generalize VC f=L at*
 have u:=FX L;repeat' ((first|(refine gX ?_;intros)|refine cP v ?_|refine cP t ?_)<;>conv=>whnf)
 refine lJ (fun x:Nat×List Str=>⟨[(7,.hd 0 0 x.2.length),(17,.p (Ml L)),(18,.p (.int .i64 (L.map fun i=>AV.agg i.cells).length)),(19,.j x.1)],[(0,.own 9 1 (x.2.map .str))]⟩) (fun x=>x.1<=L.length/\x.2=((L.take x.1).filter fun x=>decide (x.s.kind=4)).map (fun x=>x.s.D)/\x.2.length<=x.1) (fun x=>L.length-x.1) (0,[]) (lM [(0,.own 9 1 [])]) ⟨x8i _,by simp,by simp⟩ ?_;rintro⟨j,h⟩ ⟨q,k,r⟩;simp only at q k r⊢;rcases x8o j L.length with m|m
 .have o:=x9v m;conv=>whnf
  repeat' ((first|(refine gX ?_;intros)|refine pS ?_|(apply bD<;>intro _<;>try omega))<;>conv=>whnf)
  all_goals first
   |exact⟨(j+1,h++[L[j].s.D]),⟨by simp only;omega,by simp only;rw[o,z2x,x8a,<-k];congr 1;rw[z1n (by simp;assumption)];rfl,by simp;omega⟩,by simp only;omega,Le.of_eq (by simp only[x8m,x8a];rfl)⟩
   |exact nX (j+1,h) ⟨by simp only;omega,by simp only;rw[o,z2x,x8a,<-k,z1t (by simp;assumption)];simp,by simp only;omega⟩
 .rw [x9u m,<-l]at k;subst k;conv=>whnf
  repeat' ((first|(refine Wl w (.cons (.hd rfl (by simp)) .nil) ?_;rintro _ rfl)|(apply bD<;>intro _<;>try omega))<;>conv=>whnf)
  exact RetK.p rfl
def Ed{p:Pg}(i:YV p=true){f:Pr}(h:f∈p.A):WB (Un f)=YZ f:=by
 unfold Un YZ GF WB;rw[DU i h,<-show(flatU f).map RI.s=flL f.body from Vw 1 0 false f.body,List.filter_map,z4u];rfl
def C4{p:Pg}{k:Nat}(i:k<p.A.length){n:Str}(h:p.A.find? (fun f=>f.name==n)=some p.A[k]):UI p n=(p.A[k],true):=by
 unfold UI;rw[h]
def q0h{p:Pg}(j:YV p=true){k:Nat}(i:k<p.A.length){n:Str}(h:p.A.find? (fun f=>f.name==n)=some p.A[k]):aP 323 [.agg p.cells,.str n] (eStrs (YZ p.A[k])):=by
 have:=Wb p n;rw[C4 i h,Ed j (x9w i)]at this;exact this
def Xw(p:Pg)(n:Str)(I:(QC p).1=0)(T:n∈procsN p):aP 309 [.agg p.cells,.str n] (eStrs (CB p n)):=by
 refine sC PV func309 ?_;conv=>whnf
 obtain⟨H,hb,Y⟩:=WV I;obtain⟨hg,hpl,O⟩:=ZM H;have V:(procsN p).length=p.A.length:=by simp[procsN]
 repeat' ((first|refine x9p rfl ?_|refine aD ?_|refine z4w (fun x hx=>by rcases x9q.1 hx with rfl;rfl) rfl ?_)<;>conv=>whnf)
 refine lI (fun i:Nat×List Str=>⟨[(2,.p (.ip p.cells)),(5,.hd 0 0 i.2.length),(6,.j i.1)],[(0,.own 9 1 (i.2.map .str))]⟩) (fun i=>i.1<=i.2.length/\i.2.Nodup/\(∀s∈i.2,s∈procsN p)/\VP p (p.A.length+1-i.1) i.1 i.2=VP p (p.A.length+1) 0 [n]) (fun i=>p.A.length+1-i.1) (0,[n]) ⟨x8i _,by simp,by simpa using T,rfl⟩ ?_;rintro⟨j,out⟩ ⟨J,e,f,u⟩;simp only at J e f u⊢;have Z:=DS e f;rcases x8o j out.length with t|t
 .obtain ⟨k,D,Q,z,U⟩:=Zc (f _ (x9w t));have C:=F9 p.A[k];have N:cntL p.A[k].body<=200:=by
   have:=(QY p).2.2.2.2 k p.A[k] (by simp);omega
  have M:=q0h H D z;have g:(out.map AV.str)[j]?=some (.str out[j]):=by simp[t]
  conv=>whnf
  repeat' ((first|(refine gX ?_;intros)|refine dA ?_|refine z2b j rfl t ?_|refine lO g ?_|refine cP M ?_|(apply bD<;>intro _<;>try omega))<;>conv=>whnf)
  have d:∀s∈YZ p.A[k],s∈procsN p:=fun s h=>PP I (x9w D) h;have B:=Mg D z;have E:VP p (p.A.length+1-j) j out=VP p (p.A.length+1-(j+1)) (j+1) (WO out (YZ p.A[k])):=by
   rw[show p.A.length+1-j=(p.A.length+1-(j+1))+1 by omega,VP,x8p t];simp only;rw[B]
  rw[E]at u;obtain⟨a,b,rr,c⟩:=HF (YZ p.A[k]) e f d;generalize YZ p.A[k]=cs at d u a b c C⊢;have G:(cs.map AV.str).length=cs.length:=x8b _;refine lI (fun i:Nat×List Str=>⟨[(2,.p (.ip p.cells)),(5,.hd 0 0 i.2.length),(6,.j j),(22,.p (eStrs cs)),(23,.p (.int .i64 (cs.map AV.str).length)),(24,.j i.1)],[(0,.own 9 1 (i.2.map .str))]⟩) (fun i=>i.1<=cs.length/\i.2.length<=out.length+i.1/\WO i.2 (cs.drop i.1)=WO out cs) (fun i=>cs.length-i.1) (0,out) ⟨x8i _,by simp,rfl⟩ ?_;rintro⟨m,l⟩ ⟨K,L,v⟩;simp only at K L v⊢;rcases x8o m cs.length with o|o
  .have r:=Qy (out:=l) o;rw[<-Fs]at r;conv=>whnf
   repeat' ((first|(refine gX ?_;intros)|(refine QH (QE l (cs[m]'o)) (.cons (.hd rfl (by simp)) (.cons (.p (Sub.refl _)) .nil)) (by rintro _ rfl;rfl) ?_;rintro _ rfl)|refine pS ?_|((first|apply bD|apply bN)<;>intro _<;>try omega))<;>conv=>whnf)
   all_goals first
    |exact nX (m+1,l) ⟨by simp only;omega,by simp only;omega,by simp only;rw[<-v,r,if_pos (by assumption)]⟩
    |exact⟨(m+1,l++[cs[m]]),⟨by simp only;omega,by simp;omega,by simp only;rw[<-v,r,if_neg (by simp[*])]⟩,by simp only;omega,Le.of_eq (by simp only[x8m,x8a];rfl)⟩
  .rw [x9j o,WO]at v;subst v;have R:j<(WO out cs).length:=by rw[c,x8m];omega
   conv=>whnf
   repeat' ((first|refine wI ?_|(apply bD<;>intro _<;>try omega))<;>conv=>whnf)
   all_goals exact nX (j+1,WO out cs) ⟨by simp only;omega,a,b,u⟩
 .have y:out=VP p (p.A.length+1) 0 [n]:=by
   rw[<-u];cases P:p.A.length+1-j with
   |zero=>rw[VP]
   |succ q=>rw[VP,z0x t]
  have w:WB out=CB p n:=by
   unfold CB;rw[<-y,TG e]
  have F:=VI out (by omega);rw[w]at F;conv=>whnf
  repeat' ((first|(refine iM fun _=>?_)|(refine Wl F (.cons (.hd rfl (by simp)) .nil) ?_;rintro _ rfl)|(apply bD<;>intro _<;>try omega))<;>conv=>whnf)
  all_goals exact RetK.p rfl
end Go.Ab
