/- LAW: what must hold of a program, told without the places of faults. -/
import Derived.Test.YtonbdgcjnecapaaGreatInK5
import Derived.Test.YtonbdgcjnecapaaGreatInK9
import Derived.Test.YtonbdgcjnecapaaGreatInK10
import Derived.Test.YtonbdgcjnecapaaGreatInK14
import Derived.Test.YtonbdgcjnecapaaGreatInK16
import Derived.Test.YtonbdgcjnecapaaGreatInK17
set_option linter.all false
set_option maxRecDepth 100000
set_option maxHeartbeats 16000000
namespace Go.Ab
open Go.Proofs.Tryz
open Go.Proofs
def Ha(l:List Str)(x:Str):inS l x=l.any fun s=>x==s:=by
 unfold inS;congr 1;funext s;exact Bool.beq_comm
def WY{l:List Str}:XF l=false↔l.Nodup:=by
 refine⟨Yg,fun h=>?_⟩;unfold XF;rw[z0i];intro i m;rw[x9l]at m;rw[z1t,z0i];intro s o j;rw[x6k m]at j;have j:l[i]=s:=eq_of_beq j;obtain⟨k,n,rfl⟩:=x8v.1 o;rw[x7m]at n;rw[List.getElem_take]at j;have:=(List.getElem_inj h).1 j;omega
theorem Q7:∀(l seen:List Str),seen.Nodup->((UF seen l).isSome=true↔(seen++l).Nodup)
 |[],seen,h=>by rw[UF,x8x];exact⟨fun _=>h,fun _=>rfl⟩
 | n::r,seen,h=>by
   rw[UF];cases k:(seen.any fun s=>n==s)with
   | true=>
     rw[x7z];obtain⟨s,v,i⟩:=x8z.1 k;have i:n=s:=eq_of_beq i;refine⟨fun h=>by(cases h),fun j=>?_⟩;rw[x8b]at j;exact absurd rfl (j.2.2 s v n x6g |> fun q=>i▸q)
   | false=>
     rw[x7k];have u:n∉seen:=fun t=>by
      have:=z0i.1 k n t;simp at this
     have m:(seen++[n]).Nodup:=by
      rw[x8b];exact⟨h,by simp,fun a o b p e=>u (by rw[<-x6p.1 p,<-e];exact o)⟩
     rw[Q7 r (seen++[n]) m,x7n];rfl
theorem Mn(f:Pr):∀(its:List Item)(seen:List Str),seen.Nodup->((∃s,JH f its seen=.ok s)↔(∀it∈its,UW f it=true)/\(seen++its.flatMap fun it=>it.s.F).Nodup)
 | [],seen,h=>by
   rw[JH];refine⟨fun _=>⟨fun _ p=>(by cases p),by simpa using h⟩,fun _=>⟨seen,rfl⟩⟩
 | it::r,seen,h=>by
   have l:=Q7 it.s.F seen h;rw[JH];cases m:UF seen it.s.F with
   | none=>
     rw[m]at l;refine⟨fun⟨s,n⟩=>by(cases n),fun⟨_,i⟩=>?_⟩;have:(seen++it.s.F).Nodup:=by
      rw[x8n,<-x7n]at i;exact(x8b.1 i).1
     have:=l.2 this;cases this
   | some s=>
     obtain rfl:=Xa m;rw[m]at l;have q:=l.1 rfl;simp only;cases o:UW f it with
     | false=>
       rw[x7k];refine⟨fun⟨s,n⟩=>by(cases n),fun⟨j,_⟩=>?_⟩;have:=j it x6g;rw[o]at this;cases this
     | true=>
       rw[x7z,Mn f r _ q,x8n,x7n];constructor
       .rintro ⟨j,i⟩;refine⟨fun x k=>?_,i⟩;rcases x6m.1 k with rfl|k
        .exact o
        .exact j x k
       .rintro ⟨j,i⟩;exact⟨fun x k=>j x (x6b _ k),i⟩
theorem F7(f:Pr):∀(its:List Item)(seen s:List Str),JH f its seen=.ok s->s=seen++its.flatMap fun it=>it.s.F
 |[],seen,s,h=>by rw[JH]at h;cases h;simp
 | it::r,seen,s,h=>by
   rw[JH]at h;cases i:UF seen it.s.F with
   |none=>rw[i]at h;cases h
   | some k=>
     obtain rfl:=Xa i;rw[i]at h;simp only at h;cases j:UW f it with
     |false=>rw[j]at h;cases h
     | true=>
       rw[j,x7z]at h;rw[F7 f r _ s h,x8n,x7n]
def Ja(f:Pr):List Str:=(flL f.body).flatMap S.F++f.fin
def DT(p:Pg)(j:Nat)(f:Pr):Prop:=(∀it∈itsOf p j f,UW f it=true)/\(Ja f).Nodup
def Ho(p:Pg)(j:Nat)(f:Pr):((itsOf p j f).flatMap fun it=>it.s.F)=(flL f.body).flatMap S.F:=by
 unfold itsOf;rw[<-BU (j:Nat) 0 (-1) 0 (QH p.A j) f.body,List.flatMap_map]
def F0{p:Pg}{j:Nat}{f:Pr}(u:p.A[j]?=some f):YC p j=none↔DT p j f:=by
 unfold YC DT Ja;rw[u];simp only;have i:=Mn f (itsOf p j f) [] z2g;rw[x9z,Ho]at i;have r:JH f (itL (j:Nat) 0 (-1) 0 (QH p.A j) f.body) []=JH f (itsOf p j f) []:=rfl;rw[r];cases q:JH f (itsOf p j f) []with
 | error id=>
   rw[q]at i;refine⟨fun h=>by(cases h),fun⟨n,o⟩=>?_⟩;obtain⟨s,l⟩:=i.2 ⟨n,(x8b.1 o).1⟩;cases l
 | ok seen=>
   rw[q]at i;have l:=F7 f _ _ _ q;rw[x9z,Ho]at l;obtain⟨n,o⟩:=i.1 ⟨seen,rfl⟩;have m:=Q7 f.fin seen (by rw[l];exact o);simp only;rw[<-l];cases k:UF seen f.fin with
   | none=>
     rw[k]at m;refine⟨fun h=>by(cases h),fun⟨_,t⟩=>?_⟩;have:=m.2 t;cases this
   | some s=>
     rw[k]at m;exact⟨fun _=>⟨n,m.1 rfl⟩,fun _=>rfl⟩
def ON{p:Pg}(n:(QA p).1=0):(MH p).1=0 ↔ ∀j f,p.A[j]?=some f->DT p j f:=by
 unfold MH;rw[if_neg (by omega)];cases l:(List.range p.A.length).findSome? (YC p)with
 | some a=>
   refine⟨fun h=>by simp at h,fun h=>?_⟩;obtain⟨j,i,m⟩:=List.exists_of_findSome?_eq_some l;rw[x9l]at i;have:=(F0 (x6k i)).2 (h j _ (x6k i));rw[this]at m;cases m
 | none=>
   refine⟨fun _ j f i=>?_,fun _=>rfl⟩;have k:j<p.A.length:=(x6n.1 i).1;exact(F0 i).1 (z1p.1 l j (x9l.2 k))
def allV(p:Pg)(f:Pr):List Str:=p.B++V5 f
structure ScopeOK(p:Pg)(f:Pr):Prop where
 nd:(allV p f).Nodup
 kn:∀t∈flL f.body,knownB p f (procsN p) t=true
def Kr{p:Pg}{f:Pr}(r:XF p.B=false):VY p f=none↔ScopeOK p f:=by
 unfold VY;have m:(XF (V5 f)||(V5 f).any (fun n=>p.B.any fun s=>n==s))=false↔(allV p f).Nodup:=by
  unfold allV;rw[z0e,WY,x8b,z0i];have i:=WY.1 r;constructor
  .rintro ⟨a,b⟩;refine⟨i,a,fun x k y l e=>b y l ?_⟩;rw[x8z];exact⟨x,k,by rw[e];exact x8f _⟩
  .rintro ⟨_,a,b⟩;refine⟨a,fun y l u=>?_⟩;obtain⟨x,k,q⟩:=x8z.1 u;exact b x k y l (eq_of_beq q).symm
 cases o:(XF (V5 f)||(V5 f).any (fun n=>p.B.any fun s=>n==s))with
 | true=>
   rw[x7z];refine⟨fun h=>by(cases h),fun h=>?_⟩;have:=m.2 h.nd;rw[o]at this;cases this
 | false=>
   rw[x7k,Option.map_eq_none_iff,z0v];constructor
   .exact fun h=>⟨m.1 o,fun t j=>by have:=h t j;simpa using this⟩
   .intro h t j;rw[h.kn t j];decide
def Lv{p:Pg}(n:YH p=true):(QA p).1=0↔ZX p=false/\∀f∈p.A,ScopeOK p f:=by
 unfold QA;rw[n,x7z];cases j:ZX p with
 |true=>rw[x7z];exact⟨fun h=>by simp at h,fun h=>by cases h.1⟩
 | false=>
   have l:XF p.B=false:=by
    unfold ZX at j;rw[z0e]at j;exact j.1
   rw[x7k];cases k:p.A.findSome? (VY p)with
   | some a=>
     refine⟨fun h=>by simp at h,fun h=>?_⟩;obtain⟨f,i,m⟩:=List.exists_of_findSome?_eq_some k;rw[(Kr l).2 (h.2 f i)]at m;cases m
   |none=>exact⟨fun _=>⟨rfl,fun f i=>(Kr l).1 (z1p.1 k f i)⟩,fun _=>rfl⟩
def J5{p:Pg}(n:(QA p).1=0):(VO p).1=0 ↔ ∀t∈VJ p,t.kind=4->YV p t=true:=by
 unfold VO;rw[if_neg (by omega)];cases j:(VJ p).find? fun t=>decide (t.kind=4) && !YV p t with
 | some t=>
   have k:=x9n j;have i:=z1x j;simp only[x7y,x7s,x9u]at i;refine⟨fun h=>by simp at h,fun h=>?_⟩;have:=h t k i.1;rw[i.2]at this;cases this
 | none=>
   refine⟨fun _ t m l=>?_,fun _=>rfl⟩;have:=z0v.1 j t m;simp only[x7y,x7s,x9u,not_and]at this;simpa using this l
def Am{p:Pg}(n:(VO p).1=0):(HW p).1=0 ↔ ∀t∈VJ p,t.kind=4->XB t.name (YJ p t.D) t.args []=true:=by
 unfold HW;rw[if_neg (by omega)];cases j:(VJ p).find? fun t=>decide (t.kind=4) && !XB t.name (YJ p t.D) t.args []with
 | some t=>
   have k:=x9n j;have i:=z1x j;simp only[x7y,x7s,x9u]at i;refine⟨fun h=>by simp at h,fun h=>?_⟩;have:=h t k i.1;rw[i.2]at this;cases this
 | none=>
   refine⟨fun _ t m l=>?_,fun _=>rfl⟩;have:=z0v.1 j t m;simp only[x7y,x7s,x9u,not_and]at this;simpa using this l
def Ds{p:Pg}:QS p=true↔YH p=true/\(QA p).1=0/\(VO p).1=0/\(MH p).1=0/\(HW p).1=0:=by
 refine⟨QJ,fun⟨h,j,k,l,i⟩=>?_⟩;unfold QS q3s;rw[x7s,if_neg (by rw[h];decide),if_neg (by omega),if_neg (by omega),if_neg (by omega)];exact i
def Nv{p:Pg}(h:YH p=true):(allR p).map RI.s=VJ p:=by
 rw[Df h];exact q1e p.A
def q5z{l:List Nat}{a:Nat}(h:a∈l):a<=Ce l:=by
 induction l with
 |nil=>cases h
 | cons b r i=>
   rw[Ce];rcases x6m.1 h with rfl|h
   .omega
   .have:=i h;omega
theorem Hr:∀(n:Nat)(x:X)(k:Nat),wX x<k->HK n x<=n->MG k x=true->WQ n x=true
 |0,x,k,_,h,_=>by rw[HK]at h;omega
 |n+1,x,0,hk,_,_=>by omega
 | n+1,x,k+1,hk,h,hf=>by
   rw[HK]at h;rw[MG,x7y,x8h]at hf;obtain⟨m,i⟩:=hf;have s:wX x=1+wXs x.kids:=by cases x;rw[wX];rfl
   have r:∀y∈x.kids,WQ n y=true:=fun y o=>Hr n y k (by have:=Tf _ _ o;omega) (by have:=q5z (x6r.2 ⟨y,o,rfl⟩:HK n y∈x.kids.map (HK n));omega) (i y o);unfold HR at m;simp only[x7y,z1q,x7s,z0x]at m;obtain⟨⟨⟨⟨q,t⟩,u⟩,j⟩,v⟩:=m;rw[WQ,x7y,x7s];refine⟨q.symm,?_⟩;split
   .rename_i p;rw[p,x8c (by decide)]at j;simp_all
   .rename_i p;split
    .rename_i l;rw[x8r l]at j;simp_all
    .rename_i l;rw[x8c l]at j;simp_all
def RT(x:X):mayXR x=R5 x:=by
 rw[z0p];refine⟨fun h=>?_,EK⟩;unfold mayXR at h;rw[x7y,x7s]at h;exact Hr 20 x _ (Nat.lt_succ_self _) h.1 h.2
def q3c(a:Arg):argR a=Xc a:=by
 unfold argR Xc JP BQ;rw[RT];cases a.ref<;>rfl
def q0v{s:S}(h:OneF s):oneOk s=true:=by
 obtain⟨f1,f2,f3,f4,f5,f6,f7,f8,f9,f10,f11,f12,f13,f14⟩:=h;have n:s.args.all Xc=true:=by
  rw[x8h]at f11⊢;exact fun a B=>by rw[<-q3c];exact f11 a B
 rw[RT]at f4;have i:s.kind=1\/s.kind=2\/s.kind=3\/s.kind=4\/s.kind=5\/s.kind=6\/s.kind=7\/s.kind=8\/s.kind=9\/s.kind=10:=by omega
 have p:∀{α:Type}(l:List α),l.length=0->decide (0<l.length)=false:=fun l h=>x8c (by omega);have m:¬(s.kind=1\/s.kind=2\/s.kind=10)->s.kind≠4->(s.name==[])=true:=fun g A=>by
  rcases f8 g with h|h
  .exact h
  .exact absurd h.1 A
 have j:s.kind≠9->s.has=false:=fun h=>by
  cases E:s.has with
  |false=>rfl
  |true=>exact absurd (f6 E) h
 unfold oneOk;rw[x7y];refine⟨?_,f1⟩;have key:∀(f:Flds),Xt s.kind s.has (s.name==[])=some f->f.has=false->(f.I=false->s.I.length=0)->(f.L=false->s.L.length=0)->(s.kind≠4->s.args.length=0)->JP s.name f.name=true->JP s.D f.D=true->BQ s.x f.x=true->VV s=true:=fun f C t u v w y z b=>by
  rw[Hd C,t,y,z,b,n];have c:(!f.I&&decide (0<s.I.length))=false:=by
   cases o:f.I with
   |true=>rfl
   |false=>rw[p _ (u o)];rfl
  have d:(!f.L&&decide (0<s.L.length))=false:=by
   cases o:f.L with
   |true=>rfl
   |false=>rw[p _ (v o)];rfl
  have e:(!decide (s.kind=4)&&decide (0<s.args.length))=false:=by
   by_cases q:s.kind=4
   .rw [x8r q];rfl
   .rw [p _ (w q)];exact Bool.and_false _
  rw[c,d,e];rfl
 have k:s.kind≠4->JP s.D false=true:=fun h=>f10 h;rcases i with i|i|i|i|i|i|i|i|i|i
 .exact key ⟨true,false,true,s.has,false,false⟩ (by rw[i];rfl) (j (by omega)) (fun _=>by omega) (fun _=>by omega) f12 (f7 (by omega)) (k (by omega)) (f4 (by unfold hasXB;rw[i];rfl))
 .exact key ⟨true,false,false,s.has,false,false⟩ (by rw[i];rfl) (j (by omega)) (fun _=>by omega) (fun _=>by omega) f12 (f7 (by omega)) (k (by omega)) (f5 (by unfold hasXB;rw[i];rfl))
 .exact key ⟨false,false,true,s.has,false,false⟩ (by rw[i];rfl) (j (by omega)) (fun _=>by omega) (fun _=>by omega) f12 (m (by omega) (by omega)) (k (by omega)) (f4 (by unfold hasXB;rw[i];rfl))
 .refine key ⟨!(s.name==[]),true,false,s.has,false,false⟩ (by rw[i];rfl) (j (by omega)) (fun _=>by omega) (fun _=>by omega) f12 ?_ (f9 i) (f5 (by unfold hasXB;rw[i];rfl));rcases f8 (by omega)with h|h
  .rw [h];exact h
  .rw [HP h.2];exact h.2
 .exact key ⟨false,false,true,s.has,true,true⟩ (by rw[i];rfl) (j (by omega)) (fun h=>by cases h) (fun h=>by cases h) f12 (m (by omega) (by omega)) (k (by omega)) (f4 (by unfold hasXB;rw[i];rfl))
 .exact key ⟨false,false,true,s.has,true,false⟩ (by rw[i];rfl) (j (by omega)) (fun h=>by cases h) (fun _=>by omega) f12 (m (by omega) (by omega)) (k (by omega)) (f4 (by unfold hasXB;rw[i];rfl))
 .exact key ⟨false,false,false,s.has,false,false⟩ (by rw[i];rfl) (j (by omega)) (fun _=>by omega) (fun _=>by omega) f12 (m (by omega) (by omega)) (k (by omega)) (f5 (by unfold hasXB;rw[i];rfl))
 .exact key ⟨false,false,false,s.has,false,false⟩ (by rw[i];rfl) (j (by omega)) (fun _=>by omega) (fun _=>by omega) f12 (m (by omega) (by omega)) (k (by omega)) (f5 (by unfold hasXB;rw[i];rfl))
 .refine key ⟨false,false,s.has,false,false,false⟩ (by rw[i];rfl) rfl (fun _=>by omega) (fun _=>by omega) f12 (m (by omega) (by omega)) (k (by omega)) ?_;cases r:s.has with
  |true=>exact f4 (by unfold hasXB;rw[i,r];rfl)
  |false=>exact f5 (by unfold hasXB;rw[i,r];rfl)
 .exact key ⟨true,false,false,s.has,false,false⟩ (by rw[i];rfl) (j (by omega)) (fun _=>by omega) (fun _=>by omega) f12 (f7 (by omega)) (k (by omega)) (f5 (by unfold hasXB;rw[i];rfl))
def Ol : ∀(k:Nat)(l:List S)(i:Int)(e:Bool)(out:List RI),(flF k i e l out).length<=200->(∀x∈flF k i e l out,x.deep<=12)->flF k i e l out=out++fuL (13-(k:Int)) i e l:=by
 intro k;induction k with
 | zero=>
   intro l i e out j h;cases l with
   |nil=>rw[fuL,x8x];rfl
   | cons s r=>
     exfalso;have w:flF 0 i e (s::r) out=flF 0 i e r (if out.length<=200 then out++[⟨s,13,i,e⟩]else out):=rfl;rw[w]at j h;have q:=(PZ 0 i e r (if out.length<=200 then out++[⟨s,13,i,e⟩]else out)).1;by_cases u:out.length<=200
     .rw [if_pos u]at j h q;have t:∀(r:List S)(o:List RI)(x:RI),x∈o->x∈flF 0 i e r o:=fun r=>by
       induction r with
       |nil=>exact fun o x m=>m
       | cons a r v=>
         intro o x m;show x∈flF 0 i e r (if o.length<=200 then o++[⟨a,13,i,e⟩]else o);refine v _ _ ?_;split
         .exact x6s.2 (.inl m)
         .exact m
      have:=h _ (t r _ ⟨s,13,i,e⟩ (x6s.2 (.inr (x6p.2 rfl))));simp at this
     .rw [if_neg u]at j q;omega
 | succ k v=>
   intro l;induction l with
   |nil=>intro i e out j h;rw[fuL,x8x];rfl
   | cons s r y=>
     intro i e out j h;have w:flF (k+1) i e (s::r) out=flF (k+1) i e r (if out.length<=200 then flF k s.id true s.L (flF k s.id false s.I (out++[⟨s,13-((k+1:Nat):Int),i,e⟩]))else out):=rfl;rw[w]at j h⊢;have q:=(PZ (k+1) i e r (if out.length<=200 then flF k s.id true s.L (flF k s.id false s.I (out++[⟨s,13-((k+1:Nat):Int),i,e⟩]))else out)).1;have u:out.length<=200:=by
      refine z0k fun g=>?_;rw[if_neg g]at q j;omega
     rw[if_pos u]at j h q⊢;have z:=y i e _ j h;rw[z]at h;have n:∀x∈flF k s.id true s.L (flF k s.id false s.I (out++[⟨s,13-((k+1:Nat):Int),i,e⟩])),x.deep<=12:=fun x m=>h x (x6s.2 (.inl m));have b:=v s.L s.id true _ (by omega) n;rw[b]at n;have p:∀x∈flF k s.id false s.I (out++[⟨s,13-((k+1:Nat):Int),i,e⟩]),x.deep<=12:=fun x m=>n x (x6s.2 (.inl m));have f:=(PZ k s.id true s.L (flF k s.id false s.I (out++[⟨s,13-((k+1:Nat):Int),i,e⟩]))).1;have d:=v s.I s.id false _ (by omega) p;have c:(13:Int)-((k+1:Nat):Int)+1=13-(k:Int):=by omega
     rw[z,b,d,fuL,Ew,c];simp
mutual
theorem q6x(d i:Int)(e:Bool)(seen:Nat):∀(t:S),(fuS d i e t).map (fun x=>x.s.id)=JK seen (XT t)->(∀x∈fuS d i e t,x.deep<=12/\oneOk x.s=true)->seen+XT t<=200->Ge d seen t=some ((seen+XT t:Nat):Int)
 | .mk id kind F name D x has args I L,h1,h2,h3=>by
   have hc:XT (.mk id kind F name D x has args I L)=1+cntL I+cntL L:=WB _;rw[fuS]at h1 h2;rw[hc]at h1 h3⊢;have hsp:JK seen (1+cntL I+cntL L)=((seen:Int)+1)::(JK (seen+1) (cntL I)++JK (seen+1+cntL I) (cntL L)):=by
    rw[<-YP];unfold JK;rw[show 1+cntL I+cntL L=(cntL I+cntL L)+1 by omega,List.range'_succ,x7l];congr 1
   rw[hsp,x7l,x6l]at h1;have hid:id=(seen:Int)+1:=(z2b h1).1;have h1':=(z2b h1).2;have hlen:((fuL (d+1) id false I).map fun x=>x.s.id).length=(JK (seen+1) (cntL I)).length:=by
    rw[x6j,DX];unfold JK;simp
   obtain⟨ha,hb⟩:=z2m h1' hlen;have hok:=h2 _ x6g;have r1:=Ba (d+1) id false (seen+1) I ha (fun x hx=>h2 x (x6b _ (x6s.2 (.inl hx)))) (by omega);have r2:=Ba (d+1) id true (seen+1+cntL I) L hb (fun x hx=>h2 x (x6b _ (x6s.2 (.inr hx)))) (by omega);have hoo:=hok.2;unfold oneOk at hoo;rw[x7y]at hoo;rw[Ge,if_neg (by omega),if_neg (by omega),show namesB F=true from hoo.2,x7z,show VV (.mk id kind F name D x has args I L)=true from hoo.1,x7z];have e1:(seen:Int)+1=((seen+1:Nat):Int):=by omega
   rw[e1,r1];simp only;rw[r2];congr 1;omega
theorem Ba(d i:Int)(e:Bool)(seen:Nat):∀(l:List S),(fuL d i e l).map (fun x=>x.s.id)=JK seen (cntL l)->(∀x∈fuL d i e l,x.deep<=12/\oneOk x.s=true)->seen+cntL l<=200->UT d seen l=some ((seen+cntL l:Nat):Int)
 |[],_,_,_=>by rw[UT,cntL];rfl
 | t::r,h1,h2,h3=>by
   rw[fuL]at h1 h2;have hc:cntL (t::r)=XT t+cntL r:=by rw[cntL]
   rw[hc]at h1 h3⊢;rw[YP,x6l]at h1;have hlen:((fuS d i e t).map fun x=>x.s.id).length=(JK seen (XT t)).length:=by
    have:=DX d i e [t];rw[fuL,fuL,x8x,cntL,cntL]at this;rw[x6j,this];unfold JK;simp
   obtain⟨ha,hb⟩:=z2m h1 hlen;have hd:d<=12:=by
    have:(⟨t,d,i,e⟩:RI)∈fuS d i e t++fuL d i e r:=x6s.2 (.inl (by rw[Ew];exact x6g));exact(h2 _ this).1
   have r1:=q6x d i e seen t ha (fun x hx=>h2 x (x6s.2 (.inl hx))) (by omega);have r2:=Ba d i e (seen+XT t) r hb (fun x hx=>h2 x (x6s.2 (.inr hx))) (by omega);rw[UT,if_neg (by omega),r1];simp only;rw[r2];congr 1;omega
end
theorem Ms:∀(l:List Pr)(seen:Nat),(∀f∈l,GM f=true)->((l.flatMap flatU).map fun x=>x.s.id)=JK seen (cntP l)->(∀x∈l.flatMap flatU,x.deep<=12/\oneOk x.s=true)->seen+cntP l<=200->(ZZ seen l).isSome=true
 |[],_,_,_,_,_=>rfl
 | f::r,seen,h1,h2,h3,h4=>by
   rw[x8n]at h2 h3;have m:cntP (f::r)=cntL f.body+cntP r:=by rw[cntP]
   rw[m]at h2 h4;rw[YP,x6l]at h2;have h:((flatU f).map fun x=>x.s.id).length=(JK seen (cntL f.body)).length:=by
    unfold flatU;rw[x6j,DX];unfold JK;simp
   obtain⟨j,k⟩:=z2m h2 h;have o:=Ba 1 0 false seen f.body j (fun x i=>h3 x (x6s.2 (.inl i))) (by omega);have p:=Ms r (seen+cntL f.body) (fun g n=>h1 g (x6b _ n)) k (fun x i=>h3 x (x6s.2 (.inr i))) (by omega);rw[ZZ,h1 f x6g,x7z,o];exact p
def C4:∀(l:List Pr)(out:List RI),(BS l out).length<=200->(∀x∈BS l out,x.deep<=12)->BS l out=out++l.flatMap flatU:=by
 intro l;induction l with
 |nil=>intro out _ _;show out=_;simp
 | cons f r j=>
   intro out h i;have mono:∀(r:List Pr)(o:List RI),o.length<=(BS r o).length:=fun r=>by
    induction r with
    |nil=>exact fun o=>x7u _
    | cons g r j=>
      intro o;show _<=(BS r (if o.length<=200 then o++VS g else o)).length;have:=j (if o.length<=200 then o++VS g else o);split at this
      .rw [if_pos (by assumption)];simp only[x6f]at this;omega
      .rw [if_neg (by assumption)];exact this
   have m:BS (f::r) out=BS r (if out.length<=200 then out++VS f else out):=rfl;rw[m]at h i⊢;have k:=mono r (if out.length<=200 then out++VS f else out);have s:out.length<=200:=by
    refine z0k fun t=>?_;rw[if_neg t]at k h;omega
   rw[if_pos s]at h i k⊢;have n:=j _ h i;rw[n]at i h⊢;simp only[x6f]at h;have p:=Ol 12 f.body 0 false [] (by show(VS f).length<=200;omega) (fun x u=>i x (x6s.2 (.inl (x6s.2 (.inr u)))));have q:VS f=flatU f:=by simpa[VS,flatU]using p
   rw[q];simp
def q8e{p:Pg}(r:p.B.length<=16)(t:p.A.length<=16)(u:namesB p.B=true)(v:∀f∈p.A,GM f=true)(w:(allR p).length<=200)(q:∀(k:Nat)(x:RI),(allR p)[k]?=some x->x.s.id=(k:Int)+1/\x.deep<=12/\oneOk x.s=true):YH p=true:=by
 have i:∀x∈allR p,x.deep<=12/\oneOk x.s=true:=fun x o=>by
  obtain⟨k,h,rfl⟩:=x8v.1 o;exact(q k _ (x6k h)).2
 have l:allR p=p.A.flatMap flatU:=by
  have:=C4 p.A [] w (fun x o=>(i x o).1);simpa[allR]using this
 have m:(p.A.flatMap flatU).map (fun x=>x.s.id)=JK 0 (cntP p.A):=by
  refine z1y fun k=>?_;rw[x6a,<-l];rcases x6c k (allR p).length with h|h
  .have j:k<cntP p.A:=by rw[<-Xu,<-l];exact h
   rw[x6k h];have:=(q k _ (x6k h)).1;unfold JK;rw[x6a,z0m j];simp only[x9m,this];congr 1;omega
  .have j:cntP p.A<=k:=by rw[<-Xu,<-l];exact h
   rw[x7a h,x7a (by unfold JK;simpa using j)];rfl
 have n:0+cntP p.A<=200:=by rw[<-Xu,<-l];omega
 have:=Ms p.A 0 v m (fun x o=>i x (by rw[l];exact o)) n;unfold YH;rw[x8r r,x8r t,u];exact this
def spo(out:List Str)(s:Str):List Str:=if(out.any fun y=>s==y)=false then out++[s]else out
def Oi(x:X)(out:List Str):Gv x out=HD x.kids (if x.op=2 then spo out x.name else out):=by
 rw[B4];unfold spo;by_cases h:x.op=2
 .rw [if_pos h];by_cases i:(out.any fun y=>x.name==y)=false
  .rw [if_pos ⟨h,i⟩,if_pos i]
  .rw [if_neg (fun j=>i j.2),if_neg i]
 .rw [if_neg h,if_neg (fun j=>h j.1)]
def Qf(out:List Str)(s:Str)(q:out.length<=1073741824):SpecH prog 325 [.hd 2000 0 out.length,.p (.str s)] (Bm 9 out) (fun r H=>r=.hd 2000 0 (spo out s).length/\H=Bm 9 (spo out s)):=by
 refine sH BD func325 rfl call325 ?_;conv=>whnf
 repeat' (refine iM fun _=>?_;conv=>whnf)
 have o:(out.map AV.str).length=out.length:=x6j _;refine LoopK.inv QW (fun j:Nat=>⟨[(0,.hd 2000 0 out.length),(1,.p (.str s)),(7,.hd 2000 0 out.length),(8,.p (.int .i64 out.length)),(9,.p (.int .i64 j))],Bm 9 out⟩) (fun j=>j<=out.length/\(out.drop j).any (fun y=>s==y)=out.any fun y=>s==y) (fun j=>out.length-j) 0 (Le.of_eq rfl) ⟨x6t _,rfl⟩ ?_;rintro j ⟨n,i⟩;rcases x6c j out.length with h|h
 .have g:(out.map AV.str)[j]?=some (.str out[j]):=by simp[h]
  conv=>whnf
  repeat' (first|((first|refine x6d rfl ?_|refine wI ?_|refine x8q j rfl (by omega) ?_|refine x8p j 0 _ (by omega) g ?_);conv=>whnf)|(apply bD<;>intro _<;>first|omega|conv=>whnf)|(apply bB<;>intro _<;>conv=>whnf))
  .have k:(s==out[j])=true:=by rw[Bool.beq_comm];assumption
   have e:=J2 (p:=fun y=>s==y) h k;rw[i]at e;have m:spo out s=out:=by unfold spo;rw[if_neg (by rw[e];decide)]
   exact⟨_,.refl _,by rw[m];exact⟨rfl,rfl⟩⟩
  .have k:(s==out[j])=false:=by rw[Bool.beq_comm];assumption
   exact⟨j+1,⟨by omega,by rw[<-i,Ve (p:=fun y=>s==y) h k]⟩,by omega,Le.of_eq rfl⟩
 .have e:=BC (p:=fun y=>s==y) (l:=out) h;rw[i]at e;have m:spo out s=out++[s]:=by unfold spo;rw[if_pos e]
  rw[m];conv=>whnf
  repeat' (first|((first|refine x6d rfl ?_|refine aD ?_|refine bP ?_|refine QP (by simp) (by simp;omega) ?_);conv=>whnf)|(apply bD<;>intro _<;>first|omega|conv=>whnf))
  exact⟨_,.refl _,by simp only[Bm,x6f,x6l];exact⟨rfl,rfl⟩⟩
def Vn:∀(n:Nat)(_:n<=20)(x:X)(_:WQ n x=true)(out:List Str)(_:out.length+2^n<=1073741824),
  SpecH prog 298 [.p (.agg x.cells),.hd 2000 0 out.length] (Bm 9 out) (fun r H=>r=.hd 2000 0 (Gv x out).length/\H=Bm 9 (Gv x out)):=by
 intro n;induction n with
 |zero=>intro _ x h;rw[WQ]at h;cases h
 | succ n A=>
   intro C x e out D;have E:2^(n+1)=2*2^n:=by rw[Nat.pow_succ];omega
   have y:0<2^n:=Nat.pow_pos (by decide);obtain⟨u,v,o⟩:=NJ e;have f:=X.avs_len x.kids;have q:∀j,j<x.kids.length->(x.kids.length-j)*2^n=(x.kids.length-(j+1))*2^n+2^n:=fun j m=>by
    rw[show x.kids.length-j=(x.kids.length-(j+1))+1 by omega,x9g,z2r]
   have w:x.kids.length*2^n<=2*2^n:=x8g _ u;have z:(spo out x.name).length<=out.length+1:=by unfold spo;split<;>simp
   have t:=Oi x out;have g:x.op=2->x.kids.length*2^n=0:=fun h=>by rw[v h,Nat.zero_mul]
   rw[t];have d:=Qf out x.name (by omega);have k:(if x.op=2 then spo out x.name else out).length+x.kids.length*2^n<=1073741824:=by
    split
    .rename_i h;have:=g h;omega
    .omega
   clear t;refine sH LR func298 rfl call298 ?_;conv=>whnf
   generalize spo out x.name=o2 at*
   repeat' (first|(refine iM fun _=>?_;conv=>whnf)|(apply bD<;>intro _<;>first|omega|conv=>whnf)|(refine CallK.heap [(2000,2000)] 0 (by repeat' (first|exact x7h|refine x6i ?_ ?_|exact x6e _|exact x7q Sub.nils|exact x7q (Sub.tt rfl)|exact x7q (Sub.ff rfl)|exact x7q (Sub.int (by omega)))) (by refine x6y (j:=2000) rfl rfl ?_ ?_;exact CSub.refl _;exact x7f) d rfl rfl ?_;rintro l' H' ⟨rfl,rfl⟩;conv=>whnf))
   all_goals
    first
    |rw[if_pos (by assumption)]at k⊢
    |rw[if_neg (by assumption)]at k⊢
   rotate_left 1;generalize out=o2 at*
   all_goals
    refine LoopK.inv QW (fun i:Nat×List Str=>⟨[(1,.hd 2000 0 i.2.length),(2,.p (.ip x.cells)),(15,.p (.int .i64 (X.avs x.kids).length)),(16,.p (.int .i64 i.1))],Bm 9 i.2⟩) (fun i=>i.1<=x.kids.length/\HD (x.kids.drop i.1) i.2=HD x.kids o2/\i.2.length+(x.kids.length-i.1)*2^n<=1073741824) (fun i=>x.kids.length-i.1) (0,o2) (Le.of_eq rfl) ⟨x6t _,rfl,by simpa using k⟩ ?_;rintro⟨j,l⟩ ⟨a,s,b⟩;simp only at a s b⊢;rcases x6c j x.kids.length with m|m
    .have B:=q j m;have t:=RG n x.kids[j] l (o _ (x6o m));have c:=A (by omega) x.kids[j] (o _ (x6o m)) l (by omega);conv=>whnf
     repeat' (first|((first|refine IdxK.xs (by omega) ?_|refine wI ?_);conv=>whnf)|(apply bD<;>intro _<;>first|omega|conv=>whnf)|(refine CallK.heap [(2000,2000)] 0 (by repeat' (first|exact x7h|refine x6i ?_ ?_|exact x6e _|exact x7q Sub.nils|exact x7q (Sub.tt rfl)|exact x7q (Sub.ff rfl)|exact x7q (Sub.int (by omega)))) (by refine x6y (j:=2000) rfl rfl ?_ ?_;exact CSub.refl _;exact x7f) c rfl rfl ?_;rintro l' H' ⟨rfl,rfl⟩;conv=>whnf))
     all_goals exact⟨(j+1,Gv x.kids[j] l),⟨by simp only;omega,by simp only;rw[<-s,Ht m],by simp only;omega⟩,by simp only;omega,Le.of_eq rfl⟩
    .rw [Mx (by omega)]at s;conv=>whnf
     repeat' (apply bD<;>intro _<;>first|omega|conv=>whnf)
     exact⟨_,.refl _,by rw[s];exact⟨rfl,rfl⟩⟩
def DB(x:X):SpecP prog 194 [.agg x.cells] (fun r=>r=.bool (R5 x)):=by
 refine sB YQ func194 rfl call194 ?_;conv=>whnf
 repeat' (first|((first|(refine CallK.pure (FZ 20 (by omega) x) (.cons (Sub.refl _) (.cons (Sub.refl _) .nil)) ?_;rintro _ rfl)|(refine CallK.pure (FW (wX x+1) x (by omega)) (.cons (Sub.refl _) .nil) ?_;rintro _ rfl));conv=>whnf)|(apply bD<;>intro _<;>first|omega|conv=>whnf))
 all_goals rw[<-RT]
 all_goals first
  |exact RetK.bool (by unfold mayXR;rw[x8r (by omega)];rfl)
  |exact RetK.ff (by unfold mayXR;rw[x8c (by omega)];rfl)
def CZ(x:X):SpecH prog 247 ([AV.agg x.cells].map .p) [] (OneRow (Gy (XW x)) (XW x=[])):=by
 refine sH NE func247 rfl call247 ?_;conv=>whnf
 have h:=DB x;cases i:R5 x with
 | false=>
   have e:XW x=[]:=by unfold XW;rw[i];rfl
   rw[i]at h;rw[e];repeat' (first|(refine cP h ?_;conv=>whnf)|(apply bN<;>intro _<;>conv=>whnf))
   all_goals first
    |exact x8y _ (x6e _) (.inl ⟨rfl,rfl,rfl⟩)
    |(exfalso;simp_all;done)
 | true=>
   have e:XW x=Gv x []:=by unfold XW;rw[i];rfl
   rw[i]at h;rw[e];repeat' (first|(refine cP h ?_;conv=>whnf)|(apply bN<;>intro _<;>conv=>whnf))
   all_goals first
    |(exfalso;simp_all;done)
    | (refine CallK.nil 5 9 1 rfl (.cons rfl (.row .nil)) ?_
       refine CallK.heap [(2000,5)] 0 (by repeat' (first|exact x7h|refine x6i ?_ ?_|exact x6e _|exact x7q Sub.nils|exact x7q (Sub.tt rfl)|exact x7q (Sub.ff rfl)|exact x7q (Sub.int (by omega)))) (by refine x6y (j:=5) rfl rfl ?_ ?_;exact CSub.refl _;exact x7f) (Vn 20 (by omega) x (by assumption) [] (by simp)) rfl rfl ?_;rintro l' H' ⟨rfl,rfl⟩;conv=>whnf
       exact x8y _ (x6e _) (FP rfl))
def GK(x:X):SpecP prog 247 [.agg x.cells] (fun r=>r=eStrs (XW x)):=(CZ x).toP (fun h=>by rw[h];rfl) fun _ _ _ _ h=>h.2.2
def Ky{s:S}(h:oneOk s=true->False):oneOk s=false:=by
 cases i:oneOk s with
 |false=>rfl
 |true=>exact(h i).elim
def Qh(s:S):SpecP prog 126 [.agg s.cells] (fun r=>r=.bool (oneOk s)):=by
 refine sB Xq func126 rfl call126 ?_;conv=>whnf
 have n:(s.args.map fun a=>AV.agg a.cells).length=s.args.length:=x6j _;have t:((S.avs s.I).length:Int)=s.I.length:=by rw[S.avs_len]
 have o:((S.avs s.L).length:Int)=s.L.length:=by rw[S.avs_len]
 repeat' (first|((first|(refine iM fun _=>?_)|refine cP (XE _) ?_|refine cP (UL _) ?_|refine cP (FU _) ?_|refine cP (JL _) ?_|refine GX QW rfl rfl rfl rfl rfl ?_);conv=>whnf)|(apply bD<;>intro _<;>first|omega|conv=>whnf)|(apply bE<;>intro _<;>first|omega|conv=>whnf)|(apply bN<;>intro _<;>conv=>whnf)|(apply bB<;>intro _<;>conv=>whnf))
 all_goals simp only[show(ByteArray.mk #[]).data.toList=[]from rfl]at*
 all_goals first
  | (refine RetK.ff (Ky fun h=>?_)
     obtain⟨f1,f2,f3,f4,f5,f6,f7,f8,f9,f10,f11,f12,f13,f14⟩:=YE h;first
      |omega
      |(exfalso;simp_all[hasXB];done)
      |(exfalso;simp_all[hasXB];omega)
      | (rename_i c
         by_cases w:s.kind=4
         .have k:=HP (f9 w);simp_all
          done
         .have k:=f10 w;simp_all
          done))
  |skip
 all_goals
  have G:s.args.all argR=true->(s.I.length=0\/s.kind=5\/s.kind=6)->(s.L.length=0\/s.kind=5)->oneOk s=true:=fun g1 u v=>by
   refine q0v ⟨by assumption,by omega,by omega,fun q=>?_,fun q=>?_,fun q=>?_,fun q=>?_,fun q=>?_,fun q=>?_,fun q=>?_,g1,fun q=>?_,u,v⟩;all_goals clear n t o g1 u v
   all_goals first
    |omega
    |assumption
    |(simp_all[hasXB];done)
    |(simp_all[hasXB];omega)
    | (have m:(s.kind==4) = !(s.D==[]):=by assumption
       have z:(s.kind==4)=false:=z0f.2 (by assumption);rw[z]at m
       revert m
       cases(s.D==[])<;>simp
       done)
  refine LoopK.inv QW (fun j:Nat=>⟨[(1,.p (.ip s.cells)),(143,.p (.sl (s.args.map fun a=>.agg a.cells))),(144,.p (.int .i64 (s.args.map fun a=>AV.agg a.cells).length)),(145,.p (.int .i64 j))],[]⟩) (fun j=>j<=s.args.length/\(s.args.drop j).all argR=s.args.all argR) (fun j=>s.args.length-j) 0 (Le.of_eq rfl) ⟨x6t _,rfl⟩ ?_;rintro j ⟨b,l⟩;rcases x6c j s.args.length with i|i
  .conv=>whnf
   repeat' (first|((first|refine cP (Ui _) ?_|refine x6d rfl ?_|(refine iA fun _=>?_)|refine wI ?_);conv=>whnf)|(apply bD<;>intro _<;>first|omega|conv=>whnf)|(apply bN<;>intro _<;>conv=>whnf))
   all_goals first
    |exact⟨j+1,⟨i,by rw[GP i (by assumption)];exact l⟩,by omega,Le.of_eq rfl⟩
    | (refine RetK.ff (Ky fun h=>?_)
       have m:=x8h.1 (YE h).args _ (x6o i);simp_all)
  .rw [GB i]at l;have G:=G l.symm;conv=>whnf
   repeat' (first|(refine iM fun _=>?_;conv=>whnf)|(apply bD<;>intro _<;>first|omega|conv=>whnf))
   all_goals first
    |exact RetK.tt (G (by omega) (by omega))
    | (refine RetK.ff (Ky fun h=>?_)
       have x:=(YE h).I;have y:=(YE h).L;omega)
    | (refine RetK.bool ?_
       first
        |rw[z0p,z0x]
        |rw[z0p,x7s]
       exact⟨fun q=>G (by omega) (by omega),fun h=>by have x:=(YE h).I;have y:=(YE h).L;omega⟩)
def PH{p:Pg}(h:YH p=true->False):YH p=false:=by
 cases i:YH p with
 |false=>rfl
 |true=>exact(h i).elim
def KM(p:Pg):SpecP prog 59 [.agg p.cells] (fun r=>r=.bool (YH p)):=by
 refine sB X5 func59 rfl call59 ?_;conv=>whnf
 have J:(p.B.map AV.str).length=p.B.length:=x6j _;have L:(p.A.map fun f=>AV.agg f.cells).length=p.A.length:=x6j _;repeat' (first|((first|(refine iM fun _=>?_)|refine cP (UL _) ?_);conv=>whnf)|(apply bD<;>intro _<;>first|omega|conv=>whnf)|(apply bN<;>intro _<;>conv=>whnf))
 all_goals first
  | (refine RetK.ff (PH fun h=>?_)
     have F:=ZG h;have y:=F.gl;have z:=F.pl;have b:=F.gn;first
      |omega
      |(simp_all;done))
  |skip
 have e:p.B.length<=16:=by omega
 have D:p.A.length<=16:=by omega
 have G:namesB p.B=true:=by assumption
 refine LoopK.inv QW (fun j:Nat=>⟨[(1,.p (.ip p.cells)),(26,.p (.sl (p.A.map fun f=>.agg f.cells))),(27,.p (.int .i64 (p.A.map fun f=>AV.agg f.cells).length)),(28,.p (.int .i64 j))],[]⟩) (fun j=>j<=p.A.length/\∀m (o:m<p.A.length),m<j->GM p.A[m]=true) (fun j=>p.A.length-j) 0 (Le.of_eq rfl) ⟨x6t _,fun m o h=>absurd h (z1o _)⟩ ?_;rintro j ⟨T,c⟩;rcases x6c j p.A.length with t|t
 .have M:(p.A[j].C.map fun a=>AV.agg a.cells).length=p.A[j].C.length:=x6j _;have O:(p.A[j].E.map AV.str).length=p.A[j].E.length:=x6j _;conv=>whnf
  repeat' (first|((first|(refine iM fun _=>?_)|refine cP (UL _) ?_|refine cP (XE _) ?_|refine x6d rfl ?_|(refine iA fun _=>?_));conv=>whnf)|(apply bD<;>intro _<;>first|omega|conv=>whnf)|(apply bN<;>intro _<;>conv=>whnf))
  all_goals first
   | (refine RetK.ff (PH fun h=>?_)
      obtain⟨y,z,b,P,Q,R⟩:=(ZG h).pr _ (x6o t);first
       |omega
       |(simp_all;done))
   |skip
  have u:(p.A[j].C.all fun a=>isName a.name)=true->GM p.A[j]=true:=fun g=>HM.2 ⟨by omega,by omega,by assumption,by assumption,by assumption,g⟩;refine LoopK.inv QW (fun k:Nat=>⟨[(1,.p (.ip p.cells)),(26,.p (.sl (p.A.map fun f=>.agg f.cells))),(27,.p (.int .i64 (p.A.map fun f=>AV.agg f.cells).length)),(28,.p (.int .i64 j)),(61,.p (.sl (p.A[j].C.map fun a=>.agg a.cells))),(62,.p (.int .i64 (p.A[j].C.map fun a=>AV.agg a.cells).length)),(63,.p (.int .i64 k))],[]⟩) (fun k=>k<=p.A[j].C.length/\(p.A[j].C.drop k).all (fun a=>isName a.name)=p.A[j].C.all fun a=>isName a.name) (fun k=>p.A[j].C.length-k) 0 (Le.of_eq rfl) ⟨x6t _,rfl⟩ ?_;rintro k ⟨H,w⟩;rcases x6c k p.A[j].C.length with l|l
  .conv=>whnf
   repeat' (first|((first|refine cP (XE _) ?_|refine x6d rfl ?_|(refine iA fun _=>?_)|refine wI ?_);conv=>whnf)|(apply bD<;>intro _<;>first|omega|conv=>whnf)|(apply bN<;>intro _<;>conv=>whnf))
   .exact ⟨k+1,⟨l,by rw[<-w,GP (p:=fun a:Param=>isName a.name) l (by assumption)]⟩,by omega,Le.of_eq rfl⟩
   .refine RetK.ff (PH fun h=>?_);have n:=x8h.1 ((ZG h).pr _ (x6o t)).2.2.2.2.2 _ (x6o l);simp_all
  .rw [GB l]at w;have v:=u w.symm;conv=>whnf
   repeat' (first|(refine wI ?_;conv=>whnf)|(apply bD<;>intro _<;>first|omega|conv=>whnf))
   refine⟨j+1,⟨t,fun m o K=>?_⟩,by omega,Le.of_eq rfl⟩;rcases x6c m j with n|n
   .exact c m o n
   .obtain rfl:m=j:=by omega
    exact v
 .have u : ∀f∈p.A,GM f=true:=fun f I=>by
   obtain⟨m,o,rfl⟩:=x8v.1 I;exact c m o (by omega)
  conv=>whnf
  have N:=HS (allR p);repeat' (first|((first|(refine iM fun _=>?_)|refine cP (JF _) ?_);conv=>whnf)|(apply bD<;>intro _<;>first|omega|conv=>whnf))
  .refine RetK.ff (PH fun h=>?_);have:=(ZG h).len;omega
  have v:(allR p).length<=200:=by omega
  refine LoopK.inv QW (fun k:Nat=>⟨[(7,.p (Na (allR p))),(79,.p (.int .i64 ((allR p).map fun i=>AV.agg i.cells).length)),(80,.p (.int .i64 k))],[]⟩) (fun k=>k<=(allR p).length/\∀(m:Nat)(x:RI),m<k->(allR p)[m]?=some x->x.s.id=(m:Int)+1/\x.deep<=12/\oneOk x.s=true) (fun k=>(allR p).length-k) 0 (Le.of_eq rfl) ⟨x6t _,fun m x h=>absurd h (z1o _)⟩ ?_;rintro k ⟨H,d⟩;rcases x6c k (allR p).length with l|l
  .conv=>whnf
   have F:=fun h:YH p=true=>(ZG h).its k _ (x6k l);repeat' (first|((first|(refine iA fun _=>?_)|refine wI ?_|refine cP (Qh (allR p)[k].s) ?_);conv=>whnf)|(apply bD<;>intro _<;>first|omega|conv=>whnf)|(apply bE<;>intro _<;>first|omega|conv=>whnf)|(apply bN<;>intro _<;>conv=>whnf))
   all_goals first
    | (refine⟨k+1,⟨l,fun m x o q=>?_⟩,by omega,Le.of_eq rfl⟩
       rcases x6c m k with n|n
       .exact d m x n q
       .obtain rfl:m=k:=by omega
        rw[x6k l]at q;obtain rfl:=x8l q;exact⟨by omega,by omega,by assumption⟩)
    | (refine RetK.ff (PH fun h=>?_)
       obtain⟨y,z,b⟩:=F h;first
        |omega
        | (simp_all
           done))
  .conv=>whnf
   repeat' (apply bD<;>intro _<;>first|omega|conv=>whnf)
   exact RetK.tt (q8e e D G u v fun m x q=>d m x (by have:=(x6n.1 q).1;omega) q)
def Ga(p:Pg)(n:Str):Pr×Bool:=bif YH p then UE p n else(Pr0,false)
def VK(p:Pg)(n:Str):SpecP prog 22 [.agg p.cells,.str n] (fun r=>r=.tup [.agg (Ga p n).1.cells,.bool (Ga p n).2]):=by
 refine sB LT func22 rfl call22 ?_;conv=>whnf
 have m:(p.A.map fun f=>AV.agg f.cells).length=p.A.length:=x6j _;repeat' (first|((first|(refine iM fun _=>?_)|refine cP (KM _) ?_|refine x6d rfl ?_);conv=>whnf)|(apply bB<;>intro _<;>conv=>whnf))
 .have k:Ga p n=UE p n:=by unfold Ga;rw[show YH p=true by assumption];rfl
  rw[k];refine LoopK.inv QW (fun j:Nat=>⟨[(1,.p (.str n)),(4,.ptr 1 0),(11,.p (.sl (p.A.map fun f=>.agg f.cells))),(12,.p (.int .i64 (p.A.map fun f=>AV.agg f.cells).length)),(13,.p (.int .i64 j))],[(1,.obj 44 [.p (.str []),.p .nils,.p .nils,.p .nils,.p .nils])]⟩) (fun j=>j<=p.A.length/\(p.A.drop j).find? (fun f=>f.name==n)=p.A.find? fun f=>f.name==n) (fun j=>p.A.length-j) 0 (Le.of_eq rfl) ⟨x6t _,rfl⟩ ?_;rintro j ⟨o,h⟩;rcases x6c j p.A.length with i|i
  .rw [QF i,List.find?_cons]at h;conv=>whnf
   repeat' (first|((first|refine x6d rfl ?_|(refine iA fun _=>?_)|refine wI ?_);conv=>whnf)|(apply bD<;>intro _<;>first|omega|conv=>whnf)|(apply bB<;>intro _<;>conv=>whnf))
   .have l:(p.A[j].name==n)=true:=by assumption
    rw[l]at h;exact⟨_,.p (Sub.tup (SubL.cons (Sub.refl _) (SubL.cons (Sub.tt rfl) SubL.nil))),by unfold UE;rw[<-h];first|done|rfl⟩
   .have l:(p.A[j].name==n)=false:=by assumption
    rw[l]at h;exact⟨j+1,⟨i,h⟩,by omega,Le.of_eq rfl⟩
  .rw [x7v i,List.find?_nil]at h;conv=>whnf
   repeat' (first|(refine x6d rfl ?_;conv=>whnf)|(apply bD<;>intro _<;>first|omega|conv=>whnf))
   exact⟨_,.p (Sub.tup (SubL.cons Tv (SubL.cons (Sub.ff rfl) SubL.nil))),by unfold UE;rw[<-h];first|done|rfl⟩
 .have k:Ga p n=(Pr0,false):=by unfold Ga;rw[show YH p=false by assumption];rfl
  rw[k];exact⟨_,.p (Sub.tup (SubL.cons Tv (SubL.cons (Sub.ff rfl) SubL.nil))),rfl⟩
def Tg{l:List Str}(h:¬l.Nodup):XF l=true:=by
 cases i:XF l with
 |true=>rfl
 |false=>exact absurd (WY.1 i) h
def ZB(l:List Str):SpecP prog 257 [eStrs l] (fun r=>r=.bool (XF l)):=by
 refine sB MK func257 rfl call257 ?_;conv=>whnf
 refine iM fun _=>?_;have z:(l.map AV.str).length=l.length:=x6j _;conv=>whnf
 refine LoopK.inv QW (fun j:Nat=>⟨[(0,.p (eStrs l)),(6,.p (.int .i64 (l.map AV.str).length)),(7,.p (.int .i64 j))],[]⟩) (fun j=>j<=l.length/\(l.take j).Nodup) (fun j=>l.length-j) 0 (Le.of_eq rfl) ⟨x6t _,by simp⟩ ?_;rintro j ⟨x,m⟩;rcases x6c j l.length with n|n
 .conv=>whnf
  repeat' (apply bD<;>intro _<;>first|omega|conv=>whnf)
  refine LoopK.inv QW (fun k:Nat=>⟨[(0,.p (eStrs l)),(3,.p (.int .i64 j)),(4,.p (.int .i64 k)),(6,.p (.int .i64 (l.map AV.str).length)),(7,.p (.int .i64 j))],[]⟩) (fun k=>k<=j/\∀s∈l.take k,s≠l[j]) (fun k=>j-k) 0 (Le.of_eq rfl) ⟨x6t _,fun s i=>by rw[z0t]at i;cases i⟩ ?_;rintro k ⟨y,o⟩;rcases x6c k j with v|v
  .conv=>whnf
   repeat' (first|((first|refine dA ?_|(refine iA fun _=>?_)|refine wI ?_);conv=>whnf)|(apply bD<;>intro _<;>first|omega|conv=>whnf)|(apply bB<;>intro _<;>conv=>whnf))
   .refine RetK.tt (Tg fun w=>?_);have h:l[j]=l[k]:=eq_of_beq (by assumption);have:=(List.getElem_inj w).1 h;omega
   .have h:(l[j]==l[k])=false:=by assumption
    refine⟨k+1,⟨by omega,fun s i=>?_⟩,by omega,Le.of_eq rfl⟩;rcases(QC (by omega)).1 i with q|rfl
    .exact o s q
    .exact fun e=>by rw[e]at h;simp at h
  .obtain rfl:k=j:=by omega
   conv=>whnf
   repeat' (first|(refine wI ?_;conv=>whnf)|(apply bD<;>intro _<;>first|omega|conv=>whnf))
   refine⟨k+1,⟨by omega,?_⟩,by omega,Le.of_eq rfl⟩;rw[x7x n,x8b];exact⟨m,by simp,fun a t b u e=>o a t (by rw[e];exact x6p.1 u)⟩
 .rw [x7w n]at m;conv=>whnf
  repeat' (apply bD<;>intro _<;>first|omega|conv=>whnf)
  exact RetK.ff (WY.2 m)
def Qm(f:Pr)(l:f.C.length<=1000000):SpecP prog 258 [.agg f.cells] (fun r=>r=eStrs (f.C.map Param.name)):=by
 refine sB BR func258 rfl call258 ?_;conv=>whnf
 refine iM fun _=>?_;have n:(f.C.map fun a=>AV.agg a.cells).length=f.C.length:=x6j _;conv=>whnf
 refine LoopK.inv QW (fun j:Nat=>⟨[(3,.hd 0 0 j),(7,.p (.sl (f.C.map fun a=>AV.agg a.cells))),(8,.p (.int .i64 (f.C.map fun a=>AV.agg a.cells).length)),(9,.p (.int .i64 j))],[(0,.own 9 1 (((f.C.map Param.name).take j).map .str))]⟩) (fun j=>j<=f.C.length) (fun j=>f.C.length-j) 0
  (Le.mk [(0,.own 9 1 [])] (by simp[Chunk.new0];rfl) (by simp) (by simp) (.cons (.nil x6g) (.r (.r (.r .nil)))) (.new x6g .nil)) (x6t _) ?_
 intro j m;rcases x6c j f.C.length with h|h
 .have k:((f.C.map Param.name).take (j+1))=(f.C.map Param.name).take j++[f.C[j].name]:=by
   rw[x7x (by simpa using h),z0y]
  have i:((f.C.map Param.name).take j).length=j:=by simp;omega
  generalize(f.C.map Param.name).take j=acc at*
  conv=>whnf
  repeat' (first|((first|refine x6d rfl ?_|refine aD ?_|refine bP ?_|(refine iA fun _=>?_)|refine wI ?_|refine QP (by simp;omega) (by simp;omega) ?_);conv=>whnf)|(apply bD<;>intro _<;>first|omega|conv=>whnf))
  exact⟨j+1,by omega,by omega,Le.of_eq (by rw[k];simp;rfl)⟩
 .rw [x7w (by simpa using h)];conv=>whnf
  repeat' (apply bD<;>intro _<;>first|omega|conv=>whnf)
  exact⟨_,.hd rfl (by simp;omega),rfl⟩
def Vm(p:Pg)(f:Pr)(name:Str):SpecP prog 260 [.agg p.cells,.agg f.cells,.str name] (fun r=>r=.int .i64 (KI p f name)):=by
 refine sB LC func260 rfl call260 ?_;conv=>whnf
 repeat' (refine iM fun _=>?_;conv=>whnf)
 have l:(f.C.map fun a=>AV.agg a.cells).length=f.C.length:=x6j _;refine LoopK.inv QW (fun j:Nat=>⟨[(2,.p (.str name)),(3,.p (.ip p.cells)),(4,.p (.ip f.cells)),(10,.p (.sl (f.C.map fun a=>.agg a.cells))),(11,.p (.int .i64 (f.C.map fun a=>AV.agg a.cells).length)),(12,.p (.int .i64 j))],[]⟩) (fun j=>j<=f.C.length/\(f.C.drop j).find? (fun a=>a.name==name)=f.C.find? fun a=>a.name==name) (fun j=>f.C.length-j) 0 (Le.of_eq rfl) ⟨x6t _,rfl⟩ ?_;rintro j ⟨k,h⟩;rcases x6c j f.C.length with i|i
 .conv=>whnf
  repeat' (first|((first|refine x6d rfl ?_|(refine iA fun _=>?_)|refine wI ?_);conv=>whnf)|(apply bD<;>intro _<;>first|omega|conv=>whnf)|(apply bB<;>intro _<;>conv=>whnf))
  all_goals first
   |(exfalso;simp_all;done)
   | (have e:=FS (p:=fun a:Param=>a.name==name) i (by assumption)
      rw[h]at e;exact RetK.int (by unfold KI;rw[e];simp[*]))
   |(refine⟨j+1,⟨by omega,by rw[<-h,Q1 (p:=fun a:Param=>a.name==name) i (by assumption)]⟩,by omega,Le.of_eq rfl⟩)
 .have e:f.C.find? (fun a=>a.name==name)=none:=by rw[<-h,FT (by omega)]
  conv=>whnf
  repeat' (first|(refine cP (XX _ _) ?_;conv=>whnf)|(apply bD<;>intro _<;>first|omega|conv=>whnf)|(apply bB<;>intro _<;>conv=>whnf))
  all_goals
   simp only[Ha]at*
   exact RetK.int (by unfold KI;rw[e];simp[*])
def FY(t:S)(m:t.args.length<=21000):SpecP prog 259 [.agg t.cells] (fun r=>r=eStrs (ZJ t)):=by
 refine sB LS func259 rfl call259 ?_;conv=>whnf
 repeat' (first|((first|(refine iM fun _=>?_)|refine cP (GK _) ?_|refine x6d rfl ?_|refine aD ?_|refine bP ?_|refine ZS _ (by simp) (by have:=WU t.x;simp;omega) ?_|refine QP (by simp) (by simp) ?_);conv=>whnf)|(apply bE<;>intro _<;>first|omega|conv=>whnf)|(apply bN<;>intro _<;>conv=>whnf))
 all_goals simp only[show(ByteArray.mk #[]).data.toList=[]from rfl]at*
 all_goals
  have o:(t.args.map fun a=>AV.agg a.cells).length=t.args.length:=x6j _;refine LoopK.inv QW (DC t 9) (fun j=>j<=t.args.length) (fun j=>t.args.length-j) 0 (Le.of_eq ?_) (x6t _) ?_
  .first
    | (have e:Dh t 0=XW t.x:=by simp[Dh,HL,show t.kind=10 by assumption]
       rw[DC,e];simp only[x8d,x6j,x6f,x6l,x9z];rfl)
    | (have e:Dh t 0=XW t.x:=by simp[Dh,HL,show t.name=[] by simpa using(show(t.name==[])=true by assumption)]
       rw[DC,e];simp only[x8d,x6j,x6f,x6l,x9z];rfl)
    | (have e:Dh t 0=[t.name]++XW t.x:=by
        have:(t.name==[])=false:=by assumption
        simp[Dh,HL,show ¬t.kind=10 by assumption,this]
       rw[DC,e];simp only[x8d,x6j,x6f,x6l,x9z];rfl)
  intro j l;have k:=Tr t l m;conv=>whnf
  repeat' (first|((first|refine cP (GK _) ?_|refine x6d rfl ?_|refine aD ?_|refine bP ?_|(refine iA fun _=>?_)|refine wI ?_|refine ZS _ (by simp) (by have:=WU (t.args[j]'(by omega)).x;simp;omega) ?_|refine QP (by simp) (by simp;omega) ?_);conv=>whnf)|(apply bD<;>intro _<;>first|omega|conv=>whnf)|(apply bB<;>intro _<;>conv=>whnf))
  all_goals first
   |exact⟨_,.hd rfl (by simp),by
      have:t.args.take j=t.args:=x7w (by omega);rw[ZJ,<-this];rfl⟩
   | (have n:j<t.args.length:=by omega
      have h:=Nx n;refine⟨j+1,by show j+1<=_;omega,by show t.args.length-(j+1)<t.args.length-j;omega,Le.of_eq ?_⟩;first
       | (have i:YA t.args[j]=[t.args[j].name]++XW t.args[j].x:=by rw[YA,show t.args[j].ref=true by assumption];rfl
          rw[DC,h,i];simp only[x6f,x6l,x6j,<-x7n,<-x9k];rfl)
       | (have i:YA t.args[j]=XW t.args[j].x:=by rw[YA,show t.args[j].ref=false by assumption];rfl
          rw[DC,h,i];simp only[x6f,x6l,x6j];rfl))
def WG(p:Pg)(n:Str):SpecP prog 256 [.agg p.cells,.str n] (fun r=>r=.tup [.agg (UE p n).1.cells,.bool (UE p n).2]):=by
 refine sB MJ func256 rfl call256 ?_;conv=>whnf
 have l:(p.A.map fun f=>AV.agg f.cells).length=p.A.length:=x6j _;repeat' (refine iM fun _=>?_;conv=>whnf)
 refine LoopK.inv QW (fun j:Nat=>⟨[(1,.p (.str n)),(4,.ptr 1 0),(9,.p (.sl (p.A.map fun f=>.agg f.cells))),(10,.p (.int .i64 (p.A.map fun f=>AV.agg f.cells).length)),(11,.p (.int .i64 j))],[(1,.obj 44 [.p (.str []),.p .nils,.p .nils,.p .nils,.p .nils])]⟩) (fun j=>j<=p.A.length/\(p.A.drop j).find? (fun f=>f.name==n)=p.A.find? fun f=>f.name==n) (fun j=>p.A.length-j) 0 (Le.of_eq rfl) ⟨x6t _,rfl⟩ ?_;rintro j ⟨m,h⟩;rcases x6c j p.A.length with i|i
 .rw [QF i,List.find?_cons]at h;conv=>whnf
  repeat' (first|((first|refine x6d rfl ?_|(refine iA fun _=>?_)|refine wI ?_);conv=>whnf)|(apply bD<;>intro _<;>first|omega|conv=>whnf)|(apply bB<;>intro _<;>conv=>whnf))
  .have k:(p.A[j].name==n)=true:=by assumption
   rw[k]at h;exact⟨_,.p (Sub.tup (SubL.cons (Sub.refl _) (SubL.cons (Sub.tt rfl) SubL.nil))),by unfold UE;rw[<-h];first|done|rfl⟩
  .have k:(p.A[j].name==n)=false:=by assumption
   rw[k]at h;exact⟨j+1,⟨i,h⟩,by omega,Le.of_eq rfl⟩
 .rw [x7v i,List.find?_nil]at h;conv=>whnf
  repeat' (first|(refine x6d rfl ?_;conv=>whnf)|(apply bD<;>intro _<;>first|omega|conv=>whnf))
  exact⟨_,.p (Sub.tup (SubL.cons Tv (SubL.cons (Sub.ff rfl) SubL.nil))),by unfold UE;rw[<-h];first|done|rfl⟩
def On(p:Pg)(s:S):YV p s=(decide (s.kind=4)&&((UE p s.D).2&&Kl (UE p s.D).1.C s.args)):=by
 unfold YV UE;cases p.A.find? (fun f=>f.name==s.D)<;>rfl
def JX(p:Pg)(s:S):SpecP prog 261 [.agg p.cells,.agg s.cells] (fun r=>r=.bool (YV p s)):=by
 refine sB FD func261 rfl call261 ?_;conv=>whnf
 have b:=WG p s.D;have z:=On p s;rw[z];generalize(UE p s.D).2=ok at*
 generalize(UE p s.D).1=q at*
 have c:(s.args.map fun a=>AV.agg a.cells).length=s.args.length:=x6j _;have d:(q.C.map fun a=>AV.agg a.cells).length=q.C.length:=x6j _;repeat' (first|((first|(refine iM fun _=>?_)|refine x6d rfl ?_|refine cP b ?_);conv=>whnf)|(apply bE<;>intro _<;>first|omega|conv=>whnf)|(apply bN<;>intro _<;>conv=>whnf))
 all_goals first
  |(refine RetK.ff ?_;simp_all;done)
  | (refine RetK.ff ?_
     have:Kl q.C s.args=false:=by
      unfold Kl;rw[x8o];intro o;have:=x8m List.length o;simp at this;omega
     rw[this];simp)
  |skip
 have m:s.kind=4:=by omega
 have y:s.args.length=q.C.length:=by omega
 have u:ok=true:=by assumption
 rw[u,x8r m,z1j,z1j];refine LoopK.inv QW (fun j:Nat=>⟨[(3,.p (.ip s.cells)),(5,.p (.ip q.cells)),(33,.p (.int .i64 (s.args.map fun a=>AV.agg a.cells).length)),(34,.p (.int .i64 j))],[]⟩) (fun j=>j<=s.args.length/\∀k (m:k<j) (v:k<s.args.length) (n:k<q.C.length),s.args[k].ref=q.C[k].ref) (fun j=>s.args.length-j) 0 (Le.of_eq rfl) ⟨x6t _,fun k m=>absurd m (z1o _)⟩ ?_;rintro j ⟨n,w⟩;rcases x6c j s.args.length with x|x
 .have t:j<q.C.length:=by omega
  conv=>whnf
  repeat' (first|((first|refine dA ?_|(refine iA fun _=>?_)|refine wI ?_|refine GX QW rfl rfl rfl rfl rfl ?_);conv=>whnf)|(apply bD<;>intro _<;>first|omega|conv=>whnf)|(apply bE<;>intro _<;>first|omega|conv=>whnf))
  all_goals first
   | (refine RetK.ff ?_
      unfold Kl;rw[x8o];intro o;have i:=x8m (fun l=>l[j]?) o;simp only[x6a,x6k x,x6k t,x9m]at i;have h:=x8l i;simp_all
      done)
   | (refine⟨j+1,⟨by omega,fun k m v n=>?_⟩,by omega,Le.of_eq rfl⟩
      rcases x6c k j with h|h
      .exact w k h v n
      .obtain rfl:k=j:=by omega
       simp_all)
 .conv=>whnf
  repeat' (apply bD<;>intro _<;>first|omega|conv=>whnf)
  refine RetK.tt ?_;unfold Kl;rw[x7s];refine List.ext_getElem (by simp;omega) fun k i h=>?_;simp only[x6j]at i h;rw[z0y,z0y,w k (by omega) h i]
def Qn(f:Pr)(u:∀x∈VS f,x.s.F.length<=21000)(y:f.fin.length<=21000):SpecP prog 263 [.agg f.cells] (fun r=>r=eStrs ((VS f).flatMap (fun x=>x.s.F)++f.fin)):=by
 refine sB BL func263 rfl call263 ?_;conv=>whnf
 have q:=XI f;have v:=HH f;generalize VS f=L at*
 have t:=HS L;repeat' ((first|(refine iM fun _=>?_)|refine cP q ?_);conv=>whnf)
 refine LoopK.inv QW (fun x:Nat×List Str=>⟨[(1,.p (.ip f.cells)),(3,.hd 0 0 x.2.length),(7,.p (Na L)),(8,.p (.int .i64 (L.map fun i=>AV.agg i.cells).length)),(9,.p (.int .i64 x.1))],[(0,.own 9 1 (x.2.map .str))]⟩) (fun x=>x.1<=L.length/\x.2=(L.take x.1).flatMap (fun x=>x.s.F)/\x.2.length<=21000*x.1) (fun x=>L.length-x.1) (0,[])
  (Le.mk [(0,.own 9 1 [])] (by simp[Chunk.new0];rfl) (by simp) (by simp) (.r (.cons (.nil x6g) (.r (.r (.r .nil))))) (.new x6g .nil)) ⟨x6t _,by simp,by simp⟩ ?_
 rintro⟨j,h⟩ ⟨m,k,n⟩;simp only at m k n⊢;rcases x6c j L.length with l|l
 .have w:=u _ (x6o l);have o:h++L[j].s.F=(L.take (j+1)).flatMap (fun x=>x.s.F):=by rw[x7x l,z1g,<-k];simp
  conv=>whnf
  repeat' (first|((first|refine x6d rfl ?_|refine aD ?_|(refine iA fun _=>?_)|refine wI ?_|refine ZS _ (by simp) (by simp;omega) ?_);conv=>whnf)|(apply bD<;>intro _<;>first|omega|conv=>whnf))
  exact⟨(j+1,h++L[j].s.F),⟨by simp only;omega,o,by simp;omega⟩,by simp only;omega,Le.of_eq (by simp;rfl)⟩
 .rw [x7w l]at k;conv=>whnf
  repeat' (first|((first|refine aD ?_|refine ZS _ (by simp) (by simp;omega) ?_);conv=>whnf)|(apply bD<;>intro _<;>first|omega|conv=>whnf))
  exact⟨_,.hd rfl (by simp),by rw[<-k];simp[eStrs]⟩
def Qd(l:List RI)(id:Int):SpecP prog 262 [Na l,.int .i64 id] (fun r=>r=.tup [.int .i64 (R4 l.reverse id).1,.bool (R4 l.reverse id).2]):=by
 refine sB BB func262 rfl call262 ?_;conv=>whnf
 refine iM fun _=>?_;have q:=HS l;conv=>whnf
 repeat' (refine wI ?_;conv=>whnf)
 refine LoopK.inv QW (fun n:Nat=>⟨[(0,.p (Na l)),(1,.p (.int .i64 id)),(6,.p (.int .i64 ((n:Int)-1)))],[]⟩) (fun n=>n<=l.length/\R4 (l.take n).reverse id=R4 l.reverse id) (fun n=>n) l.length (Le.of_eq (by rw[q])) ⟨x7u _,by rw[z1z]⟩ ?_;rintro n ⟨y,o⟩;cases n with
 | zero=>
   rw[<-o];conv=>whnf
   repeat' (apply bD<;>intro _<;>first|omega|conv=>whnf)
   exact RetK.tup2 rfl (Sub.ff rfl)
 | succ n=>
   have w:n<l.length:=by omega
   have h:=Ng w id;have s:((n+1:Nat):Int)-1=(n:Nat):=by omega
   rw[s];conv=>whnf
   repeat' (first|((first|(refine iA fun _=>?_)|refine Wr.eq (m:=(n:Int)-1) rfl (by omega) (by omega) ?_);conv=>whnf)|(apply bD<;>intro _<;>first|omega|conv=>whnf)|(apply bE<;>intro _<;>first|omega|conv=>whnf))
   rotate_left 1
   .rw [if_neg (by assumption)]at h;exact⟨n,⟨by omega,by rw[<-h];exact o⟩,by omega,Le.of_eq rfl⟩
   rw[if_pos (by omega)]at h;refine LoopK.inv QW (fun x:Nat×Int=>⟨[(0,.p (Na l)),(1,.p (.int .i64 id)),(6,.p (.int .i64 n)),(7,.p (.int .i64 x.2)),(8,.p (.int .i64 ((x.1:Int)-1)))],[]⟩) (fun x=>x.1<=n/\GN (l.take x.1).reverse x.2=GN (l.take n).reverse l[n].inn) (fun x=>x.1) (n,l[n].inn) (Le.of_eq rfl) ⟨x7u _,rfl⟩ ?_;rintro⟨m,i⟩ ⟨u,k⟩;simp only at u k⊢;cases m with
   | zero=>
     have e:GN (l.take 0).reverse i=(0,false):=rfl;rw[e]at k;rw[<-k,if_neg (by decide)]at h;conv=>whnf
     repeat' (first|(refine Wr.eq (m:=(n:Int)-1) rfl (by omega) (by omega) ?_;conv=>whnf)|(apply bD<;>intro _<;>first|omega|conv=>whnf))
     exact⟨n,⟨by omega,by rw[<-h];exact o⟩,by omega,Le.of_eq rfl⟩
   | succ m=>
     have v:m<l.length:=by omega
     have j:=C9 v i;have t:((m+1:Nat):Int)-1=(m:Nat):=by omega
     rw[t];conv=>whnf
     repeat' (first|((first|(refine iA fun _=>?_)|refine Wr.eq (m:=(n:Int)-1) rfl (by omega) (by omega) ?_|refine Wr.eq (m:=(m:Int)-1) rfl (by omega) (by omega) ?_);conv=>whnf)|(apply bD<;>intro _<;>first|omega|conv=>whnf)|(apply bE<;>intro _<;>first|omega|conv=>whnf))
     all_goals first
      | (rw[if_pos (by omega)]at j
         rw[j]at k;rw[<-k,if_neg (by decide)]at h;exact⟨n,⟨by omega,by rw[<-h];exact o⟩,by omega,Le.of_eq rfl⟩)
      | (rw[if_neg (by assumption),if_neg (by assumption)]at j
         exact⟨(m,i),⟨by simp only;omega,by rw[<-j];exact k⟩,by simp only;omega,Le.of_eq rfl⟩)
      | (rw[if_neg (by assumption),if_pos (by omega),if_pos (by assumption)]at j
         rw[j]at k;rw[<-k,if_pos rfl]at h;rw[<-o,h];exact RetK.tup2 rfl (Sub.tt rfl))
      | (rw[if_neg (by assumption),if_pos (by omega),if_neg (by assumption)]at j
         exact⟨(m,l[m].inn),⟨by simp only;omega,by rw[<-j];exact k⟩,by simp only;omega,Le.of_eq rfl⟩)
def pureL:LV->LV
 |.p a=>.p a
 |_=>.p .any
def CG:List (Nat×LV)->List (Nat×LV)
 |[]=>[]
 |(j,l)::r=>(j,pureL l)::CG r
theorem Lq:∀(sl:List (Nat×LV))(i:Nat),getS (CG sl) i=pureL (getS sl i)
 |[],i=>rfl
 | (j,l)::r,i=>by
   rw[CG,getS,getS];cases j==i with
   |true=>rfl
   |false=>exact Lq r i
def W2{P:Program}{N:Nat}{g:FuncId}{args:List LV}{o:Option Nat}{s:St}{K:St->Prop}{avs:List AV}{R:AV->Prop}(F:SpecP P g avs R)(T:FrzL s.H args avs)(h:∀c,R c->setD N (CG s.sl) o (.p c) fun sl=>K ⟨sl,[]⟩):CallK P N g args o s K:=by
 refine⟨fun σ β a w f m Z hv=>⟨F.go m,?_⟩⟩;obtain⟨t,q⟩:=T.get;obtain⟨τ,E,J,L,M⟩:=PU f.heap;refine(F.ok τ w m (Z.trans t) (fun j c C=>?_) J).mono fun e w' ⟨c,u,σ',V,Q,z,r,Y,n,v⟩=>?_
 .obtain ⟨l,A,d⟩:=q j c C;exact M l _ c (hv j l A) d
 .have D:Rel N σ' β ⟨CG s.sl,[]⟩ a w':=⟨f.size,f.defers,fun i=>by
   show RepL σ' β (getS (CG s.sl) i) _;rw[Lq];have:=f.G i;generalize getS s.sl i=l at this⊢;cases l with
   |p x=>exact this.mono (Mem.le_trans E r)
   |_=>exact .p (.any _),⟨Y,fun k c h=>(by cases h),z2g,fun k h=>(by cases h),fun k h=>(by cases h)⟩⟩
  obtain⟨sl,O,y⟩:=D.setD (.p z) (h c Q);refine⟨u,σ',β,_,V,O,y,Mem.le_trans E r,⟨n.os,n.tape,n.output,n.drawn,n.size,fun b U _=>n.block b U id⟩,fun b I A=>?_,fun b ⟨j,C,_⟩=>(by cases C),fun _ _ _=>rfl⟩;by_cases d:τ b=none
  .exact .inr (v b d A)
  .rcases L b d with B|B
   .exact absurd I B
   .exact .inl B
def CC(l:List Str)(e:l.length<=1000000000):SpecH prog 107 ([eStrs l].map .p) [] (OneRow (Gy (WN l)) False):=by
 refine sH BN func107 rfl call107 ?_;conv=>whnf
 refine iM fun _=>?_;have b:(l.map AV.str).length=l.length:=x6j _;conv=>whnf
 refine LoopK.inv QW (fun x:Nat×List Str=>⟨[(0,.p (eStrs l)),(3,.hd 0 0 x.2.length),(9,.p (.int .i64 (l.map AV.str).length)),(10,.p (.int .i64 x.1))],[(0,.own 9 1 (x.2.map .str))]⟩) (fun x=>x.1<=l.length/\RiseI ltT l x.2 x.1) (fun x=>l.length-x.1) (0,[])
  (Le.mk [(0,.own 9 1 [])] (by simp[Chunk.new0];rfl) (by simp) (by simp) (.r (.cons (.nil x6g) (.r (.r .nil)))) (.new x6g .nil)) ⟨x6t _,RiseI.zero⟩ ?_
 rintro⟨i,out⟩ ⟨u,q⟩;simp only at u q⊢;have d:=q.len Qq;rcases x6c i l.length with a|a
 .conv=>whnf
  repeat' (first|(refine iM fun _=>?_;conv=>whnf)|(apply bD<;>intro _<;>first|omega|conv=>whnf))
  refine LoopK.inv QW (fun x:Nat×Option Str=>⟨[(0,.p (eStrs l)),(3,.hd 0 0 out.length),(4,.p (.str (x.2.getD []))),(5,.p (.bool x.2.isSome)),(9,.p (.int .i64 (l.map AV.str).length)),(10,.p (.int .i64 i)),(12,.p (eStrs l)),(13,.p (.int .i64 (l.map AV.str).length)),(14,.p (.int .i64 x.1))],[(0,.own 9 1 (out.map .str))]⟩) (fun x=>x.1<=l.length/\LeastI ltT l out x.1 x.2) (fun x=>l.length-x.1) (0,none) (Le.mk [] (by simp) (by simp) (by simp) (.r (.r (.r (.cons (.p (Sub.ff rfl)) (.r (.r (.r (.r (.r .nil))))))))) (.cons rfl (.refl _) .nil)) ⟨x6t _,LeastI.zero⟩ ?_;rintro⟨k,o⟩ ⟨v,j⟩;simp only at v j⊢;rcases x6c k l.length with n|n
  .have s:inS out l[k]=true->l[k]∈out:=JG.1;have t:inS out l[k]=false->l[k]∉out:=fun h c=>by rw[JG.2 c]at h;cases h
   cases o with
   | none=>
     simp only[Option.getD_none,Option.isSome_none];conv=>whnf
     repeat' (first|((first|(refine iA fun _=>?_)|refine wI ?_|(refine QB (XX out (l[k]'n)) (.cons (.hd rfl (by simp)) (.cons (.p (Sub.refl _)) .nil)) (by rintro _ rfl;rfl) ?_;rintro _ rfl));conv=>whnf)|(apply bD<;>intro _<;>first|omega|conv=>whnf)|(apply bN<;>intro _<;>conv=>whnf)|(apply bB<;>intro _<;>conv=>whnf))
     all_goals first
      |(exfalso;simp_all;done)
      |exact⟨(k+1,none),⟨by simp only;omega,j.old n (s (by assumption))⟩,by simp only;omega,Le.of_eq rfl⟩
      |exact⟨(k+1,some l[k]),⟨by simp only;omega,j.first n (t (by assumption))⟩,by simp only;omega,(Le.mk [] (by simp) (by simp) (by simp) (.r (.r (.r (.cons (.p (Sub.tt rfl)) (.r (.r (.r (.r (.r .nil))))))))) (.cons rfl (.refl _) .nil))⟩
   | some m=>
     simp only[x9h,Option.isSome_some];conv=>whnf
     repeat' (first|((first|(refine iA fun _=>?_)|refine wI ?_|(refine QB (XX out (l[k]'n)) (.cons (.hd rfl (by simp)) (.cons (.p (Sub.refl _)) .nil)) (by rintro _ rfl;rfl) ?_;rintro _ rfl));conv=>whnf)|(apply bD<;>intro _<;>first|omega|conv=>whnf)|(apply bN<;>intro _<;>conv=>whnf)|(apply bB<;>intro _<;>conv=>whnf))
     all_goals first
      |(exfalso;simp_all;done)
      |exact⟨(k+1,some m),⟨by simp only;omega,j.old n (s (by assumption))⟩,by simp only;omega,Le.of_eq rfl⟩
      |exact⟨(k+1,some l[k]),⟨by simp only;omega,j.less ltT.trans n (t (by assumption)) (by assumption)⟩,by simp only;omega,(Le.mk [] (by simp) (by simp) (by simp) (.r (.r (.r (.cons (.p (Sub.tt rfl)) (.r (.r (.r (.r (.r .nil))))))))) (.cons rfl (.refl _) .nil))⟩
      | (have z:Op.bytesLess l[k] m=false:=by assumption
         exact⟨(k+1,some m),⟨by simp only;omega,j.more (fun _ _=>EW) n (fun h=>by unfold ltT at h;rw[z]at h;cases h)⟩,by simp only;omega,Le.of_eq rfl⟩)
  .obtain rfl:k=l.length:=by omega
   cases o with
   | none=>
     simp only[Option.getD_none,Option.isSome_none];conv=>whnf
     repeat' (first|((first|refine x6d rfl ?_|refine aD ?_|refine bP ?_|refine wI ?_);conv=>whnf)|(apply bD<;>intro _<;>first|omega|conv=>whnf)|(apply bB<;>intro _<;>conv=>whnf))
     all_goals first
      |(exfalso;simp_all;done)
      |exact⟨(i+1,out),⟨by simp only;omega,q.stay j⟩,by simp only;omega,Le.of_eq rfl⟩
   | some m=>
     simp only[x9h,Option.isSome_some];conv=>whnf
     repeat' (first|((first|refine x6d rfl ?_|refine aD ?_|refine bP ?_|refine wI ?_|refine QP (by simp) (by simp;omega) ?_);conv=>whnf)|(apply bD<;>intro _<;>first|omega|conv=>whnf)|(apply bB<;>intro _<;>conv=>whnf))
     all_goals first
      |(exfalso;simp_all;done)
      |exact⟨(i+1,out++[m]),⟨by simp only;omega,q.snoc j⟩,by simp only;omega,Le.of_eq (by simp only[x6f,x6l];rfl)⟩
 .obtain ⟨w,y⟩:=q.all Qq (by omega);rw[<-Bt w y];conv=>whnf
  repeat' (apply bD<;>intro _<;>first|omega|conv=>whnf)
  exact x8y _ (x6e _) (OneRow.str rfl)
def VI(l:List Str)(i:l.length<=1000000000):SpecP prog 107 [eStrs l] (fun r=>r=eStrs (WN l)):=(CC l i).toP (fun h=>h.elim) fun _ _ _ _ h=>h.2.2
def Vo(f:Pr):List Str:=((VS f).filter fun x=>decide (x.s.kind=4)).map fun x=>x.s.D
def Cz(f:Pr):(Vo f).length<=201:=by
 unfold Vo;rw[x6j];exact x8s (z0z _ _) (HH f)
def Zo(p:Pg)(n:Str):SpecP prog 340 [.agg p.cells,.str n] (fun r=>r=eStrs (WN (Vo (UE p n).1))):=by
 refine sB MV func340 rfl call340 ?_;conv=>whnf
 have w:=WG p n;generalize(UE p n).2=ok at*
 generalize(UE p n).1=f at*
 have u:=XI f;have z:=Cz f;have a:=HH f;have l:Vo f=((VS f).filter fun x=>decide (x.s.kind=4)).map fun x=>x.s.D:=rfl;have y:=VI (Vo f) (by omega);generalize Vo f=C at*
 generalize VS f=L at*
 have v:=HS L;repeat' ((first|(refine iM fun _=>?_)|refine x6d rfl ?_|refine cP w ?_|refine cP u ?_);conv=>whnf)
 refine LoopK.inv QW (fun x:Nat×List Str=>⟨[(7,.hd 0 0 x.2.length),(17,.p (Na L)),(18,.p (.int .i64 (L.map fun i=>AV.agg i.cells).length)),(19,.p (.int .i64 x.1))],[(0,.own 9 1 (x.2.map .str))]⟩) (fun x=>x.1<=L.length/\x.2=((L.take x.1).filter fun x=>decide (x.s.kind=4)).map (fun x=>x.s.D)/\x.2.length<=x.1) (fun x=>L.length-x.1) (0,[])
  (Le.mk [(0,.own 9 1 [])] (by simp[Chunk.new0];rfl) (by simp) (by simp) (.cons (.nil x6g) (.r (.r (.r .nil)))) (.new x6g .nil)) ⟨x6t _,by simp,by simp⟩ ?_
 rintro⟨j,h⟩ ⟨q,k,t⟩;simp only at q k t⊢;rcases x6c j L.length with m|m
 .have o:=x7x m;conv=>whnf
  repeat' (first|((first|refine x6d rfl ?_|refine aD ?_|refine bP ?_|(refine iA fun _=>?_)|refine wI ?_|refine QP (by simp) (by simp;omega) ?_);conv=>whnf)|(apply bD<;>intro _<;>first|omega|conv=>whnf))
  all_goals first
   |exact⟨(j+1,h++[L[j].s.D]),⟨by simp only;omega,by simp only;rw[o,x9t,x6l,<-k];congr 1;rw[x9j (by simp;assumption)];rfl,by simp;omega⟩,by simp only;omega,Le.of_eq (by simp only[x6f,x6l];rfl)⟩
   |exact⟨(j+1,h),⟨by simp only;omega,by simp only;rw[o,x9t,x6l,<-k,x9f (by simp;assumption)];simp,by simp only;omega⟩,by simp only;omega,Le.of_eq rfl⟩
 .rw [x7w m,<-l]at k;subst k;conv=>whnf
  repeat' (first|(refine W2 y (.cons (.hd rfl (by simp)) .nil) ?_;rintro _ rfl;conv=>whnf)|(apply bD<;>intro _<;>first|omega|conv=>whnf))
  exact RetK.p rfl
def AW{p:Pg}(i:YH p=true){f:Pr}(h:f∈p.A):WN (Vo f)=YX f:=by
 unfold Vo YX GW WN;rw[FA i h,<-show(flatU f).map RI.s=flL f.body from Wb 1 0 false f.body,List.filter_map,z1s];rfl
def Sp{p:Pg}{k:Nat}(i:k<p.A.length){n:Str}(h:p.A.find? (fun f=>f.name==n)=some p.A[k]):UE p n=(p.A[k],true):=by
 unfold UE;rw[h]
def Ow{p:Pg}(j:YH p=true){k:Nat}(i:k<p.A.length){n:Str}(h:p.A.find? (fun f=>f.name==n)=some p.A[k]):SpecP prog 340 [.agg p.cells,.str n] (fun r=>r=eStrs (YX p.A[k])):=by
 have:=Zo p n;rw[Sp i h,AW j (x6o i)]at this;exact this
def Qp(p:Pg)(n:Str)(J:(QA p).1=0)(U:n∈procsN p):SpecP prog 326 [.agg p.cells,.str n] (fun r=>r=eStrs (C3 p n)):=by
 refine sB BM func326 rfl call326 ?_;conv=>whnf
 obtain⟨I,hb,Z⟩:=WX J;obtain⟨hg,hpl,P⟩:=ZL I;have Y:(procsN p).length=p.A.length:=by simp[procsN]
 repeat' ((first|refine x6d rfl ?_|refine aD ?_|refine z1c (fun x hx=>by rcases x6p.1 hx with rfl;rfl) rfl ?_);conv=>whnf)
 refine LoopK.inv QW (fun i:Nat×List Str=>⟨[(2,.p (.ip p.cells)),(5,.hd 0 0 i.2.length),(6,.p (.int .i64 i.1))],[(0,.own 9 1 (i.2.map .str))]⟩)
  (fun i=>i.1<=i.2.length/\i.2.Nodup/\(∀s∈i.2,s∈procsN p)/\VP p (p.A.length+1-i.1) i.1 i.2=VP p (p.A.length+1) 0 [n]) (fun i=>p.A.length+1-i.1) (0,[n])
  (Le.of_eq rfl) ⟨x6t _,by simp,by simpa using U,rfl⟩ ?_
 rintro⟨j,out⟩ ⟨K,f,B,v⟩;simp only at K f B v⊢;have hol:=DH f B;rcases x6c j out.length with u|u
 .obtain ⟨k,E,R,a,V⟩:=Z7 (B _ (x6o u));have D:=Hw p.A[k];have O:cntL p.A[k].body<=200:=by
   have:=(QY p).2.2.2.2 k p.A[k] (by simp);omega
  have N:=Ow I E a;have g:(out.map AV.str)[j]?=some (.str out[j]):=by simp[u]
  conv=>whnf
  repeat' (first|((first|(refine iM fun _=>?_)|refine dA ?_|refine x6d rfl ?_|refine x8q j rfl u ?_|refine x8p j 0 (.str out[j]) (by omega) g ?_|refine cP N ?_);conv=>whnf)|(apply bD<;>intro _<;>first|omega|conv=>whnf))
  have e:∀s∈YX p.A[k],s∈procsN p:=fun s h=>BE J (x6o E) h;have C:=Nb E a;have F:VP p (p.A.length+1-j) j out=VP p (p.A.length+1-(j+1)) (j+1) (VQ out (YX p.A[k])):=by
   rw[show p.A.length+1-j=(p.A.length+1-(j+1))+1 by omega,VP,x6k u];simp only;rw[C]
  rw[F]at v;obtain⟨b,c,rr,d⟩:=HX (YX p.A[k]) f B e;generalize YX p.A[k]=cs at e v b c d D⊢;have H:(cs.map AV.str).length=cs.length:=x6j _;refine LoopK.inv QW (fun i:Nat×List Str=>⟨[(2,.p (.ip p.cells)),(5,.hd 0 0 i.2.length),(6,.p (.int .i64 j)),(22,.p (eStrs cs)),(23,.p (.int .i64 (cs.map AV.str).length)),(24,.p (.int .i64 i.1))],[(0,.own 9 1 (i.2.map .str))]⟩)
   (fun i=>i.1<=cs.length/\i.2.length<=out.length+i.1/\VQ i.2 (cs.drop i.1)=VQ out cs) (fun i=>cs.length-i.1) (0,out)
   (Le.of_eq rfl) ⟨x6t _,by simp,rfl⟩ ?_
  rintro⟨m,l⟩ ⟨L,M,w⟩;simp only at L M w⊢;rcases x6c m cs.length with o|o
  .have t:=LA (out:=l) o;rw[<-Ha]at t;conv=>whnf
   repeat' (first|((first|refine x6d rfl ?_|refine aD ?_|refine bP ?_|(refine iA fun _=>?_)|refine wI ?_|(refine QB (XX l (cs[m]'o)) (.cons (.hd rfl (by simp)) (.cons (.p (Sub.refl _)) .nil)) (by rintro _ rfl;rfl) ?_;rintro _ rfl)|refine QP (by simp) (by simp;omega) ?_);conv=>whnf)|(apply bD<;>intro _<;>first|omega|conv=>whnf)|(apply bN<;>intro _<;>conv=>whnf))
   all_goals first
    |exact⟨(m+1,l),⟨by simp only;omega,by simp only;omega,by simp only;rw[<-w,t,if_pos (by assumption)]⟩,by simp only;omega,Le.of_eq rfl⟩
    |exact⟨(m+1,l++[cs[m]]),⟨by simp only;omega,by simp;omega,by simp only;rw[<-w,t,if_neg (by simp[*])]⟩,by simp only;omega,Le.of_eq (by simp only[x6f,x6l];rfl)⟩
  .rw [x7v o,VQ]at w;subst w;have T:j<(VQ out cs).length:=by rw[d,x6f];omega
   conv=>whnf
   repeat' (first|(refine wI ?_;conv=>whnf)|(apply bD<;>intro _<;>first|omega|conv=>whnf))
   all_goals exact⟨(j+1,VQ out cs),⟨by simp only;omega,b,c,v⟩,by simp only;omega,Le.of_eq rfl⟩
 .have z:out=VP p (p.A.length+1) 0 [n]:=by
   rw[<-v];cases Q:p.A.length+1-j with
   |zero=>rw[VP]
   |succ q=>rw[VP,x7a u]
  have y:WN out=C3 p n:=by
   unfold C3;rw[<-z,Tx f]
  have G:=VI out (by omega);rw[y]at G;conv=>whnf
  repeat' (first|((first|(refine iM fun _=>?_)|(refine W2 G (.cons (.hd rfl (by simp)) .nil) ?_;rintro _ rfl));conv=>whnf)|(apply bD<;>intro _<;>first|omega|conv=>whnf))
  all_goals exact RetK.p rfl
end Go.Ab
