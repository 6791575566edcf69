/- inout's small program that needs a global and the input. -/
import Derived.Test.YtonbdgcjnecapaaGreatRchC14
import Derived.Test.YtonbdgcjnecapaaGreatRchC16
import Derived.Test.YtonbdgcjnecapaaGreatRchC18
import Derived.Test.YtonbdgcjnecapaaGreatRchC21
import Derived.Test.YtonbdgcjnecapaaGreatRchC23
set_option linter.all false
set_option maxRecDepth 100000
set_option maxHeartbeats 16000000
namespace Go.Ab
open Go.Proofs.Tryz
open Go.Proofs
variable {I:List (List Str)}{a k:Nat}{f:Pr}{nm:Str}{p:Pg}{y:Int}
def dP:Pg:=⟨[[103]],[
 ⟨[109,97,105,110],[],[[118]],[
   .mk 1 1 [] [118] [] (.mk 1 2 [] []) false [] [] [],
   .mk 2 4 [] [] [112] (.mk 0 0 [] []) false [⟨false,[],.mk 1 3 [] []⟩,⟨true,[118],.mk 0 0 [] []⟩] [] [],
   .mk 3 3 [] [] [] (.mk 2 0 [118] []) false [] [] [],
   .mk 4 3 [] [] [] (.mk 2 0 [103] []) false [] [] []],[]⟩,
 ⟨[112],[⟨[120],false⟩,⟨[121],true⟩],[],[
   .mk 5 2 [] [120] [] (.mk 0 0 [] []) false [] [] [],
   .mk 6 5 [] [] [] (.mk 12 0 [] [.mk 2 0 [121] [],.mk 1 9 [] []]) false [] [.mk 7 10 [] [101] [] (.mk 0 0 [] []) false [] [] []] [],
   .mk 8 9 [] [] [] (.mk 2 0 [103] []) true [] [] []],[[101]]⟩]⟩
instance:DecidableRel ltT:=fun a b=>inferInstanceAs (Decidable (Op.bytesLess a b=true))
def q6p(m l:List Str):Bool:=decide (m.Pairwise ltT)&&m.all (fun s=>inS l s)&&l.all (fun s=>inS m s)
def Fk{m l:List Str}(h:q6p m l=true):WA l=m:=by
 unfold q6p at h;simp only[x1z,x1n,x2w]at h;exact(O0 h.1.1 fun s=>⟨fun i=>ZA.1 (h.1.2 s i),fun i=>ZA.1 (h.2 s i)⟩).symm
def q1g:List (List Str)->List (List Str)->Bool
 |[],[]=>true
 |m::ms,l::ls=>q6p m l&&q1g ms ls
 |_,_=>false
theorem Y0:∀{ms ls:List (List Str)},q1g ms ls=true->ls.map WA=ms
 |[],[],_=>rfl
 |[],_::_,h=>by cases h
 |_::_,[],h=>by cases h
 | m::ms,l::ls,h=>by
   rw[q1g,x1z]at h;rw[x1j,Fk h.1,Y0 h.2]
def C8{O D:List (List Str)}(h:q1g D ((sheetOf p).l.map fun m=>MF (bkO p O) m.s)=true):dfB p O=D:=by
 have i:=Y0 h;rw[x4i]at i;exact i
def q3q{U:List (List Str)}(h:q1g U ((sheetOf p).l.map fun m=>MY (bkI p I) m.s)=true):usB p I=U:=by
 have i:=Y0 h;rw[x4i]at i;exact i
def q9z(l:List Bool)(p:Pg)(i:Nat)(f:Pr)(D:List (List Str)):List Str:=(itsOf p i f).flatMap fun h=>bif l.getD (ixI p i f h.s.id).toNat false then(FZ D h.s.id).filter (outB p f)else []
def q9q(h:List (Int×Int))(p:Pg)(i:Nat)(f:Pr)(D U:List (List Str))(o:List Str)(x:Str):Bool:=(FW 0 (ZN (QS (QW f.body+2) (h.filter fun t=>FV p i f D x t.1)).1 [0])).any (hitN p i f U o x)
def A7{D O:List (List Str)}{i l:List Bool}{f0 f1:Pr}(m:p.A=[f0,f1])(r:(QQ p 0 f0).live=i)(s:(QQ p 1 f1).live=l)(h:q1g O [q9z i p 0 f0 D,q9z l p 1 f1 D]=true):otB p D=O:=by
 rw[<-Y0 h,<-r,<-s];unfold otB;have o:prA p 0=f0:=JF (by rw[m];rfl);have q:prA p 1=f1:=JF (by rw[m];rfl);rw[m];show [otA p D 0,otA p D 1]=_;unfold otA;rw[o,q];rfl
def q1c{D U O:List (List Str)}{q5e q5i:List (Int×Int)}{f0 f1:Pr}(i:p.A=[f0,f1])(o:UA (QQ p 0 f0) f0=q5e)(q:UA (QQ p 1 f1) f1=q5i)(h:q1g I [(p.D++[GP]).filter (q9q q5e p 0 f0 D U (O.getD 0 [])),(p.D++[GP]).filter (q9q q5i p 1 f1 D U (O.getD 1 []))]=true):niB p D U O=I:=by
 rw[<-Y0 h,<-o,<-q];unfold niB;have l:prA p 0=f0:=JF (by rw[i];rfl);have m:prA p 1=f1:=JF (by rw[i];rfl);rw[i];show [niA p D U O 0,niA p D U O 1]=_;unfold niA RQ;rw[l,m];rfl
def M3:Str:=[103]
def vS:Str:=[118]
def yS:Str:=[121]
def xS:Str:=[120]
def q6u:PQ (QQ someP 0 f0) f0=[⟨0,1,1⟩,⟨1,2,1⟩,⟨2,3,1⟩,⟨3,4,1⟩,⟨4,-1,1⟩]:=by
 unfold PQ UM;rw[q5f,q5w];exact RP (by unfold okSt;decide) (by decide) (by decide) (by decide)
def q2f:UA (QQ someP 0 f0) f0=[(0,1),(1,2),(2,3),(3,4),(4,5)]:=by
 unfold UA;rw[q6u]
 kernel_rfl
def q6s:UA (QQ someP 1 f1) f1=[(0,1),(1,2),(2,3),(2,4),(3,5),(4,5)]:=by
 unfold UA;rw[q6y]
 kernel_rfl
def Ec:(QQ someP 0 f0).live=[true,true,true,true,true,true]:=by
 unfold QQ;simp only[q4e]
 kernel_rfl
def q3d:(QQ someP 1 f1).live=[true,true,true,true,true,true]:=by
 unfold QQ;simp only[q4i]
 kernel_rfl
def sO:List (List Str):=[[M3],[yS]]
def sD0:List (List Str):=[[vS],[M3],[],[],[yS],[],[],[retS]]
def sD:List (List Str):=[[vS],[M3,vS],[],[],[yS],[],[],[retS]]
def sU:List (List Str):=[[],[vS],[vS],[M3],[xS,yS],[yS],[],[yS]]
def some_book:BookR someP ⟨sheetOf someP,wysB someP,sD,sU,[[],[]],sO⟩:=by
 have d0:dfB someP [[],[]]=sD0:=C8 (by kernel_rfl);have l:otB someP sD0=sO:=A7 (f0:=f0) (f1:=f1) rfl Ec q3d (by kernel_rfl);have d1:dfB someP sO=sD:=C8 (by kernel_rfl);have o2:otB someP sD=sO:=A7 (f0:=f0) (f1:=f1) rfl Ec q3d (by kernel_rfl);have h:usB someP [[],[]]=sU:=q3q (by kernel_rfl);have i:niB someP sD sU sO=[[],[]]:=q1c (f0:=f0) (f1:=f1) rfl q2f q6s (by kernel_rfl);refine⟨rfl,rfl,⟨1,?_⟩,?_,d1.symm,⟨0,rfl⟩,?_,h.symm⟩
 .show sO=otB someP (dfB someP [[],[]]);rw[d0,l]
 .show otB someP (dfB someP sO)=sO;rw[d1,o2]
 .show niB someP sD (usB someP [[],[]]) sO=[[],[]];rw[h,i]
def g0:Pr:=dP.A[0]'(by decide)
def g1:Pr:=dP.A[1]'(by decide)
def q1y(h:QE p=true)(k:Int):(allR p).length<=1000/\(Kc p k).length<=1000000:=by
 have i:=(WS (QF h).1).len;refine⟨by omega,?_⟩;unfold Kc;rw[x0j];have:=x2l (L5 k) (allR p);omega
def J2{m:Int}(h:J1 p m=true):QE p=true:=by
 unfold J1 at h;rw[x1z]at h;exact h.1
def KM(h:QE p=true)(hk:p.A[k]?=some f):VI p f.name=(k:Nat)/\Qu p f.name=(QG p).P.getD k []/\L2 p f.name=(QG p).ins.getD k []:=by
 have hm:f.name∈procsN p:=x0n.2 ⟨f,x0i hk,rfl⟩;obtain⟨m,i,l,_,q,o⟩:=Fj hm;obtain⟨rfl,_⟩:=Fe h (x0u i) hk o;have e:VI p f.name=(m:Nat):=l;refine⟨e,?_,?_⟩
 .unfold Qu;rw[if_pos ⟨h,by omega⟩,e];rfl
 .unfold L2;rw[if_pos ⟨h,by omega⟩,e];rfl
theorem q5b:∀l:List Arg,(l.flatMap usA).length<=Zu l
 |[]=>by simp[Zu]
 | x::r=>by
   have h:=q5b r;have i:=Vx x.x;rw[x1o,x0g];have m:(usA x).length<=1+(XT x.x).length:=by
    unfold usA;rw[x0g];split<;>simp
   simp only[Zu];omega
def q5p(m:Fit p)(hc:QE p=true)(h:OkI p I)(hk:k<(sheetOf p).l.length):(MY (bkI p I) (sheetOf p).l[k].s).length<=30000:=by
 have i:=Gs m hk;generalize(sheetOf p).l[k].s=t at*
 have o:=Vx t.x;have q:=q5b t.args;have r:(inAt (bkI p I) t).length<=25:=h.len25 hc (caI (bkI p I).s.p t).toNat;have u:wX t.x+Zu t.args<=20000:=by
  cases t;simp only[wS,S.x,S.args]at i⊢;omega
 have v:(Td t).length<=(XT t.x).length+1:=by
  unfold Td;rw[x0g];split<;>simp
 unfold MY;split
 .simp only[x0g];omega
 .omega
def Vq{n:Str}(h:isName n=true):n.length<=8:=by
 unfold isName at h;split at h
 .rename_i i;exact i.2
 .cases h
def q3a(hc:QE p=true){n:Str}(h:comB p n=true):n.length<=8:=by
 unfold comB at h;rw[x3i]at h;rcases h with h|h
 .rw [show n=GP by simpa using h];decide
 .obtain ⟨s,l,i⟩:=x2e.1 h;rw[show n=s by simpa using i];exact Vq (Pd hc l)
def q6j{O:List (List Str)}(hc:QE p=true)(o:f∈p.A){t:S}(q:t∈flL f.body){n:Str}(h:n∈MF (bkO p O) t):n.length<=8:=by
 have i:t.kind≠10->t.name.length<=8:=fun l=>by
  by_cases m:t.name=[]
  .rw [m];simp
  .refine Vq (Nf hc o q ?_);unfold ZP DH;have:(decide (t.kind≠10) && !(t.name==[]))=true:=by simp[l,m]
   rw[this];simp
 unfold MF at h;split at h
 .rw [x0b.1 h];exact i (by omega)
 split at h
 .rcases x0p.1 h with rfl|h
  .exact i (by omega)
  .rw [x0b.1 h];decide
 split at h
 .rw [x0b.1 h];decide
 split at h
 .unfold q0d at h;rcases x0r.1 h with h|h
  .rcases x0r.1 h with h|h
   .split at h
    .cases h
    .rw [x0b.1 h];exact i (by omega)
   .obtain ⟨x,s,r,rfl⟩:=D2.1 h;refine Vq (Nf hc o q ?_);have hm:x.1∈t.args:=(List.of_mem_zip (x6c s)).1;unfold ZP;refine x2r _ (x1p.2 ⟨x.1,hm,?_⟩);unfold KX;rw[r.1];simp
  .exact q3a hc (x1s.1 h).2
 .cases h
noncomputable def ZT(p:Pg)(i:Nat)(f:Pr)(a:Nat):List Str:=Mi p i f (QG p).G ((QG p).ins.getD i []) a
noncomputable def M7(p:Pg)(i:Nat)(f:Pr)(a:Nat):List Str:=Ea p i f (QG p).N ((QG p).P.getD i []) a
def q6b(hc:QE p=true){i:Nat}(w:p.A[i]?=some f)(a:Nat){n:Str}(h:n∈ZT p i f a):n.length<=8:=by
 have u:=ZC hc;have o:=x0i w;unfold ZT Mi at h;split at h
 .rw [XH]at h;rcases x0r.1 h with h|h
  .exact q3a hc ((GS hc).2.sub i n h)
  .refine Vq (Fc hc o (x2x _ h))
 split at h
 .cases h
 cases m:(QQ p i f).live.getD a false with
 |false=>rw[m]at h;cases h
 | true=>
   rw[m,x1u,u.G]at h;rw[x0y]at h;unfold dfB at h;rw[x0d]at h;cases q:(sheetOf p).l[QR p.A i+a-1]?with
   |none=>rw[q]at h;cases h
   | some t=>
     rw[q]at h;have h:n∈WA (MF (bkO p (QG p).P) t.s):=h;rw[XH]at h;have r:t.s∈YQ p:=by rw[<-YJ];exact x4q (x0i q)
     obtain⟨g,v,r⟩:=x1p.1 r;exact q6j hc v r h
def Mr(hf:Fit p)(hc:QE p=true){i:Nat}(o:p.A[i]?=some f):
  FlB (QG p) i (QQ p i f) (QW f.body+2) (PQ (QQ p i f) f) (UA (QQ p i f) f) (ZT p i f) (M7 p i f) (fun c=>QH p i (QW f.body+2:Nat) c):=by
 have z:=ZC hc;obtain⟨w,v⟩:=GS hc;have hT:=q3v hc o;have b:i<p.A.length:=(x0m.1 o).1;have g:(QG p).ways[i]?=some (QQ p i f):=by rw[z.ways,Ds b,JF o]
 have hI:(QG p).ins[i]?=some ((QG p).ins.getD i []):=by rw[x0y,x0u (by rw[v.len];exact b)];rfl
 have hO:(QG p).P[i]?=some ((QG p).P.getD i []):=by rw[x0y,x0u (by rw[w.len];exact b)];rfl
 have J:(QG p).G.length=(sheetOf p).l.length:=by rw[z.G];exact F9 p _
 have K:(QG p).N.length=(sheetOf p).l.length:=by rw[z.N];exact x0j _
 have e:=v.len25 hc i;have hO25:=w.len25 hc i;have Y:f.B.length<=8:=((WS (QF hc).1).pr f (x0i o)).1;have C:∀d∈(QG p).G,d.Pairwise ltT/\d.length<=34:=fun d m=>by
  rw[z.G]at m;obtain⟨it,U,rfl⟩:=x0n.1 m;have ht:it.s∈YQ p:=by rw[<-YJ];exact x4q U
  exact⟨ZJ _,x1t (UI _) (LM hc w ht)⟩
 have H:∀d∈(QG p).N,d.Pairwise ltT/\d.length<=30000:=fun d m=>by
  rw[z.N]at m;obtain⟨it,U,rfl⟩:=x0n.1 m;obtain⟨k,hk,rfl⟩:=x2m.1 U;exact⟨ZJ _,x1t (UI _) (q5p hf hc v hk)⟩
 have hcn:=XP hc;have hcb:=BQ _ _ (x0i o);have t:∀a,(ZT p i f a).length<=34:=fun a=>Rr (fun d m=>(C d m).2) e Y a;have T:∀a,(ZT p i f a).Pairwise ltT:=fun a=>Pf (fun d m=>(C d m).1) a;have D:∀a,(ZT p i f a).Nodup:=fun a=>VH (T a);have u:∀y:Str,y∈(mapG (prsG (ZT p i f) (QW f.body+2))).map Prod.fst->y.length<=8:=fun y Z=>by
  obtain⟨a,M⟩:=Im _ Z;exact q6b hc o a (Av M).2
 have hdl:=He hc o;refine⟨g,hT.hn,rfl,Wu _ f _ hT,YR _ f hT.hj hT.hc (by have:=hT.hn;have:=hT.hw;omega) _ (by omega),?_,?_,?_,?_,?_,?_,?_,?_,?_⟩
 .exact Ul (QG p) p i f _ hT.hn g rfl (ZT p i f) (fun a M=>Ub (QG p) p z.s hc i f o g _ hI (by omega) J a M) fun a=>by have:=t a;omega
 .exact fun c h=>Un (QG p) p z.s hc i f o g _ hO (by omega) K c h
 .exact fun at_ h1 h2=>(Um (QG p) i _ g _ hT.hn rfl (UA (QQ p i f) f) (by show(List.map _ _).length<=_;rw[x0j];omega) (HY hc o) at_ h1 h2).mono fun r hr=>hr.eq
 .exact fun c h=>WG _ f hT.hj hT.hc (by have:=hT.hn;have:=hT.hw;omega) c (by have:=hT.hn;omega)
 .intro c;refine⟨AS (fun d m=>(H d m).1) c,?_⟩;unfold M7 Ea;split
  .refine x1t (UI _) ?_;rw[x0g,x1h];omega
  split
  .simp
  cases(QQ p i f).live.getD c false with
  |false=>simp
  |true=>exact x1t (Q0 (Q:=fun l=>l.length<=30000) (by simp) (fun d m=>(H d m).2) _) (by decide)
 .intro s q;obtain⟨nm,V,q⟩:=x1p.1 q;have h8:=u nm V;unfold outN at q;obtain⟨c,R,q⟩:=x1p.1 q;obtain⟨x,_,q⟩:=x1p.1 q;split at q
  .rw [x0b.1 q];have hle:QR p.A i<=1000:=x1t (A1 _ _) (by omega);have E:∀c:Nat,c<QW f.body+2->QH p i (QW f.body+2:Nat) c≠9223372036854775807:=fun c h=>by
    unfold QH loI;split
    .decide
    split
    .decide
    .omega
   refine⟨E _ ?_,E _ (x1a.1 R),by show nm.length<=maxLen;unfold maxLen;omega⟩;rw[x0y];cases hq:(atN (ZT p i f) (QW f.body+2) nm)[x.toNat]?with
   |none=>show 0<_;omega
   |some a=>exact K7 (x0i hq)
  .cases q
 .exact Cg (by omega) t D
 .intro nm;rw[Be D];exact x1t (x2l _ _) (by rw[x3j];exact hT.hn)
 .exact fun y Z=>by have:=u y Z;unfold maxLen;omega
noncomputable def XD(p:Pg)(i:Nat)(f:Pr):List Fl:=VD (((mapG (prsG (ZT p i f) (QW f.body+2))).map Prod.fst).flatMap (outN (ZT p i f) (M7 p i f) (fun c=>QH p i (QW f.body+2:Nat) c) (QW f.body+2) (UA (QQ p i f) f)))
noncomputable def UY(p:Pg)(n:Str):List Fl:=if QE p=true/\0<=VI p n then XD p (VI p n).toNat (prA p (VI p n).toNat)else []
def Xd(h:Fit p)(hc:QE p=true){i:Nat}(l:p.A[i]?=some f):(XD p i f).length<=1000000000:=by
 unfold XD;rw[Z8];exact(Mr h hc l).cnt
def K9(h:Fit p)(hc:QE p=true){i:Nat}(l:p.A[i]?=some f):SpecP prog 57 [.ip (QG p).cells,.int .i64 i] (fun r=>r=.sl ((XD p i f).map NN)):=Ud _ i _ _ _ _ _ _ _ (Mr h hc l)
def D1(p:Pg)(z:Fit p)(n:Str):SpecP prog 18 [.agg p.cells,.str n] (fun r=>r=.sl ((UY p n).map NN)):=by
 refine sB Tc func18 rfl call18 ?_;conv=>whnf
 have g:=GO p z;cases hc:QE p with
 | false=>
   have e:UY p n=[]:=by unfold UY;rw[if_neg (by rw[hc];simp)]
   rw[e];have l:=g.mono (R':=fun r=>r=.nilp) fun r c=>c.2 hc;repeat' (first|((first|(refine iM fun _=>?_)|refine dA ?_|refine x0h rfl ?_|refine aD ?_|refine aR ?_|refine bP ?_|(refine iA fun _=>?_)|refine IdxK.xs (by omega) ?_|refine QX (by omega) ?_|(refine ByteK.at (by omega) ?_)|refine wI ?_|refine cP l ?_);conv=>whnf)|(apply bD<;>intro _<;>first|omega|conv=>whnf)|(apply bE<;>intro _<;>first|omega|conv=>whnf)|(apply bN<;>intro _<;>conv=>whnf)|(apply bB<;>intro _<;>conv=>whnf))
   all_goals first
    |contradiction
    |exact⟨_,.p Sub.nils,rfl⟩
 | true=>
   have l:=g.mono (R':=fun r=>r=.ip (QG p).cells) fun r c=>c.1 hc;have B:=ZC hc;have E:(QG p).s.p=p:=by rw[B.s];exact(QJ p).1
   have u:=XZ (QG p).s n;rw[E]at u;have o:SpecP prog 51 [.ip (QG p).s.cells,.str n] (fun r=>r=.int .i64 (VI p n)):=u;have e:UY p n=if 0<=VI p n then XD p (VI p n).toNat (prA p (VI p n).toNat)else []:=by
    unfold UY;by_cases m:0<=VI p n
    .rw [if_pos ⟨hc,m⟩,if_pos m]
    .rw [if_neg (fun h=>m h.2),if_neg m]
   rw[e];by_cases m:0<=VI p n
   .rw [if_pos m];have hlt:=Ym m;have t:=K9 z hc (Yn hlt);have A:=Xd z hc (Yn hlt);have D:(((VI p n).toNat:Nat):Int)=VI p n:=by omega
    rw[D]at t;generalize XD p (VI p n).toNat (prA p (VI p n).toNat)=L at*
    generalize VI p n=i at*
    generalize QG p=b at*
    repeat' (first|((first|(refine iM fun _=>?_)|refine dA ?_|refine x0h rfl ?_|refine aD ?_|refine aR ?_|refine bP ?_|(refine iA fun _=>?_)|refine IdxK.xs (by omega) ?_|refine QX (by omega) ?_|(refine ByteK.at (by omega) ?_)|refine wI ?_|refine cP l ?_|refine cP o ?_|refine cP t ?_);conv=>whnf)|(apply bD<;>intro _<;>first|omega|conv=>whnf)|(apply bE<;>intro _<;>first|omega|conv=>whnf)|(apply bN<;>intro _<;>conv=>whnf)|(apply bB<;>intro _<;>conv=>whnf)|(refine x0h ?_ ?_<;>conv=>whnf))
    all_goals try (exfalso;omega)
    have v:(L.map NN).length=L.length:=x0j _;refine LoopK.inv QK (fun j:Nat=>⟨[(6,.hd 0 0 (L.take j).length),(29,.p (.sl (L.map NN))),(30,.p (.int .i64 (L.map NN).length)),(31,.p (.int .i64 j))],[(0,.own 40 3 ((L.take j).map NN))]⟩) (fun j=>j<=L.length) (fun j=>L.length-j) 0
     (Le.mk [(0,.own 40 3 [])] (by simp[Chunk.new0];rfl) (by simp) (by simp) (.cons (.nil x0k) (.r (.r (.r .nil)))) (.new x0k .nil)) (x0l _) ?_
    intro j J;rcases x0t j L.length with q|q
    .have d:=x0a q;have H:(L.map NN)[j]?=some (.agg L[j].cells):=by rw[x0d,x0u q];rfl
     have C:(L.take j).length<=1000000000:=by rw[x1f];omega
     generalize L.take j=acc at*
     have w:(acc.map NN).length=acc.length:=x0j _;conv=>whnf
     repeat' (first|((first|(refine iM fun _=>?_)|refine dA ?_|refine x0h rfl ?_|refine aD ?_|refine aR ?_|refine bP ?_|(refine iA fun _=>?_)|refine IdxK.xs (by omega) ?_|refine QX (by omega) ?_|(refine ByteK.at (by omega) ?_)|refine wI ?_|refine x4n w.symm rfl (by show(acc.length+1)*32<=140737488355328;omega) (by show acc.length+1<=9223372036854775807;omega) (fun x G=>by rcases x0b.1 G with rfl;exact⟨rfl,rfl⟩) ?_);conv=>whnf)|(apply bD<;>intro _<;>first|omega|conv=>whnf)|(apply bE<;>intro _<;>first|omega|conv=>whnf)|(apply bN<;>intro _<;>conv=>whnf)|(apply bB<;>intro _<;>conv=>whnf))
     all_goals first
      |exact⟨j+1,q,by omega,Le.of_eq (by rw[d,x0g,x0c];rfl)⟩
    .rw [x1w q];conv=>whnf
     repeat' (first|((first|(refine iM fun _=>?_)|refine dA ?_|refine x0h rfl ?_|refine aD ?_|refine aR ?_|refine bP ?_|(refine iA fun _=>?_)|refine IdxK.xs (by omega) ?_|refine QX (by omega) ?_|(refine ByteK.at (by omega) ?_)|refine wI ?_);conv=>whnf)|(apply bD<;>intro _<;>first|omega|conv=>whnf)|(apply bE<;>intro _<;>first|omega|conv=>whnf)|(apply bN<;>intro _<;>conv=>whnf)|(apply bB<;>intro _<;>conv=>whnf))
     all_goals first
      |exact⟨_,.hd rfl v.symm,rfl⟩
   .rw [if_neg m];generalize VI p n=i at*
    generalize QG p=b at*
    repeat' (first|((first|(refine iM fun _=>?_)|refine dA ?_|refine x0h rfl ?_|refine aD ?_|refine aR ?_|refine bP ?_|(refine iA fun _=>?_)|refine IdxK.xs (by omega) ?_|refine QX (by omega) ?_|(refine ByteK.at (by omega) ?_)|refine wI ?_|refine cP l ?_|refine cP o ?_);conv=>whnf)|(apply bD<;>intro _<;>first|omega|conv=>whnf)|(apply bE<;>intro _<;>first|omega|conv=>whnf)|(apply bN<;>intro _<;>conv=>whnf)|(apply bB<;>intro _<;>conv=>whnf)|(refine x0h ?_ ?_<;>conv=>whnf))
    all_goals first
     |contradiction
     |exact⟨_,.p Sub.nils,rfl⟩
def Uf(b:Book)(i:Nat)(w:Way)(n:Nat)(L:List Step)(steps:List (Int×Int))(G T:Nat->List Str)(o:Nat->Int)(F:FlB b i w n L steps G T o):SpecP prog 52 [.ip b.cells,.int .i64 i] (fun r=>r=.tup [.int .i64 n,.int .i64 (prsG G n).length]):=by
 refine sB X4 func52 rfl call52 ?_;conv=>whnf
 have l:(b.ways.map fun w=>AV.ip w.cells)[i]?=some (.ip w.cells):=by rw[x0d,F.hW];rfl
 have h:=F.giv;have m:=F.hwn;repeat' (first|((first|(refine iM fun _=>?_)|refine dA ?_|refine x0h rfl ?_|refine aD ?_|refine aR ?_|refine bP ?_|(refine iA fun _=>?_)|refine IdxK.xs (by omega) ?_|refine QX (by omega) ?_|(refine ByteK.at (by omega) ?_)|refine wI ?_|(refine IdxK.at (k:=i) rfl l rfl ?_));conv=>whnf)|(apply bD<;>intro _<;>first|omega|conv=>whnf)|(apply bE<;>intro _<;>first|omega|conv=>whnf)|(apply bN<;>intro _<;>conv=>whnf)|(apply bB<;>intro _<;>conv=>whnf)|(refine CallK.heap [] 0 (by repeat' (first|exact x1m|refine x1x ?_ ?_|exact x1v _|exact x1d Sub.nils|exact x1d (Sub.tt rfl)|exact x1d (Sub.ff rfl)|exact x1d (Sub.int (by omega)))) x1l h rfl rfl ?_;rintro l' H' ⟨rfl,rfl⟩;conv=>whnf))
 all_goals first
  |exact⟨_,.p (Sub.tup (.cons (Sub.int m) (.cons (Sub.refl _) .nil))),rfl⟩
noncomputable def JA(p:Pg)(n:Str):Int×Int:=if QE p=true/\0<=VI p n then((QW (prA p (VI p n).toNat).body+2:Nat),((prsG (ZT p (VI p n).toNat (prA p (VI p n).toNat)) (QW (prA p (VI p n).toNat).body+2)).length:Nat))else(0,0)
def Yt(p:Pg)(x:Fit p)(n:Str):SpecP prog 15 [.agg p.cells,.str n] (fun r=>r=.tup [.int .i64 (JA p n).1,.int .i64 (JA p n).2]):=by
 refine sB Hy func15 rfl call15 ?_;conv=>whnf
 have w:=GO p x;cases hc:QE p with
 | false=>
   have e:JA p n=(0,0):=by unfold JA;rw[if_neg (by rw[hc];simp)]
   rw[e];have l:=w.mono (R':=fun r=>r=.nilp) fun r v=>v.2 hc;repeat' (first|((first|(refine iM fun _=>?_)|refine dA ?_|refine x0h rfl ?_|refine aD ?_|refine aR ?_|refine bP ?_|(refine iA fun _=>?_)|refine IdxK.xs (by omega) ?_|refine QX (by omega) ?_|(refine ByteK.at (by omega) ?_)|refine wI ?_|refine cP l ?_);conv=>whnf)|(apply bD<;>intro _<;>first|omega|conv=>whnf)|(apply bE<;>intro _<;>first|omega|conv=>whnf)|(apply bN<;>intro _<;>conv=>whnf)|(apply bB<;>intro _<;>conv=>whnf))
   all_goals first
    |contradiction
    |exact⟨_,.p (Sub.refl _),rfl⟩
 | true=>
   have l:=w.mono (R':=fun r=>r=.ip (QG p).cells) fun r v=>v.1 hc;have z:=ZC hc;have d:(QG p).s.p=p:=by rw[z.s];exact(QJ p).1
   have t:=XZ (QG p).s n;rw[d]at t;have o:SpecP prog 51 [.ip (QG p).s.cells,.str n] (fun r=>r=.int .i64 (VI p n)):=t;by_cases u:0<=VI p n
   .have hlt:=Ym u;have q:=Uf _ _ _ _ _ _ _ _ _ (Mr x hc (Yn hlt));have e:JA p n=(((QW (prA p (VI p n).toNat).body+2:Nat):Int),(((prsG (ZT p (VI p n).toNat (prA p (VI p n).toNat)) (QW (prA p (VI p n).toNat).body+2)).length:Nat):Int)):=by unfold JA;rw[if_pos ⟨hc,u⟩]
    rw[e];have c:(((VI p n).toNat:Nat):Int)=VI p n:=by omega
    rw[c]at q;generalize(prsG (ZT p (VI p n).toNat (prA p (VI p n).toNat)) (QW (prA p (VI p n).toNat).body+2)).length=m at*
    generalize QW (prA p (VI p n).toNat).body+2=m2 at*
    generalize VI p n=i at*
    generalize QG p=b at*
    repeat' (first|((first|(refine iM fun _=>?_)|refine dA ?_|refine x0h rfl ?_|refine aD ?_|refine aR ?_|refine bP ?_|(refine iA fun _=>?_)|refine IdxK.xs (by omega) ?_|refine QX (by omega) ?_|(refine ByteK.at (by omega) ?_)|refine wI ?_|refine cP l ?_|refine cP o ?_|refine cP q ?_);conv=>whnf)|(apply bD<;>intro _<;>first|omega|conv=>whnf)|(apply bE<;>intro _<;>first|omega|conv=>whnf)|(apply bN<;>intro _<;>conv=>whnf)|(apply bB<;>intro _<;>conv=>whnf)|(refine x0h ?_ ?_<;>conv=>whnf))
    all_goals first
     |contradiction
     |(exfalso;omega)
     |exact⟨_,.p (Sub.refl _),rfl⟩
   .have e:JA p n=(0,0):=by unfold JA;rw[if_neg (fun h=>u h.2)]
    rw[e];generalize VI p n=i at*
    generalize QG p=b at*
    repeat' (first|((first|(refine iM fun _=>?_)|refine dA ?_|refine x0h rfl ?_|refine aD ?_|refine aR ?_|refine bP ?_|(refine iA fun _=>?_)|refine IdxK.xs (by omega) ?_|refine QX (by omega) ?_|(refine ByteK.at (by omega) ?_)|refine wI ?_|refine cP l ?_|refine cP o ?_);conv=>whnf)|(apply bD<;>intro _<;>first|omega|conv=>whnf)|(apply bE<;>intro _<;>first|omega|conv=>whnf)|(apply bN<;>intro _<;>conv=>whnf)|(apply bB<;>intro _<;>conv=>whnf)|(refine x0h ?_ ?_<;>conv=>whnf))
    all_goals first
     |contradiction
     |exact⟨_,.p (Sub.refl _),rfl⟩
def NR(id:Int)(nm:Str)(l:List Fl):List Int:=(l.filter fun s=>decide (s.dst=id)&&(s.var==nm)).map Fl.src
noncomputable def PZ(p:Pg)(id:Int)(nm:Str):List Int:=if QE p=true/\1<=id/\id<=(sheetOf p).l.length then NR id nm (UY p (YN p id).2.1)else []
def TN(id:Int)(nm:Str){l:List Fl}{j:Nat}(h:j<l.length):NR id nm (l.take (j+1))=NR id nm (l.take j)++if l[j].dst=id/\l[j].var=nm then [l[j].src]else []:=by
 unfold NR;rw[x0a h,x3k,x0c];congr 1;by_cases i:l[j].dst=id<;>by_cases m:l[j].var=nm<;>simp[i,m]
def Pu(id:Int)(nm:Str)(l:List Fl):(NR id nm l).length<=l.length:=by
 unfold NR;rw[x0j];exact x2l _ _
def LI(hc:QE p=true)(hk:p.A[k]?=some f)(h:Qo p nm=some (QQ p k f)):UY p nm=XD p k f:=by
 have l:VI p nm=k:=by
  unfold Qo at h;rw[hc,x1u]at h;cases i:p.A.find? fun f=>f.name==nm with
  |none=>rw[i]at h;cases h
  | some g=>
    rw[i]at h;have m:some (p.A.findIdx fun f=>f.name==nm)=some k:=x2o (Option.map Way.j) h;have o:(p.A.any fun f=>f.name==nm)=true:=x2e.2 ⟨g,x3l i,x4o (p:=fun f:Pr=>f.name==nm) i⟩;unfold VI Xr;rw[o,x1u,x3h m]
 unfold UY;rw[l,if_pos ⟨hc,by omega⟩,x2s,JF hk]
def Gh(p:Pg)(c:Fit p)(id:Int)(nm:Str):SpecP prog 32 [.agg p.cells,.int .i64 id,.str nm] (fun r=>r=QI (PZ p id nm)):=by
 refine sB Bz func32 rfl call32 ?_;conv=>whnf
 have G:=GO p c;cases hc:QE p with
 | false=>
   have e:PZ p id nm=[]:=by unfold PZ;rw[if_neg (by rw[hc];simp)]
   rw[e];have o:=G.mono (R':=fun r=>r=.nilp) fun r B=>B.2 hc;repeat' (first|((first|(refine iM fun _=>?_)|refine dA ?_|refine x0h rfl ?_|refine aD ?_|refine aR ?_|refine bP ?_|(refine iA fun _=>?_)|refine IdxK.xs (by omega) ?_|refine QX (by omega) ?_|(refine ByteK.at (by omega) ?_)|refine wI ?_|refine cP o ?_);conv=>whnf)|(apply bD<;>intro _<;>first|omega|conv=>whnf)|(apply bE<;>intro _<;>first|omega|conv=>whnf)|(apply bN<;>intro _<;>conv=>whnf)|(apply bB<;>intro _<;>conv=>whnf))
   all_goals first
    |contradiction
    |exact⟨_,.p Sub.nils,rfl⟩
 | true=>
   have o:=G.mono (R':=fun r=>r=.ip (QG p).cells) fun r B=>B.1 hc;have z:=ZC hc;have q:=KB (QG p).s id;have R:=(QJ p).2.2.2.1;have P:=XP hc;by_cases t:1<=id/\id<=(sheetOf p).l.length
   .obtain ⟨k,f,E,hk,H,g,T,D⟩:=Cz hc t.1 t.2;have v:=q6m hc hk H;rw[g]at v;have A:E.C=k:=BK _ _ _ _ _ _ E H;have x:=K9 c hc hk;have K:=Xd c hc hk;have d:UY p (YN p id).2.1=XD p k f:=LI hc hk T;have e:PZ p id nm=NR id nm (XD p k f):=by unfold PZ;rw[if_pos ⟨hc,t⟩,d]
    rw[e];have Q:((QG p).s.l.map fun i=>AV.agg i.cells)[(id-1).toNat]?=some (.agg E.cells):=by rw[z.s,x0d,v];rfl
    have u:(decide (1<=id)&&decide (id<=((QG p).s.l.length:Int)))=true:=by rw[z.s];simp[t.1,t.2]
    rw[u]at q;generalize XD p k f=L at*
    generalize QG p=b at*
    repeat' (first|((first|(refine iM fun _=>?_)|refine dA ?_|refine x0h rfl ?_|refine aD ?_|refine aR ?_|refine bP ?_|(refine iA fun _=>?_)|refine IdxK.xs (by omega) ?_|refine QX (by omega) ?_|(refine ByteK.at (by omega) ?_)|refine wI ?_|refine cP o ?_|refine cP q ?_|(refine IdxK.at (k:=(id-1).toNat) (by omega) Q rfl ?_)|(refine CallK.pure x (.cons (Sub.refl _) (.cons (Sub.int A) .nil)) ?_;rintro _ rfl));conv=>whnf)|(apply bD<;>intro _<;>first|omega|conv=>whnf)|(apply bE<;>intro _<;>first|omega|conv=>whnf)|(apply bN<;>intro _<;>conv=>whnf)|(apply bB<;>intro _<;>conv=>whnf)|(refine x0h ?_ ?_<;>conv=>whnf))
    all_goals try contradiction
    all_goals try (exfalso;omega)
    have M:(L.map NN).length=L.length:=x0j _;refine LoopK.inv QK (fun j:Nat=>⟨[(1,.p (.int .i64 id)),(2,.p (.str nm)),(8,.hd 0 0 (NR id nm (L.take j)).length),(37,.p (.sl (L.map NN))),(38,.p (.int .i64 (L.map NN).length)),(39,.p (.int .i64 j))],[(0,.own 3 1 ((NR id nm (L.take j)).map (.int .i64)))]⟩) (fun j=>j<=L.length) (fun j=>L.length-j) 0
     (Le.mk [(0,.own 3 1 [])] (by simp[Chunk.new0];rfl) (by simp) (by simp) (.r (.r (.cons (.nil x0k) (.r (.r (.r .nil)))))) (.new x0k .nil)) (x0l _) ?_
    intro j Z;have N:(NR id nm (L.take j)).length<=1000000000:=x1t (Pu _ _ _) (by rw[x1f];omega);rcases x0t j L.length with m|m
    .have w:=TN id nm m;have U:(L.map NN)[j]?=some (.agg L[j].cells):=by rw[x0d,x0u m];rfl
     generalize NR id nm (L.take j)=acc at*
     conv=>whnf
     repeat' (first|((first|(refine iM fun _=>?_)|refine dA ?_|refine x0h rfl ?_|refine aD ?_|refine aR ?_|refine bP ?_|(refine iA fun _=>?_)|refine IdxK.xs (by omega) ?_|refine QX (by omega) ?_|(refine ByteK.at (by omega) ?_)|refine wI ?_|refine XU (by simp) (by rw[x0j];omega) ?_);conv=>whnf)|(apply bD<;>intro _<;>first|omega|conv=>whnf)|(apply bE<;>intro _<;>first|omega|conv=>whnf)|(apply bN<;>intro _<;>conv=>whnf)|(apply bB<;>intro _<;>conv=>whnf))
     all_goals first
      |exact⟨j+1,m,by omega,Le.of_eq (by rw[w,if_pos ⟨by assumption,by simpa using(show(L[j].var==nm)=true by assumption)⟩];simp only[x0g,x0c];rfl)⟩
      |exact⟨j+1,m,by omega,Le.of_eq (by rw[w,if_neg (by rintro⟨V,Y⟩;simp_all),x2v];rfl)⟩
    .rw [x1w m];conv=>whnf
     repeat' (first|((first|(refine iM fun _=>?_)|refine dA ?_|refine x0h rfl ?_|refine aD ?_|refine aR ?_|refine bP ?_|(refine iA fun _=>?_)|refine IdxK.xs (by omega) ?_|refine QX (by omega) ?_|(refine ByteK.at (by omega) ?_)|refine wI ?_);conv=>whnf)|(apply bD<;>intro _<;>first|omega|conv=>whnf)|(apply bE<;>intro _<;>first|omega|conv=>whnf)|(apply bN<;>intro _<;>conv=>whnf)|(apply bB<;>intro _<;>conv=>whnf))
     all_goals first
      |exact⟨_,.hd rfl (by simp),rfl⟩
   .have e:PZ p id nm=[]:=by unfold PZ;rw[if_neg (fun h=>t h.2)]
    rw[e];have u:(decide (1<=id)&&decide (id<=((QG p).s.l.length:Int)))=false:=by
     rw[z.s];by_cases m:1<=id
     .have:¬id<=((sheetOf p).l.length:Int):=fun J=>t ⟨m,J⟩;simp[this]
     .simp [m]
    rw[u]at q;generalize QG p=b at*
    repeat' (first|((first|(refine iM fun _=>?_)|refine dA ?_|refine x0h rfl ?_|refine aD ?_|refine aR ?_|refine bP ?_|(refine iA fun _=>?_)|refine IdxK.xs (by omega) ?_|refine QX (by omega) ?_|(refine ByteK.at (by omega) ?_)|refine wI ?_|refine cP o ?_|refine cP q ?_);conv=>whnf)|(apply bD<;>intro _<;>first|omega|conv=>whnf)|(apply bE<;>intro _<;>first|omega|conv=>whnf)|(apply bN<;>intro _<;>conv=>whnf)|(apply bB<;>intro _<;>conv=>whnf)|(refine x0h ?_ ?_<;>conv=>whnf))
    all_goals first
     |contradiction
     |exact⟨_,.p Sub.nils,rfl⟩
theorem Z4{G i:Nat->List Str}:∀{n:Nat},(∀a,a<n->G a=i a)->prsG G n=prsG i n
 |0,_=>rfl
 |n+1,h=>by rw[DB,DB,h n (x6e n),Z4 fun a l=>h a (Nat.lt_succ_of_lt l)]
def sG0:List (List Str):=[[],[vS],[M3,vS],[],[],[]]
def sG1:List (List Str):=[[xS,yS],[yS],[],[],[retS],[]]
def AK:∀a,a<6->ZT someP 0 f0 a=sG0.getD a []:=fun a i=>by
 unfold ZT;rw[<-some_book.eq];unfold Mi
 match a,i with
 |0,_=>exact Fk (by kernel_rfl)
 |1,_=>rw[if_neg (by decide),if_neg (by decide),Ec];rfl
 |2,_=>rw[if_neg (by decide),if_neg (by decide),Ec];rfl
 |3,_=>rw[if_neg (by decide),if_neg (by decide),Ec];rfl
 |4,_=>rw[if_neg (by decide),if_neg (by decide),Ec];rfl
 |5,_=>rfl
 |a+6,h=>omega
def AG:∀a,a<6->ZT someP 1 f1 a=sG1.getD a []:=fun a i=>by
 unfold ZT;rw[<-some_book.eq];unfold Mi
 match a,i with
 |0,_=>exact Fk (by kernel_rfl)
 |1,_=>rw[if_neg (by decide),if_neg (by decide),q3d];rfl
 |2,_=>rw[if_neg (by decide),if_neg (by decide),q3d];rfl
 |3,_=>rw[if_neg (by decide),if_neg (by decide),q3d];rfl
 |4,_=>rw[if_neg (by decide),if_neg (by decide),q3d];rfl
 |5,_=>rfl
 |a+6,h=>omega
def Sm:JA someP [112]=(6,4):=by
 have e:VI someP [112]=1:=by kernel_rfl
 have e2:prA someP 1=f1:=rfl;unfold JA;rw[e,if_pos ⟨Du,by decide⟩];show(((QW (prA someP 1).body+2:Nat):Int),(((prsG (ZT someP 1 (prA someP 1)) (QW (prA someP 1).body+2)).length:Nat):Int))=(6,4);rw[e2,show QW f1.body+2=6 by kernel_rfl,Z4 AG]
 kernel_rfl
def q5u(nx:List (List Int))(gen kill:List (List Wd))(f:Nat)(X:List Int):List Int:=X++(List.range nx.length).flatMap fun a=>bif bitW (gen.getD a []) f||(X.contains (a:Int) && !bitW (kill.getD a []) f)then nx.getD a []else []
def TC(nx:List (List Int))(gen kill:List (List Wd))(f:Nat):Nat->List Int
 |0=>[]
 |k+1=>q5u nx gen kill f (TC nx gen kill f k)
def C0(nx:List (List Int))(gen kill:List (List Wd))(f:Nat)(X:List Int):Bool:=(List.range nx.length).all fun a=> !(bitW (gen.getD a []) f||(X.contains (a:Int) && !bitW (kill.getD a []) f))||(nx.getD a []).all fun b=>X.contains b
theorem NE{nx:List (List Int)}{gen kill:List (List Wd)}{f:Nat}:∀(k:Nat){c:Int},c∈TC nx gen kill f k->SolP nx gen kill f c
 |0,c,h=>by cases h
 | k+1,c,h=>by
   rw[TC,q5u]at h;rcases x0r.1 h with h|h
   .exact NE k h
   .obtain ⟨a,o,hc⟩:=x1p.1 h;cases i:bitW (gen.getD a []) f||((TC nx gen kill f k).contains (a:Int) && !bitW (kill.getD a []) f)with
    |false=>rw[i]at hc;cases hc
    | true=>
      rw[i,x1u]at hc;rw[x3i,x1z,x3f]at i;rcases i with i|⟨l,m⟩
      .exact .gen (a:=(a:Int)) (x5l _) (by rw[x2s];exact i) (by rw[x2s];exact hc)
      .exact .go (a:=(a:Int)) (x5l _) (NE k (by simpa using l)) (by rw[x2s];exact m) (by rw[x2s];exact hc)
def TA{nx:List (List Int)}{gen kill:List (List Wd)}{f:Nat}{X:List Int}(s:C0 nx gen kill f X=true){c:Int}(h:SolP nx gen kill f c):c∈X:=by
 have key:∀{a b:Int},0<=a->b∈nx.getD a.toNat []->(bitW (gen.getD a.toNat []) f||(X.contains a && !bitW (kill.getD a.toNat []) f))=true->b∈X:=fun {a b} l i t=>by
  have hlt:a.toNat<nx.length:=by
   rw[x0y]at i;cases o:nx[a.toNat]?with
   |none=>rw[o]at i;cases i
   |some r=>exact(x0m.1 o).1
  have m:=x2w.1 s a.toNat (x1a.2 hlt);rw[show((a.toNat:Nat):Int)=a by omega,t]at m;have q:=x2w.1 (by simpa using m:((nx.getD a.toNat []).all fun b=>X.contains b)=true) b i;simpa using q
 induction h with
 |gen l h i=>exact key l i (by rw[h];rfl)
 |go l _ hk i u=>exact key l i (by rw[hk,show X.contains _=true by simpa using u];simp)
def Rz{n:Nat}{steps:List (Int×Int)}{at_:List Nat}(k:Nat)(i:((List.range at_.length).all fun f=>C0 (QS n steps).1 ((gnC n at_ at_.length).map (HK (at_.length/64+1))) ((klC n at_ at_.length).map (HK (at_.length/64+1))) f (TC (QS n steps).1 ((gnC n at_ at_.length).map (HK (at_.length/64+1))) ((klC n at_ at_.length).map (HK (at_.length/64+1))) f k))=true):
  comC n steps at_=(List.range n).map fun(c:Nat)=>((List.range at_.length).filter fun f=>(TC (QS n steps).1 ((gnC n at_ at_.length).map (HK (at_.length/64+1))) ((klC n at_ at_.length).map (HK (at_.length/64+1))) f k).contains (c:Int)).map Int.ofNat:=by
 unfold comC;refine x7q fun c _=>?_;congr 1;refine List.filter_congr fun f l=>?_;rw[x4b];exact⟨fun h=>by simpa using TA (x2w.1 i f l) (@of_decide_eq_true _ (Classical.propDecidable _) h),fun h=>@x2a _ (Classical.propDecidable _) (NE k (by simpa using h))⟩
def AU:comC 6 (UA (QQ someP 0 f0) f0) [1,2]=[[],[],[0],[1],[1],[1]]:=by
 rw[q2f,Rz 6 (by kernel_rfl)]
 kernel_rfl
def AY:comC 6 (UA (QQ someP 0 f0) f0) [2]=[[],[],[],[0],[0],[0]]:=by
 rw[q2f,Rz 6 (by kernel_rfl)]
 kernel_rfl
def A9(G T:Nat->List Str)(h:Nat->Int)(n:Nat)(steps:List (Int×Int))(nm:Str):outN G T h n steps nm=RR T h n (atN G n nm) (comC n steps (atN G n nm)) nm:=rfl
theorem Z0{T l:Nat->List Str}{i:Nat->Int}{at_:List Nat}{C:List (List Int)}{nm:Str}:∀{n:Nat},(∀c,c<n->T c=l c)->RR T i n at_ C nm=RR l i n at_ C nm
 |0,_=>rfl
 |n+1,h=>by rw[Qv,Qv,h n (x6e n),Z0 fun c hc=>h c (Nat.lt_succ_of_lt hc)]
def sT1:List (List Str):=[[],[],[vS],[vS],[M3],[retS,M3]]
def Nl:∀a,a<6->M7 someP 0 f0 a=sT1.getD a []:=fun a i=>by
 unfold M7;rw[<-some_book.eq];unfold Ea
 match a,i with
 |0,_=>rfl
 |1,_=>rw[if_neg (by decide),if_neg (by decide),Ec];rfl
 |2,_=>rw[if_neg (by decide),if_neg (by decide),Ec];rfl
 |3,_=>rw[if_neg (by decide),if_neg (by decide),Ec];rfl
 |4,_=>rw[if_neg (by decide),if_neg (by decide),Ec];rfl
 |5,_=>exact Fk (by kernel_rfl)
 |a+6,h=>omega
def J5:prsG (ZT someP 0 f0) 6=[(vS,1),(M3,2),(vS,2)]:=by
 rw[Z4 AK]
 kernel_rfl
def AF:outN (ZT someP 0 f0) (M7 someP 0 f0) (fun c=>QH someP 0 (6:Nat) c) 6 (UA (QQ someP 0 f0) f0) vS=[⟨1,2,vS⟩,⟨2,3,vS⟩]:=by
 have e:atN (ZT someP 0 f0) 6 vS=[1,2]:=by unfold atN;rw[J5];kernel_rfl
 rw[A9,e,AU,Z0 Nl];rfl
def AH:outN (ZT someP 0 f0) (M7 someP 0 f0) (fun c=>QH someP 0 (6:Nat) c) 6 (UA (QQ someP 0 f0) f0) M3=[⟨2,4,M3⟩,⟨2,-1,M3⟩]:=by
 have e:atN (ZT someP 0 f0) 6 M3=[2]:=by unfold atN;rw[J5];kernel_rfl
 rw[A9,e,AY,Z0 Nl];rfl
def q2h{l l':List Fl}(m:l.Perm l')(o:l'.Pairwise fun x y=>¬ltF y x)(i:∀s∈l,okFl s):VD l=l':=by
 rw[Nr m i];unfold VD;refine List.mergeSort_of_pairwise (o.imp fun h=>?_);rw[<-FC]at h;simpa using h
def sFl:List Fl:=[⟨1,2,vS⟩,⟨2,3,vS⟩,⟨2,4,M3⟩,⟨2,-1,M3⟩]
def Lm:XD someP 0 f0=sFl:=by
 have l:QW f0.body+2=6:=by kernel_rfl
 unfold XD;rw[l,J5,show(mapG [(vS,1),(M3,2),(vS,2)]).map Prod.fst=[vS,M3] by kernel_rfl,x1o,x1o,List.flatMap_nil,x2v];rw[AF,AH];refine q2h (.refl _) ((show sFl.Pairwise (fun x y=>¬flC y x<0)from by decide).imp fun h=>by rw[<-FC];exact h) fun s i=>?_;have i:s∈sFl:=i;unfold sFl at i;simp only[x0p,List.not_mem_nil,or_false]at i;rcases i with rfl|rfl|rfl|rfl<;>exact⟨by decide,by decide,by decide⟩
def Ga:UY someP mainS=sFl:=by
 have e:VI someP mainS=0:=by kernel_rfl
 unfold UY;rw[e,if_pos ⟨Du,by decide⟩];exact Lm
def AJ:PZ someP 3 vS=[2]:=by
 unfold PZ;rw[if_pos ⟨Du,by decide,by rw[show(sheetOf someP).l.length=8 by kernel_rfl];decide⟩,show(YN someP 3).2.1=mainS by kernel_rfl,Ga];rfl
def QN:SpecP prog 10 [] (fun r=>r=.tt):=by
 have i:=Yt someP Dy [112];rw[Sm]at i;have l:=D1 someP Dy mainS;rw[Ga]at l;have m:=Gh someP Dy 3 vS;rw[AJ]at m;have o:=PG [2] [2];have h:(sFl.map NN)[0]?=some (.agg (Fl.mk 1 2 vS).cells):=rfl;refine sB KE func10 rfl call10 ?_;conv=>whnf
 repeat' (first|((first|(refine iM fun _=>?_)|refine dA ?_|refine x0h rfl ?_|refine aD ?_|refine aR ?_|refine bP ?_|(refine iA fun _=>?_)|refine IdxK.xs (by omega) ?_|refine QX (by omega) ?_|(refine ByteK.at (by omega) ?_)|refine wI ?_|refine cP Zg ?_|refine cP i ?_|refine cP l ?_|refine cP m ?_|refine cP o ?_|(refine IdxK.at (k:=0) rfl h rfl ?_));conv=>whnf)|(apply bD<;>intro _<;>first|omega|conv=>whnf)|(apply bE<;>intro _<;>first|omega|conv=>whnf)|(apply bN<;>intro _<;>conv=>whnf)|(apply bB<;>intro _<;>conv=>whnf)|(refine x0h ?_ ?_<;>conv=>whnf))
 all_goals first
  |contradiction
  |exact⟨_,.p (Vs rfl),rfl⟩
  |exact⟨_,.p (Sub.refl _),rfl⟩
def VW(p:Pg)(m:Fit p)(h:Int):SpecP prog 20 [.agg p.cells,.int .i64 h] (fun r=>r=.bool (J1 p h)):=by
 refine sB FH func20 rfl call20 ?_;conv=>whnf
 have i:=FL p m;unfold J1;cases hc:QE p with
 | false=>
   rw[hc]at i;repeat' (first|((first|(refine iM fun _=>?_)|refine dA ?_|refine x0h rfl ?_|refine aD ?_|refine aR ?_|refine bP ?_|(refine iA fun _=>?_)|refine IdxK.xs (by omega) ?_|refine QX (by omega) ?_|(refine ByteK.at (by omega) ?_)|refine wI ?_|refine cP i ?_);conv=>whnf)|(apply bD<;>intro _<;>first|omega|conv=>whnf)|(apply bE<;>intro _<;>first|omega|conv=>whnf)|(apply bN<;>intro _<;>conv=>whnf)|(apply bB<;>intro _<;>conv=>whnf))
   all_goals first
    |contradiction
    |exact RetK.ff rfl
 | true=>
   rw[hc]at i;have l:=(XP hc).2.2;have hT:=So p (by omega);repeat' (first|((first|(refine iM fun _=>?_)|refine dA ?_|refine x0h rfl ?_|refine aD ?_|refine aR ?_|refine bP ?_|(refine iA fun _=>?_)|refine IdxK.xs (by omega) ?_|refine QX (by omega) ?_|(refine ByteK.at (by omega) ?_)|refine wI ?_|refine cP i ?_|refine cP hT ?_);conv=>whnf)|(apply bD<;>intro _<;>first|omega|conv=>whnf)|(apply bE<;>intro _<;>first|omega|conv=>whnf)|(apply bN<;>intro _<;>conv=>whnf)|(apply bB<;>intro _<;>conv=>whnf))
   all_goals first
    |contradiction
    |exact RetK.bool rfl
def S2(p:Pg)(n v:Str):Int:=bif JJ p then(match p.A.find? fun f=>f.name==n with|some f=>DJ p f v|none=>0)else 0
def Sg(p:Pg)(n v:Str):SpecP prog 34 [.agg p.cells,.str n,.str v] (fun r=>r=.int .i64 (S2 p n v)):=by
 refine sB Bw func34 rfl call34 ?_;conv=>whnf
 have i:=Dh p;have q:(p.A.map fun f=>AV.agg f.cells).length=p.A.length:=x0j _;unfold S2;cases hm:JJ p with
 | false=>
   rw[hm]at i;repeat' (first|((first|(refine iM fun _=>?_)|refine dA ?_|refine x0h rfl ?_|refine aD ?_|refine aR ?_|refine bP ?_|(refine iA fun _=>?_)|refine IdxK.xs (by omega) ?_|refine QX (by omega) ?_|(refine ByteK.at (by omega) ?_)|refine wI ?_|refine cP i ?_);conv=>whnf)|(apply bD<;>intro _<;>first|omega|conv=>whnf)|(apply bE<;>intro _<;>first|omega|conv=>whnf)|(apply bN<;>intro _<;>conv=>whnf)|(apply bB<;>intro _<;>conv=>whnf))
   all_goals first
    |contradiction
    |exact RetK.int rfl
 | true =>
   rw[hm]at i;repeat' (first|((first|(refine iM fun _=>?_)|refine dA ?_|refine x0h rfl ?_|refine aD ?_|refine aR ?_|refine bP ?_|(refine iA fun _=>?_)|refine IdxK.xs (by omega) ?_|refine QX (by omega) ?_|(refine ByteK.at (by omega) ?_)|refine wI ?_|refine cP i ?_);conv=>whnf)|(apply bD<;>intro _<;>first|omega|conv=>whnf)|(apply bE<;>intro _<;>first|omega|conv=>whnf)|(apply bN<;>intro _<;>conv=>whnf)|(apply bB<;>intro _<;>conv=>whnf))
   all_goals try contradiction
   refine LoopK.inv QK (fun j:Nat=>⟨[(1,.p (.str n)),(2,.p (.str v)),(3,.p (.ip p.cells)),(13,.p (.sl (p.A.map fun f=>.agg f.cells))),(14,.p (.int .i64 (p.A.map fun f=>AV.agg f.cells).length)),(15,.p (.int .i64 j))],[]⟩) (fun j=>j<=p.A.length/\(p.A.drop j).find? (fun f=>f.name==n)=p.A.find? fun f=>f.name==n) (fun j=>p.A.length-j) 0 (Le.of_eq rfl) ⟨x0l _,rfl⟩ ?_;rintro j ⟨s,h⟩;rcases x0t j p.A.length with l|l
   .rw [QB l,x5y]at h;have o:=Gr p p.A[j] v;conv=>whnf
    repeat' (first|((first|(refine iM fun _=>?_)|refine dA ?_|refine x0h rfl ?_|refine aD ?_|refine aR ?_|refine bP ?_|(refine iA fun _=>?_)|refine IdxK.xs (by omega) ?_|refine QX (by omega) ?_|(refine ByteK.at (by omega) ?_)|refine wI ?_|refine cP o ?_);conv=>whnf)|(apply bD<;>intro _<;>first|omega|conv=>whnf)|(apply bE<;>intro _<;>first|omega|conv=>whnf)|(apply bN<;>intro _<;>conv=>whnf)|(apply bB<;>intro _<;>conv=>whnf))
    all_goals first
     | (have m:(p.A[j].name==n)=true:=by assumption
        rw[m]at h;exact RetK.int (by rw[<-h];rfl))
     | (have m:(p.A[j].name==n)=false:=by assumption
        rw[m]at h;exact⟨j+1,⟨l,h⟩,by omega,Le.of_eq rfl⟩)
   .rw [x1q l,List.find?_nil]at h;conv=>whnf
    repeat' (first|((first|(refine iM fun _=>?_)|refine dA ?_|refine x0h rfl ?_|refine aD ?_|refine aR ?_|refine bP ?_|(refine iA fun _=>?_)|refine IdxK.xs (by omega) ?_|refine QX (by omega) ?_|(refine ByteK.at (by omega) ?_)|refine wI ?_);conv=>whnf)|(apply bD<;>intro _<;>first|omega|conv=>whnf)|(apply bE<;>intro _<;>first|omega|conv=>whnf)|(apply bN<;>intro _<;>conv=>whnf)|(apply bB<;>intro _<;>conv=>whnf))
    all_goals first
     |contradiction
     |exact RetK.int (by rw[<-h];rfl)
def Rb{σ:Mem}{a:Fl}{v:Value}(h:Rep σ (.agg a.cells) v):v=.agg #[.int .i64 a.src,.int .i64 a.dst,.string ⟨a.var.toArray⟩]:=by
 cases h with
 | agg cs vs u r hc o=>
   have s:vs.size=3:=r;have g0:vs[0]?=some (.int .i64 a.src):=by
    have l:=hc 0 (.int .i64 a.src) rfl;have m:=o 0 (.int .i64 a.src) rfl;generalize u 0=w at l m;cases m;exact l
   have g1:vs[1]?=some (.int .i64 a.dst):=by
    have l:=hc 1 (.int .i64 a.dst) rfl;have m:=o 1 (.int .i64 a.dst) rfl;generalize u 1=w at l m;cases m;exact l
   have q:vs[2]?=some (.string ⟨a.var.toArray⟩):=by
    have l:=hc 2 (.str a.var) rfl;have m:=o 2 (.str a.var) rfl;generalize u 2=w at l m;cases m;exact l
   congr 1;apply Array.ext_getElem?;intro i
   match i with
   |0=>exact g0
   |1=>exact g1
   |2=>exact q
   |i+3=>rw[x5x (by omega),x5x (by simp)]
instance:DecidableEq Fl:=fun a b=>decidable_of_iff (a.src=b.src/\a.dst=b.dst/\a.var=b.var) (by cases a;cases b;simp)
def TZ{B:Bool}{s:St}{o:Oper}{K:LV->Prop}{x y:Operand}{u:TypeId}(i:o.op=.binOp .eql 40 x y u){a b:Fl}(D:QL s.sl x=.p (.agg a.cells))(E:QL s.sl y=.p (.agg b.cells))(c:K (.p (.bool (decide (a=b))))):ValO prog B s o K:=by
 refine⟨fun σ β m w q _=>⟨_,.bool (decide (a=b)),c,.p (.bool _),fun w' _ _=>?_⟩⟩;have t:m.eval x=.agg #[.int .i64 a.src,.int .i64 a.dst,.string ⟨a.var.toArray⟩]:=by
  have:=QZ q x;rw[D]at this;cases this with
  |p h=>exact Rb h
 have v:m.eval y=.agg #[.int .i64 b.src,.int .i64 b.dst,.string ⟨b.var.toArray⟩]:=by
  have:=QZ q y;rw[E]at this;cases this with
  |p h=>exact Rb h
 have C:prog.underlying 40=some (.struct (prog.fieldsOf 40)):=by kernel_rfl
 have l:prog.underlying 9=some .string:=by kernel_rfl
 have A:prog.underlying 3=some (.int .i64):=by kernel_rfl
 have g:(prog.fieldsOf 40).toList=(match ty40.desc with |.struct fs=>fs.toList|_=>[]):=by kernel_rfl
 have d:(Op.equalIn 10000 40 (.agg #[.int .i64 a.src,.int .i64 a.dst,.string ⟨a.var.toArray⟩]) (.agg #[.int .i64 b.src,.int .i64 b.dst,.string ⟨b.var.toArray⟩])).run prog w'=.ok (decide (a=b)) w':=by
  rw[run_equalIn_struct w' 9999 _ _ _ C (by kernel_rfl),g];simp only[ty40,Op.eqFields];have G:∀(x y:Int)(z:ByteArray),(part 3 #[.int .i64 x,.int .i64 y,.string z] 0).run prog w'=.ok (.int .i64 x) w':=fun x y z=>run_part_plain w' (by kernel_rfl) rfl;have H:∀(x y:Int)(z:ByteArray),(part 3 #[.int .i64 x,.int .i64 y,.string z] 1).run prog w'=.ok (.int .i64 y) w':=fun x y z=>run_part_plain w' (by kernel_rfl) rfl;have J:∀(x y:Int)(z:ByteArray),(part 9 #[.int .i64 x,.int .i64 y,.string z] 2).run prog w'=.ok (.string z) w':=fun x y z=>run_part_plain w' (by kernel_rfl) rfl;have es:∀x y:ByteArray,(Op.equalIn 9999 9 (.string x) (.string y)).run prog w'=.ok (x.toList==y.toList) w':=fun x y=>run_equalIn_string (P:=prog) w' 9998 9 x y l;have r:∀x y:Int,(Op.equalIn 9999 3 (.int .i64 x) (.int .i64 y)).run prog w'=.ok (x==y) w':=fun a b=>run_equalIn_int (P:=prog) w' 9998 3 .i64 .i64 a b A;have e:decide (a=b)=((a.src==b.src)&&((a.dst==b.dst)&&((⟨a.var.toArray⟩:ByteArray).toList==(⟨b.var.toArray⟩:ByteArray).toList))):=by
   rw[ByteArray.toList_eq,ByteArray.toList_eq,x4b,x5w,x1z,x1z,x3s,x3s,x3s];cases a;cases b;simp
  simp only[ne_eq,show ¬("From" = "_") by decide,show ¬("To" = "_") by decide,show ¬("Var" = "_") by decide,not_false_eq_true,if_true,Sem.run_bind,G,H,J,Result.andThen_ok,es,r,Sem.run_ite,Sem.run_pure,e];cases(a.src==b.src)<;>cases(a.dst==b.dst)<;>cases((⟨a.var.toArray⟩:ByteArray).toList==(⟨b.var.toArray⟩:ByteArray).toList)<;>simp
 simp only[execOp,i,t,v,Sem.run_bind,run_eqGuard_agg _ _ _ _ _ _ _ (show prog.eqGuardType prog.depth 40=false by kernel_rfl),Result.andThen_ok,run_eql_struct,d,Sem.run_pure]
def BB{i n:Nat}{b:Nat}(m:a<n)(o:b<n)(h:QH p i n a=QH p i n b):a=b:=by
 unfold QH loI at h;have l:(0:Int)<=(QR p.A i:Nat):=x5l _;split at h<;>split at h<;>(try split at h)<;>(try split at h)<;>omega
theorem Fz{α β:Type}{g:α->List β}:∀{l:List α},l.Nodup->(∀x∈l,(g x).Nodup)->(∀x∈l,∀y∈l,∀z,z∈g x->z∈g y->x=y)->(l.flatMap g).Nodup
 |[],_,_,_=>by simp
 | x::r,hn,h1,h2=>by
   rw[x2u]at hn;rw[x1o,x2b];refine⟨h1 x x0k,Fz hn.2 (fun y h=>h1 y (x0f _ h)) (fun y h z i=>h2 y (x0f _ h) z (x0f _ i)),fun a m b o e=>?_⟩;subst e;obtain⟨y,h,i⟩:=x1p.1 o;have:=h2 x x0k y (x0f _ h) a m i;subst this;exact hn.1 h
def q1e{G T:Nat->List Str}{i n:Nat}{steps:List (Int×Int)}(C:∀a,(G a).Nodup)(nm:Str):(outN G T (fun c=>QH p i n c) n steps nm).Nodup:=by
 have o:(atN G n nm).Nodup:=by rw[Be C];exact x6a.filter _
 unfold outN;refine Fz x6a (fun c hc=>?_) fun c hc d D s l h=>?_
 .refine Fz ?_ (fun f _=>by split<;>simp) fun f m g H s l h=>?_
  .rw [x0y];cases t:(comC n steps (atN G n nm))[c]?with
   |none=>exact x7z
   | some r=>
     have B:=x0i t;unfold comC at B;obtain⟨c',_,rfl⟩:=x0n.1 B;exact(x6a.filter _).map _ fun x y e E=>e (Int.ofNat.inj E)
  .have q:∀f∈(comC n steps (atN G n nm)).getD c [],0<=f/\f<(atN G n nm).length:=fun f m=>by
    rw[x0y]at m;cases t:(comC n steps (atN G n nm))[c]?with
    |none=>rw[t]at m;cases m
    |some r=>rw[t]at m;exact(LP (x0i t)).2 f m
   have J:=q f m;have K:=q g H;split at l
   .split at h
    .rw [x0b.1 l]at h;have w:=x2o Fl.src (x0b.1 h);simp only at w;have u:f.toNat<(atN G n nm).length:=by omega
     have v:g.toNat<(atN G n nm).length:=by omega
     rw[x0y,x0u u,x0y,x0u v]at w;have A:=BB (K7 (x0s u)) (K7 (x0s v)) w;have M:f.toNat=g.toNat:=by
      refine x3u fun b=>?_;rcases Nat.lt_or_gt_of_ne b with z|z
      .exact x4k.1 o _ _ u v z A
      .exact x4k.1 o _ _ v u z A.symm
     omega
    .first|contradiction|cases h
   .first|contradiction|cases l
 .obtain ⟨f,_,l⟩:=x1p.1 l;obtain⟨g,_,h⟩:=x1p.1 h;split at l
  .split at h
   .rw [x0b.1 l]at h;exact BB (x1a.1 hc) (x1a.1 D) (x2o Fl.dst (x0b.1 h))
   .first|contradiction|cases h
  .first|contradiction|cases l
def Xb{s:Fl}(h:s∈XD p k f):∃nm c a,c<QW f.body+2/\a<QW f.body+2/\nm∈ZT p k f a/\s=⟨QH p k (QW f.body+2:Nat) a,QH p k (QW f.body+2:Nat) c,nm⟩/\nm∈M7 p k f c:=by
 unfold XD VD at h;have h:=(x4r _ _).mem_iff.1 h;obtain⟨nm,_,h⟩:=x1p.1 h;unfold outN at h;obtain⟨c,hc,h⟩:=x1p.1 h;obtain⟨x,i,h⟩:=x1p.1 h;have v:0<=x/\x<(atN (ZT p k f) (QW f.body+2) nm).length:=by
  rw[x0y]at i;cases l:(comC (QW f.body+2) (UA (QQ p k f) f) (atN (ZT p k f) (QW f.body+2) nm))[c]?with
  |none=>rw[l]at i;cases i
  |some r=>rw[l]at i;exact(LP (x0i l)).2 x i
 split at h
 .rename_i w;have t:x.toNat<(atN (ZT p k f) (QW f.body+2) nm).length:=by omega
  rw[x0b.1 h,x0y,x0u t];have hm:=x0s t;refine⟨nm,c,_,x1a.1 hc,K7 hm,?_,rfl,ZA.1 w⟩;unfold atN at hm;obtain⟨y,z,q⟩:=x0n.1 hm;have m:=x1s.1 z;obtain⟨b,d⟩:=y;have u:b=nm:=by simpa using m.2
  have o:=(Av m.1).2;subst u;simp only at q;rw[q]at o;exact o
 .cases h
def Kf{s:Fl}(h:s∈XD p k f):0<=s.src:=by
 obtain⟨nm,c,a,_,o,i,rfl,_⟩:=Xb h;show 0<=QH p k (QW f.body+2:Nat) a;unfold QH loI;split
 .omega
 split
 .rename_i l m;have:a=QW f.body+1:=by omega
  subst this;unfold ZT Mi at i;rw[if_neg (by omega),if_pos rfl]at i;cases i
 .omega
def Ck(hc:QE p=true)(m:∀a,(ZT p k f a).Nodup):(XD p k f).Nodup:=by
 unfold XD VD;refine(x4r _ _).nodup_iff.2 (Fz (L9 _) (fun nm _=>q1e m nm) fun a _ b _ s i l=>?_);have key:∀nm,s∈outN (ZT p k f) (M7 p k f) (fun c=>QH p k (QW f.body+2:Nat) c) (QW f.body+2) (UA (QQ p k f) f) nm->s.var=nm:=fun nm h=>by
  unfold outN at h;obtain⟨c,_,h⟩:=x1p.1 h;obtain⟨x,_,h⟩:=x1p.1 h;split at h
  .rw [x0b.1 h]
  .cases h
 rw[<-key a i,key b l]
def Sl(m:List Fl):(VD m).Pairwise fun x y=>¬ltF y x:=by
 unfold VD;refine(x6v ?_ ?_ m).imp fun h=>?_
 .intro a b c i l;simp only[x3f,x2c]at i l⊢;rw[FC]at i l⊢;exact ltF.neg l i
 .intro a b;simp only[x3i,x3f,x2c];rw[FC,FC];by_cases i:ltF b a
  .exact .inr fun l=>ltF.irr a (ltF.trans a b a l i)
  .exact .inl i
 .rw [<-FC];simpa using h
section
variable {F:List (List Str)->List (List Str)}{n:Nat}{L O:List (List Str)}
end
section
variable {p:Pg}
end
section
variable {p:Pg}{j:Nat}{f:Pr}
def RG(h:QE p=true)(i:p.A[j]?=some f)(l:0<y):Rs (NO p f.name) y=true↔Rch (wR p j f) 0 y:=by
 obtain⟨k,hk,m⟩:=Dr h (x0i i);obtain⟨rfl,_⟩:=Fe h hk i rfl;rw[Ix,(Ie p f.name).2,RN m];exact⟨fun h=>h.2,fun h=>⟨l,h⟩⟩
def q4q(h:QE p=true)(i:p.A[j]?=some f){a b:Int}(o:dR p j f a b):a ≠ -1:=by
 rcases(Rv h i).1 o with m|⟨l,u,t,q,r,s,rfl,_⟩
 .exact (q0y h i ((R2 h i).2 (.inl m))).2.2.1
 .have:=WD (QF h).1 i q;omega
end
def OZ(hc:QE p=true)(i:Nat)(f:Pr)(a:Nat):(ZT p i f a).Nodup:=by
 refine VH (Pf (fun d h=>?_) a);rw[(ZC hc).G]at h;obtain⟨l,_,rfl⟩:=x0n.1 h;exact ZJ _
def LL(hc:QE p=true)(hk:p.A[k]?=some f)(o:a≠0)(q:a<QW f.body+1):
  QH p k (QW f.body+2:Nat) a=(QR p.A k+a:Nat)/\GU p (QR p.A k+a:Nat)=(QG p).G.getD (QR p.A k+a-1) []/\KS p (QR p.A k+a:Nat)=(QG p).N.getD (QR p.A k+a-1) []:=by
 obtain⟨_,_,_,i,m⟩:=QJ p;obtain⟨_,_,l,_⟩:=m _ _ hk;have h:((QR p.A k+a:Nat):Int)-1=(QR p.A k+a-1:Nat):=by omega
 refine⟨?_,?_,?_⟩
 .unfold QH loI;rw[if_neg (by omega),if_neg (by omega)];omega
 .unfold GU;rw[if_pos ⟨hc,by omega,by omega⟩,h];rfl
 .unfold KS;rw[if_pos ⟨hc,by omega,by omega⟩,h];rfl
def OX(hc:QE p=true)(hk:p.A[k]?=some f)(o:a<QW f.body+2)(h:nm∈ZT p k f a):
  (a=0/\nm∈L2 p f.name++f.B.map Param.name)\/(a≠0/\a<QW f.body+1/\(QQ p k f).live.getD a false=true/\nm∈GU p (QR p.A k+a:Nat)):=by
 unfold ZT Mi at h;split at h
 .rename_i i;refine .inl ⟨i,?_⟩;rw[(KM hc hk).2.2];exact XH.1 h
 .rename_i i;split at h
  .cases h
  .rename_i m;cases l:(QQ p k f).live.getD a false with
   |false=>rw[l]at h;cases h
   | true=>
     rw[l]at h;exact .inr ⟨i,by omega,rfl,by rw[(LL hc hk i (by omega)).2.1];exact h⟩
def q5j(hc:QE p=true)(hk:p.A[k]?=some f){c:Nat}(o:c<QW f.body+2)(h:nm∈M7 p k f c):
  (c=QW f.body+1/\(nm=retS\/nm∈Qu p f.name))\/(c≠0/\c<QW f.body+1/\(QQ p k f).live.getD c false=true/\nm∈KS p (QR p.A k+c:Nat)):=by
 unfold M7 Ea at h;split at h
 .rename_i i;refine .inl ⟨i,?_⟩;rw[(KM hc hk).2.1];rcases x0r.1 (XH.1 h)with h|h
  .exact .inr h
  .exact .inl (x0b.1 h)
 .rename_i i;split at h
  .cases h
  .rename_i l;cases m:(QQ p k f).live.getD c false with
   |false=>rw[m]at h;cases h
   | true=>
     rw[m]at h;exact .inr ⟨l,by omega,rfl,by rw[(LL hc hk l (by omega)).2.2];exact h⟩
structure EndF(G O:List Str)(D U:Int->List Str)(s:Fl):Prop where
 src:if s.src=0 then s.var∈G else s.var∈D s.src
 dst:if s.dst = -1 then s.var=retS\/s.var∈O else s.var∈U s.dst
def q4z(hc:QE p=true)(hk:p.A[k]?=some f){s:Fl}(h:s∈XD p k f):EndF (L2 p f.name++f.B.map Param.name) (Qu p f.name) (GU p) (KS p) s:=by
 obtain⟨nm,c,a,o,q,r,rfl,t⟩:=Xb h;refine⟨?_,?_⟩
 .rcases OX hc hk q r with⟨rfl,i⟩|⟨l,i,_,m⟩
  .have e:QH p k (QW f.body+2:Nat) (0:Nat)=0:=if_pos rfl;rw[if_pos (show(Fl.mk (QH p k (QW f.body+2:Nat) (0:Nat)) _ _).src=0 from e)];exact i
  .have e:=(LL hc hk l i).1;have e2:¬QH p k (QW f.body+2:Nat) a=0:=by rw[e];omega
   rw[if_neg (show ¬(Fl.mk (QH p k (QW f.body+2:Nat) a) _ _).src=0 from e2)];show nm∈GU p (QH p k (QW f.body+2:Nat) a);rw[e];exact m
 .rcases q5j hc hk o t with⟨rfl,i⟩|⟨l,i,_,m⟩
  .have e:QH p k (QW f.body+2:Nat) (QW f.body+1:Nat) = -1:=by unfold QH;rw[if_neg (by omega),if_pos (by omega)]
   rw[if_pos (show(Fl.mk _ (QH p k (QW f.body+2:Nat) (QW f.body+1:Nat)) _).dst = -1 from e)];exact i
  .have e:=(LL hc hk l i).1;have e2:¬QH p k (QW f.body+2:Nat) c = -1:=by rw[e];omega
   rw[if_neg (show ¬(Fl.mk _ (QH p k (QW f.body+2:Nat) c) _).dst = -1 from e2)];show nm∈KS p (QH p k (QW f.body+2:Nat) c);rw[e];exact m
def q4f(hc:QE p=true)(hk:p.A[k]?=some f)(a:Nat):(ZT p k f a).length<=34:=by
 have h:f.B.length<=8:=((WS (QF hc).1).pr f (x0i hk)).1;refine Rr (fun d i=>?_) ((GS hc).2.len25 hc k) h a;rw[(ZC hc).G]at i;obtain⟨o,l,rfl⟩:=x0n.1 i;have m:o.s∈YQ p:=by rw[<-YJ];exact x4q l
 exact x1t (UI _) (LM hc (GS hc).1 m)
theorem RY:∀(ks:List Str)(l:List (Str×Nat)),ks.Nodup->(ks.flatMap fun nm=>l.filter fun x=>decide (x.1=nm)).length<=l.length
 |[],l,_=>by simp
 | k::r,l,hn=>by
   rw [x2u]at hn;have o:=RY r (l.filter fun x=> !decide (x.1=k)) hn.2;have q:(r.flatMap fun nm=>(l.filter fun x=> !decide (x.1=k)).filter fun x=>decide (x.1=nm))=r.flatMap fun nm=>l.filter fun x=>decide (x.1=nm):=by
    have:∀m:List Str,k∉m->(m.flatMap fun nm=>(l.filter fun x=> !decide (x.1=k)).filter fun x=>decide (x.1=nm))=m.flatMap fun nm=>l.filter fun x=>decide (x.1=nm):=by
     intro m;induction m with
     |nil=>intro _;rfl
     | cons y m t=>
       intro s;rw[x1o,x1o,t fun h=>s (x0f _ h),List.filter_filter];congr 1;refine List.filter_congr fun x _=>?_;by_cases i:x.1=y
       .have:¬x.1=k:=fun e=>s (by rw[<-e,i];exact x0k);simp[i,show ¬y=k from i▸this]
       .simp [i]
    exact this r hn.1
   rw[q]at o;have v:(l.filter fun x=>decide (x.1=k)).length+(l.filter fun x=> !decide (x.1=k)).length=l.length:=by
    clear o q;induction l with
    |nil=>rfl
    |cons x l t=>by_cases u:x.1=k<;>simp[u]<;>omega
   rw[x1o,x0g];omega
theorem Rf{α β:Type}(f:α->List β)(g:α->Nat)(n:Nat):∀l:List α,(∀x∈l,(f x).length<=n*g x)->(l.flatMap f).length<=n*(l.map g).sum
 |[],_=>by simp
 | x::r,h=>by
   rw[x1o,x0g,x1j,x5f,Nat.mul_add];have m:=h x x0k;have o:=Rf f g n r fun y i=>h y (x0f _ i);omega
def TP{p:Pg}{k:Nat}{f:Pr}:(XD p k f).length<=(QW f.body+2)*(prsG (ZT p k f) (QW f.body+2)).length:=by
 unfold XD;rw[Z8];refine x1t (Rf _ (fun nm=>(atN (ZT p k f) (QW f.body+2) nm).length) _ _ fun nm _=>RL _ _ _ _ _ nm) (Nat.mul_le_mul_left _ ?_);have h:=RY _ (prsG (ZT p k f) (QW f.body+2)) (L9 (prsG (ZT p k f) (QW f.body+2)));rw[List.length_flatMap]at h;refine x1t (Nat.le_of_eq ?_) h;congr 1;refine x7q fun nm _=>?_;unfold atN;rw[x0j]
def Ca(hc:QE p=true)(hk:p.A[k]?=some f):(L2 p f.name++f.B.map Param.name).length<=(prsG (ZT p k f) (QW f.body+2)).length:=by
 have l:=x0i hk;obtain⟨_,r⟩:=GS hc;have hnd:=((Nd (QF hc).1).1 (QF hc).2.1).2 f l;have u:(L2 p f.name++f.B.map Param.name).Nodup:=by
  rw[(KM hc hk).2.2];have h:=hnd.nd;unfold allV at h;rw[x2b]at h;obtain⟨_,m,v⟩:=h;have m:(f.B.map Param.name++f.Q).Nodup:=m;rw[x2b]at m;rw[x2b];refine⟨VH (DX r.rise k),m.1,fun a w b x e=>?_⟩;have i:b∈Jc f:=x2x _ x;rcases BX.1 (r.sub k a w)with o|o
  .have q:=Fc hc l i;rw[<-e,o]at q;exact absurd q (by decide)
  .exact v a o b i e
 have h:(ZT p k f 0).length<=(prsG (ZT p k f) (QW f.body+2)).length:=by
  unfold prsG;rw[List.range_eq_range',List.range'_succ,x1o,x0g,x0j];exact Nat.le_add_right _ _
 refine x1t (HF u fun s t=>?_) h;unfold ZT Mi;rw[if_pos rfl];rw[(KM hc hk).2.2]at t;exact XH.2 t
structure EndsF(G O:List Str)(D U:Int->List Str)(m:Nat)(L:List Fl)(nd:Int×Int):Prop where
 fl:∀s∈L,EndF G O D U s
 ord:∀(i:Nat)(h:i+1<L.length),¬L[i+1].src<L[i].src/\¬L[i]=L[i+1]
 few:(L.length:Int)<=nd.1*nd.2
 nodes:nd.1=m+2
 facts:(G.length:Int)<=nd.2
 most:nd.1*nd.2<=10000000
def TF(E:Fit p)(hc:QE p=true)(hk:p.A[k]?=some f):EndsF (L2 p f.name++f.B.map Param.name) (Qu p f.name) (GU p) (KS p) (UD f).length (UY p f.name) (JA p f.name):=by
 obtain⟨l,q,g⟩:=Dr hc (x0i hk);obtain⟨rfl,_⟩:=Fe hc q hk rfl;have u:=(KM hc hk).1;have v:UY p f.name=XD p l f:=LI hc hk g;have eN:JA p f.name=(((QW f.body+2:Nat):Int),(((prsG (ZT p l f) (QW f.body+2)).length:Nat):Int)):=by
  unfold JA;rw[u,if_pos ⟨hc,by omega⟩,x2s,JF hk]
 rw[v,eN];refine⟨fun s e=>q4z hc hk e,fun i h=>?_,?_,?_,?_,?_⟩
 .have m:(XD p l f).Pairwise fun x y=>¬ltF y x:=by unfold XD;exact Sl _
  have o:=Ck hc (OZ hc l f);have r:=x4k.1 m i (i+1) (by omega) h (by omega);have w:=x4k.1 o i (i+1) (by omega) h (by omega);refine⟨fun b=>r (.inl ?_),w⟩;have C:=Kf (x0s h);have D:=Kf (x0s (show i<(XD p l f).length by omega));have t:∀z:Int,0<=z->QT z=z:=fun z G=>by unfold QT;rw[if_neg (by omega)]
  rw[t _ C,t _ D];exact b
 .have:=@TP p l f;show((XD p l f).length:Int)<=((QW f.body+2:Nat):Int)*((prsG (ZT p l f) (QW f.body+2)).length:Nat);rw[<-Int.natCast_mul];omega
 .have:=FI 1 0 false f.body;show((QW f.body+2:Nat):Int)=_;rw[LS (QF hc).1 (x0i hk)];unfold flatU;rw[this];omega
 .have:=Ca hc hk;show _<=(((prsG (ZT p l f) (QW f.body+2)).length:Nat):Int);omega
 .have m:=OL (q4f hc hk) (QW f.body+2);have d:=(XP hc).2.2;have c:=BQ _ _ (x0i hk);have o:(prsG (ZT p l f) (QW f.body+2)).length<=202*34:=x1t m (x2z _ (by omega));have r:(QW f.body+2)*(prsG (ZT p l f) (QW f.body+2)).length<=202*(202*34):=Nat.mul_le_mul (by omega) o;show((QW f.body+2:Nat):Int)*((prsG (ZT p l f) (QW f.body+2)).length:Nat)<=_;rw[<-Int.natCast_mul];omega
def Ib(l:List (Str×Nat)){k:Str}(h:(k,a)∈l):k∈(mapG l).map Prod.fst:=by
 have key:∀l:List (Str×Nat),(k,a)∈l->k∈(mapG l.reverse).map Prod.fst:=fun l=>by
  induction l with
  |nil=>intro h;cases h
  | cons x r i=>
    intro h;rw[x6b,GK];unfold D0;rw[Qr];rcases x0p.1 h with h|h
    .subst h;split
     .assumption
     .exact x2r _ (x0b.2 rfl)
    .have:=i h;split
     .exact this
     .exact x2x _ this
 have:=key l.reverse (List.mem_reverse.2 h)
 rwa[x5i]at this
section
variable {n:Nat}{at_:List Nat}
theorem OW(hnd:at_.Nodup)(hlt:∀a∈at_,a<n):∀k,k<=at_.length->∀(a:Nat)(g:Nat),(g:Int)∈(gnC n at_ k).getD a []↔g<k/\at_[g]?=some a
 | 0,_,a,g=>by
   rw[gnC];constructor
   .intro h;rw[x0y,x1b]at h;split at h<;>cases h
   .intro h;exact absurd h.1 (by omega)
 | k+1,hk,a,g=>by
   have i:k<at_.length:=by omega
   have e:at_.getD k 0=at_[k]:=by rw[x0y,x0u i];rfl
   rw[gnC,e,ZV (by rw[DZ];exact hlt _ (x0s i))];split
   .rename_i h;rw[x0b];constructor
    .intro m;obtain rfl:g=k:=by omega
     exact⟨by omega,by rw[x0u i,h]⟩
    .rintro ⟨m,l⟩;obtain⟨q,o⟩:=x0m.1 l;have:g=k:=(List.getElem_inj hnd).1 (o.trans h.symm);omega
   .rename_i h;rw[OW hnd hlt k (by omega) a g];refine⟨fun⟨m,l⟩=>⟨by omega,l⟩,fun⟨m,l⟩=>⟨?_,l⟩⟩;refine Nat.lt_of_le_of_ne (by omega) fun e2=>h ?_;subst e2;rw[x0u i]at l;exact x3h l
def EJ{m g:Nat}:(g:Int)∈LK m↔g<m:=by
 unfold LK;rw[x0n];constructor
 .rintro ⟨x,l,i⟩;have:=x1a.1 l;have:(x:Int)=g:=i;omega
 .exact fun h=>⟨g,x1a.2 h,rfl⟩
theorem OG(hlt:∀a∈at_,a<n){g:Nat}(l:g<at_.length):∀k,k<=at_.length->∀a:Nat,(g:Int)∈(klC n at_ k).getD a []↔a∈at_.take k
 | 0,_,a=>by
   rw[klC];constructor
   .intro h;rw[x0y,x1b]at h;split at h<;>cases h
   .intro h;simp at h
 | k+1,hk,a=>by
   have i:k<at_.length:=by omega
   have e:at_.getD k 0=at_[k]:=by rw[x0y,x0u i];rfl
   rw[klC,e,ZV (by rw[DK];exact hlt _ (x0s i)),x0a i,x0r,x0b];split
   .rename_i h;exact⟨fun _=>.inr h.symm,fun _=>EJ.2 l⟩
   .rename_i h;rw[OG hlt l k (by omega) a];exact⟨.inl,fun m=>m.resolve_right fun e2=>h e2.symm⟩
def q0t(n:Nat)(steps:List (Int×Int))(at_:List Nat)(f:Nat)(c:Int):Prop:=SolP (QS n steps).1 ((gnC n at_ at_.length).map (HK (at_.length/64+1))) ((klC n at_ at_.length).map (HK (at_.length/64+1))) f c
def Ad{l:List (List Int)}{m:Nat}(h:∀r∈l,r.length<=5000/\∀f∈r,0<=f/\f<(m:Nat)){f:Nat}:bitW ((l.map (HK (m/64+1))).getD a []) f=decide ((f:Int)∈l.getD a []):=by
 rw[x0y,x0d,x0y];cases q:l[a]?with
 |none=>simp[bitW]
 | some r=>
   refine EM (fun g o=>?_) f;have i:=(h r (x0i q)).2 g o;exact⟨i.1,Nat.lt_succ_of_le (Nat.div_le_div_right (by omega))⟩
open Classical in
def Rw{steps:List (Int×Int)}{f c:Nat}(hc:c<n):(f:Int)∈(comC n steps at_).getD c []↔f<at_.length/\q0t n steps at_ f c:=by
 have e:(comC n steps at_)[c]?=some ((comC n steps at_)[c]'(by rw[Ha];exact hc)):=x0u _;rw[x0y,e,x2k];unfold comC;rw[x4e,x6y,x0n];constructor
 .rintro ⟨x,m,l⟩;obtain⟨h,i⟩:=x1s.1 m;obtain rfl:x=f:=by have:(x:Int)=f:=l;omega
  exact⟨x1a.1 h,of_decide_eq_true i⟩
 .exact fun⟨h,i⟩=>⟨f,x1s.2 ⟨x1a.2 h,x2a i⟩,rfl⟩
variable {steps:List (Int×Int)}(hnd:at_.Nodup)(hlt : ∀ a∈at_,a<n)(hm:at_.length<=5000)
include hnd hlt hm
def q4d{f:Nat}:bitW (((gnC n at_ at_.length).map (HK (at_.length/64+1))).getD a []) f=true↔at_[f]?=some a:=by
 rw[Ad (I9 n at_ hm _ (x0o _)),x5w,OW hnd hlt _ (x0o _)];exact⟨fun h=>h.2,fun h=>⟨(x0m.1 h).1,h⟩⟩
omit hnd in
def q4l{a f:Nat}(h:f<at_.length):bitW (((klC n at_ at_.length).map (HK (at_.length/64+1))).getD a []) f=true↔a∈at_:=by
 rw[Ad (Il n at_ hm _),x5w,OG hlt h _ (x0o _),x5o]
def q0s{f:Nat}{c:Int}(h:at_[f]?=some a)(i:((a:Int),c)∈steps)(hc:0<=c/\c<n):q0t n steps at_ f c:=by
 have m:=hlt a (x0i h);refine .gen (a:=a) (by omega) ((q4d hnd hlt hm).2 h) ?_;have:=(Xl (n:=n) (l:=steps) (x:=a) (y:=c)).2 ⟨i,DU (by omega),DU hc⟩;exact this.2
omit hnd in
def q3e{f:Nat}(o:f<at_.length){a c:Int}(h:q0t n steps at_ f a)(i:0<=a/\a<n)(q:a.toNat∉at_)(r:(a,c)∈steps)(hc:0<=c/\c<n):q0t n steps at_ f c:=by
 refine .go (a:=a) i.1 h ?_ ((Xl (n:=n) (l:=steps) (x:=a) (y:=c)).2 ⟨r,DU i,DU hc⟩).2;rw[x5c];exact fun m=>q ((q4l hlt hm o).1 m)
end
section
variable {p:Pg}{k:Nat}{f:Pr}(hc:QE p=true)(hk:p.A[k]? = some f)
include hc hk
def q0f(nm:Str):(atN (ZT p k f) (QW f.body+2) nm).Nodup/\(∀a∈atN (ZT p k f) (QW f.body+2) nm,a<QW f.body+2)/\(atN (ZT p k f) (QW f.body+2) nm).length<=5000/\∀a,a∈atN (ZT p k f) (QW f.body+2) nm↔a<QW f.body+2/\nm∈ZT p k f a:=by
 have h:=OZ hc k f;have m:=(XP hc).2.2;have l:=BQ _ _ (x0i hk);rw[Be h];refine⟨x6a.filter _,fun a i=>x1a.1 (x1s.1 i).1,x1t (x2l _ _) (by rw[x3j];omega),fun a=>?_⟩;rw[x1s,x1a,x5w]
def I6{c:Nat}(v:a<QW f.body+2)(i:c<QW f.body+2):(⟨QH p k (QW f.body+2:Nat) a,QH p k (QW f.body+2:Nat) c,nm⟩:Fl)∈XD p k f ↔
  nm∈M7 p k f c/\∃g,(atN (ZT p k f) (QW f.body+2) nm)[g]?=some a/\q0t (QW f.body+2) (UA (QQ p k f) f) (atN (ZT p k f) (QW f.body+2) nm) g c:=by
 obtain⟨_,hlt,_,q⟩:=q0f hc hk nm;unfold XD VD;rw[(x4r _ _).mem_iff,x1p];constructor
 .rintro ⟨e,_,h⟩;unfold outN at h;obtain⟨c',m,h⟩:=x1p.1 h;obtain⟨x,w,h⟩:=x1p.1 h;have m:=x1a.1 m;split at h
  .rename_i t;have h:=x0b.1 h;obtain rfl:nm=e:=x2o Fl.var h;have e2:QH p k (QW f.body+2:Nat) c=QH p k (QW f.body+2:Nat) c':=x2o Fl.dst h;obtain rfl:=BB i m e2;have r:((comC (QW f.body+2) (UA (QQ p k f) f) (atN (ZT p k f) (QW f.body+2) nm)).getD c [])∈comC (QW f.body+2) (UA (QQ p k f) f) (atN (ZT p k f) (QW f.body+2) nm):=by
    rw[x0y,x0u (by rw[Ha];exact i)];exact x0s _
   have b:=(LP r).2 x w;obtain⟨g,rfl⟩:=Int.eq_ofNat_of_zero_le b.1;have l:g<(atN (ZT p k f) (QW f.body+2) nm).length:=by omega
   have o:=((Rw i).1 w).2;have u:QH p k (QW f.body+2:Nat) a=_:=x2o Fl.src h;have z:(atN (ZT p k f) (QW f.body+2) nm).getD ((g:Nat):Int).toNat 0=(atN (ZT p k f) (QW f.body+2) nm)[g]:=by
    rw[x2s,x0y,x0u l];rfl
   rw[z]at u;refine⟨ZA.1 t,g,?_,o⟩;rw[x0u l,BB v (hlt _ (x0s l)) u]
  .cases h
 .rintro ⟨t,g,s,o⟩;obtain⟨l,d⟩:=x0m.1 s;refine⟨nm,?_,?_⟩
  .have:=(q a).1 (x0i s);refine Ib _ (a:=a) ?_;unfold prsG;exact x1p.2 ⟨a,x1a.2 v,x0n.2 ⟨nm,this.2,rfl⟩⟩
  .unfold outN;refine x1p.2 ⟨c,x1a.2 i,x1p.2 ⟨(g:Nat),(Rw i).2 ⟨l,o⟩,?_⟩⟩;rw[if_pos (ZA.2 t),x2s,x0y,s];exact x0b.2 rfl
def EE{x z:Int}(e:nm∈ZT p k f (ixI p k f x).toNat)(w:dR p k f x z)(d:Rch (dR p k f) z y):
  ∃g,g<(atN (ZT p k f) (QW f.body+2) nm).length/\q0t (QW f.body+2) (UA (QQ p k f) f) (atN (ZT p k f) (QW f.body+2) nm) g (ixI p k f y):=by
 obtain⟨hnd,hlt,o,l⟩:=q0f hc hk nm;have step:∀a b:Int,dR p k f a b->nm∈ZT p k f (ixI p k f a).toNat->∃g,g<(atN (ZT p k f) (QW f.body+2) nm).length/\q0t (QW f.body+2) (UA (QQ p k f) f) (atN (ZT p k f) (QW f.body+2) nm) g (ixI p k f b):=fun a b m r=>by
  obtain⟨u,q⟩:=P4 hc hk m;have B:=ZE u;obtain⟨g,i,t⟩:=List.getElem_of_mem ((l (ixI p k f a).toNat).2 ⟨by omega,r⟩);refine⟨g,i,q0s hnd hlt o (a:=(ixI p k f a).toNat) (by rw[x0u i,t]) ?_ (ZE q)⟩;rw[x5q B.1];exact(Fi hc hk u q).2 m
 induction d with
 |refl=>exact step x z w e
 | @tail b c _ m A=>
   obtain⟨g,i,s⟩:=A;obtain⟨q,v⟩:=P4 hc hk m;have C:=ZE q;by_cases r:nm∈ZT p k f (ixI p k f b).toNat
   .exact step b c m r
   .refine ⟨g,i,q3e hlt o i s C (fun h=>r ((l _).1 h).2) ((Fi hc hk q v).2 m) (ZE v)⟩
def Uk{x z:Int}(r:nm∈ZT p k f (ixI p k f x).toNat)(l:dR p k f x z)(m:Rch (dR p k f) z y)(t:nm∈M7 p k f (ixI p k f y).toNat):
  ∃s∈XD p k f,s.dst=y/\s.var=nm:=by
 obtain⟨g,h,i⟩:=EE hc hk r l m;obtain⟨_,hlt,_,_⟩:=q0f hc hk nm;have o:plP p k f y:=by
  cases m with
  |refl=>exact(P4 hc hk l).2
  |tail _ q=>exact(P4 hc hk q).2
 have u:=ZE o;have e:((ixI p k f y).toNat:Int)=ixI p k f y:=x5q u.1;refine⟨_,(I6 hc hk (hlt _ (x0s h)) (c:=(ixI p k f y).toNat) (by omega)).2 ⟨t,g,x0u h,by rw[e];exact i⟩,?_,rfl⟩;show QH p k _ _=y;rw[e];exact BP o
end
end Go.Ab
