/- aug: what a procedure's traps are. -/
import Derived.Test.YtmfnbgbblkhneaaGreatRchL5
import Derived.Test.YtmfnbgbblkhneaaGreatRchL8
import Derived.Test.YtmfnbgbblkhneaaGreatRchL14
import Derived.Test.YtmfnbgbblkhneaaGreatRchL17
set_option linter.unusedSimpArgs false
set_option linter.unusedVariables false
set_option maxRecDepth 100000
set_option maxHeartbeats 16000000
namespace Go.Ab
open Go.Proofs.Tryz
open Go.Proofs
variable {a:Int}{it:Item}
theorem Tl{p:Pg}(h:QE p=true){j:Nat}{f:Pr}(hj:p.procs[j]?=some f){k:Nat}(h1:QB p.procs j<=k)(h2:k<QB p.procs j+cntL f.body)(hk:(sheetOf p).l[k]?=some it):it.s.id=(k:Int)+1:=by
 obtain⟨t,_,h4,h5⟩:=Vd h hj (a:=(k:Int)+1) (by omega) (by omega);unfold OI at h4;rw[show((k:Int)+1-1).toNat=k by omega,hk]at h4;cases h4;exact h5
theorem q7w{p:Pg}{j:Nat}{f:Pr}(hi:it∈itsOf p j f){y:Int}(hy:y∈YD (sheetOf p) f it):(⟨it.s.id,y,1⟩:Step)∈QD p j f:=by
 unfold QD;exact x2c _ (x3c.2 ⟨it,hi,x3q.2 ⟨y,hy,rfl⟩⟩)
theorem Ni{n:Nat}{part:List Int}(hp:∀k,k<n->0<=part.getD k 0/\part.getD k 0<n){i:Nat}(hi:i<n):∀(l:List (Int×Int)){o:List Bool},o.length=n->(∀t∈l,0<=t.1/\t.1<n)->
  ((l.foldl (Z0 part) o).getD i false=true↔o.getD i false=true\/∃t∈l,part.getD t.1.toNat 0≠part.getD t.2.toNat 0/\part.getD t.1.toNat 0=i)
 |[],o,_,_=>by simp
 | t::r,o,ho,hr=>by
   rw [x6v,Ni hp hi r (by rw[M0];exact ho) fun u hu=>hr u (x2c _ hu)];have h1:=hr t x2r;have h2:=hp t.1.toNat (by omega);have key:(Z0 part o t).getD i false=true↔o.getD i false=true\/(part.getD t.1.toNat 0≠part.getD t.2.toNat 0/\part.getD t.1.toNat 0=i):=by
    unfold Z0;split
    ·rename_i he;constructor
     ·exact .inl
     ·rintro(h3|⟨h3,_⟩)
      ·exact h3
      ·exact absurd he h3
    ·rename_i he;rw[ZG (by omega)];split
     ·rename_i h3;constructor
      ·intro _;exact .inr ⟨he,by omega⟩
      ·intro _;rfl
     ·rename_i h3;constructor
      ·exact .inl
      ·rintro(h4|⟨_,h4⟩)
       ·exact h4
       ·exact absurd (by omega) h3
   rw[key,or_assoc];constructor
   ·rintro(h3|⟨h3,h4⟩|⟨u,hu,h3⟩)
    ·exact .inl h3
    ·exact .inr ⟨t,x2r,h3,h4⟩
    ·exact .inr ⟨u,x2c _ hu,h3⟩
   ·rintro(h3|⟨u,hu,h3⟩)
    ·exact .inl h3
    ·rcases x2i.1 hu with rfl|hu
     ·exact .inr (.inl h3)
     ·exact .inr (.inr ⟨u,hu,h3⟩)
theorem Ob{n:Nat}{part:List Int}(hn:0<n)(hp:∀k,k<n->0<=part.getD k 0/\part.getD k 0<n){i:Nat}(hi:i<n){l:List (Int×Int)}(hr:∀t∈l,0<=t.1/\t.1<n):
  (Dz n part l).getD i false=true↔part.getD 0 0=i\/part.getD (n-1) 0=i\/∃t∈l,part.getD t.1.toNat 0≠part.getD t.2.toNat 0/\part.getD t.1.toNat 0=i:=by
 have h0:=hp 0 hn;have h1:=hp (n-1) (by omega);unfold Dz;rw[Ni hp hi l (by simp[K0]) hr];have key:(K0 n part).getD i false=true↔part.getD 0 0=i\/part.getD (n-1) 0=i:=by
  unfold K0;rw[ZG (by rw[x5e,x5x];omega),ZG (by rw[x5x];omega)];split
  ·exact⟨fun _=>.inr (by omega),fun _=>rfl⟩
  ·split
   ·exact⟨fun _=>.inl (by omega),fun _=>rfl⟩
   ·have:(List.replicate n false).getD i false=false:=by
     rw[x2l,x3o];split<;>rfl
    rw[this];constructor
    ·intro h;cases h
    ·rintro(h|h)<;>omega
 rw[key,or_assoc]
section
variable {p:Pg}{j:Nat}{f:Pr}
theorem Q8{i:Int}(h:0<=i/\i<(cntL f.body+2:Nat)):plP p j f (QP p j (cntL f.body+2:Nat) i)/\ixI p j f (QP p j (cntL f.body+2:Nat) i)=i:=by
 unfold QP ixI UE plP loI hiI;constructor
 ·(repeat' split)<;>omega
 ·(repeat' split)<;>omega
theorem HP{x:Int}(h:plP p j f x):QP p j (cntL f.body+2:Nat) (ixI p j f x)=x:=by
 have h1:=Q8 (p:=p) (j:=j) (f:=f) (WQ h);exact PR h1.1 h h1.2
theorem Dy:prsW (QQ p j f) f=(QQ p j f).real.map (ixP p j f (cntL f.body+2:Nat)):=rfl
theorem q1d(h:QE p=true)(hj:p.procs[j]?=some f):∀t∈prsW (QQ p j f) f,(0<=t.1/\t.1<(cntL f.body+2:Nat))/\0<=t.2/\t.2<(cntL f.body+2:Nat):=fun t ht=>by
 rw[Dy]at ht;obtain⟨s,hs,rfl⟩:=x3q.1 ht;obtain⟨h1,h2⟩:=UR h hj s hs;exact⟨WQ h1,WQ h2⟩
def wE(p:Pg)(j:Nat)(f:Pr):Int->Int->Prop:=rowE (QR (cntL f.body+2) (prsW (QQ p j f) f)).1
def wR(p:Pg)(j:Nat)(f:Pr):Int->Int->Prop:=stR (QQ p j f).real
theorem q5h(h:QE p=true)(hj:p.procs[j]?=some f){i k:Int}:wE p j f i k ↔ ∃a b,wR p j f a b/\ixI p j f a=i/\ixI p j f b=k:=by
 unfold wE wR;rw[GN];constructor
 ·rintro⟨h1,_,_⟩;rw[Dy]at h1;obtain⟨s,hs,he⟩:=x3q.1 h1;exact⟨s.src,s.dst,⟨s,hs,rfl,rfl⟩,x5u Prod.fst he,x5u Prod.snd he⟩
 ·rintro⟨a,b,⟨s,hs,rfl,rfl⟩,rfl,rfl⟩;obtain⟨h1,h2⟩:=UR h hj s hs;exact⟨x3q.2 ⟨s,hs,rfl⟩,DF (WQ h1),DF (WQ h2)⟩
theorem q7c(h:QE p=true)(hj:p.procs[j]?=some f){b:Int}(hr:wR p j f a b):plP p j f a/\plP p j f b:=by
 obtain⟨s,hs,rfl,rfl⟩:=hr;exact UR h hj s hs
theorem q1b(h:QE p=true)(hj:p.procs[j]?=some f){b:Int}(ha:plP p j f a)(hb:plP p j f b):Rch (wE p j f) (ixI p j f a) (ixI p j f b)↔Rch (wR p j f) a b:=by
 constructor
 ·intro hr;obtain⟨c,h1,h2,h3⟩:=hr.closed (S:=fun k=>∃c,plP p j f c/\ixI p j f c=k/\Rch (wR p j f) a c) (by
   rintro i k ⟨c,h1,h2,h3⟩ h4;obtain⟨x,y,h5,h6,h7⟩:=(q5h h hj).1 h4;have h8:=q7c h hj h5;have:x=c:=PR h8.1 h1 (by rw[h6,h2]);subst this;exact⟨y,h8.2,h7,.tail h3 h5⟩) ⟨a,ha,rfl,.refl⟩
  rw[<-PR h1 hb h2];exact h3
 ·intro hr;exact(hr.closed (S:=fun c=>plP p j f c/\Rch (wE p j f) (ixI p j f a) (ixI p j f c)) (fun x y ⟨h1,h2⟩ h3=>⟨(q7c h hj h3).2,.tail h2 ((q5h h hj).2 ⟨x,y,h3,rfl,rfl⟩)⟩) ⟨ha,.refl⟩).2
theorem q7j(h:QE p=true)(hj:p.procs[j]?=some f){b:Int}(ha:plP p j f a)(hb:plP p j f b):sccP (wE p j f) (ixI p j f a) (ixI p j f b)↔sccP (wR p j f) a b:=by
 unfold sccP;rw[q1b h hj ha hb,q1b h hj hb ha]
def DR(p:Pg)(j:Nat)(f:Pr)(i:Int):Int:=(VI (QQ p j f) f).getD i.toNat 0
theorem Yt:VI (QQ p j f) f=Z2 (cntL f.body+2) (QR (cntL f.body+2) (prsW (QQ p j f) f)).1:=rfl
theorem Tw{i:Int}(hi:0<=i/\i<(cntL f.body+2:Nat)):MinP (wE p j f) i (DR p j f i):=by
 unfold DR;rw[Yt];exact Z3 (JN _ _).1 hi
theorem Oa{k:Nat}(hk:k<cntL f.body+2):0<=(VI (QQ p j f) f).getD k 0/\(VI (QQ p j f) f).getD k 0<(cntL f.body+2:Nat):=by
 rw[Yt];exact Tx (JN _ _).1 hk
theorem Tz:(VI (QQ p j f) f).length=cntL f.body+2:=by rw[Yt,DT]
theorem MinP.same{E:Int->Int->Prop}{x y v:Int}(h:MinP E x v)(hs:sccP E x y):MinP E y v:=⟨hs.symm.trans h.scc,fun z hz=>h.le z (hs.trans hz)⟩
theorem Oc{i k:Int}(hi:0<=i/\i<(cntL f.body+2:Nat))(hk:0<=k/\k<(cntL f.body+2:Nat)):DR p j f i=DR p j f k↔sccP (wE p j f) i k:=by
 have h1:=Tw (p:=p) (j:=j) hi;have h2:=Tw (p:=p) (j:=j) hk;constructor
 ·intro he;rw[<-he]at h2;exact h1.scc.trans h2.scc.symm
 ·intro hs;exact(h1.same hs).uniq h2
theorem MZ(h:QE p=true)(hj:p.procs[j]?=some f){b:Int}(ha:plP p j f a)(hb:plP p j f b):DR p j f (ixI p j f a)=DR p j f (ixI p j f b)↔sccP (wR p j f) a b:=by
 rw[Oc (WQ ha) (WQ hb),q7j h hj ha hb]
structure TrapP(p:Pg)(j:Nat)(f:Pr)(l:List Int)(r:Int):Prop where
 pl:plP p j f r
 mem:∀b,b∈l↔plP p j f b/\sccP (wR p j f) r b
 cl:∀b c,sccP (wR p j f) r b->wR p j f b c->sccP (wR p j f) r c
 n0:¬sccP (wR p j f) r 0
 nx:¬sccP (wR p j f) r (-1)
theorem EU{plc:Int->Int}{part:List Int}{i q:Nat}{b:Int}:b∈BX plc part i q ↔ ∃k:Nat,k<q/\part.getD k 0=i/\plc k=b:=by
 unfold BX;constructor
 ·intro h;obtain⟨k,hk,rfl⟩:=x3q.1 h;obtain⟨h1,h2⟩:=x4w.1 hk;exact⟨k,x4y.1 h1,x6d.1 h2,rfl⟩
 ·rintro⟨k,h1,h2,rfl⟩;exact x3q.2 ⟨k,x4w.2 ⟨x4y.2 h1,x6d.2 h2⟩,rfl⟩
theorem ix0:ixI p j f 0=0:=by unfold ixI UE;rw[if_pos rfl]
theorem ix1:ixI p j f (-1)=((cntL f.body+2:Nat):Int)-1:=by unfold ixI UE;rw[if_neg (by omega),if_pos rfl]
theorem pl0:plP p j f 0:=.inl rfl
theorem pl1:plP p j f (-1):=.inr (.inl rfl)
theorem Vu(k:Nat):(VI (QQ p j f) f).getD k 0=DR p j f k:=by
 unfold DR;rw[x5c]
theorem q3s(h:QE p=true)(hj:p.procs[j]?=some f){i:Nat}(hi:i<cntL f.body+2):(Dz (cntL f.body+2) (VI (QQ p j f) f) (prsW (QQ p j f) f)).getD i false=true ↔
  DR p j f (ixI p j f 0)=i\/DR p j f (ixI p j f (-1))=i\/∃a b,wR p j f a b/\¬sccP (wR p j f) a b/\DR p j f (ixI p j f a)=i:=by
 rw[Ob (by omega) (fun k hk=>Oa hk) hi fun t ht=>(q1d h hj t ht).1,ix0,ix1];have e1:(VI (QQ p j f) f).getD (cntL f.body+2-1) 0=DR p j f (((cntL f.body+2:Nat):Int)-1):=by
  unfold DR;congr 1;omega
 have e0:(VI (QQ p j f) f).getD 0 0=DR p j f 0:=rfl;rw[e0,e1];refine or_congr Iff.rfl (or_congr Iff.rfl ?_);constructor
 ·rintro⟨t,ht,h1,h2⟩;rw[Dy]at ht;obtain⟨s,hs,rfl⟩:=x3q.1 ht;obtain⟨h3,h4⟩:=UR h hj s hs;exact⟨s.src,s.dst,⟨s,hs,rfl,rfl⟩,fun hsc=>h1 ((MZ h hj h3 h4).2 hsc),h2⟩
 ·rintro⟨a,b,⟨s,hs,rfl,rfl⟩,h1,h2⟩;obtain⟨h3,h4⟩:=UR h hj s hs;exact⟨ixP p j f (cntL f.body+2:Nat) s,by rw[Dy];exact x3q.2 ⟨s,hs,rfl⟩,fun he=>h1 ((MZ h hj h3 h4).1 he),h2⟩
theorem Md{l:List Int}:l∈trapsW (QQ p j f) f ↔ ∃i:Nat,i<cntL f.body+2/\DR p j f i=i/\(Dz (cntL f.body+2) (VI (QQ p j f) f) (prsW (QQ p j f) f)).getD i false=false/\l=BX (QP p j (cntL f.body+2:Nat)) (VI (QQ p j f) f) i (cntL f.body+2):=by
 unfold trapsW Zz;rw[Tz];constructor
 ·intro hl;obtain⟨i,hi,rfl⟩:=x3q.1 hl;obtain⟨h1,h2⟩:=x4w.1 hi;unfold Jz at h2;rw[x3h,x6d,x5l,Vu]at h2;exact⟨i,x4y.1 h1,h2.1,h2.2,rfl⟩
 ·rintro⟨i,h1,h2,h3,rfl⟩;refine x3q.2 ⟨i,x4w.2 ⟨x4y.2 h1,?_⟩,rfl⟩;unfold Jz;rw[x3h,x6d,x5l,Vu];exact⟨h2,h3⟩
theorem q0v(h:QE p=true)(hj:p.procs[j]?=some f){i:Nat}(hi:i<cntL f.body+2)(hp:DR p j f i=i)(b:Int):
  b∈BX (QP p j (cntL f.body+2:Nat)) (VI (QQ p j f) f) i (cntL f.body+2)↔plP p j f b/\sccP (wR p j f) (QP p j (cntL f.body+2:Nat) i) b:=by
 obtain⟨h1,h2⟩:=Q8 (p:=p) (j:=j) (f:=f) (i:=i) (by omega);rw[EU];constructor
 ·rintro⟨k,h3,h4,rfl⟩;obtain⟨h5,h6⟩:=Q8 (p:=p) (j:=j) (f:=f) (i:=k) (by omega);refine⟨h5,(MZ h hj h1 h5).1 ?_⟩;rw[h2,h6,hp,<-Vu,h4]
 ·rintro⟨h3,h4⟩;have h5:=WQ h3;refine⟨(ixI p j f b).toNat,by omega,?_,?_⟩
  ·rw[Vu,show(((ixI p j f b).toNat:Nat):Int)=ixI p j f b by omega,<-(MZ h hj h1 h3).2 h4,h2,hp]
  ·rw[show(((ixI p j f b).toNat:Nat):Int)=ixI p j f b by omega,HP h3]
theorem EY(h:QE p=true)(hj:p.procs[j]?=some f){l:List Int}(hl:l∈trapsW (QQ p j f) f):∃r,TrapP p j f l r:=by
 obtain⟨i,hi,hp,ho,rfl⟩:=Md.1 hl;obtain⟨h1,h2⟩:=Q8 (p:=p) (j:=j) (f:=f) (i:=i) (by omega);have ho2:¬_:=fun hx=>by
  have:=(q3s h hj hi).2 hx;rw[ho]at this;cases this
 have hpr:DR p j f (ixI p j f (QP p j (cntL f.body+2:Nat) i))=i:=by rw[h2,hp]
 refine⟨_,h1,q0v h hj hi hp,fun b c hb hbc=>?_,fun hs=>ho2 (.inl ?_),fun hs=>ho2 (.inr (.inl ?_))⟩
 ·have h3:=q7c h hj hbc;by_cases hsc:sccP (wR p j f) b c
  ·exact hb.trans hsc
  ·refine absurd (.inr (.inr ⟨b,c,hbc,hsc,?_⟩)) ho2;rw[<-(MZ h hj h1 h3.1).2 hb,hpr]
 ·rw[<-(MZ h hj h1 pl0).2 hs,hpr]
 ·rw[<-(MZ h hj h1 pl1).2 hs,hpr]
end
theorem Td{p:Pg}{j:Nat}{f:Pr}(hj:p.procs[j]?=some f)(hcn:cntP p.procs<=200):(QQ p j f).real.length<=100000:=by
 obtain⟨_,_,_,hlen,hsp⟩:=QJ p;obtain⟨_,_,hle,_⟩:=hsp j f hj;have h9:=Ns (QD p j f);have h10:=Wq p j f;show(WA (QD p j f)).length<=100000;omega
theorem T7{p:Pg}(h:QE p=true){j:Nat}{f:Pr}(hj:p.procs[j]?=some f):∀it∈itsOf p j f,∀s∈fOf it,okSt s:=fun it hi s hs=>by
 obtain⟨hm,_⟩:=QK h;obtain⟨_,_,hcn⟩:=XJ h;obtain⟨_,_,_,hlen,hsp⟩:=QJ p;obtain⟨_,_,hle,_⟩:=hsp j f hj;have h1:=ZI hm hj (Wc hi);have h2:=(Y7 hi).1;unfold fOf at hs;split at hs
 ·rw[x2a.1 hs];unfold okI at h2;unfold okSt;constructor
  ·show it.s.id≠_;omega
  ·show it.next≠_;omega
 ·cases hs
theorem TW{p:Pg}(h:QE p=true){j:Nat}{f:Pr}(hj:p.procs[j]?=some f){l:List Int}(hl:l∈trapsW (QQ p j f) f):l.length<=cntL f.body+2/\∀id∈l,(QB p.procs j:Int)+1<=id/\id<=(QB p.procs j+cntL f.body:Nat):=by
 constructor
 ·obtain⟨i,_,_,_,rfl⟩:=Md.1 hl;exact Mf _ _ _ _
 ·intro id hid;obtain⟨r,ht⟩:=EY h hj hl;obtain⟨h1,h2⟩:=(ht.mem id).1 hid;rcases h1 with rfl|rfl|h1
  ·exact absurd h2 ht.n0
  ·exact absurd h2 ht.nx
  ·exact h1
theorem q4o{p:Pg}(h:QE p=true){j:Nat}{f:Pr}(hj:p.procs[j]?=some f):WayT (QQ p j f) f (cntL f.body+2):=by
 obtain⟨_,_,hcn⟩:=XJ h;obtain⟨_,_,_,hlen,hsp⟩:=QJ p;obtain⟨_,_,hle,_⟩:=hsp j f hj;refine⟨rfl,hj,by show cntP p.procs<=1000;omega,by omega,by omega,x4k (Td hj hcn) (by decide),q1d h hj,?_,fun l hl=>?_,fun s hs=>(Ux h hj).2.2 s (((JC h hj).2 s).1 hs),T7 h hj⟩
 ·have:=Mh (QP p j (cntL f.body+2:Nat)) (VI (QQ p j f) f) (Dz (cntL f.body+2) (VI (QQ p j f) f) (prsW (QQ p j f) f)) (cntL f.body+2);have e:trapsW (QQ p j f) f=Zz (QP p j (cntL f.body+2:Nat)) (VI (QQ p j f) f) (Dz (cntL f.body+2) (VI (QQ p j f) f) (prsW (QQ p j f) f)) (cntL f.body+2):=by
   unfold trapsW;rw[Tz];rfl
  rw[e];omega
 ·obtain⟨h1,h2⟩:=TW h hj hl;refine⟨by omega,fun id hid=>?_⟩;have:=h2 id hid;show 1<=id/\id<=(sheetOf p).l.length;omega
instance (a b:Step):Decidable (Xa a b):=inferInstanceAs (Decidable (_\/_))
instance:DecidableEq Step:=fun a b=>decidable_of_iff (a.src=b.src/\a.dst=b.dst/\a.kind=b.kind) ⟨fun h=>GV h.1 h.2.1 h.2.2,fun h=>by rw[h];exact⟨rfl,rfl,rfl⟩⟩
theorem q4w{a b:Step}(ha:okSt a)(hb:okSt b)(h:FU b a=false):(a.src=b.src/\a.dst=b.dst/\a.kind<=b.kind)\/Xa a b:=by
 rw[x8j,ne_eq,GC]at h;unfold Xa;by_cases h1:QT a.src=QT b.src
 ·by_cases h2:QT a.dst=QT b.dst
  ·exact .inl ⟨YX ha.1 hb.1 h1,YX ha.2 hb.2 h2,by omega⟩
  ·exact .inr (by omega)
 ·exact .inr (by omega)
theorem Zi:∀(l:List Step)(a:Step),okSt a->(∀s∈l,okSt s)->(a::l).Pairwise (fun a b=>FU b a=false)->
  (∀s∈XQ a l,Xa a s)/\(XQ a l).Pairwise Xa/\(∀s∈XQ a l,s∈l)/\∀s∈l,(s.src=a.src/\s.dst=a.dst/\a.kind<=s.kind)\/∃s'∈XQ a l,s'.src=s.src/\s'.dst=s.dst/\s'.kind<=s.kind
 |[],a,_,_,_=>by simp[XQ]
 | b::r,a,ha,hl,h=>by
   have hb:=hl b x2r;have hr:∀s∈r,okSt s:=fun s hs=>hl s (x2c _ hs);rw[x6k]at h;obtain⟨h1,h2⟩:=h;obtain⟨i1,i2,i3,i4⟩:=Zi r b hb hr h2;have hab:=q4w ha hb (h1 b x2r);rw[XQ];cases hs:ZH b a with
   | true=>
     unfold ZH at hs;simp only[x3h,x3i]at hs;have hk:a.kind<=b.kind:=by
      rcases hab with h3|h3
      ·exact h3.2.2
      ·unfold Xa at h3;rw[hs.1,hs.2]at h3;omega
     rw[x3p];refine⟨fun s hs'=>?_,i2,fun s hs'=>x2c _ (i3 s hs'),fun s hs'=>?_⟩
     ·have:=i1 s hs';unfold Xa at this⊢
      rwa[<-hs.1,<-hs.2]
     ·rcases x2i.1 hs' with rfl|hs'
      ·exact .inl ⟨hs.1,hs.2,hk⟩
      ·rcases i4 s hs' with⟨h3,h4,h5⟩|h3
       ·exact .inl ⟨by rw[h3,hs.1],by rw[h4,hs.2],by omega⟩
       ·exact .inr h3
   | false=>
     have hlt:Xa a b:=by
      rcases hab with h3|h3
      ·unfold ZH at hs;simp[h3.1,h3.2.1]at hs
      ·exact h3
     rw[x3t];refine⟨fun s hs'=>?_,x6k.2 ⟨i1,i2⟩,fun s hs'=>?_,fun s hs'=>?_⟩
     ·rcases x2i.1 hs' with rfl|hs'
      ·exact hlt
      ·exact Xe hlt (i1 s hs')
     ·rcases x2i.1 hs' with rfl|hs'
      ·exact x2r
      ·exact x2c _ (i3 s hs')
     ·rcases x2i.1 hs' with rfl|hs'
      ·exact .inr ⟨s,x2r,rfl,rfl,Int.le_refl _⟩
      ·rcases i4 s hs' with⟨h3,h4,h5⟩|⟨s',h3,h4⟩
       ·exact .inr ⟨b,x2r,h3.symm,h4.symm,h5⟩
       ·exact .inr ⟨s',x2c _ h3,h4⟩
theorem DL{l:List Step}(hok:∀s∈l,okSt s):(WA l).Pairwise Xa/\(∀s∈WA l,s∈l)/\∀s∈l,∃s'∈WA l,s'.src=s.src/\s'.dst=s.dst/\s'.kind<=s.kind:=by
 have hp:∀s,s∈YC l↔s∈l:=fun s=>(Jq l).mem_iff;have hs:=Qt l;unfold WA;cases hq:YC l with
 | nil=>
   rw[hq]at hp;refine⟨by simp[NB],by simp[NB],fun s hs=>?_⟩;have:=(hp s).2 hs;cases this
 | cons a r=>
   rw[hq]at hp hs;have hok':∀s∈a::r,okSt s:=fun s h=>hok s ((hp s).1 h);obtain⟨h1,h2,h3,h4⟩:=Zi r a (hok' a x2r) (fun s h=>hok' s (x2c _ h)) hs;rw[NB];refine⟨x6k.2 ⟨h1,h2⟩,fun s hs'=>?_,fun s hs'=>?_⟩
   ·rcases x2i.1 hs' with rfl|hs'
    ·exact(hp s).1 x2r
    ·exact(hp s).1 (x2c _ (h3 s hs'))
   ·rcases x2i.1 ((hp s).2 hs')with rfl|hs'
    ·exact⟨s,x2r,rfl,rfl,Int.le_refl _⟩
    ·rcases h4 s hs' with⟨h5,h6,h7⟩|⟨s',h5,h6⟩
     ·exact⟨a,x2r,h5.symm,h6.symm,h7⟩
     ·exact⟨s',x2c _ h5,h6⟩
theorem Am{l:List Step}(h:l.Pairwise Xa){a b:Step}(ha:a∈l)(hb:b∈l)(h1:a.src=b.src)(h2:a.dst=b.dst):a=b:=by
 have hn:∀{x y:Step},x.src=y.src->x.dst=y.dst->¬Xa x y:=fun {x y} e1 e2 hlt=>by
  unfold Xa at hlt;rw[e1,e2]at hlt;omega
 induction h with
 |nil=>cases ha
 | @cons c r hc hr ih=>
   rcases x2i.1 ha with e1|ha'
   ·rcases x2i.1 hb with e2|hb'
    ·rw[e1,e2]
    ·exact absurd (hc b hb') (by rw[<-e1];exact hn h1 h2)
   ·rcases x2i.1 hb with e2|hb'
    ·exact absurd (hc a ha') (by rw[<-e2];exact hn h1.symm h2.symm)
    ·exact ih ha' hb'
theorem T8{l m:List Step}(hok:∀s∈l,okSt s)(h1:m.Pairwise Xa)(h2:∀s∈m,s∈l)(h3:∀s∈l,∃s'∈m,s'.src=s.src/\s'.dst=s.dst/\s'.kind<=s.kind):WA l=m:=by
 obtain⟨g1,g2,g3⟩:=DL hok;refine H9 g1 h1 fun s=>⟨fun hs=>?_,fun hs=>?_⟩
 ·obtain⟨a,ha,h4,h5,h6⟩:=h3 s (g2 s hs);obtain⟨b,hb,h7,h8,h9⟩:=g3 a (h2 a ha);have:=Am g1 hb hs (h7.trans h4) (h8.trans h5);subst this;have:a=b:=GV h4 h5 (by omega);rw[<-this];exact ha
 ·obtain⟨a,ha,h4,h5,h6⟩:=g3 s (h2 s hs);obtain⟨b,hb,h7,h8,h9⟩:=h3 a (g2 a ha);have:=Am h1 hb hs (h7.trans h4) (h8.trans h5);subst this;have:a=b:=GV h4 h5 (by omega);rw[<-this];exact ha
theorem q7y:(QQ someP 1 f1).real=[⟨0,5,1⟩,⟨5,6,1⟩,⟨6,7,1⟩,⟨6,8,1⟩,⟨7,-1,1⟩,⟨8,-1,1⟩]:=q6e
theorem q7u:(QQ someP 0 f0).real=[⟨0,1,1⟩,⟨1,2,1⟩,⟨2,3,1⟩,⟨3,4,1⟩,⟨4,-1,1⟩]:=q6a
theorem q8z:prsW (QQ someP 1 f1) f1=[(0,1),(1,2),(2,3),(2,4),(3,5),(4,5)]:=by
 unfold prsW;rw[q7y]
 kernel_rfl
theorem q8x:prsW (QQ someP 0 f0) f0=[(0,1),(1,2),(2,3),(3,4),(4,5)]:=by
 unfold prsW;rw[q7u]
 kernel_rfl
theorem q7p:trapsW (QQ someP 1 f1) f1=[]:=by
 unfold trapsW VI;rw[q8z]
 kernel_rfl
theorem q7b:trapsW (QQ someP 0 f0) f0=[]:=by
 unfold trapsW VI;rw[q8x]
 kernel_rfl
theorem q8h:LS (QQ someP 1 f1) f1=[⟨0,5,1⟩,⟨5,6,1⟩,⟨6,7,1⟩,⟨6,8,1⟩,⟨7,-1,1⟩,⟨8,-1,1⟩]:=by
 unfold LS YV;rw[q7p,q7y];exact T8 (by unfold okSt;decide) (by decide) (by decide) (by decide)
theorem Of{p:Pg}(h:QE p=true){j:Nat}{f:Pr}(hj:p.procs[j]?=some f):¬wR p j f a 0:=fun⟨s,hs,_,hd⟩=>by
 have h1:=((Ux h hj).2.1 s (((JC h hj).2 s).1 hs)).2;unfold okI at h1;omega
theorem IX{p:Pg}(h:QE p=true){j:Nat}{f:Pr}(hj:p.procs[j]?=some f):wR p j f 0 (q6j p j f):=⟨⟨0,q6j p j f,1⟩,((JC h hj).2 _).2 (by unfold QD q6j;exact x2r),rfl,rfl⟩
theorem Es{p:Pg}(h:QE p=true){j:Nat}{f:Pr}(hj:p.procs[j]?=some f){t:S}(ht:t∈flL f.body):OI p t.id=some t:=by
 have hb:=ZI (QK h).1 hj ht;obtain⟨u,hu,h1,h2⟩:=Vd h hj hb.1 hb.2;obtain⟨it,hi,rfl⟩:=IS (p:=p) (j:=j) ht;obtain⟨iu,hiu,rfl⟩:=IS (p:=p) (j:=j) hu;rw[q1z (QK h).1 hj hiu hi h2]at h1;exact h1
theorem Qe{p:Pg}(h:QE p=true){j:Nat}{f:Pr}(hj:p.procs[j]?=some f){s:Step}:s∈YV (QQ p j f) f ↔ ∃l∈trapsW (QQ p j f) f,∃t∈flL f.body,t.id∈l/\t.kind=10/\s=⟨t.id,-1,3⟩:=by
 unfold YV;constructor
 ·intro hs;obtain⟨l,hl,hs⟩:=x3c.1 hs;obtain⟨id,hid,hs⟩:=x3c.1 hs;have hb:=(TW h hj hl).2 id hid;obtain⟨t,ht,h1,h2⟩:=Vd h hj hb.1 hb.2;have e:(QQ p j f).p=p:=rfl;unfold vOf at hs;rw[e,h1]at hs;simp only at hs;split at hs
  ·rename_i hk;exact⟨l,hl,t,ht,by rw[h2];exact hid,hk,by rw[h2];simpa using hs⟩
  ·cases hs
 ·rintro⟨l,hl,t,ht,hid,hk,rfl⟩;refine x3c.2 ⟨l,hl,x3c.2 ⟨t.id,hid,?_⟩⟩;have e:(QQ p j f).p=p:=rfl;unfold vOf;rw[e,Es h hj ht];simp[hk]
theorem Fk{p:Pg}(h:QE p=true){j:Nat}{f:Pr}(hj:p.procs[j]?=some f):∀s∈YV (QQ p j f) f++(QQ p j f).real,okSt s:=fun s hs=>
 (x3x.1 hs).elim ((q4o h hj).virt_ok s) ((q4o h hj).hok s)
theorem Ca{p:Pg}(h:QE p=true){j:Nat}{f:Pr}(hj:p.procs[j]?=some f){s:Step}(hs:s∈YV (QQ p j f) f++(QQ p j f).real):stR (LS (QQ p j f) f) s.src s.dst:=by
 obtain⟨s',h1,h2,h3,_⟩:=(DL (Fk h hj)).2.2 s hs;exact⟨s',h1,h2,h3⟩
theorem Fy{p:Pg}(h:QE p=true){j:Nat}{f:Pr}(hj:p.procs[j]?=some f):(LS (QQ p j f) f).length<=200000:=by
 obtain⟨_,_,hcn⟩:=XJ h;obtain⟨_,_,_,hlen,hsp⟩:=QJ p;obtain⟨_,_,hle,_⟩:=hsp j f hj;obtain⟨h1,h2,_⟩:=DL (Fk h hj);have h3:=Ym (l:=LS (QQ p j f) f) (m:=(QQ p j f).real++(KO (QB p.procs j) (cntL f.body)).map fun id=>⟨id,-1,3⟩) (Oz h1) fun s hs=>by
  rcases x3x.1 (h2 s hs)with h4|h4
  ·obtain⟨l,hl,t,ht,hid,hk,rfl⟩:=(Qe h hj).1 h4;have hb:=ZI (QK h).1 hj ht;exact x3x.2 (.inr (x3q.2 ⟨t.id,RP hb.1 hb.2,rfl⟩))
  ·exact x3x.2 (.inl h4)
 rw[x2s,x2m]at h3;have h4:=Td hj hcn;have h5:(KO (QB p.procs j) (cntL f.body)).length=cntL f.body:=by unfold KO;simp
 omega
theorem q2t{p:Pg}(h:QE p=true){j:Nat}{f:Pr}(hj:p.procs[j]?=some f){x:RI}(hx:x∈GB f):x.s∈flL f.body:=by
 rw[LI (QK h).1 (x3k hj)]at hx;rw[<-show(flatU f).map RI.s=flL f.body from N0 1 0 false f.body];exact x3q.2 ⟨x,hx,rfl⟩
def RI0:RI:=⟨.mk 0 0 [] [] [] (.mk 0 0 [] []) false [] [] [],0,0,false⟩
def CV(id:Int)(f:Pr):Option (RI×Str):=((GB f).find? fun x=>decide (x.s.id=id)).map fun x=>(x,f.name)
def Pd(p:Pg)(id:Int):Option (RI×Str):=p.procs.findSome? (CV id)
def Uu(p:Pg)(id:Int):RI×Str×Bool:=match Pd p id with
 |some (x,n)=>(x,n,true)
 |none=>(RI0,[],false)
theorem Wr.u64{n:Int}{K:Int->Prop}(h1:0<=n)(h2:n<=18446744073709551615)(hk:K n):Wr .u64 n K:=
 .fit ⟨by simp[IntKind.min,IntKind.signed];omega,by simp[IntKind.max,IntKind.signed,IntKind.bits];omega⟩ hk
theorem Cu{P:Program}{hr:Bool}{s:St}{o:Oper}{K:LV->Prop}{t u:TypeId}{x y:Operand}(hop:o.op=.binOp .shr t x y u)(ha:0<=a)(hx:QM s.sl x=.p (.int .u64 a))(hy:QM s.sl y=.p (.int .u64 1)){m:Int}(hm:m=a/2)(hK:K (.p (.int .u64 m))):ValO P hr s o K:=by
 subst hm;refine⟨fun σ β ac w hs _=>⟨_,.int .u64 (a/2),hK,.p (.int _ _),fun w' _ _=>?_⟩⟩;have h1:=QZ hs x;have h2:=QZ hs y;rw[hx]at h1;rw[hy]at h2;cases h1 with
 | p h1=>
   cases h2 with
   | p h2=>
     have key:∀(n:Int)(v:Value),Rep σ (.int .u64 n) v->v=.int .u64 n:=fun n v hv=>by
      cases hv;rfl
     have e1:=key _ _ h1;have e2:=key _ _ h2;have e3:a.fdiv (2^1)=a/2:=Int.fdiv_eq_ediv_of_nonneg _ (by decide);have hg:(eqGuard .shr t x y (.int .u64 a) (.int .u64 1)).run P w'=.ok () w':=by unfold eqGuard;rfl
     simp only[execOp,hop,e1,e2,Sem.run_bind,hg,Result.andThen_ok,binOp,Op.shift];rw[if_neg (by decide)];simp only[show min (1:Int).toNat IntKind.u64.bits=1 by decide,e3];rfl
theorem WW(l m:List Str):SpecP prog 89 [eStrs l,eStrs m] (fun r=>r=.bool (decide (l=m))):=by
 refine sB YG func89 rfl call89 ?_;conv=>whnf
 have h1:(l.map AV.str).length=l.length:=x2m _;have h2:(m.map AV.str).length=m.length:=x2m _;repeat' (first|(refine iM fun _=>?_;conv=>whnf)|(apply bE<;>intro _<;>first|omega|conv=>whnf))
 all_goals first
  |exact RetK.ff (x4i fun h=>by subst h;omega)
  |skip
 have hlen:l.length=m.length:=by omega
 refine LoopK.inv QY (fun j:Nat=>⟨[(0,.p (eStrs l)),(1,.p (eStrs m)),(12,.p (.int .i64 (l.map AV.str).length)),(13,.p (.int .i64 j))],[]⟩) (fun j=>j<=l.length/\l.take j=m.take j) (fun j=>l.length-j) 0 (Le.of_eq rfl) ⟨x3z _,rfl⟩ ?_;rintro j ⟨h3,h4⟩;rcases x3v j l.length with hj|hj
 ·have hjm:j<m.length:=by omega
  have hst:l[j]=m[j]->l.take (j+1)=m.take (j+1):=fun he=>by rw[x3u hj,x3u hjm,h4,he]
  have hno:l[j]≠m[j]->¬l=m:=fun hne he=>hne (by subst he;rfl);conv=>whnf
  repeat' (first|((first|refine dA ?_|(refine iA fun _=>?_)|refine wI ?_);conv=>whnf)|(apply bD<;>intro _<;>first|omega|conv=>whnf)|(apply bN<;>intro _<;>conv=>whnf))
  all_goals first
   | (have h9:l[j]=m[j]:=eq_of_beq (by assumption)
      exact⟨j+1,⟨hj,hst h9⟩,by omega,Le.of_eq rfl⟩)
   | (have h9:¬l[j]=m[j]:=by
       have h8:(l[j]==m[j])=false:=by assumption
       simpa using h8
      exact RetK.ff (x4i (hno h9)))
 ·rw[x3f hj,x3f (by omega)]at h4;conv=>whnf
  repeat' (apply bD<;>intro _<;>first|omega|conv=>whnf)
  all_goals exact RetK.tt (x5g h4)
theorem UB(a:Str):SpecP prog 162 [.str a] (fun r=>r=.bool false):=by
 refine sB PS func162 rfl call162 ?_;conv=>whnf
 skip
 all_goals exact RetK.bool (by simp)
theorem PB(a:Str):SpecP prog 200 [.str a] (fun r=>r=.bool false):=by
 refine sB FK func200 rfl call200 ?_;conv=>whnf
 skip
 all_goals exact RetK.bool (by simp)
theorem Wp(a b:Str):SpecP prog 199 [.str a,.str b] (fun r=>r=.bool (Op.bytesLess a b)):=by
 refine sB MR func199 rfl call199 ?_;conv=>whnf
 repeat' (first|(refine cP (UB a) ?_;conv=>whnf)|(apply bB<;>intro _<;>conv=>whnf))
 all_goals first
  |contradiction
  |exact RetK.p rfl
theorem VB(l:List Str)(x:Str)(hs:l.Pairwise ltT)(hlen:l.length<=1000000000):SpecP prog 158 [eStrs l,.str x] (fun r=>∃k:Int,r=.tup [.int .i64 k,.bool (inS l x)]):=by
 refine sB WR func158 rfl call158 ?_;conv=>whnf
 have hll:(l.map AV.str).length=l.length:=x2m _;repeat' (refine iM fun _=>?_;conv=>whnf)
 refine LoopK.inv QY (fun y:Nat×Nat=>⟨[(0,.p (eStrs l)),(1,.p (.str x)),(6,.p (.int .i64 (l.map AV.str).length)),(7,.p (.int .i64 y.1)),(8,.p (.int .i64 y.2))],[]⟩) (fun y=>y.1<=y.2/\y.2<=l.length/\(∀(k:Nat)(h:k<l.length),k<y.1->ltT l[k] x)/\∀(k:Nat)(h:k<l.length),y.2<=k->¬ltT l[k] x) (fun y=>y.2-y.1) (0,l.length) (Le.of_eq (by rw[hll];rfl)) ⟨x3z _,x3g _,fun k h h1=>by simp only at h1;omega,fun k h h1=>by simp only at h1;omega⟩ ?_;rintro⟨i,j⟩ ⟨h1,h2,h3,h4⟩;simp only at h1 h2 h3 h4⊢;have hlt:∀(a b:Nat)(ha:a<l.length)(hb:b<l.length),a<b->ltT l[a] l[b]:=fun a b ha hb hab=>x7c.1 hs a b ha hb hab;rcases x3v i j with hij|hij
 ·have hh:(i+j)/2<l.length:=by omega
  have hL:=Wp l[(i+j)/2] x;conv=>whnf
  repeat' (first|((first|(refine iA fun _=>?_)|refine wI ?_|refine Wr.u64 (by omega) (by omega) ?_|refine Cu rfl (by omega) rfl rfl (m:=(((i+j)/2:Nat):Int)) (by omega) ?_|refine cP hL ?_);conv=>whnf)|(apply bD<;>intro _<;>first|omega|conv=>whnf)|(apply bB<;>intro _<;>conv=>whnf))
  all_goals first
   | (have h9:Op.bytesLess l[(i+j)/2] x=true:=by assumption
      refine⟨((i+j)/2+1,j),⟨by simp only;omega,h2,fun k hk hk2=>?_,h4⟩,by simp only;omega,Le.of_eq rfl⟩;simp only at hk2;rcases x3v k ((i+j)/2)with h10|h10
      ·exact ltT.trans _ _ _ (hlt _ _ hk hh h10) h9
      ·have:k=(i+j)/2:=by omega
       subst this;exact h9)
   | (have h9:Op.bytesLess l[(i+j)/2] x=false:=by assumption
      have h11:¬ltT l[(i+j)/2] x:=fun h=>by unfold ltT at h;rw[h9]at h;cases h
      refine⟨(i,(i+j)/2),⟨by simp only;omega,by simp only;omega,h3,fun k hk hk2 h12=>?_⟩,by simp only;omega,Le.of_eq rfl⟩;simp only at hk2;rcases x3v ((i+j)/2) k with h10|h10
      ·exact h11 (ltT.trans _ _ _ (hlt _ _ hh hk h10) h12)
      ·have:k=(i+j)/2:=by omega
       subst this;exact h11 h12)
 ·obtain rfl:i=j:=by omega
  rcases x3v i l.length with hi|hi
  ·have hin:inS l x=(l[i]==x):=by
    rw[x7k,WP,x6d];constructor
    ·intro hx;obtain⟨k,hk,rfl⟩:=x4t.1 hx;rcases Nat.lt_trichotomy k i with h5|h5|h5
     ·exact absurd (h3 k hk h5) (ltT.irr _)
     ·subst h5;rfl
     ·exact absurd (hlt i k hi hk h5) (h4 i hi (x3g _))
    ·intro h5;rw[<-h5];exact x3w hi
   have hN:=PB l[i];conv=>whnf
   repeat' (first|((first|(refine iA fun _=>?_)|refine cP hN ?_);conv=>whnf)|(apply bD<;>intro _<;>first|omega|conv=>whnf)|(apply bB<;>intro _<;>conv=>whnf))
   all_goals first
    |(exfalso;omega)
    |(exfalso;simp_all;done)
    | (have h9:inS l x=true:=by rw[hin];assumption
       exact⟨_,.p (Sub.tup (.cons (Sub.refl _) (.cons (Sub.tt h9) .nil))),_,rfl⟩)
    | (have h9:inS l x=false:=by rw[hin];assumption
       exact⟨_,.p (Sub.tup (.cons (Sub.refl _) (.cons (Sub.ff h9) .nil))),_,rfl⟩)
  ·have hin:inS l x=false:=by
    cases h5:inS l x with
    |false=>rfl
    | true=>
      obtain⟨k,hk,h6⟩:=x4t.1 (WP.1 h5);exact absurd (h3 k hk (by omega)) (by rw[h6];exact ltT.irr _)
   conv=>whnf
   repeat' (apply bD<;>intro _<;>first|omega|conv=>whnf)
   all_goals first
    |(exfalso;omega)
    |exact⟨_,.p (Sub.tup (.cons (Sub.refl _) (.cons (Sub.ff hin) .nil))),_,rfl⟩
    |exact⟨_,.p (Sub.refl _),_,by rw[hin];rfl⟩
theorem Q4(l:List Str)(x:Str)(hs:l.Pairwise ltT)(hlen:l.length<=1000000000):SpecP prog 99 [eStrs l,.str x] (fun r=>r=.bool (inS l x)):=by
 refine sB TD func99 rfl call99 ?_;conv=>whnf
 have hB:=VB l x hs hlen;repeat' (refine CallK.pure hB (.cons (Sub.refl _) (.cons (Sub.refl _) .nil)) ?_;rintro _ ⟨k,rfl⟩;conv=>whnf)
 all_goals first
  |exact RetK.p rfl
theorem M1{σ:Mem}{a:Param}{v:Value}(h:Rep σ (.agg a.cells) v):v=.agg #[.string ⟨a.name.toArray⟩,.bool a.ref]:=by
 cases h with
 | agg cs vs u hn hc hr=>
   have hs:vs.size=2:=hn;have g0:vs[0]?=some (.string ⟨a.name.toArray⟩):=by
    have h1:=hc 0 (.str a.name) rfl;have h2:=hr 0 (.str a.name) rfl;generalize u 0=w at h1 h2;cases h2;exact h1
   have g1:vs[1]?=some (.bool a.ref):=by
    have h1:=hc 1 (.bool a.ref) rfl;have h2:=hr 1 (.bool a.ref) rfl;generalize u 1=w at h1 h2;cases h2;exact h1
   congr 1;apply Array.ext_getElem?;intro i
   match i with
   |0=>exact g0
   |1=>exact g1
   |i+2=>rw[x8a (by omega),x8a (by simp)]
instance:DecidableEq Param:=fun a b=>decidable_of_iff (a.name=b.name/\a.ref=b.ref) (by cases a;cases b;simp)
theorem ValO.params{hr:Bool}{s:St}{o:Oper}{K:LV->Prop}{x y:Operand}{u:TypeId}(hop:o.op=.binOp .eql 59 x y u){a b:Param}(hx:QM s.sl x=.p (.agg a.cells))(hy:QM s.sl y=.p (.agg b.cells))(hK:K (.p (.bool (decide (a=b))))):ValO prog hr s o K:=by
 refine⟨fun σ β ac w hs _=>⟨_,.bool (decide (a=b)),hK,.p (.bool _),fun w' _ _=>?_⟩⟩;have h1:ac.eval x=.agg #[.string ⟨a.name.toArray⟩,.bool a.ref]:=by
  have:=QZ hs x;rw[hx]at this;cases this with
  |p h=>exact M1 h
 have h2:ac.eval y=.agg #[.string ⟨b.name.toArray⟩,.bool b.ref]:=by
  have:=QZ hs y;rw[hy]at this;cases this with
  |p h=>exact M1 h
 have hu:prog.underlying 59=some (.struct (prog.fieldsOf 59)):=by kernel_rfl
 have hs':prog.underlying 9=some .string:=by kernel_rfl
 have hb':prog.underlying 4=some .bool:=by kernel_rfl
 have hf:(prog.fieldsOf 59).toList=(match ty59.desc with |.struct fs=>fs.toList|_=>[]):=by kernel_rfl
 have he:(Op.equalIn 10000 59 (.agg #[.string ⟨a.name.toArray⟩,.bool a.ref]) (.agg #[.string ⟨b.name.toArray⟩,.bool b.ref])).run prog w'=.ok (decide (a=b)) w':=by
  rw[run_equalIn_struct w' 9999 _ _ _ hu (by kernel_rfl),hf];simp only[ty59,Op.eqFields];have p0:∀(x:ByteArray)(y:Bool),(part 9 #[.string x,.bool y] 0).run prog w'=.ok (.string x) w':=fun x y=>run_part_plain w' (by kernel_rfl) rfl;have p1:∀(x:ByteArray)(y:Bool),(part 4 #[.string x,.bool y] 1).run prog w'=.ok (.bool y) w':=fun x y=>run_part_plain w' (by kernel_rfl) rfl;have es:∀x y:ByteArray,(Op.equalIn 9999 9 (.string x) (.string y)).run prog w'=.ok (x.toList==y.toList) w':=fun x y=>run_equalIn_string (P:=prog) w' 9998 9 x y hs';have eb:∀x y:Bool,(Op.equalIn 9999 4 (.bool x) (.bool y)).run prog w'=.ok (x==y) w':=fun x y=>run_equalIn_bool (P:=prog) w' 9998 4 x y hb';have e:decide (a=b)=(((⟨a.name.toArray⟩:ByteArray).toList==(⟨b.name.toArray⟩:ByteArray).toList)&&(a.ref==b.ref)):=by
   rw[ByteArray.toList_eq,ByteArray.toList_eq,x7k,x8y,x3h,x6d,x6d];cases a;cases b;simp
  simp only[ne_eq,show ¬("Name" = "_") by decide,show ¬("Ref" = "_") by decide,not_false_eq_true,if_true,Sem.run_bind,p0,p1,Result.andThen_ok,es,eb,Sem.run_ite,Sem.run_pure,e];cases((⟨a.name.toArray⟩:ByteArray).toList==(⟨b.name.toArray⟩:ByteArray).toList)<;>cases(a.ref==b.ref)<;>simp
 simp only[execOp,hop,h1,h2,Sem.run_bind,run_eqGuard_agg _ _ _ _ _ _ _ (show prog.eqGuardType prog.depth 59=false by kernel_rfl),Result.andThen_ok,run_eql_struct,he,Sem.run_pure]
theorem UX(l:List Param)(x:Param):SpecP prog 189 [.sl (l.map fun a=>.agg a.cells),.agg x.cells] (fun r=>∃k:Int,r=.int .i64 k/\(0<=k↔x∈l)):=by
 refine sB VX func189 rfl call189 ?_;conv=>whnf
 have hll:(l.map fun a=>AV.agg a.cells).length=l.length:=x2m _;repeat' (refine iM fun _=>?_;conv=>whnf)
 refine LoopK.inv QY (fun j:Nat=>⟨[(0,.p (.sl (l.map fun a=>.agg a.cells))),(3,.p (.ip x.cells)),(7,.p (.int .i64 (l.map fun a=>AV.agg a.cells).length)),(8,.p (.int .i64 j))],[]⟩) (fun j=>j<=l.length/\x∉l.take j) (fun j=>l.length-j) 0 (Le.of_eq rfl) ⟨x3z _,by simp⟩ ?_;rintro j ⟨h2,h3⟩;rcases x3v j l.length with hj|hj
 ·have htk:x∈l.take (j+1)↔x∈l.take j\/x=l[j]:=HB hj;conv=>whnf
  repeat' (first|((first|refine dA ?_|(refine iA fun _=>?_)|refine wI ?_|refine ValO.params (a:=x) (b:=l[j]) rfl rfl rfl ?_);conv=>whnf)|(apply bD<;>intro _<;>first|omega|conv=>whnf))
  all_goals first
   | (have h9:x=l[j]:=by assumption
      exact⟨_,.p (Sub.refl _),j,rfl,⟨fun _=>by rw[h9];exact x3w hj,fun _=>by omega⟩⟩)
   | (have h9:¬x=l[j]:=by assumption
      exact⟨j+1,⟨hj,fun h8=>(htk.1 h8).elim h3 h9⟩,by omega,Le.of_eq rfl⟩)
 ·rw[x3f hj]at h3;conv=>whnf
  repeat' (apply bD<;>intro _<;>first|omega|conv=>whnf)
  all_goals exact⟨_,.p (Sub.refl _),-1,rfl,by simp[h3]⟩
theorem WI(l:List Param)(x:Param):SpecP prog 147 [.sl (l.map fun a=>.agg a.cells),.agg x.cells] (fun r=>r=.bool (decide (x∈l))):=by
 refine sB WJ func147 rfl call147 ?_;conv=>whnf
 have hI:=UX l x;repeat' (refine CallK.pure hI (.cons (Sub.refl _) (.cons (Sub.refl _) .nil)) ?_;rintro _ ⟨k,rfl,hk⟩;conv=>whnf)
 all_goals first
  |exact RetK.bool (by rw[x7k,x8y,x8y];exact hk)
theorem q5n{p:Pg}(h:QE p=true){j:Nat}{f:Pr}(hj:p.procs[j]?=some f):∀s∈Kv (QQ p j f) f,okSt s:=fun s hs=>by
 unfold Kv at hs;rcases x3x.1 hs with hs|hs
 ·rcases x3x.1 hs with hs|hs
  ·exact Fk h hj s hs
  ·rw[x2a.1 hs];exact⟨by decide,by decide⟩
 ·obtain⟨it,hi,hs⟩:=x3c.1 hs;exact T7 h hj it hi s hs
theorem q3j{p:Pg}(h:QE p=true){j:Nat}{f:Pr}(hj:p.procs[j]?=some f)(hi:it∈itsOf p j f):(sheetOf p).l[(it.s.id-1).toNat]?=some it:=by
 have hb:=ZI (QK h).1 hj (Wc hi);obtain⟨it',h1,h2⟩:=DE hj (k:=(it.s.id-1).toNat) (by omega) (by omega);have h3:=Tl h hj (by omega) (by omega) h1;rw[h1,q1z (QK h).1 hj h2 hi (by omega)]
def UM(n:Nat):List Pr->List Pr
 |[]=>[]
 |f::r=>⟨f.name,f.params,f.vars,nmL n f.body,f.fin⟩::UM (n+cntL f.body) r
def q5u(p:Pg):Pg:=⟨p.globals,UM 0 p.procs⟩
theorem Ov{p:Pg}(h:QE p=true):∃(k:Nat) (f:Pr),p.procs[k]?=some f/\p.procs.filter (fun f=>f.name==mainS)=[f]/\f.name=mainS/\f.params=[]:=by
 obtain⟨hm,hs,_⟩:=QK h;obtain⟨_,hb,_⟩:=KD hs;unfold ZY at hb;simp only[x6s,Bool.not_eq_false']at hb;obtain⟨_,h2,h3,h4⟩:=hb;have hnd:=B0 h2;obtain⟨k,hk,h5,h6⟩:=T4 h3;have h7:=x6n h6;have hn:p.procs[k].name=mainS:=by
  have:mainS=p.procs[k].name:=by simpa using h7
  exact this.symm
 rw [h6]at h4;have hp:p.procs[k].params=[]:=x4e (by simpa using h4);refine⟨k,p.procs[k],x2n hk,?_,hn,hp⟩;have key:∀(l:List Pr),(l.map Pr.name).Nodup->∀f∈l,f.name=mainS->l.filter (fun f=>f.name==mainS)=[f]:=fun l=>by
  induction l with
  |nil=>intro _ f hf;cases hf
  | cons g r ih=>
    intro hnd f hf hfn;rw[x3l,x4r]at hnd;rcases x2i.1 hf with rfl|hf
    ·rw[x5o (by simp[hfn])];congr 1;rw[List.filter_eq_nil_iff];intro g hg he;exact hnd.1 (by rw[hfn,<-show g.name=mainS by simpa using he];exact x6m hg)
    ·rw[x6w (by
      intro he;exact hnd.1 (by rw[show g.name=mainS by simpa using he,<-hfn];exact x6m hf))]
     exact ih hnd.2 f hf hfn
 exact key p.procs hnd _ (x3w hk) hn
section
variable {p:Pg}{k:Nat}{f:Pr}
end
theorem Gf:∀(l:List Pr){n:Nat}{m:Int},XG n l=some m->∀(j:Nat)(f:Pr),l[j]?=some f->∃m',WY 1 ((n+QB l j:Nat):Int) f.body=some m'
 |[],_,_,_,j,f,hj=>by simp at hj
 | g::r,n,m,h,j,f,hj=>by
   rw[XG]at h;cases hm:JX g<;>rw[hm]at h
   ·cases h
   simp only[x3p]at h;split at h
   ·rename_i m1 h1;cases j with
    | zero=>
      cases hj;exact⟨m1,h1⟩
    | succ j=>
      have h2:=KF _ _ g.body h1;have h':XG ((n+cntL g.body:Nat):Int) r=some m:=by rw[<-h,h2];rfl
      obtain⟨m',h3⟩:=Gf r h' j f (by simpa using hj);exact⟨m',by rw[<-h3,QB];congr 1;omega⟩
   ·cases h
theorem q3p{p:Pg}(h:YL p=true){j:Nat}{f:Pr}(hj:p.procs[j]?=some f):∃m,WY 1 ((QB p.procs j:Nat):Int) f.body=some m:=by
 unfold YL at h;simp only[x3h]at h;obtain⟨m,hm⟩:=Option.isSome_iff_exists.1 h.2;obtain⟨m',h'⟩:=Gf p.procs (n:=0) hm j f hj;exact⟨m',by rw[<-h'];congr 1;omega⟩
theorem H4:∀(l:List Int)(b:List Bool)(i:Nat),i<b.length->((KP l b).getD i false=true↔b.getD i false=true\/∃a∈l,a.toNat=i)
 |[],b,i,hi=>by simp[KP]
 | a::r,b,i,hi=>by
   have ih:=H4 r (b.set a.toNat true) i (by rw[x5e];exact hi);have e:KP (a::r) b=KP r (b.set a.toNat true):=rfl;rw[e,ih];simp only[x2i,exists_eq_or_imp];by_cases ha:a.toNat=i
   ·simp[ha,hi,x2l,x7x]
   ·simp[ha,x2l,x7x]
theorem T1{p:Pg}(h:QE p=true){j:Nat}{f:Pr}(hj:p.procs[j]?=some f){y:Int}(hy:plP p j f y):(QQ p j f).live.getD (ixI p j f y).toNat false=true↔Rch (wR p j f) 0 y:=by
 have hrng:=WQ hy;have hl:(QQ p j f).live=KP (FZ 0 (ZP (QR (cntL f.body+2) ((QQ p j f).real.map (ixP p j f (cntL f.body+2:Nat)))).1 [0])) (List.replicate (cntL f.body+2) false):=rfl;rw[hl,H4 _ _ _ (by rw[x5x];omega)];have h0:(List.replicate (cntL f.body+2) false).getD (ixI p j f y).toNat false=false:=by
  rw[x2l,x3o];split<;>rfl
 rw[h0];have hs:=SA (F:=(QQ p j f).real) (UR h hj) hy;unfold wR;rw[<-hs];constructor
 ·rintro(h1|⟨a,h1,h2⟩)
  ·cases h1
  ·have ha:=D8 _ _ _ h1
   rwa[show ixI p j f y=a by omega]
 ·exact fun h1=>.inr ⟨_,h1,rfl⟩
section
variable {p:Pg}{k:Nat}{f:Pr}
end
theorem Pe:∀(l:List (Int×Int))(rows:List (List Int)),(∀t∈l,0<=t.1/\t.1<rows.length)->∀(a:Nat)(x:Int),x∈(l.foldl nxE rows).getD a []↔x∈rows.getD a []\/∃t∈l,t.1=a/\t.2=x
 |[],rows,_,a,x=>by simp
 | t::r,rows,h,a,x=>by
   obtain⟨h1,h2⟩:=h t x2r;rw[x6v,Pe r (nxE rows t) (fun u hu=>by rw[AG];exact h u (x2c _ hu))];have e:x∈(nxE rows t).getD a []↔x∈rows.getD a []\/(t.1=a/\t.2=x):=by
    unfold nxE;simp only[x2l,x7x];by_cases he:t.1.toNat=a
    ·subst he;have e0:t.1=(t.1.toNat:Int):=by omega
     rw[if_pos rfl,if_pos (by omega)];simp only[x5q,x3x,x2a];constructor
     ·rintro(h3|h3)
      ·exact .inl h3
      ·exact .inr ⟨e0,h3.symm⟩
     ·rintro(h3|⟨_,h3⟩)
      ·exact .inl h3
      ·exact .inr h3.symm
    ·rw[if_neg he];constructor
     ·exact .inl
     ·rintro(h3|⟨h3,_⟩)
      ·exact h3
      ·omega
   rw[e];simp only[x2i,exists_eq_or_imp,or_assoc]
theorem Yb{n:Nat}{l:List (Int×Int)}(h:∀t∈l,0<=t.1/\t.1<n){a:Nat}{x:Int}:x∈(Qk n l).getD a [] ↔ ∃t∈l,t.1=a/\t.2=x:=by
 unfold Qk;rw[Pe l _ (by simpa using h)];have:(List.replicate n ([]:List Int)).getD a []=[]:=by
  rw[x2l,x3o];split<;>rfl
 rw[this];simp
mutual
theorem OF:∀(t:S){nest seen m:Int},Jb nest seen t=some m->∀u∈flS t,oneOk u=true
 | .mk id kind labels name pr x has args thn els,nest,seen,m,h,u,hu=>by
   obtain⟨h1,_,m1,h3,h4⟩:=JK h;rw[flS]at hu;rcases x2i.1 hu with rfl|hu
   ·exact h1
   ·rcases x3x.1 hu with hu|hu
    ·exact Vj thn h3 u hu
    ·exact Vj els h4 u hu
theorem Vj:∀(l:List S){nest seen m:Int},WY nest seen l=some m->∀u∈flL l,oneOk u=true
 |[],_,_,_,_,u,hu=>by rw[flL]at hu;cases hu
 | t::r,nest,seen,m,h,u,hu=>by
   obtain⟨_,m1,h1,h2⟩:=US h;rw[flL]at hu;rcases x3x.1 hu with hu|hu
   ·exact OF t h1 u hu
   ·exact Vj r h2 u hu
end
theorem Ir{p:Pg}{j:Nat}{f:Pr}(h:QE p=true)(hj:p.procs[j]?=some f){t:S}(ht:t∈flL f.body):OneF t:=by
 obtain⟨m,hr⟩:=q3p (QK h).1 hj;exact VE (Vj _ hr t ht)
section
variable {p:Pg}{j:Nat}{f:Pr}
def q7e(p:Pg)(j:Nat)(f:Pr):Int->Int->Prop:=stR (x1b (QQ p j f) f)
theorem Cj(h:QE p=true)(hj:p.procs[j]?=some f){b:Int}:q7e p j f a b↔wR p j f a b\/(a=0/\b = -1)\/(∃l∈trapsW (QQ p j f) f,∃t∈flL f.body,t.id∈l/\t.kind=10/\a=t.id/\b = -1)\/∃it∈itsOf p j f,7<=it.s.kind/\a=it.s.id/\b=it.next:=by
 have hA:=DL (q5n h hj);have hraw:∀s,s∈Kv (QQ p j f) f↔s∈YV (QQ p j f) f\/s∈(QQ p j f).real\/s=⟨0,-1,2⟩\/s∈(itsOf p j f).flatMap fOf:=fun s=>by
  have e:Kv (QQ p j f) f=YV (QQ p j f) f++(QQ p j f).real++[⟨0,-1,2⟩]++(itsOf p j f).flatMap fOf:=rfl;rw[e];simp only[x3x,x2a,or_assoc]
 have hof:∀s∈Kv (QQ p j f) f,q7e p j f s.src s.dst:=fun s hs=>by
  obtain⟨s',h1,h2,h3,_⟩:=hA.2.2 s hs;exact⟨s',h1,h2,h3⟩
 constructor
 ·rintro⟨s,hs,rfl,rfl⟩;rcases(hraw s).1 (hA.2.1 s hs)with h1|h1|h1|h1
  ·obtain⟨l,hl,t,ht,hid,hk,rfl⟩:=(Qe h hj).1 h1;exact .inr (.inr (.inl ⟨l,hl,t,ht,hid,hk,rfl,rfl⟩))
  ·exact .inl ⟨s,h1,rfl,rfl⟩
  ·rw[h1];exact .inr (.inl ⟨rfl,rfl⟩)
  ·obtain⟨it,hi,hs⟩:=x3c.1 h1;unfold fOf at hs;split at hs
   ·rw[x2a.1 hs];exact .inr (.inr (.inr ⟨it,hi,by omega,rfl,rfl⟩))
   ·cases hs
 ·rintro(⟨s,hs,rfl,rfl⟩|⟨rfl,rfl⟩|⟨l,hl,t,ht,hid,hk,rfl,rfl⟩|⟨it,hi,hk,rfl,rfl⟩)
  ·exact hof s ((hraw s).2 (.inr (.inl hs)))
  ·exact hof ⟨0,-1,2⟩ ((hraw _).2 (.inr (.inr (.inl rfl))))
  ·exact hof ⟨t.id,-1,3⟩ ((hraw _).2 (.inl ((Qe h hj).2 ⟨l,hl,t,ht,hid,hk,rfl⟩)))
  ·refine hof ⟨it.s.id,it.next,2⟩ ((hraw _).2 (.inr (.inr (.inr (x3c.2 ⟨it,hi,?_⟩)))));have hF:=(Ir h hj (Wc hi)).hi;unfold fOf;rw[if_pos (by omega)];exact x2a.2 rfl
theorem q5d(h:QE p=true)(hj:p.procs[j]?=some f){b:Int}(hr:q7e p j f a b):plP p j f a/\plP p j f b/\a ≠ -1/\b≠0:=by
 have hst:∀t∈flL f.body,plP p j f t.id/\t.id ≠ -1:=fun t ht=>by
  have hb:=ZI (QK h).1 hj ht;exact⟨.inr (.inr hb),by omega⟩
 rcases(Cj h hj).1 hr with h1|⟨rfl,rfl⟩|⟨l,hl,t,ht,hid,hk,rfl,rfl⟩|⟨it,hi,hk,rfl,rfl⟩
 ·obtain⟨h2,h3⟩:=q7c h hj h1;refine⟨h2,h3,?_,fun e=>Of h hj (e▸h1)⟩;obtain⟨s,hs,rfl,rfl⟩:=h1;rcases OZ h hj (((JC h hj).2 s).1 hs)with h4|h4
  ·rw[h4];show(0:Int) ≠ -1;decide
  ·omega
 ·exact⟨.inl rfl,.inr (.inl rfl),by decide,by decide⟩
 ·exact⟨(hst t ht).1,.inr (.inl rfl),(hst t ht).2,by decide⟩
 ·have h1:=(Y7 hi).1;unfold okI at h1;refine⟨(hst _ (Wc hi)).1,?_,(hst _ (Wc hi)).2,by omega⟩;rcases h1 with h1|h1
  ·exact .inr (.inl h1)
  ·exact .inr (.inr h1)
theorem ix_exit:ixI p j f (-1)=(cntL f.body+2:Nat)-1:=by
 unfold ixI UE;rw[if_neg (by decide),if_pos rfl]
end
def q8e(k:Int)(x:RI):Bool:=decide (k=0)||decide (x.s.kind=k)
def q8q(p:Pg)(k:Int):List Int:=((allR p).filter (q8e k)).map fun x=>x.s.id
theorem Ty:∀(l:List Pr)(k:Nat),k<cntP l->∃j f,l[j]?=some f/\QB l j<=k/\k<QB l j+cntL f.body
 |[],k,h=>by rw[cntP]at h;omega
 | g::r,k,h=>by
   rw[cntP]at h;rcases x3v k (cntL g.body)with hk|hk
   ·exact⟨0,g,rfl,by rw[QB];omega,by rw[QB];omega⟩
   ·obtain⟨j,f,h1,h2,h3⟩:=Ty r (k-cntL g.body) (by omega);exact⟨j+1,f,by simpa using h1,by rw[QB];omega,by rw[QB];omega⟩
namespace Own
end Own
open Go.Proofs
def rng(a b:Int)(v:Int):Prop:=a<=v/\v<=b
def x1u(l:List Int)(i:Nat):Int:=l.getD i 0
def srt(K:Int->Int)(l:List Int)(a b:Nat):Prop:=∀i k,a<=i->i<k->k<b->K (x1u l k)<=K (x1u l i)
def blk(K:Int->Int)(l:List Int)(bs n:Nat):Prop:=∀q,srt K l (q*bs) (min (q*bs+bs) n)
def OO:List AV:=[.int .i64 (-1),.int .i64 0,.nils,.str [],.str [],.int .i64 0,.int .i64 0,.str [],.nils,.ff,.nils,.nils,.nils]
theorem V2:∀(k:Nat)(l:List S)(_:cntL l<k)(_:cntL l<=1000000)(_:∀t∈flL l,okC t/\t.id ≠ -1),SpecP prog 163 [eSs l,.agg OO] (fun r=>r=eSs l):=by
 intro k;induction k with
 |zero=>intro l h;omega
 | succ k ih=>
   intro l hk hn hok;have hsl:(S.avs l).length=l.length:=by rw[S.avs_eq,x2m]
   have hcl:=V4 l;refine sB LK func163 rfl call163 ?_;conv=>whnf
   repeat' (refine iM fun _=>?_;conv=>whnf)
   refine LoopK.inv QY (fun j:Nat=>⟨[(3,.p (.ip OO)),(5,.hd 0 0 j),(9,.p (eSs l)),(10,.p (.int .i64 (S.avs l).length)),(11,.p (.int .i64 j))],[(0,.own 55 13 (S.avs (l.take j)))]⟩) (fun j=>j<=l.length) (fun j=>l.length-j) 0
    (Le.mk [(0,.own 55 13 [])] (by simp[Chunk.new0];rfl) (by simp) (by simp) (.r (.cons (.nil x2r) (.r (.r (.r .nil))))) (.new x2r .nil)) (x3z _) ?_
   intro j h2;rcases x3v j l.length with hj|hj
   ·have htm:=Fv (x3w hj);have hcs:=ZV l[j];have hself:=hok _ (LE l _ (x3w hj));have hsub:∀t,t∈flL l[j].thn\/t∈flL l[j].els->okC t/\t.id ≠ -1:=fun t ht=>hok t (by
     have:t∈flS l[j]:=by
      rw[HI];exact x2c _ (x3x.2 ht)
     have key:∀(m:List S)(i:Nat)(h:i<m.length),t∈flS m[i]->t∈flL m:=fun m=>by
      induction m with
      |nil=>intro i h;simp at h
      | cons a r ih=>
        intro i h ht;rw[flL];cases i with
        |zero=>exact x3x.2 (.inl ht)
        |succ i=>exact x3x.2 (.inr (ih i (by simpa using h) ht))
     exact key l j hj this)
    have h5:=YI l[j] hself.1.1 hself.1.2.1 hself.1.2.2.1 hself.1.2.2.2;have hid:=hself.2;have h6:=ih l[j].thn (by omega) (by omega) fun t ht=>hsub t (.inl ht);have h7:=ih l[j].els (by omega) (by omega) fun t ht=>hsub t (.inr ht);have hacl:j=(S.avs (l.take j)).length:=by rw[S.avs_eq,x2m,x3m];omega
    have hav:S.avs (l.take (j+1))=S.avs (l.take j)++[.agg l[j].cells]:=by
     rw[S.avs_eq,S.avs_eq,x3u hj,x3y];rfl
    generalize S.avs (l.take j)=acc at hacl hav⊢;have e:l[j]=.mk l[j].id l[j].kind l[j].labels l[j].name l[j].proc l[j].x l[j].has l[j].args l[j].thn l[j].els:=by cases l[j];rfl
    conv=>whnf
    repeat' (first|((first|refine dA ?_|refine x2t rfl ?_|refine aD ?_|refine bP ?_|refine QX (by omega) ?_|refine wI ?_|refine cP h5 ?_|refine cP h6 ?_|refine cP h7 ?_|refine x6y hacl rfl (by show(j+1)*208<=140737488355328;omega) (by show j+1<=9223372036854775807;omega) (fun x hx=>by rcases x2a.1 hx with rfl;exact⟨rfl,rfl⟩) ?_);conv=>whnf)|(apply bD<;>intro _<;>first|omega|conv=>whnf))
    all_goals first
     |exact⟨j+1,hj,by omega,Le.of_eq (by rw[hav];rfl)⟩
     |contradiction
   ·have hall:l.take j=l:=x3f hj;have hjl:j=(S.avs l).length:=by rw[S.avs_eq,x2m];omega
    rw[hall];conv=>whnf
    repeat' (apply bD<;>intro _<;>first|omega|conv=>whnf)
    exact⟨_,.hd rfl hjl,rfl⟩
theorem R4:∀(l:List Pr)(j:Nat),QB l j<=cntP l
 |_,0=>by rw[QB];omega
 |[],j+1=>by rw[QB];omega
 |g::r,j+1=>by rw[QB,cntP];have:=R4 r j;omega
structure CopyF(p:Pg):Prop where
 procs:p.procs.length<=1000
 globals:p.globals.length<=1000000
 pr:∀f∈p.procs,f.vars.length<=1000000/\f.fin.length<=1000000/\f.params.length<=1000000/\cntL f.body<=100000/\∀t∈flL f.body,okC t/\t.id ≠ -1
def x1m(p:Pg):Heap:=[(2,.obj 25 [.p (eStrs p.globals),.hd 1 0 p.procs.length]),(1,.own 45 5 (p.procs.map fun f=>.agg f.cells))]
def q8k(p:Pg):Heap:=[(6,.own 45 5 (p.procs.map fun f=>.agg f.cells)),(1,.obj 25 [.p (eStrs p.globals),.hd 6 0 p.procs.length])]
theorem Wo(p:Pg)(h:CopyF p):SpecH prog 106 [.p (.agg p.cells),.p (.agg OO)] [] (fun r H=>r=.agg [.p (eStrs p.globals),.hd 1 0 p.procs.length]/\H=x1m p):=by
 refine sH LW func106 rfl call106 ?_;conv=>whnf
 have hgt:=ZS p.globals h.globals;have hpm:(p.procs.map fun f=>AV.agg f.cells).length=p.procs.length:=x2m _;have hpl:=h.procs;repeat' ((first|(refine iM fun _=>?_)|refine x2t rfl ?_|refine cP hgt ?_);conv=>whnf)
 refine LoopK.inv QY (fun j:Nat=>⟨[(3,.p (.ip OO)),(4,.ptr 2 0),(5,.ptr 0 0),(14,.p (.sl (p.procs.map fun f=>AV.agg f.cells))),(15,.p (.int .i64 (p.procs.map fun f=>AV.agg f.cells).length)),(16,.p (.int .i64 j))],[(0,.obj 25 [.p (eStrs p.globals),.hd 1 0 j]),(2,.obj 25 [.p .nils,.p .nils]),(1,.own 45 5 ((p.procs.take j).map fun f=>.agg f.cells))]⟩) (fun j=>j<=p.procs.length) (fun j=>p.procs.length-j) 0
  (Le.mk [(1,.own 45 5 [])] (by simp[Chunk.new0];rfl) (by simp) (by simp) (.r (.r (.r (.r (.r (.r .nil)))))) (.cons rfl (.obj (.r (.cons (.nil x2r) .nil))) (.cons rfl (.refl _) (.new x2r .nil)))) (x3z _) ?_
 intro j h2;rcases x3v j p.procs.length with hj|hj
 ·obtain⟨hv,hfin,hpm2,hcb,hok⟩:=h.pr _ (x3w hj);have h5:=ZS p.procs[j].vars hv;have h6:=ZS p.procs[j].fin hfin;have h7:=V2 (cntL p.procs[j].body+1) p.procs[j].body (by omega) (by omega) hok;have htl:((p.procs.take j).map fun f=>AV.agg f.cells).length=j:=by rw[x2m,x3m];omega
  have htk:((p.procs.take (j+1)).map fun f=>AV.agg f.cells)=((p.procs.take j).map fun f=>AV.agg f.cells)++[.agg p.procs[j].cells]:=by
   rw[x3u hj,x3y];rfl
  generalize((p.procs.take j).map fun f=>AV.agg f.cells)=acc at htl htk⊢;have hpa:(p.procs[j].params.map fun x=>AV.agg x.cells).length=p.procs[j].params.length:=x2m _;conv=>whnf
  repeat' (first|((first|refine dA ?_|refine x2t rfl ?_|refine aD ?_|(refine iA fun _=>?_)|refine cP h5 ?_|refine cP h6 ?_|refine cP h7 ?_|refine x6y rfl rfl (by rw[hpa];show(0+p.procs[j].params.length)*24<=140737488355328;omega) (by rw[hpa];show 0+p.procs[j].params.length<=9223372036854775807;omega) (fun x hx=>by obtain⟨y,_,rfl⟩:=x3q.1 hx;exact⟨rfl,rfl⟩) ?_);conv=>whnf)|(apply bD<;>intro _<;>first|omega|conv=>whnf)|(refine x2t ?_ ?_<;>conv=>whnf))
  all_goals
   refine TC QY (k:=4) 41 p.procs[j].cells rfl rfl rfl (fun q u c h1 h2=>?_) ?_
   ·match q,h1,h2 with
    |0,h1,h2=>cases h1;cases h2;exact .inl ⟨_,rfl,Sub.refl _⟩
    |1,h1,h2=>cases h1;cases h2;exact .inr ⟨_,rfl,by simp,rfl⟩
    |2,h1,h2=>cases h1;cases h2;exact .inl ⟨_,rfl,Sub.refl _⟩
    |3,h1,h2=>cases h1;cases h2;exact .inl ⟨_,rfl,Sub.refl _⟩
    |4,h1,h2=>cases h1;cases h2;exact .inl ⟨_,rfl,Sub.refl _⟩
    |q+5,h1,h2=>simp at h1
   conv=>whnf
   repeat' ((first|refine x2t rfl ?_|refine aD ?_|refine bP ?_|refine wI ?_|refine x6y htl.symm rfl (by show(j+1)*112<=140737488355328;omega) (by show j+1<=9223372036854775807;omega) (fun x hx=>by rcases x2a.1 hx with rfl;exact⟨rfl,rfl⟩) ?_);conv=>whnf)
   exact⟨j+1,hj,by omega,Le.of_eq (by rw[htk];rfl)⟩
 ·have hA:((p.procs.take j).map fun f=>AV.agg f.cells)=p.procs.map fun f=>.agg f.cells:=by
   rw[x3f hj]
  have hje:j=p.procs.length:=by omega
  subst hje;rw[hA];conv=>whnf
  repeat' (first|(refine x2t rfl ?_;conv=>whnf)|(apply bD<;>intro _<;>first|omega|conv=>whnf))
  exact⟨_,x3n _,rfl,rfl⟩
theorem GA(p:Pg)(h:CopyF p):SpecH prog 55 [.p (.agg p.cells)] [] (fun r H=>r=.agg [.p (eStrs p.globals),.hd 6 0 p.procs.length]/\H=q8k p):=by
 refine sH NX func55 rfl call55 ?_;conv=>whnf
 repeat' ((first|refine x2t rfl ?_|(refine CallK.heap [] 5 (x3d (x3n _) (x3d (x3n _) x4x)) x4z (Wo p h) rfl rfl ?_;rintro l' H' ⟨rfl,rfl⟩));conv=>whnf)
 exact⟨_,x3n _,rfl,rfl⟩
def MX(p:Pg)(j:Nat):List Pr:=(UM 0 p.procs).take j++p.procs.drop j
theorem Yp:∀(l:List Pr)(n j:Nat)(f:Pr),l[j]?=some f->(UM n l)[j]?=some ⟨f.name,f.params,f.vars,nmL (n+QB l j) f.body,f.fin⟩
 |g::r,n,0,f,h=>by cases h;rw[UM];rfl
 | g::r,n,j+1,f,h=>by
   rw[UM,x8p,Yp r (n+cntL g.body) j f (by simpa using h),QB,x6z]
theorem YQ:∀(l:List Pr)(n:Nat),(UM n l).length=l.length
 |[],n=>rfl
 |g::r,n=>by rw[UM,x4q,x4q,YQ r]
theorem AY(p:Pg){j:Nat}(h:j<=p.procs.length):(MX p j).length=p.procs.length:=by
 unfold MX;rw[x2s,x3m,x5f,YQ];omega
theorem AU(p:Pg){j:Nat}(hj:j<p.procs.length):(MX p j)[j]?=some p.procs[j]:=by
 unfold MX;rw[x4u (by rw[x3m,YQ];omega),x3m,YQ,x4c];rw[show j+(j-min j p.procs.length)=j by omega,x2n hj]
theorem SZ(p:Pg){j:Nat}(hj:j<p.procs.length):MX p (j+1)=(MX p j).set j ⟨p.procs[j].name,p.procs[j].params,p.procs[j].vars,nmL (QB p.procs j) p.procs[j].body,p.procs[j].fin⟩:=by
 have h1:=Yp p.procs 0 j _ (x2n hj);rw[x5m]at h1;unfold MX;have hl:((UM 0 p.procs).take j).length=j:=by rw[x3m,YQ];omega
 rw[x6h _ _ (by omega),hl,x7l,x4v hj,x6b,List.take_add_one,h1];simp
theorem AH{l:List Pr}{j:Nat}(hj:j<l.length):QB l (j+1)=QB l j+cntL l[j].body:=by
 induction l generalizing j with
 |nil=>simp at hj
 | cons g r ih=>
   cases j with
   |zero=>rw[QB,QB,QB];simp
   | succ j=>
     rw[QB,QB,ih (by simpa using hj)];simp only[List.getElem_cons_succ];omega
theorem MD(p:Pg)(h:CopyF p)(hc:cntP p.procs<=100000):SpecP prog 56 [.agg p.cells] (fun r=>r=.agg (q5u p).cells):=by
 refine sB FC func56 rfl call56 ?_;conv=>whnf
 have hpm:(p.procs.map fun f=>AV.agg f.cells).length=p.procs.length:=x2m _;have hpl:=h.procs;repeat' ((first|(refine iM fun _=>?_)|refine x2t rfl ?_|(refine CallK.heap [] 20 (x3d (x3n _) x4x) x4z (GA p h) rfl rfl ?_;rintro l' H' ⟨rfl,rfl⟩));conv=>whnf)
 refine LoopK.inv QY (fun j:Nat=>⟨[(1,.p (.ip p.cells)),(2,.ptr 1 0),(3,.ptr 0 0),(4,.p (.int .i64 (QB p.procs j))),(10,.p (.int .i64 p.procs.length)),(11,.p (.int .i64 j))],[(0,.obj 25 [.p (eStrs p.globals),.hd 26 0 p.procs.length]),(26,.own 45 5 ((MX p j).map fun f=>.agg f.cells)),(1,.obj 25 [.p .nils,.p .nils])]⟩) (fun j=>j<=p.procs.length) (fun j=>p.procs.length-j) 0
  (Le.of_eq (by rw[show MX p 0=p.procs from rfl,show QB p.procs 0=0 by rw[QB]];rfl)) (x3z _) ?_
 intro j h2;have hrl:=AY p h2;rcases x3v j p.procs.length with hj|hj
 ·obtain⟨hv,hfin,hpm2,hcb,hok⟩:=h.pr _ (x3w hj);have hle:=R4 p.procs j;have h5:=BY (cntL p.procs[j].body+1) p.procs[j].body (by omega) (QB p.procs j) (by omega) fun t ht=>(hok t ht).1;have hget:((MX p j).map fun f=>AV.agg f.cells)[j]?=some (.agg p.procs[j].cells):=by rw[x2e,AU p hj];rfl
  have hset:((MX p j).map fun f=>AV.agg f.cells).set j (.agg (Pr.mk p.procs[j].name p.procs[j].params p.procs[j].vars (nmL (QB p.procs j) p.procs[j].body) p.procs[j].fin).cells)=(MX p (j+1)).map fun f=>AV.agg f.cells:=by
   rw[SZ p hj,<-x4m]
  have hst:=AH hj;generalize((MX p j).map fun f=>AV.agg f.cells)=row at hget hset⊢;conv=>whnf
  repeat' (first|((first|refine x2t rfl ?_|(refine iA fun _=>?_)|refine wI ?_|refine DrawK.of QY mixed (.cons 3 false (.cons 4 false (.cons 5 false (.cons 6 false (.cons 7 false (.cons 8 false (.cons 9 false (.cons 0 false (.cons 2 false (.fork 1 (.cons 10 true (.cons 11 false (.cons 12 false (.cons 14 true (.cons 15 true (.cons 13 false (.cons 16 true (.cons 17 true .nil)))))))) 10 (.cons 1 true (.cons 11 false (.cons 12 false (.cons 14 true (.cons 15 true (.cons 13 false (.cons 16 true (.cons 17 true .nil)))))))))))))))))) (by kernel_rfl) ?_|refine cP h5 ?_|refine x4j j rfl hj ?_|refine x5i j 3 (.agg p.procs[j].cells) (.agg (Pr.mk p.procs[j].name p.procs[j].params p.procs[j].vars (nmL (QB p.procs j) p.procs[j].body) p.procs[j].fin).cells) (by show(0+j)*5+3=j*5+3;omega) hget (x7b rfl) rfl ?_);conv=>whnf)|(apply bD<;>intro _<;>first|omega|conv=>whnf)|(refine x2t ?_ ?_<;>conv=>whnf))
  all_goals exact⟨j+1,hj,by omega,Le.of_eq (by rw[<-hset,hst];rfl)⟩
 ·have hje:j=p.procs.length:=by omega
  subst hje;have hA:MX p p.procs.length=(q5u p).procs:=by
   unfold MX q5u;rw[x3f (by rw[YQ];exact x3g _),x3b (x3g _),x4b]
  have hcl:p.procs.length=((q5u p).procs.map fun f=>AV.agg f.cells).length:=by rw[x2m,<-hA,hrl]
  rw[hA];conv=>whnf
  repeat' (first|(refine x2t rfl ?_;conv=>whnf)|(apply bD<;>intro _<;>first|omega|conv=>whnf))
  refine⟨_,.agg (cs:=(q5u p).cells) rfl fun i l c h1 h3=>?_,rfl⟩
  match i,h1,h3 with
  |0,h1,h3=>cases h1;cases h3;exact .p (Sub.refl _)
  | 1,h1,h3=>
    cases h1;cases h3;exact .hd rfl hcl
  |i+2,h1,h3=>simp at h1
section
variable {p:Pg}{j:Nat}{f:Pr}
end
section
variable {p:Pg}{j:Nat}{f:Pr}
end
structure Book where
 s:Sheet
 ways:List Way
 defs:List (List Str)
 uses:List (List Str)
 ins:List (List Str)
 outs:List (List Str)
def Book.cells(b:Book):List AV:=[.ip b.s.cells,.sl (b.ways.map fun w=>.ip w.cells),.sl (b.defs.map eStrs),.sl (b.uses.map eStrs),.sl (b.ins.map eStrs),.sl (b.outs.map eStrs)]
def KI:Str:=[36,105,110]
def comB(p:Pg)(n:Str):Bool:=(n==KI)||p.globals.any fun s=>n==s
theorem FX(b:Book)(n:Str):SpecP prog 146 [.ip b.cells,.str n] (fun r=>r=.bool (comB b.s.p n)):=by
 refine sB MA func146 rfl call146 ?_;conv=>whnf
 repeat' (first|(refine cP (QW _ _) ?_;conv=>whnf)|(apply bB<;>intro _<;>conv=>whnf))
 all_goals first
  | (have h9:(n==KI)=true:=by assumption
     exact RetK.tt (by unfold comB;rw[h9];rfl))
  | (have h9:(n==KI)=false:=by assumption
     exact RetK.bool (by unfold comB;rw[h9,Bool.false_or]))
theorem B3(p:Pg)(j:Nat)(f:Pr)(h:QE p=true)(hj:p.procs[j]?=some f)(id:Int)(hid:plP p j f id):SpecP prog 145 [.ip (QQ p j f).cells,.int .i64 id] (fun r=>r=.bool ((QQ p j f).live.getD (ixI p j f id).toNat false)):=by
 refine sB Vc func145 rfl call145 ?_;conv=>whnf
 have hT:=q4o h hj;have hI:=Qi (QQ p j f) f hT.hj hT.hc (by have:=hT.hn2;have:=hT.hn;have:=hT.hw;omega) id;have he:UE (loI (QQ p j f).p (QQ p j f).j) (hiI (QQ p j f).p (QQ p j f).j f) (QQ p j f).n id=ixI p j f id:=rfl;rw[he]at hI;have hr:=WQ hid;have hll:(QQ p j f).live.length=cntL f.body+2:=by show(KP _ (List.replicate (cntL f.body+2) false)).length=_;rw[Z8];simp
 generalize ixI p j f id=ix at*
 have hg:((QQ p j f).live.map bv)[ix.toNat]?=some (bv ((QQ p j f).live.getD ix.toNat false)):=by
  rw[x2e,x2l,x2n (by omega)];rfl
 generalize(QQ p j f).live.getD ix.toNat false=v at*
 cases v;all_goals
  repeat' ((first|refine dA ?_|refine cP hI ?_|(refine IdxK.at (k:=ix.toNat) (by omega) hg rfl ?_));conv=>whnf)
 all_goals first
  |exact RetK.tt rfl
  |exact RetK.ff rfl
inductive RwL(k:Nat)(es:List AV):LV->LV->Prop
 |keep {l:LV} (hf:l.free k=true):RwL k es l l
 |row {n:Nat} (hn:n=es.length):RwL k es (.hd k 0 n) (.p (.sl es))
inductive RwC(k:Nat)(es:List AV):List LV->List LV->Prop
 |nil:RwC k es [] []
 |cons {l l':LV} {r r':List LV} (h:RwL k es l l') (hr:RwC k es r r'):RwC k es (l::r) (l'::r')
theorem RwC.get{k:Nat}{es:List AV}{ls ls':List LV}(h:RwC k es ls ls'):ls'.length=ls.length/\∀(j:Nat)(l':LV),ls'[j]?=some l'->∃l,ls[j]?=some l/\RwL k es l l':=by
 induction h with
 |nil=>exact⟨rfl,by simp⟩
 | cons h hr ih=>
   refine⟨by simp[ih.1],fun j l' hj=>?_⟩;cases j with
   |zero=>simp at hj;subst hj;exact⟨_,rfl,h⟩
   |succ j=>exact ih.2 j l' (by simpa using hj)
inductive RwS(k:Nat)(es:List AV):List (Nat×LV)->List (Nat×LV)->Prop
 |nil:RwS k es [] []
 |cons {i:Nat} {l l':LV} {r r':List (Nat×LV)} (h:RwL k es l l') (hr:RwS k es r r'):RwS k es ((i,l)::r) ((i,l')::r')
theorem RwS.get{k:Nat}{es:List AV}{sl sl':List (Nat×LV)}(h:RwS k es sl sl')(i:Nat):RwL k es (getS sl i) (getS sl' i):=by
 induction h with
 |nil=>exact .keep rfl
 | @cons j l l' r r' h hr ih=>
   simp only[getS];cases j==i
   ·exact ih
   ·exact h
inductive RwH(k:Nat)(es:List AV):Heap->Heap->Prop
 |nil:RwH k es [] []
 |drop {e:TypeId} {sz:Nat} {es':List AV} {H H':Heap} (h:RwH k es H H'):RwH k es ((k,.own e sz es')::H) H'
 |own {j:Nat} {e:TypeId} {sz:Nat} {es':List AV} {H H':Heap} (hj:j≠k) (h:RwH k es H H'):RwH k es ((j,.own e sz es')::H) ((j,.own e sz es')::H')
 |ext {j:Nat} {d:XC} {H H':Heap} (hj:j≠k) (h:RwH k es H H'):RwH k es ((j,.ext d)::H) ((j,.ext d)::H')
 |obj {j:Nat} {e:TypeId} {cs cs':List LV} {H H':Heap} (hj:j≠k) (hc:RwC k es cs cs') (h:RwH k es H H'):RwH k es ((j,.obj e cs)::H) ((j,.obj e cs')::H')
inductive CRw(k:Nat)(es:List AV):Chunk->Chunk->Prop
 |own {e:TypeId} {sz:Nat} {es':List AV}:CRw k es (.own e sz es') (.own e sz es')
 |ext {d:XC}:CRw k es (.ext d) (.ext d)
 |obj {e:TypeId} {cs cs':List LV} (hc:RwC k es cs cs'):CRw k es (.obj e cs) (.obj e cs')
theorem RwH.get{k:Nat}{es:List AV}{H H':Heap}(h:RwH k es H H'):(H'.map (·.1)).Sublist (H.map (·.1))/\∀j c',(j,c')∈H'->j≠k/\∃c,(j,c)∈H/\CRw k es c c':=by
 induction h with
 |nil=>exact⟨.slnil,by simp⟩
 |drop h ih=>exact⟨ih.1.cons _,fun j c' hj=>let ⟨h1,c,h2,h3⟩:=ih.2 j c' hj;⟨h1,c,x2c _ h2,h3⟩⟩
 | own hj h ih=>
   refine⟨ih.1.cons_cons _,fun j c' hm=>?_⟩;rcases x2i.1 hm with he|hm
   ·cases he;exact⟨hj,_,x2r,.own⟩
   ·obtain⟨h1,c,h2,h3⟩:=ih.2 j c' hm;exact⟨h1,c,x2c _ h2,h3⟩
 | ext hj h ih=>
   refine⟨ih.1.cons_cons _,fun j c' hm=>?_⟩;rcases x2i.1 hm with he|hm
   ·cases he;exact⟨hj,_,x2r,.ext⟩
   ·obtain⟨h1,c,h2,h3⟩:=ih.2 j c' hm;exact⟨h1,c,x2c _ h2,h3⟩
 | obj hj hc h ih=>
   refine⟨ih.1.cons_cons _,fun j c' hm=>?_⟩;rcases x2i.1 hm with he|hm
   ·cases he;exact⟨hj,_,x2r,.obj hc⟩
   ·obtain⟨h1,c,h2,h3⟩:=ih.2 j c' hm;exact⟨h1,c,x2c _ h2,h3⟩
theorem I7{N:Nat}{sl sl':List (Nat×LV)}{H H':Heap}{k:Nat}{e:TypeId}{sz:Nat}{es:List AV}(hg:getH H k=some (.own e sz es))(hs:RwS k es sl sl')(hh:RwH k es H H'):Le N ⟨sl,H⟩ ⟨sl',H'⟩:=fun σ β a w hr=>by
 obtain⟨hsub,hget⟩:=hh.get;have hnd:=hsub.nodup hr.heap.nodup;have hlab:∀j∈H'.map (·.1),j∈H.map (·.1):=fun j hj=>hsub.subset hj;rcases ZL.1 (hr.heap.chunks k _ (QG hg))with⟨hb0,rfl⟩|⟨i,vs,hi,hisz,hb,hn,hle',hmax,hE⟩
 ·have hl:∀{l l':LV}{v:Value},RwL k [] l l'->RepL σ β l v->RepL σ β l' v:=fun {l l' v} hw hv=>by
   cases hw with
   |keep=>exact hv
   | row hn=>
     rcases hv.hdI with⟨_,_,_,he⟩|⟨i,_,hk,_⟩
     ·rw[he];exact .p .nilsl
     ·rw[hb0]at hk;cases hk
  refine⟨σ,β,⟨hr.size,hr.defers,fun j=>hl (hs.get j) (hr.slots j),⟨hr.heap.mem,fun j c' hj=>?_,hnd,fun j hj=>hr.heap.apart j (hlab j hj),fun j hj j' hj'=>hr.heap.inj j (hlab j hj) j' (hlab j' hj')⟩⟩,Mem.le_refl σ,Frm.refl _ _,fun _ h0 h1=>absurd h0 h1,fun b ⟨j,hj,r⟩=>.inl ⟨j,hlab j hj,r⟩,fun _ _ _=>rfl⟩;obtain⟨_,c,h2,h3⟩:=hget j c' hj;have hold:=hr.heap.chunks j c h2;cases h3 with
  |own=>exact hold
  |ext=>exact hold
  | obj hc=>
    obtain⟨i',vs',q1,q2,q3,q4⟩:=hold;obtain⟨q5,q6⟩:=hc.get;refine⟨i',vs',q1,q2,by omega,fun m l' hm=>?_⟩;obtain⟨l,q7,q8⟩:=q6 m l' hm;obtain⟨u,q9,q10⟩:=q4 m l q7;exact⟨u,q9,hl q8 q10⟩
 ·have hl:∀τ:Mem,σ.le τ->τ i.blk=some vs->∀{l l':LV}{v:Value},RwL k es l l'->RepL σ β l v->RepL τ β l' v:=fun τ hle hτ {l l' v} hw hv=>by
   cases hw with
   |keep=>exact hv.mono hle
   | row hn0=>
     rcases hv.hdI with⟨hk,_⟩|⟨i',oo,hk,hl,ho,rfl⟩
     ·rw[hi]at hk;cases hk
     ·rw[hi]at hk;cases hk;have hoo:oo=0:=by
       rcases ho with ho|ho
       ·simpa using ho
       ·omega
      subst hoo hn0;obtain⟨u,hu⟩ : ∃u:Nat->Nat->Value,∀(m:Nat)(x:AV)(j:Nat)(c:AV),es[m]?=some x->x.cells[j]?=some c->vs[m*sz+j]?=some (u m j)/\Rep σ c (u m j):=by
       refine⟨fun m j=>(vs[m*sz+j]?).getD undef,fun m x j c hx hj=>?_⟩;obtain⟨v,h1,h2⟩:=hE.rep m x j c hx hj;rw[x4g]at h1;split at h1
       ·have h1':vs[m*sz+j]?=some v:=by simpa using h1
        exact⟨by simp[h1'],by simpa[h1']using h2⟩
       ·cases h1
      exact .p (.sl es i.blk 0 _ sz vs u hτ (by omega) (by omega) hE.size (fun m x j c hx hj=>by simpa using(hu m x j c hx hj).1) fun m x j c hx hj=>(hu m x j c hx hj).2.mono hle)
  refine hr.lay hi (QN hg) hb (fun τ hle hτ j v hv=>hl τ hle hτ (hs.get j) hv) (fun τ hle hτ j c' hj=>?_) hnd;obtain⟨h1,c,h2,h3⟩:=hget j c' hj;refine⟨h1,c,h2,fun hold=>?_⟩;cases h3 with
  |own=>exact hold.mono hle fun _ _ _ _=>rfl
  |ext=>exact hold.mono hle fun _ _ _ _=>rfl
  | obj hc=>
    obtain⟨i',vs',q1,q2,q3,q4⟩:=hold;obtain⟨q5,q6⟩:=hc.get;refine⟨i',vs',q1,q2,by omega,fun m l' hm=>?_⟩;obtain⟨l,q7,q8⟩:=q6 m l' hm;obtain⟨u,q9,q10⟩:=q4 m l q7;exact⟨u,q9,hl τ hle hτ q8 q10⟩
def pureL:LV->LV
 |.p a=>.p a
 |_=>.p .any
def SK:List (Nat×LV)->List (Nat×LV)
 |[]=>[]
 |(j,l)::r=>(j,pureL l)::SK r
theorem M3:∀(sl:List (Nat×LV))(i:Nat),getS (SK sl) i=pureL (getS sl i)
 |[],i=>rfl
 | (j,l)::r,i=>by
   rw[SK,getS,getS];cases j==i with
   |true=>rfl
   |false=>exact M3 r i
theorem BK{P:Program}{N:Nat}{g:FuncId}{args:List LV}{dst:Option Nat}{s:St}{K:St->Prop}{avs:List AV}{R:AV->Prop}(hs:SpecP P g avs R)(ha:FrzL s.H args avs)(h:∀c,R c->setD N (SK s.sl) dst (.p c) fun sl=>K ⟨sl,[]⟩):CallK P N g args dst s K:=by
 refine⟨fun σ β a w hr vals hn hv=>⟨hs.go vals,?_⟩⟩;obtain⟨hlen,hget⟩:=ha.get;obtain⟨τ,h5,h6,h7,h8⟩:=DW hr.heap;refine(hs.ok τ w vals (hn.trans hlen) (fun j c hj=>?_) h6).mono fun e w' ⟨c,u,σ',he,hR,hrep,hle,hl,hf,hnew⟩=>?_
 ·obtain⟨l,h1,h2⟩:=hget j c hj;exact h8 l _ c (hv j l h1) h2
 ·have hr':Rel N σ' β ⟨SK s.sl,[]⟩ a w':=⟨hr.size,hr.defers,fun i=>by
   show RepL σ' β (getS (SK s.sl) i) _;rw[M3];have:=hr.slots i;generalize getS s.sl i=l at this⊢;cases l with
   |p x=>exact this.mono (Mem.le_trans h5 hle)
   |_=>exact .p (.any _),⟨hl,fun k c h=>(by cases h),x8f,fun k h=>(by cases h),fun k h=>(by cases h)⟩⟩
  obtain⟨sl,hK,hr''⟩:=hr'.setD (.p hrep) (h c hR);refine⟨u,σ',β,_,he,hK,hr'',Mem.le_trans h5 hle,⟨hf.os,hf.tape,hf.output,hf.drawn,hf.size,fun b hb _=>hf.block b hb id⟩,fun b h0 h1=>?_,fun b ⟨j,hj,_⟩=>(by cases hj),fun _ _ _=>rfl⟩;by_cases h2:τ b=none
  ·exact .inr (hnew b h2 h1)
  ·rcases h7 b h2 with h3|h3
   ·exact absurd h0 h3
   ·exact .inl h3
end Go.Ab
