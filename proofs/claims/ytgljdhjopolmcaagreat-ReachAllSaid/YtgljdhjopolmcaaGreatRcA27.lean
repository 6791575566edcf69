/- LAW: the reference's flows, place by place, are the flows; the facts are as many as the places give. -/
import Derived.Test.YtgljdhjopolmcaaGreatRcA26
set_option linter.all false
set_option maxRecDepth 100000
set_option maxHeartbeats 16000000
namespace Go.Ab
open Go.Proofs.Tryz
open Go.Proofs
variable {α:Type}{H:Heap}{O:List (List Str)}{i j:Nat}{nm:Str}{p:Pg}{u y:Int}
def It(A L:List Step)(at_:Int)(but:List Int)(y:Int):Prop:=∃s∈L,s.src=at_/\((VR but s.dst=true/\y=s.dst)\/(VR but s.dst=false/\Rch (frR A s.dst but) s.dst y))
def H3(A:List Step)(at_:Int)(but:List Int)(y:Int):Prop:=It A A at_ but y
section
variable {n:Nat}{at_:List Nat}{steps:List (Int×Int)}(hnd:at_.Nodup)(hlt : ∀ a∈at_,a<n)(hm:at_.length<=5000)
include hnd hlt hm
def q9i{f:Nat}(w:f<at_.length){Q:Int->Prop}(z:∀(a:Nat)(c:Int),at_[f]?=some a->((a:Int),c)∈steps->Q c)(d:∀(a:Nat)(c:Int),Q a->a∉at_->((a:Int),c)∈steps->Q c){c:Int}(h:q2p n steps at_ f c):Q c:=by
 unfold q2p at h;induction h with
 | @gen a b m r o=>
   obtain⟨q,s,t⟩:=(BJ (n:=n) (l:=steps) (x:=a) (y:=b)).1 ⟨m,o⟩;exact z a.toNat b ((q7o hnd hlt hm).1 r) (by rw[z5d m];exact q)
 | @go a b m r hk o e=>
   obtain⟨q,s,t⟩:=(BJ (n:=n) (l:=steps) (x:=a) (y:=b)).1 ⟨m,o⟩;refine d a.toNat b (by rw[z5d m];exact e) (fun v=>?_) (by rw[z5d m];exact q);have:=(q8j hlt hm w).2 v;rw[hk]at this;cases this
end
section
variable {p:Pg}{k:Nat}{f:Pr}(hc:QM p=true)(hk:p.A[k]? = some f)
include hc hk
theorem q9o{a b:Int}(h:dR p k f a b):b≠0:=by
 rcases(T2 hc hk).1 h with m|⟨l,s,t,v,o,q,rfl,r⟩
 ·exact q7m hc hk m
 ·omega
def x2w(o:plP p k f u)(l:u≠0)(m:u ≠ -1):∃x∈flatU f,x.s.id=u:=by
 have h:=(KY (QV hc).1 hk).2 o;unfold Ja at h;rcases z0o.1 h with h|h
 .rcases z1g.1 h with h|h
  .exact absurd h l
  .exact z1z.1 h
 .exact absurd (z0i.1 h) m
theorem q8v{x:RI}(h:x∈flatU f):0<x.s.id:=by
 have:=ZX (QV hc).1 hk (YA h);omega
theorem q8w(m:plP p k f u)(r:u≠0):VR (gvR p f (QX p).F nm (flatU f)) u=true↔(ixI p k f u).toNat∈atN (YQ p k f) (QY f.body+2) nm:=by
 obtain⟨_,_,_,l⟩:=q9n hc hk nm;have D:=ZO m;rw[ZF,SM hc hk,l];constructor
 ·rintro⟨t,h,rfl,o,B⟩;exact⟨by omega,x0k hc hk h o (by rw[(Mf hc hk h).1];exact B)⟩
 ·rintro⟨v,w⟩;rcases q7e hc hk v w with⟨z,_⟩|⟨z,c,d,g⟩
  ·exfalso;exact r (UP m (.inl rfl) (by rw[Mp];omega))
  ·have o:=(GR hc hk m).1 d;have q:u ≠ -1:=fun e=>by
    subst e;rw[SH]at c;omega
   obtain⟨x,C,rfl⟩:=x2w hc hk m r q;have h:=YA C;refine⟨x.s,h,rfl,o,?_⟩;obtain⟨_,A,_,_⟩:=Oa hc hk h;rw[<-(Mf hc hk h).1,A];exact g
def P8{s:Step}(h:s∈ZU p f.name):dR p k f s.src s.dst:=by
 rw[MB hc hk]at h;exact⟨s,h,rfl,rfl⟩
theorem q6w{x:Int}(V:plP p k f x)(hy:plP p k f y)(hn:nm∈YQ p k f (ixI p k f x).toNat):
  H3 (ZU p f.name) x (gvR p f (QX p).F nm (flatU f)) y ↔ ∃g,(atN (YQ p k f) (QY f.body+2) nm)[g]?=some (ixI p k f x).toNat/\q2p (QY f.body+2) (JD (QQ p k f) f) (atN (YQ p k f) (QY f.body+2) nm) g (ixI p k f y):=by
 obtain⟨hnd,hlt,hm,A⟩:=q9n hc hk nm;have hrx:=ZO V;have R:(((ixI p k f x).toNat:Nat):Int)=ixI p k f x:=by omega
 constructor
 ·rintro⟨s,q,rfl,Y⟩;have m:=P8 hc hk q;have v:=(Kz hc hk m).2;obtain⟨g,o,T⟩:=List.getElem_of_mem ((A (ixI p k f s.src).toNat).2 ⟨by omega,hn⟩);have e:(atN (YQ p k f) (QY f.body+2) nm)[g]?=some (ixI p k f s.src).toNat:=by rw[z0c o,T]
  have r:q2p (QY f.body+2) (JD (QQ p k f) f) (atN (YQ p k f) (QY f.body+2) nm) g (ixI p k f s.dst):=q9e hnd hlt hm e (by rw[R];exact(Ly hc hk V v).2 m) (ZO v);refine⟨g,e,?_⟩;rcases Y with⟨_,rfl⟩|⟨E,hr⟩
  ·exact r
  ·have key:∀z,Rch (frR (ZU p f.name) s.dst (gvR p f (QX p).F nm (flatU f))) s.dst z->plP p k f z/\z≠0/\q2p (QY f.body+2) (JD (QQ p k f) f) (atN (YQ p k f) (QY f.body+2) nm) g (ixI p k f z):=fun z B=>by
    induction B with
    |refl=>exact⟨v,q9o hc hk m,r⟩
    | @tail b c _ D ih=>
      obtain⟨Z,b0,N⟩:=ih;have l:VR (gvR p f (QX p).F nm (flatU f)) b=false:=by
       rcases D.1 with w|w
       ·rw[w];exact E
       ·exact w
      obtain⟨u,hu,rfl,rfl⟩:=D.2;have t:=P8 hc hk hu;have pc:=(Kz hc hk t).2;refine⟨pc,q9o hc hk t,x3l hlt hm o N (ZO Z) (fun d=>?_) ((Ly hc hk Z pc).2 t) (ZO pc)⟩;rw[(q8w hc hk Z b0).2 d]at l;cases l
   exact(key y hr).2.2
 ·rintro⟨g,e,P⟩;have o:=(z1k.1 e).1;have src:∀{a c:Int},(a,c)∈JD (QQ p k f) f->∃s∈ZU p f.name,ixI p k f s.src=a/\ixI p k f s.dst=c:=fun {a c} h=>by
   obtain⟨s,q,he⟩:=z1z.1 h;exact⟨s,by rw[MB hc hk];exact q,z2b Prod.fst he,z2b Prod.snd he⟩
  have key:=q9i hnd hlt hm o (steps:=JD (QQ p k f) f) (Q:=fun c=>∃z,plP p k f z/\z≠0/\ixI p k f z=c/\H3 (ZU p f.name) x (gvR p f (QX p).F nm (flatU f)) z) (fun a c r L=>by
    obtain⟨s,q,J,e2⟩:=src L;have m:=P8 hc hk q;obtain⟨ps,pd⟩:=Kz hc hk m;rw[e]at r;have r:=z3q r;have K:s.src=x:=UP ps V (by rw[J];omega);refine⟨s.dst,pd,q9o hc hk m,e2,s,q,K,?_⟩;cases E:VR (gvR p f (QX p).F nm (flatU f)) s.dst with
    |true=>exact .inl ⟨rfl,rfl⟩
    |false=>exact .inr ⟨rfl,.refl⟩) (fun a c r L D=>by
    obtain⟨z,G,z0,C,s0,U,e0,B⟩:=r;obtain⟨s,q,J,e2⟩:=src D;have m:=P8 hc hk q;obtain⟨ps,pd⟩:=Kz hc hk m;have K:s.src=z:=UP ps G (by rw[J,C]);have l:VR (gvR p f (QX p).F nm (flatU f)) z=false:=by
     cases E:VR (gvR p f (QX p).F nm (flatU f)) z with
     |false=>rfl
     | true=>
       have w:=(q8w hc hk G z0).1 E;rw[C,z3y]at w;exact absurd w L
    refine⟨s.dst,pd,q9o hc hk m,e2,s0,U,e0,.inr ?_⟩;rcases B with⟨d,M⟩|⟨d,M⟩
    ·rw[M,d]at l;cases l
    ·exact⟨d,.tail M ⟨.inr l,s,q,K,rfl⟩⟩) P
  obtain⟨z,G,_,C,B⟩:=key
  rwa[UP G hy C]at B
theorem q0q{x:Int}(t:plP p k f x)(z:nm∈YQ p k f (ixI p k f x).toNat){but:List Int}(h:H3 (ZU p f.name) x but y):plP p k f y/\y≠0/\(y = -1\/Rch (wR p k f) 0 y):=by
 have e:=ZO t;have r:Rch (dR p k f) 0 x:=by
  rcases q7e hc hk (by omega) z with⟨q,_⟩|⟨q,E,w,F⟩
  ·have:x=0:=UP t (.inl rfl) (by rw[Mp];omega);rw[this];exact .refl
  ·exact((GR hc hk t).1 w).mono fun a b B=>x8r hc hk B
 obtain⟨s,g,rfl,C⟩:=h;have m:=P8 hc hk g;have v:Rch (dR p k f) 0 s.dst:=.tail r m;have o:plP p k f y/\y≠0/\Rch (dR p k f) 0 y:=by
  rcases C with⟨_,rfl⟩|⟨_,d⟩
  ·exact⟨(Kz hc hk m).2,q9o hc hk m,v⟩
  ·induction d with
   |refl=>exact⟨(Kz hc hk m).2,q9o hc hk m,v⟩
   | @tail b c _ q D=>
     obtain⟨u,A,rfl,rfl⟩:=q.2;have l:=P8 hc hk A;exact⟨(Kz hc hk l).2,q9o hc hk l,.tail D.2.2 l⟩
 exact⟨o.1,o.2.1,T3 hc hk o.2.2⟩
end
def gvX(p:Pg)(f:Pr)(I:List Str)(O:List (List Str))(a:Int):List Str:=if a=0 then QA (I++f.B.map Param.name)else match(flatU f).find? (fun x=>decide (x.s.id=a)&&VR (ZN p f.name) a)with|some x=>QA (YP (bkO p O) x.s)|none=>[]
def tkX(p:Pg)(f:Pr)(I:List (List Str))(o:List Str)(a:Int)(v:Str):Bool:=if a = -1 then v==EI||inS o v else match(flatU f).find? (fun x=>decide (x.s.id=a))with|some x=>inS (QA (KA (bkI p I) x.s)) v|none=>false
open Classical in
noncomputable def q8m(p:Pg)(f:Pr)(I O:List (List Str))(i:Nat):List Fl:=(Ja f).flatMap fun a=>(Ja f).flatMap fun b=>((gvX p f (I.getD i []) O a).filter fun v=>tkX p f I (O.getD i []) b v&&decide (H3 (ZU p f.name) a (gvR p f O v (flatU f)) b)).map fun v=>⟨a,b,v⟩
section
variable {p:Pg}{k:Nat}{f:Pr}(hc:QM p=true)(hk:p.A[k]? = some f)
include hc hk
theorem Ts(A:plP p k f u):gvX p f ((QX p).ins.getD k []) (QX p).F u=YQ p k f (ixI p k f u).toNat:=by
 unfold gvX YQ El;by_cases q:u=0
 ·subst q;rw[if_pos rfl,Mp,if_pos (show Int.toNat 0=0 from rfl)]
 rw[if_neg q];by_cases z:u = -1
 ·subst z;rw[SH,z3y,if_neg (by omega),if_pos rfl,z3l.2 fun x l=>?_];have:=q8v hc hk l;rw[z2r (by omega)];simp
 obtain⟨x,l,rfl⟩:=x2w hc hk A q z;have o:=YA l;obtain⟨d,e,c,g⟩:=Oa hc hk o;have h:=q8v hc hk l;rw[if_neg c,if_neg (by omega)];have w:=(Pq hc hk c g).2.1;rw[<-e,(Mf hc hk o).1,T4 hc hk o]at w;rw[<-w];cases t:VR (ZN p f.name) x.s.id with
 | false=>
   have m:(QQ p k f).live.getD (ixI p k f x.s.id).toNat false=false:=by
    cases r:(QQ p k f).live.getD (ixI p k f x.s.id).toNat false with
    |false=>rfl
    | true=>
      rw[(Q1 hc hk h).2 ((GR hc hk d).1 r)]at t;cases t
   rw[m,z3l.2 fun y B=>by simp];rfl
 | true=>
   rw[(GR hc hk d).2 ((Q1 hc hk h).1 t),z1n];cases v:(flatU f).find? (fun y=>decide (y.s.id=x.s.id)&&true)with
   | none=>
     exfalso;have:=z3l.1 v x l;simp at this
   | some y=>
     have m:=z4a v;simp only[Bool.and_true,z2z]at m;have r:=YA (z3b v);show QA (YP _ y.s)=QA (YP _ x.s);rw[<-T4 hc hk r,<-T4 hc hk o,m]
theorem x5u(A:plP p k f u)(z:u≠0)(m:u = -1\/Rch (wR p k f) 0 u){v:Str}:tkX p f (QX p).ins ((QX p).F.getD k []) u v=true↔v∈Ix p k f (ixI p k f u).toNat:=by
 unfold tkX Ix q9q;by_cases h:u = -1
 ·subst h;rw[if_pos rfl,SH,z3y,if_pos rfl,XY,z4f,XP,z4n,z0o,z0i,or_comm]
 rw[if_neg h];obtain⟨x,w,rfl⟩:=x2w hc hk A z h;have l:=YA w;obtain⟨g,c,r,d⟩:=Oa hc hk l;have m:=m.resolve_left h;rw[if_neg (by omega),if_neg r,(GR hc hk g).2 m,z1n];have q:=(Pq hc hk r d).2.2;rw[<-c,(Mf hc hk l).2,q2y hc hk l]at q;rw[<-q];cases o:(flatU f).find? (fun y=>decide (y.s.id=x.s.id))with
 | none=>
   exfalso;have:=z3l.1 o x w;simp at this
 | some y=>
   have t:=z4a o;simp only[z2z]at t;have e:=YA (z3b o);show inS (QA (KA _ y.s)) v=true↔_;rw[XP,<-q2y hc hk e,<-q2y hc hk l,t]
theorem q6g{s:Fl}:s∈q8m p f (QX p).ins (QX p).F k↔s∈WI p k f:=by
 have hm:=(QV hc).1;have key:∀{a b:Int}{v:Str},plP p k f a->plP p k f b->v∈YQ p k f (ixI p k f a).toNat->((tkX p f (QX p).ins ((QX p).F.getD k []) b v=true/\H3 (ZU p f.name) a (gvR p f (QX p).F v (flatU f)) b)↔(⟨a,b,v⟩:Fl)∈WI p k f):=fun {a b v} ha q l=>by
  have d:=ZO ha;have e:=ZO q;have z:(((ixI p k f a).toNat:Nat):Int)=ixI p k f a:=by omega
  have e2:(((ixI p k f b).toNat:Nat):Int)=ixI p k f b:=by omega
  have o:=q4z hc hk (nm:=v) (a:=(ixI p k f a).toNat) (c:=(ixI p k f b).toNat) (by omega) (by omega);rw[z,e2,PD ha,PD q,<-q6w hc hk ha q l]at o;rw[o];refine and_congr_left fun r=>?_;obtain⟨_,w,x⟩:=q0q hc hk ha l r;exact x5u hc hk q w x
 unfold q8m;rw[z1c];constructor
 ·rintro⟨a,ha,h⟩;obtain⟨b,q,h⟩:=z1c.1 h;obtain⟨v,l,rfl⟩:=z1z.1 h;obtain⟨o,r⟩:=z2u.1 l;rw[z1p,@z5j _ (Classical.propDecidable _)]at r;have m:=(KY hm hk).1 ha;have t:=(KY hm hk).1 q;rw[Ts hc hk m]at o;exact(key m t o).1 r
 ·intro h;obtain⟨nm,c,a,o,r,w,rfl,_⟩:=Ep h;have m:=FF (p:=p) (j:=k) (f:=f) (i:=(a:Nat)) ⟨by omega,by omega⟩;have t:=FF (p:=p) (j:=k) (f:=f) (i:=(c:Nat)) ⟨by omega,by omega⟩;have l:nm∈YQ p k f (ixI p k f (QH p k (QY f.body+2:Nat) a)).toNat:=by rw[m.2,z3y];exact w
  have x:=(key m.1 t.1 l).2 h;refine⟨_,(KY hm hk).2 m.1,z1c.2 ⟨_,(KY hm hk).2 t.1,z1z.2 ⟨nm,z2u.2 ⟨?_,?_⟩,rfl⟩⟩⟩
  ·rw[Ts hc hk m.1];exact l
  ·rw[z1p,@z5j _ (Classical.propDecidable _)];exact x
def q4d(l:plP p k f u):(gvX p f ((QX p).ins.getD k []) (QX p).F u).Pairwise ltT:=by
 rw[Ts hc hk l];refine F0 (fun d h=>?_) _;rw[(UZ hc).N]at h;obtain⟨it,_,rfl⟩:=z1z.1 h;exact XB _
theorem q6h:(q8m p f (QX p).ins (QX p).F k).Pairwise ltF:=by
 have hm:=(QV hc).1;have s:∀{a b:Int},a∈Ja f->b∈Ja f->ordP a b->QS a<QS b:=fun {a b} ha l h=>by
  have z:=(XF hc).2.2;have t:=UC _ _ (z1d hk);have d:QL p.A k<=1000:=z2g (C6 _ _) (by omega);have e:=(KY hm hk).1 ha;have g:=(KY hm hk).1 l;unfold plP at e g;rw[GT]at h;unfold QS;split<;>split<;>omega
 have r:=x1b hc hk;unfold q8m;rw[List.pairwise_flatMap];refine⟨fun a ha=>?_,(List.Pairwise.and_mem.1 r).imp fun {a b} ⟨ha,l,h⟩ x m y o=>?_⟩
 ·rw[List.pairwise_flatMap];refine⟨fun b l=>?_,(List.Pairwise.and_mem.1 r).imp fun {b c} ⟨l,q,h⟩ x m y o=>?_⟩
  ·rw[z5o];refine((q4d hc hk ((KY hm hk).1 ha)).filter _).imp fun {v w} h=>.inr ⟨rfl,.inr ⟨rfl,h⟩⟩
  ·obtain⟨v,_,rfl⟩:=z1z.1 m;obtain⟨w,_,rfl⟩:=z1z.1 o;exact .inr ⟨rfl,.inl (s l q h)⟩
 ·obtain⟨b,_,m⟩:=z1c.1 m;obtain⟨c,_,o⟩:=z1c.1 o;obtain⟨v,_,rfl⟩:=z1z.1 m;obtain⟨w,_,rfl⟩:=z1z.1 o;exact .inl (s ha l h)
def x1l(r:Fit p):q8m p f (QX p).ins (QX p).F k=WI p k f:=by
 have l:=q6h hc hk;have m:=O4 hc (q7i hc k f);have o:(q8m p f (QX p).ins (QX p).F k).Nodup:=l.imp fun {a b} h e=>by rw[e]at h;exact ltF.irr _ h
 have t:(((mapG (prsG (YQ p k f) (QY f.body+2))).map Prod.fst).flatMap (outN (YQ p k f) (Ix p k f) (fun c=>QH p k (QY f.body+2:Nat) c) (QY f.body+2) (JD (QQ p k f) f))).Perm (q8m p f (QX p).ins (QX p).F k):=
  (z4i _ _).symm.trans ((List.perm_ext_iff_of_nodup m o).2 fun s=>(q6g hc hk).symm)
 exact(q1g t (l.imp fun {a b} h q=>ltF.irr _ (ltF.trans _ _ _ h q)) (Mr r hc hk).ok).symm
def q6u:Ja f=(List.range (QY f.body+2)).map fun x=>QH p k (QY f.body+2:Nat) (x:Nat):=by
 refine z8x (by rw[Q5];simp) fun i h m=>?_;have l:=C8 (QV hc).1 hk (x:=i) (by rw[Q5]at h;exact h);rw[z0c h]at l;rw[z3q l];simp
theorem IC:((Ja f).map fun a=>(gvX p f ((QX p).ins.getD k []) (QX p).F a).length).sum=(prsG (YQ p k f) (QY f.body+2)).length:=by
 rw[q6u hc hk,z4e];unfold prsG;rw[List.length_flatMap];congr 1;refine z8k fun x h=>?_;have h:=z2h.1 h;have l:=FF (p:=p) (j:=k) (f:=f) (i:=(x:Nat)) ⟨by omega,by omega⟩;show(gvX p f _ _ (QH p k (QY f.body+2:Nat) x)).length=_;rw[Ts hc hk l.1,l.2,z3y,z0s]
def q8z(h:plP p k f u):(gvX p f ((QX p).ins.getD k []) (QX p).F u).length<=34:=by
 rw[Ts hc hk h];exact x4u hc hk _
end
def fdY{P:α->Bool}{L:List α}(h:j<L.length)(l:P L[j]=true):(L.drop j).find? P=some L[j]:=by rw[z2v h,List.find?_cons_of_pos l]
def fdN{P:α->Bool}{L:List α}(h:j<L.length)(l:P L[j]=false):(L.drop j).find? P=(L.drop (j+1)).find? P:=by rw[z2v h,List.find?_cons_of_neg (by rw[l];decide)]
def fdE{P:α->Bool}{L:List α}(h:L.length<=j):(L.drop j).find? P=none:=by rw[List.drop_of_length_le h];rfl
def EL{A L:List Step}{s:Step}{at_:Int}{but:List Int}:It A (L++[s]) at_ but y↔It A L at_ but y\/(s.src=at_/\((VR but s.dst=true/\y=s.dst)\/(VR but s.dst=false/\Rch (frR A s.dst but) s.dst y))):=by
 constructor
 .rintro ⟨t,m,h,l⟩;rcases z0o.1 m with m|m
  .exact .inl ⟨t,m,h,l⟩
  .rw [z0i.1 m]at h l;exact .inr ⟨h,l⟩
 .rintro (⟨t,m,h,l⟩|⟨h,l⟩)
  .exact ⟨t,z3f _ m,h,l⟩
  .exact ⟨s,z3o _ (z0i.2 rfl),h,l⟩
theorem Ih{es:List AV}{n:Nat}{K:Prop}(xs:List Int)(h:n=es.length)(o:es.length+xs.length<=8796093022208)(l:K):AppK es (xs.map (.int .i64)) n (xs.map (AV.int .i64)).length 1 8 K:=
 .mk h rfl (by rw[h];simp;omega) (by rw[h];simp[maxLen];omega) (fun x m=>by obtain⟨y,_,rfl⟩:=z1z.1 m;exact⟨rfl,rfl⟩) l
def x6a(A:List Step)(at_:Int)(but:List Int)(r:AV):Prop:=∃es,r=QG es/\∀y,y∈es↔H3 A at_ but y
theorem Uw(steps:List Step)(at_:Int)(but:List Int)(F:steps.length<=1000000):SpecP prog 98 [eSteps steps,.int .i64 at_,QG but] (fun r=>x6a steps at_ but r):=by
 refine sC Qh func98 ?_;conv=>whnf
 have hsl:(steps.map fun s=>AV.agg s.cells).length=steps.length:=z0s _;obtain⟨q,N⟩ : ∃q,q=steps.length+1:=⟨_,rfl⟩;have d:∀j,j<=steps.length->j*q<=1000000*1000001:=fun j h=>z8q (by omega) (by omega);have e:∀j,(j+1)*q=j*q+q:=fun j=>Nat.succ_mul _ _;repeat' ((refine iM fun _=>?_)<;>conv=>whnf)
 refine lJ (fun x:Nat×List Int=>⟨[(0,.p (eSteps steps)),(1,.j at_),(2,.p (QG but)),(7,.hd 0 0 x.2.length),(10,.p (eSteps steps)),(11,.p (.int .i64 (steps.map fun s=>AV.agg s.cells).length)),(12,.j x.1)],[(0,.own 3 1 (x.2.map (.int .i64)))]⟩) (fun x=>x.1<=steps.length/\x.2.length<=x.1*q/\∀y,y∈x.2↔It steps (steps.take x.1) at_ but y) (fun x=>steps.length-x.1) (0,[]) (lM [(0,.own 3 1 [])]) ⟨z1q _,z1q _,fun y=>by simp[It]⟩ ?_;rintro⟨j,l⟩ ⟨E,G,t⟩;simp only at E G t⊢;have g:(l.map (AV.int .i64)).length=l.length:=z0s _;have d:=d j E;have e:=e j;rcases z1w j steps.length with v|v
 ·have D:=z1y v;have hH:=XD but steps[j].dst;have J:=WO steps steps[j].dst but (by omega);have o:=fun y=>EL (A:=steps) (L:=steps.take j) (s:=steps[j]) (at_:=at_) (but:=but) (y:=y);rw[<-D]at o;cases z:VR but steps[j].dst;all_goals
   rw[z]at hH;conv=>whnf
   repeat' ((first|(refine gX ?_;intros)|refine cP hH ?_|refine pI ?_|refine Ih _ g.symm (by omega) ?_|refine Br.tt ?_|refine Br.ff ?_|((first|apply bD|apply bE)<;>intro _<;>try omega)|(refine CallK.pure J (.cons (Sub.refl _) (.cons (Sub.refl _) (.cons (Sub.refl _) .nil))) ?_;rintro _ ⟨es,rfl,c,hnd⟩;have K:=He c hnd;have M:(es.map (AV.int .i64)).length=es.length:=z0s _))<;>conv=>whnf)
  all_goals first
   | (have C:¬steps[j].src=at_:=by assumption
      exact nX (j+1,l) ⟨v,by simp only;omega,fun y=>by simp only;rw[t,o];exact⟨.inl,fun h=>h.resolve_right fun m=>C m.1⟩⟩)
   | (have B:steps[j].src=at_:=by omega
      exact⟨(j+1,l++[steps[j].dst]),⟨v,by simp;omega,fun y=>by simp only;rw[z0o,z0i,t,o];exact⟨fun h=>h.imp_right fun m=>⟨B,.inl ⟨z,m⟩⟩,fun h=>h.imp_right fun m=>(m.2.resolve_right fun w=>by rw[z]at w;cases w.1).2⟩⟩,by simp only;omega,Le.of_eq (by simp only[z0e,z1v];rfl)⟩)
   | (have B:steps[j].src=at_:=by omega
      exact⟨(j+1,l++es),⟨v,by simp;omega,fun y=>by simp only;rw[z0o,c,t,o];exact⟨fun h=>h.imp_right fun m=>⟨B,.inr ⟨z,m⟩⟩,fun h=>h.imp_right fun m=>(m.2.resolve_left fun w=>by rw[z]at w;cases w.1).2⟩⟩,by simp only;omega,Le.of_eq (by simp only[z0e,z1v,z0s];rfl)⟩)
 ·rw[z1f v]at t;conv=>whnf
  repeat' (apply bD<;>intro _<;>first|omega|conv=>whnf)
  all_goals first
   |exact⟨_,.hd rfl (by simp),l,rfl,t⟩
theorem US(p:Pg)(I O:List (List Str))(hc:QM p=true)(G:OkO p O)(r:OkI p I)(i:Nat)(f:Pr)(m:p.A[i]?=some f)(a:Int):aP 38 [.ip (Ud p I O),.int .i64 i,.int .i64 a] (eStrs (gvX p f (I.getD i []) O a)):=by
 refine sC HW func38 ?_;conv=>whnf
 have hm:=(QV hc).1;have R:=WL hm m;have M:=WU (flatU f);have w:=Vo m;have c:=Li m;have d:=R0 m;have hiI:i<I.length:=by rw[r.len];exact(z1k.1 m).1
 have z:=R1 hiI;have F:=r.len25 hc i;have K:f.B.length<=8:=by
  have:=Q2 hc i
  rwa[GK m]at this
 unfold gvX;by_cases D:a=0
 ·subst D;rw[if_pos rfl];have N:=XQ (I.getD i []++f.B.map Param.name) (by rw[z0e,z0s];omega);have T:(f.B.map fun x=>AV.agg x.cells).length=f.B.length:=z0s _;generalize I.getD i []=Ii at*
  have L:(Ii.map AV.str).length=Ii.length:=z0s _;repeat' ((first|(refine iM fun _=>?_)|refine z1s rfl ?_|refine aD ?_|refine iT z ?_|refine iT d ?_|refine z5l (fun x U=>by cases U) rfl ?_|refine XM _ rfl (by simp;omega) ?_|(apply bD<;>intro _<;>try omega))<;>conv=>whnf)
  refine lJ (fun j:Nat=>⟨[(7,.hd 0 0 (Ii++(f.B.take j).map Param.name).length),(31,.p (.sl (f.B.map fun a=>.agg a.cells))),(32,.p (.int .i64 (f.B.map fun a=>AV.agg a.cells).length)),(33,.j j)],[(0,.own 9 1 ((Ii++(f.B.take j).map Param.name).map .str))]⟩) (fun j=>j<=f.B.length) (fun j=>f.B.length-j) 0 (by first|exact Le.of_eq (by simp;exact⟨rfl,rfl⟩)|trace_state) (z1q _) ?_;intro j e;rcases z1w j f.B.length with h|h
  ·have C:Ii++(f.B.take (j+1)).map Param.name=(Ii++(f.B.take j).map Param.name)++[f.B[j].name]:=by rw[z1y h,z1v,z1m];rfl
   have Q:(Ii++(f.B.take j).map Param.name).length<=1000:=by simp;omega
   generalize Ii++(f.B.take j).map Param.name=acc at*
   conv=>whnf
   repeat' ((first|(refine gX ?_;intros)|refine XK (by simp) (by rw[z0s];omega) ?_|(apply bD<;>intro _<;>try omega))<;>conv=>whnf)
   all_goals first
    |exact⟨j+1,h,by omega,Le.of_eq (by rw[C,z0e,z1v];rfl)⟩
  ·rw[z1f h];generalize Ii++f.B.map Param.name=acc at*
   conv=>whnf
   repeat' ((first|(refine XG N (.cons (.hd rfl (by simp)) .nil) ?_;rintro _ rfl)|(apply bD<;>intro _<;>try omega))<;>conv=>whnf)
   all_goals first
    |exact RetK.p rfl
 ·rw[if_neg D];have E:=fun(k:Nat) (hk:k<(flatU f).length)=>WK p I O (flatU f)[k].s hc G (z1c.2 ⟨f,z1d m,YA (z1h hk)⟩);have t:=XD (ZN p f.name) a;obtain⟨P,J⟩ : ∃P:RI->Bool,P=fun x=>decide (x.s.id=a)&&VR (ZN p f.name) a:=⟨_,rfl⟩;rw[<-J];clear G r;repeat' ((first|(refine iM fun _=>?_)|refine iT w ?_|(apply bD<;>intro _<;>try omega))<;>conv=>whnf)
  all_goals try (exfalso;omega)
  refine lI (fun j:Nat=>⟨[(0,.p (.ip (Ud p I O))),(1,.j i),(2,.j a),(51,.p (VY (flatU f))),(52,.p (.int .i64 ((flatU f).map fun i=>AV.agg i.cells).length)),(53,.j j)],[]⟩) (fun j=>j<=(flatU f).length/\((flatU f).drop j).find? P=(flatU f).find? P) (fun j=>(flatU f).length-j) 0 ⟨z1q _,rfl⟩ ?_;rintro j ⟨e,o⟩;rw[<-o];rcases z1w j (flatU f).length with h|h
  ·have q:=E j h;have l:P (flatU f)[j]=(decide ((flatU f)[j].s.id=a)&&VR (ZN p f.name) a):=by rw[J]
   clear E;generalize VR (ZN p f.name) a=lv at*
   cases lv;all_goals
    conv=>whnf
    repeat' ((first|(refine gX ?_;intros)|refine iT c ?_|refine cP t ?_|refine cP q ?_|refine Br.tt ?_|refine Br.ff ?_|(apply bD<;>intro _<;>try omega))<;>conv=>whnf)
   all_goals first
    | (have v:(flatU f)[j].s.id=a:=by assumption
       rw[v,z2t rfl]at l;first
        |(rw[fdY h l];exact RetK.p rfl)
        |(have g:=fdN h l;exact nX (j+1) ⟨h,by rw[<-g,o]⟩))
    | (have v:¬(flatU f)[j].s.id=a:=by assumption
       rw[z2r v]at l;have g:=fdN h l;exact nX (j+1) ⟨h,by rw[<-g,o]⟩)
  ·rw[fdE h];conv=>whnf
   repeat' (apply bD<;>intro _<;>first|omega|conv=>whnf)
   all_goals first
    |exact⟨_,.p Sub.nils,rfl⟩
theorem DP(p:Pg)(I O:List (List Str))(hc:QM p=true)(D:O.length=p.A.length)(e:OkI p I)(i:Nat)(f:Pr)(q:p.A[i]?=some f)(a:Int)(v:Str):aP 100 [.ip (Ud p I O),.int .i64 i,.int .i64 a,.str v] (.bool (tkX p f I (O.getD i []) a v)):=by
 refine sC HV func100 ?_;conv=>whnf
 have hm:=(QV hc).1;have F:=WL hm q;have C:=WU (flatU f);have w:=Vo q;have c:i<O.length:=by rw[D];exact(z1k.1 q).1
 have z:=R1 c;unfold tkX;by_cases d:a = -1
 ·subst d;rw[if_pos rfl];have l:=QF (O.getD i []) v;generalize K:inS (O.getD i []) v=b at*
  have J:(v==[36,114,101,116])=(v==EI):=rfl;cases b;all_goals
   repeat' ((first|refine iT z ?_|refine cP l ?_|refine Br.tt ?_|(apply bB<;>intro _))<;>conv=>whnf)
  all_goals first
   |exact RetK.bool (by simp_all)
   |exact RetK.tt (by simp_all)
   |exact RetK.ff (by simp_all)
 ·rw[if_neg d];have B:=fun(k:Nat) (hk:k<(flatU f).length)=>YB p I O (flatU f)[k].s hc e (z1c.2 ⟨f,z1d q,YA (z1h hk)⟩);obtain⟨P,g⟩ : ∃P:RI->Bool,P=fun x=>decide (x.s.id=a):=⟨_,rfl⟩;rw[<-g];clear e;repeat' ((first|(refine iM fun _=>?_)|refine iT w ?_|(apply bD<;>intro _<;>try omega))<;>conv=>whnf)
  all_goals try (exfalso;omega)
  refine lI (fun j:Nat=>⟨[(0,.p (.ip (Ud p I O))),(2,.j a),(3,.p (.str v)),(32,.p (VY (flatU f))),(33,.p (.int .i64 ((flatU f).map fun i=>AV.agg i.cells).length)),(34,.j j)],[]⟩) (fun j=>j<=(flatU f).length/\((flatU f).drop j).find? P=(flatU f).find? P) (fun j=>(flatU f).length-j) 0 ⟨z1q _,rfl⟩ ?_;rintro j ⟨E,o⟩;rw[<-o];rcases z1w j (flatU f).length with m|m
  ·have r:=B j m;have l:=QF (QA (KA (bkI p I) (flatU f)[j].s)) v;have h:P (flatU f)[j]=decide ((flatU f)[j].s.id=a):=by rw[g]
   clear B;conv=>whnf
   repeat' ((first|(refine gX ?_;intros)|refine cP r ?_|refine cP l ?_|(apply bD<;>intro _<;>try omega))<;>conv=>whnf)
   all_goals first
    | (have t:(flatU f)[j].s.id=a:=by assumption
       rw[z2t t]at h;rw[fdY m h];exact RetK.bool rfl)
    | (have t:¬(flatU f)[j].s.id=a:=by assumption
       rw[z2r t]at h;have G:=fdN m h;exact nX (j+1) ⟨m,by rw[<-G,o]⟩)
  ·rw[fdE m];conv=>whnf
   repeat' (apply bD<;>intro _<;>first|omega|conv=>whnf)
   all_goals first
    |exact RetK.ff rfl
open Classical in
noncomputable def rfB(p:Pg)(f:Pr)(I O:List (List Str))(i:Nat)(a b:Int)(v:Str):Bool:=tkX p f I (O.getD i []) b v&&decide (H3 (ZU p f.name) a (gvR p f O v (flatU f)) b)
noncomputable def rfR(p:Pg)(f:Pr)(I O:List (List Str))(i:Nat)(a b:Int)(L:List Str):List Fl:=(L.filter (rfB p f I O i a b)).map fun v=>⟨a,b,v⟩
noncomputable def rfP(p:Pg)(f:Pr)(I O:List (List Str))(i:Nat)(a:Int)(L:List Int):List Fl:=L.flatMap fun b=>rfR p f I O i a b (gvX p f (I.getD i []) O a)
def q0v(p:Pg)(f:Pr)(I O:List (List Str))(i:Nat):q8m p f I O i=(Ja f).flatMap fun a=>rfP p f I O i a (Ja f):=rfl
section
variable (p:Pg)(f:Pr)(I O:List (List Str))(i:Nat)(a b:Int)
def x1r(L:List Str):(rfR p f I O i a b L).length<=L.length:=by unfold rfR;rw[z0s];exact z2s _ _
def q6b(L:List Str)(v:Str):rfR p f I O i a b (L++[v])=rfR p f I O i a b L++(if rfB p f I O i a b v=true then [⟨a,b,v⟩]else []):=by
 unfold rfR;rw[z2j,z1v];congr 1;by_cases h:rfB p f I O i a b v=true
 .rw [if_pos h,z2m h];rfl
 .rw [if_neg h,z2n h];rfl
def q6d(L:List Int):rfP p f I O i a (L++[b])=rfP p f I O i a L++rfR p f I O i a b (gvX p f (I.getD i []) O a):=by
 unfold rfP;rw[z3g,z2d,z6w,z2y]
end
def SnI(p:Pg)(f:Pr)(O:List (List Str))(a:Int)(G:List Str)(m:Nat)(S:List (List Int)):Prop:=S.length=m/\∀(q:Nat)(v:Str)(l:List Int),G[q]?=some v->S[q]?=some l->∀y,y∈l↔H3 (ZU p f.name) a (gvR p f O v (flatU f)) y
theorem SnI.snoc{f:Pr}{a:Int}{G:List Str}{m:Nat}{S:List (List Int)}(h:SnI p f O a G m S){es:List Int}(hm:m<G.length)(x:∀y,y∈es↔H3 (ZU p f.name) a (gvR p f O G[m] (flatU f)) y):SnI p f O a G (m+1) (S++[es]):=by
 refine⟨by simp[h.1],fun q v l r o=>?_⟩;rcases z1w q S.length with t|t
 ·rw[z2a t]at o;exact h.2 q v l r o
 ·have w:=(z1k.1 o).1;simp at w;obtain rfl:q=m:=by have:=h.1;omega
  rw[z2f t,show q-S.length=0 by omega]at o;rw[z0c hm]at r;cases r;cases o;exact x
def avW(S:List (List Int)):List AV:=S.map QG
def q9m(S:List (List Int)):(avW S).length=S.length:=z0s _
theorem DB(p:Pg)(hf:Fit p)(hc:QM p=true)(i:Nat)(f:Pr)(r:p.A[i]?=some f):aP 40 [.ip (Ud p (QX p).ins (QX p).F),.int .i64 i] (.sl ((WI p i f).map Xx)):=by
 refine sC HZ func40 ?_;conv=>whnf
 have hm:=(QV hc).1;obtain⟨hO,hI⟩:=UO hc;obtain⟨o,Y,hw⟩:=U6 hc (z1d r);obtain⟨rfl,_⟩:=Vb hc Y r rfl;have hPc:=UT p hf f.name o f hw r;have hPl:(Ja f).length<=202:=by
  have hcn:=(XF hc).2.2;have hcb:=UC _ _ (z1d r);rw[Q5];omega
 have V:=AM r;have hgP:=R0 r;have hG:=fun a=>US p (QX p).ins (QX p).F hc hO hI o f r a;have hT:=fun a v=>DP p (QX p).ins (QX p).F hc hO.len hI o f r a v;have Q:=fun v=>UQ p (QX p).ins (QX p).F hc hO o f r v;have hdl:(ZU p f.name).length<=1000000:=by rw[MB hc r];exact z2g (Ws hc r) (by decide)
 have M:=fun(x:Nat) (h:x<(Ja f).length)=>q8z hc r ((KY hm r).1 (z1h h));rw[<-x1l hc r hf,q0v];have e:=x1r p f (QX p).ins (QX p).F o;have z:=q6b p f (QX p).ins (QX p).F o;have C:=q6d p f (QX p).ins (QX p).F o;have w:∀a b v,rfB p f (QX p).ins (QX p).F o a b v=(tkX p f (QX p).ins ((QX p).F.getD o []) b v && @decide (H3 (ZU p f.name) a (gvR p f (QX p).F v (flatU f)) b) (Classical.propDecidable _)):=fun _ _ _=>rfl;clear hO hI hf Y hw;generalize(QX p).ins=I at*
 generalize(QX p).F=O at*
 generalize Ja f=P at*
 have hPm:(P.map (AV.int .i64)).length=P.length:=z0s _;repeat' ((first|(refine iM fun _=>?_)|refine dA ?_|refine iT hgP ?_|refine cP hPc ?_)<;>conv=>whnf)
 refine lJ (fun x:Nat×List Fl=>⟨[(0,.p (.ip (Ud p I O))),(1,.j o),(5,.hd 0 0 x.2.length),(6,.p (QG P)),(31,.p (QG P)),(32,.p (.int .i64 (P.map (AV.int .i64)).length)),(33,.j x.1)],[(0,.own 89 3 (x.2.map Xx))]⟩) (fun x=>x.1<=P.length/\x.2=(P.take x.1).flatMap (fun a=>rfP p f I O o a P)/\x.2.length<=x.1*6868) (fun x=>P.length-x.1) (0,[]) (lM [(0,.own 89 3 [])]) ⟨z1q _,by simp,z1q _⟩ ?_;rintro⟨j,s⟩ ⟨h1,D,h3⟩;simp only at h1 D h3⊢;rcases z1w j P.length with d|d;rotate_left
 ·rw[z1f d]at D;rw[<-D];conv=>whnf
  repeat' (apply bD<;>intro _<;>first|omega|conv=>whnf)
  all_goals first
   |exact⟨_,.hd rfl (by simp),rfl⟩
 have N:=hG P[j];have hgl:=M j d;have hst:(P.take (j+1)).flatMap (fun a=>rfP p f I O o a P)=s++rfP p f I O o P[j] P:=by rw[z1y d,z3g,<-D,z2d,z6w,z2y]
 have z:=z P[j];have C:=C P[j];have e:=e P[j];have w:=w P[j];have R:=fun but=>Uw (ZU p f.name) P[j] but hdl;clear hG M D;obtain⟨G,E⟩ : ∃G,G=gvX p f (I.getD o []) O P[j]:=⟨_,rfl⟩;have hrp:∀L,rfP p f I O o P[j] L=L.flatMap fun b=>rfR p f I O o P[j] b G:=fun L=>by rw[E];rfl
 rw[<-E]at N hgl C;rw[hrp]at hst;clear E hrp C;have hGm:(G.map AV.str).length=G.length:=z0s _;conv=>whnf
 repeat' ((first|(refine gX ?_;intros)|refine cP N ?_|(apply bD<;>intro _<;>try omega))<;>conv=>whnf)
 refine lJ (fun x:Nat×List (List Int)=>⟨[(0,.p (.ip (Ud p I O))),(1,.j o),(5,.hd 0 0 s.length),(6,.p (QG P)),(8,.p (.int .i64 P[j])),(9,.p (eStrs G)),(10,.hd 1 0 x.2.length),(31,.p (QG P)),(32,.p (.int .i64 (P.map (AV.int .i64)).length)),(33,.j j),(41,.p (eStrs G)),(42,.p (.int .i64 (G.map AV.str).length)),(43,.j x.1)],[(0,.own 89 3 (s.map Xx)),(1,.own 54 1 (avW x.2))]⟩) (fun x=>x.1<=G.length/\SnI p f O P[j] G x.1 x.2) (fun x=>G.length-x.1) (0,[]) (lM [(1,.own 54 1 [])]) ⟨z1q _,rfl,fun q v l h1 D=>by simp at D⟩ ?_;rintro⟨m,S⟩ ⟨g1,g2⟩;simp only at g1 g2⊢;have hSl:=g2.1;have hSm:=q9m S;rcases z1w m G.length with J|J
 ·have hgv:=Q G[m];have hpa:=R (gvR p f O G[m] (flatU f));have c:=fun es he=>g2.snoc (es:=es) J he;generalize gvR p f O G[m] (flatU f)=but at*
  conv=>whnf
  repeat' ((first|refine dA ?_|(refine gX ?_;intros)|refine iT V ?_|refine cP hgv ?_|refine pA 1 24 hSm.symm ?_|(apply bD<;>intro _<;>try omega)|(refine CallK.pure hpa (.cons (Sub.refl _) (.cons (Sub.refl _) (.cons (Sub.refl _) .nil))) ?_;rintro _ ⟨es,rfl,hes⟩))<;>conv=>whnf)
  all_goals first
   |exact⟨(m+1,S++[es]),⟨J,c es hes⟩,by simp only;omega,Le.of_eq (by unfold avW;simp only[z0e,z1v];rfl)⟩
 obtain rfl:m=G.length:=by omega
 clear R Q V;conv=>whnf
 repeat' ((first|(refine iM fun _=>?_)|(apply bD<;>intro _<;>try omega))<;>conv=>whnf)
 refine lI (fun x:Nat×List Fl=>⟨[(0,.p (.ip (Ud p I O))),(1,.j o),(5,.hd 0 0 x.2.length),(6,.p (QG P)),(8,.p (.int .i64 P[j])),(9,.p (eStrs G)),(10,.hd 1 0 S.length),(31,.p (QG P)),(32,.p (.int .i64 (P.map (AV.int .i64)).length)),(33,.j j),(64,.p (QG P)),(65,.p (.int .i64 (P.map (AV.int .i64)).length)),(66,.j x.1)],[(0,.own 89 3 (x.2.map Xx)),(1,.own 54 1 (avW S))]⟩) (fun x=>x.1<=P.length/\x.2=s++(P.take x.1).flatMap (fun b=>rfR p f I O o P[j] b G)/\x.2.length<=j*6868+x.1*34) (fun x=>P.length-x.1) (0,s) ⟨z1q _,by simp,by simp;omega⟩ ?_;rintro⟨n,K⟩ ⟨k1,k2,k3⟩;simp only at k1 k2 k3⊢;rcases z1w n P.length with B|B;rotate_left
 ·rw[z1f B]at k2;rw[k2]at k3⊢;conv=>whnf
  repeat' ((first|refine wI ?_|(apply bD<;>intro _<;>try omega))<;>conv=>whnf)
  all_goals first
   |exact⟨(j+1,s++P.flatMap (fun b=>rfR p f I O o P[j] b G)),⟨d,hst.symm,by simp only;omega⟩,by simp only;omega,lE⟩
 have hst2:(P.take (n+1)).flatMap (fun b=>rfR p f I O o P[j] b G)=(P.take n).flatMap (fun b=>rfR p f I O o P[j] b G)++rfR p f I O o P[j] P[n] G:=by rw[z1y B,z3g,z2d,z6w,z2y]
 have T:=hT P[n];have z:=z P[n];have e:=e P[n];have w:=w P[n];conv=>whnf
 repeat' ((first|(refine gX ?_;intros)|(apply bD<;>intro _<;>try omega))<;>conv=>whnf)
 refine lI (fun x:Nat×List Fl=>⟨[(0,.p (.ip (Ud p I O))),(1,.j o),(5,.hd 0 0 x.2.length),(6,.p (QG P)),(8,.p (.int .i64 P[j])),(9,.p (eStrs G)),(10,.hd 1 0 S.length),(14,.p (.int .i64 P[n])),(31,.p (QG P)),(32,.p (.int .i64 (P.map (AV.int .i64)).length)),(33,.j j),(64,.p (QG P)),(65,.p (.int .i64 (P.map (AV.int .i64)).length)),(66,.j n),(70,.p (eStrs G)),(71,.p (.int .i64 (G.map AV.str).length)),(72,.j x.1)],[(0,.own 89 3 (x.2.map Xx)),(1,.own 54 1 (avW S))]⟩) (fun x=>x.1<=G.length/\x.2=K++rfR p f I O o P[j] P[n] (G.take x.1)/\x.2.length<=j*6868+n*34+x.1) (fun x=>G.length-x.1) (0,K) ⟨z1q _,by simp[rfR],by simp;omega⟩ ?_;rintro⟨q,g⟩ ⟨q1,q2,q3⟩;simp only at q1 q2 q3⊢;have ham:(g.map Xx).length=g.length:=z0s _;rcases z1w q G.length with t|t;rotate_left
 ·rw[z1f t]at q2;rw[q2]at q3⊢;rw[k2,z1m,<-hst2]at q3⊢;conv=>whnf
  repeat' ((first|refine wI ?_|(apply bD<;>intro _<;>try omega))<;>conv=>whnf)
  all_goals first
   |exact⟨(n+1,_),⟨B,rfl,by simp only;omega⟩,by simp only;omega,Le.of_eq rfl⟩
 have c:=z (G.take q) G[q];rw[<-z1y t]at c;have hTq:=T G[q];have hqS:q<S.length:=by omega
 have eS:(avW S)[q]?=some (QG S[q]):=by unfold avW;rw[z1u,z0c hqS];rfl
 have hLv:=XD S[q] P[n];have hrq:=w G[q];have Z:=g2.2 q G[q] S[q] (z0c t) (z0c hqS) P[n];have U:@decide (H3 (ZU p f.name) P[j] (gvR p f O G[q] (flatU f)) P[n]) (Classical.propDecidable _)=VR S[q] P[n]:=by
  rw[z4z,ZF,Z,@z5j _ (Classical.propDecidable _)]
 rw[U]at hrq;clear U Z w T hT z e;generalize tkX p f I (O.getD o []) P[n] G[q]=tb at*
 generalize VR S[q] P[n]=hb at*
 generalize rfB p f I O o P[j] P[n] G[q]=rb at*
 cases tb<;>cases hb;all_goals
  rw[hrq]at c;conv=>whnf
  repeat' ((first|(refine gX ?_;intros)|refine cP hTq ?_|refine iO q ?_|refine lO eS ?_|refine cP hLv ?_|refine pA 1 32 ham.symm ?_|refine Br.tt ?_|refine Br.ff ?_|(apply bD<;>intro _<;>try omega))<;>conv=>whnf)
 all_goals first
  |exact nX (q+1,g) ⟨t,by simp only;rw[c,q2];simp,by simp only;omega⟩
  |exact⟨(q+1,g++[⟨P[j],P[n],G[q]⟩]),⟨t,by simp only;rw[c,<-z1m,<-q2];rfl,by simp;omega⟩,by simp only;omega,Le.of_eq (by simp only[z0e,z1v];rfl)⟩
def q8e(p:Pg)(I O:List (List Str)):Heap:=[(1000,.obj 86 [.p (eStrs p.C),.p (.sl (p.A.map fun f=>.agg f.cells)),.p .tt,.hd 1001 0 p.A.length,.hd 1002 0 p.A.length,.hd 1003 0 p.A.length,.hd 1004 0 p.A.length,.hd 1005 0 p.A.length]),(1001,.own 22 1 (I.map eStrs)),(1002,.own 22 1 (O.map eStrs)),
 (1003,.own 145 1 (p.A.map fun f=>VY (flatU f))),(1004,.own 54 1 (p.A.map fun f=>QG (ZN p f.name))),(1005,.own 141 1 (p.A.map fun f=>eSteps (ZU p f.name)))]
def x5t{m o q r s t:Nat}{v w e2 x z d:TypeId}{I:List (List Str)}(e:getH H m=some (.obj v [.p (eStrs p.C),.p (.sl (p.A.map fun f=>.agg f.cells)),.p .tt,.hd o 0 p.A.length,.hd q 0 p.A.length,.hd r 0 p.A.length,.hd s 0 p.A.length,.hd t 0 p.A.length]))(g:getH H o=some (.own w 1 (I.map eStrs)))(B:getH H q=some (.own e2 1 (O.map eStrs)))(D:getH H r=some (.own x 1 (p.A.map fun f=>VY (flatU f))))(E:getH H s=some (.own z 1 (p.A.map fun f=>QG (ZN p f.name))))(F:getH H t=some (.own d 1 (p.A.map fun f=>eSteps (ZU p f.name))))(G:I.length=p.A.length)(J:O.length=p.A.length):Frz H (.ptr m 0) (.ip (Ud p I O)):=
 Frz.ptr (off:=0) (cs:=Ud p I O) e rfl fun j l c h hc=>by
  match j,h,hc with
  |0,h,hc=>cases h;cases hc;exact .p (Sub.refl _)
  |1,h,hc=>cases h;cases hc;exact .p (Sub.refl _)
  |2,h,hc=>cases h;cases hc;exact .p (Sub.refl _)
  |3,h,hc=>cases h;cases hc;exact .hd g (by rw[z0s,G])
  |4,h,hc=>cases h;cases hc;exact .hd B (by rw[z0s,J])
  |5,h,hc=>cases h;cases hc;exact .hd D (by rw[z0s])
  |6,h,hc=>cases h;cases hc;exact .hd E (by rw[z0s])
  |7,h,hc=>cases h;cases hc;exact .hd F (by rw[z0s])
  |j+8,h,_=>cases h
def q0g(h:i<O.length):(O.map eStrs)[i]?=some (eStrs (O.getD i [])):=R1 h
def q0f{l:List Str}:(O.map eStrs).set i (eStrs l)=(O.set i l).map eStrs:=by rw[z3w]
theorem Of(p:Pg)(I O:List (List Str))(hc:QM p=true)(R:I.length=p.A.length)(c:GsI (rdO p) p.A.length (QX p).F O):SpecH prog 81 [.ptr 1000 0,.p .ff] (q8e p I O) (fun r H=>∃(O':List (List Str)) (m:Bool),r=.p (bv m)/\H=q8e p I O'/\GsI (rdO p) p.A.length (QX p).F O'/\(m=true->tot O<tot O')/\(m=false->O'=O/\rdO p O=O)):=by
 refine sK VA func81 ?_;conv=>whnf
 have hpm:(p.A.map fun f=>AV.agg f.cells).length=p.A.length:=z0s _;have hpl:=(XF hc).2.1;have J:=gsO hc;repeat' ((refine iM fun _=>?_)<;>conv=>whnf)
 refine lI (fun x:Nat×List (List Str)×Bool=>⟨[(0,.ptr 1000 0),(1,.p .ff),(5,.p (bv x.2.2)),(13,.p (.int .i64 (p.A.map fun f=>AV.agg f.cells).length)),(14,.j x.1)],q8e p I x.2.1⟩) (fun x=>x.1<=p.A.length/\GsI (rdO p) p.A.length (QX p).F x.2.1/\tot O<=tot x.2.1/\(x.2.2=true->tot O<tot x.2.1)/\(x.2.2=false->x.2.1=O/\∀k,k<x.1->(rdO p O).getD k []=O.getD k [])) (fun x=>p.A.length-x.1) (0,O,false) ⟨z1q _,c,z1l _,by simp,fun _=>⟨rfl,fun k hk=>by simp at hk⟩⟩ ?_;rintro⟨i,O',m⟩ ⟨Q,q,D,z,E⟩;simp only at Q q D z E⊢;rcases z1w i p.A.length with t|t
 ·obtain⟨f,Y⟩ : ∃f,p.A[i]?=some f:=⟨_,z0c t⟩;have d:=q.okO hc;have g:=Ah p I O' hc d i f Y;have L:i<O'.length:=by rw[q.len];exact t
  have e:=q0g L;have M:=q.step J t;have s:=fun h=>q.same J (i:=i) h;have w:=fun h=>q.more (i:=i) t h;have K:=q.len;have T:(O'.map eStrs).length=O'.length:=z0s _;have B:=fun l=>q0f (O:=O') (i:=i) (l:=l);have v:∀l:List Str,(l.map AV.str).length=l.length:=fun l=>z0s _;have U:((rdO p O').getD i []).length<=25:=(N7 p _:OkO p (rdO p O')).len25 hc i;have V:(O'.getD i []).length<=25:=d.len25 hc i;generalize Z:(rdO p O').getD i []=l at*
  generalize ho:O'.getD i []=o at*
  have hll:=v l;have hlo:=v o;clear v;cases m;all_goals
   conv=>whnf
   repeat' ((first|(refine gX ?_;intros)|refine BE 0 rfl g (.cons (x5t rfl rfl rfl rfl rfl rfl R K) (.cons (.p (Sub.refl _)) .nil)) (fun h=>h.elim) (fun _ _ _ _ h=>h.2.2) ?_|refine iO i ?_|refine lO e ?_|refine sO (eStrs l) e ?_|(apply bD<;>intro _<;>try omega))<;>conv=>whnf)
  all_goals first
   | (have hlt:o.length<l.length:=by omega
      have hmo:=w hlt;exact⟨(i+1,O'.set i l,true),⟨t,M,by simp only;omega,fun _=>by simp only;omega,by simp⟩,by simp only;omega,Le.of_eq (by unfold q8e;rw[<-B];rfl)⟩)
   | (have P:=s (by omega)
      exact nX (i+1,O',true) ⟨t,q,D,z,by simp⟩)
   | (have P:=s (by omega)
      obtain⟨rfl,G⟩:=E rfl;refine nX (i+1,O',false) ⟨t,q,D,z,fun _=>⟨rfl,fun k hk=>?_⟩⟩;rcases z1w k i with C|C
      ·exact G k C
      ·obtain rfl:k=i:=by simp only at hk;omega
       rw[Z,P];first
        |rfl
        |exact ho.symm
        |trace_state)
 ·have N:m=false->O'=O/\rdO p O=O:=fun hm=>by
   obtain⟨G,C⟩:=E hm;exact⟨G,c.done J fun k hk=>C k (by omega)⟩
  cases m;all_goals
   conv=>whnf
   repeat' (apply bD<;>intro _<;>first|omega|conv=>whnf)
  all_goals first
   |exact z4g _ (z2x _) ⟨O',false,rfl,rfl,q,z,N⟩
   |exact z4g _ (z2x _) ⟨O',true,rfl,rfl,q,z,N⟩
theorem q4k(p:Pg)(I:List (List Str))(hc:QM p=true)(v:GsI (rdI p (QX p).N (QX p).F) p.A.length (QX p).ins I):SpecH prog 81 [.ptr 1000 0,.p .tt] (q8e p I (QX p).F) (fun r H=>∃(q:List (List Str)) (m:Bool),r=.p (bv m)/\H=q8e p q (QX p).F/\GsI (rdI p (QX p).N (QX p).F) p.A.length (QX p).ins q/\(m=true->tot I<tot q)/\(m=false->q=I/\rdI p (QX p).N (QX p).F I=I)):=by
 refine sK VA func81 ?_;conv=>whnf
 have hpm:(p.A.map fun f=>AV.agg f.cells).length=p.A.length:=z0s _;have hpl:=(XF hc).2.1;have K:=gsI hc;have Q:=(UO hc).1;have J:=(UZ hc).N;have B:=Q.len;rw[J]at K;have v:GsI (rdI p (dfB p (QX p).F) (QX p).F) p.A.length (QX p).ins I:=J▸v;rw[J];repeat' ((refine iM fun _=>?_)<;>conv=>whnf)
 refine lI (fun x:Nat×List (List Str)×Bool=>⟨[(0,.ptr 1000 0),(1,.p .tt),(5,.p (bv x.2.2)),(13,.p (.int .i64 (p.A.map fun f=>AV.agg f.cells).length)),(14,.j x.1)],q8e p x.2.1 (QX p).F⟩) (fun x=>x.1<=p.A.length/\GsI (rdI p (dfB p (QX p).F) (QX p).F) p.A.length (QX p).ins x.2.1/\tot I<=tot x.2.1/\(x.2.2=true->tot I<tot x.2.1)/\(x.2.2=false->x.2.1=I/\∀k,k<x.1->(rdI p (dfB p (QX p).F) (QX p).F I).getD k []=I.getD k [])) (fun x=>p.A.length-x.1) (0,I,false) ⟨z1q _,v,z1l _,by simp,fun _=>⟨rfl,fun k hk=>by simp at hk⟩⟩ ?_;rintro⟨i,q,m⟩ ⟨h1,s,L,d,M⟩;simp only at h1 s L d M⊢;rcases z1w i p.A.length with w|w
 ·obtain⟨f,Y⟩ : ∃f,p.A[i]?=some f:=⟨_,z0c w⟩;have e:=s.okI hc;have D:=Ah p q (QX p).F hc Q i f Y;have T:=x0l p q (QX p).F hc Q e i f Y;have R:i<q.length:=by rw[s.len];exact w
  have C:=q0g R;have U:=s.step K w;have t:=fun h=>s.same K (i:=i) h;have c:=fun h=>s.more (i:=i) w h;have g:=s.len;have hIm:(q.map eStrs).length=q.length:=z0s _;have E:=fun l=>q0f (O:=q) (i:=i) (l:=l);have z:∀l:List Str,(l.map AV.str).length=l.length:=fun l=>z0s _;have hb1:((rdI p (dfB p (QX p).F) (QX p).F q).getD i []).length<=25:=(N6 p _ _ _:OkI p (rdI p (dfB p (QX p).F) (QX p).F q)).len25 hc i;have hb2:(q.getD i []).length<=25:=e.len25 hc i;generalize hl:(rdI p (dfB p (QX p).F) (QX p).F q).getD i []=l at*
  generalize ho:q.getD i []=o at*
  have hll:=z l;have hlo:=z o;clear z J;generalize(rdO p (QX p).F).getD i []=lo at*
  cases m;all_goals
   conv=>whnf
   repeat' ((first|(refine gX ?_;intros)|refine BE 0 rfl D (.cons (x5t rfl rfl rfl rfl rfl rfl g B) (.cons (.p (Sub.refl _)) .nil)) (fun h=>h.elim) (fun _ _ _ _ h=>h.2.2) ?_|refine BE 0 rfl T (.cons (x5t rfl rfl rfl rfl rfl rfl g B) (.cons (.p (Sub.refl _)) .nil)) (fun h=>h.elim) (fun _ _ _ _ h=>h.2.2) ?_|refine iO i ?_|refine lO C ?_|refine sO (eStrs l) C ?_|(apply bD<;>intro _<;>try omega))<;>conv=>whnf)
  all_goals first
   | (have hlt:o.length<l.length:=by omega
      have hmo:=c hlt;exact⟨(i+1,q.set i l,true),⟨w,U,by simp only;omega,fun _=>by simp only;omega,by simp⟩,by simp only;omega,Le.of_eq (by unfold q8e;rw[<-E];rfl)⟩)
   | (have Z:=t (by omega)
      exact nX (i+1,q,true) ⟨w,s,L,d,by simp⟩)
   | (have Z:=t (by omega)
      obtain⟨rfl,P⟩:=M rfl;refine nX (i+1,q,false) ⟨w,s,L,d,fun _=>⟨rfl,fun k hk=>?_⟩⟩;rcases z1w k i with G|G
      ·exact P k G
      ·obtain rfl:k=i:=by simp only at hk;omega
       rw[hl,Z];first
        |rfl
        |exact ho.symm
        |trace_state)
 ·have V:m=false->q=I/\rdI p (dfB p (QX p).F) (QX p).F I=I:=fun hm=>by
   obtain⟨P,G⟩:=M hm;exact⟨P,v.done K fun k hk=>G k (by omega)⟩
  cases m;all_goals
   conv=>whnf
   repeat' (apply bD<;>intro _<;>first|omega|conv=>whnf)
  all_goals first
   |exact z4g _ (z2x _) ⟨q,false,rfl,rfl,s,d,V⟩
   |exact z4g _ (z2x _) ⟨q,true,rfl,rfl,s,d,V⟩
def x5v(p:Pg):List AV:=[eStrs p.C,.sl (p.A.map fun f=>.agg f.cells),.ff,.sl [],.sl [],.sl [],.sl [],.sl []]
def x3y(p:Pg)(I O:List (List Str)):Heap:=[(0,.obj 86 [.p (eStrs p.C),.p (.sl (p.A.map fun f=>.agg f.cells)),.p .tt,.hd 1 0 p.A.length,.hd 2 0 p.A.length,.hd 3 0 p.A.length,.hd 4 0 p.A.length,.hd 5 0 p.A.length]),(1,.own 22 1 (I.map eStrs)),(2,.own 22 1 (O.map eStrs)),
 (3,.own 145 1 (p.A.map fun f=>VY (flatU f))),(4,.own 54 1 (p.A.map fun f=>QG (ZN p f.name))),(5,.own 141 1 (p.A.map fun f=>eSteps (ZU p f.name)))]
def q8i(p:Pg)(j:Nat):Heap:=[(0,.obj 86 [.p (eStrs p.C),.p (.sl (p.A.map fun f=>.agg f.cells)),.p .tt,.hd 1 0 j,.hd 2 0 j,.hd 3 0 j,.hd 4 0 j,.hd 5 0 j]),(1,.own 22 1 (List.replicate j .nils)),(2,.own 22 1 (List.replicate j .nils)),
 (3,.own 145 1 ((p.A.take j).map fun f=>VY (flatU f))),(4,.own 54 1 ((p.A.take j).map fun f=>QG (ZN p f.name))),(5,.own 141 1 ((p.A.take j).map fun f=>eSteps (ZU p f.name)))]
def q8o(p:Pg)(h l m o q:Nat)(r s t v w:List AV):Heap:=[(0,.obj 86 [.p (eStrs p.C),.p (.sl (p.A.map fun f=>.agg f.cells)),.p .tt,.hd 1 0 h,.hd 2 0 l,.hd 3 0 m,.hd 4 0 o,.hd 5 0 q]),(1,.own 22 1 r),(2,.own 22 1 s),
 (3,.own 145 1 t),(4,.own 54 1 v),(5,.own 141 1 w)]
theorem CD(n:Nat):ElS (List.replicate n .nils) ((List.replicate n ([]:List Str)).map eStrs):=by
 refine⟨by simp,fun m x h=>?_⟩;rw[z4y,z2q]at h;rw[z2q];split at h
 ·cases h;rw[if_pos (by assumption)];refine⟨_,rfl,rfl,fun j c hc=>?_⟩
  match j,hc with
  |0,hc=>cases hc;exact⟨_,rfl,Sub.nils⟩
 ·cases h
def q7w(N:Nat)(p:Pg):Le N ⟨[(3,.ptr 0 0)],q8i p p.A.length⟩ ⟨[(3,.ptr 0 0)],x3y p (List.replicate p.A.length []) (List.replicate p.A.length [])⟩:=by
 unfold q8i x3y;rw[z4k];exact Le.M (.same (.M (CD _) (.M (CD _) (.same (.same (.same .nil))))))
def Mz{N:Nat}{x:LV}{r:List (Nat×LV)}:Le N ⟨(i,x)::r,H⟩ ⟨[(i,x)],H⟩:=Wu (fun k=>by
 show(bif i==k then x else .p .any)=(bif i==k then x else getS r k)\/(bif i==k then x else .p .any)=.p .any;cases i==k
 .exact .inr rfl
 .exact .inl rfl) (z6f _)
def x9b{m:Nat}{o:TypeId}(q:getH H m=some (.obj o [.p (eStrs p.C),.p (.sl (p.A.map fun f=>.agg f.cells)),.p (.bool false),.p .nils,.p .nils,.p .nils,.p .nils,.p .nils])):Frz H (.ptr m 0) (.ip (x5v p)):=
 Frz.ptr (off:=0) (cs:=x5v p) q rfl fun j l c h hc=>by
  match j,h,hc with
  |0,h,hc=>cases h;cases hc;exact .p (Sub.refl _)
  |1,h,hc=>cases h;cases hc;exact .p (Sub.refl _)
  |2,h,hc=>cases h;cases hc;exact .p (q1p false)
  |3,h,hc=>cases h;cases hc;exact .p Sub.nils
  |4,h,hc=>cases h;cases hc;exact .p Sub.nils
  |5,h,hc=>cases h;cases hc;exact .p Sub.nils
  |6,h,hc=>cases h;cases hc;exact .p Sub.nils
  |7,h,hc=>cases h;cases hc;exact .p Sub.nils
  |j+8,h,_=>cases h
theorem FR(p:Pg)(K:Fit p):SpecP prog 35 [.agg p.cells] (fun r=>(QM p=true->r=.ip (Ud p (QX p).ins (QX p).F))/\(QM p=false->r=.ip (x5v p))):=by
 refine sC Qk func35 ?_;conv=>whnf
 have e:=VQ p K;cases hc:QM p with
 | false=>
   rw[hc]at e;repeat' ((first|refine dA ?_|refine z1s rfl ?_|refine cP e ?_|refine Br.tt ?_)<;>conv=>whnf)
   refine⟨_,x9b rfl,(fun h=>by cases h),fun _=>rfl⟩
 | true =>
   rw[hc]at e;have hpm:(p.A.map fun f=>AV.agg f.cells).length=p.A.length:=z0s _;have hpl:=(XF hc).2.1;have hm:=(QV hc).1;repeat' ((first|(refine gX ?_;intros)|refine dA ?_|refine cP e ?_|refine Br.ff ?_)<;>conv=>whnf)
   all_goals first
    |contradiction
    |skip
   refine lJ (fun j:Nat=>⟨[(1,.p (.ip p.cells)),(3,.ptr 0 0),(18,.p (.sl (p.A.map fun f=>.agg f.cells))),(19,.p (.int .i64 (p.A.map fun f=>AV.agg f.cells).length)),(20,.j j)],q8i p j⟩) (fun j=>j<=p.A.length) (fun j=>p.A.length-j) 0 (by
     exact Le.mk [(1,.own 22 1 []),(2,.own 22 1 []),(3,.own 145 1 []),(4,.own 54 1 []),(5,.own 141 1 [])] (by intro c hc;simp only[z1g,z7u,or_false]at hc;rcases hc with rfl|rfl|rfl|rfl|rfl<;>exact⟨rfl,rfl⟩) (by decide) (by show(List.map _ _).Nodup;simp[q8i]) (.r (.r (.r (.r (.r .nil))))) (.cons rfl (.obj (.r (.r (.cons (.p (H4 rfl)) (.cons (.nil (.head _)) (.cons (.nil (.tail _ (.head _))) (.cons (.nil (.tail _ (.tail _ (.head _)))) (.cons (.nil (.tail _ (.tail _ (.tail _ (.head _))))) (.cons (.nil (.tail _ (.tail _ (.tail _ (.tail _ (.head _)))))) .nil))))))))) (.new (by simp) (.new (by simp) (.new (by simp) (.new (by simp) (.new (by simp) .nil))))))) (z1q _) ?_
   intro j hj;rcases z1w j p.A.length with o|o
   ·have s:=XU p.A[j];rw[VL hm (z1h o)]at s;have G:=U9 p K p.A[j].name;have g:=U8 p K p.A[j].name;have T:=z1y o;have e2:∀x:AV,List.replicate (j+1) x=List.replicate j x++[x]:=fun x=>List.replicate_succ';have U:q8i p (j+1)=[(0,.obj 86 [.p (eStrs p.C),.p (.sl (p.A.map fun f=>.agg f.cells)),.p .tt,.hd 1 0 (j+1),.hd 2 0 (j+1),.hd 3 0 (j+1),.hd 4 0 (j+1),.hd 5 0 (j+1)]),(1,.own 22 1 (List.replicate j .nils++[.nils])),(2,.own 22 1 (List.replicate j .nils++[.nils])),
      (3,.own 145 1 (((p.A.take j).map fun f=>VY (flatU f))++[VY (flatU p.A[j])])),(4,.own 54 1 (((p.A.take j).map fun f=>QG (ZN p f.name))++[QG (ZN p p.A[j].name)])),(5,.own 141 1 (((p.A.take j).map fun f=>eSteps (ZU p f.name))++[eSteps (ZU p p.A[j].name)]))]:=by
     unfold q8i;rw[T,e2,z1v,z1v,z1v];rfl
    have Z:(List.replicate j AV.nils).length=j:=z2o;have hl2:((p.A.take j).map fun f=>VY (flatU f)).length=j:=by rw[z0s,z1r];omega
    have hl3:((p.A.take j).map fun f=>QG (ZN p f.name)).length=j:=by rw[z0s,z1r];omega
    have hl4:((p.A.take j).map fun f=>eSteps (ZU p f.name)).length=j:=by rw[z0s,z1r];omega
    unfold q8i;generalize List.replicate j AV.nils=r1 at*
    generalize(p.A.take j).map (fun f=>VY (flatU f))=r2 at*
    generalize(p.A.take j).map (fun f=>QG (ZN p f.name))=r3 at*
    generalize(p.A.take j).map (fun f=>eSteps (ZU p f.name))=r4 at*
    conv=>whnf
    repeat' ((first|(refine gX ?_;intros)|(apply bD<;>intro _<;>try omega))<;>conv=>whnf)
    refine JT ⟨[(1,.p (.ip p.cells)),(3,.ptr 0 0),(5,.p (.ip p.A[j].cells)),(18,.p (.sl (p.A.map fun f=>.agg f.cells))),(19,.p (.int .i64 (p.A.map fun f=>AV.agg f.cells).length)),(20,.j j)],q8o p j j (j+1) j j r1 r1 (r2++[VY (flatU p.A[j])]) r3 r4⟩ ?_ ?_
    ·refine DrawK.of ZI mixed (.cons 5 true (.cons 0 false (.cons 1 false (.cons 2 false (.cons 3 false (.fork 4 (.cons 6 true (.cons 7 true (.cons 8 true (.cons 9 true (.cons 10 true (.cons 11 true .nil)))))) 6 (.alo 4 (.cons 7 true (.cons 8 true (.cons 9 true (.cons 10 true (.cons 11 true .nil)))))))))))) (by kernel_rfl) ?_;conv=>whnf
     repeat' ((first|refine gX ?_|refine cP s ?_|refine pA (n:=j) 1 24 (by omega) ?_|refine z1s ?_ ?_)<;>conv=>whnf)
     all_goals first
      |exact Le.of_eq rfl
    unfold q8o;conv=>whnf
    refine JT ⟨[(1,.p (.ip p.cells)),(3,.ptr 0 0),(5,.p (.ip p.A[j].cells)),(18,.p (.sl (p.A.map fun f=>.agg f.cells))),(19,.p (.int .i64 (p.A.map fun f=>AV.agg f.cells).length)),(20,.j j)],q8o p j j (j+1) (j+1) j r1 r1 (r2++[VY (flatU p.A[j])]) (r3++[QG (ZN p p.A[j].name)]) r4⟩ ?_ ?_
    ·refine DrawK.of ZI mixed (.cons 5 true (.cons 6 true (.cons 7 true (.cons 0 false (.cons 1 false (.cons 2 false (.cons 3 false (.fork 4 (.cons 8 true (.cons 9 true (.cons 10 true (.cons 11 true (.cons 12 true (.cons 13 true .nil)))))) 8 (.alo 4 (.cons 9 true (.cons 10 true (.cons 11 true (.cons 12 true (.cons 13 true .nil)))))))))))))) (by kernel_rfl) ?_;conv=>whnf
     repeat' ((first|refine gX ?_|refine cP G ?_|refine pA (n:=j) 1 24 (by omega) ?_|refine z1s ?_ ?_)<;>conv=>whnf)
     all_goals first
      |exact Le.of_eq rfl
    unfold q8o;conv=>whnf
    refine JT ⟨[(1,.p (.ip p.cells)),(3,.ptr 0 0),(18,.p (.sl (p.A.map fun f=>.agg f.cells))),(19,.p (.int .i64 (p.A.map fun f=>AV.agg f.cells).length)),(20,.j j)],q8o p j j (j+1) (j+1) (j+1) r1 r1 (r2++[VY (flatU p.A[j])]) (r3++[QG (ZN p p.A[j].name)]) (r4++[eSteps (ZU p p.A[j].name)])⟩ ?_ ?_
    ·refine DrawK.of ZI mixed (.cons 5 true (.cons 6 true (.cons 7 true (.cons 0 false (.cons 1 false (.cons 2 false (.cons 3 false (.fork 4 (.cons 8 true (.cons 9 true (.cons 10 true (.cons 11 true (.cons 12 true (.cons 13 true .nil)))))) 8 (.alo 4 (.cons 9 true (.cons 10 true (.cons 11 true (.cons 12 true (.cons 13 true .nil)))))))))))))) (by kernel_rfl) ?_;conv=>whnf
     repeat' ((first|refine gX ?_|refine cP g ?_|refine pA (n:=j) 1 24 (by omega) ?_|refine z1s ?_ ?_)<;>conv=>whnf)
     all_goals first
      |exact Le.of_eq rfl
    unfold q8o;conv=>whnf
    refine JT ⟨[(1,.p (.ip p.cells)),(3,.ptr 0 0),(18,.p (.sl (p.A.map fun f=>.agg f.cells))),(19,.p (.int .i64 (p.A.map fun f=>AV.agg f.cells).length)),(20,.j j)],q8o p (j+1) (j+1) (j+1) (j+1) (j+1) (r1++[.nils]) (r1++[.nils]) (r2++[VY (flatU p.A[j])]) (r3++[QG (ZN p p.A[j].name)]) (r4++[eSteps (ZU p p.A[j].name)])⟩ ?_ ?_
    ·refine DrawK.of ZI mixed (.cons 0 false (.cons 1 false (.cons 2 false (.cons 3 false (.cons 4 false (.cons 8 false (.cons 9 false (.cons 10 false (.alo 5 (.fork3 6 (.fork3 7 (.alo 11 (.cons 12 true (.cons 13 true (.cons 14 true (.cons 15 true (.cons 16 true (.cons 17 true (.cons 18 true (.cons 19 true .nil))))))))) 11 (.fork 7 (.cons 12 true (.cons 13 true (.cons 14 true (.cons 15 true (.cons 16 true (.cons 17 true (.cons 18 true (.cons 19 true .nil)))))))) 12 (.cons 7 true (.cons 13 true (.cons 14 true (.cons 15 true (.cons 16 true (.cons 17 true (.cons 18 true (.cons 19 true .nil))))))))) 12 (.fork 7 (.cons 11 true (.cons 13 true (.cons 14 true (.cons 15 true (.cons 16 true (.cons 17 true (.cons 18 true (.cons 19 true .nil)))))))) 11 (.cons 7 true (.cons 13 true (.cons 14 true (.cons 15 true (.cons 16 true (.cons 17 true (.cons 18 true (.cons 19 true .nil)))))))))) 11 (.fork 6 (.fork 7 (.cons 12 true (.cons 13 true (.cons 14 true (.cons 15 true (.cons 16 true (.cons 17 true (.cons 18 true (.cons 19 true .nil)))))))) 12 (.cons 7 true (.cons 13 true (.cons 14 true (.cons 15 true (.cons 16 true (.cons 17 true (.cons 18 true (.cons 19 true .nil))))))))) 12 (.cons 6 true (.cons 7 true (.cons 13 true (.cons 14 true (.cons 15 true (.cons 16 true (.cons 17 true (.cons 18 true (.cons 19 true .nil)))))))))) 12 (.fork 6 (.fork 7 (.cons 11 true (.cons 13 true (.cons 14 true (.cons 15 true (.cons 16 true (.cons 17 true (.cons 18 true (.cons 19 true .nil)))))))) 11 (.cons 7 true (.cons 13 true (.cons 14 true (.cons 15 true (.cons 16 true (.cons 17 true (.cons 18 true (.cons 19 true .nil))))))))) 11 (.cons 6 true (.cons 7 true (.cons 13 true (.cons 14 true (.cons 15 true (.cons 16 true (.cons 17 true (.cons 18 true (.cons 19 true .nil)))))))))))))))))))) (by kernel_rfl) ?_;conv=>whnf
     repeat' ((first|refine gX ?_|refine pA (n:=j) 1 24 (by omega) ?_|refine z1s ?_ ?_)<;>conv=>whnf)
     all_goals first
      |exact Le.of_eq rfl
    unfold q8o;conv=>whnf
    repeat' (refine wI ?_;conv=>whnf)
    exact⟨j+1,o,by omega,Le.of_eq (z2b (St.mk _) U.symm)⟩
   ·obtain rfl:j=p.A.length:=by omega
    conv=>whnf
    repeat' (apply bD<;>intro _<;>first|omega|conv=>whnf)
    have D:(List.replicate p.A.length ([]:List Str)).length=p.A.length:=z2o;refine lJ (fun O:List (List Str)=>⟨[(3,.ptr 0 0)],x3y p (List.replicate p.A.length []) O⟩) (fun O=>GsI (rdO p) p.A.length (QX p).F O) (fun O=>400-tot O) (List.replicate p.A.length []) (Le.trans (Wu (s':=⟨[(3,.ptr 0 0)],q8i p p.A.length⟩) (fun i=>by match i with
     |0=>exact .inr rfl
     |1=>exact .inr rfl
     |2=>exact .inr rfl
     |3=>exact .inl rfl
     |i+4=>exact .inr rfl) (z6f _)) (q7w _ p)) (GsI.zero (gsO hc)) ?_
    intro O B;have hT:=(B.okO hc).tot hc;have M:=Of p (List.replicate p.A.length []) O hc D B;unfold x3y;conv=>whnf
    repeat' ((refine cJ [(1000,0),(1001,1),(1002,2),(1003,3),(1004,4),(1005,5)] 0 M ?_;rintro l' H' ⟨O',m,rfl,rfl,l,Q,P⟩;cases m)<;>conv=>whnf)
    rotate_left
    ·have V:=Q rfl;have J:=(l.okO hc).tot hc;exact⟨O',l,by omega,Mz⟩
    obtain⟨rfl,L⟩:=P rfl;have E:=q4f hc B L;subst E;refine lJ (fun I:List (List Str)=>⟨[(3,.ptr 0 0)],x3y p I (QX p).F⟩) (fun I=>GsI (rdI p (QX p).N (QX p).F) p.A.length (QX p).ins I) (fun I=>400-tot I) (List.replicate p.A.length []) Mz (GsI.zero (gsI hc)) ?_;intro I q;have Y:=(q.okI hc).tot hc;have w:=q4k p I hc q;unfold x3y;conv=>whnf
    repeat' ((refine cJ [(1000,0),(1001,1),(1002,2),(1003,3),(1004,4),(1005,5)] 0 w ?_;rintro l' H' ⟨R,m,rfl,rfl,l,d,z⟩;cases m)<;>conv=>whnf)
    all_goals first
     | (have V:=d rfl
        have J:=(l.okI hc).tot hc;exact⟨R,l,by omega,Mz⟩)
     | (obtain⟨rfl,v⟩:=z rfl
        have t:=q4h hc q v;subst t;exact⟨_,x5t rfl rfl rfl rfl rfl rfl (UO hc).2.len (UO hc).1.len,fun _=>rfl,fun h=>(by cases h)⟩)
theorem x1p{n:Str}(h:0<=WF p n):(prA p (WF p n).toNat).name=n:=by
 by_cases l:n∈procsN p
 ·obtain⟨k,hk,m,_,_,o⟩:=L1 l;have e:WF p n=(k:Nat):=m;rw[e,z3y,GK (z0c hk)];exact o
 ·have e:WF p n = -1:=(CO l).1;omega
theorem Kf(p:Pg)(w:Fit p)(n:Str):aP 14 [.agg p.cells,.str n] (.sl ((JN p n).map Xx)):=by
 refine sC W6 func14 ?_;conv=>whnf
 have v:=FR p w;cases hc:QM p with
 | false=>
   have e:JN p n=[]:=by unfold JN;rw[if_neg (by rw[hc];simp)]
   rw[e];have l:=v.mono (R':=fun r=>r=.ip (x5v p)) fun r t=>t.2 hc;have s:=XJ p (.ff :: .sl [] :: .sl [] :: .sl [] :: .sl []::[.sl []]) n;repeat' ((first|refine cP l ?_|refine cP s ?_)<;>conv=>whnf)
   all_goals first
    |contradiction
    |exact⟨_,.p Sub.nils,rfl⟩
 | true=>
   have l:=v.mono (R':=fun r=>r=.ip (Ud p (QX p).ins (QX p).F)) fun r t=>t.1 hc;have s:=XJ p (.tt :: .sl ((QX p).ins.map eStrs) :: .sl ((QX p).F.map eStrs) :: .sl (p.A.map fun f=>VY (flatU f)) :: .sl (p.A.map fun f=>QG (ZN p f.name))::[.sl (p.A.map fun f=>eSteps (ZU p f.name))]) n;have o:aP 36 [.ip (Ud p (QX p).ins (QX p).F),.str n] (.int .i64 (WF p n)):=s;have q:=fun h=>DB p w hc (WF p n).toNat (prA p (WF p n).toNat) (Vf (Lu (p:=p) (n:=n) h));have e:JN p n=if 0<=WF p n then WI p (WF p n).toNat (prA p (WF p n).toNat)else []:=by
    unfold JN;by_cases m:0<=WF p n
    ·rw[if_pos ⟨hc,m⟩,if_pos m]
    ·rw[if_neg (fun h=>m h.2),if_neg m]
   rw[e];clear s;by_cases m:0<=WF p n
   ·rw[if_pos m];have q:=q m;have x:(((WF p n).toNat:Nat):Int)=WF p n:=by omega
    rw[x]at q;generalize WI p (WF p n).toNat (prA p (WF p n).toNat)=L at*
    generalize WF p n=i at*
    generalize(QX p).ins=I at*
    generalize(QX p).F=O at*
    repeat' ((first|refine cP l ?_|refine cP o ?_|refine cP q ?_|(apply bD<;>intro _<;>try omega))<;>conv=>whnf)
    all_goals first
     |contradiction
     |exact RetK.p rfl
     |exact⟨_,.p (Sub.refl _),rfl⟩
     |(exfalso;omega)
   ·rw[if_neg m];clear q;generalize WF p n=i at*
    generalize(QX p).ins=I at*
    generalize(QX p).F=O at*
    repeat' ((first|refine cP l ?_|refine cP o ?_|(apply bD<;>intro _<;>try omega))<;>conv=>whnf)
    all_goals first
     |contradiction
     |exact⟨_,.p Sub.nils,rfl⟩
def q7x{L:List Int}{g:Int->Nat}(h:j<L.length):((L.take (j+1)).map g).sum=((L.take j).map g).sum+g L[j]:=by
 rw[z1y h,z1v,List.sum_append];simp
theorem Zd(p:Pg)(Q:Fit p)(n:Str):aP 11 [.agg p.cells,.str n] (.tup [.int .i64 (YU p n).1,.int .i64 (YU p n).2]):=by
 refine sC MX func11 ?_;conv=>whnf
 have M:=FR p Q;cases hc:QM p with
 | false=>
   have e:YU p n=(0,0):=by unfold YU;rw[if_neg (by rw[hc];simp)]
   rw[e];have l:=M.mono (R':=fun r=>r=.ip (x5v p)) fun r J=>J.2 hc;have B:=XJ p (.ff :: .sl [] :: .sl [] :: .sl [] :: .sl []::[.sl []]) n;repeat' ((first|refine cP l ?_|refine cP B ?_)<;>conv=>whnf)
   all_goals first
    |contradiction
    |exact⟨_,.p (Sub.refl _),rfl⟩
 | true=>
   have l:=M.mono (R':=fun r=>r=.ip (Ud p (QX p).ins (QX p).F)) fun r J=>J.1 hc;have B:=XJ p (.tt :: .sl ((QX p).ins.map eStrs) :: .sl ((QX p).F.map eStrs) :: .sl (p.A.map fun f=>VY (flatU f)) :: .sl (p.A.map fun f=>QG (ZN p f.name))::[.sl (p.A.map fun f=>eSteps (ZU p f.name))]) n;have o:aP 36 [.ip (Ud p (QX p).ins (QX p).F),.str n] (.int .i64 (WF p n)):=B;clear B;by_cases c:0<=WF p n
   ·have hlt:=Lu c;have hk:=Vf hlt;have T:(((WF p n).toNat:Nat):Int)=WF p n:=by omega
    have w:=x1p c;obtain⟨k',v,U⟩:=U6 hc (z1d hk);obtain⟨rfl,_⟩:=Vb hc v hk rfl;have e:YU p n=((((Ja (prA p (WF p n).toNat)).length:Nat):Int),((((Ja (prA p (WF p n).toNat)).map fun a=>(gvX p (prA p (WF p n).toNat) ((QX p).ins.getD (WF p n).toNat []) (QX p).F a).length).sum:Nat):Int)):=by
     unfold YU;rw[if_pos ⟨hc,c⟩,IC hc hk,Q5]
    rw[e];have q:=UT p Q _ _ _ U hk;rw[w]at q;obtain⟨N,K⟩:=UO hc;have C:=fun a=>US p (QX p).ins (QX p).F hc N K _ _ hk a;rw[T]at C;have m:=fun(x:Nat) (h:x<(Ja (prA p (WF p n).toNat)).length)=>q8z hc hk ((KY (QV hc).1 hk).1 (z1h h));have hPl:(Ja (prA p (WF p n).toNat)).length<=202:=by
     have hcn:=(XF hc).2.2;have hcb:=UC _ _ (z1d hk);rw[Q5];omega
    clear hk v U w hlt e K N;generalize Ja (prA p (WF p n).toNat)=P at*
    obtain⟨g,R⟩ : ∃g:Int->List Str,g=gvX p (prA p (WF p n).toNat) ((QX p).ins.getD (WF p n).toNat []) (QX p).F:=⟨_,rfl⟩;rw[<-R]at C m⊢;clear R T;generalize WF p n=i at*
    generalize(QX p).ins=I at*
    generalize(QX p).F=O at*
    have E:(P.map (AV.int .i64)).length=P.length:=z0s _;have z:=fun j h=>q7x (L:=P) (g:=fun a=>(g a).length) (j:=j) h;repeat' ((first|(refine iM fun _=>?_)|refine cP l ?_|refine cP o ?_|refine cP q ?_|(apply bD<;>intro _<;>try omega))<;>conv=>whnf)
    all_goals try (exfalso;omega)
    refine lI (fun x:Nat×Nat=>⟨[(6,.p (.ip (Ud p I O))),(7,.j i),(8,.p (QG P)),(9,.j x.2),(29,.p (QG P)),(30,.p (.int .i64 (P.map (AV.int .i64)).length)),(31,.j x.1)],[]⟩) (fun x=>x.1<=P.length/\x.2=((P.take x.1).map fun a=>(g a).length).sum/\x.2<=x.1*34) (fun x=>P.length-x.1) (0,0) ⟨z1q _,by simp,z1l _⟩ ?_;rintro⟨j,s⟩ ⟨V,d,Y⟩;simp only at V d Y⊢;rcases z1w j P.length with t|t
    ·have D:=C P[j];have h4:=m j t;have Z:=z j t;have G:((g P[j]).map AV.str).length=(g P[j]).length:=z0s _;clear C m z;generalize g P[j]=ga at*
     conv=>whnf
     repeat' ((first|(refine gX ?_;intros)|refine cP D ?_|(apply bD<;>intro _<;>try omega))<;>conv=>whnf)
     all_goals first
      |exact⟨(j+1,s+ga.length),⟨t,by simp only;rw[d,Z],by simp only;omega⟩,by simp only;omega,Le.of_eq (by rw[Int.natCast_add,<-G];rfl)⟩
    ·rw[z1f t]at d;rw[<-d,<-E];conv=>whnf
     repeat' ((first|(refine iM fun _=>?_)|(apply bD<;>intro _<;>try omega))<;>conv=>whnf)
     all_goals first
      |exact⟨_,.p (Sub.refl _),rfl⟩
   ·have e:YU p n=(0,0):=by unfold YU;rw[if_neg (fun h=>c h.2)]
    rw[e];generalize WF p n=i at*
    generalize(QX p).ins=I at*
    generalize(QX p).F=O at*
    repeat' ((first|refine cP l ?_|refine cP o ?_|(apply bD<;>intro _<;>try omega))<;>conv=>whnf)
    all_goals first
     |contradiction
     |(exfalso;omega)
     |exact⟨_,.p (Sub.refl _),rfl⟩
theorem FQ(L:List Fl):aP 12 [.sl (L.map Xx),.sl (L.map Xx)] .tt:=by
 refine sC BO func12 ?_;conv=>whnf
 have l:(L.map Xx).length=L.length:=z0s _;repeat' ((first|(refine iM fun _=>?_)|(apply bE<;>intro _<;>try omega))<;>conv=>whnf)
 all_goals try contradiction
 refine lI (fun j:Nat=>⟨[(0,.p (.sl (L.map Xx))),(1,.p (.sl (L.map Xx))),(12,.p (.int .i64 (L.map Xx).length)),(13,.j j)],[]⟩) (fun j=>j<=L.length) (fun j=>L.length-j) 0 (z1q _) ?_;intro j o;rcases z1w j L.length with h|h
 ·have m:(L.map Xx)[j]?=some (.agg L[j].cells):=by rw[z1u,z0c h];rfl
  generalize L[j]=x at*
  conv=>whnf
  repeat' ((first|refine dA ?_|(refine gX ?_;intros)|((first|apply bD|apply bE|apply bN)<;>intro _<;>try omega))<;>conv=>whnf)
  all_goals first
   |exact nX (j+1) h
   |(exfalso;simp_all;done)
 ·conv=>whnf
  repeat' (apply bD<;>intro _<;>first|omega|conv=>whnf)
  all_goals first
   |exact⟨_,.p (Sub.refl _),rfl⟩
theorem NL(p:Pg)(n:Int):aP 3 [.agg p.cells,.int .i64 n] .tt:=by
 refine sC DL func3 ?_;conv=>whnf
 cases l:q7r p with
 | false=>
   have z:¬gPg p<=20000:=by unfold q7r at l;simpa using l
   repeat' ((first|refine cP (BL _) ?_|refine cP JL ?_|(apply bE<;>intro _<;>try omega))<;>conv=>whnf)
   all_goals first
    |exact⟨_,.p (Sub.refl _),rfl⟩
    |(exfalso;simp_all;done)
 | true=>
   have m:Fit p:=x4q l;have t:gPg p<=20000:=by unfold q7r at l;simpa using l
   have s:=RO p m;have hT:=fun h=>Iu p (by have:=(XF (p:=p) h).2.2;omega);have r:=Zn p n (Ed m);have x:=AQ p m (GZ p n);have q:=Kf p m (GZ p n);have w:=Dj p m (GZ p n);have o:=Zd p m (GZ p n);have v:=FQ (JN p (GZ p n));generalize JN p (GZ p n)=L at*
   generalize(YU p (GZ p n)).1=f1 at*
   generalize(YU p (GZ p n)).2=f2 at*
   generalize GZ p n=pn at*
   cases hc:QM p;all_goals
    rw[hc]at s;try have hT:=hT hc
    repeat' ((first|refine cP (BL _) ?_|refine dA ?_|refine cP JL ?_|refine cP s ?_|refine cP hT ?_|refine cP r ?_|refine cP x ?_|refine cP q ?_|refine cP w ?_|refine cP o ?_|refine cP v ?_|((first|apply bD|apply bE|apply bB)<;>intro _<;>try omega))<;>conv=>whnf)
    all_goals first
     |contradiction
     |exact⟨_,.p (Sub.refl _),rfl⟩
     |exact⟨_,.p sub_tt,rfl⟩
     |exact⟨_,.p (H4 (z4p _)),rfl⟩
     |exact⟨_,.p (H4 rfl),rfl⟩
     |(exfalso;simp_all;done)
end Go.Ab
