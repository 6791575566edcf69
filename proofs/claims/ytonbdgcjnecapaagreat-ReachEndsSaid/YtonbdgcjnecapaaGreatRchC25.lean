/- LAW: what goes out comes to the exit; what a statement takes comes from somewhere. -/
import Derived.Test.YtonbdgcjnecapaaGreatRchC15
import Derived.Test.YtonbdgcjnecapaaGreatRchC18
import Derived.Test.YtonbdgcjnecapaaGreatRchC23
import Derived.Test.YtonbdgcjnecapaaGreatRchC24
set_option linter.all false
set_option maxRecDepth 100000
set_option maxHeartbeats 16000000
namespace Go.Ab
open Go.Proofs
variable {p:Pg}{v:Str}
def Bb{α:Type}{R:α->α->Prop}{a b:α}(h:Rch R a b):a=b\/∃c,R a c/\Rch R c b:=by
 induction h with
 |refl=>exact .inl rfl
 | @tail x y _ i m=>
   rcases m with rfl|⟨c,j,l⟩
   .exact .inr ⟨y,i,.refl⟩
   .exact .inr ⟨c,j,.tail l i⟩
section
variable {p:Pg}{k:Nat}{f:Pr}(hc:QE p=true)(hk:p.A[k]? = some f)
include hc hk
def CV{t:S}(l:t∈flL f.body):plP p k f t.id/\t.id=(QR p.A k+(ixI p k f t.id).toNat:Nat)/\(ixI p k f t.id).toNat≠0/\(ixI p k f t.id).toNat<QW f.body+1:=by
 have j:=WD (QF hc).1 hk l;have i:plP p k f t.id:=.inr (.inr j);have m:=ZE i;have h:=BP i;unfold QH loI at h;split at h
 .omega
 split at h
 .omega
 .exact ⟨i,by omega,by omega,by omega⟩
def Cc{t:S}(q:t∈flL f.body)(n:Rch (wR p k f) 0 t.id){j:Str}(h:j∈GU p t.id):j∈ZT p k f (ixI p k f t.id).toNat:=by
 obtain⟨o,l,i,m⟩:=CV hc hk q;rw[l,(LL hc hk i m).2.1]at h;unfold ZT Mi;rw[if_neg i,if_neg (by omega),(BF hc hk o).2 n];exact h
def q2n{t:S}(q:t∈flL f.body)(n:Rch (wR p k f) 0 t.id){j:Str}(h:j∈KS p t.id):j∈M7 p k f (ixI p k f t.id).toNat:=by
 obtain⟨o,l,i,m⟩:=CV hc hk q;rw[l,(LL hc hk i m).2.2]at h;unfold M7 Ea;rw[if_neg (by omega),if_neg i,(BF hc hk o).2 n];exact h
def F8{t:S}(l:t∈flL f.body):GU p t.id=FZ (dfB p (QG p).P) t.id/\KS p t.id=FZ (usB p (QG p).ins) t.id:=by
 obtain⟨_,h,i,j⟩:=CV hc hk l;generalize(ixI p k f t.id).toNat=m at*
 have e:(t.id-1).toNat=QR p.A k+m-1:=by omega
 refine⟨?_,?_⟩
 .rw [<-(ZC hc).G];unfold FZ;rw[e,h,(LL hc hk i j).2.1]
 .rw [<-(ZC hc).N];unfold FZ;rw[e,h,(LL hc hk i j).2.2]
omit hc hk in
def q0c:ixI p k f (-1)=(QW f.body+1:Nat):=by
 have i:=ZE (p:=p) (j:=k) (f:=f) (x := -1) (.inr (.inl rfl));have h:=BP (p:=p) (j:=k) (f:=f) (x := -1) (.inr (.inl rfl));unfold QH loI at h;split at h
 .omega
 split at h
 .omega
 .omega
omit hc hk in
def Ry:ixI p k f 0=0:=by
 have i:=ZE (p:=p) (j:=k) (f:=f) (x:=0) (.inl rfl);have h:=BP (p:=p) (j:=k) (f:=f) (x:=0) (.inl rfl);unfold QH loI at h;split at h
 .assumption
 split at h
 .omega
 .omega
def Aq(h:v∈Qu p f.name):∃s∈XD p k f,s.dst = -1/\s.var=v:=by
 have j:k<p.A.length:=(x0m.1 hk).1;have n:=h;rw[(KM hc hk).2.1]at h;rw[<-(ZC hc).fixO]at h;unfold rdO at h;obtain⟨m,o,i,q,_⟩:=(Fs j).1 h;rw[JF hk]at o;have l:m.s∈flL f.body:=by
  have u:m.s∈(itL (k:Nat) 0 (-1) 0 (QR p.A k) f.body).map Item.s:=x4q o
  rwa[Q4]at u
 obtain⟨t,a,b,_⟩:=CV hc hk l;have y:Rch (wR p k f) 0 m.s.id:=by
  unfold lvB at i;rw[JF hk]at i;exact(BF hc hk t).1 i
 rw[<-(F8 hc hk l).1]at q;have x:=C5 hc hk t;rcases Bb x with r|⟨z,r,w⟩
 .omega
 refine Uk hc hk (Cc hc hk l y q) r w ?_;rw[q0c,x2s];unfold M7 Ea;rw[if_pos rfl];rw[(KM hc hk).2.1]at n;exact XH.2 (x2x _ n)
def On{t:S}(q:t∈flL f.body)(h:v∈KS p t.id)(y:DJ p f v≠4):comB p v=true\/v∈f.B.map Param.name:=by
 have l:=x0i hk;have n:v∈ZP t->comB p v=true\/v∈f.B.map Param.name:=fun n=>by
  have i:=JB (QF hc).2.1 l q;unfold knownB at i;rw[x1z]at i;have x:=x2w.1 i.1 v n;rcases RJ (by simpa using x)with o|o
  .exact .inl (BX.2 (.inr o))
  .rcases x0r.1 o with m|m
   .exact .inr m
   .exfalso;refine y ?_;have j:=(((Nd (QF hc).1).1 (QF hc).2.1).2 f l).nd;unfold allV at j;rw[x2b]at j;have r:(f.B.map Param.name++f.Q).Nodup:=j.2.1;rw[x2b]at r;unfold DJ;cases w:f.B.find? (fun a=>a.name==v)with
    | some a=>
      exfalso;exact r.2.2 a.name (x4q (x3l w)) v m (by simpa using x4o w)
    | none=>
      have:f.Q.any (fun s=>v==s)=true:=x2e.2 ⟨v,m,x3c v⟩;simp only[this];rfl
 rw[(F8 hc hk q).2,q8b hc hk q,XH]at h;have u:v∈Td t->comB p v=true\/v∈f.B.map Param.name:=fun h=>by
  unfold Td at h;rcases x0r.1 h with h|h
  .refine n ?_;unfold ZP DH;exact x2x _ (x2r _ h)
  .split at h
   .exact .inl (BX.2 (.inl (x0b.1 h)))
   .cases h
 unfold MY at h;split at h
 .rcases x0r.1 h with h|h
  .rcases x0r.1 h with h|h
   .exact u h
   .obtain ⟨a,z,h⟩:=x1p.1 h;exact n (EB z h)
  .rw [q1j]at h;exact .inl ((GS hc).2.sub _ _ h)
 .exact u h
def En{a b:Int}(h:wR p k f a b):dR p k f a b:=(Rv hc hk).2 (.inl h)
def Eg{t:S}(n:t∈flL f.body)(g:Rch (wR p k f) 0 t.id)(h:v∈KS p t.id)(J:DJ p f v≠4):∃s∈XD p k f,s.dst=t.id/\s.var=v:=by
 obtain⟨R,O,Q,_⟩:=CV hc hk n;have o:=q2n hc hk n g h;have l:(0:Int)≠t.id:=by omega
 have entry:v∈L2 p f.name++f.B.map Param.name->∃s∈XD p k f,s.dst=t.id/\s.var=v:=fun E=>by
  have L:Rch (dR p k f) 0 t.id:=g.mono fun a b i=>En hc hk i;rcases Bb L with c|⟨z,c,K⟩
  .exact absurd c l
  refine Uk hc hk ?_ c K o;rw[Ry];unfold ZT Mi;rw[if_pos (show Int.toNat 0=0 from rfl)];rw[(KM hc hk).2.2]at E;exact XH.2 E
 rcases On hc hk n h J with d|C
 .have key:∀z:Int,Rch (wR p k f) 0 z->Rch (nR p k f (dfB p (QG p).P) v) 0 (ixI p k f z)\/∃x q,v∈ZT p k f (ixI p k f x).toNat/\dR p k f x q/\Rch (dR p k f) q z:=fun z M=>by
   induction M with
   |refl=>rw[Ry];exact .inl .refl
   | @tail y z I i D=>
     rcases D with D|⟨x,q,j,r,w⟩
     .cases m:FV p k f (dfB p (QG p).P) v (ixI p k f y)with
      |true=>exact .inl (.tail D (q1t hc hk i m))
      | false=>
        obtain⟨N,T⟩:=P4 hc hk (En hc hk i);obtain⟨u,F,rfl,H⟩:=IR hc hk N (q4q hc hk (En hc hk i)) m;rw[<-(F8 hc hk F).1]at H;exact .inr ⟨u.id,z,Cc hc hk F I H,En hc hk i,.refl⟩
     .exact .inr ⟨x,q,j,r,.tail w (En hc hk i)⟩
  rcases key t.id g with j|⟨x,q,j,r,w⟩
  .refine entry (x2x _ ?_);have e:k<p.A.length:=(x0m.1 hk).1;rw[(KM hc hk).2.2,<-(ZC hc).fixI];unfold rdI;rw[Fm e,JF hk,(ZC hc).G];refine⟨d,(BD hc hk).2 ⟨_,j,q4p hc hk n ?_⟩⟩;rw[<-(F8 hc hk n).2];exact h
  .exact Uk hc hk j r w o
 .exact entry (x2r _ C)
def I8{id:Int}{a:Int}(h:a∈NR id v (XD p k f))(r:a≠0):Rs (NO p f.name) a=true/\v∈GU p a:=by
 unfold NR at h;obtain⟨s,b,rfl⟩:=x0n.1 h;obtain⟨t,n⟩:=x1s.1 b;simp only[x1z,x1n,x3s]at n;obtain⟨o,c,a,d,u,w,rfl,g⟩:=Xb t;obtain rfl:o=v:=n.2;rcases OX hc hk u w with⟨rfl,_⟩|⟨x,y,z,l⟩
 .exact absurd (show QH p k (QW f.body+2:Nat) (0:Nat)=0 from if_pos rfl) r
 .have e:=(LL hc hk x y).1;have m:=BG (p:=p) (j:=k) (f:=f) (i:=(a:Nat)) ⟨by omega,by omega⟩;have q:(0:Int)<QH p k (QW f.body+2:Nat) a:=by rw[e];omega
  refine⟨?_,?_⟩
  .refine (RG hc hk q).2 ((BF hc hk m.1).1 ?_);rw[m.2,x2s];exact z
  .show o∈GU p (QH p k (QW f.body+2:Nat) a);rw[e];exact l
end
def q0g(v:Str)(l:List Fl):Bool:=l.any fun s=>decide (s.dst = -1)&&(s.var==v)
def ST(v:Str)(l:List Fl):q0g v (l.take 0)=false:=by rw[List.take_zero];rfl
def SR(v:Str){l:List Fl}{m:Nat}(h:m<l.length):q0g v (l.take (m+1))=(q0g v (l.take m)||(decide (l[m].dst = -1)&&(l[m].var==v))):=by
 unfold q0g;rw[x0a h,List.any_append];simp
def Bi(hc:QE p=true)(n:Int):∃(k:Nat) (f:Pr),p.A[k]?=some f/\f.name=ZL p n/\Qo p f.name=some (QQ p k f):=by
 obtain⟨k,f,hk,o,_⟩:=Su hc n;obtain⟨q,l,h,r,_,m,_⟩:=JM o;have i:k=q:=by
  have:(QQ p k f).j=(QQ p q l).j:=by rw[r]
  exact this
 subst i;obtain rfl:f=l:=by rw[hk]at h;exact x3h h
 exact⟨k,f,hk,m,by rw[m];exact o⟩
def IM(hc:QE p=true)(n:Int)(h:v∈Qu p (ZL p n)):q0g v (UY p (ZL p n))=true:=by
 obtain⟨k,f,hk,m,o⟩:=Bi hc n;rw[<-m]at h⊢;rw[LI hc hk o];obtain⟨s,i,j,l⟩:=Aq hc hk h;exact x2e.2 ⟨s,i,by simp[j,l]⟩
def Xf(i:Fit p)(n:Str):(UY p n).length<=1000000000:=by
 unfold UY;split
 .rename_i h;exact Xd i h.1 (Yn (Ym h.2))
 .simp
def HP(p:Pg)(n:Int):SpecP Tryz.prog 4 [.agg p.cells,.int .i64 n] (fun r=>r=.tt):=by
 refine sB KK Tryz.func4 rfl Tryz.call4 ?_;conv=>whnf
 cases i:Rj p with
 | false=>
   have A:¬gPg p<=20000:=by unfold Rj at i;simpa using i
   repeat' (first|((first|(refine iM fun _=>?_)|refine cP (QO _) ?_|refine dA ?_|refine x0h rfl ?_|refine aD ?_|refine aR ?_|refine bP ?_|(refine iA fun _=>?_)|refine IdxK.xs (by omega) ?_|refine QX (by omega) ?_|(refine ByteK.at (by omega) ?_)|refine wI ?_|refine cP QN ?_);conv=>whnf)|(apply bD<;>intro _<;>first|omega|conv=>whnf)|(apply bE<;>intro _<;>first|omega|conv=>whnf)|(apply bN<;>intro _<;>conv=>whnf)|(apply bB<;>intro _<;>conv=>whnf))
   all_goals first
    |exact⟨_,.p (Sub.refl _),rfl⟩
    |(exfalso;simp_all;done)
 | true =>
   have s:Fit p:=Cv i;have x:gPg p<=20000:=by unfold Rj at i;simpa using i
   have q:=VW p s 40;cases w:J1 p 40 with
   | false=>
     rw[w]at q;repeat' (first|((first|(refine iM fun _=>?_)|refine cP (QO _) ?_|refine dA ?_|refine x0h rfl ?_|refine aD ?_|refine aR ?_|refine bP ?_|(refine iA fun _=>?_)|refine IdxK.xs (by omega) ?_|refine QX (by omega) ?_|(refine ByteK.at (by omega) ?_)|refine wI ?_|refine cP QN ?_|refine cP q ?_);conv=>whnf)|(apply bD<;>intro _<;>first|omega|conv=>whnf)|(apply bE<;>intro _<;>first|omega|conv=>whnf)|(apply bN<;>intro _<;>conv=>whnf)|(apply bB<;>intro _<;>conv=>whnf))
     all_goals first
      |contradiction
      |exact⟨_,.p (Sub.refl _),rfl⟩
   | true=>
     rw[w]at q;have hc:=J2 w;have g:=JL p n (P6 hc);have d:=Ke p s (ZL p n);have z:=D1 p s (ZL p n);have a:=Xf s (ZL p n);have u:=fun v h=>IM hc n (v:=v) h;generalize Qu p (ZL p n)=O at*
     generalize UY p (ZL p n)=L at*
     generalize ZL p n=pn at*
     have c:(L.map NN).length=L.length:=x0j _;have e:(O.map AV.str).length=O.length:=x0j _;repeat' (first|((first|(refine iM fun _=>?_)|refine cP (QO _) ?_|refine dA ?_|refine x0h rfl ?_|refine aD ?_|refine aR ?_|refine bP ?_|(refine iA fun _=>?_)|refine IdxK.xs (by omega) ?_|refine QX (by omega) ?_|(refine ByteK.at (by omega) ?_)|refine wI ?_|refine cP QN ?_|refine cP q ?_|refine cP g ?_|refine cP d ?_|refine cP z ?_);conv=>whnf)|(apply bD<;>intro _<;>first|omega|conv=>whnf)|(apply bE<;>intro _<;>first|omega|conv=>whnf)|(apply bN<;>intro _<;>conv=>whnf)|(apply bB<;>intro _<;>conv=>whnf))
     all_goals first
      |contradiction
      |exact⟨_,.p (Sub.refl _),rfl⟩
      |skip
     refine LoopK.inv QK (fun j:Nat=>⟨[(6,.p (.sl (L.map NN))),(28,.p (eStrs O)),(29,.p (.int .i64 (O.map AV.str).length)),(30,.p (.int .i64 j))],[]⟩) (fun j=>j<=O.length) (fun j=>O.length-j) 0 (Le.of_eq rfl) (x0l _) ?_;intro j C;rcases x0t j O.length with t|t
     .have B:=u O[j] (x0s t);conv=>whnf
      repeat' (first|((first|(refine iM fun _=>?_)|refine dA ?_|refine x0h rfl ?_|refine aD ?_|refine aR ?_|refine bP ?_|(refine iA fun _=>?_)|refine IdxK.xs (by omega) ?_|refine QX (by omega) ?_|(refine ByteK.at (by omega) ?_)|refine wI ?_);conv=>whnf)|(apply bD<;>intro _<;>first|omega|conv=>whnf)|(apply bE<;>intro _<;>first|omega|conv=>whnf)|(apply bN<;>intro _<;>conv=>whnf)|(apply bB<;>intro _<;>conv=>whnf))
      refine LoopK.inv QK (fun m:Nat=>⟨[(6,.p (.sl (L.map NN))),(8,.p (.str O[j])),(9,.p (.bool (q0g O[j] (L.take m)))),(28,.p (eStrs O)),(29,.p (.int .i64 (O.map AV.str).length)),(30,.p (.int .i64 j)),(34,.p (.sl (L.map NN))),(35,.p (.int .i64 (L.map NN).length)),(36,.p (.int .i64 m))],[]⟩) (fun m=>m<=L.length) (fun m=>L.length-m) 0 (Le.mk [] (by simp) (by simp) (by simp) (.r (.r (.cons (.p (Sub.ff (ST _ _))) (.r (.r (.r (.r (.r (.r .nil))))))))) .nil) (x0l _) ?_;intro m D;rcases x0t m L.length with l|l
      .have o:=SR O[j] l;have y:(L.map NN)[m]?=some (.agg L[m].cells):=by rw[x0d,x0u l];rfl
       generalize q0g O[j] (L.take m)=b at*
       cases b;all_goals
        conv=>whnf
        repeat' (first|((first|(refine iM fun _=>?_)|refine dA ?_|refine x0h rfl ?_|refine aD ?_|refine aR ?_|refine bP ?_|(refine iA fun _=>?_)|refine IdxK.xs (by omega) ?_|refine QX (by omega) ?_|(refine ByteK.at (by omega) ?_)|refine wI ?_);conv=>whnf)|(apply bD<;>intro _<;>first|omega|conv=>whnf)|(apply bE<;>intro _<;>first|omega|conv=>whnf)|(apply bN<;>intro _<;>conv=>whnf)|(apply bB<;>intro _<;>conv=>whnf)|(refine IdxK.at (k:=m) rfl y rfl ?_;conv=>whnf)|(refine x0h ?_ ?_<;>conv=>whnf))
        all_goals first
         |contradiction
         |exact⟨m+1,l,by omega,Le.mk [] (by simp) (by simp) (by simp) (.r (.r (.cons (.p (Sub.ff (by rw[o];simp[*];done))) (.r (.r (.r (.r (.r (.r .nil))))))))) .nil⟩
         |exact⟨m+1,l,by omega,Le.mk [] (by simp) (by simp) (by simp) (.r (.r (.cons (.p (Sub.tt (by rw[o];simp[*];done))) (.r (.r (.r (.r (.r (.r .nil))))))))) .nil⟩
         |exact⟨m+1,l,by omega,Le.of_eq (by rw[o];simp[*];done)⟩
      .rw [x1w l,B];conv=>whnf
       repeat' (first|((first|(refine iM fun _=>?_)|refine dA ?_|refine x0h rfl ?_|refine aD ?_|refine aR ?_|refine bP ?_|(refine iA fun _=>?_)|refine IdxK.xs (by omega) ?_|refine QX (by omega) ?_|(refine ByteK.at (by omega) ?_)|refine wI ?_);conv=>whnf)|(apply bD<;>intro _<;>first|omega|conv=>whnf)|(apply bE<;>intro _<;>first|omega|conv=>whnf)|(apply bN<;>intro _<;>conv=>whnf)|(apply bB<;>intro _<;>conv=>whnf))
       all_goals first
        |contradiction
        |exact⟨j+1,t,by omega,Le.of_eq rfl⟩
     .conv=>whnf
      repeat' (first|((first|(refine iM fun _=>?_)|refine dA ?_|refine x0h rfl ?_|refine aD ?_|refine aR ?_|refine bP ?_|(refine iA fun _=>?_)|refine IdxK.xs (by omega) ?_|refine QX (by omega) ?_|(refine ByteK.at (by omega) ?_)|refine wI ?_);conv=>whnf)|(apply bD<;>intro _<;>first|omega|conv=>whnf)|(apply bE<;>intro _<;>first|omega|conv=>whnf)|(apply bN<;>intro _<;>conv=>whnf)|(apply bB<;>intro _<;>conv=>whnf))
      all_goals first
       |contradiction
       |exact⟨_,.p (Sub.refl _),rfl⟩
       |exact⟨_,.p (Vs rfl),rfl⟩
end Go.Ab
