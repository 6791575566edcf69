/- law21: small; struct == on flows; what a name is in a procedure. -/
import Derived.Test.YtmfnbgbblkhneaaGreatRchA15
import Derived.Test.YtmfnbgbblkhneaaGreatRchA16
import Derived.Test.YtmfnbgbblkhneaaGreatRchA18
import Derived.Test.YtmfnbgbblkhneaaGreatRchA20
import Derived.Test.YtmfnbgbblkhneaaGreatRchA22
import Derived.Test.YtmfnbgbblkhneaaGreatRchA23
import Derived.Test.YtmfnbgbblkhneaaGreatRchA24
set_option linter.unusedSimpArgs false
set_option linter.unusedVariables false
set_option maxRecDepth 100000
set_option maxHeartbeats 16000000
namespace Go.Ab
open Go.Proofs.Tryz
open Go.Proofs
variable {a f m:Nat}{nm v:Str}{p:Pg}
theorem JV(p:Pg)(hf:Fit p)(most:Int):SpecP prog 19 [.agg p.cells,.int .i64 most] (fun r=>r=.bool (K9 p most)):=by
 refine sB HP func19 rfl call19 ?_;conv=>whnf
 have hC:=KN p hf;unfold K9;cases hc:QO p with
 | false=>
   rw[hc]at hC;repeat' (first|((first|(refine iM fun _=>?_)|refine dA ?_|refine q7p rfl ?_|refine aD ?_|refine aR ?_|refine bP ?_|(refine iA fun _=>?_)|refine IdxK.xs (by omega) ?_|refine QX (by omega) ?_|(refine ByteK.at (by omega) ?_)|refine wI ?_|refine cP hC ?_);conv=>whnf)|(apply bD<;>intro _<;>first|omega|conv=>whnf)|(apply bE<;>intro _<;>first|omega|conv=>whnf)|(apply bN<;>intro _<;>conv=>whnf)|(apply bB<;>intro _<;>conv=>whnf))
   all_goals first
    |contradiction
    |exact RetK.ff rfl
 | true=>
   rw[hc]at hC;have hcn:=(XP hc).2.2;have hT:=Kg p (by omega);repeat' (first|((first|(refine iM fun _=>?_)|refine dA ?_|refine q7p rfl ?_|refine aD ?_|refine aR ?_|refine bP ?_|(refine iA fun _=>?_)|refine IdxK.xs (by omega) ?_|refine QX (by omega) ?_|(refine ByteK.at (by omega) ?_)|refine wI ?_|refine cP hC ?_|refine cP hT ?_);conv=>whnf)|(apply bD<;>intro _<;>first|omega|conv=>whnf)|(apply bE<;>intro _<;>first|omega|conv=>whnf)|(apply bN<;>intro _<;>conv=>whnf)|(apply bB<;>intro _<;>conv=>whnf))
   all_goals first
    |contradiction
    |exact RetK.bool rfl
def RC(p:Pg)(n v:Str):Int:=bif HY p then(match p.procs.find? fun f=>f.name==n with|some f=>FY p f v|none=>0)else 0
theorem Tz(p:Pg)(n v:Str):SpecP prog 26 [.agg p.cells,.str n,.str v] (fun r=>r=.int .i64 (RC p n v)):=by
 refine sB Fd func26 rfl call26 ?_;conv=>whnf
 have hM:=Ht p;have hpl:(p.procs.map fun f=>AV.agg f.cells).length=p.procs.length:=q7f _;unfold RC;cases hm:HY p with
 | false=>
   rw[hm]at hM;repeat' (first|((first|(refine iM fun _=>?_)|refine dA ?_|refine q7p rfl ?_|refine aD ?_|refine aR ?_|refine bP ?_|(refine iA fun _=>?_)|refine IdxK.xs (by omega) ?_|refine QX (by omega) ?_|(refine ByteK.at (by omega) ?_)|refine wI ?_|refine cP hM ?_);conv=>whnf)|(apply bD<;>intro _<;>first|omega|conv=>whnf)|(apply bE<;>intro _<;>first|omega|conv=>whnf)|(apply bN<;>intro _<;>conv=>whnf)|(apply bB<;>intro _<;>conv=>whnf))
   all_goals first
    |contradiction
    |exact RetK.int rfl
 | true =>
   rw[hm]at hM;repeat' (first|((first|(refine iM fun _=>?_)|refine dA ?_|refine q7p rfl ?_|refine aD ?_|refine aR ?_|refine bP ?_|(refine iA fun _=>?_)|refine IdxK.xs (by omega) ?_|refine QX (by omega) ?_|(refine ByteK.at (by omega) ?_)|refine wI ?_|refine cP hM ?_);conv=>whnf)|(apply bD<;>intro _<;>first|omega|conv=>whnf)|(apply bE<;>intro _<;>first|omega|conv=>whnf)|(apply bN<;>intro _<;>conv=>whnf)|(apply bB<;>intro _<;>conv=>whnf))
   all_goals try contradiction
   refine LoopK.inv QK (fun j:Nat=>⟨[(1,.p (.str n)),(2,.p (.str v)),(3,.p (.ip p.cells)),(13,.p (.sl (p.procs.map fun f=>.agg f.cells))),(14,.p (.int .i64 (p.procs.map fun f=>AV.agg f.cells).length)),(15,.p (.int .i64 j))],[]⟩) (fun j=>j<=p.procs.length/\(p.procs.drop j).find? (fun f=>f.name==n)=p.procs.find? fun f=>f.name==n) (fun j=>p.procs.length-j) 0 (Le.of_eq rfl) ⟨q7c _,rfl⟩ ?_;rintro j ⟨h2,h3⟩;rcases q7e j p.procs.length with hj|hj
   ·rw [QB hj,x2s]at h3;have hK:=K6 p p.procs[j] v;conv=>whnf
    repeat' (first|((first|(refine iM fun _=>?_)|refine dA ?_|refine q7p rfl ?_|refine aD ?_|refine aR ?_|refine bP ?_|(refine iA fun _=>?_)|refine IdxK.xs (by omega) ?_|refine QX (by omega) ?_|(refine ByteK.at (by omega) ?_)|refine wI ?_|refine cP hK ?_);conv=>whnf)|(apply bD<;>intro _<;>first|omega|conv=>whnf)|(apply bE<;>intro _<;>first|omega|conv=>whnf)|(apply bN<;>intro _<;>conv=>whnf)|(apply bB<;>intro _<;>conv=>whnf))
    all_goals first
     | (have hn:(p.procs[j].name==n)=true:=by assumption
        rw[hn]at h3;exact RetK.int (by rw[<-h3];rfl))
     | (have hn:(p.procs[j].name==n)=false:=by assumption
        rw[hn]at h3;exact⟨j+1,⟨hj,h3⟩,by omega,Le.of_eq rfl⟩)
   ·rw[q8v hj,List.find?_nil]at h3;conv=>whnf
    repeat' (first|((first|(refine iM fun _=>?_)|refine dA ?_|refine q7p rfl ?_|refine aD ?_|refine aR ?_|refine bP ?_|(refine iA fun _=>?_)|refine IdxK.xs (by omega) ?_|refine QX (by omega) ?_|(refine ByteK.at (by omega) ?_)|refine wI ?_);conv=>whnf)|(apply bD<;>intro _<;>first|omega|conv=>whnf)|(apply bE<;>intro _<;>first|omega|conv=>whnf)|(apply bN<;>intro _<;>conv=>whnf)|(apply bB<;>intro _<;>conv=>whnf))
    all_goals first
     |contradiction
     |exact RetK.int (by rw[<-h3];rfl)
instance:DecidableEq Fl:=fun a b=>decidable_of_iff (a.src=b.src/\a.dst=b.dst/\a.var=b.var) (by cases a;cases b;simp)
theorem J7(hc:QO p=true){k:Nat}{f:Pr}(hk:p.procs[k]?=some f)(h0:a≠0)(h1:a<QU f.body+1):
  QH p k (QU f.body+2:Nat) a=(QM p.procs k+a:Nat)/\NI p (QM p.procs k+a:Nat)=(QG p).defs.getD (QM p.procs k+a-1) []/\LF p (QM p.procs k+a:Nat)=(QG p).uses.getD (QM p.procs k+a-1) []:=by
 obtain⟨_,_,_,hlen,hs⟩:=QV p;obtain⟨_,_,hle,_⟩:=hs _ _ hk;have h3:((QM p.procs k+a:Nat):Int)-1=(QM p.procs k+a-1:Nat):=by omega
 refine⟨?_,?_,?_⟩
 ·unfold QH loI;rw[if_neg (by omega),if_neg (by omega)];omega
 ·unfold NI;rw[if_pos ⟨hc,by omega,by omega⟩,h3];rfl
 ·unfold LF;rw[if_pos ⟨hc,by omega,by omega⟩,h3];rfl
theorem q1f(hc:QO p=true){k:Nat}{f:Pr}(hk:p.procs[k]?=some f)(ha:a<QU f.body+2)(h:nm∈VS p k f a):
  (a=0/\nm∈q3q p f.name++f.params.map Param.name)\/(a≠0/\a<QU f.body+1/\(QQ p k f).live.getD a false=true/\nm∈NI p (QM p.procs k+a:Nat)):=by
 unfold VS Ms at h;split at h
 ·rename_i h0;refine .inl ⟨h0,?_⟩;rw[(Uw hc hk).2.2];exact XR.1 h
 ·rename_i h0;split at h
  ·cases h
  ·rename_i h1;cases hl:(QQ p k f).live.getD a false with
   |false=>rw[hl]at h;cases h
   | true=>
     rw[hl]at h;exact .inr ⟨h0,by omega,rfl,by rw[(J7 hc hk h0 (by omega)).2.1];exact h⟩
theorem E3(l:List (Str×Nat)){k:Str}(h:(k,a)∈l):k∈(mapG l).map Prod.fst:=by
 have key:∀l:List (Str×Nat),(k,a)∈l->k∈(mapG l.reverse).map Prod.fst:=fun l=>by
  induction l with
  |nil=>intro h;cases h
  | cons x r ih=>
    intro h;rw[x3p,KL];unfold Hw;rw[LH];rcases q7r.1 h with h|h
    ·subst h;split
     ·assumption
     ·exact q9r _ (q7m.2 rfl)
    ·have:=ih h;split
     ·exact this
     ·exact q9u _ this
 have:=key l.reverse (List.mem_reverse.2 h)
 rwa[x2o]at this
section
variable {n:Nat}{at_:List Nat}
theorem Iy(hnd:at_.Nodup)(hlt:∀a∈at_,a<n):∀k,k<=at_.length->∀(a:Nat)(g:Nat),(g:Int)∈(gnC n at_ k).getD a []↔g<k/\at_[g]?=some a
 | 0,_,a,g=>by
   rw[gnC];constructor
   ·intro h;rw[q7h,q8l]at h;split at h<;>cases h
   ·intro h;exact absurd h.1 (by omega)
 | k+1,hk,a,g=>by
   have hkl:k<at_.length:=by omega
   have e:at_.getD k 0=at_[k]:=by rw[q7h,q7g hkl];rfl
   rw[gnC,e,ZU (by rw[FX];exact hlt _ (q7i hkl))];split
   ·rename_i h;rw[q7m];constructor
    ·intro h1;obtain rfl:g=k:=by omega
     exact⟨by omega,by rw[q7g hkl,h]⟩
    ·rintro⟨h1,h2⟩;obtain⟨h3,h4⟩:=q7t.1 h2;have:g=k:=(List.getElem_inj hnd).1 (h4.trans h.symm);omega
   ·rename_i h;rw[Iy hnd hlt k (by omega) a g];refine⟨fun⟨h1,h2⟩=>⟨by omega,h2⟩,fun⟨h1,h2⟩=>⟨?_,h2⟩⟩;refine Nat.lt_of_le_of_ne (by omega) fun e2=>h ?_;subst e2;rw[q7g hkl]at h2;exact x0m h2
theorem Ap{g:Nat}:(g:Int)∈NN m↔g<m:=by
 unfold NN;rw[q7s];constructor
 ·rintro⟨x,hx,he⟩;have:=q9q.1 hx;have:(x:Int)=g:=he;omega
 ·exact fun h=>⟨g,q9q.2 h,rfl⟩
theorem Ip(hlt:∀a∈at_,a<n){g:Nat}(hg:g<at_.length):∀k,k<=at_.length->∀a:Nat,(g:Int)∈(klC n at_ k).getD a []↔a∈at_.take k
 | 0,_,a=>by
   rw[klC];constructor
   ·intro h;rw[q7h,q8l]at h;split at h<;>cases h
   ·intro h;simp at h
 | k+1,hk,a=>by
   have hkl:k<at_.length:=by omega
   have e:at_.getD k 0=at_[k]:=by rw[q7h,q7g hkl];rfl
   rw[klC,e,ZU (by rw[FJ];exact hlt _ (q7i hkl)),q8q hkl,q7a,q7m];split
   ·rename_i h;exact⟨fun _=>.inr h.symm,fun _=>Ap.2 hg⟩
   ·rename_i h;rw[Ip hlt hg k (by omega) a];exact⟨.inl,fun h1=>h1.resolve_right fun e2=>h e2.symm⟩
def O0(n:Nat)(steps:List (Int×Int))(at_:List Nat)(f:Nat)(c:Int):Prop:=SolP (QC n steps).1 ((gnC n at_ at_.length).map (GD (at_.length/64+1))) ((klC n at_ at_.length).map (GD (at_.length/64+1))) f c
theorem Cw{l:List (List Int)}(hok:∀r∈l,r.length<=5000/\∀f∈r,0<=f/\f<(m:Nat)):bitW ((l.map (GD (m/64+1))).getD a []) f=decide ((f:Int)∈l.getD a []):=by
 rw[q7h,q7l,q7h];cases hq:l[a]?with
 |none=>simp[bitW]
 | some r=>
   refine Ai (fun g hg=>?_) f;have h2:=(hok r (q8u hq)).2 g hg;exact⟨h2.1,Nat.lt_succ_of_le (Nat.div_le_div_right (by omega))⟩
variable {steps:List (Int×Int)}(hnd:at_.Nodup)(hlt : ∀ a∈at_,a<n)(hm:at_.length<=5000)
include hnd hlt hm
theorem q1d:bitW (((gnC n at_ at_.length).map (GD (at_.length/64+1))).getD a []) f=true↔at_[f]?=some a:=by
 rw[Cw (AT n at_ hm _ (q8z _)),x2t,Iy hnd hlt _ (q8z _)];exact⟨fun h=>h.2,fun h=>⟨(q7t.1 h).1,h⟩⟩
omit hnd in
theorem q1l{a f:Nat}(hf:f<at_.length):bitW (((klC n at_ at_.length).map (GD (at_.length/64+1))).getD a []) f=true↔a∈at_:=by
 rw[Cw (E6 n at_ hm _),x2t,Ip hlt hf _ (q8z _),x2w]
theorem O1{c:Int}(hf:at_[f]?=some a)(hs:((a:Int),c)∈steps)(hc:0<=c/\c<n):O0 n steps at_ f c:=by
 have ha:=hlt a (q8u hf);refine .gen (a:=a) (by omega) ((q1d hnd hlt hm).2 hf) ?_;have:=(Qy (n:=n) (l:=steps) (x:=a) (y:=c)).2 ⟨hs,FV (by omega),FV hc⟩;exact this.2
omit hnd in
theorem q0a{f:Nat}(hf:f<at_.length){a c:Int}(h:O0 n steps at_ f a)(ha:0<=a/\a<n)(hn:a.toNat∉at_)(hs:(a,c)∈steps)(hc:0<=c/\c<n):O0 n steps at_ f c:=by
 refine .go (a:=a) ha.1 h ?_ ((Qy (n:=n) (l:=steps) (x:=a) (y:=c)).2 ⟨hs,FV ha,FV hc⟩).2;rw[x2a];exact fun h2=>hn ((q1l hlt hm hf).1 h2)
open Classical in
theorem Mk{f c:Nat}(hc:c<n):(f:Int)∈(comC n steps at_).getD c []↔f<at_.length/\O0 n steps at_ f c:=by
 have e:(comC n steps at_)[c]?=some ((comC n steps at_)[c]'(by rw[Gv];exact hc)):=q7g _;rw[q7h,e,q9j];unfold comC;rw[x1i,x3j,q7s];constructor
 ·rintro⟨x,hx,he⟩;obtain⟨h1,h2⟩:=q8t.1 hx;obtain rfl:x=f:=by have:(x:Int)=f:=he;omega
  exact⟨q9q.1 h1,of_decide_eq_true h2⟩
 ·exact fun⟨h1,h2⟩=>⟨f,q8t.2 ⟨q9q.2 h1,x0b h2⟩,rfl⟩
end
section
variable {p:Pg}{k:Nat}{f:Pr}(hc:QO p=true)(hk:p.procs[k]? = some f)
include hc hk
theorem IL(nm:Str):(atN (VS p k f) (QU f.body+2) nm).Nodup/\(∀a∈atN (VS p k f) (QU f.body+2) nm,a<QU f.body+2)/\(atN (VS p k f) (QU f.body+2) nm).length<=5000/\∀a,a∈atN (VS p k f) (QU f.body+2) nm↔a<QU f.body+2/\nm∈VS p k f a:=by
 have hG:=Iu hc k f;have hcn:=(XP hc).2.2;have hcf:=NS _ _ (q8u hk);rw[D7 hG];refine⟨x3a.filter _,fun a ha=>q9q.1 (q8t.1 ha).1,q8i (q9l _ _) (by rw[x0h];omega),fun a=>?_⟩;rw[q8t,q9q,x2t]
theorem AP{c:Nat}(ha:a<QU f.body+2)(hcn:c<QU f.body+2):(⟨QH p k (QU f.body+2:Nat) a,QH p k (QU f.body+2:Nat) c,nm⟩:Fl)∈XM p k f ↔
  nm∈Rz p k f c/\∃g,(atN (VS p k f) (QU f.body+2) nm)[g]?=some a/\O0 (QU f.body+2) (UT (QQ p k f) f) (atN (VS p k f) (QU f.body+2) nm) g c:=by
 obtain⟨_,hlt,_,hmem⟩:=IL hc hk nm;unfold XM VJ;rw[(x1s _ _).mem_iff,q8r];constructor
 ·rintro⟨k',_,h⟩;unfold outN at h;obtain⟨c',hc',h⟩:=q8r.1 h;obtain⟨x,hx,h⟩:=q8r.1 h;have hc':=q9q.1 hc';split at h
  ·rename_i ht;have h:=q7m.1 h;obtain rfl:nm=k':=q9e Fl.var h;have e2:QH p k (QU f.body+2:Nat) c=QH p k (QU f.body+2:Nat) c':=q9e Fl.dst h;obtain rfl:=DB hcn hc' e2;have hrow:((comC (QU f.body+2) (UT (QQ p k f) f) (atN (VS p k f) (QU f.body+2) nm)).getD c [])∈comC (QU f.body+2) (UT (QQ p k f) f) (atN (VS p k f) (QU f.body+2) nm):=by
    rw[q7h,q7g (by rw[Gv];exact hcn)];exact q7i _
   have hb:=(NA hrow).2 x hx;obtain⟨g,rfl⟩:=Int.eq_ofNat_of_zero_le hb.1;have hgl:g<(atN (VS p k f) (QU f.body+2) nm).length:=by omega
   have hcs:=((Mk hcn).1 hx).2;have e1:QH p k (QU f.body+2:Nat) a=_:=q9e Fl.src h;have e3:(atN (VS p k f) (QU f.body+2) nm).getD ((g:Nat):Int).toNat 0=(atN (VS p k f) (QU f.body+2) nm)[g]:=by
    rw[x0q,q7h,q7g hgl];rfl
   rw[e3]at e1;refine⟨UH.1 ht,g,?_,hcs⟩;rw[q7g hgl,DB ha (hlt _ (q7i hgl)) e1]
  ·cases h
 ·rintro⟨ht,g,hg,hcs⟩;obtain⟨hgl,hge⟩:=q7t.1 hg;refine⟨nm,?_,?_⟩
  ·have:=(hmem a).1 (q8u hg);refine E3 _ (a:=a) ?_;unfold prsG;exact q8r.2 ⟨a,q9q.2 ha,q7s.2 ⟨nm,this.2,rfl⟩⟩
  ·unfold outN;refine q8r.2 ⟨c,q9q.2 hcn,q8r.2 ⟨(g:Nat),(Mk hcn).2 ⟨hgl,hcs⟩,?_⟩⟩;rw[if_pos (UH.2 ht),x0q,q7h,hg];exact q7m.2 rfl
theorem AY{x z y:Int}(hg:nm∈VS p k f (ixI p k f x).toNat)(h1:dR p k f x z)(h2:Rch (dR p k f) z y):
  ∃g,g<(atN (VS p k f) (QU f.body+2) nm).length/\O0 (QU f.body+2) (UT (QQ p k f) f) (atN (VS p k f) (QU f.body+2) nm) g (ixI p k f y):=by
 obtain⟨hnd,hlt,hm5,hmem⟩:=IL hc hk nm;have step:∀a b:Int,dR p k f a b->nm∈VS p k f (ixI p k f a).toNat->∃g,g<(atN (VS p k f) (QU f.body+2) nm).length/\O0 (QU f.body+2) (UT (QQ p k f) f) (atN (VS p k f) (QU f.body+2) nm) g (ixI p k f b):=fun a b hd hn=>by
  obtain⟨pa,pb⟩:=Dw hc hk hd;have ra:=ZA pa;obtain⟨g,hgl,hge⟩:=List.getElem_of_mem ((hmem (ixI p k f a).toNat).2 ⟨by omega,hn⟩);refine⟨g,hgl,O1 hnd hlt hm5 (a:=(ixI p k f a).toNat) (by rw[q7g hgl,hge]) ?_ (ZA pb)⟩;rw[x2x ra.1];exact(Hx hc hk pa pb).2 hd
 induction h2 with
 |refl=>exact step x z h1 hg
 | @tail b c _ hd ih=>
   obtain⟨g,hgl,hcs⟩:=ih;obtain⟨pb,pc⟩:=Dw hc hk hd;have rb:=ZA pb;by_cases hn:nm∈VS p k f (ixI p k f b).toNat
   ·exact step b c hd hn
   ·refine⟨g,hgl,q0a hlt hm5 hgl hcs rb (fun h=>hn ((hmem _).1 h).2) ((Hx hc hk pb pc).2 hd) (ZA pc)⟩
theorem V9{x z y:Int}(hg:nm∈VS p k f (ixI p k f x).toNat)(h1:dR p k f x z)(h2:Rch (dR p k f) z y)(ht:nm∈Rz p k f (ixI p k f y).toNat):
  ∃s∈XM p k f,s.dst=y/\s.var=nm:=by
 obtain⟨g,hgl,hcs⟩:=AY hc hk hg h1 h2;obtain⟨_,hlt,_,_⟩:=IL hc hk nm;have py:plP p k f y:=by
  cases h2 with
  |refl=>exact(Dw hc hk h1).2
  |tail _ hd=>exact(Dw hc hk hd).2
 have ry:=ZA py;have e:((ixI p k f y).toNat:Int)=ixI p k f y:=x2x ry.1;refine⟨_,(AP hc hk (hlt _ (q7i hgl)) (c:=(ixI p k f y).toNat) (by omega)).2 ⟨ht,g,q7g hgl,by rw[e];exact hcs⟩,?_,rfl⟩;show QH p k _ _=y;rw[e];exact DP py
end
theorem Rch.first{α:Type}{R:α->α->Prop}{a b:α}(h:Rch R a b):a=b\/∃c,R a c/\Rch R c b:=by
 induction h with
 |refl=>exact .inl rfl
 | @tail x y _ hr ih=>
   rcases ih with rfl|⟨c,h1,h2⟩
   ·exact .inr ⟨y,hr,.refl⟩
   ·exact .inr ⟨c,h1,.tail h2 hr⟩
section
variable {p:Pg}{k:Nat}{f:Pr}(hc:QO p=true)(hk:p.procs[k]? = some f)
include hc hk
theorem Se{t:S}(ht:t∈flL f.body):plP p k f t.id/\t.id=(QM p.procs k+(ixI p k f t.id).toNat:Nat)/\(ixI p k f t.id).toNat≠0/\(ixI p k f t.id).toNat<QU f.body+1:=by
 have hb:=WG (QD hc).1 hk ht;have hp:plP p k f t.id:=.inr (.inr hb);have hr:=ZA hp;have he:=DP hp;unfold QH loI at he;split at he
 ·omega
 split at he
 ·omega
 ·exact⟨hp,by omega,by omega,by omega⟩
theorem Sn{t:S}(ht:t∈flL f.body)(hl:Rch (wR p k f) 0 t.id)(h:nm∈NI p t.id):nm∈VS p k f (ixI p k f t.id).toNat:=by
 obtain⟨hp,h1,h2,h3⟩:=Se hc hk ht;rw[h1,(J7 hc hk h2 h3).2.1]at h;unfold VS Ms;rw[if_neg h2,if_neg (by omega),(DH hc hk hp).2 hl];exact h
theorem ON{t:S}(ht:t∈flL f.body)(hl:Rch (wR p k f) 0 t.id)(h:nm∈LF p t.id):nm∈Rz p k f (ixI p k f t.id).toNat:=by
 obtain⟨hp,h1,h2,h3⟩:=Se hc hk ht;rw[h1,(J7 hc hk h2 h3).2.2]at h;unfold Rz EA;rw[if_neg (by omega),if_neg h2,(DH hc hk hp).2 hl];exact h
theorem Gk{t:S}(ht:t∈flL f.body):NI p t.id=HV (dfB p (QG p).outs) t.id/\LF p t.id=HV (usB p (QG p).ins) t.id:=by
 obtain⟨_,h1,h2,h3⟩:=Se hc hk ht;generalize(ixI p k f t.id).toNat=m at*
 have e:(t.id-1).toNat=QM p.procs k+m-1:=by omega
 refine⟨?_,?_⟩
 ·rw[<-(WE hc).defs];unfold HV;rw[e,h1,(J7 hc hk h2 h3).2.1]
 ·rw[<-(WE hc).uses];unfold HV;rw[e,h1,(J7 hc hk h2 h3).2.2]
omit hc hk in
theorem O2:ixI p k f (-1)=(QU f.body+1:Nat):=by
 have hr:=ZA (p:=p) (j:=k) (f:=f) (x := -1) (.inr (.inl rfl));have he:=DP (p:=p) (j:=k) (f:=f) (x := -1) (.inr (.inl rfl));unfold QH loI at he;split at he
 ·omega
 split at he
 ·omega
 ·omega
omit hc hk in
theorem Mf:ixI p k f 0=0:=by
 have hr:=ZA (p:=p) (j:=k) (f:=f) (x:=0) (.inl rfl);have he:=DP (p:=p) (j:=k) (f:=f) (x:=0) (.inl rfl);unfold QH loI at he;split at he
 ·assumption
 split at he
 ·omega
 ·omega
theorem C2(h:v∈Yh p f.name):∃s∈XM p k f,s.dst = -1/\s.var=v:=by
 have hkl:k<p.procs.length:=(q7t.1 hk).1;have h0:=h;rw[(Uw hc hk).2.1]at h;rw[<-(WE hc).fixO]at h;unfold rdO at h;obtain⟨it,h1,h2,h3,_⟩:=(H9 hkl).1 h;rw[JM hk]at h1;have ht:it.s∈flL f.body:=by
  have h4:it.s∈(itL (k:Nat) 0 (-1) 0 (QM p.procs k) f.body).map Item.s:=x1h h1
  rwa[MF]at h4
 obtain⟨hp,h5,h6,_⟩:=Se hc hk ht;have hl:Rch (wR p k f) 0 it.s.id:=by
  unfold lvB at h2;rw[JM hk]at h2;exact(DH hc hk hp).1 h2
 rw[<-(Gk hc hk ht).1]at h3;have hd:=TA hc hk hp;rcases Rch.first hd with h7|⟨z,h7,h8⟩
 ·omega
 refine V9 hc hk (Sn hc hk ht hl h3) h7 h8 ?_;rw[O2,x0q];unfold Rz EA;rw[if_pos rfl];rw[(Uw hc hk).2.1]at h0;exact XR.2 (q9u _ h0)
theorem I3{t:S}(ht:t∈flL f.body)(h:v∈LF p t.id)(h4:FY p f v≠4):comB p v=true\/v∈f.params.map Param.name:=by
 have hfm:=q8u hk;have hn:v∈ZP t->comB p v=true\/v∈f.params.map Param.name:=fun hn=>by
  have hkn:=JQ (QD hc).2.1 hfm ht;unfold knownB at hkn;rw[q8j]at hkn;have h1:=q9b.1 hkn.1 v hn;rcases L8 (by simpa using h1)with h2|h2
  ·exact .inl (NC.2 (.inr h2))
  ·rcases q7a.1 h2 with h3|h3
   ·exact .inr h3
   ·exfalso;refine h4 ?_;have hnd:=(((Cy (QD hc).1).1 (QD hc).2.1).2 f hfm).nd;unfold allV at hnd;rw[x0x]at hnd;have h5:(f.params.map Param.name++f.vars).Nodup:=hnd.2.1;rw[x0x]at h5;unfold FY;cases hq:f.params.find? (fun a=>a.name==v)with
    | some a=>
      exfalso;exact h5.2.2 a.name (x1h (x0c hq)) v h3 (by simpa using x2q hq)
    | none=>
      have:f.vars.any (fun s=>v==s)=true:=q9c.2 ⟨v,h3,x0i v⟩;simp only[this];rfl
 rw[(Gk hc hk ht).2,q5m hc hk ht,XR]at h;have hH:v∈Rj t->comB p v=true\/v∈f.params.map Param.name:=fun h=>by
  unfold Rj at h;rcases q7a.1 h with h|h
  ·refine hn ?_;unfold ZP FK;exact q9u _ (q9r _ h)
  ·split at h
   ·exact .inl (NC.2 (.inl (q7m.1 h)))
   ·cases h
 unfold PR at h;split at h
 ·rcases q7a.1 h with h|h
  ·rcases q7a.1 h with h|h
   ·exact hH h
   ·obtain⟨a,ha,h⟩:=q8r.1 h;exact hn (Ac ha h)
  ·rw[Ov]at h;exact .inl ((Gz hc).2.sub _ _ h)
 ·exact hH h
theorem A6{a b:Int}(h:wR p k f a b):dR p k f a b:=(Mg hc hk).2 (.inl h)
theorem A0{t:S}(ht:t∈flL f.body)(hl:Rch (wR p k f) 0 t.id)(h:v∈LF p t.id)(h4:FY p f v≠4):∃s∈XM p k f,s.dst=t.id/\s.var=v:=by
 obtain⟨hp,h5,h6,_⟩:=Se hc hk ht;have htk:=ON hc hk ht hl h;have hpos:(0:Int)≠t.id:=by omega
 have entry:v∈q3q p f.name++f.params.map Param.name->∃s∈XM p k f,s.dst=t.id/\s.var=v:=fun hg=>by
  have hd:Rch (dR p k f) 0 t.id:=hl.mono fun a b hw=>A6 hc hk hw;rcases Rch.first hd with h7|⟨z,h7,h8⟩
  ·exact absurd h7 hpos
  refine V9 hc hk ?_ h7 h8 htk;rw[Mf];unfold VS Ms;rw[if_pos (show Int.toNat 0=0 from rfl)];rw[(Uw hc hk).2.2]at hg;exact XR.2 hg
 rcases I3 hc hk ht h h4 with hcm|hpm
 ·have key:∀z:Int,Rch (wR p k f) 0 z->Rch (nR p k f (dfB p (QG p).outs) v) 0 (ixI p k f z)\/∃x z',v∈VS p k f (ixI p k f x).toNat/\dR p k f x z'/\Rch (dR p k f) z' z:=fun z hz=>by
   induction hz with
   |refl=>rw[Mf];exact .inl .refl
   | @tail y z h0 hw ih=>
     rcases ih with ih|⟨x,z',h1,h2,h3⟩
     ·cases hps:HJ p k f (dfB p (QG p).outs) v (ixI p k f y)with
      |true=>exact .inl (.tail ih (Ol hc hk hw hps))
      | false=>
        obtain⟨py,pz⟩:=Dw hc hk (A6 hc hk hw);obtain⟨u,hu,rfl,hv⟩:=Ea hc hk py (q0o hc hk (A6 hc hk hw)) hps;rw[<-(Gk hc hk hu).1]at hv;exact .inr ⟨u.id,z,Sn hc hk hu h0 hv,A6 hc hk hw,.refl⟩
     ·exact .inr ⟨x,z',h1,h2,.tail h3 (A6 hc hk hw)⟩
  rcases key t.id hl with h1|⟨x,z',h1,h2,h3⟩
  ·refine entry (q9u _ ?_);have hkl:k<p.procs.length:=(q7t.1 hk).1;rw[(Uw hc hk).2.2,<-(WE hc).fixI];unfold rdI;rw[H6 hkl,JM hk,(WE hc).defs];refine⟨hcm,(DF hc hk).2 ⟨_,h1,q1p hc hk ht ?_⟩⟩;rw[<-(Gk hc hk ht).2];exact h
  ·exact V9 hc hk h1 h2 h3 htk
 ·exact entry (q9r _ hpm)
theorem AL{id:Int}{a:Int}(h:a∈YT id v (XM p k f))(h0:a≠0):Pu (PH p f.name) a=true/\v∈NI p a:=by
 unfold YT at h;obtain⟨s,hs,rfl⟩:=q7s.1 h;obtain⟨h1,h2⟩:=q8t.1 hs;simp only[q8j,q8e,x1l]at h2;obtain⟨nm,c,a,h3,h4,h5,rfl,h6⟩:=Qx h1;obtain rfl:nm=v:=h2.2;rcases q1f hc hk h4 h5 with⟨rfl,_⟩|⟨h7,h8,h9,h10⟩
 ·exact absurd (show QH p k (QU f.body+2:Nat) (0:Nat)=0 from if_pos rfl) h0
 ·have e:=(J7 hc hk h7 h8).1;have ep:=DG (p:=p) (j:=k) (f:=f) (i:=(a:Nat)) ⟨by omega,by omega⟩;have e3:(0:Int)<QH p k (QU f.body+2:Nat) a:=by rw[e];omega
  refine⟨?_,?_⟩
  ·refine(Lq hc hk e3).2 ((DH hc hk ep.1).1 ?_);rw[ep.2,x0q];exact h9
  ·show nm∈NI p (QH p k (QU f.body+2:Nat) a);rw[e];exact h10
end
def IM(v:Str)(l:List Fl):Bool:=l.any fun s=>decide (s.dst = -1)&&(s.var==v)
theorem TF(v:Str)(l:List Fl):IM v (l.take 0)=false:=by rw[List.take_zero];rfl
theorem TH(v:Str){l:List Fl}(h:m<l.length):IM v (l.take (m+1))=(IM v (l.take m)||(decide (l[m].dst = -1)&&(l[m].var==v))):=by
 unfold IM;rw[q8q h,List.any_append];simp
theorem TB(hc:QO p=true)(n:Int):∃(k:Nat) (f:Pr),p.procs[k]?=some f/\f.name=ZL p n/\X7 p f.name=some (QQ p k f):=by
 obtain⟨k,f,hk,hw,_⟩:=T8 hc n;obtain⟨k',f',hk',he,_,hn,_⟩:=KI hw;have hkk:k=k':=by
  have:(QQ p k f).j=(QQ p k' f').j:=by rw[he]
  exact this
 subst hkk;obtain rfl:f=f':=by rw[hk]at hk';exact x0m hk'
 exact⟨k,f,hk,hn,by rw[hn];exact hw⟩
theorem Es(hc:QO p=true)(n:Int)(hv:v∈Yh p (ZL p n)):IM v (ZR p (ZL p n))=true:=by
 obtain⟨k,f,hk,hn,hw⟩:=TB hc n;rw[<-hn]at hv⊢;rw[MW hc hk hw];obtain⟨s,h1,h2,h3⟩:=C2 hc hk hv;exact q9c.2 ⟨s,h1,by simp[h2,h3]⟩
theorem Jw(hf:Fit p)(n:Str):(ZR p n).length<=1000000000:=by
 unfold ZR;split
 ·rename_i hq;exact DV hf hq.1 (MA (Qt hq.2))
 ·simp
theorem GL(p:Pg)(n:Int):SpecP prog 4 [.agg p.cells,.int .i64 n] (fun r=>r=.tt):=by
 refine sB JA func4 rfl call4 ?_;conv=>whnf
 cases hfb:Md p with
 | false=>
   have hno:¬gPg p<=20000:=by unfold Md at hfb;simpa using hfb
   repeat' (first|((first|(refine iM fun _=>?_)|refine cP (XW _) ?_|refine dA ?_|refine q7p rfl ?_|refine aD ?_|refine aR ?_|refine bP ?_|(refine iA fun _=>?_)|refine IdxK.xs (by omega) ?_|refine QX (by omega) ?_|(refine ByteK.at (by omega) ?_)|refine wI ?_|refine cP QR ?_);conv=>whnf)|(apply bD<;>intro _<;>first|omega|conv=>whnf)|(apply bE<;>intro _<;>first|omega|conv=>whnf)|(apply bN<;>intro _<;>conv=>whnf)|(apply bB<;>intro _<;>conv=>whnf))
   all_goals first
    |exact⟨_,.p (Sub.refl _),rfl⟩
    |(exfalso;simp_all;done)
 | true =>
   have hf:Fit p:=S7 hfb;have hfit:gPg p<=20000:=by unfold Md at hfb;simpa using hfb
   have hS:=JV p hf 40;cases hs:K9 p 40 with
   | false=>
     rw[hs]at hS;repeat' (first|((first|(refine iM fun _=>?_)|refine cP (XW _) ?_|refine dA ?_|refine q7p rfl ?_|refine aD ?_|refine aR ?_|refine bP ?_|(refine iA fun _=>?_)|refine IdxK.xs (by omega) ?_|refine QX (by omega) ?_|(refine ByteK.at (by omega) ?_)|refine wI ?_|refine cP QR ?_|refine cP hS ?_);conv=>whnf)|(apply bD<;>intro _<;>first|omega|conv=>whnf)|(apply bE<;>intro _<;>first|omega|conv=>whnf)|(apply bN<;>intro _<;>conv=>whnf)|(apply bB<;>intro _<;>conv=>whnf))
     all_goals first
      |contradiction
      |exact⟨_,.p (Sub.refl _),rfl⟩
   | true=>
     rw[hs]at hS;have hc:=Bi hs;have hP:=PS p n (S8 hc);have hO:=RP p hf (ZL p n);have hF:=Hv p hf (ZL p n);have hLl:=Jw hf (ZL p n);have hex:=fun v h=>Es hc n (v:=v) h;generalize Yh p (ZL p n)=O at*
     generalize ZR p (ZL p n)=L at*
     generalize ZL p n=pn at*
     have hLm:(L.map LN).length=L.length:=q7f _;have hOm:(O.map AV.str).length=O.length:=q7f _;repeat' (first|((first|(refine iM fun _=>?_)|refine cP (XW _) ?_|refine dA ?_|refine q7p rfl ?_|refine aD ?_|refine aR ?_|refine bP ?_|(refine iA fun _=>?_)|refine IdxK.xs (by omega) ?_|refine QX (by omega) ?_|(refine ByteK.at (by omega) ?_)|refine wI ?_|refine cP QR ?_|refine cP hS ?_|refine cP hP ?_|refine cP hO ?_|refine cP hF ?_);conv=>whnf)|(apply bD<;>intro _<;>first|omega|conv=>whnf)|(apply bE<;>intro _<;>first|omega|conv=>whnf)|(apply bN<;>intro _<;>conv=>whnf)|(apply bB<;>intro _<;>conv=>whnf))
     all_goals first
      |contradiction
      |exact⟨_,.p (Sub.refl _),rfl⟩
      |skip
     refine LoopK.inv QK (fun j:Nat=>⟨[(6,.p (.sl (L.map LN))),(28,.p (eStrs O)),(29,.p (.int .i64 (O.map AV.str).length)),(30,.p (.int .i64 j))],[]⟩) (fun j=>j<=O.length) (fun j=>O.length-j) 0 (Le.of_eq rfl) (q7c _) ?_;intro j hj;rcases q7e j O.length with h1|h1
     ·have hv:=hex O[j] (q7i h1);conv=>whnf
      repeat' (first|((first|(refine iM fun _=>?_)|refine dA ?_|refine q7p rfl ?_|refine aD ?_|refine aR ?_|refine bP ?_|(refine iA fun _=>?_)|refine IdxK.xs (by omega) ?_|refine QX (by omega) ?_|(refine ByteK.at (by omega) ?_)|refine wI ?_);conv=>whnf)|(apply bD<;>intro _<;>first|omega|conv=>whnf)|(apply bE<;>intro _<;>first|omega|conv=>whnf)|(apply bN<;>intro _<;>conv=>whnf)|(apply bB<;>intro _<;>conv=>whnf))
      refine LoopK.inv QK (fun m:Nat=>⟨[(6,.p (.sl (L.map LN))),(8,.p (.str O[j])),(9,.p (.bool (IM O[j] (L.take m)))),(28,.p (eStrs O)),(29,.p (.int .i64 (O.map AV.str).length)),(30,.p (.int .i64 j)),(34,.p (.sl (L.map LN))),(35,.p (.int .i64 (L.map LN).length)),(36,.p (.int .i64 m))],[]⟩) (fun m=>m<=L.length) (fun m=>L.length-m) 0 (Le.mk [] (by simp) (by simp) (by simp) (.r (.r (.cons (.p (Sub.ff (TF _ _))) (.r (.r (.r (.r (.r (.r .nil))))))))) .nil) (q7c _) ?_;intro m hm;rcases q7e m L.length with h2|h2
      ·have hst:=TH O[j] h2;have eL:(L.map LN)[m]?=some (.agg L[m].cells):=by rw[q7l,q7g h2];rfl
       generalize IM O[j] (L.take m)=b at*
       cases b;all_goals
        conv=>whnf
        repeat' (first|((first|(refine iM fun _=>?_)|refine dA ?_|refine q7p rfl ?_|refine aD ?_|refine aR ?_|refine bP ?_|(refine iA fun _=>?_)|refine IdxK.xs (by omega) ?_|refine QX (by omega) ?_|(refine ByteK.at (by omega) ?_)|refine wI ?_);conv=>whnf)|(apply bD<;>intro _<;>first|omega|conv=>whnf)|(apply bE<;>intro _<;>first|omega|conv=>whnf)|(apply bN<;>intro _<;>conv=>whnf)|(apply bB<;>intro _<;>conv=>whnf)|(refine IdxK.at (k:=m) rfl eL rfl ?_;conv=>whnf)|(refine q7p ?_ ?_<;>conv=>whnf))
        all_goals first
         |contradiction
         |exact⟨m+1,h2,by omega,Le.mk [] (by simp) (by simp) (by simp) (.r (.r (.cons (.p (Sub.ff (by rw[hst];simp[*];done))) (.r (.r (.r (.r (.r (.r .nil))))))))) .nil⟩
         |exact⟨m+1,h2,by omega,Le.mk [] (by simp) (by simp) (by simp) (.r (.r (.cons (.p (Sub.tt (by rw[hst];simp[*];done))) (.r (.r (.r (.r (.r (.r .nil))))))))) .nil⟩
         |exact⟨m+1,h2,by omega,Le.of_eq (by rw[hst];simp[*];done)⟩
      ·rw[q8y h2,hv];conv=>whnf
       repeat' (first|((first|(refine iM fun _=>?_)|refine dA ?_|refine q7p rfl ?_|refine aD ?_|refine aR ?_|refine bP ?_|(refine iA fun _=>?_)|refine IdxK.xs (by omega) ?_|refine QX (by omega) ?_|(refine ByteK.at (by omega) ?_)|refine wI ?_);conv=>whnf)|(apply bD<;>intro _<;>first|omega|conv=>whnf)|(apply bE<;>intro _<;>first|omega|conv=>whnf)|(apply bN<;>intro _<;>conv=>whnf)|(apply bB<;>intro _<;>conv=>whnf))
       all_goals first
        |contradiction
        |exact⟨j+1,h1,by omega,Le.of_eq rfl⟩
     ·conv=>whnf
      repeat' (first|((first|(refine iM fun _=>?_)|refine dA ?_|refine q7p rfl ?_|refine aD ?_|refine aR ?_|refine bP ?_|(refine iA fun _=>?_)|refine IdxK.xs (by omega) ?_|refine QX (by omega) ?_|(refine ByteK.at (by omega) ?_)|refine wI ?_);conv=>whnf)|(apply bD<;>intro _<;>first|omega|conv=>whnf)|(apply bE<;>intro _<;>first|omega|conv=>whnf)|(apply bN<;>intro _<;>conv=>whnf)|(apply bB<;>intro _<;>conv=>whnf))
      all_goals first
       |contradiction
       |exact⟨_,.p (Sub.refl _),rfl⟩
       |exact⟨_,.p (Wg rfl),rfl⟩
end Go.Ab
