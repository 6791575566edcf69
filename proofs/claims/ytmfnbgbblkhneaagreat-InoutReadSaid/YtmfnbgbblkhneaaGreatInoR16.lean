/- The law of a program that may be: every step leads from a place to a place. -/
import Derived.Laws.StructEq
import Derived.ChangeKeysEq
import Derived.Test.YtmfnbgbblkhneaaGreatInoR8
import Derived.Test.YtmfnbgbblkhneaaGreatInoR9
import Derived.Test.YtmfnbgbblkhneaaGreatInoR10
import Derived.Test.YtmfnbgbblkhneaaGreatInoR13
import Derived.Test.YtmfnbgbblkhneaaGreatInoR15
set_option linter.unusedSimpArgs false
set_option linter.unusedVariables false
set_option maxRecDepth 100000
set_option maxHeartbeats 16000000
open List (Nodup not_mem_nil)
open Nat (beq)
namespace Go.Ab
open Go.Proofs.Tryz
open Go.Proofs
variable {E l:List Str}{K:St->Prop}{N j k sz:Nat}{f:Pr}{it:Item}{p:Pg}{s:Str}{y:Int}
theorem QD(h:XX p=true):HE p=true/\(QI p).1=0/\(UY p).1=0/\(X7 p).1=0/\(PM p).1=0:=by
 unfold XX ET at h;simp only[q4o]at h;by_cases h1:HE p=false
 ·rw[if_pos h1]at h;cases h
 rw[if_neg h1]at h;by_cases h2:(QI p).1=0
 ·rw[if_neg (by omega)]at h;by_cases h3:(UY p).1=0
  ·rw[if_neg (by omega)]at h;by_cases h4:(X7 p).1=0
   ·rw[if_neg (by omega)]at h;exact⟨by simpa using h1,h2,h3,h4,h⟩
   ·rw[if_pos h4]at h;exact absurd h h4
  ·rw[if_pos h3]at h;exact absurd h h3
 ·rw[if_pos h2]at h;exact absurd h h2
theorem W4{f:Pr}:∀(l:List Item)(seen:List Str){s:List Str},DU f l seen=.ok s->∀it∈l,YI f it=true
 |[],_,_,_,it,h=>by cases h
 | a::r,seen,s,h,it,hi=>by
   rw[DU]at h;cases hj:YK seen a.s.labels with
   |none=>rw[hj]at h;cases h
   | some s1=>
     rw[hj]at h;simp only at h;cases hl:YI f a with
     |false=>rw[hl]at h;cases h
     | true=>
       rw[hl,q4v]at h;rcases q3t.1 hi with rfl|hi
       ·exact hl
       ·exact W4 r s1 h it hi
theorem Vn(hs:(QI p).1=0)(h:(X7 p).1=0)(hj:p.procs[j]?=some f):∀it∈itsOf p j f,YI f it=true:=by
 unfold X7 at h;rw[if_neg (by omega)]at h;have hn:(List.range p.procs.length).findSome? (YE p)=none:=by
  cases hq:(List.range p.procs.length).findSome? (YE p)with
  |none=>rfl
  |some a=>rw[hq]at h;cases h
 rw[List.findSome?_eq_none_iff]at hn;have hlt:j<p.procs.length:=(q3c.1 hj).1;have:=hn j (q6r.2 hlt);unfold YE at this;rw[hj]at this;simp only at this;cases hr:DU f (itL (j:Nat) 0 (-1) 0 (QL p.procs j) f.body) []with
 |error id=>rw[hr]at this;cases this
 |ok seen=>exact W4 _ _ hr
mutual
theorem SC:∀(t u v:S),u∈flS t->v∈u.thn\/v∈u.els->v∈flS t
 | .mk id kind labels name proc x has args thn els,u,v,h,hv=>by
   rw[flS]at h⊢;rcases q3t.1 h with rfl|h
   ·refine q3n _ (q3a.2 ?_);rcases hv with hv|hv
    ·exact .inl (NQ thn v hv)
    ·exact .inr (NQ els v hv)
   ·rcases q3a.1 h with h|h
    ·exact q3n _ (q3a.2 (.inl (Xy thn u v h hv)))
    ·exact q3n _ (q3a.2 (.inr (Xy els u v h hv)))
theorem Xy:∀(l:List S)(u v:S),u∈flL l->v∈u.thn\/v∈u.els->v∈flL l
 |[],u,v,h,hv=>by rw[flL]at h;cases h
 | t::r,u,v,h,hv=>by
   rw[flL]at h⊢;rcases q3a.1 h with h|h
   ·exact q3a.2 (.inl (SC t u v h hv))
   ·exact q3a.2 (.inr (Xy r u v h hv))
end
theorem KQ(h:it∈itsOf p j f):it.s∈flL f.body:=by
 unfold itsOf at h;rw[<-NY (j:Nat) 0 (-1) 0 (QL p.procs j) f.body];exact q3s.2 ⟨it,h,rfl⟩
theorem VK(hm:HE p=true)(hj:p.procs[j]?=some f){t:S}(h:t∈flL f.body):(QL p.procs j:Int)+1<=t.id/\t.id<=(QL p.procs j+cntL f.body:Nat):=by
 have h1:=Tk hm hj;have h2:t.id∈Xg (QL p.procs j) (cntL f.body):=by
  rw[<-h1];exact q3s.2 ⟨t,h,rfl⟩
 have:=C3 h2;omega
theorem LD(h:it∈itsOf p j f):okI (QL p.procs j) (QL p.procs j+cntL f.body) it.next/\(it.loop=0\/((QL p.procs j:Int)+1<=it.loop/\it.loop<=(QL p.procs j+cntL f.body:Nat))):=
 Jh (j:Nat) _ _ f.body 0 (-1) 0 _ it h (.inl rfl) (.inl rfl) (q4h _) (q4h _)
theorem NA(hj:p.procs[j]?=some f)(h1:QL p.procs j<=k)(h2:k<QL p.procs j+cntL f.body):∃it,(sheetOf p).l[k]?=some it/\it∈itsOf p j f:=by
 obtain⟨_,_,_,hlen,hsp⟩:=QU p;obtain⟨_,_,hle,hd⟩:=hsp j f hj;have hk:k<(sheetOf p).l.length:=by omega
 refine⟨(sheetOf p).l[k],q3b hk,?_⟩;unfold itsOf;rw[<-hd];refine q6h.2 ⟨k-QL p.procs j,?_⟩;rw[q5t,q4e,if_pos (by omega),show QL p.procs j+(k-QL p.procs j)=k by omega,q3b hk]
theorem E9(hm:HE p=true)(hj:p.procs[j]?=some f)(h:it∈itsOf p j f)(hl:YI f it=true):∀x∈UJ (sheetOf p) f it,okI (QL p.procs j) (QL p.procs j+cntL f.body) x:=by
 obtain⟨hnx,hlo⟩:=LD h;have hs:=KQ h;have hid:=VK hm hj hs;have hhead:∀(l:List S)(o:Int),(∀v∈l,v∈it.s.thn\/v∈it.s.els)->okI (QL p.procs j) (QL p.procs j+cntL f.body) o->okI (QL p.procs j) (QL p.procs j+cntL f.body) (NV l o):=fun l o hv ho=>by
  cases l with
  |nil=>exact ho
  |cons v r=>exact .inr (VK hm hj (Xy f.body it.s v hs (hv v q3d)))
 have hloop:it.s.kind=7\/it.s.kind=8->(QL p.procs j:Int)+1<=it.loop/\it.loop<=(QL p.procs j+cntL f.body:Nat):=fun hk=>by
  unfold YI at hl;rw[if_pos hk]at hl;rcases hlo with h0|h0
  ·rw[h0]at hl;cases hl
  ·exact h0
 intro x hx;unfold UJ at hx;split at hx
 ·simp only[q3t,not_mem_nil,or_false]at hx;rcases hx with rfl|rfl
  ·exact hhead _ _ (fun v hv=>.inl hv) hnx
  ·exact hhead _ _ (fun v hv=>.inr hv) hnx
 split at hx
 ·simp only[q3t,not_mem_nil,or_false]at hx;rcases hx with rfl|rfl
  ·exact hhead _ _ (fun v hv=>.inl hv) (.inr hid)
  ·exact hnx
 split at hx
 ·rename_i hk;have hlp:=hloop (.inl hk);obtain⟨u,hu1,hu2⟩:=NA hj (k:=(it.loop-1).toNat) (by omega) (by omega);rw[hu1]at hx;rw[q3r.1 hx];exact(LD hu2).1
 split at hx
 ·rename_i hk;rw[q3r.1 hx];exact .inr (hloop (.inr hk))
 split at hx
 ·rw[q3r.1 hx];exact .inl rfl
 split at hx
 ·rename_i h7 h8 _ hk;rw[q3r.1 hx];unfold YI at hl;rw[if_neg (by omega),if_pos hk]at hl;unfold atB at hl⊢;split
  ·rename_i t ht;exact .inr (VK hm hj (q7j ht))
  ·rename_i hn;rw[hn]at hl;simp only at hl;cases hfin:f.fin.any fun s=>it.s.name==s with
   |true=>exact .inl rfl
   |false=>rw[hfin]at hl;cases hl
 ·rw[q3r.1 hx];exact hnx
theorem BU(h:XX p=true)(hj:p.procs[j]?=some f):(∀it∈itsOf p j f,it.s.kind=7->1<=it.loop/\it.loop<=(sheetOf p).l.length)/\
  (∀s∈QK p j f,(s.src=0\/((QL p.procs j:Int)+1<=s.src/\s.src<=(QL p.procs j+cntL f.body:Nat)))/\okI (QL p.procs j) (QL p.procs j+cntL f.body) s.dst)/\∀s∈QK p j f,okSt s:=by
 obtain⟨hm,hs,_,hjm,_⟩:=QD h;have hld:=Vn hs hjm hj;obtain⟨_,_,_,hlen,hsp⟩:=QU p;obtain⟨_,_,hle,_⟩:=hsp j f hj;obtain⟨_,_,hcn⟩:=WT hm;have key:∀s∈QK p j f,(s.src=0\/((QL p.procs j:Int)+1<=s.src/\s.src<=(QL p.procs j+cntL f.body:Nat)))/\okI (QL p.procs j) (QL p.procs j+cntL f.body) s.dst:=fun s hx=>by
  unfold QK at hx;rcases q3t.1 hx with rfl|hx
  ·refine⟨.inl rfl,?_⟩;show okI _ _ (if QL p.procs j<QL p.procs j+cntL f.body then((QL p.procs j:Nat)+1:Int)else -1);split
   ·exact .inr ⟨by omega,by omega⟩
   ·exact .inl rfl
  ·obtain⟨it,hit,hz⟩:=q5g.1 hx;obtain⟨y,hy,rfl⟩:=q3s.1 hz;exact⟨.inr (VK hm hj (KQ hit)),E9 hm hj hit (hld it hit) y hy⟩
 refine⟨fun it hit hk=>?_,key,fun s hx=>?_⟩
 ·have hl:=hld it hit;unfold YI at hl;rw[if_pos (.inl hk)]at hl;rcases(LD hit).2 with h0|h0
  ·rw[h0]at hl;cases hl
  ·omega
 ·obtain⟨h1,h2⟩:=key s hx;unfold okSt okI at*
  omega
theorem XS(h:XX p=true):p.globals.length<=16/\p.procs.length<=16/\cntP p.procs<=200:=WT (QD h).1
theorem Jj{n:Str}(h:n∈QB p):∃(k:Nat) (hk:k<p.procs.length),idxF (fun f=>f.name==n) p.procs=k/\p.procs.findIdx (fun f=>f.name==n)=k/\p.procs.find? (fun f=>f.name==n)=some p.procs[k]/\p.procs[k].name=n:=by
 obtain⟨k,hk,h1,h2,h3⟩:=Ja h;refine⟨k,hk,h1,?_,h2,h3⟩;unfold idxF at h1;cases ha:p.procs.any (fun f=>f.name==n)with
 |true=>rw[ha,q4v]at h1;omega
 |false=>rw[ha,q4f]at h1;omega
def OV(p:Pg)(k:Nat)(f:Pr):Int:=if QL p.procs k<QL p.procs k+cntL f.body then((QL p.procs k:Nat)+1:Int)else -1
def ZY(p:Pg)(j:Nat)(n i:Int):Int:=if i=0 then 0 else if i=n-1 then -1 else loI p j+i-1
theorem MK(w:Way)(f:Pr)(hj:w.p.procs[w.j]?=some f)(hc:cntP w.p.procs<=1000)(hn:0<=w.n/\w.n<=5000)(i:Int)(hi:0<=i/\i<=5000):SpecP prog 64 [.ip w.cells,.int .i64 i] (fun r=>r=.int .i64 (ZY w.p w.j w.n i)):=by
 refine sB Z4 func64 rfl call64 ?_;conv=>whnf
 obtain⟨_,_,_,hlen,hsp⟩:=QU w.p;obtain⟨hlo,hhi,hle,_⟩:=hsp w.j f hj;repeat' (first|((first|refine dA ?_|refine wI ?_|(refine IdxK.at rfl (VG hlo) rfl ?_));conv=>whnf)|(apply bD<;>intro _<;>first|omega|conv=>whnf))
 all_goals exact RetK.int (by unfold ZY loI;(repeat' split)<;>omega)
theorem Lv(l:List Int):∀b:List Bool,(GA l b).length=b.length:=by
 induction l with
 |nil=>intro b;rfl
 | cons a r ih=>
   intro b;show(GA r (b.set a.toNat true)).length=b.length;rw[ih,q5s]
def Si(p:Pg)(id:Int):Option S:=((sheetOf p).l[(id-1).toNat]?).map Item.s
def Hp(p:Pg)(some':List Str)(t:Step):Bool:=decide (t.src=0)||match Si p t.src with
 |some s=> !(decide (s.kind=4) && !(some'.any fun x=>s.proc==x))
 |none=>true
def RY(w:Way)(f:Pr)(some':List Str):Bool:=
 (GT 0 (ZF (QC (cntL f.body+2) ((w.real.filter (Hp w.p some')).map (ixP w.p w.j f w.n))).1 [0])).any fun s=>decide (w.n-1=s)
def J7(p:Pg)(st:List Str×Bool)(k:Nat):List Str×Bool:=match p.procs[k]?with
 |some f=>bif !(st.1.any fun s=>f.name==s)&&RY (QQ p k f) f st.1 then(st.1++[f.name],true)else st
 |none=>st
def Ui(p:Pg)(out:List Str):List Str×Bool:=(List.range p.procs.length).foldl (J7 p) (out,false)
def Dl(p:Pg):Nat->List Str->List Str
 |0,out=>out
 |k+1,out=>bif (Ui p out).2 then Dl p k (Ui p out).1 else(Ui p out).1
def W7(p:Pg)(out:List Str):Nat:=p.procs.countP fun f=> !(out.any fun s=>f.name==s)
theorem Zh{α:Type}{p q:α->Bool}:∀{l:List α},(∀x∈l,q x=true->p x=true)->(∃x∈l,p x=true/\q x=false)->l.countP q<l.countP p
 |[],_,h=>by obtain⟨x,hx,_⟩:=h;cases hx
 | a::r,h1,h2=>by
   have hle:r.countP q<=r.countP p:=List.countP_mono_left fun x hx=>h1 x (q3n _ hx);rw[List.countP_cons,List.countP_cons];have ha:=h1 a q3d;obtain⟨x,hx,h3,h4⟩:=h2;rcases q3t.1 hx with rfl|hx
   ·rw[h3,h4];simp;omega
   ·have:=Zh (fun y hy=>h1 y (q3n _ hy)) ⟨x,hx,h3,h4⟩;cases hq:q a with
    |true=>rw[ha hq];simp;omega
    |false=>cases p a<;>simp<;>omega
theorem Tz{out:List Str}(hf:f∈p.procs)(h:(out.any fun s=>f.name==s)=false):W7 p (out++[f.name])<W7 p out:=by
 unfold W7;refine Zh (fun g _ hg=>?_) ⟨f,hf,by rw[h];rfl,by rw[List.any_append];simp⟩;rw[List.any_append]at hg;cases hq:out.any fun s=>g.name==s with
 |false=>rfl
 |true=>rw[hq]at hg;cases hg
def endsR(p:Pg):List Str:=bif XX p then UO (Dl p (p.procs.length+1) [])else []
def LB(a b:Step):Prop:=ZV a.src<ZV b.src\/(ZV a.src=ZV b.src/\ZV a.dst<ZV b.dst)
def Sa(s:Step):Prop:=okSt s/\s.kind=1
theorem JR{a b:Step}(h1:a.src=b.src)(h2:a.dst=b.dst)(h3:a.kind=b.kind):a=b:=by
 cases a;cases b;simp_all
theorem KF{a b:Step}:GE a b=true↔ZV a.src<ZV b.src\/(ZV a.src=ZV b.src/\(ZV a.dst<ZV b.dst\/(ZV a.dst=ZV b.dst/\a.kind<b.kind))):=by
 have h:GE a b=decide (Bh a b<0):=rfl;rw[h,q4o];unfold Bh;simp only[orI];split
 ·rename_i h1;rw[YY]at h1;split
  ·rename_i h2;rw[YY]at h2;split
   ·rename_i h3;rw[YY]at h3;omega
   ·rw[FR];omega
  ·rename_i h2;rw[YY]at h2;rw[FR];omega
 ·rename_i h1;rw[YY]at h1;rw[FR];omega
theorem MX(l:List Step):(UC l).Pairwise fun a b=>GE b a=false:=by
 have:=List.pairwise_mergeSort (le:=fun x y=> !GE y x) (fun a b c h1 h2=>by
  simp only[q6y]at h1 h2⊢;rw[q8f,ne_eq,KF]at h1 h2⊢;omega) (fun a b=>by
  cases h1:GE b a with
  |false=>rfl
  | true=>
    have h2:GE a b=false:=by
     rw[q8f,ne_eq,KF];rw[KF]at h1;omega
    rw[h2];rfl) l
 refine List.Pairwise.imp ?_ this;intro a b h;simpa using h
theorem Ql{a b:Step}(ha:Sa a)(hb:Sa b):ZJ a b=true↔a=b:=by
 unfold ZJ;simp only[q4k,q4o];refine⟨fun h=>JR h.1 h.2 (by rw[ha.2,hb.2]),fun h=>by rw[h];exact⟨rfl,rfl⟩⟩
theorem Eh{a b:Step}(ha:Sa a)(hb:Sa b)(h:GE b a=false)(hne:a≠b):LB a b:=by
 rw[q8f,ne_eq,KF]at h;unfold LB;by_cases h1:ZV a.src=ZV b.src
 ·by_cases h2:ZV a.dst=ZV b.dst
  ·exact absurd (JR (KU ha.1.1 hb.1.1 h1) (KU ha.1.2 hb.1.2 h2) (by rw[ha.2,hb.2])) hne
  ·omega
 ·omega
theorem LP{a b c:Step}(h:LB a b)(h':LB b c):LB a c:=by unfold LB at*;omega
theorem GV{a:Step}(h:LB a a):False:=by unfold LB at h;omega
theorem PA:∀(l:List Step)(a:Step),Sa a->(∀s∈l,Sa s)->(a::l).Pairwise (fun a b=>GE b a=false)->(a::XZ a l).Pairwise LB/\∀s,s∈a::XZ a l↔s∈a::l
 |[],a,_,_,_=>⟨by simp[XZ],by simp[XZ]⟩
 | b::r,a,ha,hl,h=>by
   have hb:=hl b q3d;have hr:∀s∈r,Sa s:=fun s hs=>hl s (q3n _ hs);rw[q6n]at h;obtain⟨h1,h2⟩:=h;obtain⟨i1,i2⟩:=PA r b hb hr h2;rw[XZ];cases hs:ZJ b a with
   | true=>
     obtain rfl:=(Ql hb ha).1 hs;rw[q4v];exact⟨i1,fun s=>by rw[i2];simp⟩
   | false=>
     rw[q4f];have hne:a≠b:=fun e=>by
      rw[(Ql hb ha).2 e.symm]at hs;cases hs
     have hlt:=Eh ha hb (h1 b q3d) hne;refine⟨?_,fun s=>by rw[q3t,i2,<-q3t (a:=s) (b:=a)]⟩;rw[q6n];refine⟨fun s hsm=>?_,i1⟩;rcases q3t.1 hsm with rfl|hsm
     ·exact hlt
     ·exact LP hlt ((q6n.1 i1).1 s hsm)
theorem L5{l:List Step}(hok:∀s∈l,Sa s):(WX l).Pairwise LB/\∀s,s∈WX l↔s∈l:=by
 have hp:∀s,s∈UC l↔s∈l:=fun s=>(V0 l).mem_iff;have hs:=MX l;unfold WX;cases hq:UC l with
 | nil=>
   rw[hq]at hp;exact⟨by simp[BY],fun s=>by rw[<-hp];simp[BY]⟩
 | cons a r=>
   rw[hq]at hp hs;have hok':∀s∈a::r,Sa s:=fun s h=>hok s ((hp s).1 h);obtain⟨h1,h2⟩:=PA r a (hok' a q3d) (fun s h=>hok' s (q3n _ h)) hs;exact⟨h1,fun s=>by rw[BY,h2,hp]⟩
theorem Y7:∀{l m:List Step},l.Pairwise LB->m.Pairwise LB->(∀s,s∈l↔s∈m)->l=m
 |[],[],_,_,_=>rfl
 |[],b::m,_,_,h=>by have:=(h b).2 q3d;cases this
 |a::l,[],_,_,h=>by have:=(h a).1 q3d;cases this
 | a::l,b::m,hl,hm,h=>by
   rw[q6n]at hl hm;have hab:a=b:=by
    rcases q3t.1 ((h a).1 q3d)with e|ha
    ·exact e
    ·rcases q3t.1 ((h b).2 q3d)with e|hb
     ·exact e.symm
     ·exact(GV (LP (hl.1 b hb) (hm.1 a ha))).elim
   subst hab;congr 1;refine Y7 hl.2 hm.2 fun s=>⟨fun hs=>?_,fun hs=>?_⟩
   ·rcases q3t.1 ((h s).1 (q3n _ hs))with rfl|h'
    ·exact(GV (hl.1 _ hs)).elim
    ·exact h'
   ·rcases q3t.1 ((h s).2 (q3n _ hs))with rfl|h'
    ·exact(GV (hm.1 _ hs)).elim
    ·exact h'
theorem Fj(h:XX p=true)(hj:p.procs[j]?=some f):∀s∈QK p j f,Sa s:=by
 obtain⟨_,_,h3⟩:=BU h hj;intro s hs;refine⟨h3 s hs,?_⟩;unfold QK at hs;rcases q3t.1 hs with rfl|hs
 ·rfl
 ·obtain⟨it,_,hz⟩:=q5g.1 hs;obtain⟨y,_,rfl⟩:=q3s.1 hz;rfl
theorem KJ(h:XX p=true)(hj:p.procs[j]?=some f):(QQ p j f).real.Pairwise LB/\∀s,s∈(QQ p j f).real↔s∈QK p j f:=L5 (Fj h hj)
theorem CX(h:XX p=true)(hj:p.procs[j]?=some f){s:Step}(hs:s∈QK p j f):s=⟨0,OV p j f,1⟩\/(1<=s.src/\s.src<=9223372036854775806):=by
 obtain⟨_,_,hcn⟩:=XS h;obtain⟨_,_,_,hlen,hsp⟩:=QU p;obtain⟨_,_,hle,_⟩:=hsp j f hj;unfold QK at hs;rcases q3t.1 hs with rfl|hs
 ·exact .inl rfl
 ·obtain⟨it,hit,hz⟩:=q5g.1 hs;obtain⟨y,_,rfl⟩:=q3s.1 hz;have:=VK (QD h).1 hj (KQ hit);refine .inr ?_;simp only;omega
def Ag(p:Pg):Bool:=decide (gPg p<=20000)
theorem Ir(h:Ag p=true):Fit p:=by
 have:=q1f p;have h1:gPg p<=20000:=by simpa[Ag]using h
 unfold Fit;omega
theorem WV(p:Pg):SpecP prog 11 [.agg p.cells] (fun r=>r=.bool (Ag p)):=by
 refine sB BQ func11 rfl call11 ?_;conv=>whnf
 have hl:(p.procs.map fun f=>AV.agg f.cells).length=p.procs.length:=q3f _;have q0:=XR (a:=0+DD p.globals) (by omega);repeat' (refine CallK.pure (XB p.globals 0 (by omega)) (.cons (Sub.refl _) (.cons (Sub.refl _) .nil)) ?_;rintro _ rfl;conv=>whnf)
 refine LoopK.inv QY (fun y:Nat×Int=>⟨[(1,.p (.ip p.cells)),(3,.p (.int .i64 y.2)),(4,.p (.int .i64 y.1))],[]⟩) (fun y=>y.1<=p.procs.length/\(0<=y.2/\y.2<=20001)/\XJ (y.2+Ds (p.procs.drop y.1))=XJ (gPg p:Nat)) (fun y=>p.procs.length-y.1) (0,XJ (0+DD p.globals)) (Le.of_eq rfl) ⟨q3o _,q0,by
  show XJ (XJ (0+DD p.globals)+Ds p.procs)=_;rw[ZQ (by omega)];congr 1;unfold gPg;omega⟩ ?_
 rintro⟨j,m⟩ ⟨h2,h3,h4⟩;simp only at h2 h3 h4⊢;have last:∀{x:Int},0<=x/\x<=20001->XJ x=XJ (gPg p:Nat)->(decide (x<=20000))=Ag p:=fun {x} hx h=>by
  unfold Ag;unfold XJ at h;by_cases h1:gPg p<=20000
  ·rw[q6t h1,q4o];split at h<;>split at h<;>omega
  ·rw[q6f h1,q6z];split at h<;>split at h<;>omega
 rcases q4w j p.procs.length with hj|hj;rotate_left 1
 ·rw[q4j hj,Ds]at h4;conv=>whnf
  repeat' (first|(refine iM fun _=>?_;conv=>whnf)|(apply bD<;>intro _<;>first|omega|conv=>whnf))
  all_goals exact RetK.bool (last h3 (by rw[<-h4];simp))
 rw[q4a hj,Ds]at h4;have hpe:gPr p.procs[j]=1+p.procs[j].name.length+DD p.procs[j].vars+DD p.procs[j].fin+Sc p.procs[j].params+gL p.procs[j].body:=rfl;have q1:=XR (a:=m+(1+p.procs[j].name.length:Nat)) (by omega);have q2:=XR (a:=XJ (m+(1+p.procs[j].name.length:Nat))+DD p.procs[j].vars) (by omega);have q3:=XR (a:=XJ (XJ (m+(1+p.procs[j].name.length:Nat))+DD p.procs[j].vars)+DD p.procs[j].fin) (by omega);conv=>whnf
 repeat' (first|((first|(refine iM fun _=>?_)|refine dA ?_|refine q3l rfl ?_|(refine iA fun _=>?_)|refine cP (QT p.procs[j].name _ h3) ?_|refine cP (XB p.procs[j].vars _ q1) ?_|refine cP (XB p.procs[j].fin _ q2) ?_);conv=>whnf)|(apply bD<;>intro _<;>first|omega|conv=>whnf))
 rotate_left 1
 ·exact RetK.bool (last h3 (by rw[<-h4,<-UG (by omega) h3.2 (by omega),K5 h3.2]))
 have h5:XJ (XJ (XJ (XJ (m+(1+p.procs[j].name.length:Nat))+DD p.procs[j].vars)+DD p.procs[j].fin)+(Sc p.procs[j].params+(gL p.procs[j].body+Ds (p.procs.drop (j+1))):Nat))=XJ (gPg p:Nat):=by
  rw[ZQ (by omega),q8z,ZQ (by omega),q8z,ZQ (by omega),<-h4,hpe];congr 1;omega
 generalize XJ (XJ (XJ (m+(1+p.procs[j].name.length:Nat))+DD p.procs[j].vars)+DD p.procs[j].fin)=m0 at q3 h5⊢;have hal:(p.procs[j].params.map fun a=>AV.agg a.cells).length=p.procs[j].params.length:=q3f _;refine LoopK.inv QY (fun y:Nat×Int=>⟨[(1,.p (.ip p.cells)),(3,.p (.int .i64 y.2)),(4,.p (.int .i64 j)),(5,.p (.ip p.procs[j].cells)),(6,.p (.int .i64 y.1))],[]⟩) (fun y=>y.1<=p.procs[j].params.length/\(0<=y.2/\y.2<=20001)/\XJ (y.2+(Sc (p.procs[j].params.drop y.1)+(gL p.procs[j].body+Ds (p.procs.drop (j+1))):Nat))=XJ (gPg p:Nat)) (fun y=>p.procs[j].params.length-y.1) (0,m0) (Le.of_eq rfl) ⟨q3o _,q3,h5⟩ ?_;rintro⟨a,m2⟩ ⟨h6,h7,h8⟩;simp only at h6 h7 h8⊢;have fin:XJ (m2+(gL p.procs[j].body+Ds (p.procs.drop (j+1)):Nat))=XJ (gPg p:Nat)->(0<=XJ (m2+gL p.procs[j].body)/\XJ (m2+gL p.procs[j].body)<=20001)/\XJ (XJ (m2+gL p.procs[j].body)+Ds (p.procs.drop (j+1)))=XJ (gPg p:Nat):=fun h=>by
  refine⟨XR (by omega),?_⟩;rw[ZQ (by omega),<-h];congr 1;omega
 have full:m2>20000->XJ (m2+(gL p.procs[j].body+Ds (p.procs.drop (j+1)):Nat))=XJ (gPg p:Nat):=fun h=>by
  rw[<-h8,<-UG h h7.2 (by omega),<-UG h h7.2 (by omega)]
 rcases q4w a p.procs[j].params.length with ha|ha;rotate_left 1
 ·have h9:XJ (m2+(gL p.procs[j].body+Ds (p.procs.drop (j+1)):Nat))=XJ (gPg p:Nat):=by
   rw[q4j ha,Sc,q5n]at h8;exact h8
  obtain⟨f1,f2⟩:=fin h9;conv=>whnf
  repeat' (first|((first|(refine iM fun _=>?_)|refine wI ?_|(refine CallK.pure (VL (gL p.procs[j].body+1) p.procs[j].body (by omega) m2 h7) (.cons (Sub.refl _) (.cons (Sub.refl _) .nil)) ?_;rintro _ rfl));conv=>whnf)|(apply bD<;>intro _<;>first|omega|conv=>whnf))
  all_goals exact⟨(j+1,XJ (m2+gL p.procs[j].body)),⟨by simp only;omega,f1,f2⟩,by simp only;omega,Le.of_eq rfl⟩
 rw[q4a ha,Sc]at h8;conv=>whnf
 repeat' (first|((first|(refine iM fun _=>?_)|(refine iA fun _=>?_)|refine wI ?_|refine cP (QT p.procs[j].params[a].name _ h7) ?_|(refine CallK.pure (VL (gL p.procs[j].body+1) p.procs[j].body (by omega) m2 h7) (.cons (Sub.refl _) (.cons (Sub.refl _) .nil)) ?_;rintro _ rfl));conv=>whnf)|(apply bD<;>intro _<;>first|omega|conv=>whnf))
 ·have h10:XJ (XJ (m2+(1+p.procs[j].params[a].name.length:Nat))+(Sc (p.procs[j].params.drop (a+1))+(gL p.procs[j].body+Ds (p.procs.drop (j+1))):Nat))=XJ (gPg p:Nat):=by
   rw[ZQ (by omega),<-h8];congr 1;omega
  exact⟨(a+1,XJ (m2+(1+p.procs[j].params[a].name.length:Nat))),⟨by simp only;omega,XR (by omega),h10⟩,by simp only;omega,Le.of_eq rfl⟩
 ·obtain⟨f1,f2⟩:=fin (full (by omega));exact⟨(j+1,XJ (m2+gL p.procs[j].body)),⟨by simp only;omega,f1,f2⟩,by simp only;omega,Le.of_eq rfl⟩
inductive SubE:List AV->List AV->Prop
 |nil:SubE [] []
 |cons {a b:AV} {xs ys:List AV} (h:SubL a.cells b.cells) (hs:SubE xs ys):SubE (a::xs) (b::ys)
theorem SubE.get{xs ys:List AV}(h:SubE xs ys):xs.length=ys.length/\∀(i:Nat)(b:AV),ys[i]?=some b->∃a,xs[i]?=some a/\SubL a.cells b.cells:=by
 induction h with
 |nil=>exact⟨rfl,by simp⟩
 | cons h hs ih=>
   refine⟨by simp[ih.1],fun i b hb=>?_⟩;cases i with
   |zero=>simp at hb;subst hb;exact⟨_,rfl,h⟩
   |succ i=>exact ih.2 i b (by simpa using hb)
theorem Sub.sl{xs ys:List AV}(h:SubE xs ys):Sub (.sl xs) (.sl ys):=fun σ v hr=>by
 obtain⟨hl,hg⟩:=h.get;cases hr with
 | nilsl=>
   obtain rfl:ys=[]:=by simpa using hl.symm
   exact .nilsl
 | slz b=>
   obtain rfl:ys=[]:=by simpa using hl.symm
   exact .slz b
 | sl _ b off cap sz cells u hb hcap hmax hsz hc hrr=>
   rw[hl];refine .sl ys b off cap sz cells u hb (by omega) hmax (fun i e hi=>?_) (fun i e j c hi hj=>?_) (fun i e j c hi hj=>?_)
   ·obtain⟨a,h1,h2⟩:=hg i e hi;rw[<-hsz i a h1,h2.1]
   ·obtain⟨a,h1,h2⟩:=hg i e hi;obtain⟨d,h3,_⟩:=h2.get hj;exact hc i a j d h1 h3
   ·obtain⟨a,h1,h2⟩:=hg i e hi;obtain⟨d,h3,h4⟩:=h2.get hj;exact h4 _ _ (hrr i a j d h1 h3)
theorem GI(n:Int):SpecP prog 77 [.int .i64 n] (fun r=>r=.agg (X.mk 1 n [] []).cells):=by
 refine sB PB func77 rfl call77 ?_;conv=>whnf
 repeat' (refine q3l rfl ?_;conv=>whnf)
 exact⟨_,.p (Sub.agg (by repeat' (first|exact SubL.nil|refine SubL.cons ?_ ?_|exact Sub.refl _|exact Sub.nils|exact Sub.ff rfl))),rfl⟩
theorem KD(s:Str):SpecP prog 78 [.str s] (fun r=>r=.agg (X.mk 2 0 s []).cells):=by
 refine sB BX func78 rfl call78 ?_;conv=>whnf
 repeat' (refine q3l rfl ?_;conv=>whnf)
 exact⟨_,.p (Sub.agg (by repeat' (first|exact SubL.nil|refine SubL.cons ?_ ?_|exact Sub.refl _|exact Sub.nils|exact Sub.ff rfl))),rfl⟩
theorem WS(op:Int)(a b:X):SpecP prog 79 [.int .i64 op,.agg a.cells,.agg b.cells] (fun r=>r=.agg (X.mk op 0 [] [a,b]).cells):=by
 refine sB PN func79 rfl call79 ?_;conv=>whnf
 repeat' ((first|refine q3l rfl ?_|refine aD ?_|refine JB rfl rfl ?_);conv=>whnf)
 have e:X.avs [a,b]=[.agg a.cells,.agg b.cells]:=by simp only[X.avs,X.av_eq]
 exact⟨_,.p (Sub.agg (SubL.cons (Sub.refl _) (SubL.cons (Sub.refl _) (SubL.cons (Sub.refl _) (SubL.cons (Sub.of_eq (by show _=AV.sl (X.avs [a,b]);rw[e];rfl)) SubL.nil))))),rfl⟩
def bs(l:List Nat):Str:=l.map fun n=>UInt8.ofNat n
def someP:Pg:=⟨[[103]],[
 ⟨[109,97,105,110],[],[[118]],[
   .mk 1 1 [] [118] [] (.mk 1 2 [] []) false [] [] [],
   .mk 2 4 [] [103] [112] (.mk 0 0 [] []) false [⟨false,[],.mk 1 3 [] []⟩,⟨true,[118],.mk 0 0 [] []⟩] [] [],
   .mk 3 3 [] [] [] (.mk 2 0 [118] []) false [] [] [],
   .mk 4 3 [] [] [] (.mk 2 0 [103] []) false [] [] []],[]⟩,
 ⟨[112],[⟨[120],false⟩,⟨[121],true⟩],[],[
   .mk 5 1 [] [121] [] (.mk 8 0 [] [.mk 2 0 [121] [],.mk 2 0 [120] []]) false [] [] [],
   .mk 6 5 [] [] [] (.mk 12 0 [] [.mk 2 0 [121] [],.mk 1 9 [] []]) false [] [.mk 7 10 [] [101] [] (.mk 0 0 [] []) false [] [] []] [],
   .mk 8 9 [] [] [] (.mk 2 0 [121] []) true [] [] []],[[101]]⟩]⟩
theorem Q7:SpecP prog 42 [] (fun r=>r=.agg someP.cells):=by
 refine sB YU func42 rfl call42 ?_;conv=>whnf
 repeat' ((first|refine cP (GI _) ?_|refine cP (KD _) ?_|refine q3l rfl ?_|refine aD ?_|refine bP ?_|refine JB rfl rfl ?_|refine cP (WS 8 (.mk 2 0 [121] []) (.mk 2 0 [120] [])) ?_|refine cP (WS 12 (.mk 2 0 [121] []) (.mk 1 9 [] [])) ?_);conv=>whnf)
 exact⟨_,.p (Sub.agg (by repeat' (first|exact SubL.nil|exact SubE.nil|exact Sub.nils|exact Sub.ff rfl|exact Sub.tt rfl|refine SubL.cons ?_ ?_|refine SubE.cons ?_ ?_|exact Sub.refl _|refine Sub.agg ?_|refine Sub.sl ?_))),rfl⟩
theorem Kw:Fit someP:=by unfold Fit;decide
theorem Kz:XX someP=true:=by kernel_rfl
def f0:Pr:=someP.procs[0]'(by decide)
def f1:Pr:=someP.procs[1]'(by decide)
theorem IF:WX (QK someP 0 f0)=[⟨0,1,1⟩,⟨1,2,1⟩,⟨2,3,1⟩,⟨3,4,1⟩,⟨4,-1,1⟩]:=by
 have h1:QK someP 0 f0=[⟨0,1,1⟩,⟨1,2,1⟩,⟨2,3,1⟩,⟨3,4,1⟩,⟨4,-1,1⟩]:=by kernel_rfl
 unfold WX UC;rw[h1,List.mergeSort_of_pairwise (by decide)];rfl
theorem ID:WX (QK someP 1 f1)=[⟨0,5,1⟩,⟨5,6,1⟩,⟨6,7,1⟩,⟨6,8,1⟩,⟨7,-1,1⟩,⟨8,-1,1⟩]:=by
 have h1:QK someP 1 f1=[⟨0,5,1⟩,⟨5,6,1⟩,⟨6,7,1⟩,⟨6,8,1⟩,⟨7,-1,1⟩,⟨8,-1,1⟩]:=by kernel_rfl
 unfold WX UC;rw[h1,List.mergeSort_of_pairwise (by decide)];rfl
def inS(l:List Str)(x:Str):Bool:=l.any fun y=>y==x
theorem V7(l:List Str)(x:Str):SpecP prog 27 [eStrs l,.str x] (fun r=>r=.bool (inS l x)):=by
 refine sB MR func27 rfl call27 ?_;conv=>whnf
 repeat' (refine iM fun _=>?_;conv=>whnf)
 have hl:(l.map AV.str).length=l.length:=q3f _;refine LoopK.inv QY (fun j:Nat=>⟨[(0,.p (eStrs l)),(1,.p (.str x)),(7,.p (.int .i64 (l.map AV.str).length)),(8,.p (.int .i64 j))],[]⟩) (fun j=>j<=l.length/\(l.drop j).any (fun y=>y==x)=inS l x) (fun j=>l.length-j) 0 (Le.of_eq rfl) ⟨q3o _,rfl⟩ ?_;rintro j ⟨h2,h3⟩;rcases q4w j l.length with hj|hj
 ·conv=>whnf
  repeat' (first|((first|(refine iA fun _=>?_)|refine wI ?_);conv=>whnf)|(apply bD<;>intro _<;>first|omega|conv=>whnf)|(apply bB<;>intro _<;>conv=>whnf))
  ·exact RetK.tt (by rw[<-h3,Dh hj (by assumption)])
  ·exact⟨j+1,⟨hj,by rw[U1 hj (by assumption)];exact h3⟩,by omega,Le.of_eq rfl⟩
 ·conv=>whnf
  repeat' (apply bD<;>intro _<;>first|omega|conv=>whnf)
  exact RetK.ff (by rw[<-h3,MC hj])
theorem Ho{α β:Type}{f:α->β}:∀{l:List α},(l.map f).Nodup->∀a∈l,∀b∈l,f a=f b->a=b
 |[],_,a,ha,_,_,_=>by cases ha
 | c::r,h,a,ha,b,hb,e=>by
   rw[q4t,q5h]at h;rcases q3t.1 ha with ha1|ha1
   ·rcases q3t.1 hb with hb1|hb1
    ·rw[ha1,hb1]
    ·exact(h.1 (q3s.2 ⟨b,hb1,by rw[<-e,ha1]⟩)).elim
   ·rcases q3t.1 hb with hb1|hb1
    ·exact(h.1 (q3s.2 ⟨a,ha1,by rw[e,hb1]⟩)).elim
    ·exact Ho h.2 a ha1 b hb1 e
theorem Wf{α:Type}[DecidableEq α]:∀{l m:List α},l.Nodup->(∀s∈l,s∈m)->l.length<=m.length
 |[],m,_,_=>q3o _
 | a::r,m,h,hs=>by
   rw[q5h]at h;have ha:=hs a q3d;have h1:=Wf (m:=m.erase a) h.2 fun s hsr=>(List.mem_erase_of_ne (fun e=>h.1 (by rw[<-e];exact hsr))).2 (hs s (q3n _ hsr));rw[List.length_erase_of_mem ha]at h1;have:=q8g ha;simp only[q4m];omega
theorem Mm(n c:Nat):(Xg n c).Nodup:=by
 unfold Xg Nodup;rw[List.pairwise_map];exact List.Pairwise.imp (fun h e=>h (by omega)) (List.nodup_range' (s:=n+1) (n:=c) (step:=1))
theorem T6(hm:HE p=true)(hj:p.procs[j]?=some f):(itsOf p j f).map (fun it=>it.s.id)=Xg (QL p.procs j) (cntL f.body):=by
 rw[<-Tk hm hj,<-NY (j:Nat) 0 (-1) 0 (QL p.procs j) f.body,q8c];rfl
theorem Am(hm:HE p=true)(hj:p.procs[j]?=some f){a b:Item}(ha:a∈itsOf p j f)(hb:b∈itsOf p j f)(h:a.s.id=b.s.id):a=b:=
 Ho (f:=fun it:Item=>it.s.id) (by rw[T6 hm hj];exact Mm _ _) a ha b hb h
theorem IW{t:S}(h:t∈flL f.body):∃it∈itsOf p j f,it.s=t:=by
 rw[<-NY (j:Nat) 0 (-1) 0 (QL p.procs j) f.body]at h;obtain⟨it,h1,h2⟩:=q3s.1 h;exact⟨it,h1,h2⟩
theorem Cg{l:List Step}(h:l.Pairwise LB):l.Nodup:=h.imp fun h e=>by subst e;exact GV h
theorem C2{n c:Nat}{a:Int}(h1:(n:Int)+1<=a)(h2:a<=(n+c:Nat)):a∈Xg n c:=by
 unfold Xg;refine q3s.2 ⟨a.toNat,List.mem_range'.2 ⟨a.toNat-(n+1),by omega,by omega⟩,by omega⟩
inductive Rch{α:Type}(R:α->α->Prop)(a:α):α->Prop
 |refl:Rch R a a
 |tail {b c:α} (h:Rch R a b) (hr:R b c):Rch R a c
theorem Rch.trans{α:Type}{R:α->α->Prop}{a b c:α}(h:Rch R a b)(h':Rch R b c):Rch R a c:=by
 induction h' with
 |refl=>exact h
 |tail _ hr ih=>exact .tail ih hr
theorem Rch.head{α:Type}{R:α->α->Prop}{a b c:α}(hr:R a b)(h:Rch R b c):Rch R a c:=Rch.trans (.tail .refl hr) h
theorem Rch.mono{α:Type}{R R':α->α->Prop}(h:∀x y,R x y->R' x y){a b:α}(hr:Rch R a b):Rch R' a b:=by
 induction hr with
 |refl=>exact .refl
 |tail _ hr ih=>exact .tail ih (h _ _ hr)
theorem Rch.closed{α:Type}{R:α->α->Prop}{S:α->Prop}(hS:∀x y,S x->R x y->S y){a b:α}(ha:S a)(h:Rch R a b):S b:=by
 induction h with
 |refl=>exact ha
 |tail _ hr ih=>exact hS _ _ ih hr
structure WkM(n:Nat)(st:List Bool×List Int):Prop where
 inv:wkInv n st
 mem:∀x,x∈st.2↔(0<=x/\x<n)/\st.1.getD x.toNat false=true
theorem WkM.start(n:Nat):WkM n (List.replicate n false,[]):=⟨PX n,fun x=>by
 simp only[not_mem_nil,false_iff,not_and];intro _;rw[q3p,q4s];split<;>simp⟩
theorem WkM.see{n:Nat}{st:List Bool×List Int}(h:WkM n st){b:Int}(hb:0<=b/\b<n):WkM n (JZ st b)/\(∀x,x∈(JZ st b).2↔x∈st.2\/x=b)/\st.2 <+: (JZ st b).2:=by
 have hi:=NC h.inv hb;cases hs:st.1.getD b.toNat false with
 | true=>
   have e:JZ st b=st:=by unfold JZ;rw[hs];rfl
   rw[e];refine⟨h,fun x=>⟨.inl,fun hx=>?_⟩,List.prefix_refl _⟩;rcases hx with hx|rfl
   ·exact hx
   ·exact(h.mem _).2 ⟨hb,hs⟩
 | false=>
   have e:JZ st b=(st.1.set b.toNat true,st.2++[b]):=by unfold JZ;rw[hs];rfl
   rw[e]at hi⊢;have hlen:=h.inv.1;refine⟨⟨hi,fun x=>?_⟩,fun x=>by simp,List.prefix_append _ _⟩;rw[q3a,q3r,h.mem];simp only[q3p,q6o];by_cases hx:x=b
   ·subst hx;rw[if_pos rfl,if_pos (by omega)];simp[hb]
   ·constructor
    ·rintro(⟨h1,h2⟩|h2)
     ·refine⟨h1,?_⟩;rw[if_neg (by omega)];exact h2
     ·exact absurd h2 hx
    ·rintro⟨h1,h2⟩;rw[if_neg (by omega)]at h2;exact .inl ⟨h1,h2⟩
theorem WkM.fold{n:Nat}:∀(l:List Int){st:List Bool×List Int},WkM n st->(∀b∈l,0<=b/\b<n)->WkM n (l.foldl JZ st)/\(∀x,x∈(l.foldl JZ st).2↔x∈st.2\/x∈l)/\st.2 <+: (l.foldl JZ st).2
 |[],st,h,_=>⟨h,fun x=>by simp,List.prefix_refl _⟩
 | b::r,st,h,hl=>by
   obtain⟨h1,h2,h3⟩:=h.see (hl b q3d);obtain⟨h4,h5,h6⟩:=WkM.fold r h1 fun c hc=>hl c (q3n _ hc);refine⟨h4,fun x=>?_,h3.trans h6⟩;rw[q6v,h5,h2,q3t,or_assoc]
def K2(rows:List (List Int))(x y:Int):Prop:=y∈rows.getD x.toNat []
theorem FY{n:Nat}{rows:List (List Int)}(hr:XH n rows){x:Int}(h:K2 rows x y):0<=y/\y<n:=by
 unfold K2 at h;rw[q3p]at h;cases hq:rows[x.toNat]?with
 |none=>rw[hq]at h;simp at h
 |some r=>rw[hq]at h;exact hr.2 r (q4n hq) y h
theorem Us{α:Type}{l m:List α}(h:l <+: m){i:Nat}{a:α}(ha:l[i]?=some a):m[i]?=some a:=by
 obtain⟨t,rfl⟩:=h;rw[q5v (q3c.1 ha).1];exact ha
theorem V6{n:Nat}{rows:List (List Int)}(hr:XH n rows):∀(k i:Nat){st:List Bool×List Int},WkM n st->i<=st.2.length->n+1<=k+i->(∀(m:Nat)(a:Int),m<i->st.2[m]?=some a->∀b,K2 rows a b->b∈st.2)->
  WkM n (ZX rows k i st)/\(∀x∈st.2,x∈(ZX rows k i st).2)/\(∀x∈(ZX rows k i st).2,∀b,K2 rows x b->b∈(ZX rows k i st).2)/\(∀S:Int->Prop,(∀x∈st.2,S x)->(∀x b,S x->K2 rows x b->S b)->∀x∈(ZX rows k i st).2,S x)
 | 0,i,st,h,hi,hk,_=>by
   have:=FP h.inv;omega
 | k+1,i,st,h,hi,hk,hc=>by
   rw[ZX];split
   ·rename_i a ha;have hlt:=(q3c.1 ha).1;have hrow:∀b∈rows.getD a.toNat [],0<=b/\b<n:=fun b hb=>FY hr hb;obtain⟨h1,h2,h3⟩:=h.fold (rows.getD a.toNat []) hrow;obtain⟨h4,h5,h6,h7⟩:=V6 hr k (i+1) h1 (q5p hlt h3.length_le) (by omega) fun m c hm hmc b hb=>by
     rw[h2];rcases q4w m i with hmi|hmi
     ·have hml:m<st.2.length:=by omega
      have hmc':st.2[m]?=some c:=by
       have:=Us h3 (q3b hml);rw[q3b hml,<-this,hmc]
      exact .inl (hc m c hmi hmc' b hb)
     ·obtain rfl:m=i:=by omega
      have:=Us h3 ha;rw[this]at hmc;cases hmc;exact .inr hb
    refine⟨h4,fun x hx=>h5 x ((h2 x).2 (.inl hx)),h6,fun S hS hcl=>h7 S (fun x hx=>?_) hcl⟩;rcases(h2 x).1 hx with hx|hx
    ·exact hS x hx
    ·exact hcl a x (hS a (q4n ha)) hx
   ·rename_i ha;have hlen:st.2.length<=i:=List.getElem?_eq_none_iff.1 ha;refine⟨h,fun x hx=>hx,fun x hx b hb=>?_,fun S hS _=>hS⟩;obtain⟨m,hm⟩:=q6h.1 hx;exact hc m x (by have:=(q3c.1 hm).1;omega) hm b hb
theorem Q0{n:Nat}:∀(l:List Int){st:List Bool×List Int},WkM n st->WkM n (l.foldl (fun st a=>bif ZB n a then JZ st a else st) st)/\∀x,x∈(l.foldl (fun st a=>bif ZB n a then JZ st a else st) st).2↔x∈st.2\/(x∈l/\ZB n x=true)
 |[],st,h=>⟨h,fun x=>by simp⟩
 | a::r,st,h=>by
   rw[q6v];cases hb:ZB n a with
   | true=>
     obtain⟨h1,h2,_⟩:=h.see (XA hb);obtain⟨h3,h4⟩:=Q0 r h1;rw[q4v];refine⟨h3,fun x=>?_⟩;rw[h4,h2,q3t];constructor
     ·rintro((h5|rfl)|⟨h5,h6⟩)
      ·exact .inl h5
      ·exact .inr ⟨.inl rfl,hb⟩
      ·exact .inr ⟨.inr h5,h6⟩
     ·rintro(h5|⟨rfl|h5,h6⟩)
      ·exact .inl (.inl h5)
      ·exact .inl (.inr rfl)
      ·exact .inr ⟨h5,h6⟩
   | false=>
     obtain⟨h3,h4⟩:=Q0 r h;rw[q4f];refine⟨h3,fun x=>?_⟩;rw[h4,q3t];constructor
     ·rintro(h5|⟨h5,h6⟩)
      ·exact .inl h5
      ·exact .inr ⟨.inr h5,h6⟩
     ·rintro(h5|⟨rfl|h5,h6⟩)
      ·exact .inl h5
      ·rw[hb]at h6;cases h6
      ·exact .inr ⟨h5,h6⟩
theorem Pi:∀(l:List Bool)(i:Nat)(y:Int),y∈GT i l ↔ ∃k:Nat,l[k]?=some true/\y=((i+k:Nat):Int)
 |[],i,y=>by simp[GT]
 | b::r,i,y=>by
   have ih:=Pi r (i+1) y;have key:(∃k:Nat,(b::r)[k]?=some true/\y=((i+k:Nat):Int))↔(b=true/\y=(i:Int))\/∃k:Nat,r[k]?=some true/\y=((i+1+k:Nat):Int):=by
    constructor
    ·rintro⟨k,h1,h2⟩;cases k with
     |zero=>simp at h1;exact .inl ⟨h1,by simpa using h2⟩
     |succ k=>exact .inr ⟨k,by simpa using h1,by rw[h2];omega⟩
    ·rintro(⟨h1,h2⟩|⟨k,h1,h2⟩)
     ·exact⟨0,by simp[h1],by simpa using h2⟩
     ·exact⟨k+1,by simpa using h1,by rw[h2];omega⟩
   rw[key,<-ih,GT];cases b<;>simp
theorem F8{n:Nat}{rows:List (List Int)}(hr:XH n rows)(l:List Int)(y:Int):y∈GT 0 (ZF rows l) ↔ ∃a∈l,ZB n a=true/\Rch (K2 rows) a y:=by
 obtain⟨h1,h2⟩:=Q0 (n:=n) l (WkM.start n);obtain⟨h3,h4,h5,h6⟩:=V6 hr (rows.length+1) 0 (st:=FK rows.length l) (by rw[hr.1];exact h1) (q3o _) (by rw[hr.1];omega) (fun m a hm=>by omega);have hst:∀x,x∈(FK rows.length l).2↔x∈l/\ZB n x=true:=fun x=>by
  rw[hr.1];unfold FK;rw[h2];simp
 have hmem:∀y,y∈GT 0 (ZF rows l)↔y∈(ZX rows (rows.length+1) 0 (FK rows.length l)).2:=fun y=>by
  rw[Pi,h3.mem];show(∃k:Nat,(ZX rows (rows.length+1) 0 (FK rows.length l)).1[k]?=some true/\_)↔_;constructor
  ·rintro⟨k,h7,h8⟩;have hlt:=(q3c.1 h7).1;rw[h3.inv.1]at hlt;refine⟨by omega,?_⟩;rw[h8,q3p];simp[h7]
  ·rintro⟨h7,h8⟩;have hlt:y.toNat<(ZX rows (rows.length+1) 0 (FK rows.length l)).1.length:=by rw[h3.inv.1];omega
   refine⟨y.toNat,?_,by omega⟩;rw[q3p,q3b hlt]at h8;rw[q3b hlt];simpa using h8
 rw[hmem];constructor
 ·intro hy;refine h6 (fun y=>∃a∈l,ZB n a=true/\Rch (K2 rows) a y) (fun x hx=>?_) (fun x b ⟨a,h7,h8,h9⟩ hb=>⟨a,h7,h8,.tail h9 hb⟩) y hy;obtain⟨h7,h8⟩:=(hst x).1 hx;exact⟨x,h7,h8,.refl⟩
 ·rintro⟨a,h7,h8,h9⟩;exact h9.closed (S:=fun y=>y∈(ZX rows (rows.length+1) 0 (FK rows.length l)).2) (fun x b hx hb=>h5 x hx b hb) (h4 a ((hst a).2 ⟨h7,h8⟩))
theorem Pd{l:List Int}{b x:Int}:x∈Qb l k b↔x∈l\/x=b:=by
 unfold Qb;rw[q3a,q3t];have:x∈l↔x∈l.take k\/x∈l.drop k:=by rw[<-q3a,List.take_append_drop]
 rw[this];constructor
 ·rintro(h|h|h)
  ·exact .inl (.inl h)
  ·exact .inr h
  ·exact .inl (.inr h)
 ·rintro((h|h)|h)
  ·exact .inl h
  ·exact .inr (.inr h)
  ·exact .inr (.inl h)
theorem SY{n:Nat}{g:List (List Int)×List (List Int)}(hl:g.1.length=n)(e:Int×Int){x:Int}(hx:0<=x/\x<n):y∈(Ks n g e).1.getD x.toNat []↔y∈g.1.getD x.toNat []\/((x,y)=e/\ZB n y=true):=by
 rw[Z8];cases hc:(ZB n e.1&&ZB n e.2 && !(g.1.getD e.1.toNat []).contains e.2)with
 | true=>
   simp only[q4k,q6y]at hc;obtain⟨⟨h1,h2⟩,_⟩:=hc;have h3:=XA h1;rw[q4v];unfold Uc;rw[q3p,q6o];by_cases he:e.1.toNat=x.toNat
   ·rw[if_pos he,if_pos (by omega)];simp only[q7u];rw[Pd,<-he];have:x=e.1:=by omega
    constructor
    ·rintro(h|h)
     ·exact .inl h
     ·exact .inr ⟨by rw[this,h],by rw[h];exact h2⟩
    ·rintro(h|⟨h,_⟩)
     ·exact .inl h
     ·exact .inr (by rw[<-h])
   ·rw[if_neg he,<-q3p];constructor
    ·exact .inl
    ·rintro(h|⟨h,_⟩)
     ·exact h
     ·exact absurd (by rw[<-h]) he
 | false=>
   rw[q4f];constructor
   ·exact .inl
   ·rintro(h|⟨rfl,h⟩)
    ·exact h
    ·have h1:ZB n x=true:=by unfold ZB;simp[hx]
     simp only[h1,h,Bool.true_and,Bool.not_eq_false']at hc;simpa using hc
theorem Be{n:Nat}{g:List (List Int)×List (List Int)}(hl:g.1.length=n)(e:Int×Int):(Ks n g e).1.length=n:=by
 rw[Z8];cases(ZB n e.1&&ZB n e.2 && !(g.1.getD e.1.toNat []).contains e.2)with
 |true=>rw[q4v];unfold Uc;rw[q5s];exact hl
 |false=>exact hl
theorem Hj{n:Nat}{x y:Int}(hx:0<=x/\x<n):∀(l:List (Int×Int)){g:List (List Int)×List (List Int)},g.1.length=n->(y∈(l.foldl (Ks n) g).1.getD x.toNat []↔y∈g.1.getD x.toNat []\/((x,y)∈l/\ZB n y=true))
 |[],g,_=>by simp
 | e::r,g,h=>by
   rw[q6v,Hj hx r (Be h e),SY h e hx,q3t];constructor
   ·rintro((h1|⟨h1,h2⟩)|⟨h1,h2⟩)
    ·exact .inl h1
    ·exact .inr ⟨.inl h1,h2⟩
    ·exact .inr ⟨.inr h1,h2⟩
   ·rintro(h1|⟨h1|h1,h2⟩)
    ·exact .inl (.inl h1)
    ·exact .inl (.inr ⟨h1,h2⟩)
    ·exact .inr ⟨h1,h2⟩
theorem FA{n:Nat}{l:List (Int×Int)}{x:Int}(hx:0<=x/\x<n):K2 (QC n l).1 x y↔(x,y)∈l/\ZB n y=true:=by
 unfold K2 QC;rw[Hj hx l (by simp)];have:(List.replicate n ([]:List Int)).getD x.toNat []=[]:=by
  rw[q3p,q4s];split<;>rfl
 rw[this];simp
theorem Za{n:Nat}{l:List (Int×Int)}(h0:0<n)(y:Int):y∈GT 0 (ZF (QC n l).1 [0])↔Rch (fun a b=>(a,b)∈l/\ZB n b=true) 0 y:=by
 rw[F8 (JO n l).1];have hs:ZB n 0=true:=by unfold ZB;simp;omega
 constructor
 ·rintro⟨a,ha,_,h⟩;obtain rfl:a=0:=by simpa using ha
  exact(h.closed (S:=fun x:Int=>(0<=x/\x<n)/\Rch (fun a b=>(a,b)∈l/\ZB n b=true) 0 x) (fun x y ⟨h1,h2⟩ h3=>by
   have h4:=(FA h1).1 h3;exact⟨XA h4.2,.tail h2 h4⟩) ⟨⟨by omega,by omega⟩,.refl⟩).2
 ·intro h;refine⟨0,by simp,hs,?_⟩;exact(h.closed (S:=fun x:Int=>(0<=x/\x<n)/\Rch (K2 (QC n l).1) 0 x) (fun x y ⟨h1,h2⟩ h3=>⟨XA h3.2,.tail h2 ((FA h1).2 h3)⟩) ⟨⟨by omega,by omega⟩,.refl⟩).2
def stR(F:List Step)(a b:Int):Prop:=∃s∈F,s.src=a/\s.dst=b
def plP(p:Pg)(j:Nat)(f:Pr)(x:Int):Prop:=x=0\/x = -1\/((QL p.procs j:Int)+1<=x/\x<=(QL p.procs j+cntL f.body:Nat))
def ixI(p:Pg)(j:Nat)(f:Pr)(x:Int):Int:=YJ (loI p j) (hiI p j f) (cntL f.body+2:Nat) x
theorem KX{x:Int}(h:plP p j f x):0<=ixI p j f x/\ixI p j f x<(cntL f.body+2:Nat):=by
 unfold ixI YJ loI hiI;unfold plP at h
 (repeat' split)<;>omega
theorem Hf{x:Int}(hx:plP p j f x)(hy:plP p j f y)(h:ixI p j f x=ixI p j f y):x=y:=by
 unfold ixI YJ loI hiI at h;unfold plP at hx hy
 (repeat' split at h)<;>omega
theorem Y9{F:List Step}(hF:∀s∈F,plP p j f s.src/\plP p j f s.dst)(hy:plP p j f y):
  ixI p j f y∈GT 0 (ZF (QC (cntL f.body+2) (F.map (ixP p j f (cntL f.body+2:Nat)))).1 [0])↔Rch (stR F) 0 y:=by
 rw[Za (by omega)];have e0:ixI p j f 0=0:=by unfold ixI YJ;rw[if_pos rfl]
 have p0:plP p j f 0:=.inl rfl;constructor
 ·intro h;obtain⟨z,h1,h2,h3⟩:=h.closed (S:=fun i=>∃z,plP p j f z/\ixI p j f z=i/\Rch (stR F) 0 z) (by
   rintro a b ⟨z,h1,h2,h3⟩ ⟨h4,_⟩;obtain⟨s,hs,he⟩:=q3s.1 h4;obtain⟨h5,h6⟩:=hF s hs;have e1:ixI p j f s.src=a:=q5i Prod.fst he;have e2:ixI p j f s.dst=b:=q5i Prod.snd he;have e3:s.src=z:=Hf h5 h1 (by rw[e1,h2]);exact⟨s.dst,h6,e2,.tail h3 ⟨s,hs,e3,rfl⟩⟩) ⟨0,p0,e0,.refl⟩
  rw[<-Hf h1 hy h2];exact h3
 ·intro h;have:=h.closed (S:=fun z=>plP p j f z/\Rch (fun a b=>(a,b)∈F.map (ixP p j f (cntL f.body+2:Nat))/\ZB (cntL f.body+2) b=true) 0 (ixI p j f z)) (by
   rintro a b ⟨h1,h2⟩ ⟨s,hs,rfl,rfl⟩;obtain⟨h5,h6⟩:=hF s hs;refine⟨h6,.tail h2 ⟨q3s.2 ⟨s,hs,rfl⟩,?_⟩⟩;have:=KX h6;unfold ZB;simp only[q4k,q4o];exact this) ⟨p0,by rw[e0];exact .refl⟩
  exact this.2
theorem WI(h:XX p=true)(hj:p.procs[j]?=some f):∀s∈(QQ p j f).real,plP p j f s.src/\plP p j f s.dst:=fun s hs=>by
 obtain⟨_,h2⟩:=KJ h hj;obtain⟨_,h3,_⟩:=BU h hj;obtain⟨h4,h5⟩:=h3 s ((h2 s).1 hs);unfold okI at h5;unfold plP;omega
def E3(p:Pg)(k:Nat)(f:Pr)(E:List Str):Prop:=Rch (stR ((QQ p k f).real.filter (Hp p E))) 0 (-1)
theorem Ga(h:XX p=true)(hj:p.procs[k]?=some f)(E:List Str):RY (QQ p k f) f E=true↔E3 p k f E:=by
 unfold E3;rw[<-Y9 (p:=p) (j:=k) (f:=f) (fun s hs=>WI h hj s (q5q.1 hs).1) (y := -1) (.inr (.inl rfl))];unfold RY;rw[q5l];have e1:ixI p k f (-1)=((cntL f.body+2:Nat):Int)-1:=by unfold ixI YJ;rw[if_neg (by omega),if_pos rfl]
 rw[e1];constructor
 ·rintro⟨x,h1,h2⟩;have h2:((cntL f.body+2:Nat):Int)-1=x:=of_decide_eq_true h2;rw[h2];exact h1
 ·intro h1;exact⟨_,h1,q6t rfl⟩
def q1a(E:List Str)(s:Str):Bool:=E.any fun x=>s==x
theorem Jn:q1a E s=true↔s∈E:=by
 unfold q1a;rw[q5l];constructor
 ·rintro⟨x,h1,h2⟩;have:s=x:=by simpa using h2
  rw[this];exact h1
 ·intro h;exact⟨s,h,by simp⟩
theorem Mi{E':List Str}(h:∀s∈E,s∈E'){t:Step}(ht:Hp p E t=true):Hp p E' t=true:=by
 unfold Hp at ht⊢;rw[q8w]at ht⊢;rcases ht with ht|ht
 ·exact .inl ht
 ·refine .inr ?_;split at ht
  ·simp only[q6y,q8p,Bool.not_eq_false']at ht⊢;rcases ht with ht|ht
   ·exact .inl ht
   ·exact .inr (Jn.2 (h _ (Jn.1 ht)))
  ·rfl
theorem PI{E':List Str}(h:∀s∈E,s∈E')(he:E3 p k f E):E3 p k f E':=by
 refine he.mono fun x y ⟨s,hs,h1,h2⟩=>⟨s,?_,h1,h2⟩;obtain⟨h3,h4⟩:=q5q.1 hs;exact q5q.2 ⟨h3,Mi h h4⟩
theorem LY{p:Pg}:∀(l:List Nat)(o:List Str)(b:Bool),(l.foldl (J7 p) (o,b)).2=false->b=false/\(l.foldl (J7 p) (o,b)).1=o/\∀k∈l,J7 p (o,false) k=(o,false)
 |[],o,b,h=>⟨h,rfl,by simp⟩
 | k::r,o,b,h=>by
   rw[q6v]at h⊢;have hst:J7 p (o,b) k=(o,b)\/(J7 p (o,b) k).2=true:=by
    unfold J7;split
    ·rename_i f _;cases(!((o,b).1.any fun s=>f.name==s)&&RY (QQ p k f) f (o,b).1)with
     |true=>exact .inr rfl
     |false=>exact .inl rfl
    ·exact .inl rfl
   rcases hst with hst|hst
   ·rw[hst]at h⊢;obtain⟨h1,h2,h3⟩:=LY r o b h;refine⟨h1,h2,fun m hm=>?_⟩;rcases q3t.1 hm with rfl|hm
    ·rw[<-h1];rw[h1]at hst⊢;exact hst
    ·exact h3 m hm
   ·have:=(LY r (J7 p (o,b) k).1 (J7 p (o,b) k).2 h).1;rw[hst]at this;cases this
def U9(p:Pg)(out:List Str):Prop:=∀s∈out,∃(k:Nat) (f:Pr),p.procs[k]?=some f/\f.name=s/\E3 p k f out
theorem SL(hc:XX p=true){st:List Str×Bool}(h:U9 p st.1)(k:Nat):U9 p (J7 p st k).1/\W7 p (J7 p st k).1+(J7 p st k).2.toNat<=W7 p st.1+st.2.toNat:=by
 unfold J7;split
 ·rename_i f hf;cases hq:(!(st.1.any fun s=>f.name==s)&&RY (QQ p k f) f st.1)with
  | true=>
    rw[q4v];simp only[q4k,q6y]at hq;have hl:=Tz (p:=p) (out:=st.1) (q4n hf) hq.1;have he:=(Ga hc hf st.1).1 hq.2;refine⟨fun s hs=>?_,?_⟩
    ·rcases q3a.1 hs with hs|hs
     ·obtain⟨k',f',h1,h2,h3⟩:=h s hs;exact⟨k',f',h1,h2,PI (fun s hs=>q3a.2 (.inl hs)) h3⟩
     ·obtain rfl:=q3r.1 hs;exact⟨k,f,hf,rfl,PI (fun s hs=>q3a.2 (.inl hs)) he⟩
    ·simp only[q8v];omega
  |false=>exact⟨h,q4h _⟩
 ·exact⟨h,q4h _⟩
theorem H4{p:Pg}(hc:XX p=true):∀(l:List Nat){st:List Str×Bool},U9 p st.1->U9 p (l.foldl (J7 p) st).1/\W7 p (l.foldl (J7 p) st).1+(l.foldl (J7 p) st).2.toNat<=W7 p st.1+st.2.toNat
 |[],st,h=>⟨h,q4h _⟩
 | k::r,st,h=>by
   obtain⟨h1,h2⟩:=SL hc h k;obtain⟨h3,h4⟩:=H4 hc r h1;rw[q6v];exact⟨h3,by omega⟩
theorem Uq{p:Pg}(hc:XX p=true):∀(k:Nat){out:List Str},W7 p out<k->U9 p out->U9 p (Dl p k out)/\(∀s∈out,True)/\∀(m:Nat)(f:Pr),p.procs[m]?=some f->E3 p m f (Dl p k out)->f.name∈Dl p k out
 |0,out,h,_=>by omega
 | k+1,out,h,hi=>by
   obtain⟨h1,h2⟩:=H4 hc (List.range p.procs.length) (st:=(out,false)) hi;rw[Dl];cases hr:(Ui p out).2 with
   | true=>
     rw[q4v];have hr':((List.range p.procs.length).foldl (J7 p) (out,false)).2=true:=hr;rw[hr']at h2;simp only[q8v,Bool.toNat_false]at h2;have h3:W7 p (Ui p out).1<k:=by show W7 p ((List.range p.procs.length).foldl (J7 p) (out,false)).1<k;omega
     obtain⟨h4,_,h5⟩:=Uq hc k h3 h1;exact⟨h4,fun _ _=>trivial,h5⟩
   | false=>
     rw[q4f];obtain⟨_,h3,h4⟩:=LY (List.range p.procs.length) out false hr;have h3:(Ui p out).1=out:=h3;rw[h3];refine⟨hi,fun _ _=>trivial,fun m f hm he=>?_⟩;have h5:=h4 m (q6r.2 (q3c.1 hm).1);unfold J7 at h5;rw[hm]at h5;simp only at h5;cases hq:(out.any fun s=>f.name==s)with
     |true=>exact Jn.1 hq
     | false=>
       rw[hq,(Ga hc hm out).2 he]at h5;have:=q5i Prod.snd h5;cases this
theorem Tw(p:Pg):W7 p []<=p.procs.length:=q8n
theorem Nl(h:VV l=false):l.Nodup:=by
 unfold VV at h;rw[List.any_eq_false]at h;unfold Nodup;rw[List.pairwise_iff_getElem];intro i j hi hj hij he;have h1:=h j (q6r.2 hj);apply h1;rw[q5l];refine⟨l[i],?_,?_⟩
 ·exact q6k.2 ⟨i,by simp;omega,by simp⟩
 ·rw[q3b hj];simp[he]
theorem B7(h:XX p=true):(QB p).Nodup:=by
 obtain⟨hm,hs,_⟩:=QD h;unfold QI at hs;rw[hm,q4v]at hs;cases hb:WG p with
 |true=>rw[hb]at hs;cases hs
 | false=>
   unfold WG at hb;simp only[q8r]at hb;exact Nl hb.2.1
theorem Xm(h:XX p=true){g:Pr}(hj:p.procs[j]?=some f)(hk:p.procs[k]?=some g)(he:f.name=g.name):j=k/\f=g:=by
 have hn:=B7 h;have h1:(QB p)[j]?=some f.name:=by simp[QB,hj]
 have h2:(QB p)[k]?=some g.name:=by simp[QB,hk]
 rw[he]at h1;have hjl:=(q3c.1 h1).1;obtain rfl:j=k:=(List.getElem?_inj hjl hn).1 (h1.trans h2.symm);rw[hj]at hk;exact⟨rfl,q7c hk⟩
theorem SR(h:XX p=true)(hk:p.procs[k]?=some f):f.name∈endsR p↔E3 p k f (endsR p):=by
 obtain⟨h1,_,h3⟩:=Uq h (p.procs.length+1) (out:=[]) (by have:=Tw p;omega) (fun s hs=>by cases hs);have e:∀s,s∈endsR p↔s∈Dl p (p.procs.length+1) []:=fun s=>by unfold endsR;rw[h,q4v,MQ]
 rw[e];constructor
 ·intro hm;obtain⟨k',f',h4,h5,h6⟩:=h1 _ hm;obtain⟨rfl,rfl⟩:=Xm h hk h4 h5.symm;exact PI (fun s hs=>(e s).2 hs) h6
 ·intro he;exact h3 k f hk (PI (fun s hs=>(e s).1 hs) he)
theorem Ll:∀(k:Nat)(l:List S)(_:cntL l<k)(_:cntL l<=1000000),SpecP prog 47 [eSs l] (fun r=>r=.int .i64 (cntL l)):=by
 intro k;induction k with
 |zero=>intro l h;omega
 | succ k ih=>
   intro l hk hl;have hll:=S.avs_len l;have hlc:l.length<=cntL l:=by
    clear hk hl hll;induction l with
    |nil=>simp
    |cons t r ihr=>rw[cntL,WK,q4m];omega
   refine sB Gx func47 rfl call47 ?_;conv=>whnf
   repeat' (refine iM fun _=>?_;conv=>whnf)
   refine LoopK.inv QY (fun y:Nat×Nat=>⟨[(0,.p (eSs l)),(3,.p (.int .i64 y.2)),(8,.p (.int .i64 (S.avs l).length)),(9,.p (.int .i64 y.1))],[]⟩) (fun y=>y.1<=l.length/\y.2+cntL (l.drop y.1)=cntL l+(l.length-y.1)) (fun y=>l.length-y.1) (0,l.length) (Le.of_eq (by simp only[S.avs_len];rfl)) ⟨q3o _,by simp;omega⟩ ?_;rintro⟨j,n⟩ ⟨h2,h3⟩;simp only at h2 h3⊢;rcases q4w j l.length with hj|hj
   ·have hst:=PC hj;have hcs:=WK l[j];have h4:cntL (l.drop j)<=cntL l:=by
     have:∀(l:List S)(j:Nat),cntL (l.drop j)<=cntL l:=fun l=>by
      induction l with
      |nil=>intro j;simp
      | cons t r ihr=>
        intro j;cases j with
        |zero=>simp
        |succ j=>rw[List.drop_succ_cons,cntL];have:=ihr j;omega
     exact this l j
    conv=>whnf
    repeat' (first|((first|refine dA ?_|refine QN (by omega) ?_|refine wI ?_|(refine CallK.pure (ih l[j].thn (by omega) (by omega)) (.cons (Sub.refl _) .nil) ?_;rintro _ rfl)|(refine CallK.pure (ih l[j].els (by omega) (by omega)) (.cons (Sub.refl _) .nil) ?_;rintro _ rfl));conv=>whnf)|(apply bD<;>intro _<;>first|omega|conv=>whnf))
    all_goals exact⟨(j+1,n+(cntL l[j].thn+cntL l[j].els)),⟨by simp only;omega,by simp only;omega⟩,by simp only;omega,Le.of_eq rfl⟩
   ·conv=>whnf
    rw[q4j hj,cntL]at h3;repeat' (apply bD<;>intro _<;>first|omega|conv=>whnf)
    exact RetK.int (by omega)
theorem Lm(p:Pg)(hc:cntP p.procs<=1000):SpecP prog 13 [.agg p.cells] (fun r=>r=.int .i64 (cntP p.procs)):=by
 refine sB Gq func13 rfl call13 ?_;conv=>whnf
 have hl2:(p.procs.map fun f=>AV.agg f.cells).length=p.procs.length:=q3f _;repeat' (refine iM fun _=>?_;conv=>whnf)
 refine LoopK.inv QY (fun y:Nat×Nat=>⟨[(3,.p (.int .i64 y.2)),(7,.p (.sl (p.procs.map fun f=>.agg f.cells))),(8,.p (.int .i64 (p.procs.map fun f=>AV.agg f.cells).length)),(9,.p (.int .i64 y.1))],[]⟩) (fun y=>y.1<=p.procs.length/\y.2+cntP (p.procs.drop y.1)=cntP p.procs) (fun y=>p.procs.length-y.1) (0,0) (Le.of_eq rfl) ⟨q3o _,by simp⟩ ?_;rintro⟨j,n⟩ ⟨h2,h3⟩;simp only at h2 h3⊢;rcases q4w j p.procs.length with hj|hj
 ·have hst:=Zg hj;have hcm:=J3 _ _ (q4u hj);conv=>whnf
  repeat' (first|((first|refine q3l rfl ?_|(refine iA fun _=>?_)|refine wI ?_|(refine CallK.pure (Ll (cntL p.procs[j].body+1) p.procs[j].body (by omega) (by omega)) (.cons (Sub.refl _) .nil) ?_;rintro _ rfl));conv=>whnf)|(apply bD<;>intro _<;>first|omega|conv=>whnf))
  exact⟨(j+1,n+cntL p.procs[j].body),⟨by simp only;omega,by simp only;omega⟩,by simp only;omega,Le.of_eq rfl⟩
 ·conv=>whnf
  rw[q4j hj,cntP]at h3;repeat' (apply bD<;>intro _<;>first|omega|conv=>whnf)
  exact RetK.int (by omega)
def Y6(p:Pg)(most:Int):Bool:=XX p&&decide ((cntP p.procs:Int)<=most)
theorem HA{x:Str}:inS l x=true↔x∈l:=by
 unfold inS;rw[q5l];constructor
 ·rintro⟨y,h1,h2⟩;have:y=x:=by simpa using h2
  rw[<-this];exact h1
 ·intro h;exact⟨x,h,by simp⟩
theorem Kv(h:XX p=true)(hj:p.procs[j]?=some f){a:Int}(h1:(QL p.procs j:Int)+1<=a)(h2:a<=(QL p.procs j+cntL f.body:Nat)):∃t∈flL f.body,Si p a=some t/\t.id=a:=by
 obtain⟨it,h3,h4⟩:=NA hj (k:=(a-1).toNat) (by omega) (by omega);refine⟨it.s,KQ h4,by unfold Si;rw[h3];rfl,?_⟩;obtain⟨_,_,_,hlen,hsp⟩:=QU p;obtain⟨_,_,hle,hd⟩:=hsp j f hj;have hids:=T6 (QD h).1 hj;have h5:(itsOf p j f)[(a-1).toNat-QL p.procs j]?=some it:=by
  unfold itsOf;rw[<-hd,q5t,q4e,if_pos (by omega),show QL p.procs j+((a-1).toNat-QL p.procs j)=(a-1).toNat by omega];exact h3
 have h6:((itsOf p j f).map fun it=>it.s.id)[(a-1).toNat-QL p.procs j]?=some it.s.id:=by rw[q4x,h5];rfl
 rw[hids]at h6;unfold Xg at h6;rw[q4x,List.getElem?_range' (by omega)]at h6;simp at h6;omega
theorem B5(h:s∈l):s∈Go.Lib.compact l:=by
 have key:∀(j:Nat)(hj:j<l.length),l[j]∈Go.Lib.compact l:=fun j=>by
  induction j with
  | zero=>
    intro hj;refine q3s.2 ⟨0,q5q.2 ⟨by simpa using hj,by simp[Go.Lib.keeps]⟩,?_⟩;simp[hj]
  | succ j ih=>
    intro hj;cases hk:Go.Lib.keeps l.toArray (j+1)with
    | true=>
      refine q3s.2 ⟨j+1,q5q.2 ⟨by simpa using hj,hk⟩,?_⟩;simp[hj]
    | false=>
      have hj':j<l.length:=by omega
      have:l[j+1]=l[j]:=by
       unfold Go.Lib.keeps at hk;simp[hj,hj']at hk;exact hk
      rw[this];exact ih hj'
 obtain⟨j,hj,rfl⟩:=q6k.1 h;exact key j hj
theorem Wv:s∈Go.Lib.compact l↔s∈l:=⟨BJ,B5⟩
theorem K0{α:Type}{R:α->α->Prop}(irr:∀a,¬R a a)(tr:∀a b c,R a b->R b c->R a c):∀{l m:List α},l.Pairwise R->m.Pairwise R->(∀s,s∈l↔s∈m)->l=m
 |[],[],_,_,_=>rfl
 |[],b::m,_,_,h=>by have:=(h b).2 q3d;cases this
 |a::l,[],_,_,h=>by have:=(h a).1 q3d;cases this
 | a::l,b::m,hl,hm,h=>by
   rw[q6n]at hl hm;have hab:a=b:=by
    rcases q3t.1 ((h a).1 q3d)with h1|h1
    ·exact h1
    rcases q3t.1 ((h b).2 q3d)with h2|h2
    ·exact h2.symm
    exact absurd (tr _ _ _ (hl.1 b h2) (hm.1 a h1)) (irr a)
   subst hab;rw[K0 irr tr hl.2 hm.2 fun s=>?_];constructor
   ·intro hs;rcases q3t.1 ((h s).1 (q3n _ hs))with rfl|h1
    ·exact absurd (hl.1 s hs) (irr s)
    ·exact h1
   ·intro hs;rcases q3t.1 ((h s).2 (q3n _ hs))with rfl|h1
    ·exact absurd (hm.1 s hs) (irr s)
    ·exact h1
theorem P3:∀(x y:List UInt8),Op.bytesLess x y=decide (x<y)
 |[],[]=>by simp[Op.bytesLess]
 |_::_,[]=>by simp[Op.bytesLess]
 |[],_::_=>by simp[Op.bytesLess]
 | a::x,b::y=>by
   rw[Op.bytesLess,P3 x y];simp only[List.cons_lt_cons_iff];by_cases h1:a<b<;>by_cases h2:a=b<;>by_cases h3:x<y<;>simp[h1,h2,h3]
def ltT(a b:Str):Prop:=Op.bytesLess a b=true
theorem W9{a b:Str}:ltT a b↔a<b:=by
 unfold ltT;rw[P3,q4o]
theorem W8(a:Str):¬ltT a a:=fun h=>List.lt_irrefl a (W9.1 h)
theorem ltT.trans(a b c:Str)(h1:ltT a b)(h2:ltT b c):ltT a c:=W9.2 (List.lt_trans (W9.1 h1) (W9.1 h2))
theorem CR(l:List Str):(UO l).Pairwise fun a b=>a<=b:=by
 have:=List.pairwise_mergeSort (le:=fun x y:Str=>decide (x<=y)) (fun a b c h1 h2=>by
  rw[q4o]at h1 h2⊢;exact List.le_trans h1 h2) (fun a b=>by
  rcases List.le_total a b with h|h
  ·rw[q6t h];rfl
  ·rw[q6t h];exact Bool.or_true _) l
 exact this.imp fun h=>by simpa using h
theorem Gc(h:l.Pairwise fun a b=>a<=b):(Go.Lib.compact l).Pairwise ltT:=by
 unfold Go.Lib.compact Go.Lib.compactUpTo;rw[List.pairwise_map];refine(List.Pairwise.filter _ (List.pairwise_lt_range (n:=l.length))).imp_of_mem fun {i k} hi hk hlt=>?_;obtain⟨hi1,_⟩:=q5q.1 hi;obtain⟨hk1,hk2⟩:=q5q.1 hk;rw[q6r]at hi1 hk1;have le:∀(a b:Nat)(_:a<=b)(hb:b<l.length),l[a]'(by omega)<=l[b]:=fun a b hab hb=>by
  rcases q4w a b with h1|h1
  ·exact List.pairwise_iff_getElem.1 h a b (by omega) hb h1
  ·obtain rfl:a=b:=by omega
   exact List.le_refl _
 have g:∀(a:Nat)(ha:a<l.length),l.toArray[a]! = l[a]:=fun a ha=>by simp[ha]
 rw[g i hi1,g k hk1];unfold Go.Lib.keeps at hk2;rw[q4o,g k hk1,g (k-1) (by omega)]at hk2;have hne:l[k]≠l[k-1]'(by omega):=by
  rcases hk2 with h0|h0
  ·omega
  ·exact h0
 have h1:=le i (k-1) (by omega) (by omega);have h2:=le (k-1) k (by omega) hk1;rcases List.le_iff_lt_or_eq.1 h2 with h3|h3
 ·exact W9.2 (List.lt_of_le_of_lt h1 h3)
 ·exact absurd h3.symm hne
def UQ(l:List Str):List Str:=Go.Lib.compact (UO l)
theorem WM:s∈UQ l↔s∈l:=by unfold UQ;rw[Wv,MQ]
theorem YZ(l:List Str):(UQ l).Pairwise ltT:=Gc (CR l)
theorem CY{m:List Str}(h:m.Pairwise ltT)(hm:∀s,s∈m↔s∈l):m=UQ l:=K0 W8 ltT.trans h (YZ l) fun s=>by rw[hm,WM]
section
variable {α:Type}{R:α->α->Prop}{l out:List α}{i k:Nat}
theorem GY{s:α}(hk:k<l.length):s∈l.take (k+1)↔s∈l.take k\/s=l[k]:=by
 rw[q4y hk,q3a,q3r]
end
def Mv(k t:Nat)(cs:List AV):List (Nat×LV)->(List (Nat×LV)->Prop)->Prop
 |[],K=>K []
 |(j,l)::r,K=>bif beq j t then Mv k t cs r fun r=>K ((j,.p (.agg cs))::r)else UM (l.kill k) fun l=>Mv k t cs r fun r=>K ((j,l)::r)
theorem MS{k t:Nat}{cs:List AV}:∀{sl:List (Nat×LV)}{K:List (Nat×LV)->Prop},Mv k t cs sl K->∃sl',K sl'/\∀i,getS sl' i=(getS sl i).kill k\/(i=t/\getS sl' i=.p (.agg cs))
 |[],_,h=>⟨[],h,fun _=>.inl rfl⟩
 | (j,l)::r,K,h=>by
   unfold Mv at h;cases hb:beq j t with
   | true=>
     rw[hb,q4v]at h;have hj:j=t:=Nat.eq_of_beq_eq_true hb;obtain⟨sl',hK,hs⟩:=MS h;refine⟨_,hK,fun i=>?_⟩;simp only[getS];cases hi:j==i with
     |true=>exact .inr ⟨by rw[<-hj];exact(by simpa using hi:j=i).symm,rfl⟩
     |false=>exact hs i
   | false=>
     rw[hb,q4f,XK]at h;obtain⟨sl',hK,hs⟩:=MS h;refine⟨_,hK,fun i=>?_⟩;simp only[getS];cases hi:j==i with
     |true=>exact .inl rfl
     |false=>exact hs i
theorem R7{s:St}{e:TypeId}{es:List AV}{t:Nat}{ls:List LV}{cs:List AV}(hg:getH s.H k=some (.own e sz es))(ht:getS s.sl t=.agg ls)(hln:ls.length=cs.length)(hcs:∀(j:Nat)(l:LV)(c:AV),ls[j]?=some l->cs[j]?=some c->(∃a,l=.p a/\Sub a c)\/(∃n,l=.hd k 0 n/\n=es.length/\c=.sl es))(h:Mv k t cs s.sl fun sl=>DJ k s.H fun H=>K ⟨sl,H⟩):∃s',K s'/\Le N s s':=by
 obtain⟨sl,h,hsl⟩:=MS h;obtain⟨H,h,hsub,hH⟩:=DQ h;have agg:∀{σ τ:Mem}{β:Lab}{v:Value},σ.le τ->RepL σ β (.agg ls) v->(∀v,RepL σ β (.hd k 0 es.length) v->Rep τ (.sl es) v)->Rep τ (.agg cs) v:=fun {σ τ β v} hle hv hrow=>by
  cases hv with
  | agg _ vs u hn hc hrr=>
    refine Rep.agg cs vs u (by rw[hn,hln]) (fun j c hj=>?_) fun j c hj=>?_
    ·have hlt:j<ls.length:=by rw[hln];exact(q3c.1 hj).1
     exact hc j _ (q3b hlt)
    ·have hlt:j<ls.length:=by rw[hln];exact(q3c.1 hj).1
     have h1:=hrr j _ (q3b hlt);rcases hcs j _ c (q3b hlt) hj with⟨a,h2,h3⟩|⟨n,h2,rfl,rfl⟩
     ·rw[h2]at h1;cases h1 with
      |p hp=>exact h3 _ _ (hp.mono hle)
     ·rw[h2]at h1;exact hrow _ h1
 refine⟨_,h,fun σ β a w hr=>?_⟩;rcases VD.1 (hr.heap.chunks k _ (QG hg))with⟨hb0,rfl⟩|⟨i,vs,hi,hisz,hh,hn,hle',hmax,hE⟩
 ·refine⟨σ,β,⟨hr.size,hr.defers,fun j=>?_,⟨hr.heap.mem,fun j c' hj=>?_,hsub.nodup hr.heap.nodup,fun j hj=>hr.heap.apart j (hsub.subset hj),fun j hj j' hj'=>hr.heap.inj j (hsub.subset hj) j' (hsub.subset hj')⟩⟩,Mem.le_refl σ,Frm.refl _ _,fun _ h0 h1=>absurd h0 h1,fun b ⟨j,hj,r⟩=>.inl ⟨j,hsub.subset hj,r⟩,fun _ _ _=>rfl⟩
  ·show RepL σ β (getS sl j) _;have hv:=hr.slots j;rcases hsl j with he|⟨rfl,h2⟩
   ·rw[he];exact hv.kill k
   ·rw[h2];rw[ht]at hv;refine .p (agg (Mem.le_refl σ) hv fun v hv=>?_);rcases hv.hdI with⟨_,_,_,he⟩|⟨i,_,hk,_⟩
    ·rw[he];exact .nilsl
    ·rw[hb0]at hk;cases hk
  ·obtain⟨_,c,h2,rfl⟩:=hH j c' hj;exact(hr.heap.chunks j c h2).kill k
 ·refine hr.lay hi (XQ hg) hh (fun τ hle hτ j v hv=>?_) (fun τ hle hτ j c' hj=>?_) (hsub.nodup hr.heap.nodup)
  ·show RepL τ β (getS sl j) v;rcases hsl j with he|⟨rfl,h2⟩
   ·rw[he];exact(hv.kill k).mono hle
   ·rw [h2];rw[ht]at hv;refine .p (agg hle hv fun v hv=>?_);rcases hv.hdI with⟨hk,_⟩|⟨i',oo,hk,hl,ho,rfl⟩
    ·rw[hi]at hk;cases hk
    ·rw[hi]at hk;cases hk;have hoo:oo=0:=by
      rcases ho with ho|ho
      ·simpa using ho
      ·omega
     subst hoo;obtain⟨u,hu⟩ : ∃u:Nat->Nat->Value,∀(m:Nat)(x:AV)(j:Nat)(c:AV),es[m]?=some x->x.cells[j]?=some c->vs[m*sz+j]?=some (u m j)/\Rep σ c (u m j):=by
      refine⟨fun m j=>(vs[m*sz+j]?).getD undef,fun m x j c hx hj=>?_⟩;obtain⟨v,h1,h2⟩:=hE.rep m x j c hx hj;rw[q4e]at h1;split at h1
      ·have h1':vs[m*sz+j]?=some v:=by simpa using h1
       exact⟨by simp[h1'],by simpa[h1']using h2⟩
      ·cases h1
     exact .sl es i.blk 0 _ sz vs u hτ (by omega) (by omega) hE.size (fun m x j c hx hj=>by simpa using(hu m x j c hx hj).1) fun m x j c hx hj=>(hu m x j c hx hj).2.mono hle
  ·obtain⟨h1,c,h2,rfl⟩:=hH j c' hj;exact⟨h1,c,h2,fun hold=>(hold.kill k).mono hle fun _ _ _ _=>rfl⟩
theorem M9{P:Program}{T:Tab}{o:Oper}{s:St}(hT:TabOK P T){e:TypeId}{es:List AV}(t:Nat){ls:List LV}(cs:List AV)(hg:getH s.H k=some (.own e sz es))(ht:getS s.sl t=.agg ls)(hln:ls.length=cs.length)(hcs:∀(j:Nat)(l:LV)(c:AV),ls[j]?=some l->cs[j]?=some c->(∃a,l=.p a/\Sub a c)\/(∃n,l=.hd k 0 n/\n=es.length/\c=.sl es))(h:Mv k t cs s.sl fun sl=>DJ k s.H fun H=>opW P T N ⟨sl,H⟩ o K):OpK P N s o K:=⟨fun σ β a w hr Q=>by
 obtain⟨s1,h1,hle⟩:=R7 (N:=N) hg ht hln hcs (K:=fun s'=>opW P T N s' o K) h;obtain⟨σ1,β1,hr1,hl1⟩:=hle σ β a w hr;exact Oper.wp_mono (fun a' w' ⟨σ',β',s2,hK,hr',hl⟩=>⟨σ',β',s2,hK,hr',hl1.trans hl⟩) (FQ hT h1 hr1 Q)⟩
theorem Mf{s:St}{k2:Nat}{c c2:Chunk}(h:HL s k k2 c c2 K):∃s2,K s2/\HL s k k2 c c2 fun s3=>s3=s2:=by
 unfold HL at h⊢;obtain⟨sl,h1,_⟩:=VI (by rfl) h;have key:∀{f:LV->LV}{l:List (Nat×LV)}{K:List (Nat×LV)->Prop},Wq f l K↔K (l.map fun x=>(x.1,f x.2)):=fun {f} l=>by
  induction l with
  |nil=>intro K;rfl
  |cons x r ih=>intro K;simp only[Wq,XK,ih,q4t]
 have key2:∀{f:LV->LV}{c:Chunk}{H:Heap},∃H',∀K:Heap->Prop,Xq k k2 f c H K↔K H':=fun {f c} H=>by
  induction H with
  |nil=>exact⟨[],fun K=>Iff.rfl⟩
  | cons x r ih=>
    obtain⟨H',hH'⟩:=ih;obtain⟨j,d⟩:=x;simp only[Xq,FI];cases j==k2 with
    |true=>exact⟨H',fun K=>by simp only[q4v];exact hH' _⟩
    | false=>
      cases j==k with
      |true=>exact⟨(j,c)::H',fun K=>by simp only[q4v,q4f];exact hH' _⟩
      |false=>exact⟨(j,d.mapL f)::H',fun K=>by simp only[q4f];exact hH' _⟩
 rw[key]at h;simp only[key];obtain⟨H',hH'⟩:=key2 (f:=LV.xkill k) (c:=c) (H:=s.H);rw[hH']at h;exact⟨_,h,(hH' _).2 rfl⟩
theorem OpK.focus{P:Program}{T:Tab}(hT:TabOK P T){s:St}{o:Oper}(t k a k2:Nat){e e2:Nat}{rows:List (List AV)}{hole:List Nat}{row:List AV}(hu:ZE k2 s=true)(hg:getH s.H k=some (.ext (.mat e e2 sz rows hole)))(hrow:rows[a]?=some row)(hnh:a∉hole)(hpin:WN k=false)(ht:getS s.sl t=.ext k (.row a row.length))(h:HL s k k2 (.ext (.mat e e2 sz rows (a::hole))) (.own e2 sz row) fun s2=>opW P T N ⟨(t,.hd k2 0 row.length)::s2.sl,s2.H⟩ o K):OpK P N s o K:=by
 obtain⟨s2,h,he⟩:=Mf h;refine⟨fun σ β ac w hr Q=>?_⟩;obtain⟨β',hr',hl,hrep,hrow'⟩:=Pv hr hu hg hrow hnh hpin he;have hr2:Rel N σ β' ⟨(t,.hd k2 0 row.length)::s2.sl,s2.H⟩ ac w:=⟨hr'.size,hr'.defers,fun i=>by
  show RepL σ β' (getS ((t,.hd k2 0 row.length)::s2.sl) i) _;simp only[getS];cases hi:t==i with
  | true=>
    have:t=i:=by simpa using hi
    subst this;have h1:=hr.slots t;rw[ht]at h1;exact hrow' _ h1
  |false=>exact hr'.slots i,hr'.heap⟩
 exact Oper.wp_mono (fun a' w' ⟨σ',β'',s3,hK,hr3,hl3⟩=>⟨σ',β'',s3,hK,hr3,hl.trans hl3⟩) (FQ hT h hr2 Q)
theorem S7{α:Type}{l m:List α}(h:l.take j=m.take j)(hl:j<l.length)(hm:j<m.length)(he:l[j]=m[j]):l.take (j+1)=m.take (j+1):=by
 rw[q4y hl,q4y hm,h,he]
theorem SH{α:Type}{l m:List α}(h:l.take j=m.take j)(hl:l.length<=j)(hm:m.length<=j):l=m:=by
 rwa[q4g hl,q4g hm]at h
theorem ZK(l m:List Str):SpecP prog 73 [eStrs l,eStrs m] (fun r=>r=.bool (decide (l=m))):=by
 refine sB HX func73 rfl call73 ?_;conv=>whnf
 have h1:(l.map AV.str).length=l.length:=q3f _;have h2:(m.map AV.str).length=m.length:=q3f _;repeat' (first|(refine iM fun _=>?_;conv=>whnf)|(apply bE<;>intro _<;>first|omega|conv=>whnf))
 all_goals first
  |exact RetK.ff (q6f fun h=>by subst h;omega)
  |skip
 have hlen:l.length=m.length:=by omega
 refine LoopK.inv QY (fun j:Nat=>⟨[(0,.p (eStrs l)),(1,.p (eStrs m)),(12,.p (.int .i64 (l.map AV.str).length)),(13,.p (.int .i64 j))],[]⟩) (fun j=>j<=l.length/\l.take j=m.take j) (fun j=>l.length-j) 0 (Le.of_eq rfl) ⟨q3o _,rfl⟩ ?_;rintro j ⟨h3,h4⟩;rcases q4w j l.length with hj|hj
 ·conv=>whnf
  repeat' (first|((first|refine dA ?_|(refine iA fun _=>?_)|refine wI ?_);conv=>whnf)|(apply bD<;>intro _<;>first|omega|conv=>whnf)|(apply bN<;>intro _<;>conv=>whnf))
  all_goals first
   |exact RetK.ff (q6f fun h=>by subst h;simp_all)
   |exact⟨j+1,⟨by omega,S7 h4 hj (by omega) (by simp_all)⟩,by omega,Le.of_eq rfl⟩
 ·conv=>whnf
  repeat' (apply bD<;>intro _<;>first|omega|conv=>whnf)
  exact RetK.tt (q6t (SH h4 hj (by omega)))
end Go.Ab
