/- Parts of a graph: what a search into the depth leaves behind; going back from the last one done, part by part. -/
import Derived.Test.YtmfnbgbblkhneaaGreatInoR10
import Derived.Test.YtmfnbgbblkhneaaGreatInoR13
import Derived.Test.YtmfnbgbblkhneaaGreatInoR16
set_option linter.unusedSimpArgs false
set_option linter.unusedVariables false
set_option maxRecDepth 100000
set_option maxHeartbeats 16000000
open List (sum_cons)
namespace Go.Ab
open Go.Proofs.Tryz
open Go.Proofs
variable {a b:Int}
theorem RJ{E:Int->Int->Prop}{B:List Int}{u x:Int}(h:Rch E u x)(hu:u∈B)(hx:x∉B):∃z y,z∈B/\E z y/\y∉B/\Rch E u y/\Rch E y x:=by
 induction h with
 |refl=>exact absurd hu hx
 | @tail b c h hr ih=>
   by_cases hb:b∈B
   ·exact⟨b,c,hb,hr,hx,.tail h hr,.refl⟩
   ·obtain⟨z,y,h1,h2,h3,h4,h5⟩:=ih hb;exact⟨z,y,h1,h2,h3,h4,.tail h5 hr⟩
def chainE(E:Int->Int->Prop):List Int->Prop
 |[]=>True
 |[_]=>True
 |a::b::r=>E a b/\chainE E (b::r)
theorem BV{E:Int->Int->Prop}:∀(l:List Int){a y:Int},chainE E (l++[a])->y∈l++[a]->Rch E y a
 | [],a,y,_,hy=>by
   simp at hy;rw[hy];exact .refl
 | [b],a,y,h,hy=>by
   simp at hy;rcases hy with rfl|rfl
   ·exact .tail .refl h.1
   ·exact .refl
 | b::c::r,a,y,h,hy=>by
   have h1:chainE E ((c::r)++[a]):=h.2;rcases q3t.1 hy with rfl|hy
   ·exact .head h.1 (BV (c::r) h1 (by simp))
   ·exact BV (c::r) h1 hy
theorem Zj{E:Int->Int->Prop}:∀(l:List Int){a b:Int},chainE E (l++[a])->E a b->chainE E (l++[a]++[b])
 |[],a,b,_,hb=>⟨hb,trivial⟩
 |[c],a,b,h,hb=>⟨h.1,hb,trivial⟩
 |c::d::r,a,b,h,hb=>⟨h.1,Zj (d::r) h.2 hb⟩
theorem U4{E:Int->Int->Prop}:∀(l:List Int){a:Int},chainE E (l++[a])->chainE E l
 |[],_,_=>trivial
 |[_],_,_=>trivial
 |c::d::r,_,h=>⟨h.1,U4 (d::r) h.2⟩
structure DfsI(n:Nat)(E:Int->Int->Prop)(out stack:List Int):Prop where
 nd:(out++stack).Nodup
 rng:∀x∈out++stack,0<=x/\x<n
 path:chainE E stack
 cl:∀u∈out,∀v,E u v->v∈out\/v∈stack
 J:∀u∈out,∀x,Rch E u x->x∉out->∃s∈stack,Rch E u s/\Rch E s u/\Rch E s x
 K:∀(i:Nat)(r:Int),out[i]?=some r->∀u,Rch E u r->Rch E r u\/∃u',Rch E u u'/\Rch E u' u/\(u'∉out\/∃j,i<j/\out[j]?=some u')
theorem DfsI.start(n:Nat)(E:Int->Int->Prop):DfsI n E [] []:=⟨by simp,by simp,trivial,by simp,by simp,by simp⟩
theorem DfsI.push{n:Nat}{E:Int->Int->Prop}{out stack:List Int}(h:DfsI n E out stack)(hb:0<=b/\b<n)(hn:b∉out++stack)(hp:chainE E (stack++[b])):DfsI n E out (stack++[b]):=by
 refine⟨?_,fun x hx=>?_,hp,fun u hu v hv=>?_,fun u hu x hx hxo=>?_,h.K⟩
 ·rw[<-q4c,q6j];refine⟨h.nd,by simp,fun x hx y hy=>?_⟩;rw[q3r.1 hy];exact fun e=>hn (e▸hx)
 ·rw[<-q4c]at hx;rcases q3a.1 hx with hx|hx
  ·exact h.rng x hx
  ·rw[q3r.1 hx];exact hb
 ·rcases h.cl u hu v hv with h1|h1
  ·exact .inl h1
  ·exact .inr (q3a.2 (.inl h1))
 ·obtain⟨s,h1,h2⟩:=h.J u hu x hx hxo;exact⟨s,q3a.2 (.inl h1),h2⟩
theorem DfsI.pop{n:Nat}{E:Int->Int->Prop}{out st:List Int}(h:DfsI n E out (st++[a]))(ha:∀v,E a v->v∈out\/v∈st++[a]):DfsI n E (out++[a]) st:=by
 have hnd:=h.nd;rw[q6j]at hnd;obtain⟨hn1,hn2,hn3⟩:=hnd;rw[q6j]at hn2;obtain⟨hn4,_,hn5⟩:=hn2;have hao:a∉out:=fun hm=>hn3 a hm a (by simp) rfl;have hast:a∉st:=fun hm=>hn5 a hm a (by simp) rfl;have hcl:∀u∈out++[a],∀v,E u v->v∈out++[a]\/v∈st:=fun u hu v hv=>by
  have:v∈out\/v∈st++[a]:=by
   rcases q3a.1 hu with hu|hu
   ·exact h.cl u hu v hv
   ·rw[q3r.1 hu]at hv;exact ha v hv
  rcases this with h1|h1
  ·exact .inl (q3a.2 (.inl h1))
  ·rcases q3a.1 h1 with h1|h1
   ·exact .inr h1
   ·exact .inl (q3a.2 (.inr h1))
 have hfst:∀u∈out++[a],∀x,Rch E u x->x∉out++[a]->∃y∈st,Rch E u y/\Rch E y x:=fun u hu x hx hxo=>by
  obtain⟨z,y,h1,h2,h3,h4,h5⟩:=RJ hx hu hxo;rcases hcl z h1 y h2 with h6|h6
  ·exact absurd h6 h3
  ·exact⟨y,h6,h4,h5⟩
 have hya:∀y∈st,Rch E y a:=fun y hy=>BV st h.path (q3a.2 (.inl hy));refine⟨?_,fun x hx=>?_,U4 st h.path,hcl,fun u hu x hx hxo=>?_,fun i r hi u hu=>?_⟩
 ·rw[q4c,q6j];refine⟨hn1,?_,fun x hx y hy=>hn3 x hx y (by simp at hy⊢;exact hy.symm)⟩;rw[q6j];refine⟨by simp,hn4,fun x hx y hy e=>?_⟩;rw[q3r.1 hx]at e;exact hast (e▸hy)
 ·refine h.rng x ?_;simp only[q3a,q3r]at hx⊢;rcases hx with(h1|h1)|h1
  ·exact .inl h1
  ·exact .inr (.inr h1)
  ·exact .inr (.inl h1)
 ·obtain⟨y,h1,h2,h3⟩:=hfst u hu x hx hxo;rcases q3a.1 hu with hu|hu
  ·have hyo:y∉out:=fun hm=>hn3 y hm y (q3a.2 (.inl h1)) rfl;obtain⟨s,h4,h5,h6,h7⟩:=h.J u hu y h2 hyo;rcases q3a.1 h4 with h4|h4
   ·exact⟨s,h4,h5,h6,h7.trans h3⟩
   ·rw[q3r.1 h4]at h5 h6;exact⟨y,h1,h2,(hya y h1).trans h6,h3⟩
  ·rw[q3r.1 hu]at h2⊢;exact⟨y,h1,h2,hya y h1,h3⟩
 ·rcases q4w i out.length with hil|hil
  ·rw [q5v hil]at hi;rcases h.K i r hi u hu with h1|⟨u',h1,h2,h3⟩
   ·exact .inl h1
   ·refine .inr ⟨u',h1,h2,?_⟩;rcases h3 with h3|⟨j,h3,h4⟩
    ·by_cases hua:u'=a
     ·exact .inr ⟨out.length,hil,by rw[hua];simp⟩
     ·exact .inl fun hm=>by
       rcases q3a.1 hm with hm|hm
       ·exact h3 hm
       ·exact hua (q3r.1 hm)
    ·exact .inr ⟨j,h3,by rw[q5v (q3c.1 h4).1];exact h4⟩
  ·have hr:r=a:=by
    have h1:=(q3c.1 hi).1;simp at h1;rw[q5x hil,show i-out.length=0 by omega]at hi;simpa using hi.symm
   subst hr;by_cases hau:Rch E r u
   ·exact .inl hau
   ·right;by_cases huo:u∈out
    ·obtain⟨s,h4,h5,h6,h7⟩:=h.J u huo r hu hao;rcases q3a.1 h4 with h4|h4
     ·refine⟨s,h5,h6,.inl fun hm=>?_⟩;rcases q3a.1 hm with hm|hm
      ·exact hn3 s hm s (q3a.2 (.inl h4)) rfl
      ·rw[q3r.1 hm]at h4;exact hast h4
     ·rw[q3r.1 h4]at h6;exact absurd h6 hau
    ·refine⟨u,.refl,.refl,.inl fun hm=>?_⟩;rcases q3a.1 hm with hm|hm
     ·exact huo hm
     ·rw[q3r.1 hm]at hau;exact hau .refl
structure EndsP(n:Nat)(E:Int->Int->Prop)(es:List Int):Prop where
 nd:es.Nodup
 mem:∀x:Int,x∈es↔0<=x/\x<n
 K:∀(i:Nat)(r:Int),es[i]?=some r->∀u:Int,0<=u/\u<n->Rch E u r->Rch E r u\/∃u',Rch E u u'/\Rch E u' u/\∃j,i<j/\es[j]?=some u'
theorem DfsI.fin{n:Nat}{E:Int->Int->Prop}(hE:∀x y,E x y->0<=y/\y<n){out:List Int}(h:DfsI n E out [])(hall:∀x:Int,0<=x/\x<n->x∈out):EndsP n E out:=by
 refine⟨by simpa using h.nd,fun x=>⟨fun hx=>h.rng x (by simpa using hx),hall x⟩,fun i r hi u hur hu=>?_⟩;rcases h.K i r hi u hu with h1|⟨u',h1,h2,h3⟩
 ·exact .inl h1
 ·refine .inr ⟨u',h1,h2,?_⟩;rcases h3 with h3|h3
  ·exfalso;apply h3;apply hall;cases h1 with
   |refl=>exact hur
   |tail _ hr=>exact hE _ _ hr
  ·exact h3
def sccP(E:Int->Int->Prop)(x y:Int):Prop:=Rch E x y/\Rch E y x
theorem sccP.refl{E:Int->Int->Prop}(x:Int):sccP E x x:=⟨.refl,.refl⟩
theorem sccP.symm{E:Int->Int->Prop}{x y:Int}(h:sccP E x y):sccP E y x:=⟨h.2,h.1⟩
theorem sccP.trans{E:Int->Int->Prop}{x y z:Int}(h:sccP E x y)(h':sccP E y z):sccP E x z:=⟨h.1.trans h'.1,h'.2.trans h.2⟩
def SeenP(E:Int->Int->Prop)(es:List Int)(i:Nat)(x:Int):Prop:=∃(j:Nat) (y:Int),i<=j/\es[j]?=some y/\sccP E x y
theorem Rh{n:Nat}{E:Int->Int->Prop}(hE:∀x y,E x y->(0<=x/\x<n)/\0<=y/\y<n){es:List Int}(h:EndsP n E es){i:Nat}{r:Int}(hi:es[i]?=some r)(hr:¬SeenP E es (i+1) r)(x:Int):
  Rch (fun a b=>E b a/\¬SeenP E es (i+1) b) r x↔sccP E r x:=by
 have hrr:=(h.mem r).1 (q4n hi);constructor
 ·intro hx;have key:(0<=x/\x<n)/\¬SeenP E es (i+1) x/\Rch E x r:=hx.closed (S:=fun x:Int=>(0<=x/\x<n)/\¬SeenP E es (i+1) x/\Rch E x r) (fun a b ⟨h1,h2,h3⟩ ⟨h4,h5⟩=>⟨(hE _ _ h4).1,h5,.head h4 h3⟩) ⟨hrr,hr,.refl⟩;refine⟨?_,key.2.2⟩;rcases h.K i r hi x key.1 key.2.2 with h1|⟨u',h1,h2,j,h3,h4⟩
  ·exact h1
  ·exact absurd ⟨j,u',h3,h4,h1,h2⟩ key.2.1
 ·rintro⟨h1,h2⟩;have hns:∀y,sccP E r y->¬SeenP E es (i+1) y:=fun y hy ⟨j,z,h3,h4,h5⟩=>hr ⟨j,z,h3,h4,hy.trans h5⟩;have key:∀{a b:Int},Rch E a b->Rch E r a->Rch E b r->Rch (fun a b=>E b a/\¬SeenP E es (i+1) b) b a:=fun {a b} hab=>by
   induction hab with
   |refl=>intro _ _;exact .refl
   | @tail b c hab hbc ih=>
     intro h3 h4;have h5:Rch E b r:=.head hbc h4;exact .head ⟨hbc,hns b ⟨h3.trans hab,h5⟩⟩ (ih h3 h5)
  exact key h2 h1 .refl
theorem TM{E:Int->Int->Prop}{es:List Int}{i:Nat}{r:Int}(hi:es[i]?=some r)(hr:SeenP E es (i+1) r)(x:Int):SeenP E es i x↔SeenP E es (i+1) x:=by
 constructor
 ·rintro⟨j,y,h1,h2,h3⟩;rcases Nat.eq_or_lt_of_le h1 with h4|h4
  ·subst h4;rw[hi]at h2;cases h2;obtain⟨k,z,h5,h6,h7⟩:=hr;exact⟨k,z,h5,h6,h3.trans h7⟩
  ·exact⟨j,y,h4,h2,h3⟩
 ·rintro⟨j,y,h1,h2,h3⟩;exact⟨j,y,by omega,h2,h3⟩
theorem Fw{E:Int->Int->Prop}{es:List Int}{i:Nat}{r:Int}(hi:es[i]?=some r)(x:Int):SeenP E es i x↔SeenP E es (i+1) x\/sccP E r x:=by
 constructor
 ·rintro⟨j,y,h1,h2,h3⟩;rcases Nat.eq_or_lt_of_le h1 with h4|h4
  ·subst h4;rw[hi]at h2;cases h2;exact .inr h3.symm
  ·exact .inl ⟨j,y,h4,h2,h3⟩
 ·rintro(⟨j,y,h1,h2,h3⟩|h)
  ·exact⟨j,y,by omega,h2,h3⟩
  ·exact⟨i,r,q4h _,hi,h.symm⟩
theorem CD{n:Nat}{E:Int->Int->Prop}{es:List Int}(h:EndsP n E es){x:Int}(hx:0<=x/\x<n):SeenP E es 0 x:=by
 obtain⟨j,hj⟩:=q6h.1 ((h.mem x).2 hx);exact⟨j,x,q3o _,hj,.refl x⟩
def rowE(rows:List (List Int))(x y:Int):Prop:=0<=x/\K2 rows x y
structure EndI(n:Nat)(rows:List (List Int))(out stack:List Int)(seen:List Bool)(at_:List Int):Prop where
 dfs:DfsI n (rowE rows) out stack
 sl:seen.length=n
 al:at_.length=n
 seen:∀x:Int,0<=x/\x<n->(seen.getD x.toNat false=true↔x∈out++stack)
 arng:∀x:Int,0<=x/\x<n->0<=at_.getD x.toNat 0/\at_.getD x.toNat 0<=(rows.getD x.toNat []).length
 cur:∀x:Int,0<=x/\x<n->∀(i:Nat)(y:Int),(i:Int)<at_.getD x.toNat 0->(rows.getD x.toNat [])[i]?=some y->y∈out++stack
theorem EndI.start(n:Nat)(rows:List (List Int)):EndI n rows [] [] (List.replicate n false) (List.replicate n 0):=by
 have h0:∀x:Int,(List.replicate n (0:Int)).getD x.toNat 0=0:=fun x=>by
  rw[q3p,q4s];split<;>rfl
 refine⟨DfsI.start n _,by simp,by simp,fun x hx=>?_,fun x hx=>by rw[h0];omega,fun x hx i y hi=>by rw[h0]at hi;omega⟩;rw[q3p,q4s];split<;>simp
theorem ZN{α:Type}{l:List α}{i j:Nat}{a d:α}(hi:i<l.length):(l.set i a).getD j d=if i=j then a else l.getD j d:=by
 simp only[q3p,q6o];split
 ·rename_i h;first
   |rfl
   |(rw[if_pos hi];rfl)
 ·rfl
theorem EndI.push{n:Nat}{rows:List (List Int)}{out stack:List Int}{seen:List Bool}{at_:List Int}(h:EndI n rows out stack seen at_){b:Int}(hb:0<=b/\b<n)(hn:seen.getD b.toNat false=false)(hp:chainE (rowE rows) (stack++[b])):EndI n rows out (stack++[b]) (seen.set b.toNat true) at_:=by
 have hno:b∉out++stack:=fun hm=>by rw[(h.seen b hb).2 hm]at hn;cases hn
 refine⟨h.dfs.push hb hno hp,by simpa using h.sl,h.al,fun x hx=>?_,h.arng,fun x hx i y hi hy=>?_⟩
 ·rw[ZN (by rw[h.sl];omega),<-q4c,q3a,q3r];split
  ·have:x=b:=by omega
   simp[this]
  ·have:x≠b:=by omega
   rw[h.seen x hx];simp[this]
 ·rw[<-q4c];exact q3a.2 (.inl (h.cur x hx i y hi hy))
theorem EndI.pop{n:Nat}{rows:List (List Int)}{out st:List Int}{a:Int}{seen:List Bool}{at_:List Int}(h:EndI n rows out (st++[a]) seen at_)(ha:at_.getD a.toNat 0=(rows.getD a.toNat []).length):EndI n rows (out++[a]) st seen at_:=by
 have hr:=h.dfs.rng a (by simp);have hsw:∀x:Int,x∈out++[a]++st↔x∈out++(st++[a]):=fun x=>by
  simp only[q3a,q3r];constructor
  ·rintro((h1|h1)|h1)
   ·exact .inl h1
   ·exact .inr (.inr h1)
   ·exact .inr (.inl h1)
  ·rintro(h1|h1|h1)
   ·exact .inl (.inl h1)
   ·exact .inr h1
   ·exact .inl (.inr h1)
 refine⟨h.dfs.pop fun v hv=>?_,h.sl,h.al,fun x hx=>by rw[h.seen x hx,hsw],h.arng,fun x hx i y hi hy=>(hsw y).2 (h.cur x hx i y hi hy)⟩;obtain⟨i,hi⟩:=q6h.1 hv.2;have:=h.cur a hr i v (by rw[ha];have:=(q3c.1 hi).1;omega) hi;exact q3a.1 this
theorem EndI.step{n:Nat}{rows:List (List Int)}{out stack:List Int}{seen:List Bool}{at_:List Int}(h:EndI n rows out stack seen at_)(ha:0<=a/\a<n){k:Nat}(hk:at_.getD a.toNat 0=k)(hb:(rows.getD a.toNat [])[k]?=some b)(hs:b∈out++stack):EndI n rows out stack seen (at_.set a.toNat ((k:Int)+1)):=by
 have hlt:a.toNat<at_.length:=by rw[h.al];omega
 refine⟨h.dfs,h.sl,by simpa using h.al,h.seen,fun x hx=>?_,fun x hx i y hi hy=>?_⟩
 ·rw[ZN hlt];split
  ·rename_i he;have:=(q3c.1 hb).1;rw[<-he];omega
  ·exact h.arng x hx
 ·rw[ZN hlt]at hi;split at hi
  ·rename_i he;rw[<-he]at hy;rcases q4w i k with hik|hik
   ·exact h.cur a ha i y (by omega) hy
   ·have:i=k:=by omega
    subst this;rw[hb]at hy;cases hy;exact hs
  ·exact h.cur x hx i y hi hy
def Ar(m:Int)(l:List Int):Int:=l.foldl (fun m x=>if x<m then x else m) m
def Ka:List Int->Int
 |[]=>0
 |a::r=>Ar a r
theorem Hl:∀(l:List Int)(m:Int),Ar m l∈m::l/\∀x∈m::l,Ar m l<=x
 |[],m=>⟨by simp[Ar],by simp[Ar]⟩
 | a::r,m=>by
   obtain⟨h1,h2⟩:=Hl r (if a<m then a else m);have e:Ar m (a::r)=Ar (if a<m then a else m) r:=rfl;have h3:=h2 _ q3d;rw[e];generalize Ar (if a<m then a else m) r=z at h1 h2 h3⊢;refine⟨?_,fun x hx=>?_⟩
   ·rcases q3t.1 h1 with h|h
    ·rw[h];split<;>simp
    ·exact q3n _ (q3n _ h)
   ·rcases q3t.1 hx with rfl|hx
    ·split at h3<;>omega
    ·rcases q3t.1 hx with rfl|hx
     ·split at h3<;>omega
     ·exact h2 x (q3n _ hx)
theorem Hr{l:List Int}(h:0<l.length):Ka l∈l/\∀x∈l,Ka l<=x:=by
 cases l with
 |nil=>simp at h
 |cons a r=>exact Hl r a
theorem OpK.min2{P:Program}{N:Nat}{s:St}{o:Oper}{K:St->Prop}{x y:Operand}{ts:Array TypeId}(hop:o.op=.call {callee:=.builtin .min,args:=#[x,y],argTypes:=ts}){m n:Int}(hx:QR s.sl x=.p (.int .i64 m))(hy:QR s.sl y=.p (.int .i64 n))(h:setD N s.sl o.dst (.p (.int .i64 (if n<m then n else m))) fun sl=>K ⟨sl,s.H⟩):OpK P N s o K:=by
 refine⟨fun σ β a w hr Q=>?_⟩;have h1:=QZ hr.slots x;have h2:=QZ hr.slots y;rw[hx]at h1;rw[hy]at h2;have e1:=h1.int;have e2:=h2.int;have hrun:(execOp a.eval o).run P w=.ok (.value (.int .i64 (if n<m then n else m))) w:=by
  simp[execOp,hop,resolve,invoke,builtin,e1,e2,Builtin.min_,Builtin.min2]
 obtain⟨sl,hK,hr2⟩:=hr.setD (.p (.int .i64 (if n<m then n else m))) h;exact WC hrun ⟨σ,β,_,hK,hr2,Later.refl _ _ _ _⟩
theorem BS(l:List Int)(hl:0<l.length):SpecP prog 266 [XU l] (fun r=>r=.int .i64 (Ka l)):=by
 refine sB HU func266 rfl call266 ?_;conv=>whnf
 have hlm:(l.map (AV.int .i64)).length=l.length:=q3f _;repeat' (first|(refine iM fun _=>?_;conv=>whnf)|(apply bD<;>intro _<;>first|omega|conv=>whnf))
 refine IdxK.at (k:=0) (e:=.int .i64 l[0]) rfl (by simp[hl]) rfl ?_;conv=>whnf
 skip
 refine LoopK.inv QY (fun x:Nat×Int=>⟨[(0,.p (XU l)),(3,.p (.int .i64 x.2)),(4,.p (.int .i64 x.1))],[]⟩) (fun x=>1<=x.1/\x.1<=l.length/\Ka (x.2::l.drop x.1)=Ka l) (fun x=>l.length-x.1) (1,l[0]) (Le.of_eq rfl) ⟨q4h _,hl,by
  cases l with
  |nil=>simp at hl
  |cons a r=>rfl⟩ ?_
 rintro⟨j,m⟩ ⟨h1,h2,h3⟩;simp only at h1 h2 h3⊢;rcases q4w j l.length with hj|hj
 ·rw[QH hj]at h3;conv=>whnf
  repeat' (first|((first|(refine iM fun _=>?_)|(refine iA fun _=>?_)|refine wI ?_|refine OpK.min2 rfl rfl rfl ?_);conv=>whnf)|(apply bD<;>intro _<;>first|omega|conv=>whnf))
  exact⟨(j+1,if l[j]<m then l[j]else m),⟨by simp only;omega,hj,h3⟩,by simp only;omega,Le.of_eq rfl⟩
 ·rw[q4j hj]at h3;conv=>whnf
  repeat' (first|(refine iM fun _=>?_;conv=>whnf)|(apply bD<;>intro _<;>first|omega|conv=>whnf))
  exact RetK.int h3
theorem AJ{α:Type}{f g:α->Nat}:∀{l:List α},(∀x∈l,f x<=g x)->(∃x∈l,f x<g x)->(l.map f).sum<(l.map g).sum
 |[],_,h=>by obtain⟨x,hx,_⟩:=h;cases hx
 | a::r,h1,h2=>by
   have hle:∀{l:List α},(∀x∈l,f x<=g x)->(l.map f).sum<=(l.map g).sum:=fun {l} h=>by
    induction l with
    |nil=>simp
    | cons b r ih=>
      simp only[q4t,sum_cons];have:=ih fun x hx=>h x (q3n _ hx);have:=h b q3d;omega
   simp only[q4t,sum_cons];have h3:=h1 a q3d;have h4:=hle fun x hx=>h1 x (q3n _ hx);obtain⟨x,hx,h5⟩:=h2;rcases q3t.1 hx with rfl|hx
   ·omega
   ·have:=AJ (fun y hy=>h1 y (q3n _ hy)) ⟨x,hx,h5⟩;omega
def muE(rows:List (List Int))(at_:List Int)(n:Nat):Nat:=((List.range n).map fun i=>(rows.getD i []).length-(at_.getD i 0).toNat).sum
theorem Cd{n:Nat}{rows:List (List Int)}{at_:List Int}{a:Nat}(ha:a<n)(hl:at_.length=n){k:Nat}(hk:at_.getD a 0=k)(hlt:k<(rows.getD a []).length):muE rows (at_.set a ((k:Int)+1)) n<muE rows at_ n:=by
 unfold muE;refine AJ (fun i _=>?_) ⟨a,q6r.2 ha,?_⟩
 ·rw[ZN (by omega)];split
  ·rename_i h;rw[<-h,hk];omega
  ·exact q4h _
 ·rw[ZN (by omega),if_pos rfl,hk];omega
theorem K1{n:Nat}{l:List Int}(h:l.Nodup)(hr:∀x∈l,0<=x/\x<n):l.length<=n:=by
 have:=Wf (m:=(List.range n).map fun(k:Nat)=>(k:Int)) h fun x hx=>q3s.2 ⟨x.toNat,q6r.2 (by have:=hr x hx;omega),by have:=hr x hx;omega⟩;simpa using this
theorem Aq{l:List Bool}{i:Nat}(h:i<l.length):(l.map bv)[i]?=some (bv (l.getD i false)):=by
 rw[q4x,q3b h,q3p,q3b h];rfl
theorem Hg{l:List Int}{i:Nat}(h:i<l.length):(l.map (AV.int .i64))[i]?=some (.int .i64 (l.getD i 0)):=by
 rw[q4x,q3b h,q3p,q3b h];rfl
def In(n:Nat)(rows:List (List Int))(r:AV):Prop:=∃es,r=XU es/\EndsP n (rowE rows) es
theorem X6(n:Nat)(hn:n<=5000)(g:List (List Int)×List (List Int))(hg:XH n g.1):SpecP prog 265 [JE g] (fun r=>In n g.1 r):=by
 refine sB PH func265 rfl call265 ?_;conv=>whnf
 have hl:((avI g.1).map AV.sl).length=n:=by simp[avI,hg.1]
 repeat' ((first|(refine iM fun _=>?_)|refine aR ?_|refine MkK.mk n (by rw[hl]) (by show 1*n<=140737488355328;omega) (by unfold maxLen;omega) ?_|refine MkK.mk n (by rw[hl]) (by show 8*n<=140737488355328;omega) (by unfold maxLen;omega) ?_);conv=>whnf)
 refine LoopK.inv QY (fun x:Nat×List Int×List Bool×List Int=>⟨[(0,.p (JE g)),(3,.hd 2 0 x.2.1.length),(4,.hd 3 0 0),(5,.hd 0 0 n),(6,.hd 1 0 n),(26,.p (.int .i64 n)),(27,.p (.int .i64 x.1))],[(0,.own 4 1 (x.2.2.1.map bv)),(1,.own 3 1 (x.2.2.2.map (.int .i64))),(2,.own 3 1 (x.2.1.map (.int .i64))),(3,.own 3 1 [])]⟩)
  (fun x=>x.1<=n/\EndI n g.1 x.2.1 [] x.2.2.1 x.2.2.2/\∀y:Int,0<=y/\y<x.1->y∈x.2.1) (fun x=>n-x.1) (0,[],List.replicate n false,List.replicate n 0)
  (Le.mk [(2,.own 3 1 []),(3,.own 3 1 [])] (by simp[Chunk.new0];exact⟨rfl,rfl⟩) (by simp) (by simp) (.r (.cons (.nil q3d) (.cons (.nil (q3n _ q3d)) (.r (.r (.cons (.of_eq (by rw[hl];rfl)) (.r .nil)))))))
    (.cons rfl (.of_eq (by rw[q6p];rfl)) (.cons rfl (.of_eq (by rw[q6p];rfl)) (.new q3d (.new (q3n _ q3d) .nil)))))
  ⟨q3o _,EndI.start n g.1,fun y hy=>by omega⟩ ?_
 rintro⟨r,out,seen,at_⟩ ⟨h1,h2,h3⟩;simp only at h1 h2 h3⊢;have hsl:=h2.sl;have hal:=h2.al;rcases q4w r n with hr|hr;rotate_left 1
 ·conv=>whnf
  repeat' (apply bD<;>intro _<;>first|omega|conv=>whnf)
  have hall:∀x:Int,0<=x/\x<n->x∈out:=fun x hx=>h3 x (by omega);exact⟨_,.hd rfl (by simp),out,rfl,h2.dfs.fin (fun x y hxy=>FY hg hxy.2) hall⟩
 have e1:=Aq (l:=seen) (i:=r) (by omega);have hstart:∃st s2,EndI n g.1 out st s2 at_/\(r:Int)∈out++st/\((seen.getD r false=true/\st=[]/\s2=seen)\/(seen.getD r false=false/\st=[(r:Int)]/\s2=seen.set r true)):=by
  cases hq:seen.getD r false with
  |true=>exact⟨[],seen,h2,(h2.seen r (by omega)).1 (by simpa using hq),.inl ⟨rfl,rfl,rfl⟩⟩
  |false=>exact⟨[(r:Int)],seen.set r true,h2.push (stack:=[]) (b:=r) (by omega) (by simpa using hq) trivial,by simp,.inr ⟨rfl,rfl,rfl⟩⟩
 obtain⟨st0,seen0,h4,h5,h6⟩:=hstart;rcases h6 with⟨hq,hst,hs0⟩|⟨hq,hst,hs0⟩;all_goals
  rw[hq]at e1;conv=>whnf
  repeat' (first|((first|refine q3l rfl ?_|refine aD ?_|refine bP ?_|refine q5z r rfl (by omega) ?_|refine q5f r 0 .tt (by omega) e1 ?_|refine q5f r 0 .ff (by omega) e1 ?_|refine q7z r 0 .ff .tt (by omega) e1 (q4h 1) rfl ?_|refine ZD rfl (by simp) ?_);conv=>whnf)|(apply bD<;>intro _<;>first|omega|conv=>whnf))
  refine LoopK.inv QY (fun x:List Int×List Int×List Bool×List Int=>⟨[(0,.p (JE g)),(3,.hd 2 0 x.1.length),(4,.hd 3 0 x.2.1.length),(5,.hd 0 0 n),(6,.hd 1 0 n),(26,.p (.int .i64 n)),(27,.p (.int .i64 r))],[(0,.own 4 1 (x.2.2.1.map bv)),(1,.own 3 1 (x.2.2.2.map (.int .i64))),(2,.own 3 1 (x.1.map (.int .i64))),(3,.own 3 1 (x.2.1.map (.int .i64)))]⟩)
   (fun x=>EndI n g.1 x.1 x.2.1 x.2.2.1 x.2.2.2/\(r:Int)∈x.1++x.2.1/\∀y:Int,0<=y/\y<r->y∈x.1) (fun x=>muE g.1 x.2.2.2 n+(n-x.1.length)) (out,st0,seen0,at_)
   (Le.mk [] (by simp) (by simp) (by simp) (.r (.r (.cons (.of_eq (by first|(rw[hst];done)|(rw[hst];rfl))) (.r (.r (.r (.r .nil)))))))
     (.cons rfl (.of_eq (by rw[hs0];first|done|rfl|(rw[q5a];rfl))) (.cons rfl (.refl _) (.cons rfl (.refl _) (.cons rfl (.of_eq (by rw[hst];rfl)) .nil)))))
   ⟨h4,h5,h3⟩ ?_
  clear h4 h5 hst hs0 e1 hq hsl hal h2 h3;rintro⟨o,stk,s,t⟩ ⟨h2,h3,h4⟩;simp only at h2 h3 h4⊢;have hsl:=h2.sl;have hal:=h2.al;have hol:o.length<=n:=K1 (by have:=h2.dfs.nd;rw[q6j]at this;exact this.1) fun x hx=>h2.dfs.rng x (q3a.2 (.inl hx));rcases List.eq_nil_or_concat stk with rfl|⟨st,a,rfl⟩
  ·have hz:(([]:List Int).length)=0:=rfl;conv=>whnf
   repeat' (first|((first|(refine iM fun _=>?_)|refine wI ?_);conv=>whnf)|(apply bD<;>intro _<;>first|omega|conv=>whnf))
   exact⟨(r+1,o,s,t),⟨hr,h2,fun y hy=>by
    rcases Int.lt_or_le y r with hyr|hyr
    ·exact h4 y ⟨hy.1,hyr⟩
    ·have:y=r:=by simp only at hy;omega
     rw[this];simpa using h3⟩,by simp only;omega,Le.of_eq rfl⟩
  ·rw [List.concat_eq_append]at h2 h3⊢;have ha:=h2.dfs.rng a (by simp);have hstl:(st++[a]).length=st.length+1:=by simp
   obtain⟨hk0,hk1⟩:=h2.arng a ha;have e2:=Hg (l:=t) (i:=a.toNat) (by omega);have e3:((st++[a]).map (AV.int .i64))[st.length]?=some (.int .i64 a):=by simp
   have hrow:((avI g.1).map AV.sl)[a.toNat]?=some (.sl ((g.1.getD a.toNat []).map (.int .i64))):=by
    have:a.toNat<g.1.length:=by rw[hg.1];omega
    rw[q3p,q3b this];simp[avI,this]
   obtain⟨k,hk⟩ : ∃k:Nat,t.getD a.toNat 0=k:=⟨(t.getD a.toNat 0).toNat,by omega⟩;rw[hk]at e2 hk1;have hrl:((g.1.getD a.toNat []).map (AV.int .i64)).length=(g.1.getD a.toNat []).length:=q3f _;have hnd:=h2.dfs.nd;rcases q4w k (g.1.getD a.toNat []).length with hkl|hkl
   ·obtain⟨b,hb⟩ : ∃b,(g.1.getD a.toNat [])[k]?=some b:=⟨_,q3b hkl⟩;have hbe:(g.1.getD a.toNat [])[k]=b:=by rw[q3b hkl]at hb;exact q7c hb
    have hE:rowE g.1 a b:=⟨ha.1,q6h.2 ⟨k,hb⟩⟩;have hbr:=FY hg hE.2;have hmu:=Cd (by omega) hal hk hkl;have e4:=Aq (l:=s) (i:=b.toNat) (by omega);have hstk:(st++[a]).length<=n:=K1 (q6j.1 hnd).2.1 fun x hx=>h2.dfs.rng x (q3a.2 (.inr hx));have hms:(t.set a.toNat ((k:Int)+1)).map (AV.int .i64)=(t.map (AV.int .i64)).set a.toNat (.int .i64 ((k:Int)+1)):=q5a;have hkm:=h2.arng a ha;cases hq:s.getD b.toNat false with
    | true=>
      rw[hq]at e4;conv=>whnf
      repeat' (first|((first|(refine iM fun _=>?_)|refine dA ?_|refine q3l rfl ?_|(refine iA fun _=>?_)|refine wI ?_|refine q5z st.length (by omega) (by omega) ?_|refine q5f st.length 0 (.int .i64 a) (by omega) e3 ?_|refine q5z a.toNat (by omega) (by omega) ?_|refine q5f a.toNat 0 (.int .i64 k) (by omega) e2 ?_|(refine IdxK.at (k:=a.toNat) (by omega) hrow rfl ?_)|refine q5z b.toNat (by omega) (by omega) ?_|refine q5f b.toNat 0 .tt (by omega) e4 ?_|refine q7z a.toNat 0 (.int .i64 k) (.int .i64 (k+1)) (by omega) e2 (q4h 1) rfl ?_);conv=>whnf)|(apply bD<;>intro _<;>first|omega|conv=>whnf))
      exact⟨(o,st++[a],s,t.set a.toNat ((k:Int)+1)),⟨h2.step ha hk hb ((h2.seen b hbr).1 hq),h3,h4⟩,by simp only;omega,Le.mk [] (by simp) (by simp) (by simp) (.r (.r (.r (.r (.r (.r (.r .nil))))))) (.cons rfl (.refl _) (.cons rfl (.of_eq (by rw[hms])) (.cons rfl (.refl _) (.cons rfl (.refl _) .nil))))⟩
    | false=>
      rw[hq]at e4;conv=>whnf
      repeat' (first|((first|(refine iM fun _=>?_)|refine dA ?_|refine q3l rfl ?_|refine aD ?_|refine bP ?_|(refine iA fun _=>?_)|refine wI ?_|refine q5z st.length (by omega) (by omega) ?_|refine q5f st.length 0 (.int .i64 a) (by omega) e3 ?_|refine q5z a.toNat (by omega) (by omega) ?_|refine q5f a.toNat 0 (.int .i64 k) (by omega) e2 ?_|(refine IdxK.at (k:=a.toNat) (by omega) hrow rfl ?_)|refine q5z b.toNat (by omega) (by omega) ?_|refine q5f b.toNat 0 .ff (by omega) e4 ?_|refine q7z a.toNat 0 (.int .i64 k) (.int .i64 (k+1)) (by omega) e2 (q4h 1) rfl ?_|refine q7z b.toNat 0 .ff .tt (by omega) e4 (q4h 1) rfl ?_|refine ZD (by simp) (by simp;omega) ?_);conv=>whnf)|(apply bD<;>intro _<;>first|omega|conv=>whnf))
      have h8:=h2.push hbr hq (Zj st h2.dfs.path hE);exact⟨(o,st++[a]++[b],s.set b.toNat true,t.set a.toNat ((k:Int)+1)),⟨h8.step ha hk hb (by simp),by rw[<-q4c];exact q3a.2 (.inl h3),h4⟩,by simp only;omega,Le.mk [] (by simp) (by simp) (by simp) (.r (.r (.cons (.of_eq (by simp;rfl)) (.r (.r (.r (.r .nil))))))) (.cons rfl (.of_eq (by rw[q5a];rfl)) (.cons rfl (.of_eq (by rw[hms])) (.cons rfl (.refl _) (.cons rfl (.of_eq (by rw[hbe];simp;rfl)) .nil))))⟩
   ·have hkl2:k=(g.1.getD a.toNat []).length:=by omega
    have hp:=h2.pop (by rw[hk,hkl2]);have hol2:o.length+1<=n:=by
     have h7:=hp.dfs;have:=K1 (q6j.1 h7.nd).1 fun x hx=>h7.rng x (q3a.2 (.inl hx));simpa using this
    conv=>whnf
    repeat' (first|((first|(refine iM fun _=>?_)|refine dA ?_|refine q3l rfl ?_|refine aD ?_|refine bP ?_|refine wI ?_|refine q5z st.length (by omega) (by omega) ?_|refine q5f st.length 0 (.int .i64 a) (by omega) e3 ?_|refine q5z a.toNat (by omega) (by omega) ?_|refine q5f a.toNat 0 (.int .i64 k) (by omega) e2 ?_|(refine IdxK.at (k:=a.toNat) (by omega) hrow rfl ?_)|refine ZD (by simp) (by simp;omega) ?_|refine q8s 0 st.length rfl (by show((st++[a]).length:Int)-1=_;omega) (by omega) (by omega) ?_);conv=>whnf)|(apply bD<;>intro _<;>first|omega|conv=>whnf))
    have h9:muE g.1 t n+(n-(o++[a]).length)<muE g.1 t n+(n-o.length):=by simp;omega
    exact⟨(o++[a],st,s,t),⟨hp,by simpa[or_assoc,or_comm,or_left_comm]using h3,fun y hy=>q3a.2 (.inl (h4 y hy))⟩,h9,(Le.cut (.same (.same (.same (.cut (es':=st.map (.int .i64)) ⟨[.int .i64 a],by simp⟩ .nil))))).trans (Le.mk [] (by simp) (by simp) (by simp) (.r (.cons (.of_eq (by simp;rfl)) (.cons (.of_eq (by simp;rfl)) (.r (.r (.r (.r .nil))))))) (.cons rfl (.refl _) (.cons rfl (.refl _) (.cons rfl (.of_eq (by simp;rfl)) (.cons rfl (.refl _) .nil)))))⟩
def Ae(pre:List Bool)(rows:List (List Int)):List (List Int):=rows.map fun r=>r.filter fun b=> !pre.getD b.toNat false
theorem F1{pre:List Bool}{rows:List (List Int)}{x y:Int}:K2 (Ae pre rows) x y↔K2 rows x y/\pre.getD y.toNat false=false:=by
 unfold K2 Ae;simp only[q3p,q4x];cases rows[x.toNat]?with
 |none=>simp
 |some r=>simp
theorem El{n:Nat}{pre:List Bool}{rows:List (List Int)}(h:XH n rows):XH n (Ae pre rows):=by
 refine⟨by simp[Ae,h.1],fun r hr b hb=>?_⟩;obtain⟨r',hr',rfl⟩:=q3s.1 hr;exact h.2 r' hr' b (q5q.1 hb).1
structure SimW(pre:List Bool)(st st':List Bool×List Int):Prop where
 todo:st.2=st'.2
 len:st.1.length=st'.1.length
 mrk:∀k,st.1.getD k false=(pre.getD k false||st'.1.getD k false)
theorem SimW.see{pre:List Bool}{st st':List Bool×List Int}(h:SimW pre st st')(hb:b.toNat<st.1.length)(hp:pre.getD b.toNat false=false):SimW pre (JZ st b) (JZ st' b):=by
 have hm:=h.mrk b.toNat;rw[hp,Bool.false_or]at hm;unfold JZ;rw[hm];cases st'.1.getD b.toNat false with
 |true=>exact h
 | false=>
   refine⟨by simp only[q4f];rw[h.todo],by simpa using h.len,fun k=>?_⟩;simp only[q4f];rw[ZN hb,ZN (by rw[<-h.len];exact hb)];split
   ·simp
   ·exact h.mrk k
theorem SimW.skip{pre:List Bool}{st st':List Bool×List Int}(h:SimW pre st st')(hp:pre.getD b.toNat false=true):JZ st b=st:=by
 unfold JZ;rw[h.mrk,hp];rfl
theorem CF(st:List Bool×List Int)(b:Int):(JZ st b).1.length=st.1.length:=by
 unfold JZ;cases st.1.getD b.toNat false<;>simp
theorem SimW.fold{n:Nat}{pre:List Bool}:∀(l:List Int){st st':List Bool×List Int},SimW pre st st'->st.1.length=n->(∀b∈l,0<=b/\b<n)->SimW pre (l.foldl JZ st) ((l.filter fun b=> !pre.getD b.toNat false).foldl JZ st')/\(l.foldl JZ st).1.length=n
 |[],_,_,h,hn,_=>⟨h,hn⟩
 | b::r,st,st',h,hn,hl=>by
   have hb:=hl b q3d;have hr:∀c∈r,0<=c/\c<n:=fun c hc=>hl c (q3n _ hc);rw[q6v];cases hp:pre.getD b.toNat false with
   | true=>
     rw[h.skip hp,q6d (by rw[hp];simp)];exact SimW.fold r h hn hr
   | false=>
     rw[q6x (by rw[hp];simp),q6v];exact SimW.fold r (h.see (by omega) hp) (by rw[CF];exact hn) hr
theorem Gk{n:Nat}{pre:List Bool}{rows:List (List Int)}(hr:XH n rows):∀(k i:Nat){st st':List Bool×List Int},SimW pre st st'->st.1.length=n->SimW pre (ZX rows k i st) (ZX (Ae pre rows) k i st')
 |0,_,_,_,h,_=>h
 | k+1,i,st,st',h,hn=>by
   rw[ZX,ZX,<-h.todo];cases ha:st.2[i]?with
   |none=>exact h
   | some a=>
     simp only;have hrow:∀b∈rows.getD a.toNat [],0<=b/\b<n:=fun b hb=>FY hr hb;have he:(Ae pre rows).getD a.toNat []=(rows.getD a.toNat []).filter fun b=> !pre.getD b.toNat false:=by
      unfold Ae;simp only[q3p,q4x];cases rows[a.toNat]?with
      |none=>simp
      |some r=>simp
     rw[he];obtain⟨h1,h2⟩:=SimW.fold (n:=n) _ h hn hrow;exact Gk hr k (i+1) h1 h2
theorem Sr{n:Nat}{pre:List Bool}{rows:List (List Int)}(hr:XH n rows)(hp:pre.length=n){r:Int}(hrr:0<=r/\r<n)(hu:pre.getD r.toNat false=false):
  (∀x,x∈(ZX rows (n+1) 0 (pre.set r.toNat true,[r])).2↔Rch (fun a b=>K2 rows a b/\pre.getD b.toNat false=false) r x)/\
  (∀x:Int,0<=x/\x<n->((ZX rows (n+1) 0 (pre.set r.toNat true,[r])).1.getD x.toNat false=true↔pre.getD x.toNat false=true\/x∈(ZX rows (n+1) 0 (pre.set r.toNat true,[r])).2)):=by
 have e0:JZ (List.replicate n false,[]) r=((List.replicate n false).set r.toNat true,[r]):=by
  unfold JZ;have:(List.replicate n false).getD r.toNat false=false:=by
   rw[q3p,q4s];split<;>rfl
  simp only[this,q4f,q7w]
 obtain⟨h1,h2,_⟩:=(WkM.start n).see hrr;rw[e0]at h1 h2;have hsim:SimW pre (pre.set r.toNat true,[r]) ((List.replicate n false).set r.toNat true,[r]):=⟨rfl,by simp[hp],fun k=>by
  rw[ZN (by omega),ZN (by simp;omega)];split
  ·simp
  ·have:(List.replicate n false).getD k false=false:=by
    rw[q3p,q4s];split<;>rfl
   rw[this,Bool.or_false]⟩
 have hw:=Gk hr (n+1) 0 hsim (by simpa using hp);obtain⟨h3,h4,h5,h6⟩:=V6 (El (pre:=pre) hr) (n+1) 0 h1 (q3o _) (by omega) (fun m a hm=>by omega);refine⟨fun x=>?_,fun x hx=>?_⟩
 ·rw[hw.todo];constructor
  ·intro hx;exact h6 (fun x=>Rch (fun a b=>K2 rows a b/\pre.getD b.toNat false=false) r x) (fun x hx=>by rw[q3r.1 hx];exact .refl) (fun x b h7 h8=>.tail h7 (F1.1 h8)) x hx
  ·intro hx;exact hx.closed (S:=fun x=>x∈(ZX (Ae pre rows) (n+1) 0 ((List.replicate n false).set r.toNat true,[r])).2) (fun x y h7 h8=>h5 x h7 y (F1.2 h8)) (h4 r (by simp))
 ·rw[hw.mrk,hw.todo,h3.mem,q8w];exact⟨fun h=>h.imp id fun h=>⟨hx,h⟩,fun h=>h.imp id fun h=>h.2⟩
theorem Ju{n:Nat}(h:0<=a/\a<n):ZB n a=true:=by
 unfold ZB;simpa using h
structure MinP(E:Int->Int->Prop)(x v:Int):Prop where
 scc:sccP E x v
 le:∀y,sccP E x y->v<=y
theorem MinP.uniq{E:Int->Int->Prop}{x v w:Int}(h:MinP E x v)(h':MinP E x w):v=w:=Int.le_antisymm (h.le w h'.scc) (h'.le v h.scc)
def LR(n:Nat)(rows:List (List Int)):List Int:=(List.range n).map fun(a:Nat)=>Ka ((GT 0 (ZF rows [(a:Int)])).filter fun b=>(GT 0 (ZF rows [b])).contains (a:Int))
theorem CJ{n:Nat}{rows:List (List Int)}(hr:XH n rows){x y:Int}(hx:0<=x):Rch (rowE rows) x y↔Rch (K2 rows) x y:=by
 refine⟨fun h=>h.mono fun _ _ h=>h.2,fun h=>?_⟩;exact(h.closed (S:=fun y:Int=>0<=y/\Rch (rowE rows) x y) (fun a b ⟨h1,h2⟩ h3=>⟨(FY hr h3).1,.tail h2 ⟨h1,h3⟩⟩) ⟨hx,.refl⟩).2
theorem Nz{n:Nat}{rows:List (List Int)}(hr:XH n rows){x y:Int}(hx:0<=x/\x<n)(h:Rch (rowE rows) x y):0<=y/\y<n:=
 h.closed (S:=fun y:Int=>0<=y/\y<n) (fun _ _ _ h=>FY hr h.2) hx
theorem B3{n:Nat}{rows:List (List Int)}(hr:XH n rows){x:Int}(hx:0<=x/\x<n)(y:Int):y∈GT 0 (ZF rows [x])↔Rch (rowE rows) x y:=by
 rw[F8 hr,CJ hr hx.1];constructor
 ·rintro⟨a,ha,_,h⟩;rw[q3r.1 ha]at h;exact h
 ·intro h;exact⟨x,by simp,Ju hx,h⟩
theorem FZ(n:Nat)(rows:List (List Int)):(LR n rows).length=n:=by simp[LR]
theorem LT{n:Nat}{rows:List (List Int)}(hr:XH n rows){x:Int}(hx:0<=x/\x<n):MinP (rowE rows) x ((LR n rows).getD x.toNat 0):=by
 have e:(LR n rows).getD x.toNat 0=Ka ((GT 0 (ZF rows [x])).filter fun b=>(GT 0 (ZF rows [b])).contains x):=by
  unfold LR;rw[q3p,q4x,q7l (by omega)];have:((x.toNat:Nat):Int)=x:=by omega
  simp[this]
 have hm:∀y,y∈(GT 0 (ZF rows [x])).filter (fun b=>(GT 0 (ZF rows [b])).contains x)↔sccP (rowE rows) x y:=fun y=>by
  rw[q5q,B3 hr hx,List.contains_iff_mem];constructor
  ·rintro⟨h1,h2⟩;exact⟨h1,(B3 hr (Nz hr hx h1) x).1 h2⟩
  ·rintro⟨h1,h2⟩;exact⟨h1,(B3 hr (Nz hr hx h1) x).2 h2⟩
 rw[e];obtain⟨h1,h2⟩:=Hr (l:=(GT 0 (ZF rows [x])).filter fun b=>(GT 0 (ZF rows [b])).contains x) (q8g ((hm x).2 (sccP.refl x)));exact⟨(hm _).1 h1,fun y hy=>h2 y ((hm y).2 hy)⟩
structure PartI(n:Nat)(E:Int->Int->Prop)(es:List Int)(m:Nat)(part:List Int)(seen:List Bool):Prop where
 sl:seen.length=n
 pl:part.length=n
 seen:∀x:Int,0<=x/\x<n->(seen.getD x.toNat false=true↔SeenP E es m x)
 min:∀x:Int,0<=x/\x<n->SeenP E es m x->MinP E x (part.getD x.toNat 0)
theorem PartI.start{n:Nat}{E:Int->Int->Prop}{es:List Int}:PartI n E es es.length (List.replicate n 0) (List.replicate n false):=by
 have hno:∀x,¬SeenP E es es.length x:=fun x ⟨j,y,h1,h2,_⟩=>by
  have:=(q3c.1 h2).1;omega
 refine⟨by simp,by simp,fun x _=>?_,fun x _ hx=>absurd hx (hno x)⟩;rw[q3p,q4s];have:=hno x;split<;>simp[this]
def VP(l:List Int)(v:Int)(part:List Int):List Int:=l.foldl (fun p a=>p.set a.toNat v) part
theorem BT(v:Int):∀(l part:List Int),(VP l v part).length=part.length
 |[],_=>rfl
 | a::r,part=>by
   show(VP r v (part.set a.toNat v)).length=_;rw[BT v r];simp
theorem We{n:Nat}(v:Int){x:Int}(hx:0<=x/\x<n):∀(l:List Int){part:List Int},part.length=n->(∀a∈l,0<=a/\a<n)->(x∈l->(VP l v part).getD x.toNat 0=v)/\(x∉l->(VP l v part).getD x.toNat 0=part.getD x.toNat 0)
 |[],_,_,_=>⟨by simp,fun _=>rfl⟩
 | a::r,part,hl,ha=>by
   have ha0:=ha a q3d;have e:VP (a::r) v part=VP r v (part.set a.toNat v):=rfl;obtain⟨h1,h2⟩:=We v hx r (part:=part.set a.toNat v) (by simpa using hl) fun b hb=>ha b (q3n _ hb);have hg:(part.set a.toNat v).getD x.toNat 0=if a.toNat=x.toNat then v else part.getD x.toNat 0:=ZN (by omega);rw[e];by_cases hxr:x∈r
   ·exact⟨fun _=>h1 hxr,fun h=>absurd (q3n _ hxr) h⟩
   ·rw[h2 hxr,hg];constructor
    ·intro h;rcases q3t.1 h with rfl|h
     ·rw[if_pos rfl]
     ·exact absurd h hxr
    ·intro h;have:x≠a:=fun h'=>h (by rw[h'];exact q3d);rw[if_neg (by omega)]
theorem PartI.part{n:Nat}{g:List (List Int)×List (List Int)}(hg:XH n g.1)(hg2:XH n g.2)(hm:∀x y,rowE g.2 x y↔rowE g.1 y x){es:List Int}(he:EndsP n (rowE g.1) es){m:Nat}{part:List Int}{seen:List Bool}(h:PartI n (rowE g.1) es (m+1) part seen){r:Int}(hr:es[m]?=some r)(hu:seen.getD r.toNat false=false):
  (∀x∈(ZX g.2 (n+1) 0 (seen.set r.toNat true,[r])).2,0<=x/\x<n)/\0<(ZX g.2 (n+1) 0 (seen.set r.toNat true,[r])).2.length/\wkInv n (seen.set r.toNat true,[r])/\
  PartI n (rowE g.1) es m (VP (ZX g.2 (n+1) 0 (seen.set r.toNat true,[r])).2 (Ka (ZX g.2 (n+1) 0 (seen.set r.toNat true,[r])).2) part) (ZX g.2 (n+1) 0 (seen.set r.toNat true,[r])).1:=by
 have hrr:=(he.mem r).1 (q4n hr);have hsl:=h.sl;have hns:¬SeenP (rowE g.1) es (m+1) r:=fun hs=>by rw[(h.seen r hrr).2 hs]at hu;cases hu
 obtain⟨h1,h2⟩:=Sr hg2 h.sl hrr hu;have hin:∀x y,rowE g.1 x y->(0<=x/\x<n)/\0<=y/\y<n:=fun x y hxy=>⟨FY hg2 ((hm y x).2 hxy).2,FY hg hxy.2⟩;have hback:=Rh hin he hr hns;have hrel:∀x,Rch (fun a b=>K2 g.2 a b/\seen.getD b.toNat false=false) r x↔Rch (fun a b=>rowE g.1 b a/\¬SeenP (rowE g.1) es (m+1) b) r x:=fun x=>by
  constructor
  ·intro hx;exact(hx.closed (S:=fun x:Int=>(0<=x/\x<n)/\Rch (fun a b=>rowE g.1 b a/\¬SeenP (rowE g.1) es (m+1) b) r x) (fun a b ⟨h3,h4⟩ ⟨h5,h6⟩=>by
    have hb:=FY hg2 h5;refine⟨hb,.tail h4 ⟨(hm a b).1 ⟨h3.1,h5⟩,fun hs=>?_⟩⟩;rw[(h.seen b hb).2 hs]at h6;cases h6) ⟨hrr,.refl⟩).2
  ·intro hx;refine hx.mono fun a b ⟨h3,h4⟩=>⟨((hm a b).2 h3).2,?_⟩;have hb:=(hin b a h3).1;cases hq:seen.getD b.toNat false with
   |true=>exact absurd ((h.seen b hb).1 hq) h4
   |false=>rfl
 have hmem:∀x,x∈(ZX g.2 (n+1) 0 (seen.set r.toNat true,[r])).2↔sccP (rowE g.1) r x:=fun x=>by rw[h1,hrel,hback]
 have hrng:∀x∈(ZX g.2 (n+1) 0 (seen.set r.toNat true,[r])).2,0<=x/\x<n:=fun x hx=>Nz hg hrr ((hmem x).1 hx).1;have hpos:0<(ZX g.2 (n+1) 0 (seen.set r.toNat true,[r])).2.length:=q8g ((hmem r).2 (sccP.refl r));have hwk:wkInv n (seen.set r.toNat true,[r]):=by
  refine⟨by simpa using h.sl,?_,fun x hx=>by rw[q3r.1 hx];exact hrr⟩;have hlt:r.toNat<(seen.set r.toNat true).length:=by simp;omega
  show 1<=_;exact List.count_pos_iff.2 (q6k.2 ⟨r.toNat,hlt,by simp⟩)
 have hwl:(ZX g.2 (n+1) 0 (seen.set r.toNat true,[r])).1.length=n:=(FF hg2 _ _ hwk).1;generalize ZX g.2 (n+1) 0 (seen.set r.toNat true,[r])=w at hmem hrng hpos hwl h2⊢;obtain⟨h7,h8⟩:=Hr hpos;refine⟨hrng,hpos,hwk,hwl,by rw[BT];exact h.pl,fun x hx=>?_,fun x hx hs=>?_⟩
 ·rw[h2 x hx,hmem,h.seen x hx,Fw hr]
 ·obtain⟨h3,h4⟩:=We (Ka w.2) hx w.2 h.pl hrng;by_cases hxw:x∈w.2
  ·rw[h3 hxw];have hsx:=(hmem x).1 hxw;exact⟨hsx.symm.trans ((hmem _).1 h7),fun y hy=>h8 y ((hmem y).2 (hsx.trans hy))⟩
  ·rw[h4 hxw];refine h.min x hx ?_;rcases(Fw hr x).1 hs with h5|h5
   ·exact h5
   ·exact absurd ((hmem x).2 h5) hxw
theorem PartI.fin{n:Nat}{rows:List (List Int)}(hr:XH n rows){es:List Int}(he:EndsP n (rowE rows) es){part:List Int}{seen:List Bool}(h:PartI n (rowE rows) es 0 part seen):part=LR n rows:=by
 refine q8d fun i=>?_;rcases q4w i n with hi|hi
 ·have hx:0<=(i:Int)/\(i:Int)<n:=by omega
  have h1:=h.min i hx (CD he hx);have h2:=LT hr hx;have h3:=h1.uniq h2;have hp1:i<part.length:=by rw[h.pl];exact hi
  have hp2:i<(LR n rows).length:=by rw[FZ];exact hi
  simpa[q3p,hp1,hp2]using h3
 ·rw[q5w (by rw[h.pl];exact hi),q5w (by rw[FZ];exact hi)]
theorem LG(n:Nat)(hn:n<=5000)(g:List (List Int)×List (List Int))(hg:XH n g.1)(hg2:XH n g.2)(hgm:∀x y,rowE g.2 x y↔rowE g.1 y x):SpecP prog 235 [JE g] (fun r=>r=XU (LR n g.1)):=by
 refine sB DR func235 rfl call235 ?_;conv=>whnf
 have hl:((avI g.1).map AV.sl).length=n:=by simp[avI,hg.1]
 repeat' ((first|(refine iM fun _=>?_)|refine aR ?_|refine wI ?_|refine MkK.mk n (by rw[hl]) (by show 1*n<=140737488355328;omega) (by unfold maxLen;omega) ?_|refine MkK.mk n (by rw[hl]) (by show 8*n<=140737488355328;omega) (by unfold maxLen;omega) ?_|(refine CallK.pure (X6 n hn g hg) (.cons (Sub.refl _) .nil) ?_;rintro _ ⟨es,rfl,he⟩));conv=>whnf)
 have hesl:es.length<=n:=by
  have h1:=he.nd;exact K1 h1 fun x hx=>(he.mem x).1 hx
 have hml:(es.map (AV.int .i64)).length=es.length:=q3f _;refine LoopK.inv QY (fun x:Nat×List Int×List Bool=>⟨[(0,.p (JE g)),(3,.hd 0 0 n),(4,.hd 1 0 n),(5,.p (XU es)),(6,.p (.int .i64 ((x.1:Int)-1)))],[(0,.own 3 1 (x.2.1.map (.int .i64))),(1,.own 4 1 (x.2.2.map bv))]⟩)
  (fun x=>x.1<=es.length/\PartI n (rowE g.1) es x.1 x.2.1 x.2.2) (fun x=>x.1) (es.length,List.replicate n 0,List.replicate n false)
  (Le.mk [] (by simp) (by simp) (by simp) (.r (.cons (.of_eq rfl) (.cons (.of_eq rfl) (.r (.cons (.of_eq (by rw[hml];rfl)) .nil)))))
    (.cons rfl (.of_eq (by rw[q6p];rfl)) (.cons rfl (.of_eq (by rw[q6p];rfl)) .nil)))
  ⟨q4h _,PartI.start⟩ ?_
 rintro⟨m,part,seen⟩ ⟨h1,h2⟩;simp only at h1 h2⊢;have hsl:=h2.sl;have hpl:=h2.pl;cases m with
 | zero=>
   conv=>whnf
   repeat' (apply bD<;>intro _<;>first|omega|conv=>whnf)
   exact⟨_,.hd rfl (by simp[hpl]),by rw[h2.fin hg he];rfl⟩
 | succ m=>
   obtain⟨r,hr⟩ : ∃r,es[m]?=some r:=⟨_,q3b (by omega)⟩;have hrr:=(he.mem r).1 (q4n hr);have hre:es[m]=r:=by rw[q3b (by omega)]at hr;exact q7c hr
   have hra:(es.map (AV.int .i64))[m]?=some (.int .i64 r):=by rw[q4x,hr];rfl
   have e1:=Aq (l:=seen) (i:=r.toNat) (by omega);cases hq:seen.getD r.toNat false with
   | true=>
     rw[hq]at e1;have hsk:=TM hr ((h2.seen r hrr).1 hq);conv=>whnf
     repeat' (first|((first|refine q3l rfl ?_|refine wI ?_|(refine IdxK.at (k:=m) (by omega) hra rfl ?_)|refine q5z r.toNat (by omega) (by omega) ?_|refine q5f r.toNat 0 .tt (by omega) e1 ?_);conv=>whnf)|(apply bD<;>intro _<;>first|omega|conv=>whnf))
     exact⟨(m,part,seen),⟨by simp only;omega,h2.sl,h2.pl,fun x hx=>by rw[h2.seen x hx,hsk],fun x hx hs=>h2.min x hx ((hsk x).1 hs)⟩,Nat.lt_succ_self m,Le.of_eq (by rw[show((m+1:Nat):Int)-1-1=(m:Int)-1 by omega])⟩
   | false=>
     rw[hq]at e1;obtain⟨h3,h4,h5,h6⟩:=h2.part hg hg2 hgm he hr hq;conv=>whnf
     repeat' (first|((first|refine dA ?_|refine q3l rfl ?_|refine aD ?_|(refine IdxK.at (k:=m) (by omega) hra rfl ?_)|refine q5z r.toNat (by omega) (by omega) ?_|refine q5f r.toNat 0 .ff (by omega) e1 ?_|refine q7z r.toNat 0 .ff .tt (by omega) e1 (q4h 1) rfl ?_|refine q8i (fun x hx=>by rcases q3r.1 hx with rfl;rfl) rfl ?_);conv=>whnf)|(apply bD<;>intro _<;>first|omega|conv=>whnf))
     have hwl:(ZX g.2 (n+1) 0 (seen.set r.toNat true,[r])).1.length=n:=h6.sl;rw[show(seen.map bv).set r.toNat AV.tt=(seen.set r.toNat true).map bv by rw[q5a];rfl];refine CallK.heap [(1000,1),(2000,2)] 0 (q3i (q3e _) (q3i (q3e _) (q3i (q3e _) q4d))) (by refine q3h (j:=1) rfl rfl ?_ ?_;exact CSub.refl _;refine q3h (j:=2) rfl rfl ?_ ?_;exact CSub.refl _;exact q4b) (Uj n hn g.2 hg2 (seen.set r.toNat true,[r]) h5) rfl rfl ?_;rintro l' H' ⟨rfl,rfl⟩;conv=>whnf
     have hwn:(ZX g.2 (n+1) 0 (seen.set r.toNat true,[r])).2.length<=n:=FP (FF hg2 _ _ h5);generalize ZX g.2 (n+1) 0 (seen.set r.toNat true,[r])=w at h3 h4 h6 hwl hwn⊢;repeat' ((first|(refine iM fun _=>?_)|(refine XG (BS w.2 h4) (.cons (.hd rfl (by simp)) .nil) (by rintro _ rfl;rfl) ?_;rintro _ rfl));conv=>whnf)
     refine LoopK.inv QY (fun x:Nat=>⟨[(0,.p (JE g)),(3,.hd 0 0 n),(4,.hd 1 0 n),(5,.p (XU es)),(6,.p (.int .i64 (((m+1:Nat):Int)-1))),(8,.p (.int .i64 (Ka w.2))),(60,.hd 2 0 w.2.length),(61,.p (.int .i64 w.2.length)),(62,.p (.int .i64 x))],[(1,.own 4 1 (w.1.map bv)),(2,.own 3 1 (w.2.map (.int .i64))),(0,.own 3 1 ((VP (w.2.take x) (Ka w.2) part).map (.int .i64)))]⟩)
      (fun x=>x<=w.2.length) (fun x=>w.2.length-x) 0 (Le.of_eq rfl) (q3o _) ?_
     intro q hqw;rcases q4w q w.2.length with hq2|hq2
     ·have hwr:=h3 _ (q4u hq2);have e4:=Hg (l:=VP (w.2.take q) (Ka w.2) part) (i:=w.2[q].toNat) (by rw[BT];omega);have e5:VP (w.2.take (q+1)) (Ka w.2) part=(VP (w.2.take q) (Ka w.2) part).set w.2[q].toNat (Ka w.2):=by
       unfold VP;rw[q4y hq2,List.foldl_append];rfl
      generalize VP (w.2.take q) (Ka w.2) part=pt at e4 e5⊢;conv=>whnf
      repeat' (first|((first|refine q3l rfl ?_|refine wI ?_|refine q5z q (by omega) (by omega) ?_|refine q5f q 0 (.int .i64 w.2[q]) (by omega) (by simp[hq2]) ?_|refine q5z w.2[q].toNat (by omega) (by omega) ?_|refine q7z w.2[q].toNat 0 (.int .i64 (pt.getD w.2[q].toNat 0)) (.int .i64 (Ka w.2)) (by omega) e4 (q4h 1) rfl ?_);conv=>whnf)|(apply bD<;>intro _<;>first|omega|conv=>whnf))
      exact⟨q+1,hq2,by omega,Le.of_eq (by rw[e5,q5a];rfl)⟩
     ·rw[q4g hq2];conv=>whnf
      repeat' (first|(refine wI ?_;conv=>whnf)|(apply bD<;>intro _<;>first|omega|conv=>whnf))
      exact⟨(m,VP w.2 (Ka w.2) part,w.1),⟨by simp only;omega,h6⟩,Nat.lt_succ_self m,Le.mk [] (by simp) (by simp) (by simp) (.r (.r (.r (.r (.cons (.of_eq (by rw[show(m:Int)=((m+1:Nat):Int)-1 by omega];rfl)) .nil))))) (.cons rfl (.refl _) (.cons rfl (.refl _) .nil))⟩
theorem OpK.frz{P:Program}{T:Tab}{N:Nat}{o:Oper}{K:St->Prop}{s:St}(hT:TabOK P T)(gs:List (List Nat))(h:Ow gs s fun s'=>opW P T N s' o K):OpK P N s o K:=⟨fun σ β a w hr Q=>by
 obtain⟨s1,h1,hle⟩:=Zr (N:=N) h;obtain⟨σ1,β1,hr1,hl1⟩:=hle σ β a w hr;exact Oper.wp_mono (fun a' w' ⟨σ',β',s2,hK,hr',hl⟩=>⟨σ',β',s2,hK,hr',hl1.trans hl⟩) (FQ hT h1 hr1 Q)⟩
theorem Nx{N:List (List Int)}{a:Nat}(ha:a<N.length){y:Int}{k:Nat}:y∈(Uc N a b).getD k []↔y∈N.getD k []\/(a=k/\y=b):=by
 unfold Uc;rw[ZN ha];split
 ·rename_i h;rw[Pd,h];simp
 ·rename_i h;simp[h]
theorem Ru{n:Nat}{g:List (List Int)×List (List Int)}(hl:g.2.length=n)(e:Int×Int):(Ks n g e).2.length=n:=by
 rw[Vi];cases(ZB n e.1&&ZB n e.2 && !(g.1.getD e.1.toNat []).contains e.2)with
 |true=>rw[q4v];unfold Uc;rw[q5s];exact hl
 |false=>exact hl
structure MirG(n:Nat)(g:List (List Int)×List (List Int)):Prop where
 l1:g.1.length=n
 l2:g.2.length=n
 m:∀x y:Int,0<=x/\x<n->0<=y/\y<n->(y∈g.1.getD x.toNat []↔x∈g.2.getD y.toNat [])
theorem MirG.add{n:Nat}{g:List (List Int)×List (List Int)}(h:MirG n g)(e:Int×Int):MirG n (Ks n g e):=by
 refine⟨Be h.l1 e,Ru h.l2 e,fun x y hx hy=>?_⟩;rw[Z8,Vi];cases hc:(ZB n e.1&&ZB n e.2 && !(g.1.getD e.1.toNat []).contains e.2)with
 | true=>
   simp only[q4k]at hc;have h1:=XA hc.1.1;have h2:=XA hc.1.2;rw[q4v,q4v,Nx (by rw[h.l1];omega),Nx (by rw[h.l2];omega),h.m x y hx hy];constructor
   ·rintro(h3|⟨h3,h4⟩)
    ·exact .inl h3
    ·exact .inr ⟨by omega,by omega⟩
   ·rintro(h3|⟨h3,h4⟩)
    ·exact .inl h3
    ·exact .inr ⟨by omega,by omega⟩
 |false=>exact h.m x y hx hy
theorem MirG.fold{n:Nat}:∀(l:List (Int×Int)){g:List (List Int)×List (List Int)},MirG n g->MirG n (l.foldl (Ks n) g)
 |[],_,h=>h
 |e::r,_,h=>MirG.fold r (h.add e)
theorem Hy(n:Nat)(l:List (Int×Int)):MirG n (QC n l):=by
 refine MirG.fold l ⟨by simp,by simp,fun x y _ _=>?_⟩;have:∀k,(List.replicate n ([]:List Int)).getD k []=[]:=fun k=>by
  rw[q3p,q4s];split<;>rfl
 simp only[this];simp
theorem Bz{n:Nat}{rows:List (List Int)}(hl:rows.length=n){x y:Int}(h:rowE rows x y):0<=x/\x<n:=by
 refine⟨h.1,?_⟩;have h2:=h.2;unfold K2 at h2;rcases q4w x.toNat rows.length with h3|h3
 ·omega
 ·rw[q3p,q5w h3]at h2;simp at h2
theorem Mp(n:Nat)(l:List (Int×Int))(x y:Int):rowE (QC n l).2 x y↔rowE (QC n l).1 y x:=by
 obtain⟨h1,h2⟩:=JO n l;have hm:=Hy n l;constructor
 ·intro h;have hx:=Bz hm.l2 h;have hy:=FY h2 h.2;exact⟨hy.1,(hm.m y x hy hx).2 h.2⟩
 ·intro h;have hx:=Bz hm.l1 h;have hy:=FY h1 h.2;exact⟨hy.1,(hm.m y x hx hy).1 h.2⟩
theorem Mn{n:Nat}{l:List (Int×Int)}{x y:Int}:rowE (QC n l).1 x y↔(x,y)∈l/\ZB n x=true/\ZB n y=true:=by
 constructor
 ·intro h;have hx:=Bz (Hy n l).l1 h;have:=(FA hx).1 h.2;exact⟨this.1,Ju hx,this.2⟩
 ·rintro⟨h1,h2,h3⟩;have hx:=XA h2;exact⟨hx.1,(FA hx).2 ⟨h1,h3⟩⟩
def LL(part:List Int)(o:List Bool)(t:Int×Int):List Bool:=if part.getD t.1.toNat 0=part.getD t.2.toNat 0 then o else o.set (part.getD t.1.toNat 0).toNat true
def Vr(n:Nat)(part:List Int):List Bool:=((List.replicate n false).set (part.getD 0 0).toNat true).set (part.getD (n-1) 0).toNat true
def Jt(n:Nat)(part:List Int)(prs:List (Int×Int)):List Bool:=prs.foldl (LL part) (Vr n part)
def FH(plc:Int->Int)(part:List Int)(i q:Nat):List Int:=((List.range q).filter fun j=>part.getD j 0==(i:Int)).map fun(j:Nat)=>plc j
def V2(part:List Int)(op:List Bool)(i:Nat):Bool:=part.getD i 0==(i:Int) && !op.getD i false
def Q2(plc:Int->Int)(part:List Int)(op:List Bool)(q:Nat):List (List Int):=((List.range q).filter (V2 part op)).map fun i=>FH plc part i part.length
def prsW(w:Way)(f:Pr):List (Int×Int):=w.real.map (ixP w.p w.j f w.n)
def WE(w:Way)(f:Pr):List Int:=LR w.n.toNat (QC w.n.toNat (prsW w f)).1
def trapsW(w:Way)(f:Pr):List (List Int):=Q2 (ZY w.p w.j w.n) (WE w f) (Jt w.n.toNat (WE w f) (prsW w f)) (WE w f).length
theorem F5(part:List Int)(o:List Bool)(t:Int×Int):(LL part o t).length=o.length:=by
 unfold LL;split<;>simp
theorem N5{n:Nat}{rows:List (List Int)}(hr:XH n rows){k:Nat}(hk:k<n):0<=(LR n rows).getD k 0/\(LR n rows).getD k 0<n:=by
 have hx:0<=(k:Int)/\(k:Int)<n:=by omega
 have:=LT hr hx;exact Nz hr hx this.scc.1
theorem Ln(plc:Int->Int)(part:List Int)(i q:Nat):FH plc part i (q+1)=if part.getD q 0=(i:Int)then FH plc part i q++[plc q]else FH plc part i q:=by
 unfold FH;rw[List.range_succ,q6s,q4z];by_cases h:part.getD q 0=(i:Int)
 ·rw[if_pos h,q6x (by rw[h];simp)];rfl
 ·rw[if_neg h,q6d (by simpa using h)];simp
theorem Lp(plc:Int->Int)(part:List Int)(op:List Bool)(q:Nat):Q2 plc part op (q+1)=if V2 part op q=true then Q2 plc part op q++[FH plc part q part.length]else Q2 plc part op q:=by
 unfold Q2;rw[List.range_succ,q6s,q4z];by_cases h:V2 part op q=true
 ·rw[if_pos h,q6x h];rfl
 ·rw[if_neg h,q6d h];simp
theorem Ff(plc:Int->Int)(part:List Int)(i q:Nat):(FH plc part i q).length<=q:=by
 unfold FH;rw[q3f];exact q5p (q7x _ _) (by simp)
theorem Fh(plc:Int->Int)(part:List Int)(op:List Bool)(q:Nat):(Q2 plc part op q).length<=q:=by
 unfold Q2;rw[q3f];exact q5p (q7x _ _) (by simp)
theorem F4(part:List Int):∀(l:List (Int×Int))(o:List Bool),(l.foldl (LL part) o).length=o.length
 |[],_=>rfl
 |t::r,o=>by rw[q6v,F4 part r,F5]
theorem Te(n:Nat)(part:List Int)(l:List (Int×Int)):(l.foldl (LL part) (Vr n part)).length=n:=by
 rw[F4];simp[Vr]
theorem Kl(w:Way)(f:Pr)(n:Nat)(hw:w.n=n)(hj:w.p.procs[w.j]?=some f)(hc:cntP w.p.procs<=1000)(hn:n<=5000)(hn2:2<=n)(hlen:w.real.length<=1000000)(hr:∀t∈prsW w f,(0<=t.1/\t.1<n)/\0<=t.2/\t.2<n):SpecP prog 196 [.ip w.cells] (fun r=>r=V9 (trapsW w f)):=by
 refine sB Z5 func196 rfl call196 ?_;conv=>whnf
 have hgi:=JO n (prsW w f);have hpart:WE w f=LR n (QC n (prsW w f)).1:=by unfold WE;rw[hw];rfl
 have htr:trapsW w f=Q2 (ZY w.p w.j w.n) (WE w f) (Jt n (WE w f) (prsW w f)) n:=by unfold trapsW;rw[hpart,FZ,hw];rfl
 have hpin:∀k,k<n->0<=(WE w f).getD k 0/\(WE w f).getD k 0<n:=fun k hk=>by rw[hpart];exact N5 hgi.1 hk
 have hpl:(WE w f).length=n:=by rw[hpart,FZ]
 have hcp:=LG n hn (QC n (prsW w f)) hgi.1 hgi.2 (Mp n (prsW w f));rw[<-hpart]at hcp;rw[htr];clear htr hpart hgi;generalize WE w f=part at hpin hpl hcp⊢;have ha0:=hpin 0 (by omega);have ha1:=hpin (n-1) (by omega);have hp0:=Hg (l:=part) (i:=0) (by omega);have hp1:=Hg (l:=part) (i:=n-1) (by omega);have e0:(List.replicate n AV.ff)[(part.getD 0 0).toNat]?=some .ff:=by rw[q4s,if_pos (by omega)]
 have e1:((List.replicate n AV.ff).set (part.getD 0 0).toNat .tt)[(part.getD (n-1) 0).toNat]?=some (bv (((List.replicate n false).set (part.getD 0 0).toNat true).getD (part.getD (n-1) 0).toNat false)):=by
  have:(List.replicate n AV.ff).set (part.getD 0 0).toNat .tt=((List.replicate n false).set (part.getD 0 0).toNat true).map bv:=by
   rw[q5a,q6p];rfl
  rw[this];exact Aq (by rw[q5s,q5d];omega)
 have hplm:(part.map (AV.int .i64)).length=n:=by rw[q3f,hpl]
 repeat' ((first|(refine iM fun _=>?_)|refine dA ?_|refine q3l rfl ?_|refine aR ?_|refine wI ?_|refine cP (Kr w f n hw hj hc hn w.real hlen) ?_|refine cP hcp ?_|refine MkK.mk n hw (by show 1*n<=140737488355328;omega) (by unfold maxLen;omega) ?_|(refine IdxK.at (k:=0) rfl hp0 rfl ?_)|(refine IdxK.at (k:=n-1) (by omega) hp1 rfl ?_)|refine q5z (part.getD 0 0).toNat (by omega) (by omega) ?_|refine q5z (part.getD (n-1) 0).toNat (by omega) (by omega) ?_|refine q7z (part.getD 0 0).toNat 0 .ff .tt (show(0+(part.getD 0 0).toNat)*1=(part.getD 0 0).toNat*1+0 by omega) e0 (q4h 1) rfl ?_|(refine CallK.pure (GF w f hj hc (by omega) w.real hlen) (.cons (Sub.refl _) (.cons (Sub.refl _) .nil)) ?_;rintro _ rfl)|(refine q7z (part.getD (n-1) 0).toNat 0 _ .tt (show(0+(part.getD (n-1) 0).toNat)*1=(part.getD (n-1) 0).toNat*1+0 by omega) e1 (q4h 1) (by cases((List.replicate n false).set (part.getD 0 0).toNat true).getD (part.getD (n-1) 0).toNat false<;>rfl) ?_));conv=>whnf)
 have hprl:(prsW w f).length<=1000000:=by unfold prsW;rw[q3f];exact hlen
 have hpl2:(avP (prsW w f)).length=(prsW w f).length:=by simp[avP]
 refine LoopK.inv QY (fun x:Nat×List Bool=>⟨[(0,.p (.ip w.cells)),(3,.p (XU part)),(4,.hd 0 0 n),(43,.p (.sl (avP (prsW w f)))),(44,.p (.int .i64 (avP (prsW w f)).length)),(45,.p (.int .i64 x.1))],[(0,.own 4 1 (x.2.map bv))]⟩)
  (fun x=>x.1<=(prsW w f).length/\x.2=((prsW w f).take x.1).foldl (LL part) (Vr n part)) (fun x=>(prsW w f).length-x.1) (0,Vr n part)
  (Le.mk [] (by simp) (by simp) (by simp) (.r (.r (.r (.r (.r (.r .nil)))))) (.cons rfl (.of_eq (by unfold Vr;rw[q5a,q5a,q6p];rfl)) .nil))
  ⟨q3o _,rfl⟩ ?_
 rintro⟨m,o⟩ ⟨h1,h2⟩;simp only at h1 h2⊢;have hol:o.length=n:=by rw[h2];exact Te n part _
 rcases q4w m (prsW w f).length with hm|hm
 ·obtain⟨⟨h3,h4⟩,h5,h6⟩:=hr _ (q4u hm);have h7:=hpin (prsW w f)[m].1.toNat (by omega);have h8:=hpin (prsW w f)[m].2.toNat (by omega);have e2:=Hg (l:=part) (i:=(prsW w f)[m].1.toNat) (by omega);have e3:=Hg (l:=part) (i:=(prsW w f)[m].2.toNat) (by omega);have e4:=Aq (l:=o) (i:=(part.getD (prsW w f)[m].1.toNat 0).toNat) (by omega);have hme:(avP (prsW w f))[m]?=some (.agg [.int .i64 (prsW w f)[m].1,.int .i64 (prsW w f)[m].2]):=by simp[avP,hm]
  have e5:((prsW w f).take (m+1)).foldl (LL part) (Vr n part)=LL part o (prsW w f)[m]:=by rw[q4y hm,List.foldl_append,<-h2];rfl
  conv=>whnf
  repeat' (first|((first|refine dA ?_|refine q3l rfl ?_|refine wI ?_|(refine IdxK.at (k:=m) rfl hme rfl ?_)|refine q5z 0 rfl (by decide) ?_|refine q5z 1 rfl (by decide) ?_|(refine IdxK.at (k:=(prsW w f)[m].1.toNat) (by omega) e2 rfl ?_)|(refine IdxK.at (k:=(prsW w f)[m].2.toNat) (by omega) e3 rfl ?_)|refine q5z (part.getD (prsW w f)[m].1.toNat 0).toNat (by omega) (by omega) ?_|refine q7z (part.getD (prsW w f)[m].1.toNat 0).toNat 0 _ .tt (by omega) e4 (q4h 1) (by cases o.getD (part.getD (prsW w f)[m].1.toNat 0).toNat false<;>rfl) ?_);conv=>whnf)|(apply bD<;>intro _<;>first|omega|conv=>whnf)|(apply bE<;>intro _<;>first|omega|conv=>whnf))
  all_goals first
   | (have hq:part.getD (prsW w f)[m].1.toNat 0=part.getD (prsW w f)[m].2.toNat 0:=by assumption
      exact⟨(m+1,o),⟨by simp only;omega,by simp only;rw[e5];unfold LL;rw[if_pos hq]⟩,by simp only;omega,Le.of_eq rfl⟩)
   | (have hq:¬part.getD (prsW w f)[m].1.toNat 0=part.getD (prsW w f)[m].2.toNat 0:=by assumption
      exact⟨(m+1,o.set (part.getD (prsW w f)[m].1.toNat 0).toNat true),⟨by simp only;omega,by simp only;rw[e5];unfold LL;rw[if_neg hq]⟩,by simp only;omega,Le.of_eq (by simp only[q5a];rfl)⟩)
 ·rw [q4g hm]at h2;have hop:Jt n part (prsW w f)=o:=h2.symm;rw[hop];clear hop h2 e0 e1 hp0 hp1 hcp;conv=>whnf
  repeat' (first|(refine iM fun _=>?_;conv=>whnf)|(apply bD<;>intro _<;>first|omega|conv=>whnf))
  refine LoopK.inv QY (fun q:Nat=>⟨[(0,.p (.ip w.cells)),(3,.p (XU part)),(4,.hd 0 0 n),(7,.hd 1 0 (Q2 (ZY w.p w.j w.n) part o q).length),(69,.p (.int .i64 (part.map (AV.int .i64)).length)),(70,.p (.int .i64 q))],[(0,.own 4 1 (o.map bv)),(1,.own 29 1 ((avI (Q2 (ZY w.p w.j w.n) part o q)).map AV.sl))]⟩)
   (fun q=>q<=n) (fun q=>n-q) 0
   (Le.mk [(1,.own 29 1 [])] (by simp[Chunk.new0];rfl) (by simp) (by simp) (.r (.r (.r (.cons (.nil q3d) (.r (.r .nil)))))) (.cons rfl (.refl _) (.new q3d .nil)))
   (q3o _) ?_
  intro q hqn;have hLl:=Fh (ZY w.p w.j w.n) part o q;rcases q4w q n with hq|hq
  ·have e2:=Hg (l:=part) (i:=q) (by omega);have e3:=Aq (l:=o) (i:=q) (by omega);have hsucc:=Lp (ZY w.p w.j w.n) part o q;generalize Q2 (ZY w.p w.j w.n) part o q=acc at hLl hsucc⊢;have hpe:part[q]=part.getD q 0:=by rw[q3p,q3b];rfl
   cases hb:o.getD q false with
   | true=>
     rw[hb]at e3;have ht:¬V2 part o q=true:=by unfold V2;rw[hb];simp
     rw[if_neg ht]at hsucc;conv=>whnf
     repeat' (first|((first|refine q3l rfl ?_|(refine iA fun _=>?_)|refine wI ?_|refine q5z q rfl (by omega) ?_|refine q5f q 0 .tt (by omega) e3 ?_);conv=>whnf)|(apply bD<;>intro _<;>first|omega|conv=>whnf)|(apply bE<;>intro _<;>first|omega|conv=>whnf))
     all_goals exact⟨q+1,hq,by omega,Le.of_eq (by rw[hsucc];rfl)⟩
   | false=>
     rw[hb]at e3;conv=>whnf
     repeat' (first|((first|(refine iM fun _=>?_)|refine q3l rfl ?_|(refine iA fun _=>?_)|refine wI ?_|refine q5z q rfl (by omega) ?_|refine q5f q 0 .ff (by omega) e3 ?_);conv=>whnf)|(apply bD<;>intro _<;>first|omega|conv=>whnf)|(apply bE<;>intro _<;>first|omega|conv=>whnf))
     all_goals try
      have hne:¬part.getD q 0=(q:Int):=by omega
      have ht:¬V2 part o q=true:=fun h=>by
       unfold V2 at h;rw[q4k,q7g]at h;exact hne h.1
      rw[if_neg ht]at hsucc;exact⟨q+1,hq,by omega,Le.of_eq (by rw[hsucc];rfl)⟩
     have hpq:part.getD q 0=(q:Int):=by omega
     have ht:V2 part o q=true:=by unfold V2;rw[hb,hpq];simp
     rw[if_pos ht,hpl]at hsucc;refine LoopK.inv QY (fun z:Nat=>⟨[(0,.p (.ip w.cells)),(3,.p (XU part)),(4,.hd 0 0 n),(7,.hd 1 0 acc.length),(8,.p (.int .i64 q)),(9,.hd 2 0 (FH (ZY w.p w.j w.n) part q z).length),(69,.p (.int .i64 (part.map (AV.int .i64)).length)),(70,.p (.int .i64 q)),(86,.p (.int .i64 (part.map (AV.int .i64)).length)),(87,.p (.int .i64 z))],[(0,.own 4 1 (o.map bv)),(1,.own 29 1 ((avI acc).map AV.sl)),(2,.own 3 1 ((FH (ZY w.p w.j w.n) part q z).map (.int .i64)))]⟩)
      (fun z=>z<=n) (fun z=>n-z) 0
      (Le.mk [(2,.own 3 1 [])] (by simp[Chunk.new0];rfl) (by simp) (by simp) (.r (.r (.r (.r (.r (.cons (.nil q3d) (.r (.r (.r (.r .nil)))))))))) (.cons rfl (.refl _) (.cons rfl (.refl _) (.new q3d .nil))))
      (q3o _) ?_
     intro z hzn;have hRl:=Ff (ZY w.p w.j w.n) part q z;rcases q4w z n with hz|hz
     ·have e4:=Hg (l:=part) (i:=z) (by omega);have hs2:=Ln (ZY w.p w.j w.n) part q z;generalize FH (ZY w.p w.j w.n) part q z=l at hRl hs2⊢;conv=>whnf
      repeat' (first|((first|refine q3l rfl ?_|refine aD ?_|refine bP ?_|(refine iA fun _=>?_)|refine wI ?_|(refine CallK.pure (MK w f hj hc (by omega) z (by omega)) (.cons (Sub.refl _) (.cons (Sub.refl _) .nil)) ?_;rintro _ rfl)|refine ZD (by simp) (by simp;omega) ?_);conv=>whnf)|(apply bD<;>intro _<;>first|omega|conv=>whnf))
      have hpz:part[z]=part.getD z 0:=by rw[q3p,q3b];rfl
      ·rw[if_pos (by omega)]at hs2;exact⟨z+1,hz,by omega,Le.of_eq (by rw[hs2,q3m,q4z];rfl)⟩
      ·have hpz:part[z]=part.getD z 0:=by rw[q3p,q3b];rfl
       rw[if_neg (by omega)]at hs2;exact⟨z+1,hz,by omega,Le.of_eq (by rw[hs2];rfl)⟩
     ·have hze:z=n:=by omega
      subst hze;conv=>whnf
      repeat' (apply bD<;>intro _<;>first|omega|conv=>whnf)
      have hfl:(FH (ZY w.p w.j w.n) part q z).length=((FH (ZY w.p w.j w.n) part q z).map (AV.int .i64)).length:=by simp
      refine OpK.frz QY [[9,104]] ?_;conv=>whnf
      refine LenK.mk hfl ?_;conv=>whnf
      refine LenK.mk hfl ?_;conv=>whnf
      repeat' ((first|refine q3l rfl ?_|refine aD ?_|refine bP ?_|refine wI ?_|refine q6g (by simp[avI]) rfl (by show(acc.length+1)*24<=140737488355328;omega) (by show acc.length+1<=9223372036854775807;omega) (fun x hx=>by rcases q3r.1 hx with rfl;exact⟨rfl,rfl⟩) ?_);conv=>whnf)
      exact⟨q+1,hq,by omega,Le.of_eq (by rw[hsucc];simp only[avI,q3m,q4z];rfl)⟩
  ·have hqe:q=n:=by omega
   subst hqe;conv=>whnf
   repeat' (apply bD<;>intro _<;>first|omega|conv=>whnf)
   exact⟨_,.hd rfl (by simp[avI]),rfl⟩
def vOf(p:Pg)(id:Int):List Step:=match Si p id with
 |some s=>if s.kind=10 then [⟨id,-1,3⟩]else []
 |none=>[]
def VT(w:Way)(f:Pr):List Step:=(trapsW w f).flatMap fun l=>l.flatMap (vOf w.p)
theorem EP(p:Pg)(id:Int):(vOf p id).length<=1:=by
 unfold vOf;split
 ·split<;>simp
 ·simp
theorem WR{α β:Type}{g:α->List β}{c:Nat}:∀(l:List α),(∀x∈l,(g x).length<=c)->(l.flatMap g).length<=l.length*c
 |[],_=>by simp
 | a::r,h=>by
   have h1:=h a q3d;have h2:=WR r fun x hx=>h x (q3n _ hx);rw[q5o,q3m,q4m,q6q];omega
theorem Bl(w:Way)(f:Pr)(n:Nat)(hw:w.n=n)(hj:w.p.procs[w.j]?=some f)(hc:cntP w.p.procs<=1000)(hn:n<=5000)(hn2:2<=n)(hlen:w.real.length<=1000000)(hr:∀t∈prsW w f,(0<=t.1/\t.1<n)/\0<=t.2/\t.2<n)(htl:(trapsW w f).length<=5000)(hti:∀l∈trapsW w f,l.length<=5000/\∀id∈l,1<=id/\id<=(sheetOf w.p).l.length):
  SpecH prog 155 [.p (.ip w.cells)] [] (fun r H=>r=.hd 0 0 (VT w f).length/\H=[(0,.own 206 3 (avS (VT w f)))]):=by
 refine sH ML func155 rfl call155 ?_;conv=>whnf
 repeat' ((first|(refine iM fun _=>?_)|refine cP (Kl w f n hw hj hc hn hn2 hlen hr) ?_);conv=>whnf)
 unfold VT;generalize trapsW w f=ts at htl hti⊢;have hml:((avI ts).map AV.sl).length=ts.length:=by simp[avI]
 refine LoopK.inv QY (fun x:Nat×List Step=>⟨[(0,.p (.ip w.cells)),(3,.hd 0 0 x.2.length),(9,.p (V9 ts)),(10,.p (.int .i64 ((avI ts).map AV.sl).length)),(11,.p (.int .i64 x.1))],[(0,.own 206 3 (avS x.2))]⟩)
  (fun x=>x.1<=ts.length/\x.2.length<=x.1*5000/\x.2++(ts.drop x.1).flatMap (fun l=>l.flatMap (vOf w.p))=ts.flatMap fun l=>l.flatMap (vOf w.p)) (fun x=>ts.length-x.1) (0,[])
  (Le.mk [(0,.own 206 3 [])] (by simp[Chunk.new0];rfl) (by simp) (by simp) (.r (.cons (.nil q3d) (.r (.r (.r .nil))))) (.new q3d .nil))
  ⟨q3o _,by simp,rfl⟩ ?_
 rintro⟨m,acc⟩ ⟨h1,h2,h3⟩;simp only at h1 h2 h3⊢;rcases q4w m ts.length with hm|hm;rotate_left 1
 ·rw[q4j hm,List.flatMap_nil,q5c]at h3;conv=>whnf
  repeat' (apply bD<;>intro _<;>first|omega|conv=>whnf)
  exact⟨_,q3e _,by rw[h3],by rw[h3]⟩
 obtain⟨hl1,hl2⟩:=hti _ (q4u hm);have hrow:((avI ts).map AV.sl)[m]?=some (.sl (ts[m].map (.int .i64))):=by simp[avI,hm]
 rw[YC hm]at h3;conv=>whnf
 repeat' (first|((first|(refine iM fun _=>?_)|(refine iA fun _=>?_));conv=>whnf)|(apply bD<;>intro _<;>first|omega|conv=>whnf))
 have hav:(avI ts)[m]'(by simp[avI];exact hm)=ts[m].map (.int .i64):=by simp[avI]
 rw[hav];generalize ts[m]=l at hl1 hl2 h3⊢;have hll:(l.map (AV.int .i64)).length=l.length:=q3f _;generalize htot:(ts.flatMap fun l=>l.flatMap (vOf w.p))=tot at h3⊢;refine LoopK.inv QY (fun x:Nat×List Step=>⟨[(0,.p (.ip w.cells)),(3,.hd 0 0 x.2.length),(9,.p (V9 ts)),(10,.p (.int .i64 ((avI ts).map AV.sl).length)),(11,.p (.int .i64 m)),(15,.p (XU l)),(16,.p (.int .i64 (l.map (AV.int .i64)).length)),(17,.p (.int .i64 x.1))],[(0,.own 206 3 (avS x.2))]⟩)
  (fun x=>x.1<=l.length/\x.2.length<=m*5000+x.1/\x.2++((l.drop x.1).flatMap (vOf w.p)++(ts.drop (m+1)).flatMap (fun l=>l.flatMap (vOf w.p)))=tot) (fun x=>l.length-x.1) (0,acc) (Le.of_eq rfl) ⟨q3o _,by simp only;omega,h3⟩ ?_
 rintro⟨k,acc2⟩ ⟨h4,h5,h6⟩;simp only at h4 h5 h6⊢;rcases q4w k l.length with hk|hk;rotate_left 1
 ·rw[q4j hk]at h6;conv=>whnf
  repeat' (first|(refine wI ?_;conv=>whnf)|(apply bD<;>intro _<;>first|omega|conv=>whnf))
  exact⟨(m+1,acc2),⟨hm,by simp only;omega,by simpa using h6⟩,by simp only;omega,Le.of_eq rfl⟩
 obtain⟨h7,h8⟩:=hl2 _ (q4u hk);obtain⟨_,_,_,hsl,_⟩:=QU w.p;have hlt:(l[k]-1).toNat<(sheetOf w.p).l.length:=by omega
 have hu:∃u:Item,((sheetOf w.p).l.map fun i=>AV.agg i.cells)[(l[k]-1).toNat]?=some (.agg u.cells)/\Si w.p l[k]=some u.s:=⟨_,by rw[q4x,q3b hlt];rfl,by unfold Si;rw[q3b hlt];rfl⟩;obtain⟨u,hu1,hu2⟩:=hu;rw[YC hk]at h6;have hv:vOf w.p l[k]=if u.s.kind=10 then [⟨l[k],-1,3⟩]else []:=by unfold vOf;rw[hu2]
 rw[hv]at h6;conv=>whnf
 repeat' (first|((first|refine q3l rfl ?_|refine aD ?_|refine bP ?_|(refine iA fun _=>?_)|refine wI ?_|(refine IdxK.at (by omega) hu1 rfl ?_)|refine q6g (by simp[avS]) rfl (by show(acc2.length+1)*24<=140737488355328;omega) (by show acc2.length+1<=9223372036854775807;omega) (fun x hx=>by rcases q3r.1 hx with rfl;exact⟨rfl,rfl⟩) ?_);conv=>whnf)|(apply bD<;>intro _<;>first|omega|conv=>whnf))
 ·rw[if_pos (by assumption)]at h6;exact⟨(k+1,acc2++[⟨l[k],-1,3⟩]),⟨hk,by simp;omega,by simpa using h6⟩,by simp only;omega,Le.of_eq (by simp only[avS,q3m,q4z];rfl)⟩
 ·rw[if_neg (by assumption)]at h6;exact⟨(k+1,acc2),⟨hk,by simp only;omega,by simpa using h6⟩,by simp only;omega,Le.of_eq rfl⟩
def fOf(it:Item):List Step:=if it.s.kind=7\/it.s.kind=8\/it.s.kind=9\/it.s.kind=10 then [⟨it.s.id,it.next,2⟩]else []
structure WayT(w:Way)(f:Pr)(n:Nat):Prop where
 hw:w.n=n
 hj:w.p.procs[w.j]?=some f
 hc:cntP w.p.procs<=1000
 hn:n<=5000
 hn2:2<=n
 hlen:w.real.length<=1000000
 hr:∀t∈prsW w f,(0<=t.1/\t.1<n)/\0<=t.2/\t.2<n
 htl:(trapsW w f).length<=5000
 hti:∀l∈trapsW w f,l.length<=5000/\∀id∈l,1<=id/\id<=(sheetOf w.p).l.length
 hok:∀s∈w.real,okSt s
 hfk:∀it∈itsOf w.p w.j f,∀s∈fOf it,okSt s
theorem EN{p:Pg}{id:Int}{s:Step}(h:s∈vOf p id):s=⟨id,-1,3⟩:=by
 unfold vOf at h;split at h
 ·split at h
  ·simpa using h
  ·simp at h
 ·simp at h
theorem WayT.virt_ok{w:Way}{f:Pr}{n:Nat}(h:WayT w f n):∀s∈VT w f,okSt s:=fun s hs=>by
 unfold VT at hs;obtain⟨l,hl,hs⟩:=q5g.1 hs;obtain⟨id,hid,hs⟩:=q5g.1 hs;obtain⟨_,_,_,hsl,_⟩:=QU w.p;have h1:=(h.hti l hl).2 id hid;have h2:=h.hc;rw[EN hs];exact⟨by show id≠_;omega,by show(-1:Int)≠_;decide⟩
theorem WayT.virt_len{w:Way}{f:Pr}{n:Nat}(h:WayT w f n):(VT w f).length<=25000000:=by
 have h1:=WR (g:=fun l=>l.flatMap (vOf w.p)) (c:=5000) (trapsW w f) fun l hl=>by
  have h2:=WR (g:=vOf w.p) (c:=1) l fun id _=>EP w.p id;have h3:=(h.hti l hl).1;omega
 have h2:=h.htl;unfold VT;omega
def HN(w:Way)(f:Pr):List Step:=WX (VT w f++w.real)
def U2(w:Way)(f:Pr):List Step:=VT w f++w.real++[⟨0,-1,2⟩]++(itsOf w.p w.j f).flatMap fOf
def q2v(w:Way)(f:Pr):List Step:=WX (U2 w f)
theorem Fr(w:Way)(f:Pr)(n:Nat)(h:WayT w f n):SpecP prog 95 [.ip w.cells] (fun r=>r=GN (HN w f)):=by
 refine sB Vy func95 rfl call95 ?_;conv=>whnf
 have hlen:=h.hlen;have hvl:=h.virt_len;have hvok:=h.virt_ok;repeat' (first|((first|refine dA ?_|refine aD ?_);conv=>whnf)|(refine CallK.heap [] 0 (q3i (q3e _) q4d) q4b (Bl w f n h.hw h.hj h.hc h.hn h.hn2 h.hlen h.hr h.htl h.hti) rfl rfl ?_;rintro l' H' ⟨rfl,rfl⟩;conv=>whnf))
 have hml:(w.real.map fun s=>AV.agg s.cells).length=w.real.length:=q3f _;have hvm:(avS (VT w f)).length=(VT w f).length:=by simp[avS]
 refine q6g hvm.symm rfl (by rw[hml];show((VT w f).length+w.real.length)*24<=140737488355328;omega) (by rw[hml];show(VT w f).length+w.real.length<=9223372036854775807;omega) (fun x hx=>by obtain⟨s,_,rfl⟩:=q3s.1 hx;exact⟨rfl,rfl⟩) ?_;conv=>whnf
 have happ:avS (VT w f)++(w.real.map fun s=>AV.agg s.cells)=avS (VT w f++w.real):=by simp[avS]
 have hlp:(VT w f).length+(w.real.map fun s=>AV.agg s.cells).length=(VT w f++w.real).length:=by simp
 rw[happ,hlp];repeat' (refine CallK.heap [(1000,0)] 0 (by repeat' (first|exact q4d|refine q3i ?_ ?_|exact q3e _|exact q4q Sub.nils|exact q4q (Sub.tt rfl)|exact q4q (Sub.ff rfl)|exact q4q (Sub.int (by omega)))) (by refine q3h (j:=0) rfl rfl ?_ ?_;exact CSub.refl _;exact q4b) (H3 (VT w f++w.real) (fun s hs=>(q3a.1 hs).elim (hvok s) (h.hok s)) (by rw[q3m];omega)) rfl rfl ?_;rintro l' H' ⟨rfl,rfl⟩;conv=>whnf)
 exact⟨_,.hd rfl (by simp[avS]),rfl⟩
theorem UH:∀(k:Nat)(x:X)(_:wX x<k)(_:k<=20002),SpecP prog 174 [.agg x.cells] (fun r=>r=.agg x.cells):=by
 intro k;induction k with
 |zero=>intro x h;omega
 | succ k ih=>
   intro x hx hk;have hxe:wX x=1+wXs x.kids:=by cases x;rw[wX];rfl
   have hkl:=X.avs_len x.kids;have hkn:=Sm x.kids;refine sB KL func174 rfl call174 ?_;conv=>whnf
   repeat' ((first|(refine iM fun _=>?_)|refine q3l rfl ?_);conv=>whnf)
   all_goals
    refine LoopK.inv QY (fun j:Nat=>⟨[(1,.p (.ip x.cells)),(2,.ptr 1 0),(3,.ptr 0 0),(14,.p (.int .i64 (X.avs x.kids).length)),(15,.p (.int .i64 j))],[(0,.obj 52 [.p (.int .i64 x.op),.p (.int .i64 x.n),.p (.str (x.name)),.hd 2 0 j]),(1,.obj 52 [.p (.int .i64 0),.p (.int .i64 0),.p (.str []),.p .nils]),(2,.own 52 4 (X.avs (x.kids.take j)))]⟩) (fun j=>j<=x.kids.length) (fun j=>x.kids.length-j) 0
     (Le.mk [(2,.own 52 4 [])] (by simp[Chunk.new0];rfl) (by simp) (by simp) (.r (.r (.r (.r (.r .nil))))) (.cons rfl (.obj (.r (.r (.r (.cons (.nil q3d) .nil))))) (.cons rfl (.refl _) (.new q3d .nil)))) (q3o _) ?_
    intro j h2;rcases q4w j x.kids.length with hj|hj
    ·have hkw:=AF (q4u hj);have hih:=ih x.kids[j] (by omega) (by omega);have htk:X.avs (x.kids.take (j+1))=X.avs (x.kids.take j)++[.agg (x.kids[j]).cells]:=by
      rw[X.avs_eq,X.avs_eq,q4y hj,q4z];rfl
     have hal:(X.avs (x.kids.take j)).length=j:=by rw[X.avs_len,q4l];omega
     generalize X.avs (x.kids.take j)=acc at htk hal⊢;conv=>whnf
     repeat' (first|((first|refine dA ?_|refine q3l rfl ?_|refine aD ?_|refine bP ?_|refine IdxK.xs (by omega) ?_|refine wI ?_|refine cP hih ?_|refine q6g hal.symm rfl (by show(j+1)*56<=140737488355328;omega) (by show j+1<=9223372036854775807;omega) (fun x hx=>by rcases q3r.1 hx with rfl;exact⟨rfl,rfl⟩) ?_);conv=>whnf)|(apply bD<;>intro _<;>first|omega|conv=>whnf)|(refine q3l ?_ ?_<;>conv=>whnf))
     all_goals exact⟨j+1,hj,by omega,Le.of_eq (by rw[htk];rfl)⟩
    ·have hall:X.avs (x.kids.take j)=X.avs x.kids:=by rw[q4g hj]
     have hal:(X.avs (x.kids.take j)).length=j:=by rw[X.avs_len,q4l];omega
     conv=>whnf
     repeat' (first|(refine q3l rfl ?_;conv=>whnf)|(apply bD<;>intro _<;>first|omega|conv=>whnf))
     refine⟨_,.agg (cs:=x.cells) rfl fun i l c h1 h3=>?_,rfl⟩
     match i,h1,h3 with
     |0,h1,h3=>cases h1;cases h3;exact .p (Sub.refl _)
     |1,h1,h3=>cases h1;cases h3;exact .p (Sub.refl _)
     |2,h1,h3=>cases h1;cases h3;exact .p (Sub.refl _)
     | 3,h1,h3=>
       cases h1;cases h3;show Frz _ _ (.sl (X.avs x.kids));rw[<-hall];exact .hd rfl hal.symm
     |i+4,h1,h3=>simp at h1
end Go.Ab
