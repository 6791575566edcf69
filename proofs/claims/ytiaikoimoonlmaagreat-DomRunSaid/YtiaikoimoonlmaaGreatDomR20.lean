/- LAW: rows turned within bounds; sorted by a key; merging. -/
import Derived.Test.YtiaikoimoonlmaaGreatDomR13
import Derived.Test.YtiaikoimoonlmaaGreatDomR16
import Derived.Test.YtiaikoimoonlmaaGreatDomR18
import Derived.Test.YtiaikoimoonlmaaGreatDomR19
set_option linter.unusedSimpArgs false
set_option linter.unusedVariables false
set_option maxRecDepth 100000
set_option maxHeartbeats 16000000
open List (getD_eq_getElem?_getD length_append length_drop length_map length_take mem_cons_self take_append_drop take_take)
open Nat (succ_mul zero_le)
namespace Go.Ab
open Go.Proofs
def getz (l:List Int) (i:Nat):Int:=l.getD i 0
theorem GL {l:List Int} {i:Nat} (h:i<l.length):l[i]? = some (getz l i):=by
 unfold getz;rw [getD_eq_getElem?_getD,List.getElem?_eq_getElem h];rfl
theorem NF {l m:List Int} (hl:l.length=m.length) (h : ∀ i,i<l.length->getz l i=getz m i):l=m:=by
 refine List.ext_getElem? fun i => ?_;rcases Nat.lt_or_ge i l.length with hi|hi
 ·rw [GL hi,GL (by omega),h i hi]
 ·rw [List.getElem?_eq_none hi,List.getElem?_eq_none (by omega)]
theorem q2z {l:List Int} {k i:Nat} {x:Int} (hk:k<l.length):getz (l.set k x) i=if i=k then x else getz l i:=by
 unfold getz;rw [getD_eq_getElem?_getD,List.getElem?_set];by_cases h:k=i
 ·subst h;simp [hk]
 ·rw [if_neg h,if_neg (Ne.symm h),getD_eq_getElem?_getD]
theorem ZG {A B:List Int} {i:Nat}:getz (A++B) i=if i<A.length then getz A i else getz B (i-A.length):=by
 unfold getz;rw [getD_eq_getElem?_getD];split
 ·rename_i h;rw [List.getElem?_append_left h,getD_eq_getElem?_getD]
 ·rename_i h;rw [List.getElem?_append_right (by omega),getD_eq_getElem?_getD]
theorem WB {l:List Int} {i:Nat} (h:i<l.length):getz l i∈l:=by
 have:=GL h;exact List.mem_of_getElem? this
def PermIn (row row':List Int) (a b:Nat):Prop := ∃ P C D S,P.length=a∧P.length+C.length=b∧row=P++C++S∧row'=P++D++S∧D.Perm C
theorem PermIn.len {row row':List Int} {a b:Nat} (h:PermIn row row' a b):row'.length=row.length∧a<=b∧b<=row.length:=by
 obtain ⟨P,C,D,S,h1,h2,rfl,rfl,h3⟩:=h;have:=h3.length_eq;simp only [length_append];omega
theorem PermIn.perm {row row':List Int} {a b:Nat} (h:PermIn row row' a b):row'.Perm row:=by
 obtain ⟨P,C,D,S,h1,h2,rfl,rfl,h3⟩:=h;exact ((List.perm_append_left_iff P).2 h3).append_right S
theorem PermIn.out {row row':List Int} {a b:Nat} (h:PermIn row row' a b) {i:Nat} (hi:i<a∨b<=i):getz row' i=getz row i:=by
 obtain ⟨P,C,D,S,h1,h2,rfl,rfl,h3⟩:=h;have hl:=h3.length_eq;rw [ZG,ZG,ZG,ZG];simp only [length_append];rcases hi with hi|hi
 ·rw [if_pos (by omega),if_pos (by omega),if_pos (by omega),if_pos (by omega)]
 ·rw [if_neg (by omega),if_neg (by omega)];congr 1;omega
theorem PermIn.inn {row row':List Int} {a b:Nat} (h:PermIn row row' a b) {i:Nat} (h1:a<=i) (h2:i<b) : ∃ k,a<=k∧k<b∧getz row' i=getz row k:=by
 obtain ⟨P,C,D,S,h3,h4,rfl,rfl,h5⟩:=h;have hl:=h5.length_eq;have hd:i-P.length<D.length:=by omega
 have hm:getz D (i-P.length)∈C:=h5.mem_iff.1 (WB hd);obtain ⟨k,hk,he⟩:=List.mem_iff_getElem.1 hm;refine ⟨P.length+k,by omega,by omega,?_⟩;have e1:getz (P++D++S) i=getz D (i-P.length):=by
  rw [ZG,ZG,length_append,if_pos (by omega),if_neg (by omega)]
 have e2:getz (P++C++S) (P.length+k)=getz C k:=by
  rw [ZG,ZG,length_append,if_pos (by omega),if_neg (by omega)];congr 1;omega
 rw [e1,e2,<- he];have:=GL hk;rw [List.getElem?_eq_getElem hk] at this;exact Option.some.inj this
theorem w5d {row:List Int} {a b:Nat} (h1:a<=b) (h2:b<=row.length) : ∃ P C S,P.length=a∧P.length+C.length=b∧row=P++C++S:=by
 refine ⟨row.take a,(row.take b).drop a,row.drop b,by rw [length_take];omega,by rw [length_take,length_drop,length_take];omega,?_⟩;have e1:row.take b=(row.take b).take a++(row.take b).drop a:=(take_append_drop a _).symm;rw [take_take,show min a b=a by omega] at e1;rw [<- e1,take_append_drop]
theorem PermIn.refl {row:List Int} {a b:Nat} (h1:a<=b) (h2:b<=row.length):PermIn row row a b:=by
 obtain ⟨P,C,S,h3,h4,h5⟩:=w5d h1 h2;exact ⟨P,C,C,S,h3,h4,h5,h5,.refl _⟩
theorem PermIn.trans {r1 r2 r3:List Int} {a b:Nat} (h:PermIn r1 r2 a b) (h':PermIn r2 r3 a b):PermIn r1 r3 a b:=by
 obtain ⟨P,C,D,S,h1,h2,rfl,rfl,h3⟩:=h;obtain ⟨P',C',D',S',h1',h2',h4,rfl,h3'⟩:=h';have hl:=h3.length_eq;rw [List.append_assoc,List.append_assoc] at h4;obtain ⟨rfl,h5⟩:=List.append_inj h4 (by omega);obtain ⟨rfl,rfl⟩:=List.append_inj h5 (by omega);exact ⟨P,C,D',S,h1,h2,rfl,rfl,h3'.trans h3⟩
theorem PermIn.wide {row row':List Int} {a b a' b':Nat} (h:PermIn row row' a b) (h1:a'<=a) (h2:b<=b') (h3:b'<=row.length):PermIn row row' a' b':=by
 obtain ⟨P,C,D,S,h4,h5,rfl,rfl,h6⟩:=h;simp only [length_append] at h3;refine ⟨P.take a',P.drop a'++C++S.take (b'-b),P.drop a'++D++S.take (b'-b),S.drop (b'-b),by rw [length_take];omega,?_,?_,?_,?_⟩
 ·simp only [length_append,length_take,length_drop];omega
 ·rw [show P.take a'++(P.drop a'++C++S.take (b'-b))++S.drop (b'-b)=(P.take a'++P.drop a')++C++(S.take (b'-b)++S.drop (b'-b)) by simp only [List.append_assoc],take_append_drop,take_append_drop]
 ·rw [show P.take a'++(P.drop a'++D++S.take (b'-b))++S.drop (b'-b)=(P.take a'++P.drop a')++D++(S.take (b'-b)++S.drop (b'-b)) by simp only [List.append_assoc],take_append_drop,take_append_drop]
 ·exact ((List.perm_append_left_iff _).2 h6).append_right _
theorem q8e {row:List Int} {k:Nat} (h:k+1<row.length):PermIn row ((row.set k (getz row (k+1))).set (k+1) (getz row k)) k (k+2):=by
 obtain ⟨P,C,S,h1,h2,h3⟩:=w5d (row:=row) (a:=k) (b:=k+2) (by omega) (by omega)
 match C,h2 with
 | [x,y],h2 =>
   refine ⟨P,[x,y],[y,x],S,h1,h2,h3,?_,.swap x y []⟩;have ex:getz row k=x:=by rw [h3,ZG,ZG,length_append,if_pos (by simp;omega),if_neg (by omega),show k-P.length=0 by omega];rfl
   have ey:getz row (k+1)=y:=by rw [h3,ZG,ZG,length_append,if_pos (by simp;omega),if_neg (by omega),show k+1-P.length=1 by omega];rfl
   rw [ex,ey,h3];have s1:P++[x,y]++S=P++x::(y::S):=by simp
   rw [s1,q3p _ _ _ _ h1.symm];have s2:P++y::(y::S)=(P++[y])++y::S:=by simp
   rw [s2,q3p _ _ _ _ (by simp;omega)];simp
 | [],h2=>simp at h2;omega
 | [x],h2=>simp at h2;omega
 | _::_::_::_,h2=>simp at h2;omega
def srt (K:Int->Int) (l:List Int) (a b:Nat):Prop := ∀ i k,a<=i->i<k->k<b->K (getz l k)<=K (getz l i)
theorem srt.le {K:Int->Int} {l:List Int} {a b i k:Nat} (h:srt K l a b) (h1:a<=i) (h2:i<=k) (h3:k<b):K (getz l k)<=K (getz l i):=by
 rcases Nat.lt_or_eq_of_le h2 with h4|rfl
 ·exact h i k h1 h4 h3
 ·exact Int.le_refl _
def mvR (l:List Int) (a k:Nat):List Int:=(List.range l.length).map fun i=>if i<a then getz l i else if i<k then getz l (i+1) else if i=k then getz l a else getz l i
theorem KL (l:List Int) (a k:Nat):(mvR l a k).length=l.length:=by unfold mvR;simp
theorem BU {l:List Int} {a k i:Nat} (hi:i<l.length):getz (mvR l a k) i=if i<a then getz l i else if i<k then getz l (i+1) else if i=k then getz l a else getz l i:=by
 show (mvR l a k).getD i 0=_;unfold mvR;rw [getD_eq_getElem?_getD,List.getElem?_map,List.getElem?_range hi];rfl
theorem x1b (l:List Int) (a:Nat):mvR l a a=l:=NF (KL _ _ _) fun i hi=>by
 rw [KL] at hi;rw [BU hi];by_cases c:i<a
 ·rw [if_pos c]
 ·rw [if_neg c,if_neg c];split
  ·rename_i h;rw [h]
  ·rfl
theorem z0g {l:List Int} {a k:Nat} (h1:a<=k) (h2:k+1<l.length):((mvR l a k).set k (getz (mvR l a k) (k+1))).set (k+1) (getz (mvR l a k) k)=mvR l a (k+1):=NF (by simp [KL]) fun i hi=>by
 simp only [List.length_set,KL] at hi;rw [q2z (by simp [KL];omega),q2z (by rw [KL];omega),BU hi,BU (by omega),BU (by omega),BU hi];by_cases e1:i=k+1
 ·subst e1;rw [if_pos rfl,if_neg (by omega),if_neg (by omega),if_pos rfl,if_neg (by omega),if_neg (by omega),if_pos rfl]
 ·rw [if_neg e1];by_cases e2:i=k
  ·subst e2;rw [if_pos rfl,if_neg (by omega),if_neg (by omega),if_neg (by omega),if_neg (by omega),if_pos (by omega)]
  ·rw [if_neg e2];by_cases e3:i<a
   ·rw [if_pos e3,if_pos e3]
   ·rw [if_neg e3,if_neg e3];by_cases e4:i<k
    ·rw [if_pos e4,if_pos (by omega)]
    ·rw [if_neg e4,if_neg e2,if_neg (by omega),if_neg e1]
def mvL (l:List Int) (m k:Nat):List Int:=(List.range l.length).map fun i=>if i<k then getz l i else if i=k then getz l m else if i<=m then getz l (i-1) else getz l i
theorem JU (l:List Int) (a k:Nat):(mvL l a k).length=l.length:=by unfold mvL;simp
theorem GV {l:List Int} {m k i:Nat} (hi:i<l.length):getz (mvL l m k) i=if i<k then getz l i else if i=k then getz l m else if i<=m then getz l (i-1) else getz l i:=by
 show (mvL l m k).getD i 0=_;unfold mvL;rw [getD_eq_getElem?_getD,List.getElem?_map,List.getElem?_range hi];rfl
theorem x2x (l:List Int) (a:Nat):mvL l a a=l:=NF (JU _ _ _) fun i hi=>by
 rw [JU] at hi;rw [GV hi];split
 ·rfl
 ·split
  ·rename_i h;rw [h]
  ·rw [if_neg (by omega)]
theorem x1f {l:List Int} {m k:Nat} (h1:k+1<=m) (h2:m<l.length):((mvL l m (k+1)).set k (getz (mvL l m (k+1)) (k+1))).set (k+1) (getz (mvL l m (k+1)) k)=mvL l m k:=NF (by simp [JU]) fun i hi=>by
 simp only [List.length_set,JU] at hi;rw [q2z (by simp [JU];omega),q2z (by rw [JU];omega),GV hi,GV (by omega),GV (by omega),GV hi];by_cases e1:i=k+1
 ·subst e1;rw [if_pos rfl,if_pos (by omega),if_neg (by omega),if_neg (by omega),if_pos (by omega)];rfl
 ·rw [if_neg e1];by_cases e2:i=k
  ·subst e2;rw [if_pos rfl,if_neg (by omega),if_pos rfl,if_neg (by omega),if_pos rfl]
  ·rw [if_neg e2];by_cases e3:i<k
   ·rw [if_pos e3,if_pos (by omega)]
   ·rw [if_neg e3,if_neg e2,if_neg (by omega),if_neg e1]
theorem z1x {l:List Int} {a:Nat} : ∀ {k:Nat},a<=k->k<l.length->PermIn l (mvR l a k) a (k+1)
 | 0,h1,h2=>by
   obtain rfl:a=0:=by omega
   rw [x1b];exact .refl (by omega) (by omega)
 | k+1,h1,h2=>by
   by_cases he:a=k+1
   ·subst he;rw [x1b];exact .refl (by omega) (by omega)
   ·have ih:=z1x (l:=l) (a:=a) (k:=k) (by omega) (by omega);rw [<- z0g (by omega) h2];exact (ih.wide (Nat.le_refl _) (by omega) (by omega)).trans ((q8e (by rw [KL];exact h2)).wide (by omega) (by omega) (by rw [KL];omega))
theorem x0v {l:List Int} {m:Nat} (hm:m<l.length) : ∀ {d:Nat},d<=m->PermIn l (mvL l m (m-d)) (m-d) (m+1)
 | 0,_=>by
   rw [Nat.sub_zero,x2x];exact .refl (by omega) (by omega)
 | d+1,h=>by
   have ih:=x0v hm (d:=d) (by omega);have:=x1f (l:=l) (m:=m) (k:=m-(d+1)) (by omega) hm;rw [show m-(d+1)+1=m-d by omega] at this;rw [<- this];have h1:=q8e (row:=mvL l m (m-d)) (k:=m-(d+1)) (by rw [JU];omega);rw [show m-(d+1)+1=m-d by omega] at h1;exact (ih.wide (by omega) (Nat.le_refl _) (by omega)).trans (h1.wide (Nat.le_refl _) (by omega) (by rw [JU];omega))
theorem v2q {K:Int->Int} {l:List Int} {a b i:Nat} (h1:a+1<=i) (h2:i<=b) (h3:b<=l.length) (hs:srt K l (a+1) b) (hlo : ∀ k,a+1<=k->k<i->K (getz l a)<K (getz l k)) (hhi : ∀ k,i<=k->k<b->K (getz l k)<=K (getz l a)):srt K (mvR l a (i-1)) a b:=fun u v hu huv hv=>by
 rw [BU (by omega),BU (by omega),if_neg (by omega : ¬v<a),if_neg (by omega : ¬u<a)];by_cases c1:v<i-1
 ·rw [if_pos c1,if_pos (by omega)];exact hs _ _ (by omega) (by omega) (by omega)
 ·rw [if_neg c1];by_cases c2:v=i-1
  ·rw [if_pos c2,if_pos (by omega)];exact Int.le_of_lt (hlo _ (by omega) (by omega))
  ·rw [if_neg c2];by_cases c3:u<i-1
   ·rw [if_pos c3];exact hs.le (by omega) (by omega) hv
   ·rw [if_neg c3];by_cases c4:u=i-1
    ·rw [if_pos c4];exact hhi _ (by omega) hv
    ·rw [if_neg c4];exact hs _ _ (by omega) huv hv
theorem x9p {K:Int->Int} {l:List Int} {a m i:Nat} (h1:a<=i) (h2:i<=m) (h3:m<l.length) (hs:srt K l a m) (hlo : ∀ k,a<=k->k<i->K (getz l m)<=K (getz l k)) (hhi : ∀ k,i<=k->k<m->K (getz l k)<K (getz l m)):srt K (mvL l m i) a (m+1):=fun u v hu huv hv=>by
 rw [GV (by omega),GV (by omega)];by_cases c1:v<i
 ·rw [if_pos c1,if_pos (by omega)];exact hs _ _ hu huv (by omega)
 ·rw [if_neg c1];by_cases c2:v=i
  ·rw [if_pos c2,if_pos (by omega)];exact hlo _ hu (by omega)
  ·rw [if_neg c2,if_pos (by omega)];by_cases c3:u<i
   ·rw [if_pos c3];exact hs.le hu (by omega) (by omega)
   ·rw [if_neg c3];by_cases c4:u=i
    ·rw [if_pos c4];exact Int.le_of_lt (hhi _ (by omega) (by omega))
    ·rw [if_neg c4,if_pos (by omega)];exact hs _ _ (by omega) (by omega) (by omega)
def rotR (l:List Int) (s m e:Nat):List Int:=l.take s++(l.take e).drop m++(l.take m).drop s++l.drop e
theorem w3k {l:List Int} {s m e:Nat} (h1:s<=m) (h2:m<=e) (h3:e<=l.length):(rotR l s m e).length=l.length:=by
 unfold rotR;simp only [length_append,length_take,length_drop];omega
theorem q3t {l:List Int} {e i:Nat} (h:i<e):getz (l.take e) i=getz l i:=by
 unfold getz;rw [getD_eq_getElem?_getD,List.getElem?_take_of_lt h,getD_eq_getElem?_getD]
theorem q5m {l:List Int} {e i:Nat}:getz (l.drop e) i=getz l (e+i):=by
 unfold getz;rw [getD_eq_getElem?_getD,List.getElem?_drop,getD_eq_getElem?_getD]
theorem z0c {l:List Int} {s m e i:Nat} (h1:s<=m) (h2:m<=e) (h3:e<=l.length):getz (rotR l s m e) i=if i<s then getz l i else if i<s+(e-m) then getz l (i-s+m) else if i<e then getz l (i-(e-m)) else getz l i:=by
 have e1:(l.take s).length=s:=by rw [length_take];omega
 have e2:((l.take e).drop m).length=e-m:=by rw [length_drop,length_take];omega
 have e3:((l.take m).drop s).length=m-s:=by rw [length_drop,length_take];omega
 unfold rotR;rw [ZG,ZG,ZG];simp only [length_append,e1,e2,e3];by_cases c1:i<s
 ·rw [if_pos (by omega),if_pos (by omega),if_pos c1,if_pos c1,q3t c1]
 ·rw [if_neg c1,if_neg c1];by_cases c2:i<s+(e-m)
  ·rw [if_pos (by omega),if_pos c2,if_pos c2,q5m,q3t (by omega)];congr 1;omega
  ·rw [if_neg c2,if_neg c2];by_cases c3:i<e
   ·rw [if_pos (by omega),if_pos c3,q5m,q3t (by omega)];congr 1;omega
   ·rw [if_neg (by omega),if_neg c3,q5m];congr 1;omega
theorem z0u {l:List Int} {s m e:Nat} (h1:s<=m) (h2:m<=e) (h3:e<=l.length):l=l.take s++(l.take m).drop s++(l.take e).drop m++l.drop e:=by
 have e1:l.take m=l.take s++(l.take m).drop s:=by
  have:=(take_append_drop s (l.take m)).symm
  rwa [take_take,show min s m=s by omega] at this
 have e2:l.take e=l.take m++(l.take e).drop m:=by
  have:=(take_append_drop m (l.take e)).symm
  rwa [take_take,show min m e=m by omega] at this
 rw [<- e1,<- e2,take_append_drop]
theorem z9e {l:List Int} {s m e:Nat} (h1:s<=m) (h2:m<=e) (h3:e<=l.length):PermIn l (rotR l s m e) s e:=by
 refine ⟨l.take s,(l.take m).drop s++(l.take e).drop m,(l.take e).drop m++(l.take m).drop s,l.drop e,by rw [length_take];omega,?_,?_,?_,List.perm_append_comm⟩
 ·simp only [length_append,length_take,length_drop];omega
 ·rw [<- List.append_assoc];exact z0u h1 h2 h3
 ·unfold rotR;simp
theorem w5v {l:List Int} {s m e:Nat} (h1:s<m) (h2:m<e) (h3:e<=l.length):RotI (rotR l s m e) l m (m-s) (e-m) :=
 ⟨by omega,by omega,l.take s,(l.take m).drop s,(l.take e).drop m,l.drop e,by rw [length_drop,length_take];omega,by rw [length_drop,length_take];omega,by rw [length_take];omega,z0u (by omega) (by omega) h3,rfl⟩
theorem w0p {l:List Int} {s m e:Nat} (h1:s<=m) (h2:m<=e) (h3:e<=l.length) (h:s=m∨m=e):rotR l s m e=l:=NF (w3k h1 h2 h3) fun i hi=>by
 rw [z0c h1 h2 h3];by_cases c1:i<s
 ·rw [if_pos c1]
 ·rw [if_neg c1];by_cases c2:i<s+(e-m)
  ·rw [if_pos c2];congr 1;omega
  ·rw [if_neg c2];split
   ·congr 1;omega
   ·rfl
structure CutF (K:Int->Int) (l:List Int) (a m b s:Nat):Prop where
 s1:a<=s∧s<=m∧s<=(a+b) / 2
 s2:(a+b) / 2+m-s<=b
 cross : ∀ i k,a<=i->i<(a+b) / 2->(a+b) / 2<=k->k<b->K (getz (rotR l s m ((a+b) / 2+m-s)) k)<=K (getz (rotR l s m ((a+b) / 2+m-s)) i)
 l1:srt K (rotR l s m ((a+b) / 2+m-s)) a s
 l2:srt K (rotR l s m ((a+b) / 2+m-s)) s ((a+b) / 2)
 r1:srt K (rotR l s m ((a+b) / 2+m-s)) ((a+b) / 2) ((a+b) / 2+m-s)
 r2:srt K (rotR l s m ((a+b) / 2+m-s)) ((a+b) / 2+m-s) b
def lo0 (a m b:Nat):Nat:=if (a+b) / 2<m then (a+b) / 2+m-b else a
def hi0 (a m b:Nat):Nat:=if (a+b) / 2<m then (a+b) / 2 else m
theorem v1a {K:Int->Int} {l:List Int} {a m b s mid e lo hi:Nat} (h1:a<m) (h2:m<b) (h3:b<=l.length) (hmid:(a+b) / 2=mid) (he:e+s=mid+m) (hcase:(mid<m∧lo+b=mid+m∧hi=mid)∨(m<=mid∧lo=a∧hi=m)) (hA:srt K l a m) (hB:srt K l m b) (hs1:lo<=s) (hs2:s<=hi)
  (H1 : ∀ c,lo<=c->c<s->K (getz l (mid+m-1-c))<=K (getz l c)) (H2 : ∀ c,s<=c->c<hi->K (getz l c)<K (getz l (mid+m-1-c))) :
  (∀ i k,a<=i->i<mid->mid<=k->k<b->K (getz (rotR l s m e) k)<=K (getz (rotR l s m e) i))∧srt K (rotR l s m e) a s∧srt K (rotR l s m e) s mid∧srt K (rotR l s m e) mid e∧srt K (rotR l s m e) e b:=by
 have hm1:a<mid:=by omega
 have hm2:mid<b:=by omega
 have hq:a<=s∧s<=m∧s<=mid∧e<=b∧m<=e∧mid<=e:=by omega
 obtain ⟨q1,q2,q3,q4,q5,q6⟩:=hq;have get:=fun i=>z0c (l:=l) (s:=s) (m:=m) (e:=e) (i:=i) q2 q5 (by omega);have e0:s+(e-m)=mid:=by omega
 rw [e0] at get;refine ⟨?_,?_,?_,?_,?_⟩
 ·intro i k g1 g2 g3 g4;rw [get,get,if_neg (by omega : ¬k<s),if_neg (by omega : ¬k<mid)];by_cases ci:i<s
  ·rw [if_pos ci];by_cases ck:k<e
   ·rw [if_pos ck];exact hA _ _ g1 (by omega) (by omega)
   ·rw [if_neg ck];have:=H1 (s-1) (by omega) (by omega);rw [show mid+m-1-(s-1)=e by omega] at this;have t1:=hB.le (i:=e) (k:=k) (by omega) (by omega) g4;have t2:=hA.le (i:=i) (k:=s-1) g1 (by omega) (by omega);omega
  ·rw [if_neg ci,if_pos g2];by_cases ck:k<e
   ·rw [if_pos ck];have:=H2 s (Nat.le_refl _) (by omega);have t1:=hA.le (i:=s) (k:=k-(e-m)) q1 (by omega) (by omega);have t2:=hB.le (i:=i-s+m) (k:=mid+m-1-s) (by omega) (by omega) (by omega);omega
   ·rw [if_neg ck];exact hB _ _ (by omega) (by omega) g4
 ·intro i k g1 g2 g3;rw [get,get,if_pos (by omega:k<s),if_pos (by omega:i<s)];exact hA _ _ g1 g2 (by omega)
 ·intro i k g1 g2 g3;rw [get,get,if_neg (by omega : ¬k<s),if_neg (by omega : ¬i<s),if_pos g3,if_pos (by omega:i<mid)];exact hB _ _ (by omega) (by omega) (by omega)
 ·intro i k g1 g2 g3;rw [get,get,if_neg (by omega : ¬k<s),if_neg (by omega : ¬i<s),if_neg (by omega : ¬k<mid),if_neg (by omega : ¬i<mid),if_pos g3,if_pos (by omega:i<e)];exact hA _ _ (by omega) (by omega) (by omega)
 ·intro i k g1 g2 g3;rw [get,get,if_neg (by omega : ¬k<s),if_neg (by omega : ¬i<s),if_neg (by omega : ¬k<mid),if_neg (by omega : ¬i<mid),if_neg (by omega : ¬k<e),if_neg (by omega : ¬i<e)];exact hB _ _ (by omega) (by omega) g3
theorem v0u {K:Int->Int} {l:List Int} {a m b s:Nat} (h1:a<m) (h2:m<b) (h3:b<=l.length) (hA:srt K l a m) (hB:srt K l m b) (hs1:lo0 a m b<=s) (hs2:s<=hi0 a m b)
  (H1 : ∀ c,lo0 a m b<=c->c<s->K (getz l ((a+b) / 2+m-1-c))<=K (getz l c)) (H2 : ∀ c,s<=c->c<hi0 a m b->K (getz l c)<K (getz l ((a+b) / 2+m-1-c))):CutF K l a m b s:=by
 have hcase:((a+b) / 2<m∧lo0 a m b+b=(a+b) / 2+m∧hi0 a m b=(a+b) / 2)∨(m<=(a+b) / 2∧lo0 a m b=a∧hi0 a m b=m):=by
  unfold lo0 hi0;split<;>omega
 obtain ⟨r1,r2,r3,r4,r5⟩:=v1a (e:=(a+b) / 2+m-s) h1 h2 h3 rfl (by omega) hcase hA hB hs1 hs2 H1 H2;exact ⟨by omega,by omega,r1,r2,r3,r4,r5⟩
theorem q7q {K:Int->Int} {r2 r3 r4:List Int} {a mid b:Nat} (h1:a<=mid) (h2:mid<=b) (hc : ∀ i k,a<=i->i<mid->mid<=k->k<b->K (getz r2 k)<=K (getz r2 i)) (p3:PermIn r2 r3 a mid) (s3:srt K r3 a mid) (p4:PermIn r3 r4 mid b) (s4:srt K r4 mid b):srt K r4 a b:=fun i k g1 g2 g3=>by
 by_cases c1:k<mid
 ·rw [p4.out (.inl c1),p4.out (.inl (by omega))];exact s3 i k g1 g2 c1
 ·by_cases c2:i<mid
  ·rw [p4.out (i:=i) (.inl c2)];obtain ⟨k',q1,q2,q3⟩:=p4.inn (i:=k) (by omega) g3;obtain ⟨i',q4,q5,q6⟩:=p3.inn (i:=i) g1 c2;rw [q3,q6,p3.out (i:=k') (.inr q1)];exact hc i' k' q4 q5 q1 q2
  ·exact s4 i k (by omega) g2 g3
structure CmpF (g:Nat) (c:AV) (K:Int->Int) (L:Int->Prop):Prop where
 cmp : ∀ x y,L x->L y->SpecP Tryz.prog g [.int .i64 x,.int .i64 y,c] (fun r=>r = .int .i64 (K y-K x))
 bnd : ∀ x,0<=K x∧K x<=1000000
theorem UH {l:List Int} {i:Nat} (h:i<l.length):(l.map (AV.int .i64))[i]? = some (.int .i64 (getz l i)):=x1e (GL h)
theorem NW {g:Nat} {c:AV} {K:Int->Int} {L:Int->Prop} (hC:CmpF g c K L) : ∀ (fuel:Nat) (row:List Int) (a m b N:Nat),b-a<=fuel->a<m->m<b->b<=row.length->N=row.length->row.length<=1000000->(∀ x∈row,L x)->srt K row a m->srt K row m b ->
  SpecH Tryz.prog 314 [.hd 1000 0 N,.p (.int .i64 a),.p (.int .i64 m),.p (.int .i64 b),.p (.fn g [c])] (JH row) (fun r H=>r = .p (.tup []) ∧ ∃ row',H=JH row'∧PermIn row row' a b∧srt K row' a b):=by
 intro fuel;induction fuel with
 | zero=>intro row a m b N h1 h2 h3;omega
 | succ fuel ih =>
   intro row a m b N hfu hab hmb hbl hN hl hL hA hB;refine sH UJ Tryz.func314 rfl Tryz.call314 ?_;by_cases hm1:m=a+1
   ·conv=>whnf
    repeat' (first|(refine wI ?_;conv=>whnf)|(apply bD<;>intro _<;>first|omega|conv=>whnf))
    all_goals first
     | (exfalso;omega)
     | skip
    refine LoopK.inv QV (fun x:Nat×Nat=>⟨[(0,.hd 1000 0 N),(1,.p (.int .i64 a)),(4,.p (.fn g [c])),(10,.p (.int .i64 x.1)),(11,.p (.int .i64 x.2))],JH row⟩)
     (fun x=>(m<=x.1∧x.1<=x.2∧x.2<=b)∧(∀ k,m<=k->k<x.1->K (getz row a)<K (getz row k)) ∧ ∀ k,x.2<=k->k<b->K (getz row k)<=K (getz row a)) (fun x=>x.2-x.1) (m,b) (Le.of_eq rfl)
     ⟨⟨Nat.le_refl _,by simp only;omega,Nat.le_refl _⟩,fun k h1 h2=>by simp only at h2;omega,fun k h1 h2=>by simp only at h1;omega⟩ ?_
    rintro ⟨i,j⟩ ⟨⟨h1,h2,h3⟩,h4,h5⟩;simp only at h1 h2 h3 h4 h5 ⊢;rcases Nat.lt_or_ge i j with hij|hij
    ·have g1:=UH (l:=row) (i:=(i+j) / 2) (by omega);have g2:=UH (l:=row) (i:=a) (by omega);have hcm:=hC.cmp (getz row ((i+j) / 2)) (getz row a) (hL _ (WB (by omega))) (hL _ (WB (by omega)));have hb1:=hC.bnd (getz row ((i+j) / 2));have hb2:=hC.bnd (getz row a);have hst:=fun k (hk1:m<=k) (hk2:k<=(i+j) / 2)=>hB.le (k:=(i+j) / 2) hk1 hk2 (by omega);have hst2:=fun k (hk1:(i+j) / 2<=k) (hk2:k<b)=>hB.le (i:=(i+j) / 2) (by omega) hk1 hk2;generalize hh:(i+j) / 2=h at g1 hcm hb1 hst hst2;have hhe:(h:Int)=((i:Int)+j) / 2:=by omega
     unfold JH;conv=>whnf
     repeat' (first|((first|refine dA ?_|refine And.intro rfl ?_|refine wI ?_|refine Wr.u64 (by omega) (by omega) ?_|refine MV (m:=(h:Int)) rfl (by omega) rfl rfl hhe ?_|refine IdxL.mk h (by omega) (by omega) ?_|refine IdxL.mk a (by omega) (by omega) ?_|refine LdOwn.mk h 0 _ (by omega) g1 ?_|refine LdOwn.mk a 0 _ (by omega) g2 ?_|refine cP hcm ?_);conv=>whnf)|(apply bD<;>intro _<;>first|omega|conv=>whnf))
     all_goals first
      | exact ⟨(h+1,j),⟨⟨by simp only;omega,by simp only;omega,h3⟩,fun k k1 k2=>by simp only at k2;(rcases Nat.lt_or_ge h k with hk|hk;· omega);have:=hst k k1 hk;omega,h5⟩,by simp only;omega,Le.of_eq rfl⟩
      | exact ⟨(i,h),⟨⟨h1,by simp only;omega,by simp only;omega⟩,h4,fun k k1 k2=>by simp only at k1;have:=hst2 k k1 k2;omega⟩,by simp only;omega,Le.of_eq rfl⟩
      | skip
    ·have hje:j=i:=by omega
     subst hje;conv=>whnf
     repeat' (apply bD<;>intro _<;>first|omega|conv=>whnf)
     all_goals first
      | (exfalso;omega)
      | skip
     refine LoopK.inv QV (fun k:Nat=>⟨[(0,.hd 1000 0 N),(10,.p (.int .i64 j)),(13,.p (.int .i64 k))],JH (mvR row a k)⟩) (fun k=>a<=k∧k<=j-1) (fun k=>j-k) a (Le.of_eq (by rw [x1b];rfl)) ⟨Nat.le_refl _,by omega⟩ ?_;rintro k ⟨k1,k2⟩;simp only at k1 k2 ⊢;have hml:=KL row a k;rcases Nat.lt_or_ge k (j-1) with hk|hk
     ·have hst:=z0g (l:=row) k1 (by omega);have g1:=UH (l:=mvR row a k) (i:=k) (by omega);have g2:=UH (l:=mvR row a k) (i:=k+1) (by omega);generalize mvR row a k=rw' at hml hst g1 g2;generalize getz rw' k=x at hst g1;generalize getz rw' (k+1)=y at hst g2;have g3:((rw'.map (AV.int .i64)).set k (.int .i64 y))[k+1]? = some (.int .i64 y):=by rw [List.getElem?_set_ne (by omega)];exact g2
      unfold JH;conv=>whnf
      repeat' (first|((first|refine dA ?_|refine And.intro rfl ?_|refine wI ?_|refine IdxL.mk (k+1) (by omega) (by omega) ?_|refine IdxL.mk k (by omega) (by omega) ?_|refine LdOwn.mk (k+1) 0 _ (by omega) g2 ?_|refine LdOwn.mk k 0 _ (by omega) g1 ?_|refine StOwn.mk k 0 _ (.int .i64 y) (by omega) g1 (Nat.le_refl _) rfl ?_|refine StOwn.mk (k+1) 0 _ (.int .i64 x) (by omega) g3 (Nat.le_refl _) rfl ?_);conv=>whnf)|(apply bD<;>intro _<;>first|omega|conv=>whnf))
      all_goals first
       | (exfalso;omega)
       | exact ⟨k+1,by omega,by omega,Le.of_eq (by rw [<- hst,List.map_set,List.map_set];rfl)⟩
       | skip
     ·have hke:k=j-1:=by omega
      subst hke;unfold JH;conv=>whnf
      repeat' (first|(refine wI ?_;conv=>whnf)|(apply bD<;>intro _<;>first|omega|conv=>whnf))
      all_goals first
       | (exfalso;omega)
       | exact ⟨_,LSub.refl _,rfl,mvR row a (j-1),rfl,(z1x (by omega) (by omega)).wide (Nat.le_refl _) (by omega) hbl,v2q (by omega) (by omega) hbl (by rw [<- hm1];exact hB) (fun k k1 k2=>h4 k (by omega) k2) h5⟩
       | skip
   by_cases hm2:b=m+1
   ·conv=>whnf
    repeat' (first|(refine wI ?_;conv=>whnf)|(apply bD<;>intro _<;>first|omega|conv=>whnf))
    all_goals first
     | (exfalso;omega)
     | skip
    refine LoopK.inv QV (fun x:Nat×Nat=>⟨[(0,.hd 1000 0 N),(2,.p (.int .i64 m)),(4,.p (.fn g [c])),(14,.p (.int .i64 x.1)),(15,.p (.int .i64 x.2))],JH row⟩)
     (fun x=>(a<=x.1∧x.1<=x.2∧x.2<=m)∧(∀ k,a<=k->k<x.1->K (getz row m)<=K (getz row k)) ∧ ∀ k,x.2<=k->k<m->K (getz row k)<K (getz row m)) (fun x=>x.2-x.1) (a,m) (Le.of_eq rfl)
     ⟨⟨Nat.le_refl _,by simp only;omega,Nat.le_refl _⟩,fun k h1 h2=>by simp only at h2;omega,fun k h1 h2=>by simp only at h1;omega⟩ ?_
    rintro ⟨i,j⟩ ⟨⟨h1,h2,h3⟩,h4,h5⟩;simp only at h1 h2 h3 h4 h5 ⊢;rcases Nat.lt_or_ge i j with hij|hij
    ·have g1:=UH (l:=row) (i:=(i+j) / 2) (by omega);have g2:=UH (l:=row) (i:=m) (by omega);have hcm:=hC.cmp (getz row m) (getz row ((i+j) / 2)) (hL _ (WB (by omega))) (hL _ (WB (by omega)));have hb1:=hC.bnd (getz row ((i+j) / 2));have hb2:=hC.bnd (getz row m);have hst:=fun k (hk1:a<=k) (hk2:k<=(i+j) / 2)=>hA.le (k:=(i+j) / 2) hk1 hk2 (by omega);have hst2:=fun k (hk1:(i+j) / 2<=k) (hk2:k<m)=>hA.le (i:=(i+j) / 2) (by omega) hk1 hk2;generalize hh:(i+j) / 2=h at g1 hcm hb1 hst hst2;have hhe:(h:Int)=((i:Int)+j) / 2:=by omega
     unfold JH;conv=>whnf
     repeat' (first|((first|refine dA ?_|refine And.intro rfl ?_|refine wI ?_|refine Wr.u64 (by omega) (by omega) ?_|refine MV (m:=(h:Int)) rfl (by omega) rfl rfl hhe ?_|refine IdxL.mk h (by omega) (by omega) ?_|refine IdxL.mk m (by omega) (by omega) ?_|refine LdOwn.mk h 0 _ (by omega) g1 ?_|refine LdOwn.mk m 0 _ (by omega) g2 ?_|refine cP hcm ?_);conv=>whnf)|(apply bD<;>intro _<;>first|omega|conv=>whnf)|(apply bE<;>intro _<;>first|omega|conv=>whnf))
     all_goals first
      | exact ⟨(h+1,j),⟨⟨by simp only;omega,by simp only;omega,h3⟩,fun k k1 k2=>by simp only at k2;(rcases Nat.lt_or_ge h k with hk|hk;· omega);have:=hst k k1 hk;omega,h5⟩,by simp only;omega,Le.of_eq rfl⟩
      | exact ⟨(i,h),⟨⟨h1,by simp only;omega,by simp only;omega⟩,h4,fun k k1 k2=>by simp only at k1;have:=hst2 k k1 k2;omega⟩,by simp only;omega,Le.of_eq rfl⟩
      | skip
    ·have hje:j=i:=by omega
     subst hje;conv=>whnf
     repeat' (apply bD<;>intro _<;>first|omega|conv=>whnf)
     all_goals first
      | (exfalso;omega)
      | skip
     refine LoopK.inv QV (fun k:Nat=>⟨[(0,.hd 1000 0 N),(14,.p (.int .i64 j)),(17,.p (.int .i64 k))],JH (mvL row m k)⟩) (fun k=>j<=k∧k<=m) (fun k=>k-j) m (Le.of_eq (by rw [x2x];rfl)) ⟨by omega,Nat.le_refl _⟩ ?_;rintro k ⟨k1,k2⟩;simp only at k1 k2 ⊢;have hml:=JU row m k;rcases Nat.lt_or_ge j k with hk|hk
     ·obtain ⟨q,rfl⟩ : ∃ q,k=q+1:=⟨k-1,by omega⟩;have hst:=x1f (l:=row) (k:=q) k2 (by omega);have g1:=UH (l:=mvL row m (q+1)) (i:=q) (by omega);have g2:=UH (l:=mvL row m (q+1)) (i:=q+1) (by omega);generalize mvL row m (q+1)=rw' at hml hst g1 g2;generalize getz rw' q=x at hst g1;generalize getz rw' (q+1)=y at hst g2;have hst':(rw'.set (q+1) x).set q y=mvL row m q:=by rw [<- hst];exact List.set_comm _ _ (by omega)
      have hq1:((q+1:Nat):Int)-1=(q:Int):=by omega
      have g3:((rw'.map (AV.int .i64)).set (q+1) (.int .i64 x))[q]? = some (.int .i64 x):=by rw [List.getElem?_set_ne (by omega)];exact g1
      unfold JH;conv=>whnf
      repeat' (first|((first|refine dA ?_|refine And.intro rfl ?_|refine wI ?_|refine IdxL.mk (q+1) (by omega) (by omega) ?_|refine IdxL.mk q (by omega) (by omega) ?_|refine LdOwn.mk (q+1) 0 _ (by omega) g2 ?_|refine LdOwn.mk q 0 _ (by omega) g1 ?_|refine StOwn.mk (q+1) 0 _ (.int .i64 x) (by omega) g2 (Nat.le_refl _) rfl ?_|refine StOwn.mk q 0 _ (.int .i64 y) (by omega) g3 (Nat.le_refl _) rfl ?_);conv=>whnf)|(apply bD<;>intro _<;>first|omega|conv=>whnf))
      all_goals first
       | (exfalso;omega)
       | exact ⟨q,by omega,by omega,Le.of_eq (by rw [<- hst',List.map_set,List.map_set,hq1])⟩
       | skip
     ·have hke:k=j:=by omega
      subst hke;have hp:=x0v (l:=row) (m:=m) (by omega) (d:=m-k) (by omega);rw [show m-(m-k)=k by omega] at hp;unfold JH;conv=>whnf
      repeat' (apply bD<;>intro _<;>first|omega|conv=>whnf)
      all_goals first
       | (exfalso;omega)
       | exact ⟨_,LSub.refl _,rfl,mvL row m k,rfl,hp.wide (by omega) (by omega) hbl,by rw [hm2];exact x9p (by omega) (by omega) (by omega) hA h4 h5⟩
       | skip
   have hmid0:((a+b) / 2:Nat)=((a:Int)+b) / 2:=by omega
   have hlo1:(a+b) / 2<m->((lo0 a m b:Nat):Int)=((a+b) / 2:Nat)+(m:Int)-b:=fun h=>by unfold lo0;rw [if_pos h];omega
   have hhi1:(a+b) / 2<m->hi0 a m b=(a+b) / 2:=fun h=>by unfold hi0;rw [if_pos h]
   have hlo2 : ¬(a+b) / 2<m->lo0 a m b=a:=fun h=>by unfold lo0;rw [if_neg h]
   have hhi2 : ¬(a+b) / 2<m->hi0 a m b=m:=fun h=>by unfold hi0;rw [if_neg h]
   have hlh:a<=lo0 a m b∧lo0 a m b<=hi0 a m b∧hi0 a m b<=m∧hi0 a m b<=(a+b) / 2∧(a+b) / 2+m<=b+lo0 a m b:=by unfold lo0 hi0;split<;>omega
   have hcut:=fun s h1 h2 h3 h4=>v0u (s:=s) hab hmb hbl hA hB h1 h2 h3 h4;have hma:a<(a+b) / 2:=by omega
   have hmb2:(a+b) / 2<b:=by omega
   generalize hme:(a+b) / 2=mid at *
   generalize lo0 a m b=lo at *
   generalize hi0 a m b=hi at *
   conv=>whnf
   repeat' (first|((first|refine wI ?_|refine Wr.u64 (by omega) (by omega) ?_|refine MV (m:=(mid:Int)) rfl (by omega) rfl rfl (by omega) ?_);conv=>whnf)|(apply bD<;>intro _<;>first|omega|conv=>whnf))
   all_goals first
    | (exfalso;omega)
    | skip
   all_goals
    refine LoopK.inv QV (fun x:Nat×Nat=>⟨[(0,.hd 1000 0 N),(1,.p (.int .i64 a)),(2,.p (.int .i64 m)),(3,.p (.int .i64 b)),(4,.p (.fn g [c])),(18,.p (.int .i64 mid)),(19,.p (.int .i64 ((mid:Int)+m))),(20,.p (.int .i64 x.1)),(21,.p (.int .i64 x.2)),(22,.p (.int .i64 ((mid:Int)+m-1)))],JH row⟩)
     (fun x=>(lo<=x.1∧x.1<=x.2∧x.2<=hi)∧(∀ k,lo<=k->k<x.1->K (getz row (mid+m-1-k))<=K (getz row k)) ∧ ∀ k,x.2<=k->k<hi->K (getz row k)<K (getz row (mid+m-1-k))) (fun x=>x.2-x.1) (lo,hi)
     (Le.of_eq (by first|(rw [hlo1 (by omega),hhi1 (by omega)];rfl)|(rw [hlo2 (by omega),hhi2 (by omega)];rfl)))
     ⟨⟨Nat.le_refl _,by simp only;omega,Nat.le_refl _⟩,fun k h1 h2=>by simp only at h2;omega,fun k h1 h2=>by simp only at h1;omega⟩ ?_
    rintro ⟨s,r⟩ ⟨⟨h1,h2,h3⟩,h4,h5⟩;simp only at h1 h2 h3 h4 h5 ⊢;rcases Nat.lt_or_ge s r with hsr|hsr
    ·have g1:=UH (l:=row) (i:=(s+r) / 2) (by omega);have g2:=UH (l:=row) (i:=mid+m-1-(s+r) / 2) (by omega);have hcm:=hC.cmp (getz row (mid+m-1-(s+r) / 2)) (getz row ((s+r) / 2)) (hL _ (WB (by omega))) (hL _ (WB (by omega)));have hb1:=hC.bnd (getz row ((s+r) / 2));have hb2:=hC.bnd (getz row (mid+m-1-(s+r) / 2));have hst:=fun k (hk1:lo<=k) (hk2:k<=(s+r) / 2)=>And.intro (hA.le (i:=k) (k:=(s+r) / 2) (by omega) hk2 (by omega)) (hB.le (i:=mid+m-1-(s+r) / 2) (k:=mid+m-1-k) (by omega) (by omega) (by omega));have hst2:=fun k (hk1:(s+r) / 2<=k) (hk2:k<hi)=>And.intro (hA.le (i:=(s+r) / 2) (k:=k) (by omega) hk1 (by omega)) (hB.le (i:=mid+m-1-k) (k:=mid+m-1-(s+r) / 2) (by omega) (by omega) (by omega));generalize hh:(s+r) / 2=h at g1 g2 hcm hb1 hb2 hst hst2;have hhe:(h:Int)=((s:Int)+r) / 2:=by omega
     generalize hpe:mid+m-1-h=pc at g2 hcm hb2 hst hst2;unfold JH;conv=>whnf
     repeat' (first|((first|refine dA ?_|refine And.intro rfl ?_|refine wI ?_|refine Wr.u64 (by omega) (by omega) ?_|refine MV (m:=(h:Int)) rfl (by omega) rfl rfl hhe ?_|refine IdxL.mk h rfl (by omega) ?_|refine IdxL.mk pc (by omega) (by omega) ?_|refine LdOwn.mk h 0 _ (by omega) g1 ?_|refine LdOwn.mk pc 0 _ (by omega) g2 ?_|refine cP hcm ?_);conv=>whnf)|(apply bD<;>intro _<;>first|omega|conv=>whnf)|(apply bE<;>intro _<;>first|omega|conv=>whnf))
     all_goals first
      | exact ⟨(h+1,r),⟨⟨by simp only;omega,by simp only;omega,h3⟩,fun k k1 k2=>by simp only at k2;(rcases Nat.lt_or_ge h k with hk|hk;· omega);have:=hst k k1 hk;omega,h5⟩,by simp only;omega,Le.of_eq rfl⟩
      | exact ⟨(s,h),⟨⟨h1,by simp only;omega,by simp only;omega⟩,h4,fun k k1 k2=>by simp only at k1;have:=hst2 k k1 k2;omega⟩,by simp only;omega,Le.of_eq rfl⟩
      | skip
    ·have hre:r=s:=by omega
     subst hre;have cf:=hcut r h1 h3 h4 h5;obtain ⟨⟨c1,c2,c3⟩,c4,cross,l1,l2,r1,r2⟩:=cf;rw [hme] at c3 c4 cross l1 l2 r1 r2;obtain ⟨e,hee⟩ : ∃ e,mid+m-r=e:=⟨_,rfl⟩;rw [hee] at c4 cross l1 l2 r1 r2;have hme2:m<=e:=by omega
     have hp2:PermIn row (rotR row r m e) a b:=(z9e c2 hme2 (by omega)).wide c1 c4 hbl;by_cases hrot:r<m∧m<e
     ·have hRot:=YE (rotR row r m e) row r m e N (w5v hrot.1 hrot.2 (by omega)) (by omega) (by omega) hN (.fn g [c]) hl;generalize rotR row r m e=row2 at *
      have hln2:row2.length=row.length:=hp2.len.1;have hL2 : ∀ x∈row2,L x:=fun x hx=>hL x (hp2.perm.mem_iff.1 hx);have p0:PermIn row2 row2 a mid := .refl (by omega) (by omega);have hLe:=fun (q1:a<r) (q2:r<mid)=>ih row2 a r mid N (by omega) q1 q2 (by omega) (by omega) (by omega) hL2 l1 l2;have hRi:=fun row3 (p3:PermIn row2 row3 a mid) (q1:mid<e) (q2:e<b)=>ih row3 mid e b N (by omega) q1 q2 (by have:=p3.len;omega) (by have:=p3.len;omega) (by have:=p3.len;omega) (fun x hx=>hL2 x (p3.perm.mem_iff.1 hx))
       (fun u v u1 u2 u3=>by rw [p3.out (.inr (by omega)),p3.out (.inr (by omega))];exact r1 u v u1 u2 u3) (fun u v u1 u2 u3=>by rw [p3.out (.inr (by omega)),p3.out (.inr (by omega))];exact r2 u v u1 u2 u3)
      have sl:(r=a∨mid<=r)->srt K row2 a mid:=fun h=>by
       rcases h with h|h
       ·rw [h] at l2;exact l2
       ·rw [show r=mid by omega] at l1;exact l1
      have pr : ∀ row3,PermIn row2 row3 a mid->PermIn row3 row3 mid b:=fun row3 p3 => .refl (by omega) (by have:=p3.len;omega);have sr:(e<=mid∨e=b) -> ∀ row3,PermIn row2 row3 a mid->srt K row3 mid b:=fun h row3 p3 u v u1 u2 u3=>by
       rw [p3.out (.inr (by omega)),p3.out (.inr (by omega))];rcases h with h|h
       ·exact r2 u v (by omega) u2 u3
       ·exact r1 u v u1 u2 (by omega)
      have fin : ∀ row3 row4,PermIn row2 row3 a mid->srt K row3 a mid->PermIn row3 row4 mid b->srt K row4 mid b->PermIn row row4 a b∧srt K row4 a b:=fun row3 row4 p3 s3 p4 s4 =>
       ⟨hp2.trans ((p3.wide (Nat.le_refl _) (by omega) (by omega)).trans (p4.wide (by omega) (Nat.le_refl _) (by have:=p3.len;omega))),q7q (by omega) (by omega) cross p3 s3 p4 s4⟩
      conv=>whnf
      repeat' (first|((first|refine wI ?_|(refine CallK.heap [(1000,1000)] 5 (ArgsH.cons (LSub.refl _) (ArgsH.cons (LSub.p (Sub.int (by omega))) (ArgsH.cons (LSub.p (Sub.int (by omega))) (ArgsH.cons (LSub.p (Sub.int (by omega))) (ArgsH.cons (LSub.refl _) ArgsH.nil))))) (by refine BlksH.cons (j:=1000) rfl rfl ?_ ?_;exact CSub.refl _;exact BlksH.nil) hRot rfl rfl ?_;rintro l' H' ⟨rfl,rfl⟩)|(refine CallK.heap [(1000,1000)] 5 (ArgsH.cons (LSub.refl _) (ArgsH.cons (LSub.p (Sub.int (by omega))) (ArgsH.cons (LSub.p (Sub.int (by omega))) (ArgsH.cons (LSub.p (Sub.int (by omega))) (ArgsH.cons (LSub.refl _) ArgsH.nil))))) (by refine BlksH.cons (j:=1000) rfl rfl ?_ ?_;exact CSub.refl _;exact BlksH.nil) (hLe (by omega) (by omega)) rfl rfl ?_;rintro l' H' ⟨rfl,row3,rfl,p3,s3⟩)|(refine CallK.heap [(1000,1000)] 5 (ArgsH.cons (LSub.refl _) (ArgsH.cons (LSub.p (Sub.int (by omega))) (ArgsH.cons (LSub.p (Sub.int (by omega))) (ArgsH.cons (LSub.p (Sub.int (by omega))) (ArgsH.cons (LSub.refl _) ArgsH.nil))))) (by refine BlksH.cons (j:=1000) rfl rfl ?_ ?_;exact CSub.refl _;exact BlksH.nil) (hRi _ p3 (by omega) (by omega)) rfl rfl ?_;rintro l' H' ⟨rfl,row4,rfl,p4,s4⟩)|(refine CallK.heap [(1000,1000)] 5 (ArgsH.cons (LSub.refl _) (ArgsH.cons (LSub.p (Sub.int (by omega))) (ArgsH.cons (LSub.p (Sub.int (by omega))) (ArgsH.cons (LSub.p (Sub.int (by omega))) (ArgsH.cons (LSub.refl _) ArgsH.nil))))) (by refine BlksH.cons (j:=1000) rfl rfl ?_ ?_;exact CSub.refl _;exact BlksH.nil) (hRi _ p0 (by omega) (by omega)) rfl rfl ?_;rintro l' H' ⟨rfl,row4,rfl,p4,s4⟩));conv=>whnf)|(apply bD<;>intro _<;>first|omega|conv=>whnf))
      all_goals first
       | (exfalso;omega)
       | exact ⟨_,LSub.refl _,rfl,_,rfl,fin _ _ p3 s3 p4 s4⟩
       | exact ⟨_,LSub.refl _,rfl,_,rfl,fin _ _ p3 s3 (pr _ p3) (sr (by omega) _ p3)⟩
       | exact ⟨_,LSub.refl _,rfl,_,rfl,fin _ _ p0 (sl (by omega)) p4 s4⟩
       | exact ⟨_,LSub.refl _,rfl,_,rfl,fin _ _ p0 (sl (by omega)) (pr _ p0) (sr (by omega) _ p0)⟩
       | skip
     ·have hno:=w0p c2 hme2 (by omega) (l:=row) (by omega);rw [hno] at hp2 cross l1 l2 r1 r2;obtain ⟨row2,hrow2⟩ : ∃ row2,row=row2:=⟨_,rfl⟩;have hrow3:JH row=JH row2:=by rw [hrow2]
      rw [hrow3];rw [hrow2] at cross l1 l2 r1 r2;have hp2:PermIn row row2 a b:=by rw [<- hrow2];exact hp2
      have hln2:row2.length=row.length:=hp2.len.1;have hL2 : ∀ x∈row2,L x:=fun x hx=>hL x (hp2.perm.mem_iff.1 hx);have p0:PermIn row2 row2 a mid := .refl (by omega) (by omega);have hLe:=fun (q1:a<r) (q2:r<mid)=>ih row2 a r mid N (by omega) q1 q2 (by omega) (by omega) (by omega) hL2 l1 l2;have hRi:=fun row3 (p3:PermIn row2 row3 a mid) (q1:mid<e) (q2:e<b)=>ih row3 mid e b N (by omega) q1 q2 (by have:=p3.len;omega) (by have:=p3.len;omega) (by have:=p3.len;omega) (fun x hx=>hL2 x (p3.perm.mem_iff.1 hx))
       (fun u v u1 u2 u3=>by rw [p3.out (.inr (by omega)),p3.out (.inr (by omega))];exact r1 u v u1 u2 u3) (fun u v u1 u2 u3=>by rw [p3.out (.inr (by omega)),p3.out (.inr (by omega))];exact r2 u v u1 u2 u3)
      have sl:(r=a∨mid<=r)->srt K row2 a mid:=fun h=>by
       rcases h with h|h
       ·rw [h] at l2;exact l2
       ·rw [show r=mid by omega] at l1;exact l1
      have pr : ∀ row3,PermIn row2 row3 a mid->PermIn row3 row3 mid b:=fun row3 p3 => .refl (by omega) (by have:=p3.len;omega);have sr:(e<=mid∨e=b) -> ∀ row3,PermIn row2 row3 a mid->srt K row3 mid b:=fun h row3 p3 u v u1 u2 u3=>by
       rw [p3.out (.inr (by omega)),p3.out (.inr (by omega))];rcases h with h|h
       ·exact r2 u v (by omega) u2 u3
       ·exact r1 u v u1 u2 (by omega)
      have fin : ∀ row3 row4,PermIn row2 row3 a mid->srt K row3 a mid->PermIn row3 row4 mid b->srt K row4 mid b->PermIn row row4 a b∧srt K row4 a b:=fun row3 row4 p3 s3 p4 s4 =>
       ⟨hp2.trans ((p3.wide (Nat.le_refl _) (by omega) (by omega)).trans (p4.wide (by omega) (Nat.le_refl _) (by have:=p3.len;omega))),q7q (by omega) (by omega) cross p3 s3 p4 s4⟩
      conv=>whnf
      repeat' (first|((first|refine wI ?_|(refine CallK.heap [(1000,1000)] 5 (ArgsH.cons (LSub.refl _) (ArgsH.cons (LSub.p (Sub.int (by omega))) (ArgsH.cons (LSub.p (Sub.int (by omega))) (ArgsH.cons (LSub.p (Sub.int (by omega))) (ArgsH.cons (LSub.refl _) ArgsH.nil))))) (by refine BlksH.cons (j:=1000) rfl rfl ?_ ?_;exact CSub.refl _;exact BlksH.nil) (hLe (by omega) (by omega)) rfl rfl ?_;rintro l' H' ⟨rfl,row3,rfl,p3,s3⟩)|(refine CallK.heap [(1000,1000)] 5 (ArgsH.cons (LSub.refl _) (ArgsH.cons (LSub.p (Sub.int (by omega))) (ArgsH.cons (LSub.p (Sub.int (by omega))) (ArgsH.cons (LSub.p (Sub.int (by omega))) (ArgsH.cons (LSub.refl _) ArgsH.nil))))) (by refine BlksH.cons (j:=1000) rfl rfl ?_ ?_;exact CSub.refl _;exact BlksH.nil) (hRi _ p0 (by omega) (by omega)) rfl rfl ?_;rintro l' H' ⟨rfl,row4,rfl,p4,s4⟩));conv=>whnf)|(apply bD<;>intro _<;>first|omega|conv=>whnf))
      all_goals first
       | (exfalso;omega)
       | exact ⟨_,LSub.refl _,rfl,_,rfl,fin _ _ p3 s3 p4 s4⟩
       | exact ⟨_,LSub.refl _,rfl,_,rfl,fin _ _ p3 s3 (pr _ p3) (sr (by omega) _ p3)⟩
       | exact ⟨_,LSub.refl _,rfl,_,rfl,fin _ _ p0 (sl (by omega)) p4 s4⟩
       | exact ⟨_,LSub.refl _,rfl,_,rfl,fin _ _ p0 (sl (by omega)) (pr _ p0) (sr (by omega) _ p0)⟩
       | skip
theorem x6b {K:Int->Int} {l:List Int} {a b:Nat} (h:b<=a+1):srt K l a b:=fun i k h1 h2 h3=>by omega
theorem q0k {g:Nat} {c:AV} {K:Int->Int} {L:Int->Prop} (hC:CmpF g c K L) (row:List Int) (a b N:Nat) (hab:a<=b) (hbl:b<=row.length) (hN:N=row.length) (hl:row.length<=1000000) (hL : ∀ x∈row,L x) :
  SpecH Tryz.prog 313 [.hd 1000 0 N,.p (.int .i64 a),.p (.int .i64 b),.p (.fn g [c])] (JH row) (fun r H=>r = .p (.tup []) ∧ ∃ row',H=JH row'∧PermIn row row' a b∧srt K row' a b):=by
 refine sH WE Tryz.func313 rfl Tryz.call313 ?_;conv=>whnf
 repeat' (refine wI ?_;conv=>whnf)
 refine LoopK.inv QV (fun x:List Int×Nat=>⟨[(0,.hd 1000 0 N),(1,.p (.int .i64 a)),(2,.p (.int .i64 b)),(3,.p (.fn g [c])),(8,.p (.int .i64 x.2))],JH x.1⟩)
  (fun x=>a+1<=x.2∧(x.2<=b∨x.2=a+1)∧PermIn row x.1 a b∧srt K x.1 a x.2) (fun x=>b-x.2) (row,a+1) (Le.of_eq (by simp only;rw [show ((a+1:Nat):Int)=(a:Int)+1 by omega];rfl)) ⟨Nat.le_refl _,.inr rfl,.refl hab hbl,x6b (Nat.le_refl _)⟩ ?_
 rintro ⟨r0,i⟩ ⟨h1,h2,hp,hs⟩;simp only at h1 h2 hp hs ⊢;have hlen:=hp.len.1;rcases Nat.lt_or_ge i b with hib|hib;rotate_left 1
 ·unfold JH;conv=>whnf
  repeat' (apply bD<;>intro _<;>first|omega|conv=>whnf)
  all_goals first
   | (exfalso;omega)
   | exact ⟨_,LSub.refl _,rfl,r0,rfl,hp,fun u v u1 u2 u3=>hs u v u1 u2 (by omega)⟩
   | skip
 conv=>whnf
 repeat' (apply bD<;>intro _<;>first|omega|conv=>whnf)
 all_goals first
  | (exfalso;omega)
  | skip
 refine LoopK.inv QV (fun j:Nat=>⟨[(0,.hd 1000 0 N),(1,.p (.int .i64 a)),(2,.p (.int .i64 b)),(3,.p (.fn g [c])),(8,.p (.int .i64 i)),(9,.p (.int .i64 j))],JH (mvL r0 i j)⟩)
  (fun j=>(a<=j∧j<=i) ∧ ∀ k,j<=k->k<i->K (getz r0 k)<K (getz r0 i)) (fun j=>j) i (Le.of_eq (by rw [x2x];rfl)) ⟨⟨by omega,Nat.le_refl _⟩,fun k k1 k2=>by omega⟩ ?_
 rintro j ⟨⟨k1,k2⟩,k3⟩;simp only at k1 k2 k3 ⊢;have hml:=JU r0 i j;have hfin:(j=a∨K (getz r0 i)<=K (getz r0 (j-1)))->PermIn row (mvL r0 i j) a b∧srt K (mvL r0 i j) a (i+1):=fun h=>by
  have hp2:=x0v (l:=r0) (m:=i) (by omega) (d:=i-j) (by omega);rw [show i-(i-j)=j by omega] at hp2;refine ⟨hp.trans (hp2.wide k1 (by omega) (by omega)),x9p k1 k2 (by omega) hs (fun k q1 q2 => ?_) k3⟩;rcases h with h|h
  ·omega
  ·have:=hs.le (i:=k) (k:=j-1) q1 (by omega) (by omega);omega
 by_cases hja:j=a
 ·have hf:=hfin (.inl hja);unfold JH;conv=>whnf
  repeat' (first|((first|refine dA ?_|refine wI ?_);conv=>whnf)|(apply bD<;>intro _<;>first|omega|conv=>whnf))
  all_goals first
   | (exfalso;omega)
   | exact ⟨(mvL r0 i j,i+1),⟨by simp only;omega,.inl (by simp only;omega),hf.1,hf.2⟩,by simp only;omega,Le.of_eq rfl⟩
   | skip
 obtain ⟨q,rfl⟩ : ∃ q,j=q+1:=⟨j-1,by omega⟩;have e1:getz (mvL r0 i (q+1)) (q+1)=getz r0 i:=by rw [GV (by omega),if_neg (by omega),if_pos rfl]
 have e2:getz (mvL r0 i (q+1)) q=getz r0 q:=by rw [GV (by omega),if_pos (by omega)]
 have hst:=x1f (l:=r0) (m:=i) (k:=q) k2 (by omega);have g1:=UH (l:=mvL r0 i (q+1)) (i:=q) (by omega);have g2:=UH (l:=mvL r0 i (q+1)) (i:=q+1) (by omega);rw [e1] at g2 hst;rw [e2] at g1 hst;have hcm:=hC.cmp (getz r0 i) (getz r0 q) (hL _ (hp.perm.mem_iff.1 (WB (by omega)))) (hL _ (hp.perm.mem_iff.1 (WB (by omega))));have hb1:=hC.bnd (getz r0 i);have hb2:=hC.bnd (getz r0 q);rw [show q+1-1=q by omega] at hfin;have hst':((mvL r0 i (q+1)).set (q+1) (getz r0 q)).set q (getz r0 i)=mvL r0 i q:=by rw [<- hst];exact List.set_comm _ _ (by omega)
 have hq1:((q+1:Nat):Int)-1=(q:Int):=by omega
 have hnext:K (getz r0 q)<K (getz r0 i) -> ∀ k,q<=k->k<i->K (getz r0 k)<K (getz r0 i):=fun h k q1 q2=>by
  by_cases he:k=q
  ·rw [he];exact h
  ·exact k3 k (by omega) q2
 generalize mvL r0 i (q+1)=rw' at hml hst' g1 g2 hfin ⊢;generalize getz r0 i=x at *
 generalize getz r0 q=y at *
 have g3:((rw'.map (AV.int .i64)).set (q+1) (.int .i64 y))[q]? = some (.int .i64 y):=by rw [List.getElem?_set_ne (by omega)];exact g1
 unfold JH;conv=>whnf
 repeat' (first|((first|refine dA ?_|refine And.intro rfl ?_|refine wI ?_|refine IdxL.mk (q+1) (by omega) (by omega) ?_|refine IdxL.mk q (by omega) (by omega) ?_|refine LdOwn.mk (q+1) 0 _ (by omega) g2 ?_|refine LdOwn.mk q 0 _ (by omega) g1 ?_|refine cP hcm ?_|refine StOwn.mk (q+1) 0 _ (.int .i64 y) (by omega) g2 (Nat.le_refl _) rfl ?_|refine StOwn.mk q 0 _ (.int .i64 x) (by omega) g3 (Nat.le_refl _) rfl ?_);conv=>whnf)|(apply bD<;>intro _<;>first|omega|conv=>whnf))
 all_goals first
  | (exfalso;omega)
  | exact ⟨q,⟨⟨by omega,by omega⟩,hnext (by omega)⟩,by omega,Le.of_eq (by rw [<- hst',List.map_set,List.map_set,hq1])⟩
  | (have hf:=hfin (.inr (by omega));exact ⟨(rw',i+1),⟨by simp only;omega,.inl (by simp only;omega),hf.1,hf.2⟩,by simp only;omega,Le.of_eq rfl⟩)
  | skip
theorem srt.keep {K:Int->Int} {l l':List Int} {a b u v:Nat} (h:srt K l u v) (hp:PermIn l l' a b) (ho:v<=a∨b<=u):srt K l' u v:=fun i k h1 h2 h3=>by
 rw [hp.out (by omega),hp.out (by omega)];exact h i k h1 h2 h3
theorem srt.sub {K:Int->Int} {l:List Int} {a b u v:Nat} (h:srt K l a b) (h1:a<=u) (h2:v<=b):srt K l u v:=fun i k q1 q2 q3=>h i k (by omega) q2 (by omega)
theorem q7f {q q0 B:Nat} (h:q<q0):q*B+B<=q0*B:=by
 have:=Nat.mul_le_mul_right B (show q+1<=q0 from h)
 rwa [succ_mul] at this
def blk (K:Int->Int) (l:List Int) (bs n:Nat):Prop := ∀ q,srt K l (q*bs) (min (q*bs+bs) n)
theorem x7d {g:Nat} {c:AV} {K:Int->Int} {L:Int->Prop} (hC:CmpF g c K L) (row:List Int) (n:Nat) (hN:n=row.length) (hl:row.length<=1000000) (hL : ∀ x∈row,L x) :
  SpecH Tryz.prog 249 [.hd 1000 0 n,.p (.int .i64 n),.p (.fn g [c])] (JH row) (fun r H=>r = .p (.tup []) ∧ ∃ row',H=JH row'∧PermIn row row' 0 n∧srt K row' 0 n):=by
 refine sH YQ Tryz.func249 rfl Tryz.call249 ?_;conv=>whnf
 skip
 refine LoopK.inv QV (fun x:List Int×Nat=>⟨[(0,.hd 1000 0 n),(1,.p (.int .i64 n)),(2,.p (.fn g [c])),(6,.p (.int .i64 20)),(7,.p (.int .i64 (x.2*20:Nat))),(8,.p (.int .i64 (x.2*20+20:Nat)))],JH x.1⟩)
  (fun x=>x.2*20<=n∧PermIn row x.1 0 n ∧ ∀ q,q<x.2->srt K x.1 (q*20) (q*20+20)) (fun x=>n-x.2*20) (row,0) (Le.of_eq rfl) ⟨by simp,.refl (zero_le _) (by omega),fun q hq=>by simp only at hq;omega⟩ ?_
 rintro ⟨r1,q0⟩ ⟨h1,hp,hs⟩;simp only at h1 hp hs ⊢;have hlen:=hp.len.1;have hL1 : ∀ x∈r1,L x:=fun x hx=>hL x (hp.perm.mem_iff.1 hx);rcases Nat.lt_or_ge n (q0*20+20) with hb|hb;rotate_left 1
 ·have hI:=q0k hC r1 (q0*20) (q0*20+20) n (by omega) (by omega) (by omega) (by omega) hL1;conv=>whnf
  repeat' (first|((first|refine Wr.eq (m:=((q0+1)*20+20:Nat)) (by omega) (by omega) (by omega) ?_|(refine CallK.heap [(1000,1000)] 5 (ArgsH.cons (LSub.refl _) (ArgsH.cons (LSub.p (Sub.int (by omega))) (ArgsH.cons (LSub.p (Sub.int (by omega))) (ArgsH.cons (LSub.refl _) ArgsH.nil)))) (by refine BlksH.cons (j:=1000) rfl rfl ?_ ?_;exact CSub.refl _;exact BlksH.nil) hI rfl rfl ?_;rintro l' H' ⟨rfl,r2,rfl,p2,s2⟩));conv=>whnf)|(apply bD<;>intro _<;>first|omega|conv=>whnf))
  all_goals first
   | (exfalso;omega)
   | exact ⟨(r2,q0+1),⟨by simp only;omega,hp.trans (p2.wide (by omega) (by omega) (by omega)),fun q hq=>by
      simp only at hq ⊢;by_cases he:q=q0
      ·rw [he];exact s2
      ·exact (hs q (by omega)).keep p2 (.inl (by omega))⟩,by simp only;omega,Le.of_eq (by simp only;rw [show (q0+1)*20=q0*20+20 by omega];rfl)⟩
   | skip
 have hI:=q0k hC r1 (q0*20) n n (by omega) (by omega) (by omega) (by omega) hL1;conv=>whnf
 repeat' (first|(refine CallK.heap [(1000,1000)] 5 (ArgsH.cons (LSub.refl _) (ArgsH.cons (LSub.p (Sub.int (by omega))) (ArgsH.cons (LSub.p (Sub.int (by omega))) (ArgsH.cons (LSub.refl _) ArgsH.nil)))) (by refine BlksH.cons (j:=1000) rfl rfl ?_ ?_;exact CSub.refl _;exact BlksH.nil) hI rfl rfl ?_;rintro l' H' ⟨rfl,r2,rfl,p2,s2⟩;conv=>whnf)|(apply bD<;>intro _<;>first|omega|conv=>whnf))
 all_goals first
  | (exfalso;omega)
  | skip
 have hp2:PermIn row r2 0 n:=hp.trans (p2.wide (by omega) (Nat.le_refl _) (by omega));have hblk:blk K r2 20 n:=fun q=>by
  rcases Nat.lt_trichotomy q q0 with hq|hq|hq
  ·exact ((hs q hq).keep p2 (.inl (by omega))).sub (Nat.le_refl _) (by omega)
  ·subst hq;exact s2.sub (Nat.le_refl _) (by omega)
  ·exact x6b (by omega)
 clear hI hs hL1 hlen hp p2 s2 hb h1;refine LoopK.inv QV (fun x:List Int×Nat=>⟨[(0,.hd 1000 0 n),(1,.p (.int .i64 n)),(2,.p (.fn g [c])),(6,.p (.int .i64 x.2))],JH x.1⟩)
  (fun x=>(20<=x.2∧x.2<=2000000)∧PermIn row x.1 0 n∧blk K x.1 x.2 n) (fun x=>n-x.2) (r2,20) (Le.of_eq rfl) ⟨⟨Nat.le_refl _,by simp only;omega⟩,hp2,hblk⟩ ?_
 clear hp2 hblk r2;rintro ⟨r1,bs⟩ ⟨⟨h1,h2⟩,hp,hs⟩;simp only at h1 h2 hp hs ⊢;have hlen:=hp.len.1;rcases Nat.lt_or_ge bs n with hb|hb;rotate_left 1
 ·have h0:=hs 0;rw [Nat.zero_mul] at h0;unfold JH;conv=>whnf
  repeat' (apply bD<;>intro _<;>first|omega|conv=>whnf)
  all_goals first
   | (exfalso;omega)
   | exact ⟨_,LSub.refl _,rfl,r1,rfl,hp,h0.sub (Nat.le_refl _) (by omega)⟩
   | skip
 conv=>whnf
 repeat' (first|(refine wI ?_;conv=>whnf)|(apply bD<;>intro _<;>first|omega|conv=>whnf))
 all_goals first
  | (exfalso;omega)
  | skip
 refine LoopK.inv QV (fun x:List Int×Nat=>⟨[(0,.hd 1000 0 n),(1,.p (.int .i64 n)),(2,.p (.fn g [c])),(6,.p (.int .i64 bs)),(7,.p (.int .i64 (x.2*(2*bs):Nat))),(8,.p (.int .i64 (x.2*(2*bs)+2*bs:Nat)))],JH x.1⟩)
  (fun x=>x.2*(2*bs)<=n∧PermIn row x.1 0 n∧(∀ q,q<x.2->srt K x.1 (q*(2*bs)) (q*(2*bs)+2*bs)) ∧ ∀ q,2*x.2<=q->srt K x.1 (q*bs) (min (q*bs+bs) n)) (fun x=>n-x.2*(2*bs)) (r1,0) (Le.of_eq (by simp only [Nat.zero_mul,Nat.zero_add];rw [show ((2*bs:Nat):Int)=2*(bs:Int) by omega];rfl)) ⟨by simp,hp,fun q hq=>by simp only at hq;omega,fun q _=>hs q⟩ ?_
 clear hp hs hlen r1;rintro ⟨r1,q0⟩ ⟨h3,hp,hs1,hs2⟩;simp only at h3 hp hs1 hs2 ⊢;have hlen:=hp.len.1;have hL1 : ∀ x∈r1,L x:=fun x hx=>hL x (hp.perm.mem_iff.1 hx);have e1:2*q0*bs=q0*(2*bs):=by rw [Nat.mul_comm 2 q0,Nat.mul_assoc]
 have e2:(2*q0+1)*bs=q0*(2*bs)+bs:=by rw [Nat.add_mul,e1,Nat.one_mul]
 have e3:(q0+1)*(2*bs)=q0*(2*bs)+2*bs:=succ_mul _ _;have b1:=hs2 (2*q0) (Nat.le_refl _);have b2:=hs2 (2*q0+1) (by omega);rw [e1] at b1;rw [e2] at b2;have far : ∀ q,2*q0+2<=q->q0*(2*bs)+2*bs<=q*bs:=fun q hq=>by
  have:=Nat.mul_le_mul_right bs hq;rw [show 2*q0+2=(2*q0+1)+1 from rfl,succ_mul,e2] at this;omega
 have near : ∀ q,q<q0->q*(2*bs)+2*bs<=q0*(2*bs):=fun q hq=>q7f hq;generalize hA:q0*(2*bs)=A at *
 rcases Nat.lt_or_ge n (A+2*bs) with hb2|hb2;rotate_left 1
 ·have hM:=NW hC (A+2*bs-A) r1 A (A+bs) (A+2*bs) n (Nat.le_refl _) (by omega) (by omega) (by omega) (by omega) (by omega) hL1 (b1.sub (Nat.le_refl _) (by omega)) (b2.sub (Nat.le_refl _) (by omega));conv=>whnf
  repeat' (first|((first|refine wI ?_|(refine CallK.heap [(1000,1000)] 5 (ArgsH.cons (LSub.refl _) (ArgsH.cons (LSub.p (Sub.int (by omega))) (ArgsH.cons (LSub.p (Sub.int (by omega))) (ArgsH.cons (LSub.p (Sub.int (by omega))) (ArgsH.cons (LSub.refl _) ArgsH.nil))))) (by refine BlksH.cons (j:=1000) rfl rfl ?_ ?_;exact CSub.refl _;exact BlksH.nil) hM rfl rfl ?_;rintro l' H' ⟨rfl,r2,rfl,p2,s2⟩));conv=>whnf)|(apply bD<;>intro _<;>first|omega|conv=>whnf))
  all_goals first
   | (exfalso;omega)
   | exact ⟨(r2,q0+1),⟨by simp only;omega,hp.trans (p2.wide (by omega) (by omega) (by omega)),fun q hq=>by
      simp only at hq;by_cases he:q=q0
      ·rw [he,hA];exact s2
      ·have:=near q (by omega);exact (hs1 q (by omega)).keep p2 (.inl (by omega)),fun q hq=>by
      simp only at hq;have:=far q (by omega);exact (hs2 q (by omega)).keep p2 (.inr (by omega))⟩,by simp only;omega,Le.of_eq (by simp only;rw [e3,show ((A+2*bs+2*bs:Nat):Int)=((A+2*bs:Nat):Int)+2*(bs:Int) by omega];rfl)⟩
   | skip
 ·have hend : ∀ r2,PermIn r1 r2 A n->srt K r2 A n->PermIn row r2 0 n∧blk K r2 (2*bs) n:=fun r2 p2 s2=>by
   refine ⟨hp.trans (p2.wide (by omega) (Nat.le_refl _) (by omega)),fun q => ?_⟩;rcases Nat.lt_trichotomy q q0 with hq|hq|hq
   ·have:=near q hq;exact ((hs1 q hq).keep p2 (.inl (by omega))).sub (Nat.le_refl _) (by omega)
   ·subst hq;rw [hA];exact s2.sub (Nat.le_refl _) (by omega)
   ·have:=q7f (B:=2*bs) hq;rw [hA] at this;exact x6b (by omega)
  by_cases hm:A+bs<n
  ·have hM:=NW hC (n-A) r1 A (A+bs) n n (Nat.le_refl _) (by omega) (by omega) (by omega) (by omega) (by omega) hL1 (b1.sub (Nat.le_refl _) (by omega)) (b2.sub (Nat.le_refl _) (by omega));conv=>whnf
   repeat' (first|((first|refine wI ?_|(refine CallK.heap [(1000,1000)] 5 (ArgsH.cons (LSub.refl _) (ArgsH.cons (LSub.p (Sub.int (by omega))) (ArgsH.cons (LSub.p (Sub.int (by omega))) (ArgsH.cons (LSub.p (Sub.int (by omega))) (ArgsH.cons (LSub.refl _) ArgsH.nil))))) (by refine BlksH.cons (j:=1000) rfl rfl ?_ ?_;exact CSub.refl _;exact BlksH.nil) hM rfl rfl ?_;rintro l' H' ⟨rfl,r2,rfl,p2,s2⟩));conv=>whnf)|(apply bD<;>intro _<;>first|omega|conv=>whnf))
   all_goals first
    | (exfalso;omega)
    | (have hf:=hend r2 p2 s2;exact ⟨(r2,2*bs),⟨⟨by simp only;omega,by simp only;omega⟩,hf.1,hf.2⟩,by simp only;omega,Le.of_eq (by simp only;rw [show ((2*bs:Nat):Int)=(bs:Int)*2 by omega];rfl)⟩)
    | skip
  ·have hf:=hend r1 (.refl (by omega) (by omega)) (b1.sub (Nat.le_refl _) (by omega));unfold JH;conv=>whnf
   repeat' (first|(refine wI ?_;conv=>whnf)|(apply bD<;>intro _<;>first|omega|conv=>whnf))
   all_goals first
    | (exfalso;omega)
    | exact ⟨(r1,2*bs),⟨⟨by simp only;omega,by simp only;omega⟩,hf.1,hf.2⟩,by simp only;omega,Le.of_eq (by simp only;rw [show ((2*bs:Nat):Int)=(bs:Int)*2 by omega])⟩
    | skip
theorem q2i {g:Nat} {c:AV} {K:Int->Int} {L:Int->Prop} (hC:CmpF g c K L) (row:List Int) (n:Nat) (hN:n=row.length) (hl:row.length<=1000000) (hL : ∀ x∈row,L x) :
  SpecH Tryz.prog 185 [.hd 1000 0 n,.p (.fn g [c])] (JH row) (fun r H=>r = .p (.tup []) ∧ ∃ row',H=JH row'∧PermIn row row' 0 n∧srt K row' 0 n):=by
 refine sH VK Tryz.func185 rfl Tryz.call185 ?_;have hS:=x7d hC row n hN hl hL;conv=>whnf
 repeat' ((first|(refine iM fun _=>?_)|(refine CallK.heap [(1000,1000)] 5 (ArgsH.cons (LSub.refl _) (ArgsH.cons (LSub.refl _) (ArgsH.cons (LSub.refl _) ArgsH.nil))) (by refine BlksH.cons (j:=1000) rfl rfl ?_ ?_;exact CSub.refl _;exact BlksH.nil) hS rfl rfl ?_;rintro l' H' ⟨rfl,r2,rfl,p2,s2⟩));conv=>whnf)
 exact ⟨_,LSub.refl _,rfl,r2,rfl,p2,s2⟩
def w4s:List AV:=[.int .i64 (-1),.int .i64 0,.nils,.str [],.str [],.int .i64 0,.int .i64 0,.str [],.nils,.ff,.nils,.nils,.nils]
theorem q1f : ∀ (k:Nat) (l:List S) (_:cntL l<k) (_:cntL l<=1000000) (_ : ∀ t∈flL l,okC t∧t.id ≠ -1),SpecP Tryz.prog 95 [eSs l,.agg w4s] (fun r=>r=eSs l):=by
 intro k;induction k with
 | zero=>intro l h;omega
 | succ k ih =>
   intro l hk hn hok;have hsl:(S.avs l).length=l.length:=by rw [S.avs_eq,length_map]
   have hcl:=q2n l;refine sB PA Tryz.func95 rfl Tryz.call95 ?_;conv=>whnf
   repeat' (refine iM fun _=>?_;conv=>whnf)
   refine LoopK.inv QV (fun j:Nat=>⟨[(3,.p (.ip w4s)),(5,.hd 0 0 j),(9,.p (eSs l)),(10,.p (.int .i64 (S.avs l).length)),(11,.p (.int .i64 j))],[(0,.own 40 13 (S.avs (l.take j)))]⟩) (fun j=>j<=l.length) (fun j=>l.length-j) 0
    (Le.mk [(0,.own 40 13 [])] (by simp [Chunk.new0];rfl) (by simp) (by simp) (.cons (.refl _) (.cons (.nil mem_cons_self) (.cons (.refl _) (.cons (.refl _) (.cons (.refl _) .nil))))) (.new mem_cons_self .nil)) (zero_le _) ?_
   intro j h2;rcases Nat.lt_or_ge j l.length with hj|hj
   ·have htm:=q1i (List.getElem_mem hj);have hcs:=ZS l[j];have hself:=hok _ (FI l _ (List.getElem_mem hj));have hsub : ∀ t,t∈flL l[j].thn∨t∈flL l[j].els->okC t∧t.id ≠ -1:=fun t ht=>hok t (by
     have:t∈flS l[j]:=by
      rw [q7p];exact List.mem_cons_of_mem _ (List.mem_append.2 ht)
     have key : ∀ (m:List S) (i:Nat) (h:i<m.length),t∈flS m[i]->t∈flL m:=fun m=>by
      induction m with
      | nil=>intro i h;simp at h
      | cons a r ih =>
        intro i h ht;rw [flL];cases i with
        | zero=>exact List.mem_append.2 (.inl ht)
        | succ i=>exact List.mem_append.2 (.inr (ih i (by simpa using h) ht))
     exact key l j hj this)
    have h5:=WW l[j] hself.1.1 hself.1.2.1 hself.1.2.2.1 hself.1.2.2.2;have hid:=hself.2;have h6:=ih l[j].thn (by omega) (by omega) fun t ht=>hsub t (.inl ht);have h7:=ih l[j].els (by omega) (by omega) fun t ht=>hsub t (.inr ht);have hacl:j=(S.avs (l.take j)).length:=by rw [S.avs_eq,length_map,length_take];omega
    have hav:S.avs (l.take (j+1))=S.avs (l.take j)++[.agg l[j].cells]:=by
     rw [S.avs_eq,S.avs_eq,List.take_succ_eq_append_getElem hj,List.map_append];rfl
    generalize S.avs (l.take j)=acc at hacl hav ⊢;have e:l[j] = .mk l[j].id l[j].kind l[j].labels l[j].name l[j].proc l[j].x l[j].has l[j].args l[j].thn l[j].els:=by cases l[j];rfl
    conv=>whnf
    repeat' (first|((first|refine dA ?_|refine And.intro rfl ?_|refine aD ?_|refine bP ?_|refine QB (by omega) ?_|refine wI ?_|refine cP h5 ?_|refine cP h6 ?_|refine cP h7 ?_|refine AppK.mk hacl rfl (by show (j+1)*208<=140737488355328;omega) (by show j+1<=9223372036854775807;omega) (fun x hx=>by rcases List.mem_singleton.1 hx with rfl;exact ⟨rfl,rfl⟩) ?_);conv=>whnf)|(apply bD<;>intro _<;>first|omega|conv=>whnf))
    all_goals first
     | exact ⟨j+1,hj,by omega,Le.of_eq (by rw [hav];rfl)⟩
     | contradiction
   ·have hall:l.take j=l:=List.take_of_length_le hj;have hjl:j=(S.avs l).length:=by rw [S.avs_eq,length_map];omega
    rw [hall];conv=>whnf
    repeat' (apply bD<;>intro _<;>first|omega|conv=>whnf)
    exact ⟨_,.hd rfl hjl,rfl⟩
theorem z5m : ∀ (l:List Pr) (j:Nat),QD l j<=cntP l
 | _,0=>by rw [QD];omega
 | [],j+1=>by rw [QD];omega
 | g::r,j+1=>by rw [QD,cntP];have:=z5m r j;omega
structure CopyF (p:Pg):Prop where
 procs:p.procs.length<=1000
 globals:p.globals.length<=1000000
 pr : ∀ f∈p.procs,f.vars.length<=1000000∧f.fin.length<=1000000∧f.params.length<=1000000∧cntL f.body<=100000 ∧ ∀ t∈flL f.body,okC t∧t.id ≠ -1
def v6a (p:Pg):Heap:=[(2,.obj 25 [.p (QP p.globals),.hd 1 0 p.procs.length]),(1,.own 90 5 (p.procs.map fun f => .agg f.cells))]
def v4s (p:Pg):Heap:=[(6,.own 90 5 (p.procs.map fun f => .agg f.cells)),(1,.obj 25 [.p (QP p.globals),.hd 6 0 p.procs.length])]
theorem q1r (p:Pg) (h:CopyF p):SpecH Tryz.prog 41 [.p (.agg p.cells),.p (.agg w4s)] [] (fun r H=>r = .agg [.p (QP p.globals),.hd 1 0 p.procs.length]∧H=v6a p):=by
 refine sH NJ Tryz.func41 rfl Tryz.call41 ?_;conv=>whnf
 have hgt:=XZ p.globals h.globals;have hpm:(p.procs.map fun f=>AV.agg f.cells).length=p.procs.length:=length_map _;have hpl:=h.procs;repeat' ((first|(refine iM fun _=>?_)|refine And.intro rfl ?_|refine cP hgt ?_);conv=>whnf)
 refine LoopK.inv QV (fun j:Nat=>⟨[(3,.p (.ip w4s)),(4,.ptr 2 0),(5,.ptr 0 0),(14,.p (.sl (p.procs.map fun f=>AV.agg f.cells))),(15,.p (.int .i64 (p.procs.map fun f=>AV.agg f.cells).length)),(16,.p (.int .i64 j))],[(0,.obj 25 [.p (QP p.globals),.hd 1 0 j]),(2,.obj 25 [.p .nils,.p .nils]),(1,.own 90 5 ((p.procs.take j).map fun f => .agg f.cells))]⟩) (fun j=>j<=p.procs.length) (fun j=>p.procs.length-j) 0
  (Le.mk [(1,.own 90 5 [])] (by simp [Chunk.new0];rfl) (by simp) (by simp) (.cons (.refl _) (.cons (.refl _) (.cons (.refl _) (.cons (.refl _) (.cons (.refl _) (.cons (.refl _) .nil)))))) (.cons rfl (.obj (.cons (.refl _) (.cons (.nil mem_cons_self) .nil))) (.cons rfl (.refl _) (.new mem_cons_self .nil)))) (zero_le _) ?_
 intro j h2;rcases Nat.lt_or_ge j p.procs.length with hj|hj
 ·obtain ⟨hv,hfin,hpm2,hcb,hok⟩:=h.pr _ (List.getElem_mem hj);have h5:=XZ p.procs[j].vars hv;have h6:=XZ p.procs[j].fin hfin;have h7:=q1f (cntL p.procs[j].body+1) p.procs[j].body (by omega) (by omega) hok;have htl:((p.procs.take j).map fun f=>AV.agg f.cells).length=j:=by rw [length_map,length_take];omega
  have htk:((p.procs.take (j+1)).map fun f=>AV.agg f.cells)=((p.procs.take j).map fun f=>AV.agg f.cells)++[.agg p.procs[j].cells]:=by
   rw [List.take_succ_eq_append_getElem hj,List.map_append];rfl
  generalize ((p.procs.take j).map fun f=>AV.agg f.cells)=acc at htl htk ⊢;have hpa:(p.procs[j].params.map fun x=>AV.agg x.cells).length=p.procs[j].params.length:=length_map _;conv=>whnf
  repeat' (first|((first|refine dA ?_|refine And.intro rfl ?_|refine aD ?_|(refine iA fun _=>?_)|refine cP h5 ?_|refine cP h6 ?_|refine cP h7 ?_|refine AppK.mk rfl rfl (by rw [hpa];show (0+p.procs[j].params.length)*24<=140737488355328;omega) (by rw [hpa];show 0+p.procs[j].params.length<=9223372036854775807;omega) (fun x hx=>by obtain ⟨y,_,rfl⟩:=List.mem_map.1 hx;exact ⟨rfl,rfl⟩) ?_);conv=>whnf)|(apply bD<;>intro _<;>first|omega|conv=>whnf)|(refine And.intro ?_ ?_<;>conv=>whnf))
  all_goals
   refine z5v QV (k:=4) 41 p.procs[j].cells rfl rfl rfl (fun q u c h1 h2 => ?_) ?_
   ·match q,h1,h2 with
    | 0,h1,h2=>cases h1;cases h2;exact .inl ⟨_,rfl,Sub.refl _⟩
    | 1,h1,h2=>cases h1;cases h2;exact .inr ⟨_,rfl,by simp,rfl⟩
    | 2,h1,h2=>cases h1;cases h2;exact .inl ⟨_,rfl,Sub.refl _⟩
    | 3,h1,h2=>cases h1;cases h2;exact .inl ⟨_,rfl,Sub.refl _⟩
    | 4,h1,h2=>cases h1;cases h2;exact .inl ⟨_,rfl,Sub.refl _⟩
    | q+5,h1,h2=>simp at h1
   conv=>whnf
   repeat' ((first|refine And.intro rfl ?_|refine aD ?_|refine bP ?_|refine wI ?_|refine AppK.mk htl.symm rfl (by show (j+1)*112<=140737488355328;omega) (by show j+1<=9223372036854775807;omega) (fun x hx=>by rcases List.mem_singleton.1 hx with rfl;exact ⟨rfl,rfl⟩) ?_);conv=>whnf)
   exact ⟨j+1,hj,by omega,Le.of_eq (by rw [htk];rfl)⟩
 ·have hA:((p.procs.take j).map fun f=>AV.agg f.cells)=p.procs.map fun f => .agg f.cells:=by
   rw [List.take_of_length_le hj]
  have hje:j=p.procs.length:=by omega
  subst hje;rw [hA];conv=>whnf
  repeat' (first|(refine And.intro rfl ?_;conv=>whnf)|(apply bD<;>intro _<;>first|omega|conv=>whnf))
  exact ⟨_,LSub.refl _,rfl,rfl⟩
theorem JL (p:Pg) (h:CopyF p):SpecH Tryz.prog 90 [.p (.agg p.cells)] [] (fun r H=>r = .agg [.p (QP p.globals),.hd 6 0 p.procs.length]∧H=v4s p):=by
 refine sH PQ Tryz.func90 rfl Tryz.call90 ?_;conv=>whnf
 repeat' ((first|refine And.intro rfl ?_|(refine CallK.heap [] 5 (ArgsH.cons (LSub.refl _) (ArgsH.cons (LSub.refl _) ArgsH.nil)) BlksH.nil (q1r p h) rfl rfl ?_;rintro l' H' ⟨rfl,rfl⟩));conv=>whnf)
 exact ⟨_,LSub.refl _,rfl,rfl⟩
def BP (p:Pg) (j:Nat):List Pr:=(q9u 0 p.procs).take j++p.procs.drop j
theorem x4j : ∀ (l:List Pr) (n j:Nat) (f:Pr),l[j]? = some f->(q9u n l)[j]? = some ⟨f.name,f.params,f.vars,nmL (n+QD l j) f.body,f.fin⟩
 | g::r,n,0,f,h=>by cases h;rw [q9u];rfl
 | g::r,n,j+1,f,h=>by
   rw [q9u,List.getElem?_cons_succ,x4j r (n+cntL g.body) j f (by simpa using h),QD,Nat.add_assoc]
theorem JN : ∀ (l:List Pr) (n:Nat),(q9u n l).length=l.length
 | [],n=>rfl
 | g::r,n=>by rw [q9u,List.length_cons,List.length_cons,JN r]
theorem z6p (p:Pg) {j:Nat} (h:j<=p.procs.length):(BP p j).length=p.procs.length:=by
 unfold BP;rw [length_append,length_take,length_drop,JN];omega
theorem z7s (p:Pg) {j:Nat} (hj:j<p.procs.length):(BP p j)[j]? = some p.procs[j]:=by
 unfold BP;rw [List.getElem?_append_right (by rw [length_take,JN];omega),length_take,JN,List.getElem?_drop];rw [show j+(j-min j p.procs.length)=j by omega,List.getElem?_eq_getElem hj]
theorem z4d (p:Pg) {j:Nat} (hj:j<p.procs.length):BP p (j+1)=(BP p j).set j ⟨p.procs[j].name,p.procs[j].params,p.procs[j].vars,nmL (QD p.procs j) p.procs[j].body,p.procs[j].fin⟩:=by
 have h1:=x4j p.procs 0 j _ (List.getElem?_eq_getElem hj);rw [Nat.zero_add] at h1;unfold BP;have hl:((q9u 0 p.procs).take j).length=j:=by rw [length_take,JN];omega
 rw [List.set_append_right _ _ (by omega),hl,Nat.sub_self,List.drop_eq_getElem_cons hj,List.set_cons_zero,List.take_add_one,h1];simp
theorem w0u {l:List Pr} {j:Nat} (hj:j<l.length):QD l (j+1)=QD l j+cntL l[j].body:=by
 induction l generalizing j with
 | nil=>simp at hj
 | cons g r ih =>
   cases j with
   | zero=>rw [QD,QD,QD];simp
   | succ j =>
     rw [QD,QD,ih (by simpa using hj)];simp only [List.getElem_cons_succ];omega
theorem BD (p:Pg) (h:CopyF p) (hc:cntP p.procs<=100000):SpecP Tryz.prog 92 [.agg p.cells] (fun r=>r = .agg (w8i p).cells):=by
 refine sB GI Tryz.func92 rfl Tryz.call92 ?_;conv=>whnf
 have hpm:(p.procs.map fun f=>AV.agg f.cells).length=p.procs.length:=length_map _;have hpl:=h.procs;repeat' ((first|(refine iM fun _=>?_)|refine And.intro rfl ?_|(refine CallK.heap [] 20 (ArgsH.cons (LSub.refl _) ArgsH.nil) BlksH.nil (JL p h) rfl rfl ?_;rintro l' H' ⟨rfl,rfl⟩));conv=>whnf)
 refine LoopK.inv QV (fun j:Nat=>⟨[(1,.p (.ip p.cells)),(2,.ptr 1 0),(3,.ptr 0 0),(4,.p (.int .i64 (QD p.procs j))),(10,.p (.int .i64 p.procs.length)),(11,.p (.int .i64 j))],[(0,.obj 25 [.p (QP p.globals),.hd 26 0 p.procs.length]),(26,.own 90 5 ((BP p j).map fun f => .agg f.cells)),(1,.obj 25 [.p .nils,.p .nils])]⟩) (fun j=>j<=p.procs.length) (fun j=>p.procs.length-j) 0
  (Le.of_eq (by rw [show BP p 0=p.procs from rfl,show QD p.procs 0=0 by rw [QD]];rfl)) (zero_le _) ?_
 intro j h2;have hrl:=z6p p h2;rcases Nat.lt_or_ge j p.procs.length with hj|hj
 ·obtain ⟨hv,hfin,hpm2,hcb,hok⟩:=h.pr _ (List.getElem_mem hj);have hle:=z5m p.procs j;have h5:=HM (cntL p.procs[j].body+1) p.procs[j].body (by omega) (QD p.procs j) (by omega) fun t ht=>(hok t ht).1;have hget:((BP p j).map fun f=>AV.agg f.cells)[j]? = some (.agg p.procs[j].cells):=by rw [List.getElem?_map,z7s p hj];rfl
  have hset:((BP p j).map fun f=>AV.agg f.cells).set j (.agg (Pr.mk p.procs[j].name p.procs[j].params p.procs[j].vars (nmL (QD p.procs j) p.procs[j].body) p.procs[j].fin).cells)=(BP p (j+1)).map fun f=>AV.agg f.cells:=by
   rw [z4d p hj,<- List.map_set]
  have hst:=w0u hj;generalize ((BP p j).map fun f=>AV.agg f.cells)=row at hget hset ⊢;conv=>whnf
  repeat' (first|((first|refine And.intro rfl ?_|(refine iA fun _=>?_)|refine wI ?_|refine DrawK.of QV mixed (.cons 3 false (.cons 4 false (.cons 5 false (.cons 6 false (.cons 7 false (.cons 8 false (.cons 9 false (.cons 0 false (.cons 2 false (.fork 1 (.cons 10 true (.cons 11 false (.cons 12 false (.cons 14 true (.cons 15 true (.cons 13 false (.cons 16 true (.cons 17 true .nil)))))))) 10 (.cons 1 true (.cons 11 false (.cons 12 false (.cons 14 true (.cons 15 true (.cons 13 false (.cons 16 true (.cons 17 true .nil)))))))))))))))))) (by kernel_rfl) ?_|refine cP h5 ?_|refine IdxL.mk j rfl hj ?_|refine StOwn.mk j 3 (.agg p.procs[j].cells) (.agg (Pr.mk p.procs[j].name p.procs[j].params p.procs[j].vars (nmL (QD p.procs j) p.procs[j].body) p.procs[j].fin).cells) (by show (0+j)*5+3=j*5+3;omega) hget (Nat.le_of_ble_eq_true rfl) rfl ?_);conv=>whnf)|(apply bD<;>intro _<;>first|omega|conv=>whnf)|(refine And.intro ?_ ?_<;>conv=>whnf))
  all_goals exact ⟨j+1,hj,by omega,Le.of_eq (by rw [<- hset,hst];rfl)⟩
 ·have hje:j=p.procs.length:=by omega
  subst hje;have hA:BP p p.procs.length=(w8i p).procs:=by
   unfold BP w8i;rw [List.take_of_length_le (by rw [JN];exact Nat.le_refl _),List.drop_eq_nil_of_le (Nat.le_refl _),List.append_nil]
  have hcl:p.procs.length=((w8i p).procs.map fun f=>AV.agg f.cells).length:=by rw [length_map,<- hA,hrl]
  rw [hA];conv=>whnf
  repeat' (first|(refine And.intro rfl ?_;conv=>whnf)|(apply bD<;>intro _<;>first|omega|conv=>whnf))
  refine ⟨_,.agg (cs:=(w8i p).cells) rfl fun i l c h1 h3 => ?_,rfl⟩
  match i,h1,h3 with
  | 0,h1,h3=>cases h1;cases h3;exact .p (Sub.refl _)
  | 1,h1,h3 =>
    cases h1;cases h3;exact .hd rfl hcl
  | i+2,h1,h3=>simp at h1
theorem q3g {k:Nat} : ∀ {sl:List (Nat×LV)},(∀ x∈sl,x.2.kill k=x.2) -> ∀ j,(getS sl j).kill k=getS sl j
 | [],_,_=>rfl
 | (i,l)::r,h,j=>by
   simp only [getS];cases i==j with
   | true=>exact h _ mem_cons_self
   | false=>exact q3g (fun x hx=>h x (List.mem_cons_of_mem _ hx)) j
theorem x6y {N:Nat} {sl:List (Nat×LV)} {H H':Heap} {k q:Nat} {e e':TypeId} {sz:Nat} {es:List AV} {ls:List LV} {cs:List AV} (hg:getH H k=some (.own e sz es)) (hq:getH H q=some (.obj e' ls)) (hln:ls.length=cs.length)
  (hcs : ∀ (j:Nat) (l:LV) (c:AV),ls[j]? = some l->cs[j]? = some c->(∃ a,l = .p a∧Sub a c)∨(∃ n,l = .hd k 0 n∧n=es.length∧c = .sl es)) (hsl : ∀ j,(getS sl j).kill k=getS sl j)
  (hsub:(H'.map (·.1)).Sublist (H.map (·.1))) (hH : ∀ j c',(j,c')∈H'->j≠k∧((j=q∧c' = .obj e' (cs.map .p))∨((j,c')∈H∧c'.kill k=c'))):Le N ⟨sl,H⟩ ⟨sl,H'⟩:=fun σ β a w hr=>by
 have obj : ∀ {τ:Mem},σ.le τ->(∀ v,RepL σ β (.hd k 0 es.length) v->Rep τ (.sl es) v)->(Chunk.obj e' ls).holds σ β w q->(Chunk.obj e' (cs.map .p)).holds τ β w q:=fun {τ} hle hrow hold=>by
  obtain ⟨i',vs',hi',hh',hn',hc'⟩:=hold;refine ⟨i',vs',hi',hh',by simpa [hln] using hn',fun j l hj => ?_⟩;rw [List.getElem?_map] at hj;cases hc:cs[j]? with
  | none=>rw [hc] at hj;cases hj
  | some c =>
    rw [hc] at hj;cases hj;have hlt:j<ls.length:=by rw [hln];exact (List.getElem?_eq_some_iff.1 hc).1
    obtain ⟨u,h3,h4⟩:=hc' j _ (List.getElem?_eq_getElem hlt);refine ⟨u,h3,?_⟩;rcases hcs j _ c (List.getElem?_eq_getElem hlt) hc with ⟨a',h5,h6⟩|⟨n,h5,rfl,rfl⟩
    ·rw [h5] at h4;cases h4 with
     | p hp=>exact .p (h6 _ _ (hp.mono hle))
    ·rw [h5] at h4;exact .p (hrow _ h4)
 have hc0:=hr.heap.chunks q _ (QY hq);rcases WK.1 (hr.heap.chunks k _ (QY hg)) with ⟨hb0,rfl⟩|⟨i,vs,hi,hisz,hh,hn,hle',hmax,hE⟩
 ·refine ⟨σ,β,⟨hr.size,hr.defers,hr.slots,⟨hr.heap.mem,fun j c' hj => ?_,hsub.nodup hr.heap.nodup,fun j hj=>hr.heap.apart j (hsub.subset hj),fun j hj j' hj'=>hr.heap.inj j (hsub.subset hj) j' (hsub.subset hj')⟩⟩,Mem.le_refl σ,Frm.refl _ _,fun _ h0 h1=>absurd h0 h1,fun b ⟨j,hj,r⟩ => .inl ⟨j,hsub.subset hj,r⟩,fun _ _ _=>rfl⟩;rcases (hH j c' hj).2 with ⟨rfl,rfl⟩|⟨h1,_⟩
  ·refine obj (Mem.le_refl σ) (fun v hv => ?_) hc0;rcases hv.hdI with ⟨_,_,_,he⟩|⟨i,_,hk,_⟩
   ·rw [he];exact .nilsl
   ·rw [hb0] at hk;cases hk
  ·exact hr.heap.chunks j _ h1
 ·refine hr.lay hi (QC hg) hh (fun τ hle hτ j v hv => ?_) (fun τ hle hτ j c' hj => ?_) (hsub.nodup hr.heap.nodup)
  ·show RepL τ β (getS sl j) v;rw [<- hsl j];exact (hv.kill k).mono hle
  ·obtain ⟨h1,h2⟩:=hH j c' hj;rcases h2 with ⟨rfl,rfl⟩|⟨h2,h3⟩
   ·refine ⟨h1,_,QY hq,obj hle fun v hv => ?_⟩;rcases hv.hdI with ⟨hk,_⟩|⟨i',oo,hk,hl,ho,rfl⟩
    ·rw [hi] at hk;cases hk
    ·rw [hi] at hk;cases hk;have hoo:oo=0:=by
      rcases ho with ho|ho
      ·simpa using ho
      ·omega
     subst hoo;obtain ⟨u,hu⟩ : ∃ u:Nat->Nat->Value,∀ (m:Nat) (x:AV) (j:Nat) (c:AV),es[m]? = some x->x.cells[j]? = some c->vs[m*sz+j]? = some (u m j)∧Rep σ c (u m j):=by
      refine ⟨fun m j=>(vs[m*sz+j]?).getD undef,fun m x j c hx hj => ?_⟩;obtain ⟨v,h1,h2⟩:=hE.rep m x j c hx hj;rw [List.getElem?_take] at h1;split at h1
      ·have h1':vs[m*sz+j]? = some v:=by simpa using h1
       exact ⟨by simp [h1'],by simpa [h1'] using h2⟩
      ·cases h1
     exact .sl es i.blk 0 _ sz vs u hτ (by omega) (by omega) hE.size (fun m x j c hx hj=>by simpa using (hu m x j c hx hj).1) fun m x j c hx hj=>(hu m x j c hx hj).2.mono hle
   ·refine ⟨h1,c',h2,fun hold => ?_⟩;have:=(hold.kill k).mono hle fun _ _ _ _=>rfl
    rwa [h3] at this
end Go.Ab
