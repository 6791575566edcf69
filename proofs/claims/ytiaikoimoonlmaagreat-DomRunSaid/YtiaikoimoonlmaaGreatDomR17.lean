/- slices.Equal of marks; way: what follows each one of some. -/
import Derived.Test.YtiaikoimoonlmaaGreatDomR10
import Derived.Test.YtiaikoimoonlmaaGreatDomR15
import Derived.Test.YtiaikoimoonlmaaGreatDomR16
set_option linter.unusedSimpArgs false
set_option linter.unusedVariables false
set_option maxRecDepth 100000
set_option maxHeartbeats 16000000
open List (foldl_cons getD_eq_getElem?_getD length_map map_cons mem_cons_of_mem mem_cons_self nodup_append sum_cons)
open Nat (zero_le)
namespace Go.Ab
open Go.Proofs
def eBs (l:List Bool):AV := .sl (l.map bv)
theorem NH (b:Bool):(bv b).cells=[bv b]:=by cases b<;>rfl
theorem GQ (l m:List Bool):SpecP Tryz.prog 189 [eBs l,eBs m] (fun r=>r = .bool (decide (l=m))):=by
 refine sB YA Tryz.func189 rfl Tryz.call189 ?_;conv=>whnf
 have h1:(l.map bv).length=l.length:=length_map _;have h2:(m.map bv).length=m.length:=length_map _;repeat' (first|(refine iM fun _=>?_;conv=>whnf)|(apply bE<;>intro _<;>first|omega|conv=>whnf))
 all_goals first
  | exact RetK.ff (decide_eq_false fun h=>by subst h;omega)
  | skip
 have hlen:l.length=m.length:=by omega
 refine LoopK.inv QV (fun j:Nat=>⟨[(0,.p (eBs l)),(1,.p (eBs m)),(12,.p (.int .i64 (l.map bv).length)),(13,.p (.int .i64 j))],[]⟩) (fun j=>j<=l.length∧l.take j=m.take j) (fun j=>l.length-j) 0 (Le.of_eq rfl) ⟨zero_le _,rfl⟩ ?_;rintro j ⟨h3,h4⟩;rcases Nat.lt_or_ge j l.length with hj|hj
 ·have e1:(l.map bv)[j]? = some (bv l[j]):=by rw [List.getElem?_map,List.getElem?_eq_getElem hj];rfl
  have e2:(m.map bv)[j]? = some (bv (m[j]'(by omega))):=by rw [List.getElem?_map,List.getElem?_eq_getElem (by omega)];rfl
  have hst:l[j]=m[j]'(by omega)->l.take (j+1)=m.take (j+1):=fun h=>z7a h4 hj (by omega) h;have hno:l[j]≠m[j]'(by omega) -> ¬l=m:=fun h he=>h (by subst he;rfl);generalize l[j]=x at e1 hst hno;generalize m[j]'(by omega)=y at e2 hst hno;cases x<;>cases y <;>
  conv=>whnf
  repeat' (first|((first|refine dA ?_|refine wI ?_|(refine IdxK.at (k:=j) rfl e1 rfl ?_)|(refine IdxK.at (k:=j) rfl e2 rfl ?_)|refine q1q QV rfl rfl rfl rfl rfl ?_);conv=>whnf)|(apply bD<;>intro _<;>first|omega|conv=>whnf)|(apply bE<;>intro _<;>first|omega|conv=>whnf))
  all_goals first
   | exact RetK.ff (decide_eq_false (hno (by decide)))
   | exact ⟨j+1,⟨by omega,hst rfl⟩,by omega,Le.of_eq rfl⟩
   | (exfalso;simp_all;done)
 ·conv=>whnf
  repeat' (apply bD<;>intro _<;>first|omega|conv=>whnf)
  exact RetK.tt (decide_eq_true (w3b h4 hj (by omega)))
def bmI (fm:List (List Bool)):List (List AV):=fm.map fun r=>r.map bv
def shH (fm:List (List Bool)):Heap:=[(1000,.ext (.mat 135 4 1 (bmI fm) []))]
def JZ (fm:List (List Bool)) (l:List Int) (b:Nat):Bool:=l.all fun a=>(fm.getD a.toNat []).getD b false
def XH (fm:List (List Bool)) (l:List Int) (n:Nat):List Bool:=(List.range n).map (JZ fm l)
def LG (fm:List (List Bool)) (l:List Int) (n j:Nat) (c:Bool):List Bool:=(XH fm l n).take j++c::List.replicate (n-j-1) false
theorem x3m {fm:List (List Bool)} {l:List Int} {n j:Nat} (hj:j<n) (c:Bool):((LG fm l n j c).map bv)[j]? = some (bv c):=by
 have h1:((XH fm l n).take j).length=j:=by unfold XH;simp;omega
 have h2:(LG fm l n j c)[j]? = some c:=by
  unfold LG;rw [List.getElem?_append_right (by omega),h1,Nat.sub_self];rfl
 rw [List.getElem?_map,h2];rfl
theorem x3s {fm:List (List Bool)} {l:List Int} {n j:Nat} (hj:j<n) (c c':Bool):((LG fm l n j c).map bv).set j (bv c')=(LG fm l n j c').map bv:=by
 rw [<- List.map_set];congr 1;unfold LG;rw [List.set_append_right _ _ (by unfold XH;simp;omega)];have:j-((XH fm l n).take j).length=0:=by unfold XH;simp;omega
 rw [this];rfl
theorem z3h {fm:List (List Bool)} {l:List Int} {n j:Nat} (hj:j<n):LG fm l n j (JZ fm l j)=(XH fm l n).take (j+1)++List.replicate (n-(j+1)) false:=by
 unfold LG;have:(XH fm l n)[j]? = some (JZ fm l j):=by unfold XH;simp [hj]
 rw [List.take_add_one,this,List.append_assoc];rfl
theorem z3r {fm:List (List Bool)} {l:List Int} {n j:Nat} (hj:j<n):(XH fm l n).take j++List.replicate (n-j) false=LG fm l n j false:=by
 unfold LG;rw [show n-j=(n-j-1)+1 by omega,List.replicate_succ];congr 2
theorem x0o {α:Type} {f:α->Bool} {l:List α} {i:Nat} (hi:i<l.length):(l.take (i+1)).all f=((l.take i).all f&&f l[i]):=by
 rw [List.take_succ_eq_append_getElem hi,List.all_append];simp
theorem z2n (fm:List (List Bool)) (l:List Int) (n:Nat) (hn:fm.length=n) (hn5:n<=5000) (hr : ∀ r∈fm,r.length=n) (hl:l.length<=1000000) (hs : ∀ x∈l,0<=x∧x<n):SpecH Tryz.prog 188 [.hd 1000 0 n,.p (QA l)] (shH fm) (fun r H=>r = .hd 0 0 n∧H=(0,.own 4 1 ((XH fm l n).map bv))::shH fm):=by
 refine sH x3t Tryz.func188 rfl Tryz.call188 ?_;conv=>whnf
 have hll:(l.map (AV.int .i64)).length=l.length:=length_map _;repeat' ((first|(refine iM fun _=>?_)|refine aR ?_|refine MkK.mk n rfl (by show 1*_<=140737488355328;omega) (by unfold maxLen;omega) ?_);conv=>whnf)
 refine LoopK.inv QV (fun j:Nat=>⟨[(0,.hd 1000 0 n),(1,.p (QA l)),(5,.hd 0 0 n),(13,.p (.int .i64 n)),(14,.p (.int .i64 j))],(0,.own 4 1 (((XH fm l n).take j++List.replicate (n-j) false).map bv))::shH fm⟩) (fun j=>j<=n) (fun j=>n-j) 0
  (Le.of_eq (by rw [show ((XH fm l n).take 0++List.replicate (n-0) false).map bv=List.replicate n .ff by simp [bv]];rfl)) (zero_le _) ?_
 intro j h2;rcases Nat.lt_or_ge j n with hj|hj;rotate_left 1
 ·have hje:j=n:=by omega
  subst hje;have he:((XH fm l j).take j++List.replicate (j-j) false)=XH fm l j:=by
   rw [Nat.sub_self,List.take_of_length_le (by unfold XH;simp)];simp
  rw [he];conv=>whnf
  repeat' (apply bD<;>intro _<;>first|omega|conv=>whnf)
  exact ⟨_,LSub.refl _,rfl,rfl⟩
 rw [z3r hj];have hg0:=x3m (fm:=fm) (l:=l) hj false;have hs0:=x3s (fm:=fm) (l:=l) hj false true;generalize (LG fm l n j false).map bv=row0 at hg0 hs0 ⊢;unfold shH;conv=>whnf
 repeat' (first|((first|(refine iM fun _=>?_)|refine And.intro rfl ?_|refine IdxL.mk j rfl hj ?_|refine StOwn.mk j 0 _ (bv true) (by show (0+j)*1=j*1+0;omega) hg0 (Nat.le_refl _) rfl ?_);conv=>whnf)|(apply bD<;>intro _<;>first|omega|conv=>whnf))
 rw [hs0];refine LoopK.inv QV (fun i:Nat=>⟨[(0,.hd 1000 0 n),(1,.p (QA l)),(5,.hd 0 0 n),(6,.p (.int .i64 j)),(13,.p (.int .i64 n)),(14,.p (.int .i64 j)),(20,.p (QA l)),(21,.p (.int .i64 (l.map (AV.int .i64)).length)),(22,.p (.int .i64 i))],(0,.own 4 1 ((LG fm l n j ((l.take i).all fun a=>(fm.getD a.toNat []).getD j false)).map bv))::shH fm⟩) (fun i=>i<=l.length) (fun i=>l.length-i) 0
  (Le.of_eq rfl) (zero_le _) ?_
 intro i h3;rcases Nat.lt_or_ge i l.length with hi|hi;rotate_left 1
 ·have hje:i=l.length:=by omega
  subst hje;rw [List.take_of_length_le (Nat.le_refl _),show (l.all fun a=>(fm.getD a.toNat []).getD j false)=JZ fm l j from rfl,z3h hj];conv=>whnf
  repeat' (first|(refine wI ?_;conv=>whnf)|(apply bD<;>intro _<;>first|omega|conv=>whnf))
  exact ⟨j+1,hj,by omega,Le.of_eq rfl⟩
 have hsa:=hs _ (List.getElem_mem hi);have hal:l[i].toNat<fm.length:=by omega
 have hrl:=hr _ (List.getElem_mem hal);have hli:(l.map (AV.int .i64))[i]? = some (.int .i64 l[i]):=by rw [List.getElem?_map,List.getElem?_eq_getElem hi];rfl
 have hfr:(bmI fm)[l[i].toNat]? = some (fm[l[i].toNat].map bv):=by unfold bmI;rw [List.getElem?_map,List.getElem?_eq_getElem hal];rfl
 have hfv:(fm[l[i].toNat].map bv)[j]? = some (bv (fm[l[i].toNat][j]'(by omega))):=by rw [List.getElem?_map,List.getElem?_eq_getElem (by omega)];rfl
 have hnx:((l.take (i+1)).all fun a=>(fm.getD a.toNat []).getD j false)=(((l.take i).all fun a=>(fm.getD a.toNat []).getD j false)&&fm[l[i].toNat][j]'(by omega)):=by
  rw [x0o hi];congr 1;simp only [getD_eq_getElem?_getD];rw [List.getElem?_eq_getElem hal,Option.getD_some,List.getElem?_eq_getElem (by omega),Option.getD_some]
 have hrn:(fm[l[i].toNat].map bv).length=n:=by rw [length_map,hrl]
 generalize fm[l[i].toNat][j]'(by omega)=v at hfv hnx;generalize ((l.take i).all fun a=>(fm.getD a.toNat []).getD j false)=c at hnx ⊢;have hgc:=x3m (fm:=fm) (l:=l) hj c;have hsc:=x3s (fm:=fm) (l:=l) hj c (c&&v);generalize (LG fm l n j c).map bv=row at hgc hsc ⊢;cases c<;>cases v<;>unfold shH <;>
 conv=>whnf
 repeat' (first|((first|refine And.intro rfl ?_|(refine iA fun _=>?_)|refine wI ?_|refine IdxL.mk j rfl hj ?_|refine IdxL.mk l[i].toNat (by omega) (by omega) ?_|refine IdxL.mk j rfl (by rw [hrn];exact hj) ?_|refine LdOwn.mk j 0 _ (by show (0+j)*1=j*1+0;omega) hgc ?_|refine RowK.mk l[i].toNat _ (by omega) hfr (by simp) ?_|refine RLd.mk _ j 0 _ hfr (by simp) (by omega) hfv ?_|refine StOwn.mk j 0 _ (bv false) (by show (0+j)*1=j*1+0;omega) hgc (Nat.le_refl _) rfl ?_|refine StOwn.mk j 0 _ (bv true) (by show (0+j)*1=j*1+0;omega) hgc (Nat.le_refl _) rfl ?_);conv=>whnf)|(apply bD<;>intro _<;>first|omega|conv=>whnf))
 all_goals first
  | exact ⟨i+1,hi,by omega,Le.of_eq (by rw [hnx,<- hsc];rfl)⟩
  | (exfalso;simp_all;done)
def filRow (n a:Nat):List Bool:=(List.range n).map fun b=>decide (a<n-1)||decide (a=b)
theorem FR (n a:Nat):(filRow n a).length=n:=by unfold filRow;simp
inductive Avd (nx:List (List Int)) (n b:Nat):Nat->Prop
 | exit (h:b≠n-1):Avd nx n b (n-1)
 | step {a t:Nat} (hab:a≠b) (ht:(t:Int)∈nx.getD a []) (h:Avd nx n b t):Avd nx n b a
def rowF (n:Nat) (nx:List (List Int)) (fm:List (List Bool)) (a:Nat):List Bool:=(XH fm (nx.getD a []) n).set a true
def bitF (fm:List (List Bool)) (a b:Nat):Bool:=(fm.getD a []).getD b false
theorem PB (n:Nat) (nx:List (List Int)) (fm:List (List Bool)) (a:Nat):(rowF n nx fm a).length=n:=by unfold rowF XH;simp
theorem q2f {n:Nat} {nx:List (List Int)} {fm:List (List Bool)} {a b:Nat} (hb:b<n):(rowF n nx fm a).getD b false=(decide (a=b)||JZ fm (nx.getD a []) b):=by
 unfold rowF;have hs:(XH fm (nx.getD a []) n)[b]? = some (JZ fm (nx.getD a []) b):=by unfold XH;simp [hb]
 have hl:(XH fm (nx.getD a []) n).length=n:=by unfold XH;simp
 rw [getD_eq_getElem?_getD];by_cases hab:a=b
 ·subst hab;rw [List.getElem?_set_self (by omega),decide_eq_true rfl];rfl
 ·rw [List.getElem?_set_ne hab,hs,decide_eq_false hab];rfl
theorem JC {fm:List (List Bool)} {l:List Int} {b:Nat}:JZ fm l b=true ↔ ∀ t∈l,bitF fm t.toNat b=true:=by
 unfold JZ bitF;rw [List.all_eq_true]
structure FolI (n:Nat) (nx:List (List Int)) (fm:List (List Bool)):Prop where
 len:fm.length=n
 rows : ∀ r∈fm,r.length=n
 last:fm.getD (n-1) []=filRow n (n-1)
 post : ∀ a b,a<n-1->b<n->(rowF n nx fm a).getD b false=true->bitF fm a b=true
 min : ∀ a b,a<n->b<n->bitF fm a b=false->Avd nx n b a
structure FollowP (n:Nat) (nx:List (List Int)) (fm:List (List Bool)):Prop where
 inv:FolI n nx fm
 fix : ∀ a,a<n-1->fm.getD a []=rowF n nx fm a
theorem q6l {n a b:Nat} (hb:b<n):(filRow n a).getD b false=(decide (a<n-1)||decide (a=b)):=by
 unfold filRow;rw [getD_eq_getElem?_getD,List.getElem?_map,List.getElem?_range hb];rfl
theorem z7l {n a b:Nat} (ha:a<n) (hb:b<n):bitF ((List.range n).map (filRow n)) a b=(decide (a<n-1)||decide (a=b)):=by
 have hg:((List.range n).map (filRow n)).getD a []=filRow n a:=by
  rw [getD_eq_getElem?_getD,List.getElem?_map,List.getElem?_range ha];rfl
 unfold bitF;rw [hg,q6l hb]
theorem FolI.start {n:Nat} (hn:2<=n) (nx:List (List Int)):FolI n nx ((List.range n).map (filRow n)):=by
 refine ⟨by simp,fun r hr => ?_,?_,fun a b ha hb _ => ?_,fun a b ha hb h => ?_⟩
 ·obtain ⟨a,_,rfl⟩:=List.mem_map.1 hr;exact FR n a
 ·rw [getD_eq_getElem?_getD,List.getElem?_map,List.getElem?_range (by omega)];rfl
 ·rw [z7l (by omega) hb,decide_eq_true ha];rfl
 ·rw [z7l ha hb,Bool.or_eq_false_iff,decide_eq_false_iff_not,decide_eq_false_iff_not] at h;have:a=n-1:=by omega
  subst this;exact .exit fun e=>h.2 e.symm
theorem x7t {fm:List (List Bool)} {a:Nat} (ha:a<fm.length) (l:List Bool) (x b:Nat):bitF (fm.set a l) x b=if x=a then l.getD b false else bitF fm x b:=by
 unfold bitF;by_cases h:x=a
 ·subst h;rw [if_pos rfl,getD_eq_getElem?_getD (l:=fm.set x l),List.getElem?_set_self ha];rfl
 ·rw [if_neg h,getD_eq_getElem?_getD (l:=fm.set a l),List.getElem?_set_ne (Ne.symm h),<- getD_eq_getElem?_getD]
theorem FolI.step {n:Nat} {nx:List (List Int)} {fm:List (List Bool)} (h:FolI n nx fm) (hnx : ∀ a,∀ x∈nx.getD a [],0<=x∧x<(n:Int)) {a:Nat} (ha:a<n-1):FolI n nx (fm.set a (rowF n nx fm a)):=by
 have hal:a<fm.length:=by have:=h.len;omega
 have mono : ∀ x b,b<n->bitF (fm.set a (rowF n nx fm a)) x b=true->bitF fm x b=true:=fun x b hb hx=>by
  rw [x7t hal] at hx;split at hx
  ·rename_i he;subst he;exact h.post _ b ha hb hx
  ·exact hx
 have rmono : ∀ x b,b<n->(rowF n nx (fm.set a (rowF n nx fm a)) x).getD b false=true->(rowF n nx fm x).getD b false=true:=fun x b hb hx=>by
  rw [q2f hb,Bool.or_eq_true] at hx ⊢;rcases hx with hx|hx
  ·exact .inl hx
  ·exact .inr (JC.2 fun t ht=>mono _ b hb (JC.1 hx t ht))
 refine ⟨by rw [List.length_set];exact h.len,fun r hr => ?_,?_,fun x b hx hb hr => ?_,fun x b hx hb hf => ?_⟩
 ·rcases List.mem_or_eq_of_mem_set hr with hr|rfl
  ·exact h.rows r hr
  ·exact PB _ _ _ _
 ·rw [getD_eq_getElem?_getD,List.getElem?_set_ne (by omega),<- getD_eq_getElem?_getD];exact h.last
 ·have h1:=rmono x b hb hr;rw [x7t hal];split
  ·rename_i he;subst he;exact h1
  ·exact h.post x b hx hb h1
 ·rw [x7t hal] at hf;split at hf
  ·rename_i he;subst he;rw [q2f hb,Bool.or_eq_false_iff,decide_eq_false_iff_not] at hf;have hno : ¬∀ t∈nx.getD x [],bitF fm t.toNat b=true:=fun hall=>by
    rw [JC.2 hall] at hf;cases hf.2
   obtain ⟨t,ht⟩:=Classical.not_forall.1 hno;obtain ⟨ht1,ht2⟩:=Classical.not_imp.1 ht;have hr:=hnx x t ht1;have hbf:bitF fm t.toNat b=false:=by cases hq:bitF fm t.toNat b with|true=>exact absurd hq ht2|false=>rfl
   exact .step hf.1 (by rw [Int.toNat_of_nonneg hr.1];exact ht1) (h.min t.toNat b (by omega) hb hbf)
  ·exact h.min x b hx hb hf
def z0d (fm:List (List Bool)):Nat:=(fm.map fun r=>r.count true).sum
theorem w9q {fm:List (List Bool)} {a:Nat} (ha:a<fm.length) (l:List Bool):z0d (fm.set a l)+(fm.getD a []).count true=z0d fm+l.count true:=by
 unfold z0d;induction fm generalizing a with
 | nil=>simp at ha
 | cons r fm ih =>
   cases a with
   | zero=>simp;omega
   | succ a =>
     have:=ih (a:=a) (by simpa using ha);simp only [List.set_cons_succ,map_cons,sum_cons,List.getD_cons_succ];omega
theorem q1e : ∀ {r s:List Bool},r.length=s.length->(∀ b:Nat,r.getD b false=true->s.getD b false=true)->r≠s->r.count true<s.count true
 | [],[],_,_,h=>absurd rfl h
 | x::r,y::s,hl,hle,hne=>by
   have h0:=hle 0;have hr : ∀ b:Nat,r.getD b false=true->s.getD b false=true:=fun b hb=>hle (b+1) hb;have hle2:r.count true<=s.count true:=by
    by_cases he:r=s
    ·subst he;exact Nat.le_refl _
    ·exact Nat.le_of_lt (q1e (by simpa using hl) hr he)
   simp only [List.getD_cons_zero] at h0;by_cases he:r=s
   ·subst he;cases x<;>cases y
    ·exact absurd rfl hne
    ·simp
    ·cases h0 rfl
    ·exact absurd rfl hne
   ·have:=q1e (by simpa using hl) hr he;cases x<;>cases y<;>simp_all<;>omega
theorem FolI.less {n:Nat} {nx:List (List Int)} {fm:List (List Bool)} (h:FolI n nx fm) {a:Nat} (ha:a<n-1) (hne:rowF n nx fm a≠fm.getD a []):z0d (fm.set a (rowF n nx fm a))<z0d fm:=by
 have hal:a<fm.length:=by have:=h.len;omega
 have h1:=w9q hal (rowF n nx fm a);have hrl:(fm.getD a []).length=n:=by
  rw [getD_eq_getElem?_getD,List.getElem?_eq_getElem hal];exact h.rows _ (List.getElem_mem hal)
 have h2:=q1e (r:=rowF n nx fm a) (s:=fm.getD a []) (by rw [PB,hrl]) (fun b hb=>by
  rcases Nat.lt_or_ge b n with hbn|hbn
  ·exact h.post a b ha hbn hb
  ·rw [getD_eq_getElem?_getD,List.getElem?_eq_none (by rw [PB];exact hbn)] at hb;cases hb) hne
 omega
theorem z7x {E:Int->Int->Prop} {B:List Int} {u x:Int} (h:Rch E u x) (hu:u∈B) (hx:x∉B) : ∃ z y,z∈B∧E z y∧y∉B∧Rch E u y∧Rch E y x:=by
 induction h with
 | refl=>exact absurd hu hx
 | @tail b c h hr ih =>
   by_cases hb:b∈B
   ·exact ⟨b,c,hb,hr,hx,.tail h hr,.refl⟩
   ·obtain ⟨z,y,h1,h2,h3,h4,h5⟩:=ih hb;exact ⟨z,y,h1,h2,h3,h4,.tail h5 hr⟩
def chainE (E:Int->Int->Prop):List Int->Prop
 | []=>True
 | [_]=>True
 | a::b::r=>E a b∧chainE E (b::r)
theorem DT {E:Int->Int->Prop} : ∀ (l:List Int) {a y:Int},chainE E (l++[a])->y∈l++[a]->Rch E y a
 | [],a,y,_,hy=>by
   simp at hy;rw [hy];exact .refl
 | [b],a,y,h,hy=>by
   simp at hy;rcases hy with rfl|rfl
   ·exact .tail .refl h.1
   ·exact .refl
 | b::c::r,a,y,h,hy=>by
   have h1:chainE E ((c::r)++[a]):=h.2;rcases List.mem_cons.1 hy with rfl|hy
   ·exact .head h.1 (DT (c::r) h1 (by simp))
   ·exact DT (c::r) h1 hy
theorem q5u {E:Int->Int->Prop} : ∀ (l:List Int) {a b:Int},chainE E (l++[a])->E a b->chainE E (l++[a]++[b])
 | [],a,b,_,hb=>⟨hb,trivial⟩
 | [c],a,b,h,hb=>⟨h.1,hb,trivial⟩
 | c::d::r,a,b,h,hb=>⟨h.1,q5u (d::r) h.2 hb⟩
theorem q7z {E:Int->Int->Prop} : ∀ (l:List Int) {a:Int},chainE E (l++[a])->chainE E l
 | [],_,_=>trivial
 | [_],_,_=>trivial
 | c::d::r,_,h=>⟨h.1,q7z (d::r) h.2⟩
structure DfsI (n:Nat) (E:Int->Int->Prop) (out stack:List Int):Prop where
 nd:(out++stack).Nodup
 rng : ∀ x∈out++stack,0<=x∧x<n
 path:chainE E stack
 cl : ∀ u∈out,∀ v,E u v->v∈out∨v∈stack
 J : ∀ u∈out,∀ x,Rch E u x->x∉out -> ∃ s∈stack,Rch E u s∧Rch E s u∧Rch E s x
 K : ∀ (i:Nat) (r:Int),out[i]? = some r -> ∀ u,Rch E u r->Rch E r u ∨ ∃ u',Rch E u u'∧Rch E u' u∧(u'∉out ∨ ∃ j,i<j∧out[j]? = some u')
theorem DfsI.start (n:Nat) (E:Int->Int->Prop):DfsI n E [] []:=⟨by simp,by simp,trivial,by simp,by simp,by simp⟩
theorem DfsI.push {n:Nat} {E:Int->Int->Prop} {out stack:List Int} (h:DfsI n E out stack) {b:Int} (hb:0<=b∧b<n) (hn:b∉out++stack) (hp:chainE E (stack++[b])):DfsI n E out (stack++[b]):=by
 refine ⟨?_,fun x hx => ?_,hp,fun u hu v hv => ?_,fun u hu x hx hxo => ?_,h.K⟩
 ·rw [<- List.append_assoc,nodup_append];refine ⟨h.nd,by simp,fun x hx y hy => ?_⟩;rw [List.mem_singleton.1 hy];exact fun e=>hn (e▸hx)
 ·rw [<- List.append_assoc] at hx;rcases List.mem_append.1 hx with hx|hx
  ·exact h.rng x hx
  ·rw [List.mem_singleton.1 hx];exact hb
 ·rcases h.cl u hu v hv with h1|h1
  ·exact .inl h1
  ·exact .inr (List.mem_append.2 (.inl h1))
 ·obtain ⟨s,h1,h2⟩:=h.J u hu x hx hxo;exact ⟨s,List.mem_append.2 (.inl h1),h2⟩
theorem DfsI.pop {n:Nat} {E:Int->Int->Prop} {out st:List Int} {a:Int} (h:DfsI n E out (st++[a])) (ha : ∀ v,E a v->v∈out∨v∈st++[a]):DfsI n E (out++[a]) st:=by
 have hnd:=h.nd;rw [nodup_append] at hnd;obtain ⟨hn1,hn2,hn3⟩:=hnd;rw [nodup_append] at hn2;obtain ⟨hn4,_,hn5⟩:=hn2;have hao:a∉out:=fun hm=>hn3 a hm a (by simp) rfl;have hast:a∉st:=fun hm=>hn5 a hm a (by simp) rfl;have hcl : ∀ u∈out++[a],∀ v,E u v->v∈out++[a]∨v∈st:=fun u hu v hv=>by
  have:v∈out∨v∈st++[a]:=by
   rcases List.mem_append.1 hu with hu|hu
   ·exact h.cl u hu v hv
   ·rw [List.mem_singleton.1 hu] at hv;exact ha v hv
  rcases this with h1|h1
  ·exact .inl (List.mem_append.2 (.inl h1))
  ·rcases List.mem_append.1 h1 with h1|h1
   ·exact .inr h1
   ·exact .inl (List.mem_append.2 (.inr h1))
 have hfst : ∀ u∈out++[a],∀ x,Rch E u x->x∉out++[a] -> ∃ y∈st,Rch E u y∧Rch E y x:=fun u hu x hx hxo=>by
  obtain ⟨z,y,h1,h2,h3,h4,h5⟩:=z7x hx hu hxo;rcases hcl z h1 y h2 with h6|h6
  ·exact absurd h6 h3
  ·exact ⟨y,h6,h4,h5⟩
 have hya : ∀ y∈st,Rch E y a:=fun y hy=>DT st h.path (List.mem_append.2 (.inl hy));refine ⟨?_,fun x hx => ?_,q7z st h.path,hcl,fun u hu x hx hxo => ?_,fun i r hi u hu => ?_⟩
 ·rw [List.append_assoc,nodup_append];refine ⟨hn1,?_,fun x hx y hy=>hn3 x hx y (by simp at hy ⊢;exact hy.symm)⟩;rw [nodup_append];refine ⟨by simp,hn4,fun x hx y hy e => ?_⟩;rw [List.mem_singleton.1 hx] at e;exact hast (e▸hy)
 ·refine h.rng x ?_;simp only [List.mem_append,List.mem_singleton] at hx ⊢;rcases hx with (h1|h1)|h1
  ·exact .inl h1
  ·exact .inr (.inr h1)
  ·exact .inr (.inl h1)
 ·obtain ⟨y,h1,h2,h3⟩:=hfst u hu x hx hxo;rcases List.mem_append.1 hu with hu|hu
  ·have hyo:y∉out:=fun hm=>hn3 y hm y (List.mem_append.2 (.inl h1)) rfl;obtain ⟨s,h4,h5,h6,h7⟩:=h.J u hu y h2 hyo;rcases List.mem_append.1 h4 with h4|h4
   ·exact ⟨s,h4,h5,h6,h7.trans h3⟩
   ·rw [List.mem_singleton.1 h4] at h5 h6;exact ⟨y,h1,h2,(hya y h1).trans h6,h3⟩
  ·rw [List.mem_singleton.1 hu] at h2 ⊢;exact ⟨y,h1,h2,hya y h1,h3⟩
 ·rcases Nat.lt_or_ge i out.length with hil|hil
  ·rw [List.getElem?_append_left hil] at hi;rcases h.K i r hi u hu with h1|⟨u',h1,h2,h3⟩
   ·exact .inl h1
   ·refine .inr ⟨u',h1,h2,?_⟩;rcases h3 with h3|⟨j,h3,h4⟩
    ·by_cases hua:u'=a
     ·exact .inr ⟨out.length,hil,by rw [hua];simp⟩
     ·exact .inl fun hm=>by
       rcases List.mem_append.1 hm with hm|hm
       ·exact h3 hm
       ·exact hua (List.mem_singleton.1 hm)
    ·exact .inr ⟨j,h3,by rw [List.getElem?_append_left (List.getElem?_eq_some_iff.1 h4).1];exact h4⟩
  ·have hr:r=a:=by
    have h1:=(List.getElem?_eq_some_iff.1 hi).1;simp at h1;rw [List.getElem?_append_right hil,show i-out.length=0 by omega] at hi;simpa using hi.symm
   subst hr;by_cases hau:Rch E r u
   ·exact .inl hau
   ·right;by_cases huo:u∈out
    ·obtain ⟨s,h4,h5,h6,h7⟩:=h.J u huo r hu hao;rcases List.mem_append.1 h4 with h4|h4
     ·refine ⟨s,h5,h6,.inl fun hm => ?_⟩;rcases List.mem_append.1 hm with hm|hm
      ·exact hn3 s hm s (List.mem_append.2 (.inl h4)) rfl
      ·rw [List.mem_singleton.1 hm] at h4;exact hast h4
     ·rw [List.mem_singleton.1 h4] at h6;exact absurd h6 hau
    ·refine ⟨u,.refl,.refl,.inl fun hm => ?_⟩;rcases List.mem_append.1 hm with hm|hm
     ·exact huo hm
     ·rw [List.mem_singleton.1 hm] at hau;exact hau .refl
structure EndsP (n:Nat) (E:Int->Int->Prop) (es:List Int):Prop where
 nd:es.Nodup
 mem : ∀ x:Int,x∈es↔0<=x∧x<n
 K : ∀ (i:Nat) (r:Int),es[i]? = some r -> ∀ u:Int,0<=u∧u<n->Rch E u r->Rch E r u ∨ ∃ u',Rch E u u'∧Rch E u' u ∧ ∃ j,i<j∧es[j]? = some u'
theorem DfsI.fin {n:Nat} {E:Int->Int->Prop} (hE : ∀ x y,E x y->0<=y∧y<n) {out:List Int} (h:DfsI n E out []) (hall : ∀ x:Int,0<=x∧x<n->x∈out):EndsP n E out:=by
 refine ⟨by simpa using h.nd,fun x=>⟨fun hx=>h.rng x (by simpa using hx),hall x⟩,fun i r hi u hur hu => ?_⟩;rcases h.K i r hi u hu with h1|⟨u',h1,h2,h3⟩
 ·exact .inl h1
 ·refine .inr ⟨u',h1,h2,?_⟩;rcases h3 with h3|h3
  ·exfalso;apply h3;apply hall;cases h1 with
   | refl=>exact hur
   | tail _ hr=>exact hE _ _ hr
  ·exact h3
def sccP (E:Int->Int->Prop) (x y:Int):Prop:=Rch E x y∧Rch E y x
theorem sccP.refl {E:Int->Int->Prop} (x:Int):sccP E x x:=⟨.refl,.refl⟩
theorem sccP.symm {E:Int->Int->Prop} {x y:Int} (h:sccP E x y):sccP E y x:=⟨h.2,h.1⟩
theorem sccP.trans {E:Int->Int->Prop} {x y z:Int} (h:sccP E x y) (h':sccP E y z):sccP E x z:=⟨h.1.trans h'.1,h'.2.trans h.2⟩
def SeenP (E:Int->Int->Prop) (es:List Int) (i:Nat) (x:Int):Prop := ∃ (j:Nat) (y:Int),i<=j∧es[j]? = some y∧sccP E x y
theorem z6m {n:Nat} {E:Int->Int->Prop} (hE : ∀ x y,E x y->(0<=x∧x<n)∧0<=y∧y<n) {es:List Int} (h:EndsP n E es) {i:Nat} {r:Int} (hi:es[i]? = some r) (hr : ¬SeenP E es (i+1) r) (x:Int) :
  Rch (fun a b=>E b a ∧ ¬SeenP E es (i+1) b) r x↔sccP E r x:=by
 have hrr:=(h.mem r).1 (List.mem_of_getElem? hi);constructor
 ·intro hx;have key:(0<=x∧x<n) ∧ ¬SeenP E es (i+1) x∧Rch E x r:=hx.closed (S:=fun x:Int=>(0<=x∧x<n) ∧ ¬SeenP E es (i+1) x∧Rch E x r) (fun a b ⟨h1,h2,h3⟩ ⟨h4,h5⟩=>⟨(hE _ _ h4).1,h5,.head h4 h3⟩) ⟨hrr,hr,.refl⟩;refine ⟨?_,key.2.2⟩;rcases h.K i r hi x key.1 key.2.2 with h1|⟨u',h1,h2,j,h3,h4⟩
  ·exact h1
  ·exact absurd ⟨j,u',h3,h4,h1,h2⟩ key.2.1
 ·rintro ⟨h1,h2⟩;have hns : ∀ y,sccP E r y -> ¬SeenP E es (i+1) y:=fun y hy ⟨j,z,h3,h4,h5⟩=>hr ⟨j,z,h3,h4,hy.trans h5⟩;have key : ∀ {a b:Int},Rch E a b->Rch E r a->Rch E b r->Rch (fun a b=>E b a ∧ ¬SeenP E es (i+1) b) b a:=fun {a b} hab=>by
   induction hab with
   | refl=>intro _ _;exact .refl
   | @tail b c hab hbc ih =>
     intro h3 h4;have h5:Rch E b r := .head hbc h4;exact .head ⟨hbc,hns b ⟨h3.trans hab,h5⟩⟩ (ih h3 h5)
  exact key h2 h1 .refl
theorem w0c {E:Int->Int->Prop} {es:List Int} {i:Nat} {r:Int} (hi:es[i]? = some r) (hr:SeenP E es (i+1) r) (x:Int):SeenP E es i x↔SeenP E es (i+1) x:=by
 constructor
 ·rintro ⟨j,y,h1,h2,h3⟩;rcases Nat.eq_or_lt_of_le h1 with h4|h4
  ·subst h4;rw [hi] at h2;cases h2;obtain ⟨k,z,h5,h6,h7⟩:=hr;exact ⟨k,z,h5,h6,h3.trans h7⟩
  ·exact ⟨j,y,h4,h2,h3⟩
 ·rintro ⟨j,y,h1,h2,h3⟩;exact ⟨j,y,by omega,h2,h3⟩
theorem x3o {E:Int->Int->Prop} {es:List Int} {i:Nat} {r:Int} (hi:es[i]? = some r) (x:Int):SeenP E es i x↔SeenP E es (i+1) x∨sccP E r x:=by
 constructor
 ·rintro ⟨j,y,h1,h2,h3⟩;rcases Nat.eq_or_lt_of_le h1 with h4|h4
  ·subst h4;rw [hi] at h2;cases h2;exact .inr h3.symm
  ·exact .inl ⟨j,y,h4,h2,h3⟩
 ·rintro (⟨j,y,h1,h2,h3⟩|h)
  ·exact ⟨j,y,by omega,h2,h3⟩
  ·exact ⟨i,r,Nat.le_refl _,hi,h.symm⟩
theorem w3q {n:Nat} {E:Int->Int->Prop} {es:List Int} (h:EndsP n E es) {x:Int} (hx:0<=x∧x<n):SeenP E es 0 x:=by
 obtain ⟨j,hj⟩:=List.mem_iff_getElem?.1 ((h.mem x).2 hx);exact ⟨j,x,zero_le _,hj,.refl x⟩
def rowE (rows:List (List Int)) (x y:Int):Prop:=0<=x∧x1h rows x y
structure EndI (n:Nat) (rows:List (List Int)) (out stack:List Int) (seen:List Bool) (at_:List Int):Prop where
 dfs:DfsI n (rowE rows) out stack
 sl:seen.length=n
 al:at_.length=n
 seen : ∀ x:Int,0<=x∧x<n->(seen.getD x.toNat false=true↔x∈out++stack)
 arng : ∀ x:Int,0<=x∧x<n->0<=at_.getD x.toNat 0∧at_.getD x.toNat 0<=(rows.getD x.toNat []).length
 cur : ∀ x:Int,0<=x∧x<n -> ∀ (i:Nat) (y:Int),(i:Int)<at_.getD x.toNat 0->(rows.getD x.toNat [])[i]? = some y->y∈out++stack
theorem EndI.start (n:Nat) (rows:List (List Int)):EndI n rows [] [] (List.replicate n false) (List.replicate n 0):=by
 have h0 : ∀ x:Int,(List.replicate n (0:Int)).getD x.toNat 0=0:=fun x=>by
  rw [getD_eq_getElem?_getD,List.getElem?_replicate];split<;>rfl
 refine ⟨DfsI.start n _,by simp,by simp,fun x hx => ?_,fun x hx=>by rw [h0];omega,fun x hx i y hi=>by rw [h0] at hi;omega⟩;rw [getD_eq_getElem?_getD,List.getElem?_replicate];split<;>simp
theorem ZN {α:Type} {l:List α} {i j:Nat} {a d:α} (hi:i<l.length):(l.set i a).getD j d=if i=j then a else l.getD j d:=by
 simp only [getD_eq_getElem?_getD,List.getElem?_set];split
 ·rename_i h;first
   | rfl
   | (rw [if_pos hi];rfl)
 ·rfl
theorem EndI.push {n:Nat} {rows:List (List Int)} {out stack:List Int} {seen:List Bool} {at_:List Int} (h:EndI n rows out stack seen at_) {b:Int} (hb:0<=b∧b<n) (hn:seen.getD b.toNat false=false) (hp:chainE (rowE rows) (stack++[b])):EndI n rows out (stack++[b]) (seen.set b.toNat true) at_:=by
 have hno:b∉out++stack:=fun hm=>by rw [(h.seen b hb).2 hm] at hn;cases hn
 refine ⟨h.dfs.push hb hno hp,by simpa using h.sl,h.al,fun x hx => ?_,h.arng,fun x hx i y hi hy => ?_⟩
 ·rw [ZN (by rw [h.sl];omega),<- List.append_assoc,List.mem_append,List.mem_singleton];split
  ·have:x=b:=by omega
   simp [this]
  ·have:x≠b:=by omega
   rw [h.seen x hx];simp [this]
 ·rw [<- List.append_assoc];exact List.mem_append.2 (.inl (h.cur x hx i y hi hy))
theorem EndI.pop {n:Nat} {rows:List (List Int)} {out st:List Int} {a:Int} {seen:List Bool} {at_:List Int} (h:EndI n rows out (st++[a]) seen at_) (ha:at_.getD a.toNat 0=(rows.getD a.toNat []).length):EndI n rows (out++[a]) st seen at_:=by
 have hr:=h.dfs.rng a (by simp);have hsw : ∀ x:Int,x∈out++[a]++st↔x∈out++(st++[a]):=fun x=>by
  simp only [List.mem_append,List.mem_singleton];constructor
  ·rintro ((h1|h1)|h1)
   ·exact .inl h1
   ·exact .inr (.inr h1)
   ·exact .inr (.inl h1)
  ·rintro (h1|h1|h1)
   ·exact .inl (.inl h1)
   ·exact .inr h1
   ·exact .inl (.inr h1)
 refine ⟨h.dfs.pop fun v hv => ?_,h.sl,h.al,fun x hx=>by rw [h.seen x hx,hsw],h.arng,fun x hx i y hi hy=>(hsw y).2 (h.cur x hx i y hi hy)⟩;obtain ⟨i,hi⟩:=List.mem_iff_getElem?.1 hv.2;have:=h.cur a hr i v (by rw [ha];have:=(List.getElem?_eq_some_iff.1 hi).1;omega) hi;exact List.mem_append.1 this
theorem EndI.step {n:Nat} {rows:List (List Int)} {out stack:List Int} {seen:List Bool} {at_:List Int} (h:EndI n rows out stack seen at_) {a b:Int} (ha:0<=a∧a<n) {k:Nat} (hk:at_.getD a.toNat 0=k) (hb:(rows.getD a.toNat [])[k]? = some b) (hs:b∈out++stack):EndI n rows out stack seen (at_.set a.toNat ((k:Int)+1)):=by
 have hlt:a.toNat<at_.length:=by rw [h.al];omega
 refine ⟨h.dfs,h.sl,by simpa using h.al,h.seen,fun x hx => ?_,fun x hx i y hi hy => ?_⟩
 ·rw [ZN hlt];split
  ·rename_i he;have:=(List.getElem?_eq_some_iff.1 hb).1;rw [<- he];omega
  ·exact h.arng x hx
 ·rw [ZN hlt] at hi;split at hi
  ·rename_i he;rw [<- he] at hy;rcases Nat.lt_or_ge i k with hik|hik
   ·exact h.cur a ha i y (by omega) hy
   ·have:i=k:=by omega
    subst this;rw [hb] at hy;cases hy;exact hs
  ·exact h.cur x hx i y hi hy
def w6k (m:Int) (l:List Int):Int:=l.foldl (fun m x=>if x<m then x else m) m
def x2u:List Int->Int
 | []=>0
 | a::r=>w6k a r
theorem x4t : ∀ (l:List Int) (m:Int),w6k m l∈m::l ∧ ∀ x∈m::l,w6k m l<=x
 | [],m=>⟨by simp [w6k],by simp [w6k]⟩
 | a::r,m=>by
   obtain ⟨h1,h2⟩:=x4t r (if a<m then a else m);have e:w6k m (a::r)=w6k (if a<m then a else m) r:=rfl;have h3:=h2 _ mem_cons_self;rw [e];generalize w6k (if a<m then a else m) r=z at h1 h2 h3 ⊢;refine ⟨?_,fun x hx => ?_⟩
   ·rcases List.mem_cons.1 h1 with h|h
    ·rw [h];split<;>simp
    ·exact mem_cons_of_mem _ (mem_cons_of_mem _ h)
   ·rcases List.mem_cons.1 hx with rfl|hx
    ·split at h3<;>omega
    ·rcases List.mem_cons.1 hx with rfl|hx
     ·split at h3<;>omega
     ·exact h2 x (mem_cons_of_mem _ hx)
theorem x3w {l:List Int} (h:0<l.length):x2u l∈l ∧ ∀ x∈l,x2u l<=x:=by
 cases l with
 | nil=>simp at h
 | cons a r=>exact x4t r a
theorem OpK.min2 {P:Program} {N:Nat} {s:St} {o:Oper} {K:St->Prop} {x y:Operand} {ts:Array TypeId} (hop:o.op = .call { callee := .builtin .min,args := #[x,y],argTypes:=ts }) {m n:Int} (hx:QT s.sl x = .p (.int .i64 m)) (hy:QT s.sl y = .p (.int .i64 n))
  (h:setD N s.sl o.dst (.p (.int .i64 (if n<m then n else m))) fun sl=>K ⟨sl,s.H⟩):OpK P N s o K:=by
 refine ⟨fun σ β a w hr Q => ?_⟩;have h1:=QQ hr.slots x;have h2:=QQ hr.slots y;rw [hx] at h1;rw [hy] at h2;have e1:=h1.int;have e2:=h2.int;have hrun:(execOp a.eval o).run P w = .ok (.value (.int .i64 (if n<m then n else m))) w:=by
  simp [execOp,hop,resolve,invoke,builtin,e1,e2,Builtin.min_,Builtin.min2]
 obtain ⟨sl,hK,hr2⟩:=hr.setD (.p (.int .i64 (if n<m then n else m))) h;exact VX hrun ⟨σ,β,_,hK,hr2,Later.refl _ _ _ _⟩
theorem BK (l:List Int) (hl:0<l.length):SpecP Tryz.prog 360 [QA l] (fun r=>r = .int .i64 (x2u l)):=by
 refine sB FW Tryz.func360 rfl Tryz.call360 ?_;conv=>whnf
 have hlm:(l.map (AV.int .i64)).length=l.length:=length_map _;repeat' (first|(refine iM fun _=>?_;conv=>whnf)|(apply bD<;>intro _<;>first|omega|conv=>whnf))
 refine IdxK.at (k:=0) (e := .int .i64 l[0]) rfl (by simp [hl]) rfl ?_;conv=>whnf
 skip
 refine LoopK.inv QV (fun x:Nat×Int=>⟨[(0,.p (QA l)),(3,.p (.int .i64 x.2)),(4,.p (.int .i64 x.1))],[]⟩) (fun x=>1<=x.1∧x.1<=l.length∧x2u (x.2::l.drop x.1)=x2u l) (fun x=>l.length-x.1) (1,l[0]) (Le.of_eq rfl) ⟨Nat.le_refl _,hl,by
  cases l with
  | nil=>simp at hl
  | cons a r=>rfl⟩ ?_
 rintro ⟨j,m⟩ ⟨h1,h2,h3⟩;simp only at h1 h2 h3 ⊢;rcases Nat.lt_or_ge j l.length with hj|hj
 ·rw [QG hj] at h3;conv=>whnf
  repeat' (first|((first|(refine iM fun _=>?_)|(refine iA fun _=>?_)|refine wI ?_|refine OpK.min2 rfl rfl rfl ?_);conv=>whnf)|(apply bD<;>intro _<;>first|omega|conv=>whnf))
  exact ⟨(j+1,if l[j]<m then l[j] else m),⟨by simp only;omega,hj,h3⟩,by simp only;omega,Le.of_eq rfl⟩
 ·rw [List.drop_eq_nil_of_le hj] at h3;conv=>whnf
  repeat' (first|(refine iM fun _=>?_;conv=>whnf)|(apply bD<;>intro _<;>first|omega|conv=>whnf))
  exact RetK.int h3
theorem z6l {α:Type} {f g:α->Nat} : ∀ {l:List α},(∀ x∈l,f x<=g x)->(∃ x∈l,f x<g x)->(l.map f).sum<(l.map g).sum
 | [],_,h=>by obtain ⟨x,hx,_⟩:=h;cases hx
 | a::r,h1,h2=>by
   have hle : ∀ {l:List α},(∀ x∈l,f x<=g x)->(l.map f).sum<=(l.map g).sum:=fun {l} h=>by
    induction l with
    | nil=>simp
    | cons b r ih =>
      simp only [map_cons,sum_cons];have:=ih fun x hx=>h x (mem_cons_of_mem _ hx);have:=h b mem_cons_self;omega
   simp only [map_cons,sum_cons];have h3:=h1 a mem_cons_self;have h4:=hle fun x hx=>h1 x (mem_cons_of_mem _ hx);obtain ⟨x,hx,h5⟩:=h2;rcases List.mem_cons.1 hx with rfl|hx
   ·omega
   ·have:=z6l (fun y hy=>h1 y (mem_cons_of_mem _ hy)) ⟨x,hx,h5⟩;omega
def muE (rows:List (List Int)) (at_:List Int) (n:Nat):Nat:=((List.range n).map fun i=>(rows.getD i []).length-(at_.getD i 0).toNat).sum
theorem w3l {n:Nat} {rows:List (List Int)} {at_:List Int} {a:Nat} (ha:a<n) (hl:at_.length=n) {k:Nat} (hk:at_.getD a 0=k) (hlt:k<(rows.getD a []).length):muE rows (at_.set a ((k:Int)+1)) n<muE rows at_ n:=by
 unfold muE;refine z6l (fun i _ => ?_) ⟨a,List.mem_range.2 ha,?_⟩
 ·rw [ZN (by omega)];split
  ·rename_i h;rw [<- h,hk];omega
  ·exact Nat.le_refl _
 ·rw [ZN (by omega),if_pos rfl,hk];omega
theorem x0d {n:Nat} {l:List Int} (h:l.Nodup) (hr : ∀ x∈l,0<=x∧x<n):l.length<=n:=by
 have:=NC (m:=(List.range n).map fun (k:Nat)=>(k:Int)) h fun x hx=>List.mem_map.2 ⟨x.toNat,List.mem_range.2 (by have:=hr x hx;omega),by have:=hr x hx;omega⟩;simpa using this
theorem w9t {l:List Bool} {i:Nat} (h:i<l.length):(l.map bv)[i]? = some (bv (l.getD i false)):=by
 rw [List.getElem?_map,List.getElem?_eq_getElem h,getD_eq_getElem?_getD,List.getElem?_eq_getElem h];rfl
theorem x5p {l:List Int} {i:Nat} (h:i<l.length):(l.map (AV.int .i64))[i]? = some (.int .i64 (l.getD i 0)):=by
 rw [List.getElem?_map,List.getElem?_eq_getElem h,getD_eq_getElem?_getD,List.getElem?_eq_getElem h];rfl
def v0i (n:Nat) (rows:List (List Int)) (r:AV):Prop := ∃ es,r=QA es∧EndsP n (rowE rows) es
theorem q1m (n:Nat) (hn:n<=5000) (g:List (List Int)×List (List Int)) (hg:XK n g.1):SpecP Tryz.prog 359 [JM g] (fun r=>v0i n g.1 r):=by
 refine sB MQ Tryz.func359 rfl Tryz.call359 ?_;conv=>whnf
 have hl:((avI g.1).map AV.sl).length=n:=by simp [avI,hg.1]
 repeat' ((first|(refine iM fun _=>?_)|refine aR ?_|refine MkK.mk n (by rw [hl]) (by show 1*n<=140737488355328;omega) (by unfold maxLen;omega) ?_|refine MkK.mk n (by rw [hl]) (by show 8*n<=140737488355328;omega) (by unfold maxLen;omega) ?_);conv=>whnf)
 refine LoopK.inv QV (fun x:Nat×List Int×List Bool×List Int=>⟨[(0,.p (JM g)),(3,.hd 2 0 x.2.1.length),(4,.hd 3 0 0),(5,.hd 0 0 n),(6,.hd 1 0 n),(26,.p (.int .i64 n)),(27,.p (.int .i64 x.1))],[(0,.own 4 1 (x.2.2.1.map bv)),(1,.own 3 1 (x.2.2.2.map (.int .i64))),(2,.own 3 1 (x.2.1.map (.int .i64))),(3,.own 3 1 [])]⟩)
  (fun x=>x.1<=n∧EndI n g.1 x.2.1 [] x.2.2.1 x.2.2.2 ∧ ∀ y:Int,0<=y∧y<x.1->y∈x.2.1) (fun x=>n-x.1) (0,[],List.replicate n false,List.replicate n 0)
  (Le.mk [(2,.own 3 1 []),(3,.own 3 1 [])] (by simp [Chunk.new0];exact ⟨rfl,rfl⟩) (by simp) (by simp) (.cons (.refl _) (.cons (.nil mem_cons_self) (.cons (.nil (mem_cons_of_mem _ mem_cons_self)) (.cons (.refl _) (.cons (.refl _) (.cons (.of_eq (by rw [hl];rfl)) (.cons (.refl _) .nil)))))))
    (.cons rfl (.of_eq (by rw [List.map_replicate];rfl)) (.cons rfl (.of_eq (by rw [List.map_replicate];rfl)) (.new mem_cons_self (.new (mem_cons_of_mem _ mem_cons_self) .nil)))))
  ⟨zero_le _,EndI.start n g.1,fun y hy=>by omega⟩ ?_
 rintro ⟨r,out,seen,at_⟩ ⟨h1,h2,h3⟩;simp only at h1 h2 h3 ⊢;have hsl:=h2.sl;have hal:=h2.al;rcases Nat.lt_or_ge r n with hr|hr;rotate_left 1
 ·conv=>whnf
  repeat' (apply bD<;>intro _<;>first|omega|conv=>whnf)
  have hall : ∀ x:Int,0<=x∧x<n->x∈out:=fun x hx=>h3 x (by omega);exact ⟨_,.hd rfl (by simp),out,rfl,h2.dfs.fin (fun x y hxy=>HH hg hxy.2) hall⟩
 have e1:=w9t (l:=seen) (i:=r) (by omega);have hstart : ∃ st s2,EndI n g.1 out st s2 at_∧(r:Int)∈out++st∧((seen.getD r false=true∧st=[]∧s2=seen)∨(seen.getD r false=false∧st=[(r:Int)]∧s2=seen.set r true)):=by
  cases hq:seen.getD r false with
  | true=>exact ⟨[],seen,h2,(h2.seen r (by omega)).1 (by simpa using hq),.inl ⟨rfl,rfl,rfl⟩⟩
  | false=>exact ⟨[(r:Int)],seen.set r true,h2.push (stack:=[]) (b:=r) (by omega) (by simpa using hq) trivial,by simp,.inr ⟨rfl,rfl,rfl⟩⟩
 obtain ⟨st0,seen0,h4,h5,h6⟩:=hstart;rcases h6 with ⟨hq,hst,hs0⟩|⟨hq,hst,hs0⟩;all_goals
  rw [hq] at e1;conv=>whnf
  repeat' (first|((first|refine And.intro rfl ?_|refine aD ?_|refine bP ?_|refine IdxL.mk r rfl (by omega) ?_|refine LdOwn.mk r 0 .tt (by omega) e1 ?_|refine LdOwn.mk r 0 .ff (by omega) e1 ?_|refine StOwn.mk r 0 .ff .tt (by omega) e1 (Nat.le_refl 1) rfl ?_|refine ZU rfl (by simp) ?_);conv=>whnf)|(apply bD<;>intro _<;>first|omega|conv=>whnf))
  refine LoopK.inv QV (fun x:List Int×List Int×List Bool×List Int=>⟨[(0,.p (JM g)),(3,.hd 2 0 x.1.length),(4,.hd 3 0 x.2.1.length),(5,.hd 0 0 n),(6,.hd 1 0 n),(26,.p (.int .i64 n)),(27,.p (.int .i64 r))],[(0,.own 4 1 (x.2.2.1.map bv)),(1,.own 3 1 (x.2.2.2.map (.int .i64))),(2,.own 3 1 (x.1.map (.int .i64))),(3,.own 3 1 (x.2.1.map (.int .i64)))]⟩)
   (fun x=>EndI n g.1 x.1 x.2.1 x.2.2.1 x.2.2.2∧(r:Int)∈x.1++x.2.1 ∧ ∀ y:Int,0<=y∧y<r->y∈x.1) (fun x=>muE g.1 x.2.2.2 n+(n-x.1.length)) (out,st0,seen0,at_)
   (Le.mk [] (by simp) (by simp) (by simp) (.cons (.refl _) (.cons (.refl _) (.cons (.of_eq (by first|(rw [hst];done)|(rw [hst];rfl))) (.cons (.refl _) (.cons (.refl _) (.cons (.refl _) (.cons (.refl _) .nil)))))))
     (.cons rfl (.of_eq (by rw [hs0];first|done|rfl|(rw [List.map_set];rfl))) (.cons rfl (.refl _) (.cons rfl (.refl _) (.cons rfl (.of_eq (by rw [hst];rfl)) .nil)))))
   ⟨h4,h5,h3⟩ ?_
  clear h4 h5 hst hs0 e1 hq hsl hal h2 h3;rintro ⟨o,stk,s,t⟩ ⟨h2,h3,h4⟩;simp only at h2 h3 h4 ⊢;have hsl:=h2.sl;have hal:=h2.al;have hol:o.length<=n:=x0d (by have:=h2.dfs.nd;rw [nodup_append] at this;exact this.1) fun x hx=>h2.dfs.rng x (List.mem_append.2 (.inl hx));rcases List.eq_nil_or_concat stk with rfl|⟨st,a,rfl⟩
  ·have hz:(([]:List Int).length)=0:=rfl;conv=>whnf
   repeat' (first|((first|(refine iM fun _=>?_)|refine wI ?_);conv=>whnf)|(apply bD<;>intro _<;>first|omega|conv=>whnf))
   exact ⟨(r+1,o,s,t),⟨hr,h2,fun y hy=>by
    rcases Int.lt_or_le y r with hyr|hyr
    ·exact h4 y ⟨hy.1,hyr⟩
    ·have:y=r:=by simp only at hy;omega
     rw [this];simpa using h3⟩,by simp only;omega,Le.of_eq rfl⟩
  ·rw [List.concat_eq_append] at h2 h3 ⊢;have ha:=h2.dfs.rng a (by simp);have hstl:(st++[a]).length=st.length+1:=by simp
   obtain ⟨hk0,hk1⟩:=h2.arng a ha;have e2:=x5p (l:=t) (i:=a.toNat) (by omega);have e3:((st++[a]).map (AV.int .i64))[st.length]? = some (.int .i64 a):=by simp
   have hrow:((avI g.1).map AV.sl)[a.toNat]? = some (.sl ((g.1.getD a.toNat []).map (.int .i64))):=by
    have:a.toNat<g.1.length:=by rw [hg.1];omega
    rw [getD_eq_getElem?_getD,List.getElem?_eq_getElem this];simp [avI,this]
   obtain ⟨k,hk⟩ : ∃ k:Nat,t.getD a.toNat 0=k:=⟨(t.getD a.toNat 0).toNat,by omega⟩;rw [hk] at e2 hk1;have hrl:((g.1.getD a.toNat []).map (AV.int .i64)).length=(g.1.getD a.toNat []).length:=length_map _;have hnd:=h2.dfs.nd;rcases Nat.lt_or_ge k (g.1.getD a.toNat []).length with hkl|hkl
   ·obtain ⟨b,hb⟩ : ∃ b,(g.1.getD a.toNat [])[k]? = some b:=⟨_,List.getElem?_eq_getElem hkl⟩;have hbe:(g.1.getD a.toNat [])[k]=b:=by rw [List.getElem?_eq_getElem hkl] at hb;exact Option.some.inj hb
    have hE:rowE g.1 a b:=⟨ha.1,List.mem_iff_getElem?.2 ⟨k,hb⟩⟩;have hbr:=HH hg hE.2;have hmu:=w3l (by omega) hal hk hkl;have e4:=w9t (l:=s) (i:=b.toNat) (by omega);have hstk:(st++[a]).length<=n:=x0d (List.nodup_append.1 hnd).2.1 fun x hx=>h2.dfs.rng x (List.mem_append.2 (.inr hx));have hms:(t.set a.toNat ((k:Int)+1)).map (AV.int .i64)=(t.map (AV.int .i64)).set a.toNat (.int .i64 ((k:Int)+1)):=List.map_set;have hkm:=h2.arng a ha;cases hq:s.getD b.toNat false with
    | true =>
      rw [hq] at e4;conv=>whnf
      repeat' (first|((first|(refine iM fun _=>?_)|refine dA ?_|refine And.intro rfl ?_|(refine iA fun _=>?_)|refine wI ?_|refine IdxL.mk st.length (by omega) (by omega) ?_|refine LdOwn.mk st.length 0 (.int .i64 a) (by omega) e3 ?_|refine IdxL.mk a.toNat (by omega) (by omega) ?_|refine LdOwn.mk a.toNat 0 (.int .i64 k) (by omega) e2 ?_|(refine IdxK.at (k:=a.toNat) (by omega) hrow rfl ?_)|refine IdxL.mk b.toNat (by omega) (by omega) ?_|refine LdOwn.mk b.toNat 0 .tt (by omega) e4 ?_|refine StOwn.mk a.toNat 0 (.int .i64 k) (.int .i64 (k+1)) (by omega) e2 (Nat.le_refl 1) rfl ?_);conv=>whnf)|(apply bD<;>intro _<;>first|omega|conv=>whnf))
      exact ⟨(o,st++[a],s,t.set a.toNat ((k:Int)+1)),⟨h2.step ha hk hb ((h2.seen b hbr).1 hq),h3,h4⟩,by simp only;omega,Le.mk [] (by simp) (by simp) (by simp) (.cons (.refl _) (.cons (.refl _) (.cons (.refl _) (.cons (.refl _) (.cons (.refl _) (.cons (.refl _) (.cons (.refl _) .nil))))))) (.cons rfl (.refl _) (.cons rfl (.of_eq (by rw [hms])) (.cons rfl (.refl _) (.cons rfl (.refl _) .nil))))⟩
    | false =>
      rw [hq] at e4;conv=>whnf
      repeat' (first|((first|(refine iM fun _=>?_)|refine dA ?_|refine And.intro rfl ?_|refine aD ?_|refine bP ?_|(refine iA fun _=>?_)|refine wI ?_|refine IdxL.mk st.length (by omega) (by omega) ?_|refine LdOwn.mk st.length 0 (.int .i64 a) (by omega) e3 ?_|refine IdxL.mk a.toNat (by omega) (by omega) ?_|refine LdOwn.mk a.toNat 0 (.int .i64 k) (by omega) e2 ?_|(refine IdxK.at (k:=a.toNat) (by omega) hrow rfl ?_)|refine IdxL.mk b.toNat (by omega) (by omega) ?_|refine LdOwn.mk b.toNat 0 .ff (by omega) e4 ?_|refine StOwn.mk a.toNat 0 (.int .i64 k) (.int .i64 (k+1)) (by omega) e2 (Nat.le_refl 1) rfl ?_|refine StOwn.mk b.toNat 0 .ff .tt (by omega) e4 (Nat.le_refl 1) rfl ?_|refine ZU (by simp) (by simp;omega) ?_);conv=>whnf)|(apply bD<;>intro _<;>first|omega|conv=>whnf))
      have h8:=h2.push hbr hq (q5u st h2.dfs.path hE);exact ⟨(o,st++[a]++[b],s.set b.toNat true,t.set a.toNat ((k:Int)+1)),⟨h8.step ha hk hb (by simp),by rw [<- List.append_assoc];exact List.mem_append.2 (.inl h3),h4⟩,by simp only;omega,Le.mk [] (by simp) (by simp) (by simp) (.cons (.refl _) (.cons (.refl _) (.cons (.of_eq (by simp;rfl)) (.cons (.refl _) (.cons (.refl _) (.cons (.refl _) (.cons (.refl _) .nil))))))) (.cons rfl (.of_eq (by rw [List.map_set];rfl)) (.cons rfl (.of_eq (by rw [hms])) (.cons rfl (.refl _) (.cons rfl (.of_eq (by rw [hbe];simp;rfl)) .nil))))⟩
   ·have hkl2:k=(g.1.getD a.toNat []).length:=by omega
    have hp:=h2.pop (by rw [hk,hkl2]);have hol2:o.length+1<=n:=by
     have h7:=hp.dfs;have:=x0d (List.nodup_append.1 h7.nd).1 fun x hx=>h7.rng x (List.mem_append.2 (.inl hx));simpa using this
    conv=>whnf
    repeat' (first|((first|(refine iM fun _=>?_)|refine dA ?_|refine And.intro rfl ?_|refine aD ?_|refine bP ?_|refine wI ?_|refine IdxL.mk st.length (by omega) (by omega) ?_|refine LdOwn.mk st.length 0 (.int .i64 a) (by omega) e3 ?_|refine IdxL.mk a.toNat (by omega) (by omega) ?_|refine LdOwn.mk a.toNat 0 (.int .i64 k) (by omega) e2 ?_|(refine IdxK.at (k:=a.toNat) (by omega) hrow rfl ?_)|refine ZU (by simp) (by simp;omega) ?_|refine SlK.mk 0 st.length rfl (by show ((st++[a]).length:Int)-1=_;omega) (by omega) (by omega) ?_);conv=>whnf)|(apply bD<;>intro _<;>first|omega|conv=>whnf))
    have h9:muE g.1 t n+(n-(o++[a]).length)<muE g.1 t n+(n-o.length):=by simp;omega
    exact ⟨(o++[a],st,s,t),⟨hp,by simpa [or_assoc,or_comm,or_left_comm] using h3,fun y hy=>List.mem_append.2 (.inl (h4 y hy))⟩,h9,(Le.cut (.same (.same (.same (.cut (es':=st.map (.int .i64)) ⟨[.int .i64 a],by simp⟩ .nil))))).trans (Le.mk [] (by simp) (by simp) (by simp) (.cons (.refl _) (.cons (.of_eq (by simp;rfl)) (.cons (.of_eq (by simp;rfl)) (.cons (.refl _) (.cons (.refl _) (.cons (.refl _) (.cons (.refl _) .nil))))))) (.cons rfl (.refl _) (.cons rfl (.refl _) (.cons rfl (.of_eq (by simp;rfl)) (.cons rfl (.refl _) .nil)))))⟩
def w5r (pre:List Bool) (rows:List (List Int)):List (List Int):=rows.map fun r=>r.filter fun b => !pre.getD b.toNat false
theorem x3x {pre:List Bool} {rows:List (List Int)} {x y:Int}:x1h (w5r pre rows) x y↔x1h rows x y∧pre.getD y.toNat false=false:=by
 unfold x1h w5r;simp only [getD_eq_getElem?_getD,List.getElem?_map];cases rows[x.toNat]? with
 | none=>simp
 | some r=>simp
theorem w7e {n:Nat} {pre:List Bool} {rows:List (List Int)} (h:XK n rows):XK n (w5r pre rows):=by
 refine ⟨by simp [w5r,h.1],fun r hr b hb => ?_⟩;obtain ⟨r',hr',rfl⟩:=List.mem_map.1 hr;exact h.2 r' hr' b (List.mem_filter.1 hb).1
structure SimW (pre:List Bool) (st st':List Bool×List Int):Prop where
 todo:st.2=st'.2
 len:st.1.length=st'.1.length
 mrk : ∀ k,st.1.getD k false=(pre.getD k false||st'.1.getD k false)
theorem SimW.see {pre:List Bool} {st st':List Bool×List Int} (h:SimW pre st st') {b:Int} (hb:b.toNat<st.1.length) (hp:pre.getD b.toNat false=false):SimW pre (YN st b) (YN st' b):=by
 have hm:=h.mrk b.toNat;rw [hp,Bool.false_or] at hm;unfold YN;rw [hm];cases st'.1.getD b.toNat false with
 | true=>exact h
 | false =>
   refine ⟨by simp only [cond_false];rw [h.todo],by simpa using h.len,fun k => ?_⟩;simp only [cond_false];rw [ZN hb,ZN (by rw [<- h.len];exact hb)];split
   ·simp
   ·exact h.mrk k
theorem SimW.skip {pre:List Bool} {st st':List Bool×List Int} (h:SimW pre st st') {b:Int} (hp:pre.getD b.toNat false=true):YN st b=st:=by
 unfold YN;rw [h.mrk,hp];rfl
theorem w5z (st:List Bool×List Int) (b:Int):(YN st b).1.length=st.1.length:=by
 unfold YN;cases st.1.getD b.toNat false<;>simp
theorem SimW.fold {n:Nat} {pre:List Bool} : ∀ (l:List Int) {st st':List Bool×List Int},SimW pre st st'->st.1.length=n->(∀ b∈l,0<=b∧b<n)->SimW pre (l.foldl YN st) ((l.filter fun b => !pre.getD b.toNat false).foldl YN st')∧(l.foldl YN st).1.length=n
 | [],_,_,h,hn,_=>⟨h,hn⟩
 | b::r,st,st',h,hn,hl=>by
   have hb:=hl b mem_cons_self;have hr : ∀ c∈r,0<=c∧c<n:=fun c hc=>hl c (mem_cons_of_mem _ hc);rw [foldl_cons];cases hp:pre.getD b.toNat false with
   | true =>
     rw [h.skip hp,List.filter_cons_of_neg (by rw [hp];simp)];exact SimW.fold r h hn hr
   | false =>
     rw [List.filter_cons_of_pos (by rw [hp];simp),foldl_cons];exact SimW.fold r (h.see (by omega) hp) (by rw [w5z];exact hn) hr
theorem x6w {n:Nat} {pre:List Bool} {rows:List (List Int)} (hr:XK n rows) : ∀ (k i:Nat) {st st':List Bool×List Int},SimW pre st st'->st.1.length=n->SimW pre (XT rows k i st) (XT (w5r pre rows) k i st')
 | 0,_,_,_,h,_=>h
 | k+1,i,st,st',h,hn=>by
   rw [XT,XT,<- h.todo];cases ha:st.2[i]? with
   | none=>exact h
   | some a =>
     simp only;have hrow : ∀ b∈rows.getD a.toNat [],0<=b∧b<n:=fun b hb=>HH hr hb;have he:(w5r pre rows).getD a.toNat []=(rows.getD a.toNat []).filter fun b => !pre.getD b.toNat false:=by
      unfold w5r;simp only [getD_eq_getElem?_getD,List.getElem?_map];cases rows[a.toNat]? with
      | none=>simp
      | some r=>simp
     rw [he];obtain ⟨h1,h2⟩:=SimW.fold (n:=n) _ h hn hrow;exact x6w hr k (i+1) h1 h2
theorem z9s {n:Nat} {pre:List Bool} {rows:List (List Int)} (hr:XK n rows) (hp:pre.length=n) {r:Int} (hrr:0<=r∧r<n) (hu:pre.getD r.toNat false=false) :
  (∀ x,x∈(XT rows (n+1) 0 (pre.set r.toNat true,[r])).2↔Rch (fun a b=>x1h rows a b∧pre.getD b.toNat false=false) r x) ∧
  (∀ x:Int,0<=x∧x<n->((XT rows (n+1) 0 (pre.set r.toNat true,[r])).1.getD x.toNat false=true↔pre.getD x.toNat false=true∨x∈(XT rows (n+1) 0 (pre.set r.toNat true,[r])).2)):=by
 have e0:YN (List.replicate n false,[]) r=((List.replicate n false).set r.toNat true,[r]):=by
  unfold YN;have:(List.replicate n false).getD r.toNat false=false:=by
   rw [getD_eq_getElem?_getD,List.getElem?_replicate];split<;>rfl
  simp only [this,cond_false,List.nil_append]
 obtain ⟨h1,h2,_⟩:=(WkM.start n).see hrr;rw [e0] at h1 h2;have hsim:SimW pre (pre.set r.toNat true,[r]) ((List.replicate n false).set r.toNat true,[r]):=⟨rfl,by simp [hp],fun k=>by
  rw [ZN (by omega),ZN (by simp;omega)];split
  ·simp
  ·have:(List.replicate n false).getD k false=false:=by
    rw [getD_eq_getElem?_getD,List.getElem?_replicate];split<;>rfl
   rw [this,Bool.or_false]⟩
 have hw:=x6w hr (n+1) 0 hsim (by simpa using hp);obtain ⟨h3,h4,h5,h6⟩:=q3i (w7e (pre:=pre) hr) (n+1) 0 h1 (zero_le _) (by omega) (fun m a hm=>by omega);refine ⟨fun x => ?_,fun x hx => ?_⟩
 ·rw [hw.todo];constructor
  ·intro hx;exact h6 (fun x=>Rch (fun a b=>x1h rows a b∧pre.getD b.toNat false=false) r x) (fun x hx=>by rw [List.mem_singleton.1 hx];exact .refl) (fun x b h7 h8 => .tail h7 (x3x.1 h8)) x hx
  ·intro hx;exact hx.closed (S:=fun x=>x∈(XT (w5r pre rows) (n+1) 0 ((List.replicate n false).set r.toNat true,[r])).2) (fun x y h7 h8=>h5 x h7 y (x3x.2 h8)) (h4 r (by simp))
 ·rw [hw.mrk,hw.todo,h3.mem,Bool.or_eq_true];exact ⟨fun h=>h.imp id fun h=>⟨hx,h⟩,fun h=>h.imp id fun h=>h.2⟩
theorem q9h {n:Nat} {a:Int} (h:0<=a∧a<n):ZP n a=true:=by
 unfold ZP;simpa using h
structure MinP (E:Int->Int->Prop) (x v:Int):Prop where
 scc:sccP E x v
 le : ∀ y,sccP E x y->v<=y
theorem MinP.uniq {E:Int->Int->Prop} {x v w:Int} (h:MinP E x v) (h':MinP E x w):v=w:=Int.le_antisymm (h.le w h'.scc) (h'.le v h.scc)
def LS (n:Nat) (rows:List (List Int)):List Int:=(List.range n).map fun (a:Nat)=>x2u ((HZ 0 (ZR rows [(a:Int)])).filter fun b=>(HZ 0 (ZR rows [b])).contains (a:Int))
theorem w2v {n:Nat} {rows:List (List Int)} (hr:XK n rows) {x y:Int} (hx:0<=x):Rch (rowE rows) x y↔Rch (x1h rows) x y:=by
 refine ⟨fun h=>h.mono fun _ _ h=>h.2,fun h => ?_⟩;exact (h.closed (S:=fun y:Int=>0<=y∧Rch (rowE rows) x y) (fun a b ⟨h1,h2⟩ h3=>⟨(HH hr h3).1,.tail h2 ⟨h1,h3⟩⟩) ⟨hx,.refl⟩).2
theorem x9m {n:Nat} {rows:List (List Int)} (hr:XK n rows) {x y:Int} (hx:0<=x∧x<n) (h:Rch (rowE rows) x y):0<=y∧y<n :=
 h.closed (S:=fun y:Int=>0<=y∧y<n) (fun _ _ _ h=>HH hr h.2) hx
theorem x8u {n:Nat} {rows:List (List Int)} (hr:XK n rows) {x:Int} (hx:0<=x∧x<n) (y:Int):y∈HZ 0 (ZR rows [x])↔Rch (rowE rows) x y:=by
 rw [x3u hr,w2v hr hx.1];constructor
 ·rintro ⟨a,ha,_,h⟩;rw [List.mem_singleton.1 ha] at h;exact h
 ·intro h;exact ⟨x,by simp,q9h hx,h⟩
theorem HT (n:Nat) (rows:List (List Int)):(LS n rows).length=n:=by simp [LS]
theorem MA {n:Nat} {rows:List (List Int)} (hr:XK n rows) {x:Int} (hx:0<=x∧x<n):MinP (rowE rows) x ((LS n rows).getD x.toNat 0):=by
 have e:(LS n rows).getD x.toNat 0=x2u ((HZ 0 (ZR rows [x])).filter fun b=>(HZ 0 (ZR rows [b])).contains x):=by
  unfold LS;rw [getD_eq_getElem?_getD,List.getElem?_map,List.getElem?_range (by omega)];have:((x.toNat:Nat):Int)=x:=by omega
  simp [this]
 have hm : ∀ y,y∈(HZ 0 (ZR rows [x])).filter (fun b=>(HZ 0 (ZR rows [b])).contains x)↔sccP (rowE rows) x y:=fun y=>by
  rw [List.mem_filter,x8u hr hx,List.contains_iff_mem];constructor
  ·rintro ⟨h1,h2⟩;exact ⟨h1,(x8u hr (x9m hr hx h1) x).1 h2⟩
  ·rintro ⟨h1,h2⟩;exact ⟨h1,(x8u hr (x9m hr hx h1) x).2 h2⟩
 rw [e];obtain ⟨h1,h2⟩:=x3w (l:=(HZ 0 (ZR rows [x])).filter fun b=>(HZ 0 (ZR rows [b])).contains x) (List.length_pos_of_mem ((hm x).2 (sccP.refl x)));exact ⟨(hm _).1 h1,fun y hy=>h2 y ((hm y).2 hy)⟩
structure PartI (n:Nat) (E:Int->Int->Prop) (es:List Int) (m:Nat) (part:List Int) (seen:List Bool):Prop where
 sl:seen.length=n
 pl:part.length=n
 seen : ∀ x:Int,0<=x∧x<n->(seen.getD x.toNat false=true↔SeenP E es m x)
 min : ∀ x:Int,0<=x∧x<n->SeenP E es m x->MinP E x (part.getD x.toNat 0)
theorem PartI.start {n:Nat} {E:Int->Int->Prop} {es:List Int}:PartI n E es es.length (List.replicate n 0) (List.replicate n false):=by
 have hno : ∀ x,¬SeenP E es es.length x:=fun x ⟨j,y,h1,h2,_⟩=>by
  have:=(List.getElem?_eq_some_iff.1 h2).1;omega
 refine ⟨by simp,by simp,fun x _ => ?_,fun x _ hx=>absurd hx (hno x)⟩;rw [getD_eq_getElem?_getD,List.getElem?_replicate];have:=hno x;split<;>simp [this]
def VV (l:List Int) (v:Int) (part:List Int):List Int:=l.foldl (fun p a=>p.set a.toNat v) part
theorem DI (v:Int) : ∀ (l part:List Int),(VV l v part).length=part.length
 | [],_=>rfl
 | a::r,part=>by
   show (VV r v (part.set a.toNat v)).length=_;rw [DI v r];simp
theorem q4m {n:Nat} (v:Int) {x:Int} (hx:0<=x∧x<n) : ∀ (l:List Int) {part:List Int},part.length=n->(∀ a∈l,0<=a∧a<n)->(x∈l->(VV l v part).getD x.toNat 0=v)∧(x∉l->(VV l v part).getD x.toNat 0=part.getD x.toNat 0)
 | [],_,_,_=>⟨by simp,fun _=>rfl⟩
 | a::r,part,hl,ha=>by
   have ha0:=ha a mem_cons_self;have e:VV (a::r) v part=VV r v (part.set a.toNat v):=rfl;obtain ⟨h1,h2⟩:=q4m v hx r (part:=part.set a.toNat v) (by simpa using hl) fun b hb=>ha b (mem_cons_of_mem _ hb);have hg:(part.set a.toNat v).getD x.toNat 0=if a.toNat=x.toNat then v else part.getD x.toNat 0:=ZN (by omega);rw [e];by_cases hxr:x∈r
   ·exact ⟨fun _=>h1 hxr,fun h=>absurd (mem_cons_of_mem _ hxr) h⟩
   ·rw [h2 hxr,hg];constructor
    ·intro h;rcases List.mem_cons.1 h with rfl|h
     ·rw [if_pos rfl]
     ·exact absurd h hxr
    ·intro h;have:x≠a:=fun h'=>h (by rw [h'];exact mem_cons_self);rw [if_neg (by omega)]
theorem PartI.part {n:Nat} {g:List (List Int)×List (List Int)} (hg:XK n g.1) (hg2:XK n g.2) (hm : ∀ x y,rowE g.2 x y↔rowE g.1 y x) {es:List Int} (he:EndsP n (rowE g.1) es) {m:Nat} {part:List Int} {seen:List Bool} (h:PartI n (rowE g.1) es (m+1) part seen) {r:Int} (hr:es[m]? = some r) (hu:seen.getD r.toNat false=false) :
  (∀ x∈(XT g.2 (n+1) 0 (seen.set r.toNat true,[r])).2,0<=x∧x<n)∧0<(XT g.2 (n+1) 0 (seen.set r.toNat true,[r])).2.length∧wkInv n (seen.set r.toNat true,[r]) ∧
  PartI n (rowE g.1) es m (VV (XT g.2 (n+1) 0 (seen.set r.toNat true,[r])).2 (x2u (XT g.2 (n+1) 0 (seen.set r.toNat true,[r])).2) part) (XT g.2 (n+1) 0 (seen.set r.toNat true,[r])).1:=by
 have hrr:=(he.mem r).1 (List.mem_of_getElem? hr);have hsl:=h.sl;have hns : ¬SeenP (rowE g.1) es (m+1) r:=fun hs=>by rw [(h.seen r hrr).2 hs] at hu;cases hu
 obtain ⟨h1,h2⟩:=z9s hg2 h.sl hrr hu;have hin : ∀ x y,rowE g.1 x y->(0<=x∧x<n)∧0<=y∧y<n:=fun x y hxy=>⟨HH hg2 ((hm y x).2 hxy).2,HH hg hxy.2⟩;have hback:=z6m hin he hr hns;have hrel : ∀ x,Rch (fun a b=>x1h g.2 a b∧seen.getD b.toNat false=false) r x↔Rch (fun a b=>rowE g.1 b a ∧ ¬SeenP (rowE g.1) es (m+1) b) r x:=fun x=>by
  constructor
  ·intro hx;exact (hx.closed (S:=fun x:Int=>(0<=x∧x<n)∧Rch (fun a b=>rowE g.1 b a ∧ ¬SeenP (rowE g.1) es (m+1) b) r x) (fun a b ⟨h3,h4⟩ ⟨h5,h6⟩=>by
    have hb:=HH hg2 h5;refine ⟨hb,.tail h4 ⟨(hm a b).1 ⟨h3.1,h5⟩,fun hs => ?_⟩⟩;rw [(h.seen b hb).2 hs] at h6;cases h6) ⟨hrr,.refl⟩).2
  ·intro hx;refine hx.mono fun a b ⟨h3,h4⟩=>⟨((hm a b).2 h3).2,?_⟩;have hb:=(hin b a h3).1;cases hq:seen.getD b.toNat false with
   | true=>exact absurd ((h.seen b hb).1 hq) h4
   | false=>rfl
 have hmem : ∀ x,x∈(XT g.2 (n+1) 0 (seen.set r.toNat true,[r])).2↔sccP (rowE g.1) r x:=fun x=>by rw [h1,hrel,hback]
 have hrng : ∀ x∈(XT g.2 (n+1) 0 (seen.set r.toNat true,[r])).2,0<=x∧x<n:=fun x hx=>x9m hg hrr ((hmem x).1 hx).1;have hpos:0<(XT g.2 (n+1) 0 (seen.set r.toNat true,[r])).2.length:=List.length_pos_of_mem ((hmem r).2 (sccP.refl r));have hwk:wkInv n (seen.set r.toNat true,[r]):=by
  refine ⟨by simpa using h.sl,?_,fun x hx=>by rw [List.mem_singleton.1 hx];exact hrr⟩;have hlt:r.toNat<(seen.set r.toNat true).length:=by simp;omega
  show 1<=_;exact List.count_pos_iff.2 (List.mem_iff_getElem.2 ⟨r.toNat,hlt,by simp⟩)
 have hwl:(XT g.2 (n+1) 0 (seen.set r.toNat true,[r])).1.length=n:=(HX hg2 _ _ hwk).1;generalize XT g.2 (n+1) 0 (seen.set r.toNat true,[r])=w at hmem hrng hpos hwl h2 ⊢;obtain ⟨h7,h8⟩:=x3w hpos;refine ⟨hrng,hpos,hwk,hwl,by rw [DI];exact h.pl,fun x hx => ?_,fun x hx hs => ?_⟩
 ·rw [h2 x hx,hmem,h.seen x hx,x3o hr]
 ·obtain ⟨h3,h4⟩:=q4m (x2u w.2) hx w.2 h.pl hrng;by_cases hxw:x∈w.2
  ·rw [h3 hxw];have hsx:=(hmem x).1 hxw;exact ⟨hsx.symm.trans ((hmem _).1 h7),fun y hy=>h8 y ((hmem y).2 (hsx.trans hy))⟩
  ·rw [h4 hxw];refine h.min x hx ?_;rcases (x3o hr x).1 hs with h5|h5
   ·exact h5
   ·exact absurd ((hmem x).2 h5) hxw
theorem PartI.fin {n:Nat} {rows:List (List Int)} (hr:XK n rows) {es:List Int} (he:EndsP n (rowE rows) es) {part:List Int} {seen:List Bool} (h:PartI n (rowE rows) es 0 part seen):part=LS n rows:=by
 refine List.ext_getElem? fun i => ?_;rcases Nat.lt_or_ge i n with hi|hi
 ·have hx:0<=(i:Int)∧(i:Int)<n:=by omega
  have h1:=h.min i hx (w3q he hx);have h2:=MA hr hx;have h3:=h1.uniq h2;have hp1:i<part.length:=by rw [h.pl];exact hi
  have hp2:i<(LS n rows).length:=by rw [HT];exact hi
  simpa [getD_eq_getElem?_getD,hp1,hp2] using h3
 ·rw [List.getElem?_eq_none (by rw [h.pl];exact hi),List.getElem?_eq_none (by rw [HT];exact hi)]
theorem MM (n:Nat) (hn:n<=5000) (g:List (List Int)×List (List Int)) (hg:XK n g.1) (hg2:XK n g.2) (hgm : ∀ x y,rowE g.2 x y↔rowE g.1 y x):SpecP Tryz.prog 330 [JM g] (fun r=>r=QA (LS n g.1)):=by
 refine sB BA Tryz.func330 rfl Tryz.call330 ?_;conv=>whnf
 have hl:((avI g.1).map AV.sl).length=n:=by simp [avI,hg.1]
 repeat' ((first|(refine iM fun _=>?_)|refine aR ?_|refine wI ?_|refine MkK.mk n (by rw [hl]) (by show 1*n<=140737488355328;omega) (by unfold maxLen;omega) ?_|refine MkK.mk n (by rw [hl]) (by show 8*n<=140737488355328;omega) (by unfold maxLen;omega) ?_|(refine CallK.pure (q1m n hn g hg) (.cons (Sub.refl _) .nil) ?_;rintro _ ⟨es,rfl,he⟩));conv=>whnf)
 have hesl:es.length<=n:=by
  have h1:=he.nd;exact x0d h1 fun x hx=>(he.mem x).1 hx
 have hml:(es.map (AV.int .i64)).length=es.length:=length_map _;refine LoopK.inv QV (fun x:Nat×List Int×List Bool=>⟨[(0,.p (JM g)),(3,.hd 0 0 n),(4,.hd 1 0 n),(5,.p (QA es)),(6,.p (.int .i64 ((x.1:Int)-1)))],[(0,.own 3 1 (x.2.1.map (.int .i64))),(1,.own 4 1 (x.2.2.map bv))]⟩)
  (fun x=>x.1<=es.length∧PartI n (rowE g.1) es x.1 x.2.1 x.2.2) (fun x=>x.1) (es.length,List.replicate n 0,List.replicate n false)
  (Le.mk [] (by simp) (by simp) (by simp) (.cons (.refl _) (.cons (.of_eq rfl) (.cons (.of_eq rfl) (.cons (.refl _) (.cons (.of_eq (by rw [hml];rfl)) .nil)))))
    (.cons rfl (.of_eq (by rw [List.map_replicate];rfl)) (.cons rfl (.of_eq (by rw [List.map_replicate];rfl)) .nil)))
  ⟨Nat.le_refl _,PartI.start⟩ ?_
 rintro ⟨m,part,seen⟩ ⟨h1,h2⟩;simp only at h1 h2 ⊢;have hsl:=h2.sl;have hpl:=h2.pl;cases m with
 | zero =>
   conv=>whnf
   repeat' (apply bD<;>intro _<;>first|omega|conv=>whnf)
   exact ⟨_,.hd rfl (by simp [hpl]),by rw [h2.fin hg he];rfl⟩
 | succ m =>
   obtain ⟨r,hr⟩ : ∃ r,es[m]? = some r:=⟨_,List.getElem?_eq_getElem (by omega)⟩;have hrr:=(he.mem r).1 (List.mem_of_getElem? hr);have hre:es[m]=r:=by rw [List.getElem?_eq_getElem (by omega)] at hr;exact Option.some.inj hr
   have hra:(es.map (AV.int .i64))[m]? = some (.int .i64 r):=by rw [List.getElem?_map,hr];rfl
   have e1:=w9t (l:=seen) (i:=r.toNat) (by omega);cases hq:seen.getD r.toNat false with
   | true =>
     rw [hq] at e1;have hsk:=w0c hr ((h2.seen r hrr).1 hq);conv=>whnf
     repeat' (first|((first|refine And.intro rfl ?_|refine wI ?_|(refine IdxK.at (k:=m) (by omega) hra rfl ?_)|refine IdxL.mk r.toNat (by omega) (by omega) ?_|refine LdOwn.mk r.toNat 0 .tt (by omega) e1 ?_);conv=>whnf)|(apply bD<;>intro _<;>first|omega|conv=>whnf))
     exact ⟨(m,part,seen),⟨by simp only;omega,h2.sl,h2.pl,fun x hx=>by rw [h2.seen x hx,hsk],fun x hx hs=>h2.min x hx ((hsk x).1 hs)⟩,Nat.lt_succ_self m,Le.of_eq (by rw [show ((m+1:Nat):Int)-1-1=(m:Int)-1 by omega])⟩
   | false =>
     rw [hq] at e1;obtain ⟨h3,h4,h5,h6⟩:=h2.part hg hg2 hgm he hr hq;conv=>whnf
     repeat' (first|((first|refine dA ?_|refine And.intro rfl ?_|refine aD ?_|(refine IdxK.at (k:=m) (by omega) hra rfl ?_)|refine IdxL.mk r.toNat (by omega) (by omega) ?_|refine LdOwn.mk r.toNat 0 .ff (by omega) e1 ?_|refine StOwn.mk r.toNat 0 .ff .tt (by omega) e1 (Nat.le_refl 1) rfl ?_|refine BsK.own (fun x hx=>by rcases List.mem_singleton.1 hx with rfl;rfl) rfl ?_);conv=>whnf)|(apply bD<;>intro _<;>first|omega|conv=>whnf))
     have hwl:(XT g.2 (n+1) 0 (seen.set r.toNat true,[r])).1.length=n:=h6.sl;rw [show (seen.map bv).set r.toNat AV.tt=(seen.set r.toNat true).map bv by rw [List.map_set];rfl];refine CallK.heap [(1000,1),(2000,2)] 0 (ArgsH.cons (LSub.refl _) (ArgsH.cons (LSub.refl _) (ArgsH.cons (LSub.refl _) ArgsH.nil))) (by refine BlksH.cons (j:=1) rfl rfl ?_ ?_;exact CSub.refl _;refine BlksH.cons (j:=2) rfl rfl ?_ ?_;exact CSub.refl _;exact BlksH.nil) (q7r n hn g.2 hg2 (seen.set r.toNat true,[r]) h5) rfl rfl ?_;rintro l' H' ⟨rfl,rfl⟩;conv=>whnf
     have hwn:(XT g.2 (n+1) 0 (seen.set r.toNat true,[r])).2.length<=n:=HV (HX hg2 _ _ h5);generalize XT g.2 (n+1) 0 (seen.set r.toNat true,[r])=w at h3 h4 h6 hwl hwn ⊢;repeat' ((first|(refine iM fun _=>?_)|(refine QI (BK w.2 h4) (.cons (.hd rfl (by simp)) .nil) (by rintro _ rfl;rfl) ?_;rintro _ rfl));conv=>whnf)
     refine LoopK.inv QV (fun x:Nat=>⟨[(0,.p (JM g)),(3,.hd 0 0 n),(4,.hd 1 0 n),(5,.p (QA es)),(6,.p (.int .i64 (((m+1:Nat):Int)-1))),(8,.p (.int .i64 (x2u w.2))),(60,.hd 2 0 w.2.length),(61,.p (.int .i64 w.2.length)),(62,.p (.int .i64 x))],[(1,.own 4 1 (w.1.map bv)),(2,.own 3 1 (w.2.map (.int .i64))),(0,.own 3 1 ((VV (w.2.take x) (x2u w.2) part).map (.int .i64)))]⟩)
      (fun x=>x<=w.2.length) (fun x=>w.2.length-x) 0 (Le.of_eq rfl) (zero_le _) ?_
     intro q hqw;rcases Nat.lt_or_ge q w.2.length with hq2|hq2
     ·have hwr:=h3 _ (List.getElem_mem hq2);have e4:=x5p (l:=VV (w.2.take q) (x2u w.2) part) (i:=w.2[q].toNat) (by rw [DI];omega);have e5:VV (w.2.take (q+1)) (x2u w.2) part=(VV (w.2.take q) (x2u w.2) part).set w.2[q].toNat (x2u w.2):=by
       unfold VV;rw [List.take_succ_eq_append_getElem hq2,List.foldl_append];rfl
      generalize VV (w.2.take q) (x2u w.2) part=pt at e4 e5 ⊢;conv=>whnf
      repeat' (first|((first|refine And.intro rfl ?_|refine wI ?_|refine IdxL.mk q (by omega) (by omega) ?_|refine LdOwn.mk q 0 (.int .i64 w.2[q]) (by omega) (by simp [hq2]) ?_|refine IdxL.mk w.2[q].toNat (by omega) (by omega) ?_|refine StOwn.mk w.2[q].toNat 0 (.int .i64 (pt.getD w.2[q].toNat 0)) (.int .i64 (x2u w.2)) (by omega) e4 (Nat.le_refl 1) rfl ?_);conv=>whnf)|(apply bD<;>intro _<;>first|omega|conv=>whnf))
      exact ⟨q+1,hq2,by omega,Le.of_eq (by rw [e5,List.map_set];rfl)⟩
     ·rw [List.take_of_length_le hq2];conv=>whnf
      repeat' (first|(refine wI ?_;conv=>whnf)|(apply bD<;>intro _<;>first|omega|conv=>whnf))
      exact ⟨(m,VV w.2 (x2u w.2) part,w.1),⟨by simp only;omega,h6⟩,Nat.lt_succ_self m,Le.mk [] (by simp) (by simp) (by simp) (.cons (.refl _) (.cons (.refl _) (.cons (.refl _) (.cons (.refl _) (.cons (.of_eq (by rw [show (m:Int)=((m+1:Nat):Int)-1 by omega];rfl)) .nil))))) (.cons rfl (.refl _) (.cons rfl (.refl _) .nil))⟩
theorem OpK.frz {P:Program} {T:Tab} {N:Nat} {o:Oper} {K:St->Prop} {s:St} (hT:TabOK P T) (gs:List (List Nat)) (h:v2k gs s fun s'=>opW P T N s' o K):OpK P N s o K:=⟨fun σ β a w hr Q=>by
 obtain ⟨s1,h1,hle⟩:=q3x (N:=N) h;obtain ⟨σ1,β1,hr1,hl1⟩:=hle σ β a w hr;exact Oper.wp_mono (fun a' w' ⟨σ',β',s2,hK,hr',hl⟩=>⟨σ',β',s2,hK,hr',hl1.trans hl⟩) (HB hT h1 hr1 Q)⟩
theorem z0f {N:List (List Int)} {a:Nat} (ha:a<N.length) {b y:Int} {k:Nat}:y∈(q8u N a b).getD k []↔y∈N.getD k []∨(a=k∧y=b):=by
 unfold q8u;rw [ZN ha];split
 ·rename_i h;rw [x9y,h];simp
 ·rename_i h;simp [h]
theorem z6x {n:Nat} {g:List (List Int)×List (List Int)} (hl:g.2.length=n) (e:Int×Int):(x2y n g e).2.length=n:=by
 rw [q7t];cases (ZP n e.1&&ZP n e.2 && !(g.1.getD e.1.toNat []).contains e.2) with
 | true=>rw [cond_true];unfold q8u;rw [List.length_set];exact hl
 | false=>exact hl
structure MirG (n:Nat) (g:List (List Int)×List (List Int)):Prop where
 l1:g.1.length=n
 l2:g.2.length=n
 m : ∀ x y:Int,0<=x∧x<n->0<=y∧y<n->(y∈g.1.getD x.toNat []↔x∈g.2.getD y.toNat [])
theorem MirG.add {n:Nat} {g:List (List Int)×List (List Int)} (h:MirG n g) (e:Int×Int):MirG n (x2y n g e):=by
 refine ⟨z0i h.l1 e,z6x h.l2 e,fun x y hx hy => ?_⟩;rw [q3w,q7t];cases hc:(ZP n e.1&&ZP n e.2 && !(g.1.getD e.1.toNat []).contains e.2) with
 | true =>
   simp only [Bool.and_eq_true] at hc;have h1:=XA hc.1.1;have h2:=XA hc.1.2;rw [cond_true,cond_true,z0f (by rw [h.l1];omega),z0f (by rw [h.l2];omega),h.m x y hx hy];constructor
   ·rintro (h3|⟨h3,h4⟩)
    ·exact .inl h3
    ·exact .inr ⟨by omega,by omega⟩
   ·rintro (h3|⟨h3,h4⟩)
    ·exact .inl h3
    ·exact .inr ⟨by omega,by omega⟩
 | false=>exact h.m x y hx hy
theorem MirG.fold {n:Nat} : ∀ (l:List (Int×Int)) {g:List (List Int)×List (List Int)},MirG n g->MirG n (l.foldl (x2y n) g)
 | [],_,h=>h
 | e::r,_,h=>MirG.fold r (h.add e)
theorem x5z (n:Nat) (l:List (Int×Int)):MirG n (XQ n l):=by
 refine MirG.fold l ⟨by simp,by simp,fun x y _ _ => ?_⟩;have : ∀ k,(List.replicate n ([]:List Int)).getD k []=[]:=fun k=>by
  rw [getD_eq_getElem?_getD,List.getElem?_replicate];split<;>rfl
 simp only [this];simp
theorem x8y {n:Nat} {rows:List (List Int)} (hl:rows.length=n) {x y:Int} (h:rowE rows x y):0<=x∧x<n:=by
 refine ⟨h.1,?_⟩;have h2:=h.2;unfold x1h at h2;rcases Nat.lt_or_ge x.toNat rows.length with h3|h3
 ·omega
 ·rw [getD_eq_getElem?_getD,List.getElem?_eq_none h3] at h2;simp at h2
theorem z2b (n:Nat) (l:List (Int×Int)) (x y:Int):rowE (XQ n l).2 x y↔rowE (XQ n l).1 y x:=by
 obtain ⟨h1,h2⟩:=JS n l;have hm:=x5z n l;constructor
 ·intro h;have hx:=x8y hm.l2 h;have hy:=HH h2 h.2;exact ⟨hy.1,(hm.m y x hy hx).2 h.2⟩
 ·intro h;have hx:=x8y hm.l1 h;have hy:=HH h1 h.2;exact ⟨hy.1,(hm.m y x hx hy).1 h.2⟩
theorem z2i {n:Nat} {l:List (Int×Int)} {x y:Int}:rowE (XQ n l).1 x y↔(x,y)∈l∧ZP n x=true∧ZP n y=true:=by
 constructor
 ·intro h;have hx:=x8y (x5z n l).l1 h;have:=(FN hx).1 h.2;exact ⟨this.1,q9h hx,this.2⟩
 ·rintro ⟨h1,h2,h3⟩;have hx:=XA h2;exact ⟨hx.1,(FN hx).2 ⟨h1,h3⟩⟩
def LO (part:List Int) (o:List Bool) (t:Int×Int):List Bool:=if part.getD t.1.toNat 0=part.getD t.2.toNat 0 then o else o.set (part.getD t.1.toNat 0).toNat true
def q6f (n:Nat) (part:List Int):List Bool:=((List.replicate n false).set (part.getD 0 0).toNat true).set (part.getD (n-1) 0).toNat true
def q6b (n:Nat) (part:List Int) (prs:List (Int×Int)):List Bool:=prs.foldl (LO part) (q6f n part)
def HG (plc:Int->Int) (part:List Int) (i q:Nat):List Int:=((List.range q).filter fun j=>part.getD j 0==(i:Int)).map fun (j:Nat)=>plc j
def q5s (part:List Int) (op:List Bool) (i:Nat):Bool:=part.getD i 0==(i:Int) && !op.getD i false
def LP (plc:Int->Int) (part:List Int) (op:List Bool) (q:Nat):List (List Int):=((List.range q).filter (q5s part op)).map fun i=>HG plc part i part.length
def prsW (w:Way) (f:Pr):List (Int×Int):=w.real.map (ixP w.p w.j f w.n)
def WA (w:Way) (f:Pr):List Int:=LS w.n.toNat (XQ w.n.toNat (prsW w f)).1
def trapsW (w:Way) (f:Pr):List (List Int):=LP (QM w.p w.j w.n) (WA w f) (q6b w.n.toNat (WA w f) (prsW w f)) (WA w f).length
theorem x4p (part:List Int) (o:List Bool) (t:Int×Int):(LO part o t).length=o.length:=by
 unfold LO;split<;>simp
theorem z2z {n:Nat} {rows:List (List Int)} (hr:XK n rows) {k:Nat} (hk:k<n):0<=(LS n rows).getD k 0∧(LS n rows).getD k 0<n:=by
 have hx:0<=(k:Int)∧(k:Int)<n:=by omega
 have:=MA hr hx;exact x9m hr hx this.scc.1
theorem z2k (plc:Int->Int) (part:List Int) (i q:Nat):HG plc part i (q+1)=if part.getD q 0=(i:Int) then HG plc part i q++[plc q] else HG plc part i q:=by
 unfold HG;rw [List.range_succ,List.filter_append,List.map_append];by_cases h:part.getD q 0=(i:Int)
 ·rw [if_pos h,List.filter_cons_of_pos (by rw [h];simp)];rfl
 ·rw [if_neg h,List.filter_cons_of_neg (by simpa using h)];simp
theorem z3m (plc:Int->Int) (part:List Int) (op:List Bool) (q:Nat):LP plc part op (q+1)=if q5s part op q=true then LP plc part op q++[HG plc part q part.length] else LP plc part op q:=by
 unfold LP;rw [List.range_succ,List.filter_append,List.map_append];by_cases h:q5s part op q=true
 ·rw [if_pos h,List.filter_cons_of_pos h];rfl
 ·rw [if_neg h,List.filter_cons_of_neg h];simp
theorem x2l (plc:Int->Int) (part:List Int) (i q:Nat):(HG plc part i q).length<=q:=by
 unfold HG;rw [length_map];exact Nat.le_trans (List.length_filter_le _ _) (by simp)
theorem x2d (plc:Int->Int) (part:List Int) (op:List Bool) (q:Nat):(LP plc part op q).length<=q:=by
 unfold LP;rw [length_map];exact Nat.le_trans (List.length_filter_le _ _) (by simp)
theorem x5n (part:List Int) : ∀ (l:List (Int×Int)) (o:List Bool),(l.foldl (LO part) o).length=o.length
 | [],_=>rfl
 | t::r,o=>by rw [foldl_cons,x5n part r,x4p]
theorem z6k (n:Nat) (part:List Int) (l:List (Int×Int)):(l.foldl (LO part) (q6f n part)).length=n:=by
 rw [x5n];simp [q6f]
end Go.Ab
