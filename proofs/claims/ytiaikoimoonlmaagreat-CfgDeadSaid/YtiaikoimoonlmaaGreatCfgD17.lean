/- How many statements there are; the reference's ways from a place. -/
import Derived.Test.YtiaikoimoonlmaaGreatCfgD5
import Derived.Test.YtiaikoimoonlmaaGreatCfgD9
import Derived.Test.YtiaikoimoonlmaaGreatCfgD10
import Derived.Test.YtiaikoimoonlmaaGreatCfgD13
import Derived.Test.YtiaikoimoonlmaaGreatCfgD15
import Derived.Test.YtiaikoimoonlmaaGreatCfgD16
set_option linter.unusedSimpArgs false
set_option linter.unusedVariables false
set_option maxRecDepth 100000
set_option maxHeartbeats 16000000
open List (drop_eq_nil_of_le flatMap_cons getD_eq_getElem?_getD length_map length_take map_cons mem_cons mem_cons_self nodup_append)
open Nat (beq zero_le)
namespace Go.Ab
open Go.Proofs
theorem x8z : ∀ (k:Nat) (l:List S) (_:cntL l<k) (_:cntL l<=1000000),SpecP Tryz.prog 74 [eSs l] (fun r=>r = .int .i64 (cntL l)):=by
 intro k;induction k with
 | zero=>intro l h;omega
 | succ k ih =>
   intro l hk hl;have hll:=S.avs_len l;have hlc:l.length<=cntL l:=by
    clear hk hl hll;induction l with
    | nil=>simp
    | cons t r ihr=>rw [cntL,ZO,List.length_cons];omega
   refine sB x1q Tryz.func74 rfl Tryz.call74 ?_;conv=>whnf
   repeat' (refine iM fun _=>?_;conv=>whnf)
   refine LoopK.inv QU (fun y:Nat×Nat=>⟨[(0,.p (eSs l)),(3,.p (.int .i64 y.2)),(8,.p (.int .i64 (S.avs l).length)),(9,.p (.int .i64 y.1))],[]⟩) (fun y=>y.1<=l.length∧y.2+cntL (l.drop y.1)=cntL l+(l.length-y.1)) (fun y=>l.length-y.1) (0,l.length) (Le.of_eq (by simp only [S.avs_len];rfl)) ⟨zero_le _,by simp;omega⟩ ?_;rintro ⟨j,n⟩ ⟨h2,h3⟩;simp only at h2 h3 ⊢;rcases Nat.lt_or_ge j l.length with hj|hj
   ·have hst:=BW hj;have hcs:=ZO l[j];have h4:cntL (l.drop j)<=cntL l:=by
     have : ∀ (l:List S) (j:Nat),cntL (l.drop j)<=cntL l:=fun l=>by
      induction l with
      | nil=>intro j;simp
      | cons t r ihr =>
        intro j;cases j with
        | zero=>simp
        | succ j=>rw [List.drop_succ_cons,cntL];have:=ihr j;omega
     exact this l j
    conv=>whnf
    repeat' (first|((first|refine dA ?_|refine QF (by omega) ?_|refine wI ?_|(refine CallK.pure (ih l[j].thn (by omega) (by omega)) (.cons (Sub.refl _) .nil) ?_;rintro _ rfl)|(refine CallK.pure (ih l[j].els (by omega) (by omega)) (.cons (Sub.refl _) .nil) ?_;rintro _ rfl));conv=>whnf)|(apply bD<;>intro _<;>first|omega|conv=>whnf))
    all_goals exact ⟨(j+1,n+(cntL l[j].thn+cntL l[j].els)),⟨by simp only;omega,by simp only;omega⟩,by simp only;omega,Le.of_eq rfl⟩
   ·conv=>whnf
    rw [drop_eq_nil_of_le hj,cntL] at h3;repeat' (apply bD<;>intro _<;>first|omega|conv=>whnf)
    exact RetK.int (by omega)
theorem x6w (p:Pg) (hc:VU p.procs<=1000):SpecP Tryz.prog 18 [.agg p.cells] (fun r=>r = .int .i64 (VU p.procs)):=by
 refine sB q7o Tryz.func18 rfl Tryz.call18 ?_;conv=>whnf
 have hl2:(p.procs.map fun f=>AV.agg f.cells).length=p.procs.length:=length_map _;repeat' (refine iM fun _=>?_;conv=>whnf)
 refine LoopK.inv QU (fun y:Nat×Nat=>⟨[(3,.p (.int .i64 y.2)),(7,.p (.sl (p.procs.map fun f => .agg f.cells))),(8,.p (.int .i64 (p.procs.map fun f=>AV.agg f.cells).length)),(9,.p (.int .i64 y.1))],[]⟩) (fun y=>y.1<=p.procs.length∧y.2+VU (p.procs.drop y.1)=VU p.procs) (fun y=>p.procs.length-y.1) (0,0) (Le.of_eq rfl) ⟨zero_le _,by simp⟩ ?_;rintro ⟨j,n⟩ ⟨h2,h3⟩;simp only at h2 h3 ⊢;rcases Nat.lt_or_ge j p.procs.length with hj|hj
 ·have hst:=q1u hj;have hcm:=LY _ _ (List.getElem_mem hj);conv=>whnf
  repeat' (first|((first|refine And.intro rfl ?_|(refine iA fun _=>?_)|refine wI ?_|(refine CallK.pure (x8z (cntL p.procs[j].body+1) p.procs[j].body (by omega) (by omega)) (.cons (Sub.refl _) .nil) ?_;rintro _ rfl));conv=>whnf)|(apply bD<;>intro _<;>first|omega|conv=>whnf))
  exact ⟨(j+1,n+cntL p.procs[j].body),⟨by simp only;omega,by simp only;omega⟩,by simp only;omega,Le.of_eq rfl⟩
 ·conv=>whnf
  rw [drop_eq_nil_of_le hj,VU] at h3;repeat' (apply bD<;>intro _<;>first|omega|conv=>whnf)
  exact RetK.int (by omega)
def q8i (p:Pg) (most:Int):Bool:=XS p&&decide ((VU p.procs:Int)<=most)
theorem FO (p:Pg) (hf:Fit p) (most:Int):SpecP Tryz.prog 36 [.agg p.cells,.int .i64 most] (fun r=>r = .bool (q8i p most)):=by
 refine sB GH Tryz.func36 rfl Tryz.call36 ?_;conv=>whnf
 have hC:=ZD p hf;unfold q8i;cases hc:XS p with
 | false =>
   rw [hc] at hC;repeat' (first|(refine cP hC ?_;conv=>whnf)|(apply bB<;>intro _<;>conv=>whnf))
   all_goals first
    | contradiction
    | exact RetK.ff rfl
 | true =>
   rw [hc] at hC;have hcn:=(VY hc).2.2;repeat' (first|((first|refine cP hC ?_|(refine CallK.pure (x6w p (by omega)) (.cons (Sub.refl _) .nil) ?_;rintro _ rfl));conv=>whnf)|(apply bB<;>intro _<;>conv=>whnf))
   all_goals first
    | contradiction
    | exact RetK.bool (by simp)
theorem x3m {p:Pg} (h:XS p=true) {j:Nat} {f:Pr} (hj:p.procs[j]? = some f) {a:Int} (h1:(QR p.procs j:Int)+1<=a) (h2:a<=(QR p.procs j+cntL f.body:Nat)) : ∃ t∈flL f.body,z7s p a=some t∧t.id=a:=by
 obtain ⟨it,h3,h4⟩:=JY hj (k:=(a-1).toNat) (by omega) (by omega);refine ⟨it.s,BS h4,by unfold z7s;rw [h3];rfl,?_⟩;obtain ⟨_,_,_,hlen,hsp⟩:=QV p;obtain ⟨_,_,hle,hd⟩:=hsp j f hj;have hids:=z2t (QY h).1 hj;have h5:(itsOf p j f)[(a-1).toNat-QR p.procs j]? = some it:=by
  unfold itsOf;rw [<- hd,List.getElem?_drop,List.getElem?_take,if_pos (by omega),show QR p.procs j+((a-1).toNat-QR p.procs j)=(a-1).toNat by omega];exact h3
 have h6:((itsOf p j f).map fun it=>it.s.id)[(a-1).toNat-QR p.procs j]? = some it.s.id:=by rw [List.getElem?_map,h5];rfl
 rw [hids] at h6;unfold q6i at h6;rw [List.getElem?_map,List.getElem?_range' (by omega)] at h6;simp at h6;omega
theorem x1n {l:List Str} {s:Str} (h:s∈l):s∈Go.Lib.compact l:=by
 have key : ∀ (j:Nat) (hj:j<l.length),l[j]∈Go.Lib.compact l:=fun j=>by
  induction j with
  | zero =>
    intro hj;refine List.mem_map.2 ⟨0,List.mem_filter.2 ⟨by simpa using hj,by simp [Go.Lib.keeps]⟩,?_⟩;simp [hj]
  | succ j ih =>
    intro hj;cases hk:Go.Lib.keeps l.toArray (j+1) with
    | true =>
      refine List.mem_map.2 ⟨j+1,List.mem_filter.2 ⟨by simpa using hj,hk⟩,?_⟩;simp [hj]
    | false =>
      have hj':j<l.length:=by omega
      have:l[j+1]=l[j]:=by
       unfold Go.Lib.keeps at hk;simp [hj,hj'] at hk;exact hk
      rw [this];exact ih hj'
 obtain ⟨j,hj,rfl⟩:=List.mem_iff_getElem.1 h;exact key j hj
theorem KE {l:List Str} {s:Str}:s∈Go.Lib.compact l↔s∈l:=⟨FB,x1n⟩
theorem x7t {f:Pr} {s:Str}:s∈JK f ↔ ∃ t∈flL f.body,t.kind=4∧t.proc=s:=by
 unfold JK YK;rw [KE,JD,List.mem_map];simp only [List.mem_filter,decide_eq_true_eq,and_assoc]
theorem YA {s:Str} : ∀ (l out:List Str),s∈ZK out l↔s∈out∨s∈l
 | [],out=>by rw [ZK];simp
 | n::r,out=>by
   rw [ZK,YA r];split
   ·rename_i h;obtain ⟨m,hm,he⟩:=List.any_eq_true.1 h;have:n=m:=by simpa using he
    subst this;constructor
    ·rintro (h|h)
     ·exact .inl h
     ·exact .inr (List.mem_cons_of_mem _ h)
    ·rintro (h|h)
     ·exact .inl h
     ·rcases List.mem_cons.1 h with rfl|h
      ·exact .inl hm
      ·exact .inr h
   ·simp only [List.mem_append,mem_cons,List.not_mem_nil,or_assoc,false_or]
theorem PO : ∀ (l out:List Str),∃ r,ZK out l=out++r
 | [],out=>⟨[],by rw [ZK];simp⟩
 | n::r,out=>by
   rw [ZK];split
   ·exact PO r out
   ·obtain ⟨r',h⟩:=PO r (out++[n]);exact ⟨n::r',by rw [h];simp⟩
theorem q1h {p:Pg} (hs:(QM p).1=0) (n:Str) : ∀ (fuel i:Nat) (out:List Str),out.Nodup->(∀ s∈out,s∈procsN p)->(∀ s∈out,Rch (fun x y=>y∈WI p x) n s)->n∈out->i<=out.length->(∀ (j:Nat) (m:Str),j<i->out[j]? = some m -> ∀ y∈WI p m,y∈out)->p.procs.length+1<=fuel+i ->
  (∀ s∈WO p fuel i out,Rch (fun x y=>y∈WI p x) n s)∧n∈WO p fuel i out ∧ ∀ m∈WO p fuel i out,∀ y∈WI p m,y∈WO p fuel i out
 | 0,i,out,h1,h2,h3,h4,h5,h6,h7=>by
   have:=q6l h1 h2;have hl:(procsN p).length=p.procs.length:=length_map _;omega
 | fuel+1,i,out,h1,h2,h3,h4,h5,h6,h7=>by
   rw [WO];cases ho:out[i]? with
   | none =>
     have hi:out.length<=i:=List.getElem?_eq_none_iff.1 ho;refine ⟨h3,h4,fun m hm y hy => ?_⟩;have hm:m∈out:=hm;show y∈out;obtain ⟨j,hj,rfl⟩:=List.mem_iff_getElem.1 hm;exact h6 j _ (by omega) (List.getElem?_eq_getElem hj) y hy
   | some m =>
     have hi:=(List.getElem?_eq_some_iff.1 ho).1;have hm:m∈out:=List.mem_of_getElem? ho;obtain ⟨g1,g2,_⟩:=JG (WI p m) h1 h2 fun s h=>MH hs h;obtain ⟨r,hr⟩:=PO (WI p m) out;refine q1h hs n fuel (i+1) (ZK out (WI p m)) g1 g2 (fun s h => ?_) ((YA _ _).2 (.inl h4)) (by rw [hr,List.length_append];omega) (fun j m' hj hm' y hy => ?_) (by omega)
     ·rcases (YA _ _).1 h with h|h
      ·exact h3 s h
      ·exact .tail (h3 m hm) h
     ·rw [hr,List.getElem?_append_left (by omega)] at hm';rcases Nat.lt_or_ge j i with h|h
      ·exact (YA _ _).2 (.inl (h6 j m' h hm' y hy))
      ·have:j=i:=by omega
       subst this;rw [ho] at hm';cases hm';exact (YA _ _).2 (.inr hy)
theorem z6r {p:Pg} (hs:(QM p).1=0) {n s:Str} (hn:n∈procsN p):s∈z3f p n↔Rch (fun x y=>y∈WI p x) n s:=by
 obtain ⟨h1,h2,h3⟩:=q1h hs n (p.procs.length+1) 0 [n] (by simp) (by simpa using hn) (fun s h=>by rcases List.mem_singleton.1 h with rfl;exact .refl) (by simp) (zero_le _) (fun j m h=>absurd h (by omega)) (by omega);unfold z3f;rw [JD];exact ⟨h1 s,fun h=>Rch.closed (fun x y hx hy=>h3 x hx y hy) h2 h⟩
theorem q8s {p:Pg} (hs:(QM p).1=0) {n v:Str} (hn:n∈procsN p):v∈KJ p n ↔ ∃ m,Rch (fun x y=>y∈WI p x) n m∧v∈q1d p m:=by
 unfold KJ GY;rw [KE,JD,List.mem_flatMap];simp only [z6r hs hn]
theorem z1v {l:List Str} {v:Str}:(l.any fun s=>v==s)=true↔v∈l:=by
 rw [List.any_eq_true];constructor
 ·rintro ⟨s,h1,h2⟩
  rwa [show v=s by simpa using h2]
 ·exact fun h=>⟨v,h,by simp⟩
section
variable {α:Type} {R:α->α->Prop} {l out:List α} {i k:Nat}
end
def ordP (a b:Int):Prop:=w5m a b=true
theorem z3e {a b:Int}:ordP a b↔(b = -1∧a ≠ -1)∨(a ≠ -1∧b ≠ -1∧a<b):=by
 unfold ordP w5m;by_cases ha:a = -1<;>by_cases hb:b = -1<;>simp [ha,hb]
def x7y (k t:Nat) (cs:List AV):List (Nat×LV)->(List (Nat×LV)->Prop)->Prop
 | [],K=>K []
 | (j,l)::r,K=>bif beq j t then x7y k t cs r fun r=>K ((j,.p (.agg cs))::r) else VS (l.kill k) fun l=>x7y k t cs r fun r=>K ((j,l)::r)
theorem ND {k t:Nat} {cs:List AV} : ∀ {sl:List (Nat×LV)} {K:List (Nat×LV)->Prop},x7y k t cs sl K -> ∃ sl',K sl' ∧ ∀ i,getS sl' i=(getS sl i).kill k∨(i=t∧getS sl' i = .p (.agg cs))
 | [],_,h=>⟨[],h,fun _ => .inl rfl⟩
 | (j,l)::r,K,h=>by
   unfold x7y at h;cases hb:beq j t with
   | true =>
     rw [hb,cond_true] at h;have hj:j=t:=Nat.eq_of_beq_eq_true hb;obtain ⟨sl',hK,hs⟩:=ND h;refine ⟨_,hK,fun i => ?_⟩;simp only [getS];cases hi:j==i with
     | true=>exact .inr ⟨by rw [<- hj];exact (by simpa using hi:j=i).symm,rfl⟩
     | false=>exact hs i
   | false =>
     rw [hb,cond_false,XU] at h;obtain ⟨sl',hK,hs⟩:=ND h;refine ⟨_,hK,fun i => ?_⟩;simp only [getS];cases hi:j==i with
     | true=>exact .inl rfl
     | false=>exact hs i
theorem z3v {N:Nat} {s:St} {k:Nat} {e:TypeId} {sz:Nat} {es:List AV} {t:Nat} {ls:List LV} {cs:List AV} (hg:getH s.H k=some (.own e sz es)) (ht:getS s.sl t = .agg ls) (hln:ls.length=cs.length)
  (hcs : ∀ (j:Nat) (l:LV) (c:AV),ls[j]? = some l->cs[j]? = some c->(∃ a,l = .p a∧Sub a c)∨(∃ n,l = .hd k 0 n∧n=es.length∧c = .sl es)) {K:St->Prop} (h:x7y k t cs s.sl fun sl=>HP k s.H fun H=>K ⟨sl,H⟩) : ∃ s',K s'∧Le N s s':=by
 obtain ⟨sl,h,hsl⟩:=ND h;obtain ⟨H,h,hsub,hH⟩:=HH h;have agg : ∀ {σ τ:Mem} {β:Lab} {v:Value},σ.le τ->RepL σ β (.agg ls) v->(∀ v,RepL σ β (.hd k 0 es.length) v->Rep τ (.sl es) v)->Rep τ (.agg cs) v:=fun {σ τ β v} hle hv hrow=>by
  cases hv with
  | agg _ vs u hn hc hrr =>
    refine Rep.agg cs vs u (by rw [hn,hln]) (fun j c hj => ?_) fun j c hj => ?_
    ·have hlt:j<ls.length:=by rw [hln];exact (List.getElem?_eq_some_iff.1 hj).1
     exact hc j _ (List.getElem?_eq_getElem hlt)
    ·have hlt:j<ls.length:=by rw [hln];exact (List.getElem?_eq_some_iff.1 hj).1
     have h1:=hrr j _ (List.getElem?_eq_getElem hlt);rcases hcs j _ c (List.getElem?_eq_getElem hlt) hj with ⟨a,h2,h3⟩|⟨n,h2,rfl,rfl⟩
     ·rw [h2] at h1;cases h1 with
      | p hp=>exact h3 _ _ (hp.mono hle)
     ·rw [h2] at h1;exact hrow _ h1
 refine ⟨_,h,fun σ β a w hr => ?_⟩;rcases WR.1 (hr.heap.chunks k _ (QK hg)) with ⟨hb0,rfl⟩|⟨i,vs,hi,hisz,hh,hn,hle',hmax,hE⟩
 ·refine ⟨σ,β,⟨hr.size,hr.defers,fun j => ?_,⟨hr.heap.mem,fun j c' hj => ?_,hsub.nodup hr.heap.nodup,fun j hj=>hr.heap.apart j (hsub.subset hj),fun j hj j' hj'=>hr.heap.inj j (hsub.subset hj) j' (hsub.subset hj')⟩⟩,Mem.le_refl σ,Frm.refl _ _,fun _ h0 h1=>absurd h0 h1,fun b ⟨j,hj,r⟩ => .inl ⟨j,hsub.subset hj,r⟩,fun _ _ _=>rfl⟩
  ·show RepL σ β (getS sl j) _;have hv:=hr.slots j;rcases hsl j with he|⟨rfl,h2⟩
   ·rw [he];exact hv.kill k
   ·rw [h2];rw [ht] at hv;refine .p (agg (Mem.le_refl σ) hv fun v hv => ?_);rcases hv.hdI with ⟨_,_,_,he⟩|⟨i,_,hk,_⟩
    ·rw [he];exact .nilsl
    ·rw [hb0] at hk;cases hk
  ·obtain ⟨_,c,h2,rfl⟩:=hH j c' hj;exact (hr.heap.chunks j c h2).kill k
 ·refine hr.lay hi (QI hg) hh (fun τ hle hτ j v hv => ?_) (fun τ hle hτ j c' hj => ?_) (hsub.nodup hr.heap.nodup)
  ·show RepL τ β (getS sl j) v;rcases hsl j with he|⟨rfl,h2⟩
   ·rw [he];exact (hv.kill k).mono hle
   ·rw [h2];rw [ht] at hv;refine .p (agg hle hv fun v hv => ?_);rcases hv.hdI with ⟨hk,_⟩|⟨i',oo,hk,hl,ho,rfl⟩
    ·rw [hi] at hk;cases hk
    ·rw [hi] at hk;cases hk;have hoo:oo=0:=by
      rcases ho with ho|ho
      ·simpa using ho
      ·omega
     subst hoo;obtain ⟨u,hu⟩ : ∃ u:Nat->Nat->Value,∀ (m:Nat) (x:AV) (j:Nat) (c:AV),es[m]? = some x->x.cells[j]? = some c->vs[m*sz+j]? = some (u m j)∧Rep σ c (u m j):=by
      refine ⟨fun m j=>(vs[m*sz+j]?).getD undef,fun m x j c hx hj => ?_⟩;obtain ⟨v,h1,h2⟩:=hE.rep m x j c hx hj;rw [List.getElem?_take] at h1;split at h1
      ·have h1':vs[m*sz+j]? = some v:=by simpa using h1
       exact ⟨by simp [h1'],by simpa [h1'] using h2⟩
      ·cases h1
     exact .sl es i.blk 0 _ sz vs u hτ (by omega) (by omega) hE.size (fun m x j c hx hj=>by simpa using (hu m x j c hx hj).1) fun m x j c hx hj=>(hu m x j c hx hj).2.mono hle
  ·obtain ⟨h1,c,h2,rfl⟩:=hH j c' hj;exact ⟨h1,c,h2,fun hold=>(hold.kill k).mono hle fun _ _ _ _=>rfl⟩
theorem x8f {P:Program} {T:Tab} {N:Nat} {o:Oper} {K:St->Prop} {s:St} (hT:TabOK P T) {k:Nat} {e:TypeId} {sz:Nat} {es:List AV} (t:Nat) {ls:List LV} (cs:List AV) (hg:getH s.H k=some (.own e sz es)) (ht:getS s.sl t = .agg ls) (hln:ls.length=cs.length)
  (hcs : ∀ (j:Nat) (l:LV) (c:AV),ls[j]? = some l->cs[j]? = some c->(∃ a,l = .p a∧Sub a c)∨(∃ n,l = .hd k 0 n∧n=es.length∧c = .sl es)) (h:x7y k t cs s.sl fun sl=>HP k s.H fun H=>opW P T N ⟨sl,H⟩ o K):OpK P N s o K:=⟨fun σ β a w hr Q=>by
 obtain ⟨s1,h1,hle⟩:=z3v (N:=N) hg ht hln hcs (K:=fun s'=>opW P T N s' o K) h;obtain ⟨σ1,β1,hr1,hl1⟩:=hle σ β a w hr;exact Oper.wp_mono (fun a' w' ⟨σ',β',s2,hK,hr',hl⟩=>⟨σ',β',s2,hK,hr',hl1.trans hl⟩) (q0y hT h1 hr1 Q)⟩
theorem VN : ∀ (k:Nat) (x:X) (_:wX x<k) (_:k<=20002),SpecP Tryz.prog 229 [.agg x.cells] (fun r=>r = .agg x.cells):=by
 intro k;induction k with
 | zero=>intro x h;omega
 | succ k ih =>
   intro x hx hk;have hxe:wX x=1+wXs x.kids:=by cases x;rw [wX];rfl
   have hkl:=X.avs_len x.kids;have hkn:=x8e x.kids;refine sB JL Tryz.func229 rfl Tryz.call229 ?_;conv=>whnf
   repeat' ((first|(refine iM fun _=>?_)|refine And.intro rfl ?_);conv=>whnf)
   all_goals
    refine LoopK.inv QU (fun j:Nat=>⟨[(1,.p (.ip x.cells)),(2,.ptr 1 0),(3,.ptr 0 0),(14,.p (.int .i64 (X.avs x.kids).length)),(15,.p (.int .i64 j))],[(0,.obj 36 [.p (.int .i64 x.op),.p (.int .i64 x.n),.p (.str (x.name)),.hd 2 0 j]),(1,.obj 36 [.p (.int .i64 0),.p (.int .i64 0),.p (.str []),.p .nils]),(2,.own 36 4 (X.avs (x.kids.take j)))]⟩) (fun j=>j<=x.kids.length) (fun j=>x.kids.length-j) 0
     (Le.mk [(2,.own 36 4 [])] (by simp [Chunk.new0];rfl) (by simp) (by simp) (.cons (.refl _) (.cons (.refl _) (.cons (.refl _) (.cons (.refl _) (.cons (.refl _) .nil))))) (.cons rfl (.obj (.cons (.refl _) (.cons (.refl _) (.cons (.refl _) (.cons (.nil mem_cons_self) .nil))))) (.cons rfl (.refl _) (.new mem_cons_self .nil)))) (zero_le _) ?_
    intro j h2;rcases Nat.lt_or_ge j x.kids.length with hj|hj
    ·have hkw:=z8w (List.getElem_mem hj);have hih:=ih x.kids[j] (by omega) (by omega);have htk:X.avs (x.kids.take (j+1))=X.avs (x.kids.take j)++[.agg (x.kids[j]).cells]:=by
      rw [X.avs_eq,X.avs_eq,List.take_succ_eq_append_getElem hj,List.map_append];rfl
     have hal:(X.avs (x.kids.take j)).length=j:=by rw [X.avs_len,length_take];omega
     generalize X.avs (x.kids.take j)=acc at htk hal ⊢;conv=>whnf
     repeat' (first|((first|refine dA ?_|refine And.intro rfl ?_|refine aD ?_|refine bP ?_|refine IdxK.xs (by omega) ?_|refine wI ?_|refine cP hih ?_|refine AppK.mk hal.symm rfl (by show (j+1)*56<=140737488355328;omega) (by show j+1<=9223372036854775807;omega) (fun x hx=>by rcases List.mem_singleton.1 hx with rfl;exact ⟨rfl,rfl⟩) ?_);conv=>whnf)|(apply bD<;>intro _<;>first|omega|conv=>whnf)|(refine And.intro ?_ ?_<;>conv=>whnf))
     all_goals exact ⟨j+1,hj,by omega,Le.of_eq (by rw [htk];rfl)⟩
    ·have hall:X.avs (x.kids.take j)=X.avs x.kids:=by rw [List.take_of_length_le hj]
     have hal:(X.avs (x.kids.take j)).length=j:=by rw [X.avs_len,length_take];omega
     conv=>whnf
     repeat' (first|(refine And.intro rfl ?_;conv=>whnf)|(apply bD<;>intro _<;>first|omega|conv=>whnf))
     refine ⟨_,.agg (cs:=x.cells) rfl fun i l c h1 h3 => ?_,rfl⟩
     match i,h1,h3 with
     | 0,h1,h3=>cases h1;cases h3;exact .p (Sub.refl _)
     | 1,h1,h3=>cases h1;cases h3;exact .p (Sub.refl _)
     | 2,h1,h3=>cases h1;cases h3;exact .p (Sub.refl _)
     | 3,h1,h3 =>
       cases h1;cases h3;show Frz _ _ (.sl (X.avs x.kids));rw [<- hall];exact .hd rfl hal.symm
     | i+4,h1,h3=>simp at h1
def w5a (s:S):S := .mk s.id s.kind s.labels s.name s.proc s.x s.has s.args [] []
theorem UY (s:S) (hx:wX s.x<=20000) (hl:s.labels.length<=1000000) (ha:s.args.length<=1000000) (hax : ∀ a∈s.args,wX a.x<=20000):SpecP Tryz.prog 150 [.agg s.cells] (fun r=>r = .agg (w5a s).cells):=by
 refine sB KL Tryz.func150 rfl Tryz.call150 ?_;conv=>whnf
 have hal:(s.args.map fun a=>AV.agg a.cells).length=s.args.length:=length_map _;have hC:=VN 20001 s.x (by omega) (by omega);repeat' (first|((first|(refine iM fun _=>?_)|refine dA ?_|refine And.intro rfl ?_|refine cP hC ?_|refine cP (ZW s.labels hl) ?_);conv=>whnf)|(refine And.intro ?_ ?_<;>conv=>whnf))
 all_goals
  refine LoopK.inv QU (fun j:Nat=>⟨[(2,.ptr 1 0),(3,.ptr 0 0),(24,.p (z1r s.args)),(25,.p (.int .i64 (s.args.map fun a=>AV.agg a.cells).length)),(26,.p (.int .i64 j))],[(0,.obj 40 [.p (.int .i64 s.id),.p (.int .i64 s.kind),.p (QP s.labels),.p (.str s.name),.p (.str s.proc),.p (.int .i64 s.x.op),.p (.int .i64 s.x.n),.p (.str s.x.name),.p (.sl (X.avs s.x.kids)),.p (.bool s.has),.hd 2 0 j,.p .nils,.p .nils]),(1,.obj 40 [.p (.int .i64 0),.p (.int .i64 0),.p .nils,.p (.str []),.p (.str []),.p (.int .i64 0),.p (.int .i64 0),.p (.str []),.p .nils,.p .ff,.p .nils,.p .nils,.p .nils]),(2,.own 126 6 ((s.args.take j).map fun a => .agg a.cells))]⟩) (fun j=>j<=s.args.length) (fun j=>s.args.length-j) 0
   (Le.mk [(2,.own 126 6 [])] (by simp [Chunk.new0];rfl) (by simp) (by simp) (.cons (.refl _) (.cons (.refl _) (.cons (.refl _) (.cons (.refl _) (.cons (.refl _) .nil))))) (.cons rfl (.obj (.cons (.refl _) (.cons (.refl _) (.cons (.refl _) (.cons (.refl _) (.cons (.refl _) (.cons (.refl _) (.cons (.refl _) (.cons (.refl _) (.cons (.refl _) (.cons (.refl _) (.cons (.nil mem_cons_self) (.cons (.refl _) (.cons (.refl _) .nil)))))))))))))) (.cons rfl (.refl _) (.new mem_cons_self .nil)))) (zero_le _) ?_
  intro j h2;rcases Nat.lt_or_ge j s.args.length with hj|hj
  ·have hax1:=hax _ (List.getElem_mem hj);have hD:=VN 20001 s.args[j].x (by omega) (by omega);have htk:((s.args.take (j+1)).map fun a=>AV.agg a.cells)=((s.args.take j).map fun a=>AV.agg a.cells)++[.agg s.args[j].cells]:=by
    rw [List.take_succ_eq_append_getElem hj,List.map_append];rfl
   have hcl:((s.args.take j).map fun a=>AV.agg a.cells).length=j:=by rw [length_map,length_take];omega
   generalize ((s.args.take j).map fun a=>AV.agg a.cells)=acc at htk hcl ⊢;conv=>whnf
   repeat' (first|((first|refine dA ?_|refine And.intro rfl ?_|refine aD ?_|refine bP ?_|(refine iA fun _=>?_)|refine wI ?_|refine cP hD ?_|refine AppK.mk hcl.symm rfl (by show (j+1)*80<=140737488355328;omega) (by show j+1<=9223372036854775807;omega) (fun x hx=>by rcases List.mem_singleton.1 hx with rfl;exact ⟨rfl,rfl⟩) ?_);conv=>whnf)|(apply bD<;>intro _<;>first|omega|conv=>whnf)|(refine And.intro ?_ ?_<;>conv=>whnf))
   all_goals exact ⟨j+1,hj,by omega,Le.of_eq (by rw [htk];rfl)⟩
  ·have hall:((s.args.take j).map fun a=>AV.agg a.cells)=s.args.map fun a => .agg a.cells:=by rw [List.take_of_length_le hj]
   have hcl:((s.args.take j).map fun a=>AV.agg a.cells).length=j:=by rw [length_map,length_take];omega
   conv=>whnf
   repeat' (first|(refine And.intro rfl ?_;conv=>whnf)|(apply bD<;>intro _<;>first|omega|conv=>whnf))
   refine ⟨_,.agg (cs:=(w5a s).cells) rfl fun i l c h1 h3 => ?_,rfl⟩
   match i,h1,h3 with
   | 0,h1,h3=>cases h1;cases h3;exact .p (Sub.refl _)
   | 1,h1,h3=>cases h1;cases h3;exact .p (Sub.refl _)
   | 2,h1,h3=>cases h1;cases h3;exact .p (Sub.refl _)
   | 3,h1,h3=>cases h1;cases h3;exact .p (Sub.refl _)
   | 4,h1,h3=>cases h1;cases h3;exact .p (Sub.refl _)
   | 5,h1,h3=>cases h1;cases h3;exact .p (Sub.refl _)
   | 6,h1,h3=>cases h1;cases h3;exact .p (Sub.refl _)
   | 7,h1,h3=>cases h1;cases h3;exact .p (Sub.refl _)
   | 8,h1,h3=>cases h1;cases h3;exact .p (Sub.refl _)
   | 9,h1,h3=>cases h1;cases h3;exact .p (Sub.refl _)
   | 10,h1,h3 =>
     cases h1;cases h3;show Frz _ _ (.sl (s.args.map fun a => .agg a.cells));rw [<- hall];exact .hd rfl hcl.symm
   | 11,h1,h3=>cases h1;cases h3;exact .p Sub.nils
   | 12,h1,h3=>cases h1;cases h3;exact .p Sub.nils
   | i+13,h1,h3=>simp at h1
theorem x3e : ∀ l:List S,l.length<=cntL l
 | []=>by simp
 | t::r=>by
   rw [cntL,List.length_cons];have:=x3e r;have:1<=ZM t:=by cases t;rw [ZM];omega
   omega
def okC (t:S):Prop:=wX t.x<=20000∧t.labels.length<=1000000∧t.args.length<=1000000 ∧ ∀ a∈t.args,wX a.x<=20000
theorem x5n : ∀ {l:List S} {t:S},t∈l->ZM t<=cntL l
 | a::r,t,h=>by
   rw [cntL];rcases List.mem_cons.1 h with rfl|h
   ·omega
   ·have:=x5n h;omega
theorem q5l {p:Pg} (h:XS p=true) {j:Nat} {f:Pr} (hj:p.procs[j]? = some f) {k:Nat} {it:Item} (h1:QR p.procs j<=k) (h2:k<QR p.procs j+cntL f.body) (hk:(sheetOf p).l[k]? = some it):it.s.id=(k:Int)+1:=by
 obtain ⟨t,_,h4,h5⟩:=x3m h hj (a:=(k:Int)+1) (by omega) (by omega);unfold z7s at h4;rw [show ((k:Int)+1-1).toNat=k by omega,hk] at h4;cases h4;exact h5
theorem z7t {p:Pg} {j:Nat} {f:Pr} {it:Item} (hi:it∈itsOf p j f) {y:Int} (hy:y∈VB (sheetOf p) f it):(⟨it.s.id,y,1⟩:Step)∈QH p j f:=by
 unfold QH;exact List.mem_cons_of_mem _ (List.mem_flatMap.2 ⟨it,hi,List.mem_map.2 ⟨y,hy,rfl⟩⟩)
section
variable {p:Pg} {j:Nat} {f:Pr}
def wR (p:Pg) (j:Nat) (f:Pr):Int->Int->Prop:=stR (QL p j f).real
end
instance (a b:Step):Decidable (z3k a b):=inferInstanceAs (Decidable (_∨_))
instance:DecidableEq Step:=fun a b=>decidable_of_iff (a.src=b.src∧a.dst=b.dst∧a.kind=b.kind) ⟨fun h=>NT h.1 h.2.1 h.2.2,fun h=>by rw [h];exact ⟨rfl,rfl,rfl⟩⟩
theorem z9q {p:Pg} (h:XS p=true) {j:Nat} {f:Pr} (hj:p.procs[j]? = some f) {t:S} (ht:t∈flL f.body):z7s p t.id=some t:=by
 have hb:=VT (QY h).1 hj ht;obtain ⟨u,hu,h1,h2⟩:=x3m h hj hb.1 hb.2;obtain ⟨it,hi,rfl⟩:=x6v (p:=p) (j:=j) ht;obtain ⟨iu,hiu,rfl⟩:=x6v (p:=p) (j:=j) hu;rw [z7v (QY h).1 hj hiu hi h2] at h1;exact h1
theorem w0p {p:Pg} (h:XS p=true) {j:Nat} {f:Pr} (hj:p.procs[j]? = some f) {x:RI} (hx:x∈GR f):x.s∈flL f.body:=by
 rw [BX (QY h).1 (List.mem_of_getElem? hj)] at hx;rw [<- show (flatU f).map RI.s=flL f.body from q9g 1 0 false f.body];exact List.mem_map.2 ⟨x,hx,rfl⟩
def RI0:RI:=⟨.mk 0 0 [] [] [] (.mk 0 0 [] []) false [] [] [],0,0,false⟩
def x2e (id:Int) (f:Pr):Option (RI×Str):=((GR f).find? fun x=>decide (x.s.id=id)).map fun x=>(x,f.name)
def q7n (p:Pg) (id:Int):Option (RI×Str):=p.procs.findSome? (x2e id)
def YL (p:Pg) (id:Int):RI×Str×Bool:=match q7n p id with
 | some (x,n)=>(x,n,true)
 | none=>(RI0,[],false)
theorem z8o:Sub (.agg [.int .i64 0,.int .i64 0,.nils,.str [],.str [],.int .i64 0,.int .i64 0,.str [],.nils,.ff,.nils,.nils,.nils,.int .i64 0,.int .i64 0,.ff]) (.agg RI0.cells) :=
 Sub.agg (by repeat' (first|exact SubL.nil|refine SubL.cons ?_ ?_|exact Sub.nils|exact Sub.ff rfl|exact Sub.refl _))
theorem z2z {l:List RI} {q:RI->Bool} {k:Nat} (hk:k<l.length):(l.drop k).find? q=if q l[k] then some l[k] else (l.drop (k+1)).find? q:=by
 rw [QJ hk,List.find?_cons];cases q l[k]<;>rfl
theorem NP (p:Pg) (id:Int):SpecP Tryz.prog 26 [.agg p.cells,.int .i64 id] (fun r=>r = .tup [.agg (YL p id).1.cells,.str (YL p id).2.1,.bool (YL p id).2.2]):=by
 refine sB FU Tryz.func26 rfl Tryz.call26 ?_;conv=>whnf
 have hpl:(p.procs.map fun f=>AV.agg f.cells).length=p.procs.length:=length_map _;repeat' (refine iM fun _=>?_;conv=>whnf)
 refine LoopK.inv QU (fun j:Nat=>⟨[(1,.p (.int .i64 id)),(4,.ptr 1 0),(12,.p (.sl (p.procs.map fun f => .agg f.cells))),(13,.p (.int .i64 (p.procs.map fun f=>AV.agg f.cells).length)),(14,.p (.int .i64 j))],[(1,.obj 42 [.p (.int .i64 0),.p (.int .i64 0),.p .nils,.p (.str []),.p (.str []),.p (.int .i64 0),.p (.int .i64 0),.p (.str []),.p .nils,.p .ff,.p .nils,.p .nils,.p .nils,.p (.int .i64 0),.p (.int .i64 0),.p .ff])]⟩) (fun j=>j<=p.procs.length∧(p.procs.drop j).findSome? (x2e id)=q7n p id) (fun j=>p.procs.length-j) 0 (Le.of_eq rfl) ⟨zero_le _,rfl⟩ ?_;rintro j ⟨h2,h3⟩;rcases Nat.lt_or_ge j p.procs.length with hj|hj;rotate_left 1
 ·rw [drop_eq_nil_of_le hj,List.findSome?_nil] at h3;have hO:YL p id=(RI0,[],false):=by unfold YL;rw [<- h3]
  rw [hO];conv=>whnf
  repeat' (first|(refine And.intro rfl ?_;conv=>whnf)|(apply bD<;>intro _<;>first|omega|conv=>whnf))
  exact ⟨_,.p (Sub.tup (SubL.cons z8o (SubL.cons (Sub.refl _) (SubL.cons (Sub.ff rfl) SubL.nil)))),rfl⟩
 rw [QJ hj,List.findSome?_cons] at h3;conv=>whnf
 repeat' (first|((first|(refine iM fun _=>?_)|refine And.intro rfl ?_|(refine iA fun _=>?_)|refine cP (JF _) ?_);conv=>whnf)|(apply bD<;>intro _<;>first|omega|conv=>whnf))
 have hrl:((GR p.procs[j]).map fun i=>AV.agg i.cells).length=(GR p.procs[j]).length:=length_map _;have hff:x2e id p.procs[j]=((GR p.procs[j]).find? fun x=>decide (x.s.id=id)).map fun x=>(x,p.procs[j].name):=rfl;rw [hff] at h3;have hfl:=q9h p.procs[j];generalize GR p.procs[j]=F at hrl hfl h3 ⊢;refine LoopK.inv QU (fun k:Nat=>⟨[(1,.p (.int .i64 id)),(4,.ptr 1 0),(8,.p (.ip p.procs[j].cells)),(12,.p (.sl (p.procs.map fun f => .agg f.cells))),(13,.p (.int .i64 (p.procs.map fun f=>AV.agg f.cells).length)),(14,.p (.int .i64 j)),(19,.p (w0r F)),(20,.p (.int .i64 (F.map fun i=>AV.agg i.cells).length)),(21,.p (.int .i64 k))],[(1,.obj 42 [.p (.int .i64 0),.p (.int .i64 0),.p .nils,.p (.str []),.p (.str []),.p (.int .i64 0),.p (.int .i64 0),.p (.str []),.p .nils,.p .ff,.p .nils,.p .nils,.p .nils,.p (.int .i64 0),.p (.int .i64 0),.p .ff])]⟩) (fun k=>k<=F.length∧(F.drop k).find? (fun x=>decide (x.s.id=id))=F.find? fun x=>decide (x.s.id=id)) (fun k=>F.length-k) 0 (Le.of_eq rfl) ⟨zero_le _,rfl⟩ ?_;rintro k ⟨h4,h5⟩;rcases Nat.lt_or_ge k F.length with hk|hk;rotate_left 1
 ·rw [drop_eq_nil_of_le hk,List.find?_nil] at h5;rw [<- h5] at h3;conv=>whnf
  repeat' (first|(refine wI ?_;conv=>whnf)|(apply bD<;>intro _<;>first|omega|conv=>whnf))
  exact ⟨j+1,⟨hj,h3⟩,by omega,Le.of_eq rfl⟩
 rw [z2z hk] at h5;conv=>whnf
 repeat' (first|((first|refine dA ?_|refine And.intro rfl ?_|(refine iA fun _=>?_)|refine wI ?_);conv=>whnf)|(apply bD<;>intro _<;>first|omega|conv=>whnf))
 ·have hid:F[k].s.id=id:=by assumption
  rw [if_pos (decide_eq_true hid)] at h5;rw [<- h5] at h3;have hO:YL p id=(F[k],p.procs[j].name,true):=by unfold YL;rw [<- h3];rfl
  rw [hO];exact ⟨_,.p (Sub.tup (SubL.cons (Sub.refl _) (SubL.cons (Sub.refl _) (SubL.cons (Sub.tt rfl) SubL.nil)))),rfl⟩
 ·have hid : ¬F[k].s.id=id:=by assumption
  rw [if_neg (by simpa using hid)] at h5;exact ⟨k+1,⟨hk,h5⟩,by omega,Le.of_eq rfl⟩
theorem FH (p:Pg) (id:Int):SpecP Tryz.prog 40 [.agg p.cells,.int .i64 id] (fun r=>r = .str (YL p id).2.1):=by
 refine sB GL Tryz.func40 rfl Tryz.call40 ?_;conv=>whnf
 repeat' ((first|refine cP (NP _ _) ?_|refine And.intro rfl ?_);conv=>whnf)
 exact RetK.p rfl
instance:DecidableEq Param:=fun a b=>decidable_of_iff (a.name=b.name∧a.ref=b.ref) (by cases a;cases b;simp)
theorem x7l {p:Pg} (h:XS p=true) {j:Nat} {f:Pr} (hj:p.procs[j]? = some f) {it:Item} (hi:it∈itsOf p j f):(sheetOf p).l[(it.s.id-1).toNat]? = some it:=by
 have hb:=VT (QY h).1 hj (BS hi);obtain ⟨it',h1,h2⟩:=JY hj (k:=(it.s.id-1).toNat) (by omega) (by omega);have h3:=q5l h hj (by omega) (by omega) h1;rw [h1,z7v (QY h).1 hj h2 hi (by omega)]
theorem x3t {p:Pg} (h:XS p=true) : ∃ (k:Nat) (f:Pr),p.procs[k]? = some f∧p.procs.filter (fun f=>f.name==mainS)=[f]∧f.name=mainS∧f.params=[]:=by
 obtain ⟨hm,hs,_⟩:=QY h;obtain ⟨_,hb,_⟩:=YY hs;unfold XM at hb;simp only [Bool.or_eq_false_iff,Bool.not_eq_false'] at hb;obtain ⟨_,h2,h3,h4⟩:=hb;have hnd:=q7k h2;obtain ⟨k,hk,h5,h6⟩:=x3d h3;have h7:=List.find?_some h6;have hn:p.procs[k].name=mainS:=by
  have:mainS=p.procs[k].name:=by simpa using h7
  exact this.symm
 rw [h6] at h4;have hp:p.procs[k].params=[]:=List.eq_nil_of_length_eq_zero (by simpa using h4);refine ⟨k,p.procs[k],List.getElem?_eq_getElem hk,?_,hn,hp⟩;have key : ∀ (l:List Pr),(l.map Pr.name).Nodup -> ∀ f∈l,f.name=mainS->l.filter (fun f=>f.name==mainS)=[f]:=fun l=>by
  induction l with
  | nil=>intro _ f hf;cases hf
  | cons g r ih =>
    intro hnd f hf hfn;rw [map_cons,List.nodup_cons] at hnd;rcases List.mem_cons.1 hf with rfl|hf
    ·rw [List.filter_cons_of_pos (by simp [hfn])];congr 1;rw [List.filter_eq_nil_iff];intro g hg he;exact hnd.1 (by rw [hfn,<- show g.name=mainS by simpa using he];exact List.mem_map_of_mem hg)
    ·rw [List.filter_cons_of_neg (by
      intro he;exact hnd.1 (by rw [show g.name=mainS by simpa using he,<- hfn];exact List.mem_map_of_mem hf))]
     exact ih hnd.2 f hf hfn
 exact key p.procs hnd _ (List.getElem_mem hk) hn
section
variable {p:Pg} {k:Nat} {f:Pr}
end
theorem q3o : ∀ (l:List Pr) {n:Nat} {m:Int},XJ n l=some m -> ∀ (j:Nat) (f:Pr),l[j]? = some f -> ∃ m',VH 1 ((n+QR l j:Nat):Int) f.body=some m'
 | [],_,_,_,j,f,hj=>by simp at hj
 | g::r,n,m,h,j,f,hj=>by
   rw [XJ] at h;cases hm:JT g<;>rw [hm] at h
   ·cases h
   simp only [cond_true] at h;split at h
   ·rename_i m1 h1;cases j with
    | zero =>
      cases hj;exact ⟨m1,h1⟩
    | succ j =>
      have h2:=YH _ _ g.body h1;have h':XJ ((n+cntL g.body:Nat):Int) r=some m:=by rw [<- h,h2];rfl
      obtain ⟨m',h3⟩:=q3o r h' j f (by simpa using hj);exact ⟨m',by rw [<- h3,QR];congr 1;omega⟩
   ·cases h
theorem w0j {p:Pg} (h:JA p=true) {j:Nat} {f:Pr} (hj:p.procs[j]? = some f) : ∃ m,VH 1 ((QR p.procs j:Nat):Int) f.body=some m:=by
 unfold JA at h;simp only [Bool.and_eq_true] at h;obtain ⟨m,hm⟩:=Option.isSome_iff_exists.1 h.2;obtain ⟨m',h'⟩:=q3o p.procs (n:=0) hm j f hj;exact ⟨m',by rw [<- h'];congr 1;omega⟩
theorem q3u : ∀ (l:List Int) (b:List Bool) (i:Nat),i<b.length->((KG l b).getD i false=true↔b.getD i false=true ∨ ∃ a∈l,a.toNat=i)
 | [],b,i,hi=>by simp [KG]
 | a::r,b,i,hi=>by
   have ih:=q3u r (b.set a.toNat true) i (by rw [List.length_set];exact hi);have e:KG (a::r) b=KG r (b.set a.toNat true):=rfl;rw [e,ih];simp only [mem_cons,exists_eq_or_imp];by_cases ha:a.toNat=i
   ·simp [ha,hi,getD_eq_getElem?_getD,List.getElem?_set]
   ·simp [ha,getD_eq_getElem?_getD,List.getElem?_set]
theorem x5v {p:Pg} (h:XS p=true) {j:Nat} {f:Pr} (hj:p.procs[j]? = some f) {y:Int} (hy:plP p j f y):(QL p j f).live.getD (ixI p j f y).toNat false=true↔Rch (wR p j f) 0 y:=by
 have hrng:=z7x hy;have hl:(QL p j f).live=KG (PL 0 (UP (XY (cntL f.body+2) ((QL p j f).real.map (ixP p j f (cntL f.body+2:Nat)))).1 [0])) (List.replicate (cntL f.body+2) false):=rfl;rw [hl,q3u _ _ _ (by rw [List.length_replicate];omega)];have h0:(List.replicate (cntL f.body+2) false).getD (ixI p j f y).toNat false=false:=by
  rw [getD_eq_getElem?_getD,List.getElem?_replicate];split<;>rfl
 rw [h0];have hs:=q4n (F:=(QL p j f).real) (DU h hj) hy;unfold wR;rw [<- hs];constructor
 ·rintro (h1|⟨a,h1,h2⟩)
  ·cases h1
  ·have ha:=q7y _ _ _ h1
   rwa [show ixI p j f y=a by omega]
 ·exact fun h1 => .inr ⟨_,h1,rfl⟩
section
variable {p:Pg} {k:Nat} {f:Pr}
end
mutual
theorem z5k : ∀ (t:S) {nest seen m:Int},q5g nest seen t=some m -> ∀ u∈flS t,oneOk u=true
 | .mk id kind labels name pr x has args thn els,nest,seen,m,h,u,hu=>by
   obtain ⟨h1,_,m1,h3,h4⟩:=HJ h;rw [flS] at hu;rcases List.mem_cons.1 hu with rfl|hu
   ·exact h1
   ·rcases List.mem_append.1 hu with hu|hu
    ·exact LR thn h3 u hu
    ·exact LR els h4 u hu
theorem LR : ∀ (l:List S) {nest seen m:Int},VH nest seen l=some m -> ∀ u∈flL l,oneOk u=true
 | [],_,_,_,_,u,hu=>by rw [flL] at hu;cases hu
 | t::r,nest,seen,m,h,u,hu=>by
   obtain ⟨_,m1,h1,h2⟩:=JJ h;rw [flL] at hu;rcases List.mem_append.1 hu with hu|hu
   ·exact z5k t h1 u hu
   ·exact LR r h2 u hu
end
theorem z5z {p:Pg} {j:Nat} {f:Pr} (h:XS p=true) (hj:p.procs[j]? = some f) {t:S} (ht:t∈flL f.body):OneF t:=by
 obtain ⟨m,hr⟩:=w0j (QY h).1 hj;exact x0b (LR _ hr t ht)
section
variable {p:Pg} {j:Nat} {f:Pr}
end
def x2u (k:Int) (x:RI):Bool:=decide (k=0)||decide (x.s.kind=k)
def x1u (p:Pg) (k:Int):List Int:=((allR p).filter (x2u k)).map fun x=>x.s.id
theorem MC (p:Pg) (k:Int) (hl:(allR p).length<=1000):SpecP Tryz.prog 60 [.agg p.cells,.int .i64 k] (fun r=>r=XW (x1u p k)):=by
 refine sB DD Tryz.func60 rfl Tryz.call60 ?_;conv=>whnf
 have hrl:=q4q (allR p);repeat' ((first|(refine iM fun _=>?_)|refine cP (KP _) ?_);conv=>whnf)
 refine LoopK.inv QU (fun x:Nat×List Int=>⟨[(1,.p (.int .i64 k)),(5,.hd 0 0 x.2.length),(9,.p (w0r (allR p))),(10,.p (.int .i64 ((allR p).map fun i=>AV.agg i.cells).length)),(11,.p (.int .i64 x.1))],[(0,.own 3 1 (x.2.map (.int .i64)))]⟩) (fun x=>x.1<=(allR p).length∧x.2.length<=x.1∧x.2++(((allR p).drop x.1).filter (x2u k)).map (fun y=>y.s.id)=x1u p k) (fun x=>(allR p).length-x.1) (0,[])
  (Le.mk [(0,.own 3 1 [])] (by simp [Chunk.new0];rfl) (by simp) (by simp) (.cons (.refl _) (.cons (.nil mem_cons_self) (.cons (.refl _) (.cons (.refl _) (.cons (.refl _) .nil))))) (.new mem_cons_self .nil)) ⟨zero_le _,Nat.le_refl _,rfl⟩ ?_
 rintro ⟨j,o⟩ ⟨h2,h4,h3⟩;simp only at h2 h3 h4 ⊢;generalize hL:allR p=L at h2 h3 hrl hl ⊢;rcases Nat.lt_or_ge j L.length with hj|hj
 ·rw [List.drop_eq_getElem_cons hj] at h3;conv=>whnf
  repeat' (first|((first|refine And.intro rfl ?_|refine aD ?_|refine bP ?_|(refine iA fun _=>?_)|refine wI ?_|refine YQ (by simp) (by simp;omega) ?_);conv=>whnf)|(apply bD<;>intro _<;>first|omega|conv=>whnf))
  all_goals first
   | (have e:x2u k L[j]=true:=by unfold x2u;simp [*];done
      rw [List.filter_cons_of_pos e,map_cons] at h3;exact ⟨(j+1,o++[L[j].s.id]),⟨hj,by simp;omega,by rw [List.append_assoc];exact h3⟩,by simp only;omega,Le.of_eq (by simp only [List.length_append,List.map_append,length_map];rfl)⟩)
   | (have e:x2u k L[j]=false:=by unfold x2u;simp [*];done
      rw [List.filter_cons_of_neg (fun hh=>by rw [e] at hh;cases hh)] at h3;exact ⟨(j+1,o),⟨hj,by simp only;omega,h3⟩,by simp only;omega,Le.of_eq rfl⟩)
 ·rw [drop_eq_nil_of_le hj] at h3;simp only [List.filter_nil,List.map_nil,List.append_nil] at h3;conv=>whnf
  repeat' (apply bD<;>intro _<;>first|omega|conv=>whnf)
  all_goals first
   | exact ⟨_,.hd rfl (by simp),by rw [<- h3];rfl⟩
theorem x3o : ∀ (l:List Pr) (k:Nat),k<VU l -> ∃ j f,l[j]? = some f∧QR l j<=k∧k<QR l j+cntL f.body
 | [],k,h=>by rw [VU] at h;omega
 | g::r,k,h=>by
   rw [VU] at h;rcases Nat.lt_or_ge k (cntL g.body) with hk|hk
   ·exact ⟨0,g,rfl,by rw [QR];omega,by rw [QR];omega⟩
   ·obtain ⟨j,f,h1,h2,h3⟩:=x3o r (k-cntL g.body) (by omega);exact ⟨j+1,f,by simpa using h1,by rw [QR];omega,by rw [QR];omega⟩
namespace Own
end Own
open Go.Proofs
def w6q (l:List Int) (i:Nat):Int:=l.getD i 0
def srt (K:Int->Int) (l:List Int) (a b:Nat):Prop := ∀ i k,a<=i->i<k->k<b->K (w6q l k)<=K (w6q l i)
def blk (K:Int->Int) (l:List Int) (bs n:Nat):Prop := ∀ q,srt K l (q*bs) (min (q*bs+bs) n)
structure CopyF (p:Pg):Prop where
 procs:p.procs.length<=1000
 globals:p.globals.length<=1000000
 pr : ∀ f∈p.procs,f.vars.length<=1000000∧f.fin.length<=1000000∧f.params.length<=1000000∧cntL f.body<=100000 ∧ ∀ t∈flL f.body,okC t∧t.id ≠ -1
section
variable {p:Pg} {j:Nat} {f:Pr}
end
section
variable {p:Pg} {j:Nat} {f:Pr}
end
def caI (p:Pg) (t:S):Int:=idxF (fun f=>f.name==t.proc) p.procs
def caP (p:Pg) (t:S):Pr:=p.procs.getD (caI p t).toNat Pr0
section
variable {p:Pg} {j:Nat} {f:Pr}
end


section
variable {p:Pg} {j:Nat} {f:Pr}
theorem z6v {t:S} (ht:t∈flL f.body) : ∃ x∈flatU f,x.s=t:=by
 rw [<- show (flatU f).map RI.s=flL f.body from q9g 1 0 false f.body] at ht;exact List.mem_map.1 ht
end
theorem q4c {l:List Str}:XE l=false↔l.Nodup:=by
 refine ⟨q7k,fun h => ?_⟩;unfold XE;rw [List.any_eq_false];intro i hi;rw [List.mem_range] at hi;rw [Bool.not_eq_true,List.any_eq_false];intro s hs he;rw [List.getElem?_eq_getElem hi] at he;have he:l[i]=s:=eq_of_beq he;obtain ⟨k,hk,rfl⟩:=List.mem_iff_getElem.1 hs;rw [length_take] at hk;rw [List.getElem_take] at he;have:=(List.getElem_inj h).1 he;omega
theorem FD : ∀ (l seen:List Str),seen.Nodup->((WP seen l).isSome=true↔(seen++l).Nodup)
 | [],seen,h=>by rw [WP,List.append_nil];exact ⟨fun _=>h,fun _=>rfl⟩
 | n::r,seen,h=>by
   rw [WP];cases hc:(seen.any fun s=>n==s) with
   | true =>
     rw [cond_true];obtain ⟨s,hs,he⟩:=List.any_eq_true.1 hc;have he:n=s:=eq_of_beq he;refine ⟨fun h=>by (cases h),fun h2 => ?_⟩;rw [nodup_append] at h2;exact absurd rfl (h2.2.2 s hs n mem_cons_self |> fun hh=>he▸hh)
   | false =>
     rw [cond_false];have hn:n∉seen:=fun hm=>by
      have:=List.any_eq_false.1 hc n hm;simp at this
     have h1:(seen++[n]).Nodup:=by
      rw [nodup_append];exact ⟨h,by simp,fun a ha b hb e=>hn (by rw [<- List.mem_singleton.1 hb,<- e];exact ha)⟩
     rw [FD r (seen++[n]) h1,List.append_assoc];rfl
theorem q9b (f:Pr) : ∀ (its:List Item) (seen:List Str),seen.Nodup->((∃ s,VI f its seen = .ok s)↔(∀ it∈its,WG f it=true)∧(seen++its.flatMap fun it=>it.s.labels).Nodup)
 | [],seen,h=>by
   rw [VI];refine ⟨fun _=>⟨fun _ hh=>(by cases hh),by simpa using h⟩,fun _=>⟨seen,rfl⟩⟩
 | it::r,seen,h=>by
   have hj:=FD it.s.labels seen h;rw [VI];cases hq:WP seen it.s.labels with
   | none =>
     rw [hq] at hj;refine ⟨fun ⟨s,hs⟩=>by (cases hs),fun ⟨_,h2⟩ => ?_⟩;have:(seen++it.s.labels).Nodup:=by
      rw [flatMap_cons,<- List.append_assoc] at h2;exact (List.nodup_append.1 h2).1
     have:=hj.2 this;cases this
   | some s =>
     obtain rfl:=DL hq;rw [hq] at hj;have hn:=hj.1 rfl;simp only;cases hl:WG f it with
     | false =>
       rw [cond_false];refine ⟨fun ⟨s,hs⟩=>by (cases hs),fun ⟨h1,_⟩ => ?_⟩;have:=h1 it mem_cons_self;rw [hl] at this;cases this
     | true =>
       rw [cond_true,q9b f r _ hn,flatMap_cons,List.append_assoc];constructor
       ·rintro ⟨h1,h2⟩;refine ⟨fun x hx => ?_,h2⟩;rcases List.mem_cons.1 hx with rfl|hx
        ·exact hl
        ·exact h1 x hx
       ·rintro ⟨h1,h2⟩;exact ⟨fun x hx=>h1 x (List.mem_cons_of_mem _ hx),h2⟩
theorem q3l (f:Pr) : ∀ (its:List Item) (seen s:List Str),VI f its seen = .ok s->s=seen++its.flatMap fun it=>it.s.labels
 | [],seen,s,h=>by rw [VI] at h;cases h;simp
 | it::r,seen,s,h=>by
   rw [VI] at h;cases hq:WP seen it.s.labels with
   | none=>rw [hq] at h;cases h
   | some s2 =>
     obtain rfl:=DL hq;rw [hq] at h;simp only at h;cases hl:WG f it with
     | false=>rw [hl] at h;cases h
     | true =>
       rw [hl,cond_true] at h;rw [q3l f r _ s h,flatMap_cons,List.append_assoc]
def z0h (f:Pr):List Str:=(flL f.body).flatMap S.labels++f.fin
def x8o (p:Pg) (j:Nat) (f:Pr):Prop:=(∀ it∈itsOf p j f,WG f it=true)∧(z0h f).Nodup
theorem q4u (p:Pg) (j:Nat) (f:Pr):((itsOf p j f).flatMap fun it=>it.s.labels)=(flL f.body).flatMap S.labels:=by
 unfold itsOf;rw [<- BC (j:Nat) 0 (-1) 0 (QR p.procs j) f.body,List.flatMap_map]
theorem q4b {p:Pg} {j:Nat} {f:Pr} (hj:p.procs[j]? = some f):VL p j=none↔x8o p j f:=by
 unfold VL x8o z0h;rw [hj];simp only;have h1:=q9b f (itsOf p j f) [] List.nodup_nil;rw [List.nil_append,q4u] at h1;have h0:VI f (itL (j:Nat) 0 (-1) 0 (QR p.procs j) f.body) []=VI f (itsOf p j f) []:=rfl;rw [h0];cases hq:VI f (itsOf p j f) [] with
 | error id =>
   rw [hq] at h1;refine ⟨fun h=>by (cases h),fun ⟨h2,h3⟩ => ?_⟩;obtain ⟨s,hs⟩:=h1.2 ⟨h2,(List.nodup_append.1 h3).1⟩;cases hs
 | ok seen =>
   rw [hq] at h1;have hs:=q3l f _ _ _ hq;rw [List.nil_append,q4u] at hs;obtain ⟨h2,h3⟩:=h1.1 ⟨seen,rfl⟩;have hJ:=FD f.fin seen (by rw [hs];exact h3);simp only;rw [<- hs];cases hq2:WP seen f.fin with
   | none =>
     rw [hq2] at hJ;refine ⟨fun h=>by (cases h),fun ⟨_,h4⟩ => ?_⟩;have:=hJ.2 h4;cases this
   | some s =>
     rw [hq2] at hJ;exact ⟨fun _=>⟨h2,hJ.1 rfl⟩,fun _=>rfl⟩
theorem x5h {p:Pg} (hs:(QM p).1=0):(HM p).1=0 ↔ ∀ j f,p.procs[j]? = some f->x8o p j f:=by
 unfold HM;rw [if_neg (by omega)];cases hf:(List.range p.procs.length).findSome? (VL p) with
 | some a =>
   refine ⟨fun h=>by simp at h,fun h => ?_⟩;obtain ⟨j,hj,hq⟩:=List.exists_of_findSome?_eq_some hf;rw [List.mem_range] at hj;have:=(q4b (List.getElem?_eq_getElem hj)).2 (h j _ (List.getElem?_eq_getElem hj));rw [this] at hq;cases hq
 | none =>
   refine ⟨fun _ j f hj => ?_,fun _=>rfl⟩;have hlt:j<p.procs.length:=(List.getElem?_eq_some_iff.1 hj).1;exact (q4b hj).1 (List.findSome?_eq_none_iff.1 hf j (List.mem_range.2 hlt))
def allV (p:Pg) (f:Pr):List Str:=p.globals++NB f
structure ScopeOK (p:Pg) (f:Pr):Prop where
 nd:(allV p f).Nodup
 kn : ∀ t∈flL f.body,knownB p f (procsN p) t=true
theorem q0b {p:Pg} {f:Pr} (hg:XE p.globals=false):ZR p f=none↔ScopeOK p f:=by
 unfold ZR;have h1:(XE (NB f)||(NB f).any (fun n=>p.globals.any fun s=>n==s))=false↔(allV p f).Nodup:=by
  unfold allV;rw [Bool.or_eq_false_iff,q4c,nodup_append,List.any_eq_false];have hgn:=q4c.1 hg;constructor
  ·rintro ⟨a,b⟩;refine ⟨hgn,a,fun x hx y hy e=>b y hy ?_⟩;rw [List.any_eq_true];exact ⟨x,hx,by rw [e];exact beq_self_eq_true _⟩
  ·rintro ⟨_,a,b⟩;refine ⟨a,fun y hy hh => ?_⟩;obtain ⟨x,hx,he⟩:=List.any_eq_true.1 hh;exact b x hx y hy (eq_of_beq he).symm
 cases hc:(XE (NB f)||(NB f).any (fun n=>p.globals.any fun s=>n==s)) with
 | true =>
   rw [cond_true];refine ⟨fun h=>by (cases h),fun h => ?_⟩;have:=h1.2 h.nd;rw [hc] at this;cases this
 | false =>
   rw [cond_false,Option.map_eq_none_iff,List.find?_eq_none];constructor
   ·exact fun h=>⟨h1.1 hc,fun t ht=>by have:=h t ht;simpa using this⟩
   ·intro h t ht;rw [h.kn t ht];decide
theorem q9y {p:Pg} (hm:JA p=true):(QM p).1=0↔XM p=false ∧ ∀ f∈p.procs,ScopeOK p f:=by
 unfold QM;rw [hm,cond_true];cases hb:XM p with
 | true=>rw [cond_true];exact ⟨fun h=>by simp at h,fun h=>by cases h.1⟩
 | false =>
   have hg:XE p.globals=false:=by
    unfold XM at hb;rw [Bool.or_eq_false_iff] at hb;exact hb.1
   rw [cond_false];cases hf:p.procs.findSome? (ZR p) with
   | some a =>
     refine ⟨fun h=>by simp at h,fun h => ?_⟩;obtain ⟨f,hm2,hq⟩:=List.exists_of_findSome?_eq_some hf;rw [(q0b hg).2 (h.2 f hm2)] at hq;cases hq
   | none=>exact ⟨fun _=>⟨rfl,fun f hm2=>(q0b hg).1 (List.findSome?_eq_none_iff.1 hf f hm2)⟩,fun _=>rfl⟩
theorem q2w {p:Pg} (hs:(QM p).1=0):(WW p).1=0 ↔ ∀ t∈WA p,t.kind=4->KR p t=true:=by
 unfold WW;rw [if_neg (by omega)];cases hf:(WA p).find? fun t=>decide (t.kind=4) && !KR p t with
 | some t =>
   have h1:=List.mem_of_find?_eq_some hf;have h2:=List.find?_some hf;simp only [Bool.and_eq_true,decide_eq_true_eq,Bool.not_eq_true'] at h2;refine ⟨fun h=>by simp at h,fun h => ?_⟩;have:=h t h1 h2.1;rw [h2.2] at this;cases this
 | none =>
   refine ⟨fun _ t ht hk => ?_,fun _=>rfl⟩;have:=List.find?_eq_none.1 hf t ht;simp only [Bool.and_eq_true,decide_eq_true_eq,Bool.not_eq_true',not_and] at this;simpa using this hk
theorem q9p {p:Pg} (ha:(WW p).1=0):(YS p).1=0 ↔ ∀ t∈WA p,t.kind=4->XL t.name (KJ p t.proc) t.args []=true:=by
 unfold YS;rw [if_neg (by omega)];cases hf:(WA p).find? fun t=>decide (t.kind=4) && !XL t.name (KJ p t.proc) t.args [] with
 | some t =>
   have h1:=List.mem_of_find?_eq_some hf;have h2:=List.find?_some hf;simp only [Bool.and_eq_true,decide_eq_true_eq,Bool.not_eq_true'] at h2;refine ⟨fun h=>by simp at h,fun h => ?_⟩;have:=h t h1 h2.1;rw [h2.2] at this;cases this
 | none =>
   refine ⟨fun _ t ht hk => ?_,fun _=>rfl⟩;have:=List.find?_eq_none.1 hf t ht;simp only [Bool.and_eq_true,decide_eq_true_eq,Bool.not_eq_true',not_and] at this;simpa using this hk
theorem z9x {p:Pg}:XS p=true↔JA p=true∧(QM p).1=0∧(WW p).1=0∧(HM p).1=0∧(YS p).1=0:=by
 refine ⟨QY,fun ⟨h1,h2,h3,h4,h5⟩ => ?_⟩;unfold XS x6s;rw [decide_eq_true_eq,if_neg (by rw [h1];decide),if_neg (by omega),if_neg (by omega),if_neg (by omega)];exact h5
theorem JQ {p:Pg} (h:JA p=true):(allR p).map RI.s=WA p:=by
 rw [q1p h];exact z7h p.procs
section
variable {p:Pg} {j:Nat} {f:Pr} {n:Str}
end
theorem x4k {p:Pg} (h:XS p=true) {f:Pr} (hf:f∈p.procs) : ∃ k,p.procs[k]? = some f∧NA p f.name=some (QL p k f):=by
 cases hw:NA p f.name with
 | none =>
   exfalso;unfold NA at hw;rw [h,cond_true] at hw;cases hq:p.procs.find? (fun g=>g.name==f.name) with
   | none =>
     have:=List.find?_eq_none.1 hq _ hf;simp at this
   | some g=>rw [hq] at hw;cases hw
 | some w =>
   obtain ⟨k,g,hkj,rfl,_,hgn,_⟩:=BE hw;have he:g=f:=q1l (q0s h) g (List.mem_of_getElem? hkj) f hf hgn;subst he;exact ⟨k,hkj,rfl⟩
theorem z4b {p:Pg} (h:XS p=true) {id:Int} (hid:id∈x1u p 0) : ∃ k f t,p.procs[k]? = some f∧t∈flL f.body∧t.id=id∧NA p (YL p id).2.1=some (QL p k f):=by
 have hm:=(QY h).1;unfold x1u at hid;obtain ⟨x,hx,rfl⟩:=List.mem_map.1 hid;have hx:=(List.mem_filter.1 hx).1;rw [q1p hm] at hx;obtain ⟨g,hg,hxg⟩:=List.mem_flatMap.1 hx;rw [<- BX hm hg] at hxg;unfold YL;cases hr:q7n p x.s.id with
 | none =>
   exfalso;unfold q7n at hr;have h1:=List.findSome?_eq_none_iff.1 hr g hg;unfold x2e at h1;rw [Option.map_eq_none_iff,List.find?_eq_none] at h1;exact h1 x hxg (by simp)
 | some y =>
   obtain ⟨y,nm⟩:=y;unfold q7n at hr;obtain ⟨f,hf,h1⟩:=List.exists_of_findSome?_eq_some hr;unfold x2e at h1;rw [Option.map_eq_some_iff] at h1;obtain ⟨z,h2,h3⟩:=h1;obtain rfl:z=y:=congrArg Prod.fst h3;have hnm:f.name=nm:=congrArg Prod.snd h3;obtain ⟨k,hk,hw⟩:=x4k h hf;refine ⟨k,f,z.s,hk,w0p h hk (List.mem_of_find?_eq_some h2),by simpa using List.find?_some h2,?_⟩;show NA p nm=_;rw [<- hnm];exact hw
theorem x9s {p:Pg} (h:XS p=true) {id:Int} (h1:1<=id) (h2:id<=(sheetOf p).l.length) : ∃ k f it,p.procs[k]? = some f∧it∈itsOf p k f∧it.s.id=id∧NA p (YL p id).2.1=some (QL p k f)∧(YL p id).2.2=true∧x9l p id=(it.next,true):=by
 obtain ⟨_,_,_,hlen,_⟩:=QV p;obtain ⟨j,f,hj,h3,h4⟩:=x3o p.procs (id-1).toNat (by omega);obtain ⟨it,h5,h6⟩:=JY hj h3 h4;have h7:=q5l h hj h3 h4 h5;have h8:it.s.id=id:=by omega
 have hm:=(QY h).1;obtain ⟨x,hx,hxs⟩:=z6v (BS h6);have hid:id∈x1u p 0:=by
  unfold x1u;refine List.mem_map.2 ⟨x,List.mem_filter.2 ⟨?_,rfl⟩,by rw [hxs,h8]⟩;rw [q1p hm];exact List.mem_flatMap.2 ⟨f,List.mem_of_getElem? hj,hx⟩
 obtain ⟨k,g,t,hk,ht,hti,hw⟩:=z4b h hid;have hb:=VT hm hk ht;have hbl:QR p.procs k+cntL g.body<=(sheetOf p).l.length:=by
  obtain ⟨_,_,_,_,hsp⟩:=QV p;have:=(hsp k g hk).2.2.1;omega
 obtain ⟨it2,h9,h10⟩:=JY hk (k:=(id-1).toNat) (by omega) (by omega);rw [h5] at h9;obtain rfl:=Option.some.inj h9;refine ⟨k,g,it,hk,h10,h8,hw,?_,?_⟩
 ·cases ho:(YL p id).2.2 with
  | true=>rfl
  | false =>
    exfalso;unfold YL at ho;cases hr:q7n p id with
    | some y=>rw [hr] at ho;cases ho
    | none =>
      unfold q7n at hr;have h11:=List.findSome?_eq_none_iff.1 hr f (List.mem_of_getElem? hj);unfold x2e at h11;rw [Option.map_eq_none_iff,List.find?_eq_none] at h11;rw [BX hm (List.mem_of_getElem? hj)] at h11;exact h11 x hx (by rw [hxs,h8];simp)
 ·unfold x9l;rw [h,h5,decide_eq_true h1,decide_eq_true h2];rfl
theorem x4w {p:Pg} {n:Str} {w:Way} (h:NA p n=some w):ofR p n=w.real:=by
 unfold ofR;rw [h]
theorem z5j {p:Pg} {n:Str} (h:NA p n=none):ofR p n=[]:=by
 unfold ofR;rw [h]
theorem z6m {p:Pg} (h:XS p=true) {j:Nat} {f:Pr} (hj:p.procs[j]? = some f) {y:Int}:y∈q7w (QL p j f)↔0<y∧Rch (wR p j f) 0 y:=by
 have hn:(QL p j f).n=(cntL f.body+2:Nat):=rfl;have hpl : ∀ i:Nat,1<=i->i<=cntL f.body->YU p j (cntL f.body+2:Nat) i=QR p.procs j+i:=fun i h1 h2=>by
  unfold YU loI;rw [if_neg (by omega),if_neg (by omega)];omega
 have hix : ∀ i:Nat,1<=i->i<=cntL f.body->(ixI p j f (QR p.procs j+i)).toNat=i:=fun i h1 h2=>by
  unfold ixI KB loI hiI
  (repeat' split)<;>omega
 unfold q7w;rw [List.mem_map];constructor
 ·rintro ⟨i,hi,rfl⟩;obtain ⟨h1,h2⟩:=List.mem_filter.1 hi;rw [hn] at h1;have h3:=List.mem_range'_1.1 h1;have e1:=hpl i (by omega) (by omega);have e2:=hix i (by omega) (by omega);show 0<YU p j (cntL f.body+2:Nat) i∧Rch (wR p j f) 0 (YU p j (cntL f.body+2:Nat) i);rw [e1];refine ⟨by omega,(x5v h hj (.inr (.inr ⟨by omega,by omega⟩))).1 ?_⟩;rw [e2];exact h2
 ·rintro ⟨h0,h1⟩;have hp:plP p j f y:=by
   cases h1 with
   | refl=>exact .inl rfl
   | tail _ h2 =>
     obtain ⟨t,ht,_,rfl⟩:=h2;exact (DU h hj t ht).2
  have h2:=(x5v h hj hp).2 h1;rcases hp with hp|hp|⟨h3,h4⟩
  ·omega
  ·omega
  obtain ⟨i,hi⟩ : ∃ i:Nat,y=QR p.procs j+i:=⟨(y-QR p.procs j).toNat,by omega⟩;subst hi;rw [hix i (by omega) (by omega)] at h2;refine ⟨i,List.mem_filter.2 ⟨List.mem_range'_1.2 ⟨by omega,?_⟩,h2⟩,hpl i (by omega) (by omega)⟩;rw [hn];omega
theorem z5n {p:Pg} {j:Nat} {f:Pr}:(q7w (QL p j f)).Pairwise ordP:=by
 have hn:(QL p j f).n=(cntL f.body+2:Nat):=rfl;unfold q7w;rw [List.pairwise_map];have h1:((List.range' 1 ((QL p j f).n-2).toNat).filter fun i=>(QL p j f).live.getD i false).Pairwise fun a b=>a<b:=List.Pairwise.sublist List.filter_sublist List.pairwise_lt_range';refine h1.imp_of_mem fun {a b} ha hb hab => ?_;have h2:=List.mem_range'_1.1 (List.mem_filter.1 ha).1;have h3:=List.mem_range'_1.1 (List.mem_filter.1 hb).1;rw [hn] at h2 h3;rw [z3e];right;show YU p j (cntL f.body+2:Nat) a ≠ -1∧YU p j (cntL f.body+2:Nat) b ≠ -1∧YU p j (cntL f.body+2:Nat) a<YU p j (cntL f.body+2:Nat) b;unfold YU loI
 (repeat' split)<;>omega
theorem z5x (p:Pg) (n:Str):(FL p n).Pairwise ordP ∧ ∀ y,y∈FL p n↔0<y∧Rch (stR (ofR p n)) 0 y:=by
 cases hw:NA p n with
 | none =>
   have e:FL p n=[]:=by unfold FL;rw [hw]
   rw [e,z5j hw];refine ⟨.nil,fun y=>⟨fun h=>(by cases h),fun ⟨h0,h1⟩ => ?_⟩⟩;cases h1 with
   | refl=>omega
   | tail _ h2=>obtain ⟨t,ht,_⟩:=h2;cases ht
 | some w =>
   obtain ⟨k,f,hk,rfl,hc,_⟩:=BE hw;have e:FL p n=q7w (QL p k f):=by unfold FL;rw [hw]
   rw [e,x4w hw];exact ⟨z5n,fun y=>z6m hc hk⟩
section
variable {p:Pg} {j:Nat} {f:Pr}
end
section
variable {p:Pg} {j:Nat} {f:Pr}
theorem w2j {x:RI} (hx:x∈flatU f):x.s∈flL f.body:=by
 rw [<- show (flatU f).map RI.s=flL f.body from q9g 1 0 false f.body];exact List.mem_map.2 ⟨x,hx,rfl⟩
end
theorem w1v {p:Pg} (h:Fit p) {f:Pr} (hf:f∈p.procs) : ∀ t∈flL f.body,okC t:=fun t ht=>by
 have h1:=h.pr hf;unfold wPr at h1;have h2:=x0x _ _ ht;have h3:=x6a t;have h4:=HW t.labels;have h5:=GC t.args;refine ⟨by omega,by omega,by omega,fun a ha => ?_⟩;have key : ∀ (l:List Arg),a∈l->wX a.x<=q2z l:=fun l=>by
  induction l with
  | nil=>intro h;cases h
  | cons b r ih =>
    intro h;rw [q2z];rcases List.mem_cons.1 h with rfl|h
    ·omega
    ·have:=ih h;omega
 have:=key _ ha;omega
theorem z8h {p:Pg} (h:Fit p) (hc:XS p=true):p.procs.length<=1000∧p.globals.length<=1000000 ∧ ∀ f∈p.procs,f.vars.length<=1000000∧f.fin.length<=1000000∧f.params.length<=1000000∧cntL f.body<=1000000 ∧ ∀ t∈flL f.body,okC t:=by
 obtain ⟨h1,h2,h3⟩:=VY hc;refine ⟨by omega,by omega,fun f hf => ?_⟩;have h4:=h.pr hf;unfold wPr at h4;have h5:=HW f.vars;have h6:=HW f.fin;have h7:=x4x f.params;have h8:=q8d f.body;exact ⟨by omega,by omega,by omega,by omega,w1v h hf⟩
def prA (p:Pg) (i:Nat):Pr:=p.procs.getD i Pr0
theorem z7m {p:Pg} {i:Nat} (h:i<p.procs.length):p.procs[i]? = some (prA p i):=by
 unfold prA;rw [getD_eq_getElem?_getD,List.getElem?_eq_getElem h];rfl
theorem q3y {p:Pg} {i:Nat} {f:Pr} (h:p.procs[i]? = some f):prA p i=f:=by
 unfold prA;rw [getD_eq_getElem?_getD,h];rfl
theorem x7v {p:Pg} (h:XS p=true) (i:Nat):(prA p i).params.length<=8:=by
 rcases Nat.lt_or_ge i p.procs.length with h1|h1
 ·exact (KA.1 (z0u (QY h).1 (List.mem_of_getElem? (z7m h1)))).1
 ·unfold prA;rw [getD_eq_getElem?_getD,List.getElem?_eq_none h1];decide
theorem x4m {p:Pg} (h:XS p=true) {t:S} (ht:t∈WA p) (h4:t.kind=4) : ∃ k,k<p.procs.length∧caI p t=(k:Nat)∧caP p t=prA p k∧(prA p k).name=t.proc∧(prA p k).params.map Param.ref=t.args.map Arg.ref:=by
 obtain ⟨_,hs,ha,_⟩:=QY h;have hf:=(q2w hs).1 ha t ht h4;unfold KR at hf;rw [Bool.and_eq_true] at hf;have hf2:=hf.2;cases hq:p.procs.find? (fun f=>f.name==t.proc) with
 | none=>rw [hq] at hf2;cases hf2
 | some f =>
   rw [hq] at hf2;have hn:t.proc∈procsN p:=List.mem_map.2 ⟨f,List.mem_of_find?_eq_some hq,by simpa using List.find?_some hq⟩;obtain ⟨k,hk,h1,_,h3,h5⟩:=LC hn;rw [hq] at h3;have hkf:p.procs[k]=f:=(Option.some.inj h3).symm;have hp:prA p k=f:=by rw [<- hkf];exact q3y (List.getElem?_eq_getElem hk)
   have hci:caI p t=(k:Nat):=h1;refine ⟨k,hk,hci,?_,?_,?_⟩
   ·unfold caP;rw [hci];rfl
   ·rw [hp,<- hkf];exact h5
   ·rw [hp];unfold x7f at hf2;exact of_decide_eq_true hf2
section
variable (p:Pg) (i:Nat) (f:Pr) (D U:List (List Str)) (o:List Str) (x:Str)
end
section
variable {p:Pg} {i:Nat} {f:Pr} {D U:List (List Str)} {o:List Str} {x:Str}
variable {n:Nat} {seen:List Bool} {todo:List Int} {a:Int}
end
theorem z5r {p:Pg} {f:Pr} {n:Str} (h:ME p f n≠0):n∈p.globals∨n∈NB f:=by
 unfold ME at h;unfold NB;cases hq:f.params.find? (fun a=>a.name==n) with
 | some a =>
   refine .inr (List.mem_append_left _ (List.mem_map.2 ⟨a,List.mem_of_find?_eq_some hq,by simpa using List.find?_some hq⟩))
 | none =>
   rw [hq] at h;cases hv:f.vars.any (fun s=>n==s) with
   | true =>
     obtain ⟨s,h1,h2⟩:=List.any_eq_true.1 hv;exact .inr (List.mem_append_right _ (by rw [eq_of_beq h2];exact h1))
   | false =>
     cases hg:p.globals.any (fun s=>n==s) with
     | true =>
       obtain ⟨s,h1,h2⟩:=List.any_eq_true.1 hg;exact .inl (by rw [eq_of_beq h2];exact h1)
     | false=>exact absurd (by simp only [hv,hg];rfl) h
section
variable {p:Pg} {j:Nat} {f:Pr}
end
end Go.Ab
