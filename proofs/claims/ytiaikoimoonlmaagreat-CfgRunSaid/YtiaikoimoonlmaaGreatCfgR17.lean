/- A row of the call's own that a struct holds: laid by with it. -/
import Derived.Test.YtiaikoimoonlmaaGreatCfgR9
import Derived.Test.YtiaikoimoonlmaaGreatCfgR10
import Derived.Test.YtiaikoimoonlmaaGreatCfgR13
import Derived.Test.YtiaikoimoonlmaaGreatCfgR15
import Derived.Test.YtiaikoimoonlmaaGreatCfgR16
set_option linter.unusedSimpArgs false
set_option linter.unusedVariables false
set_option maxRecDepth 100000
set_option maxHeartbeats 16000000
open List (append_nil length_append length_cons length_map length_take map_cons mem_cons mem_cons_of_mem mem_cons_self take_add_one take_of_length_le)
open Nat (beq zero_le)
namespace Go.Ab
open Go.Proofs
def x6h (k t:Nat) (cs:List AV):List (Nat×LV)->(List (Nat×LV)->Prop)->Prop
 | [],K=>K []
 | (j,l)::r,K=>bif beq j t then x6h k t cs r fun r=>K ((j,.p (.agg cs))::r) else VN (l.kill k) fun l=>x6h k t cs r fun r=>K ((j,l)::r)
theorem BB {k t:Nat} {cs:List AV} : ∀ {sl:List (Nat×LV)} {K:List (Nat×LV)->Prop},x6h k t cs sl K -> ∃ sl',K sl' ∧ ∀ i,getS sl' i=(getS sl i).kill k∨(i=t∧getS sl' i = .p (.agg cs))
 | [],_,h=>⟨[],h,fun _ => .inl rfl⟩
 | (j,l)::r,K,h=>by
   unfold x6h at h;cases hb:beq j t with
   | true =>
     rw [hb,cond_true] at h;have hj:j=t:=Nat.eq_of_beq_eq_true hb;obtain ⟨sl',hK,hs⟩:=BB h;refine ⟨_,hK,fun i => ?_⟩;simp only [getS];cases hi:j==i with
     | true=>exact .inr ⟨by rw [<- hj];exact (by simpa using hi:j=i).symm,rfl⟩
     | false=>exact hs i
   | false =>
     rw [hb,cond_false,XW] at h;obtain ⟨sl',hK,hs⟩:=BB h;refine ⟨_,hK,fun i => ?_⟩;simp only [getS];cases hi:j==i with
     | true=>exact .inl rfl
     | false=>exact hs i
theorem z1c {N:Nat} {s:St} {k:Nat} {e:TypeId} {sz:Nat} {es:List AV} {t:Nat} {ls:List LV} {cs:List AV} (hg:getH s.H k=some (.own e sz es)) (ht:getS s.sl t = .agg ls) (hln:ls.length=cs.length)
  (hcs : ∀ (j:Nat) (l:LV) (c:AV),ls[j]? = some l->cs[j]? = some c->(∃ a,l = .p a∧Sub a c)∨(∃ n,l = .hd k 0 n∧n=es.length∧c = .sl es)) {K:St->Prop} (h:x6h k t cs s.sl fun sl=>GT k s.H fun H=>K ⟨sl,H⟩) : ∃ s',K s'∧Le N s s':=by
 obtain ⟨sl,h,hsl⟩:=BB h;obtain ⟨H,h,hsub,hH⟩:=GN h;have agg : ∀ {σ τ:Mem} {β:Lab} {v:Value},σ.le τ->RepL σ β (.agg ls) v->(∀ v,RepL σ β (.hd k 0 es.length) v->Rep τ (.sl es) v)->Rep τ (.agg cs) v:=fun {σ τ β v} hle hv hrow=>by
  cases hv with
  | agg _ vs u hn hc hrr =>
    refine Rep.agg cs vs u (by rw [hn,hln]) (fun j c hj => ?_) fun j c hj => ?_
    ·have hlt:j<ls.length:=by rw [hln];exact (List.getElem?_eq_some_iff.1 hj).1
     exact hc j _ (List.getElem?_eq_getElem hlt)
    ·have hlt:j<ls.length:=by rw [hln];exact (List.getElem?_eq_some_iff.1 hj).1
     have h1:=hrr j _ (List.getElem?_eq_getElem hlt);rcases hcs j _ c (List.getElem?_eq_getElem hlt) hj with ⟨a,h2,h3⟩|⟨n,h2,rfl,rfl⟩
     ·rw [h2] at h1;cases h1 with
      | p hp=>exact h3 _ _ (hp.mono hle)
     ·rw [h2] at h1;exact hrow _ h1
 refine ⟨_,h,fun σ β a w hr => ?_⟩;rcases ZE.1 (hr.heap.chunks k _ (QV hg)) with ⟨hb0,rfl⟩|⟨i,vs,hi,hisz,hh,hn,hle',hmax,hE⟩
 ·refine ⟨σ,β,⟨hr.size,hr.defers,fun j => ?_,⟨hr.heap.mem,fun j c' hj => ?_,hsub.nodup hr.heap.nodup,fun j hj=>hr.heap.apart j (hsub.subset hj),fun j hj j' hj'=>hr.heap.inj j (hsub.subset hj) j' (hsub.subset hj')⟩⟩,Mem.le_refl σ,Frm.refl _ _,fun _ h0 h1=>absurd h0 h1,fun b ⟨j,hj,r⟩ => .inl ⟨j,hsub.subset hj,r⟩,fun _ _ _=>rfl⟩
  ·show RepL σ β (getS sl j) _;have hv:=hr.slots j;rcases hsl j with he|⟨rfl,h2⟩
   ·rw [he];exact hv.kill k
   ·rw [h2];rw [ht] at hv;refine .p (agg (Mem.le_refl σ) hv fun v hv => ?_);rcases hv.hdI with ⟨_,_,_,he⟩|⟨i,_,hk,_⟩
    ·rw [he];exact .nilsl
    ·rw [hb0] at hk;cases hk
  ·obtain ⟨_,c,h2,rfl⟩:=hH j c' hj;exact (hr.heap.chunks j c h2).kill k
 ·refine hr.lay hi (QA hg) hh (fun τ hle hτ j v hv => ?_) (fun τ hle hτ j c' hj => ?_) (hsub.nodup hr.heap.nodup)
  ·show RepL τ β (getS sl j) v;rcases hsl j with he|⟨rfl,h2⟩
   ·rw [he];exact (hv.kill k).mono hle
   ·rw [h2];rw [ht] at hv;refine .p (agg hle hv fun v hv => ?_);rcases hv.hdI with ⟨hk,_⟩|⟨i',oo,hk,hl,ho,rfl⟩
    ·rw [hi] at hk;cases hk
    ·rw [hi] at hk;cases hk;have hoo:oo=0:=by
      rcases ho with ho|ho
      ·simpa using ho
      ·omega
     subst hoo;obtain ⟨u,hu⟩ : ∃ u:Nat->Nat->Value,∀ (m:Nat) (x:AV) (j:Nat) (c:AV),es[m]? = some x->x.cells[j]? = some c->vs[m*sz+j]? = some (u m j)∧Rep σ c (u m j):=by
      refine ⟨fun m j=>(vs[m*sz+j]?).getD undef,fun m x j c hx hj => ?_⟩;obtain ⟨v,h1,h2⟩:=hE.rep m x j c hx hj;rw [List.getElem?_take] at h1;split at h1
      ·have h1':vs[m*sz+j]? = some v:=by simpa using h1
       exact ⟨by simp [h1'],by simpa [h1'] using h2⟩
      ·cases h1
     exact .sl es i.blk 0 _ sz vs u hτ (by omega) (by omega) hE.size (fun m x j c hx hj=>by simpa using (hu m x j c hx hj).1) fun m x j c hx hj=>(hu m x j c hx hj).2.mono hle
  ·obtain ⟨h1,c,h2,rfl⟩:=hH j c' hj;exact ⟨h1,c,h2,fun hold=>(hold.kill k).mono hle fun _ _ _ _=>rfl⟩
theorem x7y {P:Program} {T:Tab} {N:Nat} {o:Oper} {K:St->Prop} {s:St} (hT:TabOK P T) {k:Nat} {e:TypeId} {sz:Nat} {es:List AV} (t:Nat) {ls:List LV} (cs:List AV) (hg:getH s.H k=some (.own e sz es)) (ht:getS s.sl t = .agg ls) (hln:ls.length=cs.length)
  (hcs : ∀ (j:Nat) (l:LV) (c:AV),ls[j]? = some l->cs[j]? = some c->(∃ a,l = .p a∧Sub a c)∨(∃ n,l = .hd k 0 n∧n=es.length∧c = .sl es)) (h:x6h k t cs s.sl fun sl=>GT k s.H fun H=>opW P T N ⟨sl,H⟩ o K):OpK P N s o K:=⟨fun σ β a w hr Q=>by
 obtain ⟨s1,h1,hle⟩:=z1c (N:=N) hg ht hln hcs (K:=fun s'=>opW P T N s' o K) h;obtain ⟨σ1,β1,hr1,hl1⟩:=hle σ β a w hr;exact Oper.wp_mono (fun a' w' ⟨σ',β',s2,hK,hr',hl⟩=>⟨σ',β',s2,hK,hr',hl1.trans hl⟩) (q0z hT h1 hr1 Q)⟩
theorem VF : ∀ (k:Nat) (x:X) (_:wX x<k) (_:k<=20002),SpecP Tryz.prog 229 [.agg x.cells] (fun r=>r = .agg x.cells):=by
 intro k;induction k with
 | zero=>intro x h;omega
 | succ k ih =>
   intro x hx hk;have hxe:wX x=1+wXs x.kids:=by cases x;rw [wX];rfl
   have hkl:=X.avs_len x.kids;have hkn:=x7n x.kids;refine sB JD Tryz.func229 rfl Tryz.call229 ?_;conv=>whnf
   repeat' ((first|(refine iM fun _=>?_)|refine And.intro rfl ?_);conv=>whnf)
   all_goals
    refine LoopK.inv QU (fun j:Nat=>⟨[(1,.p (.ip x.cells)),(2,.ptr 1 0),(3,.ptr 0 0),(14,.p (.int .i64 (X.avs x.kids).length)),(15,.p (.int .i64 j))],[(0,.obj 36 [.p (.int .i64 x.op),.p (.int .i64 x.n),.p (.str (x.name)),.hd 2 0 j]),(1,.obj 36 [.p (.int .i64 0),.p (.int .i64 0),.p (.str []),.p .nils]),(2,.own 36 4 (X.avs (x.kids.take j)))]⟩) (fun j=>j<=x.kids.length) (fun j=>x.kids.length-j) 0
     (Le.mk [(2,.own 36 4 [])] (by simp [Chunk.new0];rfl) (by simp) (by simp) (.cons (.refl _) (.cons (.refl _) (.cons (.refl _) (.cons (.refl _) (.cons (.refl _) .nil))))) (.cons rfl (.obj (.cons (.refl _) (.cons (.refl _) (.cons (.refl _) (.cons (.nil mem_cons_self) .nil))))) (.cons rfl (.refl _) (.new mem_cons_self .nil)))) (zero_le _) ?_
    intro j h2;rcases Nat.lt_or_ge j x.kids.length with hj|hj
    ·have hkw:=z6v (List.getElem_mem hj);have hih:=ih x.kids[j] (by omega) (by omega);have htk:X.avs (x.kids.take (j+1))=X.avs (x.kids.take j)++[.agg (x.kids[j]).cells]:=by
      rw [X.avs_eq,X.avs_eq,List.take_succ_eq_append_getElem hj,List.map_append];rfl
     have hal:(X.avs (x.kids.take j)).length=j:=by rw [X.avs_len,length_take];omega
     generalize X.avs (x.kids.take j)=acc at htk hal ⊢;conv=>whnf
     repeat' (first|((first|refine dA ?_|refine And.intro rfl ?_|refine aD ?_|refine bP ?_|refine IdxK.xs (by omega) ?_|refine wI ?_|refine cP hih ?_|refine AppK.mk hal.symm rfl (by show (j+1)*56<=140737488355328;omega) (by show j+1<=9223372036854775807;omega) (fun x hx=>by rcases List.mem_singleton.1 hx with rfl;exact ⟨rfl,rfl⟩) ?_);conv=>whnf)|(apply bD<;>intro _<;>first|omega|conv=>whnf)|(refine And.intro ?_ ?_<;>conv=>whnf))
     all_goals exact ⟨j+1,hj,by omega,Le.of_eq (by rw [htk];rfl)⟩
    ·have hall:X.avs (x.kids.take j)=X.avs x.kids:=by rw [take_of_length_le hj]
     have hal:(X.avs (x.kids.take j)).length=j:=by rw [X.avs_len,length_take];omega
     conv=>whnf
     repeat' (first|(refine And.intro rfl ?_;conv=>whnf)|(apply bD<;>intro _<;>first|omega|conv=>whnf))
     refine ⟨_,.agg (cs:=x.cells) rfl fun i l c h1 h3 => ?_,rfl⟩
     match i,h1,h3 with
     | 0,h1,h3=>cases h1;cases h3;exact .p (Sub.refl _)
     | 1,h1,h3=>cases h1;cases h3;exact .p (Sub.refl _)
     | 2,h1,h3=>cases h1;cases h3;exact .p (Sub.refl _)
     | 3,h1,h3 =>
       cases h1;cases h3;show Frz _ _ (.sl (X.avs x.kids));rw [<- hall];exact .hd rfl hal.symm
     | i+4,h1,h3=>simp at h1
def w3n (s:S):S := .mk s.id s.kind s.labels s.name s.proc s.x s.has s.args [] []
theorem ZL (s:S) (hx:wX s.x<=20000) (hl:s.labels.length<=1000000) (ha:s.args.length<=1000000) (hax : ∀ a∈s.args,wX a.x<=20000):SpecP Tryz.prog 150 [.agg s.cells] (fun r=>r = .agg (w3n s).cells):=by
 refine sB JC Tryz.func150 rfl Tryz.call150 ?_;conv=>whnf
 have hal:(s.args.map fun a=>AV.agg a.cells).length=s.args.length:=length_map _;have hC:=VF 20001 s.x (by omega) (by omega);repeat' (first|((first|(refine iM fun _=>?_)|refine dA ?_|refine And.intro rfl ?_|refine cP hC ?_|refine cP (QI s.labels hl) ?_);conv=>whnf)|(refine And.intro ?_ ?_<;>conv=>whnf))
 all_goals
  refine LoopK.inv QU (fun j:Nat=>⟨[(2,.ptr 1 0),(3,.ptr 0 0),(24,.p (z0b s.args)),(25,.p (.int .i64 (s.args.map fun a=>AV.agg a.cells).length)),(26,.p (.int .i64 j))],[(0,.obj 40 [.p (.int .i64 s.id),.p (.int .i64 s.kind),.p (QF s.labels),.p (.str s.name),.p (.str s.proc),.p (.int .i64 s.x.op),.p (.int .i64 s.x.n),.p (.str s.x.name),.p (.sl (X.avs s.x.kids)),.p (.bool s.has),.hd 2 0 j,.p .nils,.p .nils]),(1,.obj 40 [.p (.int .i64 0),.p (.int .i64 0),.p .nils,.p (.str []),.p (.str []),.p (.int .i64 0),.p (.int .i64 0),.p (.str []),.p .nils,.p .ff,.p .nils,.p .nils,.p .nils]),(2,.own 126 6 ((s.args.take j).map fun a => .agg a.cells))]⟩) (fun j=>j<=s.args.length) (fun j=>s.args.length-j) 0
   (Le.mk [(2,.own 126 6 [])] (by simp [Chunk.new0];rfl) (by simp) (by simp) (.cons (.refl _) (.cons (.refl _) (.cons (.refl _) (.cons (.refl _) (.cons (.refl _) .nil))))) (.cons rfl (.obj (.cons (.refl _) (.cons (.refl _) (.cons (.refl _) (.cons (.refl _) (.cons (.refl _) (.cons (.refl _) (.cons (.refl _) (.cons (.refl _) (.cons (.refl _) (.cons (.refl _) (.cons (.nil mem_cons_self) (.cons (.refl _) (.cons (.refl _) .nil)))))))))))))) (.cons rfl (.refl _) (.new mem_cons_self .nil)))) (zero_le _) ?_
  intro j h2;rcases Nat.lt_or_ge j s.args.length with hj|hj
  ·have hax1:=hax _ (List.getElem_mem hj);have hD:=VF 20001 s.args[j].x (by omega) (by omega);have htk:((s.args.take (j+1)).map fun a=>AV.agg a.cells)=((s.args.take j).map fun a=>AV.agg a.cells)++[.agg s.args[j].cells]:=by
    rw [List.take_succ_eq_append_getElem hj,List.map_append];rfl
   have hcl:((s.args.take j).map fun a=>AV.agg a.cells).length=j:=by rw [length_map,length_take];omega
   generalize ((s.args.take j).map fun a=>AV.agg a.cells)=acc at htk hcl ⊢;conv=>whnf
   repeat' (first|((first|refine dA ?_|refine And.intro rfl ?_|refine aD ?_|refine bP ?_|(refine iA fun _=>?_)|refine wI ?_|refine cP hD ?_|refine AppK.mk hcl.symm rfl (by show (j+1)*80<=140737488355328;omega) (by show j+1<=9223372036854775807;omega) (fun x hx=>by rcases List.mem_singleton.1 hx with rfl;exact ⟨rfl,rfl⟩) ?_);conv=>whnf)|(apply bD<;>intro _<;>first|omega|conv=>whnf)|(refine And.intro ?_ ?_<;>conv=>whnf))
   all_goals exact ⟨j+1,hj,by omega,Le.of_eq (by rw [htk];rfl)⟩
  ·have hall:((s.args.take j).map fun a=>AV.agg a.cells)=s.args.map fun a => .agg a.cells:=by rw [take_of_length_le hj]
   have hcl:((s.args.take j).map fun a=>AV.agg a.cells).length=j:=by rw [length_map,length_take];omega
   conv=>whnf
   repeat' (first|(refine And.intro rfl ?_;conv=>whnf)|(apply bD<;>intro _<;>first|omega|conv=>whnf))
   refine ⟨_,.agg (cs:=(w3n s).cells) rfl fun i l c h1 h3 => ?_,rfl⟩
   match i,h1,h3 with
   | 0,h1,h3=>cases h1;cases h3;exact .p (Sub.refl _)
   | 1,h1,h3=>cases h1;cases h3;exact .p (Sub.refl _)
   | 2,h1,h3=>cases h1;cases h3;exact .p (Sub.refl _)
   | 3,h1,h3=>cases h1;cases h3;exact .p (Sub.refl _)
   | 4,h1,h3=>cases h1;cases h3;exact .p (Sub.refl _)
   | 5,h1,h3=>cases h1;cases h3;exact .p (Sub.refl _)
   | 6,h1,h3=>cases h1;cases h3;exact .p (Sub.refl _)
   | 7,h1,h3=>cases h1;cases h3;exact .p (Sub.refl _)
   | 8,h1,h3=>cases h1;cases h3;exact .p (Sub.refl _)
   | 9,h1,h3=>cases h1;cases h3;exact .p (Sub.refl _)
   | 10,h1,h3 =>
     cases h1;cases h3;show Frz _ _ (.sl (s.args.map fun a => .agg a.cells));rw [<- hall];exact .hd rfl hcl.symm
   | 11,h1,h3=>cases h1;cases h3;exact .p Sub.nils
   | 12,h1,h3=>cases h1;cases h3;exact .p Sub.nils
   | i+13,h1,h3=>simp at h1
mutual
def nmS (n:Nat):S->S
 | .mk _ kind labels name proc x has args thn els => .mk ((n+1:Nat):Int) kind labels name proc x has args (nmL (n+1) thn) (nmL (n+1+cntL thn) els)
def nmL (n:Nat):List S->List S
 | []=>[]
 | t::r=>nmS n t::nmL (n+XL t) r
end
theorem q3i (n:Nat) (t:S):nmS n t = .mk ((n+1:Nat):Int) t.kind t.labels t.name t.proc t.x t.has t.args (nmL (n+1) t.thn) (nmL (n+1+cntL t.thn) t.els):=by
 cases t;rw [nmS];rfl
theorem BD (n:Nat) : ∀ l:List S,(nmL n l).length=l.length
 | []=>by rw [nmL]
 | t::r=>by rw [nmL,length_cons,length_cons,BD _ r]
theorem x9x : ∀ (l:List S) (n j:Nat) (h:j<l.length),(nmL n l)[j]? = some (nmS (n+cntL (l.take j)) l[j])
 | t::r,n,0,h=>by rw [nmL];simp [cntL]
 | t::r,n,j+1,h=>by
   rw [nmL,List.getElem?_cons_succ,x9x r (n+XL t) j (by simpa using h),List.take_succ_cons,cntL,Nat.add_assoc];rfl
theorem q7y : ∀ (l:List S) (j:Nat) (h:j<l.length),cntL (l.take (j+1))=cntL (l.take j)+XL l[j]
 | t::r,0,h=>by simp [cntL]
 | t::r,j+1,h=>by
   rw [List.take_succ_cons,List.take_succ_cons,cntL,cntL,q7y r j (by simpa using h),Nat.add_assoc];rfl
theorem MY : ∀ l:List S,l.length<=cntL l
 | []=>by simp
 | t::r=>by
   rw [cntL,length_cons];have:=MY r;have:1<=XL t:=by cases t;rw [XL];omega
   omega
def okC (t:S):Prop:=wX t.x<=20000∧t.labels.length<=1000000∧t.args.length<=1000000 ∧ ∀ a∈t.args,wX a.x<=20000
theorem MG : ∀ {l:List S} {t:S},t∈l->XL t<=cntL l
 | a::r,t,h=>by
   rw [cntL];rcases List.mem_cons.1 h with rfl|h
   ·omega
   ·have:=MG h;omega
theorem KD : ∀ (k:Nat) (l:List S) (_:cntL l<k) (n:Nat) (_:n+cntL l<=1000000) (_ : ∀ t∈flL l,okC t),SpecP Tryz.prog 151 [eSs l,.int .i64 (n:Nat)] (fun r=>r = .tup [eSs (nmL n l),.int .i64 (n+cntL l:Nat)]):=by
 intro k;induction k with
 | zero=>intro l h;omega
 | succ k ih =>
   intro l hk n hn hok;have hsl:(S.avs l).length=l.length:=by rw [S.avs_eq,length_map]
   have hcl:=MY l;refine sB YE Tryz.func151 rfl Tryz.call151 ?_;conv=>whnf
   repeat' (refine iM fun _=>?_;conv=>whnf)
   refine LoopK.inv QU (fun j:Nat=>⟨[(1,.p (.int .i64 (n+cntL (l.take j):Nat))),(6,.hd 0 0 j),(10,.p (eSs l)),(11,.p (.int .i64 (S.avs l).length)),(12,.p (.int .i64 j))],[(0,.own 40 13 (S.avs ((nmL n l).take j)))]⟩) (fun j=>j<=l.length) (fun j=>l.length-j) 0
    (Le.mk [(0,.own 40 13 [])] (by simp [Chunk.new0];rfl) (by simp) (by simp) (.cons (.of_eq (by simp [cntL];rfl)) (.cons (.nil mem_cons_self) (.cons (.refl _) (.cons (.refl _) (.cons (.refl _) .nil))))) (.new mem_cons_self .nil)) (zero_le _) ?_
   intro j h2;rcases Nat.lt_or_ge j l.length with hj|hj
   ·have htk:=q7y l j hj;have htm:=MG (List.getElem_mem hj);have hcs:=ZO l[j];have hget:=x9x l n j hj;have hlb:cntL (l.take (j+1))<=cntL l:=by
     conv=>rhs;rw [<- List.take_append_drop (j+1) l]
     have : ∀ a b:List S,cntL (a++b)=cntL a+cntL b:=fun a b=>by
      induction a with
      | nil=>simp [cntL]
      | cons x r ih=>rw [List.cons_append,cntL,cntL,ih,Nat.add_assoc]
     rw [this];omega
    have hself:=hok _ (GG l _ (List.getElem_mem hj));have hsub : ∀ t,t∈flL l[j].thn∨t∈flL l[j].els->okC t:=fun t ht=>hok t (by
     have:t∈flS l[j]:=by
      rw [q3u];exact mem_cons_of_mem _ (List.mem_append.2 ht)
     have key : ∀ (m:List S) (i:Nat) (h:i<m.length),t∈flS m[i]->t∈flL m:=fun m=>by
      induction m with
      | nil=>intro i h;simp at h
      | cons a r ih =>
        intro i h ht;rw [flL];cases i with
        | zero=>exact List.mem_append.2 (.inl ht)
        | succ i=>exact List.mem_append.2 (.inr (ih i (by simpa using h) ht))
     exact key l j hj this)
    have h5:=ZL l[j] hself.1 hself.2.1 hself.2.2.1 hself.2.2.2;have h6:=ih l[j].thn (by omega) (n+cntL (l.take j)+1) (by omega) fun t ht=>hsub t (.inl ht);have h7:=ih l[j].els (by omega) (n+cntL (l.take j)+1+cntL l[j].thn) (by omega) fun t ht=>hsub t (.inr ht);have hacl:j=(S.avs ((nmL n l).take j)).length:=by rw [S.avs_eq,length_map,length_take,BD];omega
    have hav:S.avs ((nmL n l).take (j+1))=S.avs ((nmL n l).take j)++[.agg (nmS (n+cntL (l.take j)) l[j]).cells]:=by
     rw [S.avs_eq,S.avs_eq,take_add_one,hget,List.map_append];rfl
    conv=>whnf
    repeat' (first|((first|refine And.intro rfl ?_|refine aD ?_|refine bP ?_|refine QM (by omega) ?_|refine wI ?_|refine cP h5 ?_|(refine CallK.pure h6 (.cons (Sub.refl _) (.cons (Sub.int (by omega)) .nil)) ?_;rintro _ rfl)|(refine CallK.pure h7 (.cons (Sub.refl _) (.cons (Sub.int (by omega)) .nil)) ?_;rintro _ rfl)|refine AppK.mk hacl rfl (by show (j+1)*208<=140737488355328;omega) (by show j+1<=9223372036854775807;omega) (fun x hx=>by rcases List.mem_singleton.1 hx with rfl;exact ⟨rfl,rfl⟩) ?_);conv=>whnf)|(apply bD<;>intro _<;>first|omega|conv=>whnf))
    exact ⟨j+1,hj,by omega,Le.mk [] (by simp) (by simp) (by simp) (.cons (.of_eq (by rw [htk,hcs,show n+(cntL (l.take j)+(1+cntL l[j].thn+cntL l[j].els))=n+cntL (l.take j)+1+cntL l[j].thn+cntL l[j].els by omega];rfl)) (.cons (.refl _) (.cons (.refl _) (.cons (.refl _) (.cons (.refl _) .nil))))) (.cons rfl (.of_eq (by rw [hav,q3i];rfl)) .nil)⟩
   ·have hall:(nmL n l).take j=nmL n l:=take_of_length_le (by rw [BD];exact hj);have hall2:l.take j=l:=take_of_length_le hj;have hjl:j=(S.avs (nmL n l)).length:=by rw [S.avs_eq,length_map,BD];omega
    rw [hall,hall2];conv=>whnf
    repeat' (apply bD<;>intro _<;>first|omega|conv=>whnf)
    refine ⟨_,.tup (cs:=[eSs (nmL n l),.int .i64 (n+cntL l:Nat)]) rfl fun i l' c h1 h3 => ?_,rfl⟩
    match i,h1,h3 with
    | 0,h1,h3=>cases h1;cases h3;exact .hd rfl hjl
    | 1,h1,h3=>cases h1;cases h3;exact .p (Sub.refl _)
    | i+2,h1,h3=>simp at h1
def ElS (es es':List AV):Prop:=es'.length=es.length ∧ ∀ (m:Nat) (x':AV),es'[m]? = some x' -> ∃ x,es[m]? = some x∧x'.cells.length=x.cells.length ∧ ∀ (j:Nat) (c':AV),x'.cells[j]? = some c' -> ∃ c,x.cells[j]? = some c∧Sub c c'
theorem ElS.refl (es:List AV):ElS es es:=⟨rfl,fun _ x' h=>⟨x',h,rfl,fun _ c' hc=>⟨c',hc,Sub.refl _⟩⟩⟩
theorem GM {es es':List AV} (h:ElS es es') {x x':AV} (hl:x'.cells.length=x.cells.length) (hc : ∀ (j:Nat) (c':AV),x'.cells[j]? = some c' -> ∃ c,x.cells[j]? = some c∧Sub c c'):ElS (es++[x]) (es'++[x']):=by
 refine ⟨by simp [h.1],fun m y hy => ?_⟩;rcases Nat.lt_or_ge m es'.length with hm|hm
 ·rw [List.getElem?_append_left hm] at hy;obtain ⟨z,h1,h2⟩:=h.2 m y hy;exact ⟨z,by rw [List.getElem?_append_left (by rw [<- h.1];exact hm)];exact h1,h2⟩
 ·rw [List.getElem?_append_right hm] at hy;have hm0:m-es'.length=0:=by
   have:=(List.getElem?_eq_some_iff.1 hy).1;simp at this;omega
  rw [hm0] at hy;cases hy;exact ⟨x,by rw [List.getElem?_append_right (by rw [<- h.1];exact hm),<- h.1,hm0];rfl,hl,hc⟩
inductive SubH:Heap->Heap->Prop
 | nil:SubH [] []
 | same {c:Nat×Chunk} {H H':Heap} (h:SubH H H'):SubH (c::H) (c::H')
 | els {k:Nat} {e:TypeId} {sz:Nat} {es es':List AV} {H H':Heap} (hp:ElS es es') (h:SubH H H'):SubH ((k,.own e sz es)::H) ((k,.own e sz es')::H')
theorem SubH.get {H H':Heap} (h:SubH H H'):H'.map (·.1)=H.map (·.1) ∧ ∀ j c',(j,c')∈H'->(j,c')∈H ∨ ∃ e sz es es',(j,Chunk.own e sz es)∈H∧c' = .own e sz es'∧ElS es es':=by
 induction h with
 | nil=>exact ⟨rfl,by simp⟩
 | same h ih =>
   refine ⟨by simp [ih.1],fun j c' hj => ?_⟩;rcases List.mem_cons.1 hj with rfl|hj
   ·exact .inl mem_cons_self
   ·rcases ih.2 j c' hj with h1|⟨e,sz,es,es',h1,h2⟩
    ·exact .inl (mem_cons_of_mem _ h1)
    ·exact .inr ⟨e,sz,es,es',mem_cons_of_mem _ h1,h2⟩
 | @els k e sz es es' H H' hp h ih =>
   refine ⟨by simp [ih.1],fun j c' hj => ?_⟩;rcases List.mem_cons.1 hj with hj|hj
   ·cases hj;exact .inr ⟨e,sz,es,es',mem_cons_self,rfl,hp⟩
   ·rcases ih.2 j c' hj with h1|⟨e,sz,es,es',h1,h2⟩
    ·exact .inl (mem_cons_of_mem _ h1)
    ·exact .inr ⟨e,sz,es,es',mem_cons_of_mem _ h1,h2⟩
theorem Le.els {N:Nat} {sl:List (Nat×LV)} {H H':Heap} (h:SubH H H'):Le N ⟨sl,H⟩ ⟨sl,H'⟩:=fun σ β a w hr=>by
 obtain ⟨hk,hc⟩:=h.get;refine ⟨σ,β,⟨hr.size,hr.defers,hr.slots,⟨hr.heap.mem,fun j c' hj => ?_,by show (H'.map (·.1)).Nodup;rw [hk];exact hr.heap.nodup,fun j hj=>hr.heap.apart j (by rw [<- hk];exact hj),fun j hj j' hj'=>hr.heap.inj j (by rw [<- hk];exact hj) j' (by rw [<- hk];exact hj')⟩⟩,Mem.le_refl σ,Frm.refl _ w,fun b h0 h1=>absurd h0 h1,fun b ⟨j,hj,r⟩ => .inl ⟨j,by rw [<- hk];exact hj,r⟩,fun _ _ _=>rfl⟩;rcases hc j c' hj with h1|⟨e,sz,es,es',h1,rfl,h2⟩
 ·exact hr.heap.chunks j c' h1
 ·rcases hr.heap.chunks j _ h1 with ⟨h3,h4⟩|⟨i,vs,h3,h4,h5,h6,h7,h8,h9⟩
  ·refine .inl ⟨h3,?_⟩;have:=h2.1;rw [h4] at this;exact List.eq_nil_of_length_eq_zero this
  ·refine .inr ⟨i,vs,h3,h4,h5,h6,by rw [h2.1];exact h7,h8,fun m x' hx => ?_⟩;obtain ⟨x,g1,g2,g3⟩:=h2.2 m x' hx;refine ⟨by rw [g2];exact (h9 m x g1).1,fun j c' hc => ?_⟩;obtain ⟨c,g4,g5⟩:=g3 j c' hc;obtain ⟨u,g6,g7⟩:=(h9 m x g1).2 j c g4;exact ⟨u,g6,g5 _ _ g7⟩
theorem x3y {p:Pg} (h:chkB p=true) {j:Nat} {f:Pr} (hj:p.procs[j]? = some f) {k:Nat} {it:Item} (h1:QN p.procs j<=k) (h2:k<QN p.procs j+cntL f.body) (hk:(sheetOf p).l[k]? = some it):it.s.id=(k:Int)+1:=by
 obtain ⟨t,_,h4,h5⟩:=x3a h hj (a:=(k:Int)+1) (by omega) (by omega);unfold z5r at h4;rw [show ((k:Int)+1-1).toNat=k by omega,hk] at h4;cases h4;exact h5
theorem z0g {p:Pg} {j:Nat} {f:Pr} {it:Item} (hi:it∈itsOf p j f) {y:Int} (hy:y∈WF (sheetOf p) f it):(⟨it.s.id,y,1⟩:Step)∈QJ p j f:=by
 unfold QJ;exact mem_cons_of_mem _ (List.mem_flatMap.2 ⟨it,hi,List.mem_map.2 ⟨y,hy,rfl⟩⟩)
section
variable {p:Pg} {j:Nat} {f:Pr}
def wR (p:Pg) (j:Nat) (f:Pr):Int->Int->Prop:=stR (newWay p j f).real
end
instance (a b:Step):Decidable (z1o a b):=inferInstanceAs (Decidable (_∨_))
instance:DecidableEq Step:=fun a b=>decidable_of_iff (a.src=b.src∧a.dst=b.dst∧a.kind=b.kind) ⟨fun h=>PN h.1 h.2.1 h.2.2,fun h=>by rw [h];exact ⟨rfl,rfl,rfl⟩⟩
theorem z6b {p:Pg} (h:chkB p=true) {j:Nat} {f:Pr} (hj:p.procs[j]? = some f) {t:S} (ht:t∈flL f.body):z5r p t.id=some t:=by
 have hb:=JU (QD h).1 hj ht;obtain ⟨u,hu,h1,h2⟩:=x3a h hj hb.1 hb.2;obtain ⟨it,hi,rfl⟩:=z9p (p:=p) (j:=j) ht;obtain ⟨iu,hiu,rfl⟩:=z9p (p:=p) (j:=j) hu;rw [z6k (QD h).1 hj hiu hi h2] at h1;exact h1
instance:DecidableEq Param:=fun a b=>decidable_of_iff (a.name=b.name∧a.ref=b.ref) (by cases a;cases b;simp)
def x0a (a b k:Int) (s:Step):Bool:=decide (s.src=a)&&(decide (s.dst=b)&&(decide (k=0)||decide (s.kind=k)))
def x4s (l:List Step) (a b k:Int):Bool:=l.any (x0a a b k)
theorem z3c {l:List Step} {s:Step} (hs:s∈l) {k:Int} (hk:k=0∨s.kind=k):x4s l s.src s.dst k=true:=by
 unfold x4s;rw [List.any_eq_true];refine ⟨s,hs,?_⟩;unfold x0a;rcases hk with hk|hk<;>simp [hk]
theorem US (l:List Step) (a b k:Int):SpecP Tryz.prog 35 [WB l,.int .i64 a,.int .i64 b,.int .i64 k] (fun r=>r = .bool (x4s l a b k)):=by
 refine sB GL Tryz.func35 rfl Tryz.call35 ?_;conv=>whnf
 repeat' (refine iM fun _=>?_;conv=>whnf)
 have hl:(l.map fun s=>AV.agg s.cells).length=l.length:=length_map _;refine LoopK.inv QU (fun j:Nat=>⟨[(1,.p (.int .i64 a)),(2,.p (.int .i64 b)),(3,.p (.int .i64 k)),(11,.p (WB l)),(12,.p (.int .i64 (l.map fun s=>AV.agg s.cells).length)),(13,.p (.int .i64 j))],[]⟩) (fun j=>j<=l.length∧(l.drop j).any (x0a a b k)=x4s l a b k) (fun j=>l.length-j) 0 (Le.of_eq rfl) ⟨zero_le _,rfl⟩ ?_;rintro j ⟨h2,h3⟩;rcases Nat.lt_or_ge j l.length with hj|hj
 ·conv=>whnf
  repeat' (first|((first|refine And.intro rfl ?_|(refine iA fun _=>?_)|refine wI ?_);conv=>whnf)|(apply bD<;>intro _<;>first|omega|conv=>whnf))
  all_goals first
   | (have e:x0a a b k l[j]=true:=by unfold x0a;simp [*];done
      exact RetK.tt (by rw [<- h3,x1g hj e]))
   | (have e:x0a a b k l[j]=false:=by unfold x0a;simp [*];done
      exact ⟨j+1,⟨hj,by rw [q3f hj e];exact h3⟩,by omega,Le.of_eq rfl⟩)
 ·conv=>whnf
  repeat' (apply bD<;>intro _<;>first|omega|conv=>whnf)
  exact RetK.ff (by rw [<- h3,BA hj])
theorem z0a {p:Pg} (h:chkB p=true) {j:Nat} {f:Pr} (hj:p.procs[j]? = some f) {s:Step} (hs:s∈(newWay p j f).real):s.kind=1 :=
 (NW h hj s (((YN h hj).2 s).1 hs)).2
theorem z9s {p:Pg} (h:chkB p=true) {j:Nat} {f:Pr} (hj:p.procs[j]? = some f) {it:Item} (hi:it∈itsOf p j f):(sheetOf p).l[(it.s.id-1).toNat]? = some it:=by
 have hb:=JU (QD h).1 hj (DB hi);obtain ⟨it',h1,h2⟩:=DS hj (k:=(it.s.id-1).toNat) (by omega) (by omega);have h3:=x3y h hj (by omega) (by omega) h1;rw [h1,z6k (QD h).1 hj h2 hi (by omega)]
mutual
def onS (b:Bool):S->S
 | .mk id kind labels name proc x has args thn els=>if kind=4∨(7<=kind∧b=false) then .mk 0 3 (if b then labels else []) [] [] (.mk 1 7 [] []) false [] (onL b thn) (onL b els) else .mk id kind (if b then labels else []) name proc x has args (onL b thn) (onL b els)
def onL (b:Bool):List S->List S
 | []=>[]
 | t::r=>onS b t::onL b r
end
theorem HK (b:Bool) (t:S):onS b t=if t.kind=4∨(7<=t.kind∧b=false) then .mk 0 3 (if b then t.labels else []) [] [] (.mk 1 7 [] []) false [] (onL b t.thn) (onL b t.els) else .mk t.id t.kind (if b then t.labels else []) t.name t.proc t.x t.has t.args (onL b t.thn) (onL b t.els):=by
 cases t;rw [onS];rfl
theorem HH (b:Bool) : ∀ l:List S,onL b l=l.map (onS b)
 | []=>by rw [onL];rfl
 | t::r=>by rw [onL,HH b r];rfl
theorem PF (b:Bool) : ∀ (k:Nat) (l:List S) (_:cntL l<k) (_:cntL l<=1000000) (_ : ∀ t∈flL l,okC t),SpecP Tryz.prog 91 [eSs l,.bool b] (fun r=>r=eSs (onL b l)):=by
 intro k;induction k with
 | zero=>intro l h;omega
 | succ k ih =>
   intro l hk hn hok;have hsl:(S.avs l).length=l.length:=by rw [S.avs_eq,length_map]
   have hcl:=MY l;refine sB HT Tryz.func91 rfl Tryz.call91 ?_;conv=>whnf
   repeat' (refine iM fun _=>?_;conv=>whnf)
   refine LoopK.inv QU (fun j:Nat=>⟨[(1,.p (.bool b)),(5,.hd 0 0 j),(9,.p (eSs l)),(10,.p (.int .i64 (S.avs l).length)),(11,.p (.int .i64 j))],[(0,.own 40 13 (S.avs ((onL b l).take j)))]⟩) (fun j=>j<=l.length) (fun j=>l.length-j) 0
    (Le.mk [(0,.own 40 13 [])] (by simp [Chunk.new0];rfl) (by simp) (by simp) (.cons (.refl _) (.cons (.nil mem_cons_self) (.cons (.refl _) (.cons (.refl _) (.cons (.refl _) .nil))))) (.new mem_cons_self .nil)) (zero_le _) ?_
   intro j h2;rcases Nat.lt_or_ge j l.length with hj|hj
   ·have htm:=MG (List.getElem_mem hj);have hcs:=ZO l[j];have hself:=hok _ (GG l _ (List.getElem_mem hj));have hsub : ∀ t,t∈flL l[j].thn∨t∈flL l[j].els->okC t:=fun t ht=>hok t (by
     have:t∈flS l[j]:=by
      rw [q3u];exact mem_cons_of_mem _ (List.mem_append.2 ht)
     have key : ∀ (m:List S) (i:Nat) (h:i<m.length),t∈flS m[i]->t∈flL m:=fun m=>by
      induction m with
      | nil=>intro i h;simp at h
      | cons a r ih =>
        intro i h ht;rw [flL];cases i with
        | zero=>exact List.mem_append.2 (.inl ht)
        | succ i=>exact List.mem_append.2 (.inr (ih i (by simpa using h) ht))
     exact key l j hj this)
    have h5:=ZL l[j] hself.1 hself.2.1 hself.2.2.1 hself.2.2.2;have h6:=ih l[j].thn (by omega) (by omega) fun t ht=>hsub t (.inl ht);have h7:=ih l[j].els (by omega) (by omega) fun t ht=>hsub t (.inr ht);have hacl:j=(S.avs ((onL b l).take j)).length:=by rw [S.avs_eq,length_map,length_take,HH,length_map];omega
    have hav:S.avs ((onL b l).take (j+1))=S.avs ((onL b l).take j)++[.agg (onS b l[j]).cells]:=by
     rw [S.avs_eq,S.avs_eq,HH,take_add_one,List.getElem?_map,List.getElem?_eq_getElem hj,List.map_append];rfl
    generalize S.avs ((onL b l).take j)=acc at hacl hav ⊢;cases b with
    | true =>
      conv=>whnf
      repeat' (first|((first|refine dA ?_|refine And.intro rfl ?_|refine aD ?_|refine bP ?_|refine QM (by omega) ?_|refine wI ?_|refine cP (QI l[j].labels hself.2.1) ?_|refine cP (VM 7) ?_|refine cP h5 ?_|(refine CallK.pure h6 (.cons (Sub.refl _) (.cons (by first|exact Sub.refl _|exact Sub.tt rfl|exact Sub.ff rfl) .nil)) ?_;rintro _ rfl)|(refine CallK.pure h7 (.cons (Sub.refl _) (.cons (by first|exact Sub.refl _|exact Sub.tt rfl|exact Sub.ff rfl) .nil)) ?_;rintro _ rfl)|refine AppK.mk hacl rfl (by show (j+1)*208<=140737488355328;omega) (by show j+1<=9223372036854775807;omega) (fun x hx=>by rcases List.mem_singleton.1 hx with rfl;exact ⟨rfl,rfl⟩) ?_);conv=>whnf)|(apply bD<;>intro _<;>first|omega|conv=>whnf)|(apply bN<;>intro _<;>conv=>whnf))
      all_goals try contradiction
      all_goals first
       | (have e:=(HK true l[j]).trans (if_pos (by first|exact .inl (by assumption)|exact .inr ⟨by omega,rfl⟩))
          exact ⟨j+1,hj,by omega,(Le.els (.els (GM (ElS.refl acc) (x' := .agg (onS true l[j]).cells) (by rw [e];rfl) (fun i c' hc=>by
          rw [e] at hc
          match i,hc with
          | 0,hc=>cases hc;exact ⟨_,rfl,by first|exact Sub.refl _|exact Sub.nils|exact Sub.ff rfl⟩
          | 1,hc=>cases hc;exact ⟨_,rfl,by first|exact Sub.refl _|exact Sub.nils|exact Sub.ff rfl⟩
          | 2,hc=>cases hc;exact ⟨_,rfl,by first|exact Sub.refl _|exact Sub.nils|exact Sub.ff rfl⟩
          | 3,hc=>cases hc;exact ⟨_,rfl,by first|exact Sub.refl _|exact Sub.nils|exact Sub.ff rfl⟩
          | 4,hc=>cases hc;exact ⟨_,rfl,by first|exact Sub.refl _|exact Sub.nils|exact Sub.ff rfl⟩
          | 5,hc=>cases hc;exact ⟨_,rfl,by first|exact Sub.refl _|exact Sub.nils|exact Sub.ff rfl⟩
          | 6,hc=>cases hc;exact ⟨_,rfl,by first|exact Sub.refl _|exact Sub.nils|exact Sub.ff rfl⟩
          | 7,hc=>cases hc;exact ⟨_,rfl,by first|exact Sub.refl _|exact Sub.nils|exact Sub.ff rfl⟩
          | 8,hc=>cases hc;exact ⟨_,rfl,by first|exact Sub.refl _|exact Sub.nils|exact Sub.ff rfl⟩
          | 9,hc=>cases hc;exact ⟨_,rfl,by first|exact Sub.refl _|exact Sub.nils|exact Sub.ff rfl⟩
          | 10,hc=>cases hc;exact ⟨_,rfl,by first|exact Sub.refl _|exact Sub.nils|exact Sub.ff rfl⟩
          | 11,hc=>cases hc;exact ⟨_,rfl,by first|exact Sub.refl _|exact Sub.nils|exact Sub.ff rfl⟩
          | 12,hc=>cases hc;exact ⟨_,rfl,by first|exact Sub.refl _|exact Sub.nils|exact Sub.ff rfl⟩
          | i+13,hc=>simp [AV.cells,S.cells] at hc)) .nil)).trans (Le.of_eq (by rw [hav];rfl))⟩)
       | (have e:=(HK true l[j]).trans (if_neg (by rintro (h|⟨h,h'⟩)<;>first|contradiction|omega))
          exact ⟨j+1,hj,by omega,(Le.els (.els (GM (ElS.refl acc) (x' := .agg (onS true l[j]).cells) (by rw [e];rfl) (fun i c' hc=>by
          rw [e] at hc
          match i,hc with
          | 0,hc=>cases hc;exact ⟨_,rfl,by first|exact Sub.refl _|exact Sub.nils|exact Sub.ff rfl⟩
          | 1,hc=>cases hc;exact ⟨_,rfl,by first|exact Sub.refl _|exact Sub.nils|exact Sub.ff rfl⟩
          | 2,hc=>cases hc;exact ⟨_,rfl,by first|exact Sub.refl _|exact Sub.nils|exact Sub.ff rfl⟩
          | 3,hc=>cases hc;exact ⟨_,rfl,by first|exact Sub.refl _|exact Sub.nils|exact Sub.ff rfl⟩
          | 4,hc=>cases hc;exact ⟨_,rfl,by first|exact Sub.refl _|exact Sub.nils|exact Sub.ff rfl⟩
          | 5,hc=>cases hc;exact ⟨_,rfl,by first|exact Sub.refl _|exact Sub.nils|exact Sub.ff rfl⟩
          | 6,hc=>cases hc;exact ⟨_,rfl,by first|exact Sub.refl _|exact Sub.nils|exact Sub.ff rfl⟩
          | 7,hc=>cases hc;exact ⟨_,rfl,by first|exact Sub.refl _|exact Sub.nils|exact Sub.ff rfl⟩
          | 8,hc=>cases hc;exact ⟨_,rfl,by first|exact Sub.refl _|exact Sub.nils|exact Sub.ff rfl⟩
          | 9,hc=>cases hc;exact ⟨_,rfl,by first|exact Sub.refl _|exact Sub.nils|exact Sub.ff rfl⟩
          | 10,hc=>cases hc;exact ⟨_,rfl,by first|exact Sub.refl _|exact Sub.nils|exact Sub.ff rfl⟩
          | 11,hc=>cases hc;exact ⟨_,rfl,by first|exact Sub.refl _|exact Sub.nils|exact Sub.ff rfl⟩
          | 12,hc=>cases hc;exact ⟨_,rfl,by first|exact Sub.refl _|exact Sub.nils|exact Sub.ff rfl⟩
          | i+13,hc=>simp [AV.cells,S.cells] at hc)) .nil)).trans (Le.of_eq (by rw [hav];rfl))⟩)
    | false =>
      conv=>whnf
      repeat' (first|((first|refine dA ?_|refine And.intro rfl ?_|refine aD ?_|refine bP ?_|refine QM (by omega) ?_|refine wI ?_|refine cP (QI l[j].labels hself.2.1) ?_|refine cP (VM 7) ?_|refine cP h5 ?_|(refine CallK.pure h6 (.cons (Sub.refl _) (.cons (by first|exact Sub.refl _|exact Sub.tt rfl|exact Sub.ff rfl) .nil)) ?_;rintro _ rfl)|(refine CallK.pure h7 (.cons (Sub.refl _) (.cons (by first|exact Sub.refl _|exact Sub.tt rfl|exact Sub.ff rfl) .nil)) ?_;rintro _ rfl)|refine AppK.mk hacl rfl (by show (j+1)*208<=140737488355328;omega) (by show j+1<=9223372036854775807;omega) (fun x hx=>by rcases List.mem_singleton.1 hx with rfl;exact ⟨rfl,rfl⟩) ?_);conv=>whnf)|(apply bD<;>intro _<;>first|omega|conv=>whnf)|(apply bN<;>intro _<;>conv=>whnf))
      all_goals try contradiction
      all_goals first
       | (have e:=(HK false l[j]).trans (if_pos (by first|exact .inl (by assumption)|exact .inr ⟨by omega,rfl⟩))
          exact ⟨j+1,hj,by omega,(Le.els (.els (GM (ElS.refl acc) (x' := .agg (onS false l[j]).cells) (by rw [e];rfl) (fun i c' hc=>by
          rw [e] at hc
          match i,hc with
          | 0,hc=>cases hc;exact ⟨_,rfl,by first|exact Sub.refl _|exact Sub.nils|exact Sub.ff rfl⟩
          | 1,hc=>cases hc;exact ⟨_,rfl,by first|exact Sub.refl _|exact Sub.nils|exact Sub.ff rfl⟩
          | 2,hc=>cases hc;exact ⟨_,rfl,by first|exact Sub.refl _|exact Sub.nils|exact Sub.ff rfl⟩
          | 3,hc=>cases hc;exact ⟨_,rfl,by first|exact Sub.refl _|exact Sub.nils|exact Sub.ff rfl⟩
          | 4,hc=>cases hc;exact ⟨_,rfl,by first|exact Sub.refl _|exact Sub.nils|exact Sub.ff rfl⟩
          | 5,hc=>cases hc;exact ⟨_,rfl,by first|exact Sub.refl _|exact Sub.nils|exact Sub.ff rfl⟩
          | 6,hc=>cases hc;exact ⟨_,rfl,by first|exact Sub.refl _|exact Sub.nils|exact Sub.ff rfl⟩
          | 7,hc=>cases hc;exact ⟨_,rfl,by first|exact Sub.refl _|exact Sub.nils|exact Sub.ff rfl⟩
          | 8,hc=>cases hc;exact ⟨_,rfl,by first|exact Sub.refl _|exact Sub.nils|exact Sub.ff rfl⟩
          | 9,hc=>cases hc;exact ⟨_,rfl,by first|exact Sub.refl _|exact Sub.nils|exact Sub.ff rfl⟩
          | 10,hc=>cases hc;exact ⟨_,rfl,by first|exact Sub.refl _|exact Sub.nils|exact Sub.ff rfl⟩
          | 11,hc=>cases hc;exact ⟨_,rfl,by first|exact Sub.refl _|exact Sub.nils|exact Sub.ff rfl⟩
          | 12,hc=>cases hc;exact ⟨_,rfl,by first|exact Sub.refl _|exact Sub.nils|exact Sub.ff rfl⟩
          | i+13,hc=>simp [AV.cells,S.cells] at hc)) .nil)).trans (Le.of_eq (by rw [hav];rfl))⟩)
       | (have e:=(HK false l[j]).trans (if_neg (by rintro (h|⟨h,h'⟩)<;>first|contradiction|omega))
          exact ⟨j+1,hj,by omega,(Le.els (.els (GM (ElS.refl acc) (x' := .agg (onS false l[j]).cells) (by rw [e];rfl) (fun i c' hc=>by
          rw [e] at hc
          match i,hc with
          | 0,hc=>cases hc;exact ⟨_,rfl,by first|exact Sub.refl _|exact Sub.nils|exact Sub.ff rfl⟩
          | 1,hc=>cases hc;exact ⟨_,rfl,by first|exact Sub.refl _|exact Sub.nils|exact Sub.ff rfl⟩
          | 2,hc=>cases hc;exact ⟨_,rfl,by first|exact Sub.refl _|exact Sub.nils|exact Sub.ff rfl⟩
          | 3,hc=>cases hc;exact ⟨_,rfl,by first|exact Sub.refl _|exact Sub.nils|exact Sub.ff rfl⟩
          | 4,hc=>cases hc;exact ⟨_,rfl,by first|exact Sub.refl _|exact Sub.nils|exact Sub.ff rfl⟩
          | 5,hc=>cases hc;exact ⟨_,rfl,by first|exact Sub.refl _|exact Sub.nils|exact Sub.ff rfl⟩
          | 6,hc=>cases hc;exact ⟨_,rfl,by first|exact Sub.refl _|exact Sub.nils|exact Sub.ff rfl⟩
          | 7,hc=>cases hc;exact ⟨_,rfl,by first|exact Sub.refl _|exact Sub.nils|exact Sub.ff rfl⟩
          | 8,hc=>cases hc;exact ⟨_,rfl,by first|exact Sub.refl _|exact Sub.nils|exact Sub.ff rfl⟩
          | 9,hc=>cases hc;exact ⟨_,rfl,by first|exact Sub.refl _|exact Sub.nils|exact Sub.ff rfl⟩
          | 10,hc=>cases hc;exact ⟨_,rfl,by first|exact Sub.refl _|exact Sub.nils|exact Sub.ff rfl⟩
          | 11,hc=>cases hc;exact ⟨_,rfl,by first|exact Sub.refl _|exact Sub.nils|exact Sub.ff rfl⟩
          | 12,hc=>cases hc;exact ⟨_,rfl,by first|exact Sub.refl _|exact Sub.nils|exact Sub.ff rfl⟩
          | i+13,hc=>simp [AV.cells,S.cells] at hc)) .nil)).trans (Le.of_eq (by rw [hav];rfl))⟩)
   ·have hall:(onL b l).take j=onL b l:=take_of_length_le (by rw [HH,length_map];exact hj);have hjl:j=(S.avs (onL b l)).length:=by rw [S.avs_eq,length_map,HH,length_map];omega
    rw [hall];conv=>whnf
    repeat' (apply bD<;>intro _<;>first|omega|conv=>whnf)
    exact ⟨_,.hd rfl hjl,rfl⟩
def z8a (b:Bool) (f:Pr):Pr:=⟨f.name,f.params,f.vars,onL b f.body,if b then f.fin else []⟩
def q6s (n:Nat):List Pr->List Pr
 | []=>[]
 | f::r=>⟨f.name,f.params,f.vars,nmL n f.body,f.fin⟩::q6s (n+cntL f.body) r
def z6p (p:Pg):Pg:=⟨p.globals,q6s 0 p.procs⟩
def onlyRaw (b:Bool) (p:Pg):Pg:=⟨p.globals,(p.procs.filter fun f=>f.name==mainS).map (z8a b)⟩
def onlyPg (b:Bool) (p:Pg):Pg:=z6p (onlyRaw b p)
def gOf (b:Bool) (f:Pr):Pr:=⟨f.name,f.params,f.vars,nmL 0 (onL b f.body),if b then f.fin else []⟩
theorem q6q {p:Pg} (h:chkB p=true) : ∃ (k:Nat) (f:Pr),p.procs[k]? = some f∧p.procs.filter (fun f=>f.name==mainS)=[f]∧f.name=mainS∧f.params=[]:=by
 obtain ⟨hm,hs,_⟩:=QD h;obtain ⟨_,hb,_⟩:=UR hs;unfold XD at hb;simp only [Bool.or_eq_false_iff,Bool.not_eq_false'] at hb;obtain ⟨_,h2,h3,h4⟩:=hb;have hnd:=q6j h2;obtain ⟨k,hk,h5,h6⟩:=x3p h3;have h7:=List.find?_some h6;have hn:p.procs[k].name=mainS:=by
  have:mainS=p.procs[k].name:=by simpa using h7
  exact this.symm
 rw [h6] at h4;have hp:p.procs[k].params=[]:=List.eq_nil_of_length_eq_zero (by simpa using h4);refine ⟨k,p.procs[k],List.getElem?_eq_getElem hk,?_,hn,hp⟩;have key : ∀ (l:List Pr),(l.map Pr.name).Nodup -> ∀ f∈l,f.name=mainS->l.filter (fun f=>f.name==mainS)=[f]:=fun l=>by
  induction l with
  | nil=>intro _ f hf;cases hf
  | cons g r ih =>
    intro hnd f hf hfn;rw [map_cons,List.nodup_cons] at hnd;rcases List.mem_cons.1 hf with rfl|hf
    ·rw [List.filter_cons_of_pos (by simp [hfn])];congr 1;rw [List.filter_eq_nil_iff];intro g hg he;exact hnd.1 (by rw [hfn,<- show g.name=mainS by simpa using he];exact List.mem_map_of_mem hg)
    ·rw [List.filter_cons_of_neg (by
      intro he;exact hnd.1 (by rw [show g.name=mainS by simpa using he,<- hfn];exact List.mem_map_of_mem hf))]
     exact ih hnd.2 f hf hfn
 exact key p.procs hnd _ (List.getElem_mem hk) hn
theorem z7l {p:Pg} {b:Bool} {f:Pr} (h:p.procs.filter (fun f=>f.name==mainS)=[f]):onlyPg b p=⟨p.globals,[gOf b f]⟩:=by
 unfold onlyPg z6p onlyRaw;simp only;rw [h];rfl
mutual
theorem x0u (b:Bool) : ∀ t:S,XL (onS b t)=XL t
 | .mk id kind labels name proc x has args thn els=>by
   rw [onS];split
   ·rw [XL,XL,JX b thn,JX b els]
   ·rw [XL,XL,JX b thn,JX b els]
theorem JX (b:Bool) : ∀ l:List S,cntL (onL b l)=cntL l
 | []=>by rw [onL]
 | t::r=>by rw [onL,cntL,cntL,x0u b t,JX b r]
end
mutual
theorem z7m : ∀ (t:S) (n:Nat),XL (nmS n t)=XL t
 | .mk id kind labels name proc x has args thn els,n=>by rw [nmS,XL,XL,q6c thn,q6c els]
theorem q6c : ∀ (l:List S) (n:Nat),cntL (nmL n l)=cntL l
 | [],n=>by rw [nmL]
 | t::r,n=>by rw [nmL,cntL,cntL,z7m t,q6c r]
end
section
variable {p:Pg} {k:Nat} {f:Pr}
end
theorem q2e : ∀ (l:List Pr) {n:Nat} {m:Int},XH n l=some m -> ∀ (j:Nat) (f:Pr),l[j]? = some f -> ∃ m',WI 1 ((n+QN l j:Nat):Int) f.body=some m'
 | [],_,_,_,j,f,hj=>by simp at hj
 | g::r,n,m,h,j,f,hj=>by
   rw [XH] at h;cases hm:KQ g<;>rw [hm] at h
   ·cases h
   simp only [cond_true] at h;split at h
   ·rename_i m1 h1;cases j with
    | zero =>
      cases hj;exact ⟨m1,h1⟩
    | succ j =>
      have h2:=UC _ _ g.body h1;have h':XH ((n+cntL g.body:Nat):Int) r=some m:=by rw [<- h,h2];rfl
      obtain ⟨m',h3⟩:=q2e r h' j f (by simpa using hj);exact ⟨m',by rw [<- h3,QN];congr 1;omega⟩
   ·cases h
theorem z6h {p:Pg} (h:YA p=true) {j:Nat} {f:Pr} (hj:p.procs[j]? = some f) : ∃ m,WI 1 ((QN p.procs j:Nat):Int) f.body=some m:=by
 unfold YA at h;simp only [Bool.and_eq_true] at h;obtain ⟨m,hm⟩:=Option.isSome_iff_exists.1 h.2;obtain ⟨m',h'⟩:=q2e p.procs (n:=0) hm j f hj;exact ⟨m',by rw [<- h'];congr 1;omega⟩
section
variable {p:Pg} {k:Nat} {f:Pr}
end
mutual
theorem z4x : ∀ (t:S) {nest seen m:Int},q5s nest seen t=some m -> ∀ u∈flS t,oneOk u=true
 | .mk id kind labels name pr x has args thn els,nest,seen,m,h,u,hu=>by
   obtain ⟨h1,_,m1,h3,h4⟩:=GH h;rw [flS] at hu;rcases List.mem_cons.1 hu with rfl|hu
   ·exact h1
   ·rcases List.mem_append.1 hu with hu|hu
    ·exact MS thn h3 u hu
    ·exact MS els h4 u hu
theorem MS : ∀ (l:List S) {nest seen m:Int},WI nest seen l=some m -> ∀ u∈flL l,oneOk u=true
 | [],_,_,_,_,u,hu=>by rw [flL] at hu;cases hu
 | t::r,nest,seen,m,h,u,hu=>by
   obtain ⟨_,m1,h1,h2⟩:=YP h;rw [flL] at hu;rcases List.mem_append.1 hu with hu|hu
   ·exact z4x t h1 u hu
   ·exact MS r h2 u hu
end
theorem z2j {p:Pg} {j:Nat} {f:Pr} (h:chkB p=true) (hj:p.procs[j]? = some f) {t:S} (ht:t∈flL f.body):OneF t:=by
 obtain ⟨m,hr⟩:=z6h (QD h).1 hj;exact MI (MS _ hr t ht)
section
variable {p:Pg} {j:Nat} {f:Pr}
end
def x4t (k:Int) (x:RI):Bool:=decide (k=0)||decide (x.s.kind=k)
def q2z (p:Pg) (k:Int):List Int:=((allR p).filter (x4t k)).map fun x=>x.s.id
theorem MQ (p:Pg) (k:Int) (hl:(allR p).length<=1000):SpecP Tryz.prog 60 [.agg p.cells,.int .i64 k] (fun r=>r=XT (q2z p k)):=by
 refine sB FD Tryz.func60 rfl Tryz.call60 ?_;conv=>whnf
 have hrl:=q9z (allR p);repeat' ((first|(refine iM fun _=>?_)|refine cP (MX _) ?_);conv=>whnf)
 refine LoopK.inv QU (fun x:Nat×List Int=>⟨[(1,.p (.int .i64 k)),(5,.hd 0 0 x.2.length),(9,.p (w0e (allR p))),(10,.p (.int .i64 ((allR p).map fun i=>AV.agg i.cells).length)),(11,.p (.int .i64 x.1))],[(0,.own 3 1 (x.2.map (.int .i64)))]⟩) (fun x=>x.1<=(allR p).length∧x.2.length<=x.1∧x.2++(((allR p).drop x.1).filter (x4t k)).map (fun y=>y.s.id)=q2z p k) (fun x=>(allR p).length-x.1) (0,[])
  (Le.mk [(0,.own 3 1 [])] (by simp [Chunk.new0];rfl) (by simp) (by simp) (.cons (.refl _) (.cons (.nil mem_cons_self) (.cons (.refl _) (.cons (.refl _) (.cons (.refl _) .nil))))) (.new mem_cons_self .nil)) ⟨zero_le _,Nat.le_refl _,rfl⟩ ?_
 rintro ⟨j,o⟩ ⟨h2,h4,h3⟩;simp only at h2 h3 h4 ⊢;generalize hL:allR p=L at h2 h3 hrl hl ⊢;rcases Nat.lt_or_ge j L.length with hj|hj
 ·rw [List.drop_eq_getElem_cons hj] at h3;conv=>whnf
  repeat' (first|((first|refine And.intro rfl ?_|refine aD ?_|refine bP ?_|(refine iA fun _=>?_)|refine wI ?_|refine UB (by simp) (by simp;omega) ?_);conv=>whnf)|(apply bD<;>intro _<;>first|omega|conv=>whnf))
  all_goals first
   | (have e:x4t k L[j]=true:=by unfold x4t;simp [*];done
      rw [List.filter_cons_of_pos e,map_cons] at h3;exact ⟨(j+1,o++[L[j].s.id]),⟨hj,by simp;omega,by rw [List.append_assoc];exact h3⟩,by simp only;omega,Le.of_eq (by simp only [length_append,List.map_append,length_map];rfl)⟩)
   | (have e:x4t k L[j]=false:=by unfold x4t;simp [*];done
      rw [List.filter_cons_of_neg (fun hh=>by rw [e] at hh;cases hh)] at h3;exact ⟨(j+1,o),⟨hj,by simp only;omega,h3⟩,by simp only;omega,Le.of_eq rfl⟩)
 ·rw [List.drop_eq_nil_of_le hj] at h3;simp only [List.filter_nil,List.map_nil,append_nil] at h3;conv=>whnf
  repeat' (apply bD<;>intro _<;>first|omega|conv=>whnf)
  all_goals first
   | exact ⟨_,.hd rfl (by simp),by rw [<- h3];rfl⟩
namespace Own
end Own
open Go.Proofs
def w3a (l:List Int) (i:Nat):Int:=l.getD i 0
def srt (K:Int->Int) (l:List Int) (a b:Nat):Prop := ∀ i k,a<=i->i<k->k<b->K (w3a l k)<=K (w3a l i)
def blk (K:Int->Int) (l:List Int) (bs n:Nat):Prop := ∀ q,srt K l (q*bs) (min (q*bs+bs) n)
def z2s:List AV:=[.int .i64 (-1),.int .i64 0,.nils,.str [],.str [],.int .i64 0,.int .i64 0,.str [],.nils,.ff,.nils,.nils,.nils]
theorem NL : ∀ (k:Nat) (l:List S) (_:cntL l<k) (_:cntL l<=1000000) (_ : ∀ t∈flL l,okC t∧t.id ≠ -1),SpecP Tryz.prog 95 [eSs l,.agg z2s] (fun r=>r=eSs l):=by
 intro k;induction k with
 | zero=>intro l h;omega
 | succ k ih =>
   intro l hk hn hok;have hsl:(S.avs l).length=l.length:=by rw [S.avs_eq,length_map]
   have hcl:=MY l;refine sB FO Tryz.func95 rfl Tryz.call95 ?_;conv=>whnf
   repeat' (refine iM fun _=>?_;conv=>whnf)
   refine LoopK.inv QU (fun j:Nat=>⟨[(3,.p (.ip z2s)),(5,.hd 0 0 j),(9,.p (eSs l)),(10,.p (.int .i64 (S.avs l).length)),(11,.p (.int .i64 j))],[(0,.own 40 13 (S.avs (l.take j)))]⟩) (fun j=>j<=l.length) (fun j=>l.length-j) 0
    (Le.mk [(0,.own 40 13 [])] (by simp [Chunk.new0];rfl) (by simp) (by simp) (.cons (.refl _) (.cons (.nil mem_cons_self) (.cons (.refl _) (.cons (.refl _) (.cons (.refl _) .nil))))) (.new mem_cons_self .nil)) (zero_le _) ?_
   intro j h2;rcases Nat.lt_or_ge j l.length with hj|hj
   ·have htm:=MG (List.getElem_mem hj);have hcs:=ZO l[j];have hself:=hok _ (GG l _ (List.getElem_mem hj));have hsub : ∀ t,t∈flL l[j].thn∨t∈flL l[j].els->okC t∧t.id ≠ -1:=fun t ht=>hok t (by
     have:t∈flS l[j]:=by
      rw [q3u];exact mem_cons_of_mem _ (List.mem_append.2 ht)
     have key : ∀ (m:List S) (i:Nat) (h:i<m.length),t∈flS m[i]->t∈flL m:=fun m=>by
      induction m with
      | nil=>intro i h;simp at h
      | cons a r ih =>
        intro i h ht;rw [flL];cases i with
        | zero=>exact List.mem_append.2 (.inl ht)
        | succ i=>exact List.mem_append.2 (.inr (ih i (by simpa using h) ht))
     exact key l j hj this)
    have h5:=ZL l[j] hself.1.1 hself.1.2.1 hself.1.2.2.1 hself.1.2.2.2;have hid:=hself.2;have h6:=ih l[j].thn (by omega) (by omega) fun t ht=>hsub t (.inl ht);have h7:=ih l[j].els (by omega) (by omega) fun t ht=>hsub t (.inr ht);have hacl:j=(S.avs (l.take j)).length:=by rw [S.avs_eq,length_map,length_take];omega
    have hav:S.avs (l.take (j+1))=S.avs (l.take j)++[.agg l[j].cells]:=by
     rw [S.avs_eq,S.avs_eq,List.take_succ_eq_append_getElem hj,List.map_append];rfl
    generalize S.avs (l.take j)=acc at hacl hav ⊢;have e:l[j] = .mk l[j].id l[j].kind l[j].labels l[j].name l[j].proc l[j].x l[j].has l[j].args l[j].thn l[j].els:=by cases l[j];rfl
    conv=>whnf
    repeat' (first|((first|refine dA ?_|refine And.intro rfl ?_|refine aD ?_|refine bP ?_|refine QM (by omega) ?_|refine wI ?_|refine cP h5 ?_|refine cP h6 ?_|refine cP h7 ?_|refine AppK.mk hacl rfl (by show (j+1)*208<=140737488355328;omega) (by show j+1<=9223372036854775807;omega) (fun x hx=>by rcases List.mem_singleton.1 hx with rfl;exact ⟨rfl,rfl⟩) ?_);conv=>whnf)|(apply bD<;>intro _<;>first|omega|conv=>whnf))
    all_goals first
     | exact ⟨j+1,hj,by omega,Le.of_eq (by rw [hav];rfl)⟩
     | contradiction
   ·have hall:l.take j=l:=take_of_length_le hj;have hjl:j=(S.avs l).length:=by rw [S.avs_eq,length_map];omega
    rw [hall];conv=>whnf
    repeat' (apply bD<;>intro _<;>first|omega|conv=>whnf)
    exact ⟨_,.hd rfl hjl,rfl⟩
theorem x7e : ∀ (l:List Pr) (j:Nat),QN l j<=cntP l
 | _,0=>by rw [QN];omega
 | [],j+1=>by rw [QN];omega
 | g::r,j+1=>by rw [QN,cntP];have:=x7e r j;omega
structure CopyF (p:Pg):Prop where
 procs:p.procs.length<=1000
 globals:p.globals.length<=1000000
 pr : ∀ f∈p.procs,f.vars.length<=1000000∧f.fin.length<=1000000∧f.params.length<=1000000∧cntL f.body<=100000 ∧ ∀ t∈flL f.body,okC t∧t.id ≠ -1
def w4c (p:Pg):Heap:=[(2,.obj 25 [.p (QF p.globals),.hd 1 0 p.procs.length]),(1,.own 90 5 (p.procs.map fun f => .agg f.cells))]
def w2x (p:Pg):Heap:=[(6,.own 90 5 (p.procs.map fun f => .agg f.cells)),(1,.obj 25 [.p (QF p.globals),.hd 6 0 p.procs.length])]
theorem NN (p:Pg) (h:CopyF p):SpecH Tryz.prog 41 [.p (.agg p.cells),.p (.agg z2s)] [] (fun r H=>r = .agg [.p (QF p.globals),.hd 1 0 p.procs.length]∧H=w4c p):=by
 refine sH DM Tryz.func41 rfl Tryz.call41 ?_;conv=>whnf
 have hgt:=QI p.globals h.globals;have hpm:(p.procs.map fun f=>AV.agg f.cells).length=p.procs.length:=length_map _;have hpl:=h.procs;repeat' ((first|(refine iM fun _=>?_)|refine And.intro rfl ?_|refine cP hgt ?_);conv=>whnf)
 refine LoopK.inv QU (fun j:Nat=>⟨[(3,.p (.ip z2s)),(4,.ptr 2 0),(5,.ptr 0 0),(14,.p (.sl (p.procs.map fun f=>AV.agg f.cells))),(15,.p (.int .i64 (p.procs.map fun f=>AV.agg f.cells).length)),(16,.p (.int .i64 j))],[(0,.obj 25 [.p (QF p.globals),.hd 1 0 j]),(2,.obj 25 [.p .nils,.p .nils]),(1,.own 90 5 ((p.procs.take j).map fun f => .agg f.cells))]⟩) (fun j=>j<=p.procs.length) (fun j=>p.procs.length-j) 0
  (Le.mk [(1,.own 90 5 [])] (by simp [Chunk.new0];rfl) (by simp) (by simp) (.cons (.refl _) (.cons (.refl _) (.cons (.refl _) (.cons (.refl _) (.cons (.refl _) (.cons (.refl _) .nil)))))) (.cons rfl (.obj (.cons (.refl _) (.cons (.nil mem_cons_self) .nil))) (.cons rfl (.refl _) (.new mem_cons_self .nil)))) (zero_le _) ?_
 intro j h2;rcases Nat.lt_or_ge j p.procs.length with hj|hj
 ·obtain ⟨hv,hfin,hpm2,hcb,hok⟩:=h.pr _ (List.getElem_mem hj);have h5:=QI p.procs[j].vars hv;have h6:=QI p.procs[j].fin hfin;have h7:=NL (cntL p.procs[j].body+1) p.procs[j].body (by omega) (by omega) hok;have htl:((p.procs.take j).map fun f=>AV.agg f.cells).length=j:=by rw [length_map,length_take];omega
  have htk:((p.procs.take (j+1)).map fun f=>AV.agg f.cells)=((p.procs.take j).map fun f=>AV.agg f.cells)++[.agg p.procs[j].cells]:=by
   rw [List.take_succ_eq_append_getElem hj,List.map_append];rfl
  generalize ((p.procs.take j).map fun f=>AV.agg f.cells)=acc at htl htk ⊢;have hpa:(p.procs[j].params.map fun x=>AV.agg x.cells).length=p.procs[j].params.length:=length_map _;conv=>whnf
  repeat' (first|((first|refine dA ?_|refine And.intro rfl ?_|refine aD ?_|(refine iA fun _=>?_)|refine cP h5 ?_|refine cP h6 ?_|refine cP h7 ?_|refine AppK.mk rfl rfl (by rw [hpa];show (0+p.procs[j].params.length)*24<=140737488355328;omega) (by rw [hpa];show 0+p.procs[j].params.length<=9223372036854775807;omega) (fun x hx=>by obtain ⟨y,_,rfl⟩:=List.mem_map.1 hx;exact ⟨rfl,rfl⟩) ?_);conv=>whnf)|(apply bD<;>intro _<;>first|omega|conv=>whnf)|(refine And.intro ?_ ?_<;>conv=>whnf))
  all_goals
   refine x7y QU (k:=4) 41 p.procs[j].cells rfl rfl rfl (fun q u c h1 h2 => ?_) ?_
   ·match q,h1,h2 with
    | 0,h1,h2=>cases h1;cases h2;exact .inl ⟨_,rfl,Sub.refl _⟩
    | 1,h1,h2=>cases h1;cases h2;exact .inr ⟨_,rfl,by simp,rfl⟩
    | 2,h1,h2=>cases h1;cases h2;exact .inl ⟨_,rfl,Sub.refl _⟩
    | 3,h1,h2=>cases h1;cases h2;exact .inl ⟨_,rfl,Sub.refl _⟩
    | 4,h1,h2=>cases h1;cases h2;exact .inl ⟨_,rfl,Sub.refl _⟩
    | q+5,h1,h2=>simp at h1
   conv=>whnf
   repeat' ((first|refine And.intro rfl ?_|refine aD ?_|refine bP ?_|refine wI ?_|refine AppK.mk htl.symm rfl (by show (j+1)*112<=140737488355328;omega) (by show j+1<=9223372036854775807;omega) (fun x hx=>by rcases List.mem_singleton.1 hx with rfl;exact ⟨rfl,rfl⟩) ?_);conv=>whnf)
   exact ⟨j+1,hj,by omega,Le.of_eq (by rw [htk];rfl)⟩
 ·have hA:((p.procs.take j).map fun f=>AV.agg f.cells)=p.procs.map fun f => .agg f.cells:=by
   rw [take_of_length_le hj]
  have hje:j=p.procs.length:=by omega
  subst hje;rw [hA];conv=>whnf
  repeat' (first|(refine And.intro rfl ?_;conv=>whnf)|(apply bD<;>intro _<;>first|omega|conv=>whnf))
  exact ⟨_,LSub.refl _,rfl,rfl⟩
theorem YL (p:Pg) (h:CopyF p):SpecH Tryz.prog 90 [.p (.agg p.cells)] [] (fun r H=>r = .agg [.p (QF p.globals),.hd 6 0 p.procs.length]∧H=w2x p):=by
 refine sH FK Tryz.func90 rfl Tryz.call90 ?_;conv=>whnf
 repeat' ((first|refine And.intro rfl ?_|(refine CallK.heap [] 5 (ArgsH.cons (LSub.refl _) (ArgsH.cons (LSub.refl _) ArgsH.nil)) BlksH.nil (NN p h) rfl rfl ?_;rintro l' H' ⟨rfl,rfl⟩));conv=>whnf)
 exact ⟨_,LSub.refl _,rfl,rfl⟩
def FG (p:Pg) (j:Nat):List Pr:=(q6s 0 p.procs).take j++p.procs.drop j
theorem q8n : ∀ (l:List Pr) (n j:Nat) (f:Pr),l[j]? = some f->(q6s n l)[j]? = some ⟨f.name,f.params,f.vars,nmL (n+QN l j) f.body,f.fin⟩
 | g::r,n,0,f,h=>by cases h;rw [q6s];rfl
 | g::r,n,j+1,f,h=>by
   rw [q6s,List.getElem?_cons_succ,q8n r (n+cntL g.body) j f (by simpa using h),QN,Nat.add_assoc]
theorem YW : ∀ (l:List Pr) (n:Nat),(q6s n l).length=l.length
 | [],n=>rfl
 | g::r,n=>by rw [q6s,length_cons,length_cons,YW r]
theorem z1x (p:Pg) {j:Nat} (h:j<=p.procs.length):(FG p j).length=p.procs.length:=by
 unfold FG;rw [length_append,length_take,List.length_drop,YW];omega
theorem z0i (p:Pg) {j:Nat} (hj:j<p.procs.length):(FG p j)[j]? = some p.procs[j]:=by
 unfold FG;rw [List.getElem?_append_right (by rw [length_take,YW];omega),length_take,YW,List.getElem?_drop];rw [show j+(j-min j p.procs.length)=j by omega,List.getElem?_eq_getElem hj]
theorem x5x (p:Pg) {j:Nat} (hj:j<p.procs.length):FG p (j+1)=(FG p j).set j ⟨p.procs[j].name,p.procs[j].params,p.procs[j].vars,nmL (QN p.procs j) p.procs[j].body,p.procs[j].fin⟩:=by
 have h1:=q8n p.procs 0 j _ (List.getElem?_eq_getElem hj);rw [Nat.zero_add] at h1;unfold FG;have hl:((q6s 0 p.procs).take j).length=j:=by rw [length_take,YW];omega
 rw [List.set_append_right _ _ (by omega),hl,Nat.sub_self,List.drop_eq_getElem_cons hj,List.set_cons_zero,take_add_one,h1];simp
theorem x9l {l:List Pr} {j:Nat} (hj:j<l.length):QN l (j+1)=QN l j+cntL l[j].body:=by
 induction l generalizing j with
 | nil=>simp at hj
 | cons g r ih =>
   cases j with
   | zero=>rw [QN,QN,QN];simp
   | succ j =>
     rw [QN,QN,ih (by simpa using hj)];simp only [List.getElem_cons_succ];omega
theorem HF (p:Pg) (h:CopyF p) (hc:cntP p.procs<=100000):SpecP Tryz.prog 92 [.agg p.cells] (fun r=>r = .agg (z6p p).cells):=by
 refine sB JA Tryz.func92 rfl Tryz.call92 ?_;conv=>whnf
 have hpm:(p.procs.map fun f=>AV.agg f.cells).length=p.procs.length:=length_map _;have hpl:=h.procs;repeat' ((first|(refine iM fun _=>?_)|refine And.intro rfl ?_|(refine CallK.heap [] 20 (ArgsH.cons (LSub.refl _) ArgsH.nil) BlksH.nil (YL p h) rfl rfl ?_;rintro l' H' ⟨rfl,rfl⟩));conv=>whnf)
 refine LoopK.inv QU (fun j:Nat=>⟨[(1,.p (.ip p.cells)),(2,.ptr 1 0),(3,.ptr 0 0),(4,.p (.int .i64 (QN p.procs j))),(10,.p (.int .i64 p.procs.length)),(11,.p (.int .i64 j))],[(0,.obj 25 [.p (QF p.globals),.hd 26 0 p.procs.length]),(26,.own 90 5 ((FG p j).map fun f => .agg f.cells)),(1,.obj 25 [.p .nils,.p .nils])]⟩) (fun j=>j<=p.procs.length) (fun j=>p.procs.length-j) 0
  (Le.of_eq (by rw [show FG p 0=p.procs from rfl,show QN p.procs 0=0 by rw [QN]];rfl)) (zero_le _) ?_
 intro j h2;have hrl:=z1x p h2;rcases Nat.lt_or_ge j p.procs.length with hj|hj
 ·obtain ⟨hv,hfin,hpm2,hcb,hok⟩:=h.pr _ (List.getElem_mem hj);have hle:=x7e p.procs j;have h5:=KD (cntL p.procs[j].body+1) p.procs[j].body (by omega) (QN p.procs j) (by omega) fun t ht=>(hok t ht).1;have hget:((FG p j).map fun f=>AV.agg f.cells)[j]? = some (.agg p.procs[j].cells):=by rw [List.getElem?_map,z0i p hj];rfl
  have hset:((FG p j).map fun f=>AV.agg f.cells).set j (.agg (Pr.mk p.procs[j].name p.procs[j].params p.procs[j].vars (nmL (QN p.procs j) p.procs[j].body) p.procs[j].fin).cells)=(FG p (j+1)).map fun f=>AV.agg f.cells:=by
   rw [x5x p hj,<- List.map_set]
  have hst:=x9l hj;generalize ((FG p j).map fun f=>AV.agg f.cells)=row at hget hset ⊢;conv=>whnf
  repeat' (first|((first|refine And.intro rfl ?_|(refine iA fun _=>?_)|refine wI ?_|refine DrawK.of QU mixed (.cons 3 false (.cons 4 false (.cons 5 false (.cons 6 false (.cons 7 false (.cons 8 false (.cons 9 false (.cons 0 false (.cons 2 false (.fork 1 (.cons 10 true (.cons 11 false (.cons 12 false (.cons 14 true (.cons 15 true (.cons 13 false (.cons 16 true (.cons 17 true .nil)))))))) 10 (.cons 1 true (.cons 11 false (.cons 12 false (.cons 14 true (.cons 15 true (.cons 13 false (.cons 16 true (.cons 17 true .nil)))))))))))))))))) (by kernel_rfl) ?_|refine cP h5 ?_|refine IdxL.mk j rfl hj ?_|refine StOwn.mk j 3 (.agg p.procs[j].cells) (.agg (Pr.mk p.procs[j].name p.procs[j].params p.procs[j].vars (nmL (QN p.procs j) p.procs[j].body) p.procs[j].fin).cells) (by show (0+j)*5+3=j*5+3;omega) hget (Nat.le_of_ble_eq_true rfl) rfl ?_);conv=>whnf)|(apply bD<;>intro _<;>first|omega|conv=>whnf)|(refine And.intro ?_ ?_<;>conv=>whnf))
  all_goals exact ⟨j+1,hj,by omega,Le.of_eq (by rw [<- hset,hst];rfl)⟩
 ·have hje:j=p.procs.length:=by omega
  subst hje;have hA:FG p p.procs.length=(z6p p).procs:=by
   unfold FG z6p;rw [take_of_length_le (by rw [YW];exact Nat.le_refl _),List.drop_eq_nil_of_le (Nat.le_refl _),append_nil]
  have hcl:p.procs.length=((z6p p).procs.map fun f=>AV.agg f.cells).length:=by rw [length_map,<- hA,hrl]
  rw [hA];conv=>whnf
  repeat' (first|(refine And.intro rfl ?_;conv=>whnf)|(apply bD<;>intro _<;>first|omega|conv=>whnf))
  refine ⟨_,.agg (cs:=(z6p p).cells) rfl fun i l c h1 h3 => ?_,rfl⟩
  match i,h1,h3 with
  | 0,h1,h3=>cases h1;cases h3;exact .p (Sub.refl _)
  | 1,h1,h3 =>
    cases h1;cases h3;exact .hd rfl hcl
  | i+2,h1,h3=>simp at h1
theorem q7d {k:Nat} : ∀ {sl:List (Nat×LV)},(∀ x∈sl,x.2.kill k=x.2) -> ∀ j,(getS sl j).kill k=getS sl j
 | [],_,_=>rfl
 | (i,l)::r,h,j=>by
   simp only [getS];cases i==j with
   | true=>exact h _ mem_cons_self
   | false=>exact q7d (fun x hx=>h x (mem_cons_of_mem _ hx)) j
theorem z1i {N:Nat} {sl:List (Nat×LV)} {H H':Heap} {k q:Nat} {e e':TypeId} {sz:Nat} {es:List AV} {ls:List LV} {cs:List AV} (hg:getH H k=some (.own e sz es)) (hq:getH H q=some (.obj e' ls)) (hln:ls.length=cs.length)
  (hcs : ∀ (j:Nat) (l:LV) (c:AV),ls[j]? = some l->cs[j]? = some c->(∃ a,l = .p a∧Sub a c)∨(∃ n,l = .hd k 0 n∧n=es.length∧c = .sl es)) (hsl : ∀ j,(getS sl j).kill k=getS sl j)
  (hsub:(H'.map (·.1)).Sublist (H.map (·.1))) (hH : ∀ j c',(j,c')∈H'->j≠k∧((j=q∧c' = .obj e' (cs.map .p))∨((j,c')∈H∧c'.kill k=c'))):Le N ⟨sl,H⟩ ⟨sl,H'⟩:=fun σ β a w hr=>by
 have obj : ∀ {τ:Mem},σ.le τ->(∀ v,RepL σ β (.hd k 0 es.length) v->Rep τ (.sl es) v)->(Chunk.obj e' ls).holds σ β w q->(Chunk.obj e' (cs.map .p)).holds τ β w q:=fun {τ} hle hrow hold=>by
  obtain ⟨i',vs',hi',hh',hn',hc'⟩:=hold;refine ⟨i',vs',hi',hh',by simpa [hln] using hn',fun j l hj => ?_⟩;rw [List.getElem?_map] at hj;cases hc:cs[j]? with
  | none=>rw [hc] at hj;cases hj
  | some c =>
    rw [hc] at hj;cases hj;have hlt:j<ls.length:=by rw [hln];exact (List.getElem?_eq_some_iff.1 hc).1
    obtain ⟨u,h3,h4⟩:=hc' j _ (List.getElem?_eq_getElem hlt);refine ⟨u,h3,?_⟩;rcases hcs j _ c (List.getElem?_eq_getElem hlt) hc with ⟨a',h5,h6⟩|⟨n,h5,rfl,rfl⟩
    ·rw [h5] at h4;cases h4 with
     | p hp=>exact .p (h6 _ _ (hp.mono hle))
    ·rw [h5] at h4;exact .p (hrow _ h4)
 have hc0:=hr.heap.chunks q _ (QV hq);rcases ZE.1 (hr.heap.chunks k _ (QV hg)) with ⟨hb0,rfl⟩|⟨i,vs,hi,hisz,hh,hn,hle',hmax,hE⟩
 ·refine ⟨σ,β,⟨hr.size,hr.defers,hr.slots,⟨hr.heap.mem,fun j c' hj => ?_,hsub.nodup hr.heap.nodup,fun j hj=>hr.heap.apart j (hsub.subset hj),fun j hj j' hj'=>hr.heap.inj j (hsub.subset hj) j' (hsub.subset hj')⟩⟩,Mem.le_refl σ,Frm.refl _ _,fun _ h0 h1=>absurd h0 h1,fun b ⟨j,hj,r⟩ => .inl ⟨j,hsub.subset hj,r⟩,fun _ _ _=>rfl⟩;rcases (hH j c' hj).2 with ⟨rfl,rfl⟩|⟨h1,_⟩
  ·refine obj (Mem.le_refl σ) (fun v hv => ?_) hc0;rcases hv.hdI with ⟨_,_,_,he⟩|⟨i,_,hk,_⟩
   ·rw [he];exact .nilsl
   ·rw [hb0] at hk;cases hk
  ·exact hr.heap.chunks j _ h1
 ·refine hr.lay hi (QA hg) hh (fun τ hle hτ j v hv => ?_) (fun τ hle hτ j c' hj => ?_) (hsub.nodup hr.heap.nodup)
  ·show RepL τ β (getS sl j) v;rw [<- hsl j];exact (hv.kill k).mono hle
  ·obtain ⟨h1,h2⟩:=hH j c' hj;rcases h2 with ⟨rfl,rfl⟩|⟨h2,h3⟩
   ·refine ⟨h1,_,QV hq,obj hle fun v hv => ?_⟩;rcases hv.hdI with ⟨hk,_⟩|⟨i',oo,hk,hl,ho,rfl⟩
    ·rw [hi] at hk;cases hk
    ·rw [hi] at hk;cases hk;have hoo:oo=0:=by
      rcases ho with ho|ho
      ·simpa using ho
      ·omega
     subst hoo;obtain ⟨u,hu⟩ : ∃ u:Nat->Nat->Value,∀ (m:Nat) (x:AV) (j:Nat) (c:AV),es[m]? = some x->x.cells[j]? = some c->vs[m*sz+j]? = some (u m j)∧Rep σ c (u m j):=by
      refine ⟨fun m j=>(vs[m*sz+j]?).getD undef,fun m x j c hx hj => ?_⟩;obtain ⟨v,h1,h2⟩:=hE.rep m x j c hx hj;rw [List.getElem?_take] at h1;split at h1
      ·have h1':vs[m*sz+j]? = some v:=by simpa using h1
       exact ⟨by simp [h1'],by simpa [h1'] using h2⟩
      ·cases h1
     exact .sl es i.blk 0 _ sz vs u hτ (by omega) (by omega) hE.size (fun m x j c hx hj=>by simpa using (hu m x j c hx hj).1) fun m x j c hx hj=>(hu m x j c hx hj).2.mono hle
   ·refine ⟨h1,c',h2,fun hold => ?_⟩;have:=(hold.kill k).mono hle fun _ _ _ _=>rfl
    rwa [h3] at this
def DC (b:Bool) (p:Pg) (j:Nat):List Pr:=((p.procs.take j).filter fun f=>f.name==mainS).map (z8a b)
theorem x7x (b:Bool) (p:Pg) {j:Nat} (hj:j<p.procs.length):DC b p (j+1)=DC b p j++(if p.procs[j].name==mainS then [z8a b p.procs[j]] else []):=by
 unfold DC;rw [List.take_succ_eq_append_getElem hj,List.filter_append,List.map_append];congr 1;cases h:p.procs[j].name==mainS<;>simp [h]
theorem x9e (b:Bool) (p:Pg) (j:Nat):(DC b p j).length<=j:=by
 unfold DC;rw [length_map];exact Nat.le_trans (List.length_filter_le _ _) (by rw [length_take];omega)
def w0g (b:Bool) (p:Pg) (j:Nat):St:=⟨[(1,.p (.bool b)),(4,.ptr 1 0),(5,.ptr 0 0),(14,.hd 26 0 p.procs.length),(15,.p (.int .i64 p.procs.length)),(16,.p (.int .i64 j))],[(26,.own 90 5 (p.procs.map fun f => .agg f.cells)),(0,.obj 25 [.p (QF p.globals),.hd 2 0 (DC b p j).length]),(1,.obj 25 [.p .nils,.p .nils]),(2,.own 90 5 ((DC b p j).map fun f => .agg f.cells))]⟩
def w0i (b:Bool) (p:Pg) (j:Nat):St:=⟨[(1,.p (.bool b)),(4,.ptr 1 0),(5,.ptr 0 0),(14,.hd 26 0 p.procs.length),(15,.p (.int .i64 p.procs.length)),(16,.p (.int .i64 j))],[(26,.own 90 5 (p.procs.map fun f => .agg f.cells)),(0,.obj 25 [.p (QF p.globals),.p (.sl ((DC b p j).map fun f => .agg f.cells))]),(1,.obj 25 [.p .nils,.p .nils])]⟩
theorem w2h {N:Nat} (b:Bool) (p:Pg) (j:Nat):Le N (w0g b p j) (w0i b p j):=by
 refine z1i (k:=2) (q:=0) (cs:=[QF p.globals,.sl ((DC b p j).map fun f => .agg f.cells)]) rfl rfl rfl (fun i l c h1 h2 => ?_) (fun i => ?_) ?_ fun i c' hm => ?_
 ·match i,h1,h2 with
  | 0,h1,h2=>cases h1;cases h2;exact .inl ⟨_,rfl,Sub.refl _⟩
  | 1,h1,h2=>cases h1;cases h2;exact .inr ⟨_,rfl,by rw [length_map],rfl⟩
  | i+2,h1,h2=>simp at h1
 ·refine q7d (fun x hx => ?_) i;simp only [mem_cons,List.not_mem_nil,or_false] at hx;rcases hx with rfl|rfl|rfl|rfl|rfl|rfl<;>rfl
 ·show [26,0,1].Sublist [26,0,1,2];decide
 ·simp only [mem_cons,List.not_mem_nil,or_false,Prod.mk.injEq] at hm;rcases hm with ⟨rfl,rfl⟩|⟨rfl,rfl⟩|⟨rfl,rfl⟩
  ·exact ⟨by decide,.inr ⟨mem_cons_self,rfl⟩⟩
  ·exact ⟨by decide,.inl ⟨rfl,rfl⟩⟩
  ·exact ⟨by decide,.inr ⟨mem_cons_of_mem _ (mem_cons_of_mem _ mem_cons_self),rfl⟩⟩
theorem PD (b:Bool) (p:Pg) (h:CopyF p) (hn:0<p.procs.length) (hN:CopyF (onlyRaw b p)) (hc:cntP (onlyRaw b p).procs<=100000):SpecP Tryz.prog 32 [.agg p.cells,.bool b] (fun r=>r = .agg (onlyPg b p).cells):=by
 refine sB FU Tryz.func32 rfl Tryz.call32 ?_;conv=>whnf
 have hgt:=QI p.globals h.globals;have hpm:(p.procs.map fun f=>AV.agg f.cells).length=p.procs.length:=length_map _;have hpl:=h.procs;repeat' ((first|(refine iM fun _=>?_)|refine And.intro rfl ?_|refine cP hgt ?_|(refine CallK.heap [] 20 (ArgsH.cons (LSub.refl _) ArgsH.nil) BlksH.nil (YL p h) rfl rfl ?_;rintro l' H' ⟨rfl,rfl⟩));conv=>whnf)
 refine LoopK.inv QU (fun x:Nat×Bool=>if x.2 then w0i b p x.1 else w0g b p x.1) (fun x=>x.1<=p.procs.length∧(x.2=false->x.1<p.procs.length)∧(x.2=true->x.1=p.procs.length)) (fun x=>p.procs.length-x.1) (0,false)
  (Le.mk [(2,.own 90 5 [])] (by simp [Chunk.new0];rfl) (by simp) (by simp) (.cons (.refl _) (.cons (.refl _) (.cons (.refl _) (.cons (.refl _) (.cons (.refl _) (.cons (.refl _) .nil)))))) (.cons rfl (.refl _) (.cons rfl (.obj (.cons (.refl _) (.cons (.nil mem_cons_self) .nil))) (.cons rfl (.refl _) (.new mem_cons_self .nil))))) ⟨zero_le _,fun _=>hn,fun h=>by cases h⟩ ?_
 rintro ⟨j,m⟩ ⟨h2,h3,h4⟩;simp only at h2 h3 h4;cases m with
 | false =>
   have hj:=h3 rfl;obtain ⟨hv,hfin,hpm2,hcb,hok⟩:=h.pr _ (List.getElem_mem hj);have h7:=PF b (cntL p.procs[j].body+1) p.procs[j].body (by omega) (by omega) fun t ht=>(hok t ht).1;have hget:(p.procs.map fun f=>AV.agg f.cells)[j]? = some (.agg p.procs[j].cells):=by rw [List.getElem?_map,List.getElem?_eq_getElem hj];rfl
   have hsucc:=x7x b p hj;have hlr:=x9e b p j;have fin : ∃ x:Nat×Bool,(x.1<=p.procs.length∧(x.2=false->x.1<p.procs.length)∧(x.2=true->x.1=p.procs.length))∧p.procs.length-x.1<p.procs.length-j∧Le Tryz.f32.ntmps (w0g b p (j+1)) (if x.2 then w0i b p x.1 else w0g b p x.1):=by
    rcases Nat.lt_or_ge (j+1) p.procs.length with hj1|hj1
    ·exact ⟨(j+1,false),⟨by simp only;omega,fun _=>hj1,fun h=>by cases h⟩,by simp only;omega,Le.of_eq rfl⟩
    ·exact ⟨(j+1,true),⟨by simp only;omega,(fun h=>by cases h),fun _=>by simp only;omega⟩,by simp only;omega,w2h b p (j+1)⟩
   obtain ⟨x,hx1,hx2,hx3⟩:=fin;unfold w0g at hx3 ⊢;rw [hsucc] at hx3;have hrl:((DC b p j).map fun f=>AV.agg f.cells).length=(DC b p j).length:=length_map _;generalize DC b p j=row at hx3 hlr hrl ⊢;cases hm:p.procs[j].name==mainS with
   | true =>
     rw [hm,if_pos rfl,List.map_append,length_append] at hx3;have hm':(p.procs[j].name==([109,97,105,110]:Str))=true:=hm;cases b <;>
     conv=>whnf
     repeat' (first|((first|refine And.intro rfl ?_|refine aD ?_|refine bP ?_|refine wI ?_|refine LdOwn.mk j 0 (.agg p.procs[j].cells) (by show (0+j)*5=j*5+0;omega) hget ?_|refine IdxL.mk j rfl hj ?_|(refine CallK.pure h7 (.cons (Sub.refl _) (.cons (by first|exact Sub.refl _|exact Sub.tt rfl|exact Sub.ff rfl) .nil)) ?_;rintro _ rfl)|refine AppK.mk hrl.symm rfl (by show (row.length+1)*112<=140737488355328;omega) (by show row.length+1<=9223372036854775807;omega) (fun x hx=>by rcases List.mem_singleton.1 hx with rfl;exact ⟨rfl,rfl⟩) ?_);conv=>whnf)|(apply bD<;>intro _<;>first|omega|conv=>whnf)|(apply bN<;>intro _<;>conv=>whnf)|(apply bB<;>intro _<;>conv=>whnf))
     all_goals first
      | exact ⟨x,hx1,hx2,(Le.of_eq rfl).trans hx3⟩
      | (exfalso;simp_all;done)
      | exact ⟨x,hx1,hx2,(Le.els (.same (.same (.same (.els (GM (ElS.refl (row.map fun f=>AV.agg f.cells)) (x' := .agg (z8a false p.procs[j]).cells) (by rfl) (fun i c' hc=>by
         match i,hc with
         | 0,hc=>cases hc;exact ⟨_,rfl,Sub.refl _⟩
         | 1,hc=>cases hc;exact ⟨_,rfl,Sub.refl _⟩
         | 2,hc=>cases hc;exact ⟨_,rfl,Sub.refl _⟩
         | 3,hc=>cases hc;exact ⟨_,rfl,Sub.refl _⟩
         | 4,hc=>cases hc;exact ⟨_,rfl,Sub.nils⟩
         | i+5,hc=>simp [AV.cells,Pr.cells] at hc)) .nil))))).trans ((Le.of_eq (by rfl)).trans hx3)⟩
      | (refine ⟨x,hx1,hx2,(Le.els (.same (.same (.same (.els (GM (ElS.refl (row.map fun f=>AV.agg f.cells)) (x' := .agg (z8a false p.procs[j]).cells) ?_ ?_) .nil))))).trans ((Le.of_eq ?_).trans hx3)⟩<;>trace_state)
   | false =>
     rw [hm,if_neg (by decide),append_nil] at hx3;have hm':(p.procs[j].name==([109,97,105,110]:Str))=false:=hm;conv=>whnf
     repeat' (first|((first|refine And.intro rfl ?_|refine aD ?_|refine bP ?_|refine wI ?_|refine LdOwn.mk j 0 (.agg p.procs[j].cells) (by show (0+j)*5=j*5+0;omega) hget ?_|refine IdxL.mk j rfl hj ?_|(refine CallK.pure h7 (.cons (Sub.refl _) (.cons (by first|exact Sub.refl _|exact Sub.tt rfl|exact Sub.ff rfl) .nil)) ?_;rintro _ rfl)|refine AppK.mk hrl.symm rfl (by show (row.length+1)*112<=140737488355328;omega) (by show row.length+1<=9223372036854775807;omega) (fun x hx=>by rcases List.mem_singleton.1 hx with rfl;exact ⟨rfl,rfl⟩) ?_);conv=>whnf)|(apply bD<;>intro _<;>first|omega|conv=>whnf)|(apply bN<;>intro _<;>conv=>whnf)|(apply bB<;>intro _<;>conv=>whnf))
     all_goals first
      | exact ⟨x,hx1,hx2,(Le.of_eq rfl).trans hx3⟩
      | (exfalso;simp_all;done)
 | true =>
   have hje:=h4 rfl;subst hje;have hA:DC b p p.procs.length=(onlyRaw b p).procs:=by
    unfold DC onlyRaw;rw [take_of_length_le (Nat.le_refl _)]
   unfold w0i;rw [hA];have hNum:=HF (onlyRaw b p) hN hc;conv=>whnf
   repeat' (first|((first|refine And.intro rfl ?_|refine cP hNum ?_);conv=>whnf)|(apply bD<;>intro _<;>first|omega|conv=>whnf))
   exact ⟨_,.p (Sub.refl _),rfl⟩
section
variable {p:Pg} {j:Nat} {f:Pr}
end
section
variable {p:Pg} {j:Nat} {f:Pr}
end
def caI (p:Pg) (t:S):Int:=idxF (fun f=>f.name==t.proc) p.procs
def caP (p:Pg) (t:S):Pr:=p.procs.getD (caI p t).toNat Pr0
section
variable {p:Pg} {j:Nat} {f:Pr}
end


section
variable {p:Pg} {j:Nat} {f:Pr}
end
end Go.Ab
