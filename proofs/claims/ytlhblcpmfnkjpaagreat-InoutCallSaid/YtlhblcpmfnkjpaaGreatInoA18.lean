/- way: of each place those to which steps of data lead. -/
import Derived.Test.YtlhblcpmfnkjpaaGreatInoA5
import Derived.Test.YtlhblcpmfnkjpaaGreatInoA9
import Derived.Test.YtlhblcpmfnkjpaaGreatInoA10
import Derived.Test.YtlhblcpmfnkjpaaGreatInoA14
import Derived.Test.YtlhblcpmfnkjpaaGreatInoA15
import Derived.Test.YtlhblcpmfnkjpaaGreatInoA16
import Derived.Test.YtlhblcpmfnkjpaaGreatInoA17
set_option linter.unusedSimpArgs false
set_option linter.unusedVariables false
set_option maxRecDepth 100000
set_option maxHeartbeats 16000000
open List (append_nil getD_eq_getElem?_getD length length_append length_cons length_map map_cons mem_cons_of_mem mem_cons_self nil_append sum_cons take_of_length_le)
open Nat (zero_le)
namespace Go.Ab
open Go.Proofs
def JP (w:Way) (f:Pr):List (Int×Int):=(FT w f).map (ixP w.p w.j f w.n)
theorem x9n (w:Way) (f:Pr) (n:Nat) (h:WayT w f n) (hp : ∀ t∈JP w f,(0<=t.1∧t.1<n)∧0<=t.2∧t.2<n) (hlen:(FT w f).length<=1000000):SpecP Tryz.prog 244 [.ip w.cells] (fun r=>r=q7n (q0x n (JP w f))):=by
 refine sB x2g Tryz.func244 rfl Tryz.call244 ?_;conv=>whnf
 have hwn:=h.hw;have hn5:=h.hn;have hn2:=h.hn2;have hA:=x4m w f n h;have hP:=GZ w f h.hj h.hc (by omega) (FT w f) hlen;have hpl:(avP (JP w f)).length=(JP w f).length:=by unfold avP;rw [length_map]
 have hpl2:(JP w f).length<=1000000:=by unfold JP;rw [length_map];exact hlen
 have hPe:(FT w f).map (ixP w.p w.j f w.n)=JP w f:=rfl;rw [hPe] at hP;repeat' (first|((first|(refine iM fun _=>?_)|refine dA ?_|refine And.intro rfl ?_|refine aD ?_|refine aR ?_|refine bP ?_|(refine iA fun _=>?_)|refine IdxK.xs (by omega) ?_|refine QX (by omega) ?_|(refine ByteK.at (by omega) ?_)|refine wI ?_|refine MkK.mk n (by omega) (by show 24*_<=140737488355328;omega) (by unfold maxLen;omega) ?_|refine cP hA ?_|refine cP hP ?_);conv=>whnf)|(apply bD<;>intro _<;>first|omega|conv=>whnf)|(apply bE<;>intro _<;>first|omega|conv=>whnf)|(apply bN<;>intro _<;>conv=>whnf)|(apply bB<;>intro _<;>conv=>whnf))
 refine LoopK.inv QY (fun j:Nat=>⟨[(3,.hd 0 0 n),(14,.p (.sl (avP (JP w f)))),(15,.p (.int .i64 (avP (JP w f)).length)),(16,.p (.int .i64 j))],[(0,.ext (.mat 60 3 1 (avI (q0x n ((JP w f).take j))) []))]⟩) (fun j=>j<=(JP w f).length) (fun j=>(JP w f).length-j) 0
  (by
    refine Le.trans (z5s n rfl) ?_;exact Le.mk [] (by simp) (by simp) (by simp) (.cons (.refl _) (.cons (.refl _) (.cons (.refl _) (.cons (.refl _) .nil)))) (.cons rfl (.of_eq (by simp [avI,q0x])) .nil)) (zero_le _) ?_
 intro j h2;rcases Nat.lt_or_ge j (JP w f).length with hj|hj
 ·have hme:(avP (JP w f))[j]? = some (.agg [.int .i64 (JP w f)[j].1,.int .i64 (JP w f)[j].2]):=by simp [avP,hj]
  obtain ⟨⟨q1,q2⟩,q3,q4⟩:=hp _ (List.getElem_mem hj);have hst:q0x n ((JP w f).take (j+1))=nxE (q0x n ((JP w f).take j)) (JP w f)[j]:=by
   unfold q0x;rw [List.take_succ_eq_append_getElem hj,List.foldl_append];rfl
  have hrl:=q6k n ((JP w f).take j);have hcnt:=x5v n ((JP w f).take j) (JP w f)[j].1.toNat;generalize (JP w f)[j]=t at hme q1 q2 q3 q4 hst hcnt;generalize q0x n ((JP w f).take j)=rows at hst hrl hcnt ⊢;obtain ⟨a,ha⟩ : ∃ a:Nat,t.1=a:=⟨t.1.toNat,by omega⟩;have hal:a<rows.length:=by omega
  have hrow:(avI rows)[a]? = some (rows[a].map (.int .i64)):=by unfold avI;rw [List.getElem?_map,List.getElem?_eq_getElem hal];rfl
  have hput:(avI rows).set a (rows[a].map (.int .i64)++[.int .i64 t.2])=avI (nxE rows t):=by
   unfold nxE avI;rw [ha,Int.toNat_natCast,getD_eq_getElem?_getD,List.getElem?_eq_getElem hal,Option.getD_some,List.map_set,List.map_append];rfl
  have hcl:rows[a].length<=1000000:=by
   rw [ha,Int.toNat_natCast,getD_eq_getElem?_getD,List.getElem?_eq_getElem hal,Option.getD_some,List.length_take] at hcnt;omega
  rw [ha] at hme;conv=>whnf
  repeat' (first|((first|(refine iM fun _=>?_)|refine And.intro rfl ?_|refine aD ?_|refine aR ?_|(refine iA fun _=>?_)|refine IdxK.xs (by omega) ?_|refine QX (by omega) ?_|(refine ByteK.at (by omega) ?_)|refine wI ?_|refine DrawK.of QY mixed (.cons 0 false (.cons 1 false (.cons 2 false (.cons 3 false (.cons 4 false (.cons 5 false (.cons 6 false (.cons 8 false (.cons 9 false (.alo 7 (.cons 10 true (.cons 11 true (.cons 12 true (.cons 13 true .nil)))))))))))))) (by kernel_rfl) ?_|(refine IdxK.at (k:=j) rfl hme rfl ?_)|refine IdxL.mk 0 rfl (by decide) ?_|refine IdxL.mk 1 rfl (by decide) ?_|refine IdxL.mk a rfl (by omega) ?_|refine RowK.mk a _ (by omega) hrow (by simp) ?_|refine BsK.own (fun x hx=>by rcases List.mem_singleton.1 hx with rfl;rfl) rfl ?_|refine OpK.focus QY 27 0 a 2 rfl rfl hrow (by simp) rfl rfl ?_|refine ZJ rfl (by rw [length_map];omega) ?_|(refine q7b QY rfl rfl rfl rfl rfl rfl rfl rfl rfl (by decide) a [] (by omega) (by unfold avI;rw [length_map];omega) (by simp) ⟨by simp,by simp,by simp⟩ ?_));conv=>whnf)|(apply bD<;>intro _<;>first|omega|conv=>whnf)|(apply bE<;>intro _<;>first|omega|conv=>whnf)|(apply bN<;>intro _<;>conv=>whnf)|(apply bB<;>intro _<;>conv=>whnf))
  all_goals exact ⟨j+1,hj,by omega,Le.of_eq (by rw [hst,<- hput];rfl)⟩
 ·have hje:(JP w f).take j=JP w f:=take_of_length_le hj;rw [hje];have hNl:=q6k n (JP w f);conv=>whnf
  repeat' (first|((first|(refine iM fun _=>?_)|refine dA ?_|refine And.intro rfl ?_|refine aD ?_|refine aR ?_|refine bP ?_|(refine iA fun _=>?_)|refine IdxK.xs (by omega) ?_|refine QX (by omega) ?_|(refine ByteK.at (by omega) ?_)|refine wI ?_);conv=>whnf)|(apply bD<;>intro _<;>first|omega|conv=>whnf)|(apply bE<;>intro _<;>first|omega|conv=>whnf)|(apply bN<;>intro _<;>conv=>whnf)|(apply bB<;>intro _<;>conv=>whnf))
  exact ⟨_,.mat rfl (by unfold avI;rw [length_map,hNl]),rfl⟩
section
variable {p:Pg} {j:Nat} {f:Pr}
def dR (p:Pg) (j:Nat) (f:Pr):Int->Int->Prop:=stR (FT (QQ p j f) f)
theorem z6r (h:QO p=true) (hj:p.procs[j]? = some f) {a b:Int}:dR p j f a b↔wR p j f a b ∨ ∃ l∈trapsW (QQ p j f) f,∃ t∈flL f.body,t.id∈l∧t.kind=10∧a=t.id∧b = -1:=by
 constructor
 ·rintro ⟨s,hs,rfl,rfl⟩;rcases List.mem_append.1 ((HL (x1r h hj)).2.1 s hs) with h1|h1
  ·obtain ⟨l,hl,t,ht,hid,hk,rfl⟩:=(NT h hj).1 h1;exact .inr ⟨l,hl,t,ht,hid,hk,rfl,rfl⟩
  ·exact .inl ⟨s,h1,rfl,rfl⟩
 ·rintro (⟨s,hs,rfl,rfl⟩|⟨l,hl,t,ht,hid,hk,rfl,rfl⟩)
  ·exact z8r h hj (List.mem_append.2 (.inr hs))
  ·exact z8r h hj (s:=⟨t.id,-1,3⟩) (List.mem_append.2 (.inl ((NT h hj).2 ⟨l,hl,t,ht,hid,hk,rfl⟩)))
theorem w0a (h:QO p=true) (hj:p.procs[j]? = some f) {a b:Int} (hd:dR p j f a b):plP p j f a∧plP p j f b:=by
 have hA:w9g p j f a b:=by
  rcases (z6r h hj).1 hd with h1|h1
  ·exact (x4b h hj).2 (.inl h1)
  ·exact (x4b h hj).2 (.inr (.inr (.inl h1)))
 exact ⟨(w1x h hj hA).1,(w1x h hj hA).2.1⟩
theorem FQ (h:QO p=true) (hj:p.procs[j]? = some f) : ∀ t∈JP (QQ p j f) f,(0<=t.1∧t.1<(cntL f.body+2:Nat))∧0<=t.2∧t.2<(cntL f.body+2:Nat):=fun t ht=>by
 obtain ⟨s,hs,rfl⟩:=List.mem_map.1 ht;obtain ⟨h1,h2⟩:=w0a h hj ⟨s,hs,rfl,rfl⟩;exact ⟨YY h1,YY h2⟩
theorem w0m (h:QO p=true) (hj:p.procs[j]? = some f) {a b:Int} (ha:plP p j f a) (hb:plP p j f b):(ixI p j f a,ixI p j f b)∈JP (QQ p j f) f↔dR p j f a b:=by
 constructor
 ·intro h1;obtain ⟨s,hs,he⟩:=List.mem_map.1 h1;obtain ⟨h2,h3⟩:=w0a h hj ⟨s,hs,rfl,rfl⟩;have e1:ixI p j f s.src=ixI p j f a:=congrArg Prod.fst he;have e2:ixI p j f s.dst=ixI p j f b:=congrArg Prod.snd he;exact ⟨s,hs,HY h2 ha e1,HY h3 hb e2⟩
 ·rintro ⟨s,hs,rfl,rfl⟩;exact List.mem_map.2 ⟨s,hs,rfl⟩
end


section
variable {p:Pg} {j:Nat} {f:Pr}
end
theorem z5r {p:Pg} (hs:(XX p).1=0):(UZ p).1=0 ↔ ∀ t∈VA p,t.kind=4->FX p t=true:=by
 unfold UZ;rw [if_neg (by omega)];cases hf:(VA p).find? fun t=>decide (t.kind=4) && !FX p t with
 | some t =>
   have h1:=List.mem_of_find?_eq_some hf;have h2:=List.find?_some hf;simp only [Bool.and_eq_true,decide_eq_true_eq,Bool.not_eq_true'] at h2;refine ⟨fun h=>by simp at h,fun h => ?_⟩;have:=h t h1 h2.1;rw [h2.2] at this;cases this
 | none =>
   refine ⟨fun _ t ht hk => ?_,fun _=>rfl⟩;have:=List.find?_eq_none.1 hf t ht;simp only [Bool.and_eq_true,decide_eq_true_eq,Bool.not_eq_true',not_and] at this;simpa using this hk
theorem z6z {p:Pg} (h:YS p=true):(allR p).map RI.s=VA p:=by
 rw [x3n h];exact w4w p.procs
theorem w6k {l:List Nat} {a:Nat} (h:a∈l):a<=z3e l:=by
 induction l with
 | nil=>cases h
 | cons b r ih =>
   rw [z3e];rcases List.mem_cons.1 h with rfl|h
   ·omega
   ·have:=ih h;omega
theorem q9q : ∀ (n:Nat) (x:X) (k:Nat),wX x<k->JE n x<=n->BQ k x=true->WK n x=true
 | 0,x,k,_,h,_=>by rw [JE] at h;omega
 | n+1,x,0,hk,_,_=>by omega
 | n+1,x,k+1,hk,h,hf=>by
   rw [JE] at h;rw [BQ,Bool.and_eq_true,List.all_eq_true] at hf;obtain ⟨ho,hkids⟩:=hf;have hxe:wX x=1+wXs x.kids:=by cases x;rw [wX];rfl
   have hk2 : ∀ y∈x.kids,WK n y=true:=fun y hy=>q9q n y k (by have:=x9h _ _ hy;omega) (by have:=w6k (List.mem_map.2 ⟨y,hy,rfl⟩:JE n y∈x.kids.map (JE n));omega) (hkids y hy);unfold KH at ho;simp only [Bool.and_eq_true,Bool.or_eq_true,decide_eq_true_eq,beq_iff_eq] at ho;obtain ⟨⟨⟨⟨h1,h2⟩,h3⟩,h4⟩,h5⟩:=ho;rw [WK,Bool.and_eq_true,decide_eq_true_eq];refine ⟨h1.symm,?_⟩;split
   ·rename_i h6;rw [h6,decide_eq_false (by decide)] at h4;simp_all
   ·rename_i h6;split
    ·rename_i h7;rw [decide_eq_true h7] at h4;simp_all
    ·rename_i h7;rw [decide_eq_false h7] at h4;simp_all
theorem x8t (x:X):mayXR x=z3w x:=by
 rw [Bool.eq_iff_iff];refine ⟨fun h => ?_,z8l⟩;unfold mayXR at h;rw [Bool.and_eq_true,decide_eq_true_eq] at h;exact q9q 20 x _ (Nat.lt_succ_self _) h.1 h.2
theorem w4e (a:Arg):argR a=LR a:=by
 unfold argR LR UD HH;rw [x8t];cases a.ref<;>rfl
theorem w0k {s:S} (h:OneF s):oneOk s=true:=by
 obtain ⟨f1,f2,f3,f4,f5,f6,f7,f8,f9,f10,f11,f12,f13,f14⟩:=h;have h11:s.args.all LR=true:=by
  rw [List.all_eq_true] at f11 ⊢;exact fun a ha=>by rw [<- w4e];exact f11 a ha
 rw [x8t] at f4;have hk:s.kind=1∨s.kind=2∨s.kind=3∨s.kind=4∨s.kind=5∨s.kind=6∨s.kind=7∨s.kind=8∨s.kind=9∨s.kind=10:=by omega
 have hz : ∀ {α:Type} (l:List α),l.length=0->decide (0<l.length)=false:=fun l h=>decide_eq_false (by omega);have hnm : ¬(s.kind=1∨s.kind=2∨s.kind=10)->s.kind≠4->(s.name==[])=true:=fun h1 h2=>by
  rcases f8 h1 with h|h
  ·exact h
  ·exact absurd h.1 h2
 have hhas:s.kind≠9->s.has=false:=fun h=>by
  cases hq:s.has with
  | false=>rfl
  | true=>exact absurd (f6 hq) h
 unfold oneOk;rw [Bool.and_eq_true];refine ⟨?_,f1⟩;have key : ∀ (f:Flds),NS s.kind s.has (s.name==[])=some f->f.has=false->(f.thn=false->s.thn.length=0)->(f.els=false->s.els.length=0)->(s.kind≠4->s.args.length=0)->UD s.name f.name=true->UD s.proc f.proc=true->HH s.x f.x=true->WW s=true:=fun f hf a1 a2 a3 a4 a5 a6 a7=>by
  rw [q8p hf,a1,a5,a6,a7,h11];have e1:(!f.thn&&decide (0<s.thn.length))=false:=by
   cases ht:f.thn with
   | true=>rfl
   | false=>rw [hz _ (a2 ht)];rfl
  have e2:(!f.els&&decide (0<s.els.length))=false:=by
   cases ht:f.els with
   | true=>rfl
   | false=>rw [hz _ (a3 ht)];rfl
  have e3:(!decide (s.kind=4)&&decide (0<s.args.length))=false:=by
   by_cases h4:s.kind=4
   ·rw [decide_eq_true h4];rfl
   ·rw [hz _ (a4 h4)];exact Bool.and_false _
  rw [e1,e2,e3];rfl
 have noP:s.kind≠4->UD s.proc false=true:=fun h=>f10 h;rcases hk with hk|hk|hk|hk|hk|hk|hk|hk|hk|hk
 ·exact key ⟨true,false,true,s.has,false,false⟩ (by rw [hk];rfl) (hhas (by omega)) (fun _=>by omega) (fun _=>by omega) f12 (f7 (by omega)) (noP (by omega)) (f4 (by unfold hasXB;rw [hk];rfl))
 ·exact key ⟨true,false,false,s.has,false,false⟩ (by rw [hk];rfl) (hhas (by omega)) (fun _=>by omega) (fun _=>by omega) f12 (f7 (by omega)) (noP (by omega)) (f5 (by unfold hasXB;rw [hk];rfl))
 ·exact key ⟨false,false,true,s.has,false,false⟩ (by rw [hk];rfl) (hhas (by omega)) (fun _=>by omega) (fun _=>by omega) f12 (hnm (by omega) (by omega)) (noP (by omega)) (f4 (by unfold hasXB;rw [hk];rfl))
 ·refine key ⟨!(s.name==[]),true,false,s.has,false,false⟩ (by rw [hk];rfl) (hhas (by omega)) (fun _=>by omega) (fun _=>by omega) f12 ?_ (f9 hk) (f5 (by unfold hasXB;rw [hk];rfl));rcases f8 (by omega) with h|h
  ·rw [h];exact h
  ·rw [x0f h.2];exact h.2
 ·exact key ⟨false,false,true,s.has,true,true⟩ (by rw [hk];rfl) (hhas (by omega)) (fun h=>by cases h) (fun h=>by cases h) f12 (hnm (by omega) (by omega)) (noP (by omega)) (f4 (by unfold hasXB;rw [hk];rfl))
 ·exact key ⟨false,false,true,s.has,true,false⟩ (by rw [hk];rfl) (hhas (by omega)) (fun h=>by cases h) (fun _=>by omega) f12 (hnm (by omega) (by omega)) (noP (by omega)) (f4 (by unfold hasXB;rw [hk];rfl))
 ·exact key ⟨false,false,false,s.has,false,false⟩ (by rw [hk];rfl) (hhas (by omega)) (fun _=>by omega) (fun _=>by omega) f12 (hnm (by omega) (by omega)) (noP (by omega)) (f5 (by unfold hasXB;rw [hk];rfl))
 ·exact key ⟨false,false,false,s.has,false,false⟩ (by rw [hk];rfl) (hhas (by omega)) (fun _=>by omega) (fun _=>by omega) f12 (hnm (by omega) (by omega)) (noP (by omega)) (f5 (by unfold hasXB;rw [hk];rfl))
 ·refine key ⟨false,false,s.has,false,false,false⟩ (by rw [hk];rfl) rfl (fun _=>by omega) (fun _=>by omega) f12 (hnm (by omega) (by omega)) (noP (by omega)) ?_;cases hh:s.has with
  | true=>exact f4 (by unfold hasXB;rw [hk,hh];rfl)
  | false=>exact f5 (by unfold hasXB;rw [hk,hh];rfl)
 ·exact key ⟨true,false,false,s.has,false,false⟩ (by rw [hk];rfl) (hhas (by omega)) (fun _=>by omega) (fun _=>by omega) f12 (f7 (by omega)) (noP (by omega)) (f5 (by unfold hasXB;rw [hk];rfl))
theorem w0f : ∀ (k:Nat) (l:List S) (i:Int) (e:Bool) (out:List RI),(flF k i e l out).length<=200->(∀ x∈flF k i e l out,x.deep<=12)->flF k i e l out=out++fuL (13-(k:Int)) i e l:=by
 intro k;induction k with
 | zero =>
   intro l i e out h1 h2;cases l with
   | nil=>rw [fuL,append_nil];rfl
   | cons s r =>
     exfalso;have e0:flF 0 i e (s::r) out=flF 0 i e r (if out.length<=200 then out++[⟨s,13,i,e⟩] else out):=rfl;rw [e0] at h1 h2;have hl:=(FU 0 i e r (if out.length<=200 then out++[⟨s,13,i,e⟩] else out)).1;by_cases ho:out.length<=200
     ·rw [if_pos ho] at h1 h2 hl;have hpre : ∀ (r:List S) (o:List RI) (x:RI),x∈o->x∈flF 0 i e r o:=fun r=>by
       induction r with
       | nil=>exact fun o x hx=>hx
       | cons a r ih =>
         intro o x hx;show x∈flF 0 i e r (if o.length<=200 then o++[⟨a,13,i,e⟩] else o);refine ih _ _ ?_;split
         ·exact List.mem_append.2 (.inl hx)
         ·exact hx
      have:=h2 _ (hpre r _ ⟨s,13,i,e⟩ (List.mem_append.2 (.inr (List.mem_singleton.2 rfl))));simp at this
     ·rw [if_neg ho] at h1 hl;omega
 | succ k ih =>
   intro l;induction l with
   | nil=>intro i e out h1 h2;rw [fuL,append_nil];rfl
   | cons s r ihr =>
     intro i e out h1 h2;have e0:flF (k+1) i e (s::r) out=flF (k+1) i e r (if out.length<=200 then flF k s.id true s.els (flF k s.id false s.thn (out++[⟨s,13-((k+1:Nat):Int),i,e⟩])) else out):=rfl;rw [e0] at h1 h2 ⊢;have hl:=(FU (k+1) i e r (if out.length<=200 then flF k s.id true s.els (flF k s.id false s.thn (out++[⟨s,13-((k+1:Nat):Int),i,e⟩])) else out)).1;have ho:out.length<=200:=by
      refine Classical.byContradiction fun hq => ?_;rw [if_neg hq] at hl h1;omega
     rw [if_pos ho] at h1 h2 hl ⊢;have h3:=ihr i e _ h1 h2;rw [h3] at h2;have h2' : ∀ x∈flF k s.id true s.els (flF k s.id false s.thn (out++[⟨s,13-((k+1:Nat):Int),i,e⟩])),x.deep<=12:=fun x hx=>h2 x (List.mem_append.2 (.inl hx));have h4:=ih s.els s.id true _ (by omega) h2';rw [h4] at h2';have h2'' : ∀ x∈flF k s.id false s.thn (out++[⟨s,13-((k+1:Nat):Int),i,e⟩]),x.deep<=12:=fun x hx=>h2' x (List.mem_append.2 (.inl hx));have hl2:=(FU k s.id true s.els (flF k s.id false s.thn (out++[⟨s,13-((k+1:Nat):Int),i,e⟩]))).1;have h5:=ih s.thn s.id false _ (by omega) h2'';have ed:(13:Int)-((k+1:Nat):Int)+1=13-(k:Int):=by omega
     rw [h3,h4,h5,fuL,z5p,ed];simp
mutual
theorem w4f (d i:Int) (e:Bool) (seen:Nat) : ∀ (t:S),(fuS d i e t).map (fun x=>x.s.id)=KE seen (ZB t)->(∀ x∈fuS d i e t,x.deep<=12∧oneOk x.s=true)->seen+ZB t<=200->x0e d seen t=some ((seen+ZB t:Nat):Int)
 | .mk id kind labels name proc x has args thn els,h1,h2,h3=>by
   have hc:ZB (.mk id kind labels name proc x has args thn els)=1+cntL thn+cntL els:=ZA _;rw [fuS] at h1 h2;rw [hc] at h1 h3 ⊢;have hsp:KE seen (1+cntL thn+cntL els)=((seen:Int)+1)::(KE (seen+1) (cntL thn)++KE (seen+1+cntL thn) (cntL els)):=by
    rw [<- GQ];unfold KE;rw [show 1+cntL thn+cntL els=(cntL thn+cntL els)+1 by omega,List.range'_succ,map_cons];congr 1
   rw [hsp,map_cons,List.map_append] at h1;have hid:id=(seen:Int)+1:=(List.cons.inj h1).1;have h1':=(List.cons.inj h1).2;have hlen:((fuL (d+1) id false thn).map fun x=>x.s.id).length=(KE (seen+1) (cntL thn)).length:=by
    rw [length_map,NK];unfold KE;simp
   obtain ⟨ha,hb⟩:=List.append_inj h1' hlen;have hok:=h2 _ mem_cons_self;have r1:=x3l (d+1) id false (seen+1) thn ha (fun x hx=>h2 x (mem_cons_of_mem _ (List.mem_append.2 (.inl hx)))) (by omega);have r2:=x3l (d+1) id true (seen+1+cntL thn) els hb (fun x hx=>h2 x (mem_cons_of_mem _ (List.mem_append.2 (.inr hx)))) (by omega);have hoo:=hok.2;unfold oneOk at hoo;rw [Bool.and_eq_true] at hoo;rw [x0e,if_neg (by omega),if_neg (by omega),show namesB labels=true from hoo.2,cond_true,show WW (.mk id kind labels name proc x has args thn els)=true from hoo.1,cond_true];have e1:(seen:Int)+1=((seen+1:Nat):Int):=by omega
   rw [e1,r1];simp only;rw [r2];congr 1;omega
theorem x3l (d i:Int) (e:Bool) (seen:Nat) : ∀ (l:List S),(fuL d i e l).map (fun x=>x.s.id)=KE seen (cntL l)->(∀ x∈fuL d i e l,x.deep<=12∧oneOk x.s=true)->seen+cntL l<=200->UR d seen l=some ((seen+cntL l:Nat):Int)
 | [],_,_,_=>by rw [UR,cntL];rfl
 | t::r,h1,h2,h3=>by
   rw [fuL] at h1 h2;have hc:cntL (t::r)=ZB t+cntL r:=by rw [cntL]
   rw [hc] at h1 h3 ⊢;rw [GQ,List.map_append] at h1;have hlen:((fuS d i e t).map fun x=>x.s.id).length=(KE seen (ZB t)).length:=by
    have:=NK d i e [t];rw [fuL,fuL,append_nil,cntL,cntL] at this;rw [length_map,this];unfold KE;simp
   obtain ⟨ha,hb⟩:=List.append_inj h1 hlen;have hd:d<=12:=by
    have:(⟨t,d,i,e⟩:RI)∈fuS d i e t++fuL d i e r:=List.mem_append.2 (.inl (by rw [z5p];exact mem_cons_self));exact (h2 _ this).1
   have r1:=w4f d i e seen t ha (fun x hx=>h2 x (List.mem_append.2 (.inl hx))) (by omega);have r2:=x3l d i e (seen+ZB t) r hb (fun x hx=>h2 x (List.mem_append.2 (.inr hx))) (by omega);rw [UR,if_neg (by omega),r1];simp only;rw [r2];congr 1;omega
end
theorem x7x : ∀ (l:List Pr) (seen:Nat),(∀ f∈l,JH f=true)->((l.flatMap flatU).map fun x=>x.s.id)=KE seen (cntP l)->(∀ x∈l.flatMap flatU,x.deep<=12∧oneOk x.s=true)->seen+cntP l<=200->(XR seen l).isSome=true
 | [],_,_,_,_,_=>rfl
 | f::r,seen,h1,h2,h3,h4=>by
   rw [List.flatMap_cons] at h2 h3;have hc:cntP (f::r)=cntL f.body+cntP r:=by rw [cntP]
   rw [hc] at h2 h4;rw [GQ,List.map_append] at h2;have hlen:((flatU f).map fun x=>x.s.id).length=(KE seen (cntL f.body)).length:=by
    unfold flatU;rw [length_map,NK];unfold KE;simp
   obtain ⟨ha,hb⟩:=List.append_inj h2 hlen;have r1:=x3l 1 0 false seen f.body ha (fun x hx=>h3 x (List.mem_append.2 (.inl hx))) (by omega);have r2:=x7x r (seen+cntL f.body) (fun g hg=>h1 g (mem_cons_of_mem _ hg)) hb (fun x hx=>h3 x (List.mem_append.2 (.inr hx))) (by omega);rw [XR,h1 f mem_cons_self,cond_true,r1];exact r2
theorem z3v : ∀ (l:List Pr) (out:List RI),(FR l out).length<=200->(∀ x∈FR l out,x.deep<=12)->FR l out=out++l.flatMap flatU:=by
 intro l;induction l with
 | nil=>intro out _ _;show out=_;simp
 | cons f r ih =>
   intro out h1 h2;have mono : ∀ (r:List Pr) (o:List RI),o.length<=(FR r o).length:=fun r=>by
    induction r with
    | nil=>exact fun o=>Nat.le_refl _
    | cons g r ih =>
      intro o;show _<=(FR r (if o.length<=200 then o++UG g else o)).length;have:=ih (if o.length<=200 then o++UG g else o);split at this
      ·rw [if_pos (by assumption)];simp only [length_append] at this;omega
      ·rw [if_neg (by assumption)];exact this
   have e0:FR (f::r) out=FR r (if out.length<=200 then out++UG f else out):=rfl;rw [e0] at h1 h2 ⊢;have hm:=mono r (if out.length<=200 then out++UG f else out);have ho:out.length<=200:=by
    refine Classical.byContradiction fun hq => ?_;rw [if_neg hq] at hm h1;omega
   rw [if_pos ho] at h1 h2 hm ⊢;have h3:=ih _ h1 h2;rw [h3] at h2 h1 ⊢;simp only [length_append] at h1;have h4:=w0f 12 f.body 0 false [] (by show (UG f).length<=200;omega) (fun x hx=>h2 x (List.mem_append.2 (.inl (List.mem_append.2 (.inr hx)))));have h5:UG f=flatU f:=by simpa [UG,flatU] using h4
   rw [h5];simp
theorem w7z {p:Pg} (h1:p.globals.length<=16) (h2:p.procs.length<=16) (h3:namesB p.globals=true) (h4 : ∀ f∈p.procs,JH f=true) (h5:(allR p).length<=200) (h6 : ∀ (k:Nat) (x:RI),(allR p)[k]? = some x->x.s.id=(k:Int)+1∧x.deep<=12∧oneOk x.s=true):YS p=true:=by
 have hmem : ∀ x∈allR p,x.deep<=12∧oneOk x.s=true:=fun x hx=>by
  obtain ⟨k,hk,rfl⟩:=List.mem_iff_getElem.1 hx;exact (h6 k _ (List.getElem?_eq_getElem hk)).2
 have he:allR p=p.procs.flatMap flatU:=by
  have:=z3v p.procs [] h5 (fun x hx=>(hmem x hx).1);simpa [allR] using this
 have hids:(p.procs.flatMap flatU).map (fun x=>x.s.id)=KE 0 (cntP p.procs):=by
  refine List.ext_getElem? fun k => ?_;rw [List.getElem?_map,<- he];rcases Nat.lt_or_ge k (allR p).length with hk|hk
  ·have hk2:k<cntP p.procs:=by rw [<- NC,<- he];exact hk
   rw [List.getElem?_eq_getElem hk];have:=(h6 k _ (List.getElem?_eq_getElem hk)).1;unfold KE;rw [List.getElem?_map,List.getElem?_range' hk2];simp only [Option.map_some,this];congr 1;omega
  ·have hk2:cntP p.procs<=k:=by rw [<- NC,<- he];exact hk
   rw [List.getElem?_eq_none hk,List.getElem?_eq_none (by unfold KE;simpa using hk2)];rfl
 have hlen:0+cntP p.procs<=200:=by rw [<- NC,<- he];omega
 have:=x7x p.procs 0 h4 hids (fun x hx=>hmem x (by rw [he];exact hx)) hlen;unfold YS;rw [decide_eq_true h1,decide_eq_true h2,h3];exact this
def spo (out:List Str) (s:Str):List Str:=if (out.any fun y=>s==y)=false then out++[s] else out
theorem w3x (x:X) (out:List Str):q8h x out=KY x.kids (if x.op=2 then spo out x.name else out):=by
 rw [x2u];unfold spo;by_cases h:x.op=2
 ·rw [if_pos h];by_cases h2:(out.any fun y=>x.name==y)=false
  ·rw [if_pos ⟨h,h2⟩,if_pos h2]
  ·rw [if_neg (fun hh=>h2 hh.2),if_neg h2]
 ·rw [if_neg h,if_neg (fun hh=>h hh.1)]
theorem PM (out:List Str) (s:Str) (ho:out.length<=1073741824):SpecH Tryz.prog 254 [.hd 2000 0 out.length,.p (.str s)] (x1c 9 out) (fun r H=>r = .hd 2000 0 (spo out s).length∧H=x1c 9 (spo out s)):=by
 refine sH FP Tryz.func254 rfl Tryz.call254 ?_;conv=>whnf
 repeat' (refine iM fun _=>?_;conv=>whnf)
 have hl:(out.map AV.str).length=out.length:=length_map _;refine LoopK.inv QY (fun j:Nat=>⟨[(0,.hd 2000 0 out.length),(1,.p (.str s)),(7,.hd 2000 0 out.length),(8,.p (.int .i64 out.length)),(9,.p (.int .i64 j))],x1c 9 out⟩) (fun j=>j<=out.length∧(out.drop j).any (fun y=>s==y)=out.any fun y=>s==y) (fun j=>out.length-j) 0 (Le.of_eq rfl) ⟨zero_le _,rfl⟩ ?_;rintro j ⟨h2,h3⟩;rcases Nat.lt_or_ge j out.length with hj|hj
 ·have g:(out.map AV.str)[j]? = some (.str out[j]):=by simp [hj]
  conv=>whnf
  repeat' (first|((first|refine And.intro rfl ?_|refine wI ?_|refine IdxL.mk j rfl (by omega) ?_|refine LdOwn.mk j 0 _ (by omega) g ?_);conv=>whnf)|(apply bD<;>intro _<;>first|omega|conv=>whnf)|(apply bB<;>intro _<;>conv=>whnf))
  ·have he:(s==out[j])=true:=by rw [Bool.beq_comm];assumption
   have e:=q1t (p:=fun y=>s==y) hj he;rw [h3] at e;have hs:spo out s=out:=by unfold spo;rw [if_neg (by rw [e];decide)]
   exact ⟨_,.refl _,by rw [hs];exact ⟨rfl,rfl⟩⟩
  ·have he:(s==out[j])=false:=by rw [Bool.beq_comm];assumption
   exact ⟨j+1,⟨by omega,by rw [<- h3,LG (p:=fun y=>s==y) hj he]⟩,by omega,Le.of_eq rfl⟩
 ·have e:=GX (p:=fun y=>s==y) (l:=out) hj;rw [h3] at e;have hs:spo out s=out++[s]:=by unfold spo;rw [if_pos e]
  rw [hs];conv=>whnf
  repeat' (first|((first|refine And.intro rfl ?_|refine aD ?_|refine bP ?_|refine QC (by simp) (by simp;omega) ?_);conv=>whnf)|(apply bD<;>intro _<;>first|omega|conv=>whnf))
  exact ⟨_,.refl _,by simp only [x1c,length_append,List.map_append];exact ⟨rfl,rfl⟩⟩
theorem q1j : ∀ (n:Nat) (_:n<=20) (x:X) (_:WK n x=true) (out:List Str) (_:out.length+2 ^ n<=1073741824),
  SpecH Tryz.prog 167 [.p (.agg x.cells),.hd 2000 0 out.length] (x1c 9 out) (fun r H=>r = .hd 2000 0 (q8h x out).length∧H=x1c 9 (q8h x out)):=by
 intro n;induction n with
 | zero=>intro _ x h;rw [WK] at h;cases h
 | succ n ih =>
   intro hn x hx out ho;have hp:2 ^ (n+1)=2*2 ^ n:=by rw [Nat.pow_succ];omega
   have hpos:0<2 ^ n:=Nat.pow_pos (by decide);obtain ⟨hk1,hk2,hk3⟩:=q2q hx;have hxl:=X.avs_len x.kids;have hmul : ∀ j,j<x.kids.length->(x.kids.length-j)*2 ^ n=(x.kids.length-(j+1))*2 ^ n+2 ^ n:=fun j hj=>by
    rw [show x.kids.length-j=(x.kids.length-(j+1))+1 by omega,Nat.add_mul,Nat.one_mul]
   have hmul0:x.kids.length*2 ^ n<=2*2 ^ n:=Nat.mul_le_mul_right _ hk1;have hspl:(spo out x.name).length<=out.length+1:=by unfold spo;split<;>simp
   have hg:=w3x x out;have hz:x.op=2->x.kids.length*2 ^ n=0:=fun h=>by rw [hk2 h,Nat.zero_mul]
   rw [hg];have hS:=PM out x.name (by omega);have hlen:(if x.op=2 then spo out x.name else out).length+x.kids.length*2 ^ n<=1073741824:=by
    split
    ·rename_i h;have:=hz h;omega
    ·omega
   clear hg;refine sH PZ Tryz.func167 rfl Tryz.call167 ?_;conv=>whnf
   generalize spo out x.name=o2 at *
   repeat' (first|(refine iM fun _=>?_;conv=>whnf)|(apply bD<;>intro _<;>first|omega|conv=>whnf)|(refine CallK.heap [(2000,2000)] 0 (by repeat' (first|exact ArgsH.nil|refine ArgsH.cons ?_ ?_|exact LSub.refl _|exact LSub.p Sub.nils|exact LSub.p (Sub.tt rfl)|exact LSub.p (Sub.ff rfl)|exact LSub.p (Sub.int (by omega)))) (by refine BlksH.cons (j:=2000) rfl rfl ?_ ?_;exact CSub.refl _;exact BlksH.nil) hS rfl rfl ?_;rintro l' H' ⟨rfl,rfl⟩;conv=>whnf))
   all_goals
    first
    | rw [if_pos (by assumption)] at hlen ⊢
    | rw [if_neg (by assumption)] at hlen ⊢
   rotate_left 1;generalize out=o2 at *
   all_goals
    refine LoopK.inv QY (fun i:Nat×List Str=>⟨[(1,.hd 2000 0 i.2.length),(2,.p (.ip x.cells)),(15,.p (.int .i64 (X.avs x.kids).length)),(16,.p (.int .i64 i.1))],x1c 9 i.2⟩) (fun i=>i.1<=x.kids.length∧KY (x.kids.drop i.1) i.2=KY x.kids o2∧i.2.length+(x.kids.length-i.1)*2 ^ n<=1073741824) (fun i=>x.kids.length-i.1) (0,o2) (Le.of_eq rfl) ⟨zero_le _,rfl,by simpa using hlen⟩ ?_;rintro ⟨j,acc⟩ ⟨h2,h3,h4⟩;simp only at h2 h3 h4 ⊢;rcases Nat.lt_or_ge j x.kids.length with hj|hj
    ·have hm:=hmul j hj;have hg:=x9f n x.kids[j] acc (hk3 _ (List.getElem_mem hj));have hI:=ih (by omega) x.kids[j] (hk3 _ (List.getElem_mem hj)) acc (by omega);conv=>whnf
     repeat' (first|((first|refine IdxK.xs (by omega) ?_|refine wI ?_);conv=>whnf)|(apply bD<;>intro _<;>first|omega|conv=>whnf)|(refine CallK.heap [(2000,2000)] 0 (by repeat' (first|exact ArgsH.nil|refine ArgsH.cons ?_ ?_|exact LSub.refl _|exact LSub.p Sub.nils|exact LSub.p (Sub.tt rfl)|exact LSub.p (Sub.ff rfl)|exact LSub.p (Sub.int (by omega)))) (by refine BlksH.cons (j:=2000) rfl rfl ?_ ?_;exact CSub.refl _;exact BlksH.nil) hI rfl rfl ?_;rintro l' H' ⟨rfl,rfl⟩;conv=>whnf))
     all_goals exact ⟨(j+1,q8h x.kids[j] acc),⟨by simp only;omega,by simp only;rw [<- h3,x0v hj],by simp only;omega⟩,by simp only;omega,Le.of_eq rfl⟩
    ·rw [x5i (by omega)] at h3;conv=>whnf
     repeat' (apply bD<;>intro _<;>first|omega|conv=>whnf)
     exact ⟨_,.refl _,by rw [h3];exact ⟨rfl,rfl⟩⟩
theorem GN (x:X):SpecP Tryz.prog 166 [.agg x.cells] (fun r=>r = .bool (z3w x)):=by
 refine sB VM Tryz.func166 rfl Tryz.call166 ?_;conv=>whnf
 repeat' (first|((first|(refine CallK.pure (KW 20 (by omega) x) (.cons (Sub.refl _) (.cons (Sub.refl _) .nil)) ?_;rintro _ rfl)|(refine CallK.pure (KN (wX x+1) x (by omega)) (.cons (Sub.refl _) .nil) ?_;rintro _ rfl));conv=>whnf)|(apply bD<;>intro _<;>first|omega|conv=>whnf))
 all_goals rw [<- x8t]
 all_goals first
  | exact RetK.bool (by unfold mayXR;rw [decide_eq_true (by omega)];rfl)
  | exact RetK.ff (by unfold mayXR;rw [decide_eq_false (by omega)];rfl)
theorem JV (x:X):SpecP Tryz.prog 96 [.agg x.cells] (fun r=>r=eStrs (XZ x)):=by
 refine sB BG Tryz.func96 rfl Tryz.call96 ?_;conv=>whnf
 have hM:=GN x;unfold XZ;cases hm:z3w x with
 | false =>
   rw [hm] at hM;repeat' (first|(refine cP hM ?_;conv=>whnf)|(apply bN<;>intro _<;>conv=>whnf))
   all_goals first
    | exact ⟨_,.p Sub.nils,rfl⟩
    | (exfalso;simp_all;done)
 | true =>
   rw [hm] at hM;repeat' (first|(refine cP hM ?_;conv=>whnf)|(apply bN<;>intro _<;>conv=>whnf))
   all_goals first
    | (exfalso;simp_all;done)
    | (refine CallK.nil 5 9 1 rfl (.cons rfl (.row .nil)) ?_
       refine CallK.heap [(2000,5)] 0 (by repeat' (first|exact ArgsH.nil|refine ArgsH.cons ?_ ?_|exact LSub.refl _|exact LSub.p Sub.nils|exact LSub.p (Sub.tt rfl)|exact LSub.p (Sub.ff rfl)|exact LSub.p (Sub.int (by omega)))) (by refine BlksH.cons (j:=5) rfl rfl ?_ ?_;exact CSub.refl _;exact BlksH.nil) (q1j 20 (by omega) x (by assumption) [] (by simp)) rfl rfl ?_;rintro l' H' ⟨rfl,rfl⟩;conv=>whnf
       exact ⟨_,.hd rfl (by simp),rfl⟩)
theorem q5n {s:S} (h:oneOk s=true->False):oneOk s=false:=by
 cases hq:oneOk s with
 | false=>rfl
 | true=>exact (h hq).elim
theorem PV (s:S):SpecP Tryz.prog 173 [.agg s.cells] (fun r=>r = .bool (oneOk s)):=by
 refine sB LE Tryz.func173 rfl Tryz.call173 ?_;conv=>whnf
 have hal:(s.args.map fun a=>AV.agg a.cells).length=s.args.length:=length_map _;have htl:((S.avs s.thn).length:Int)=s.thn.length:=by rw [S.avs_len]
 have hel:((S.avs s.els).length:Int)=s.els.length:=by rw [S.avs_len]
 repeat' (first|((first|(refine iM fun _=>?_)|refine cP (XP _) ?_|refine cP (VU _) ?_|refine cP (KR _) ?_|refine cP (UB _) ?_|refine DV QY rfl rfl rfl rfl rfl ?_);conv=>whnf)|(apply bD<;>intro _<;>first|omega|conv=>whnf)|(apply bE<;>intro _<;>first|omega|conv=>whnf)|(apply bN<;>intro _<;>conv=>whnf)|(apply bB<;>intro _<;>conv=>whnf))
 all_goals simp only [show (ByteArray.mk #[]).data.toList=[] from rfl] at *
 all_goals first
  | (refine RetK.ff (q5n fun h => ?_)
     obtain ⟨f1,f2,f3,f4,f5,f6,f7,f8,f9,f10,f11,f12,f13,f14⟩:=YJ h;first
      | omega
      | (exfalso;simp_all [hasXB];done)
      | (exfalso;simp_all [hasXB];omega)
      | (rename_i hq
         by_cases hk:s.kind=4
         ·have h15:=x0f (f9 hk);simp_all
          done
         ·have h15:=f10 hk;simp_all
          done))
  | skip
 all_goals
  have G:s.args.all argR=true->(s.thn.length=0∨s.kind=5∨s.kind=6)->(s.els.length=0∨s.kind=5)->oneOk s=true:=fun g1 g2 g3=>by
   refine w0k ⟨by assumption,by omega,by omega,fun q => ?_,fun q => ?_,fun q => ?_,fun q => ?_,fun q => ?_,fun q => ?_,fun q => ?_,g1,fun q => ?_,g2,g3⟩;all_goals clear hal htl hel g1 g2 g3
   all_goals first
    | omega
    | assumption
    | (simp_all [hasXB];done)
    | (simp_all [hasXB];omega)
    | (have h4:(s.kind==4) = !(s.proc==[]):=by assumption
       have h5:(s.kind==4)=false:=beq_eq_false_iff_ne.2 (by assumption);rw [h5] at h4
       revert h4
       cases (s.proc==[])<;>simp
       done)
    | trace_state
  refine LoopK.inv QY (fun j:Nat=>⟨[(1,.p (.ip s.cells)),(143,.p (.sl (s.args.map fun a => .agg a.cells))),(144,.p (.int .i64 (s.args.map fun a=>AV.agg a.cells).length)),(145,.p (.int .i64 j))],[]⟩) (fun j=>j<=s.args.length∧(s.args.drop j).all argR=s.args.all argR) (fun j=>s.args.length-j) 0 (Le.of_eq rfl) ⟨zero_le _,rfl⟩ ?_;rintro j ⟨h2,h3⟩;rcases Nat.lt_or_ge j s.args.length with hj|hj
  ·conv=>whnf
   repeat' (first|((first|refine cP (q3k _) ?_|refine And.intro rfl ?_|(refine iA fun _=>?_)|refine wI ?_);conv=>whnf)|(apply bD<;>intro _<;>first|omega|conv=>whnf)|(apply bN<;>intro _<;>conv=>whnf))
   all_goals first
    | exact ⟨j+1,⟨hj,by rw [GR hj (by assumption)];exact h3⟩,by omega,Le.of_eq rfl⟩
    | (refine RetK.ff (q5n fun h => ?_)
       have h4:=List.all_eq_true.1 (YJ h).args _ (List.getElem_mem hj);simp_all)
  ·rw [GV hj] at h3;have G:=G h3.symm;conv=>whnf
   repeat' (first|(refine iM fun _=>?_;conv=>whnf)|(apply bD<;>intro _<;>first|omega|conv=>whnf))
   all_goals first
    | exact RetK.tt (G (by omega) (by omega))
    | (refine RetK.ff (q5n fun h => ?_)
       have F1:=(YJ h).thn;have F2:=(YJ h).els;omega)
    | (refine RetK.bool ?_
       first
        | rw [Bool.eq_iff_iff,beq_iff_eq]
        | rw [Bool.eq_iff_iff,decide_eq_true_eq]
       exact ⟨fun q=>G (by omega) (by omega),fun h=>by have F1:=(YJ h).thn;have F2:=(YJ h).els;omega⟩)
    | trace_state
theorem FH {p:Pg} (h:YS p=true->False):YS p=false:=by
 cases hq:YS p with
 | false=>rfl
 | true=>exact (h hq).elim
theorem BI (p:Pg):SpecP Tryz.prog 104 [.agg p.cells] (fun r=>r = .bool (YS p)):=by
 refine sB LB Tryz.func104 rfl Tryz.call104 ?_;conv=>whnf
 have hgl:(p.globals.map AV.str).length=p.globals.length:=length_map _;have hpl:(p.procs.map fun f=>AV.agg f.cells).length=p.procs.length:=length_map _;repeat' (first|((first|(refine iM fun _=>?_)|refine cP (VU _) ?_);conv=>whnf)|(apply bD<;>intro _<;>first|omega|conv=>whnf)|(apply bN<;>intro _<;>conv=>whnf))
 all_goals first
  | (refine RetK.ff (FH fun h => ?_)
     have F:=JI h;have F1:=F.gl;have F2:=F.pl;have F3:=F.gn;first
      | omega
      | (simp_all;done))
  | skip
 have G1:p.globals.length<=16:=by omega
 have G2:p.procs.length<=16:=by omega
 have G3:namesB p.globals=true:=by assumption
 refine LoopK.inv QY (fun j:Nat=>⟨[(1,.p (.ip p.cells)),(26,.p (.sl (p.procs.map fun f => .agg f.cells))),(27,.p (.int .i64 (p.procs.map fun f=>AV.agg f.cells).length)),(28,.p (.int .i64 j))],[]⟩) (fun j=>j<=p.procs.length ∧ ∀ m (hm:m<p.procs.length),m<j->JH p.procs[m]=true) (fun j=>p.procs.length-j) 0 (Le.of_eq rfl) ⟨zero_le _,fun m hm h=>absurd h (Nat.not_lt_zero _)⟩ ?_;rintro j ⟨h2,G4⟩;rcases Nat.lt_or_ge j p.procs.length with hj|hj
 ·have hpm:(p.procs[j].params.map fun a=>AV.agg a.cells).length=p.procs[j].params.length:=length_map _;have hvs:(p.procs[j].vars.map AV.str).length=p.procs[j].vars.length:=length_map _;conv=>whnf
  repeat' (first|((first|(refine iM fun _=>?_)|refine cP (VU _) ?_|refine cP (XP _) ?_|refine And.intro rfl ?_|(refine iA fun _=>?_));conv=>whnf)|(apply bD<;>intro _<;>first|omega|conv=>whnf)|(apply bN<;>intro _<;>conv=>whnf))
  all_goals first
   | (refine RetK.ff (FH fun h => ?_)
      obtain ⟨F1,F2,F3,F4,F5,F6⟩:=(JI h).pr _ (List.getElem_mem hj);first
       | omega
       | (simp_all;done))
   | skip
  have G5:(p.procs[j].params.all fun a=>isName a.name)=true->JH p.procs[j]=true:=fun g=>YM.2 ⟨by omega,by omega,by assumption,by assumption,by assumption,g⟩;refine LoopK.inv QY (fun k:Nat=>⟨[(1,.p (.ip p.cells)),(26,.p (.sl (p.procs.map fun f => .agg f.cells))),(27,.p (.int .i64 (p.procs.map fun f=>AV.agg f.cells).length)),(28,.p (.int .i64 j)),(61,.p (.sl (p.procs[j].params.map fun a => .agg a.cells))),(62,.p (.int .i64 (p.procs[j].params.map fun a=>AV.agg a.cells).length)),(63,.p (.int .i64 k))],[]⟩) (fun k=>k<=p.procs[j].params.length∧(p.procs[j].params.drop k).all (fun a=>isName a.name)=p.procs[j].params.all fun a=>isName a.name) (fun k=>p.procs[j].params.length-k) 0 (Le.of_eq rfl) ⟨zero_le _,rfl⟩ ?_;rintro k ⟨h3,h4⟩;rcases Nat.lt_or_ge k p.procs[j].params.length with hk|hk
  ·conv=>whnf
   repeat' (first|((first|refine cP (XP _) ?_|refine And.intro rfl ?_|(refine iA fun _=>?_)|refine wI ?_);conv=>whnf)|(apply bD<;>intro _<;>first|omega|conv=>whnf)|(apply bN<;>intro _<;>conv=>whnf))
   ·exact ⟨k+1,⟨hk,by rw [<- h4,GR (p:=fun a:Param=>isName a.name) hk (by assumption)]⟩,by omega,Le.of_eq rfl⟩
   ·refine RetK.ff (FH fun h => ?_);have h5:=List.all_eq_true.1 ((JI h).pr _ (List.getElem_mem hj)).2.2.2.2.2 _ (List.getElem_mem hk);simp_all
  ·rw [GV hk] at h4;have G6:=G5 h4.symm;conv=>whnf
   repeat' (first|(refine wI ?_;conv=>whnf)|(apply bD<;>intro _<;>first|omega|conv=>whnf))
   refine ⟨j+1,⟨hj,fun m hm hmj => ?_⟩,by omega,Le.of_eq rfl⟩;rcases Nat.lt_or_ge m j with h5|h5
   ·exact G4 m hm h5
   ·obtain rfl:m=j:=by omega
    exact G6
 ·have G5 : ∀ f∈p.procs,JH f=true:=fun f hf=>by
   obtain ⟨m,hm,rfl⟩:=List.mem_iff_getElem.1 hf;exact G4 m hm (by omega)
  conv=>whnf
  have hrl:=q9e (allR p);repeat' (first|((first|(refine iM fun _=>?_)|refine cP (HQ _) ?_);conv=>whnf)|(apply bD<;>intro _<;>first|omega|conv=>whnf))
  ·refine RetK.ff (FH fun h => ?_);have:=(JI h).len;omega
  have G6:(allR p).length<=200:=by omega
  refine LoopK.inv QY (fun k:Nat=>⟨[(7,.p (w6e (allR p))),(79,.p (.int .i64 ((allR p).map fun i=>AV.agg i.cells).length)),(80,.p (.int .i64 k))],[]⟩) (fun k=>k<=(allR p).length ∧ ∀ (m:Nat) (x:RI),m<k->(allR p)[m]? = some x->x.s.id=(m:Int)+1∧x.deep<=12∧oneOk x.s=true) (fun k=>(allR p).length-k) 0 (Le.of_eq rfl) ⟨zero_le _,fun m x h=>absurd h (Nat.not_lt_zero _)⟩ ?_;rintro k ⟨h3,G7⟩;rcases Nat.lt_or_ge k (allR p).length with hk|hk
  ·conv=>whnf
   have F:=fun h:YS p=true=>(JI h).its k _ (List.getElem?_eq_getElem hk);repeat' (first|((first|(refine iA fun _=>?_)|refine wI ?_|refine cP (PV (allR p)[k].s) ?_);conv=>whnf)|(apply bD<;>intro _<;>first|omega|conv=>whnf)|(apply bE<;>intro _<;>first|omega|conv=>whnf)|(apply bN<;>intro _<;>conv=>whnf))
   all_goals first
    | (refine ⟨k+1,⟨hk,fun m x hm hx => ?_⟩,by omega,Le.of_eq rfl⟩
       rcases Nat.lt_or_ge m k with h5|h5
       ·exact G7 m x h5 hx
       ·obtain rfl:m=k:=by omega
        rw [List.getElem?_eq_getElem hk] at hx;obtain rfl:=Option.some.inj hx;exact ⟨by omega,by omega,by assumption⟩)
    | (refine RetK.ff (FH fun h => ?_)
       obtain ⟨F1,F2,F3⟩:=F h;first
        | omega
        | (simp_all
           done))
  ·conv=>whnf
   repeat' (apply bD<;>intro _<;>first|omega|conv=>whnf)
   exact RetK.tt (w7z G1 G2 G3 G5 G6 fun m x hx=>G7 m x (by have:=(List.getElem?_eq_some_iff.1 hx).1;omega) hx)
def procM (p:Pg) (n:Str):Pr×Bool:=bif YS p then z8a p n else (Pr0,false)
theorem BZ (p:Pg) (n:Str):SpecP Tryz.prog 42 [.agg p.cells,.str n] (fun r=>r = .tup [.agg (procM p n).1.cells,.bool (procM p n).2]):=by
 refine sB NN Tryz.func42 rfl Tryz.call42 ?_;conv=>whnf
 have hpl:(p.procs.map fun f=>AV.agg f.cells).length=p.procs.length:=length_map _;repeat' (first|((first|(refine iM fun _=>?_)|refine cP (BI _) ?_|refine And.intro rfl ?_);conv=>whnf)|(apply bB<;>intro _<;>conv=>whnf))
 ·have hM:procM p n=z8a p n:=by unfold procM;rw [show YS p=true by assumption];rfl
  rw [hM];refine LoopK.inv QY (fun j:Nat=>⟨[(1,.p (.str n)),(4,.ptr 1 0),(11,.p (.sl (p.procs.map fun f => .agg f.cells))),(12,.p (.int .i64 (p.procs.map fun f=>AV.agg f.cells).length)),(13,.p (.int .i64 j))],[(1,.obj 68 [.p (.str []),.p .nils,.p .nils,.p .nils,.p .nils])]⟩) (fun j=>j<=p.procs.length∧(p.procs.drop j).find? (fun f=>f.name==n)=p.procs.find? fun f=>f.name==n) (fun j=>p.procs.length-j) 0 (Le.of_eq rfl) ⟨zero_le _,rfl⟩ ?_;rintro j ⟨h2,h3⟩;rcases Nat.lt_or_ge j p.procs.length with hj|hj
  ·rw [QG hj,List.find?_cons] at h3;conv=>whnf
   repeat' (first|((first|refine And.intro rfl ?_|(refine iA fun _=>?_)|refine wI ?_);conv=>whnf)|(apply bD<;>intro _<;>first|omega|conv=>whnf)|(apply bB<;>intro _<;>conv=>whnf))
   ·have hn:(p.procs[j].name==n)=true:=by assumption
    rw [hn] at h3;exact ⟨_,.p (Sub.tup (SubL.cons (Sub.refl _) (SubL.cons (Sub.tt rfl) SubL.nil))),by unfold z8a;rw [<- h3];first|done|rfl⟩
   ·have hn:(p.procs[j].name==n)=false:=by assumption
    rw [hn] at h3;exact ⟨j+1,⟨hj,h3⟩,by omega,Le.of_eq rfl⟩
  ·rw [List.drop_eq_nil_of_le hj,List.find?_nil] at h3;conv=>whnf
   repeat' (first|(refine And.intro rfl ?_;conv=>whnf)|(apply bD<;>intro _<;>first|omega|conv=>whnf))
   exact ⟨_,.p (Sub.tup (SubL.cons z8k (SubL.cons (Sub.ff rfl) SubL.nil))),by unfold z8a;rw [<- h3];first|done|rfl⟩
 ·have hM:procM p n=(Pr0,false):=by unfold procM;rw [show YS p=false by assumption];rfl
  rw [hM];exact ⟨_,.p (Sub.tup (SubL.cons z8k (SubL.cons (Sub.ff rfl) SubL.nil))),rfl⟩
theorem q1w (t:S) (ha:t.args.length<=20000):SpecP Tryz.prog 44 [.agg t.cells] (fun r=>r=eStrs (namesT t)):=by
 refine sB BO Tryz.func44 rfl Tryz.call44 ?_;conv=>whnf
 repeat' (first|((first|(refine iM fun _=>?_)|refine cP (JV _) ?_|refine And.intro rfl ?_|refine aD ?_|refine bP ?_|refine VF _ (by simp) (by have:=ZK t.x;simp;omega) ?_|refine QC (by simp) (by simp) ?_);conv=>whnf)|(apply bE<;>intro _<;>first|omega|conv=>whnf)|(apply bN<;>intro _<;>conv=>whnf))
 all_goals simp only [show (ByteArray.mk #[]).data.toList=[] from rfl] at *
 all_goals
  have hl:(t.args.map fun a=>AV.agg a.cells).length=t.args.length:=length_map _;refine LoopK.inv QY (HV t 9) (fun j=>j<=t.args.length) (fun j=>t.args.length-j) 0 (Le.of_eq ?_) (zero_le _) ?_
  ·first
    | (have e:x2z t 0=XZ t.x:=by simp [x2z,JQ,show t.kind=10 by assumption]
       rw [HV,e];simp only [Nat.zero_add,length_map,length_append,List.map_append,nil_append];rfl)
    | (have e:x2z t 0=XZ t.x:=by simp [x2z,JQ,show t.name=[] by simpa using (show (t.name==[])=true by assumption)]
       rw [HV,e];simp only [Nat.zero_add,length_map,length_append,List.map_append,nil_append];rfl)
    | (have e:x2z t 0=[t.name]++XZ t.x:=by
        have:(t.name==[])=false:=by assumption
        simp [x2z,JQ,show ¬t.kind=10 by assumption,this]
       rw [HV,e];simp only [Nat.zero_add,length_map,length_append,List.map_append,nil_append];rfl)
  intro j h2;have hacc:=z1k t h2 ha;conv=>whnf
  repeat' (first|((first|refine cP (JV _) ?_|refine And.intro rfl ?_|refine aD ?_|refine bP ?_|(refine iA fun _=>?_)|refine wI ?_|refine VF _ (by simp) (by have:=ZK (t.args[j]'(by omega)).x;simp;omega) ?_|refine QC (by simp) (by simp;omega) ?_);conv=>whnf)|(apply bD<;>intro _<;>first|omega|conv=>whnf)|(apply bB<;>intro _<;>conv=>whnf))
  all_goals first
   | exact ⟨_,.hd rfl (by simp),by
      have:t.args.take j=t.args:=take_of_length_le (by omega);rw [namesT,<- this];rfl⟩
   | (have hj:j<t.args.length:=by omega
      have hst:=x4r hj;refine ⟨j+1,by show j+1<=_;omega,by show t.args.length-(j+1)<t.args.length-j;omega,Le.of_eq ?_⟩;first
       | (have hn:VO t.args[j]=[t.args[j].name]++XZ t.args[j].x:=by rw [VO,show t.args[j].ref=true by assumption];rfl
          rw [HV,hst,hn];simp only [length_append,List.map_append,length_map,<- List.append_assoc,<- Nat.add_assoc];rfl)
       | (have hn:VO t.args[j]=XZ t.args[j].x:=by rw [VO,show t.args[j].ref=false by assumption];rfl
          rw [HV,hst,hn];simp only [length_append,List.map_append,length_map];rfl))
section
variable {p:Pg} {j:Nat} {f:Pr} {n:Str}
end
theorem w2x {p:Pg} (h:QO p=true) {f:Pr} (hf:f∈p.procs) : ∃ k,p.procs[k]? = some f∧x5t p f.name=some (QQ p k f):=by
 cases hw:x5t p f.name with
 | none =>
   exfalso;unfold x5t at hw;rw [h,cond_true] at hw;cases hq:p.procs.find? (fun g=>g.name==f.name) with
   | none =>
     have:=List.find?_eq_none.1 hq _ hf;simp at this
   | some g=>rw [hq] at hw;cases hw
 | some w =>
   obtain ⟨k,g,hkj,rfl,_,hgn,_⟩:=q5w hw;have he:g=f:=q4n (q6h h) g (List.mem_of_getElem? hkj) f hf hgn;subst he;exact ⟨k,hkj,rfl⟩
theorem w2z {p:Pg} (h:QO p=true) {id:Int} (hid:id∈q9b p 0) : ∃ k f t,p.procs[k]? = some f∧t∈flL f.body∧t.id=id∧x5t p (BB p id).2.1=some (QQ p k f):=by
 have hm:=(QP h).1;unfold q9b at hid;obtain ⟨x,hx,rfl⟩:=List.mem_map.1 hid;have hx:=(List.mem_filter.1 hx).1;rw [x3n hm] at hx;obtain ⟨g,hg,hxg⟩:=List.mem_flatMap.1 hx;rw [<- q4u hm hg] at hxg;unfold BB;cases hr:x5o p x.s.id with
 | none =>
   exfalso;unfold x5o at hr;have h1:=List.findSome?_eq_none_iff.1 hr g hg;unfold x7e at h1;rw [Option.map_eq_none_iff,List.find?_eq_none] at h1;exact h1 x hxg (by simp)
 | some y =>
   obtain ⟨y,nm⟩:=y;unfold x5o at hr;obtain ⟨f,hf,h1⟩:=List.exists_of_findSome?_eq_some hr;unfold x7e at h1;rw [Option.map_eq_some_iff] at h1;obtain ⟨z,h2,h3⟩:=h1;obtain rfl:z=y:=congrArg Prod.fst h3;have hnm:f.name=nm:=congrArg Prod.snd h3;obtain ⟨k,hk,hw⟩:=w2x h hf;refine ⟨k,f,z.s,hk,z5d h hk (List.mem_of_find?_eq_some h2),by simpa using List.find?_some h2,?_⟩;show x5t p nm=_;rw [<- hnm];exact hw
theorem w5d {l:List Int} (n:Int) (h:l≠[]):NB l n∈l:=by
 unfold NB;have hl:0<(l.length:Int):=by
  have:=List.length_pos_iff.2 h;omega
 have:=q4d (n:=n) hl;rw [if_neg h,getD_eq_getElem?_getD,List.getElem?_eq_getElem (by omega)];exact List.getElem_mem _
theorem w2m {p:Pg} (h:QO p=true) {j:Nat} {f:Pr} (hj:p.procs[j]? = some f) {y:Int}:y∈z7s (QQ p j f)↔0<y∧Rch (wR p j f) 0 y:=by
 have hn:(QQ p j f).n=(cntL f.body+2:Nat):=rfl;have hpl : ∀ i:Nat,1<=i->i<=cntL f.body->XK p j (cntL f.body+2:Nat) i=QL p.procs j+i:=fun i h1 h2=>by
  unfold XK loI;rw [if_neg (by omega),if_neg (by omega)];omega
 have hix : ∀ i:Nat,1<=i->i<=cntL f.body->(ixI p j f (QL p.procs j+i)).toNat=i:=fun i h1 h2=>by
  unfold ixI ZO loI hiI
  (repeat' split)<;>omega
 unfold z7s;rw [List.mem_map];constructor
 ·rintro ⟨i,hi,rfl⟩;obtain ⟨h1,h2⟩:=List.mem_filter.1 hi;rw [hn] at h1;have h3:=List.mem_range'_1.1 h1;have e1:=hpl i (by omega) (by omega);have e2:=hix i (by omega) (by omega);show 0<XK p j (cntL f.body+2:Nat) i∧Rch (wR p j f) 0 (XK p j (cntL f.body+2:Nat) i);rw [e1];refine ⟨by omega,(x1d h hj (.inr (.inr ⟨by omega,by omega⟩))).1 ?_⟩;rw [e2];exact h2
 ·rintro ⟨h0,h1⟩;have hp:plP p j f y:=by
   cases h1 with
   | refl=>exact .inl rfl
   | tail _ h2 =>
     obtain ⟨t,ht,_,rfl⟩:=h2;exact (ZY h hj t ht).2
  have h2:=(x1d h hj hp).2 h1;rcases hp with hp|hp|⟨h3,h4⟩
  ·omega
  ·omega
  obtain ⟨i,hi⟩ : ∃ i:Nat,y=QL p.procs j+i:=⟨(y-QL p.procs j).toNat,by omega⟩;subst hi;rw [hix i (by omega) (by omega)] at h2;refine ⟨i,List.mem_filter.2 ⟨List.mem_range'_1.2 ⟨by omega,?_⟩,h2⟩,hpl i (by omega) (by omega)⟩;rw [hn];omega
section
variable {p:Pg} {j:Nat} {f:Pr}
end
section
variable {p:Pg} {j:Nat} {f:Pr}
end
theorem w4y:Sub (.bool true) .tt:=fun _ _ hr=>by cases hr;exact .tt
def bkO (p:Pg) (O:List (List Str)):Book:=⟨sheetOf p,[],[],[],[],O⟩
def prA (p:Pg) (i:Nat):Pr:=p.procs.getD i Pr0
theorem q9i {p:Pg} {i:Nat} (h:i<p.procs.length):p.procs[i]? = some (prA p i):=by
 unfold prA;rw [getD_eq_getElem?_getD,List.getElem?_eq_getElem h];rfl
theorem FM {p:Pg} {i:Nat} {f:Pr} (h:p.procs[i]? = some f):prA p i=f:=by
 unfold prA;rw [getD_eq_getElem?_getD,h];rfl
def dfB (p:Pg) (O:List (List Str)):List (List Str):=(sheetOf p).l.map fun it=>VK (HU (bkO p O) it.s)
def otA (p:Pg) (D:List (List Str)) (i:Nat):List Str:=VK (x7g p i (prA p i) D (itsOf p i (prA p i)))
def otB (p:Pg) (D:List (List Str)):List (List Str):=(List.range p.procs.length).map (otA p D)
def rdO (p:Pg) (O:List (List Str)):List (List Str):=otB p (dfB p O)
def itO (p:Pg):Nat->List (List Str)
 | 0=>List.replicate p.procs.length []
 | k+1=>rdO p (itO p k)
theorem KV {l:List Str} (h:l.Pairwise ltT):l.Nodup:=List.Pairwise.imp (S:=fun a b=>a≠b) (fun {a b} (h1:ltT a b)=>fun (h2:a=b)=>q7d b (by rw [h2] at h1;exact h1)) h
theorem q7k (l:List Str):(VK l).length<=l.length:=FB (KV (YQ l)) fun s hs=>XF.1 hs
structure OkO (p:Pg) (O:List (List Str)):Prop where
 len:O.length=p.procs.length
 rise : ∀ o∈O,o.Pairwise ltT
 sub : ∀ i,i<p.procs.length -> ∀ n∈O.getD i [],outB p (prA p i) n=true
theorem MF {O:List (List Str)} (h : ∀ o∈O,o.Pairwise ltT) (i:Nat):(O.getD i []).Pairwise ltT:=by
 rw [getD_eq_getElem?_getD];rcases Nat.lt_or_ge i O.length with h1|h1
 ·rw [List.getElem?_eq_getElem h1];exact h _ (List.getElem_mem h1)
 ·rw [List.getElem?_eq_none h1];exact .nil
theorem KI {p:Pg} {n:Str}:comB p n=true↔n=tapeS∨n∈p.globals:=by
 unfold comB;simp only [Bool.or_eq_true,beq_iff_eq,List.any_eq_true,exists_eq_right']
theorem x0a {p:Pg} {f:Pr} {n:Str}:outB p f n=true↔(n=tapeS∨n∈p.globals)∨(⟨n,true⟩:Param)∈f.params:=by
 unfold outB;rw [Bool.or_eq_true,KI,decide_eq_true_eq]
theorem q0a {p:Pg} (h:QO p=true) (i:Nat):(prA p i).params.length<=8:=by
 rcases Nat.lt_or_ge i p.procs.length with h1|h1
 ·exact (YM.1 (x9w (QP h).1 (List.mem_of_getElem? (q9i h1)))).1
 ·unfold prA;rw [getD_eq_getElem?_getD,List.getElem?_eq_none h1];decide
theorem OkO.len25 {p:Pg} {O:List (List Str)} (hc:QO p=true) (h:OkO p O) (i:Nat):(O.getD i []).length<=25:=by
 rcases Nat.lt_or_ge i p.procs.length with h1|h1
 ·have h2:=FB (m:=tapeS::p.globals++(prA p i).params.map Param.name) (KV (MF h.rise i)) fun n hn=>by
   rcases x0a.1 (h.sub i h1 n hn) with (rfl|h3)|h3
   ·exact List.mem_append_left _ mem_cons_self
   ·exact List.mem_append_left _ (mem_cons_of_mem _ h3)
   ·exact List.mem_append_right _ (List.mem_map.2 ⟨_,h3,rfl⟩)
  have h3:=q0a hc i;have h4:=(ZZ hc).1;rw [length_append,length_cons,length_map] at h2;omega
 ·rw [getD_eq_getElem?_getD,List.getElem?_eq_none (by rw [h.len];exact h1)];exact zero_le _
theorem DY {p:Pg} (h:QO p=true) {t:S} (ht:t∈VA p) (h4:t.kind=4) : ∃ k,k<p.procs.length∧caI p t=(k:Nat)∧caP p t=prA p k∧(prA p k).name=t.proc∧(prA p k).params.map Param.ref=t.args.map Arg.ref:=by
 obtain ⟨_,hs,ha,_⟩:=QP h;have hf:=(z5r hs).1 ha t ht h4;unfold FX at hf;rw [Bool.and_eq_true] at hf;have hf2:=hf.2;cases hq:p.procs.find? (fun f=>f.name==t.proc) with
 | none=>rw [hq] at hf2;cases hf2
 | some f =>
   rw [hq] at hf2;have hn:t.proc∈QH p:=List.mem_map.2 ⟨f,List.mem_of_find?_eq_some hq,by simpa using List.find?_some hq⟩;obtain ⟨k,hk,h1,_,h3,h5⟩:=q4s hn;rw [hq] at h3;have hkf:p.procs[k]=f:=(Option.some.inj h3).symm;have hp:prA p k=f:=by rw [<- hkf];exact FM (List.getElem?_eq_getElem hk)
   have hci:caI p t=(k:Nat):=h1;refine ⟨k,hk,hci,?_,?_,?_⟩
   ·unfold caP;rw [hci];rfl
   ·rw [hp,<- hkf];exact h5
   ·rw [hp];unfold z3n at hf2;exact of_decide_eq_true hf2
theorem MM {p:Pg} (h:QO p=true) {t:S} (ht:t∈VA p) (h4:t.kind=4):t.args.length=(caP p t).params.length∧t.args.length<=8:=by
 obtain ⟨k,_,_,h2,_,h3⟩:=DY h ht h4;have h5:=congrArg length h3;rw [length_map,length_map] at h5;have:=q0a h k;rw [h2];omega
theorem OkO.call {p:Pg} {O:List (List Str)} (hc:QO p=true) (h:OkO p O) {b:Book} (hs:b.s=sheetOf p) (ho:b.outs=O) {t:S} (ht:t∈VA p) (h4:t.kind=4):CallOk b t:=by
 obtain ⟨k,hk,h1,h2,_⟩:=DY hc ht h4;obtain ⟨h5,h6⟩:=MM hc ht h4;have e:b.s.p=p:=by rw [hs];exact (QJ p).1
 have hO:caO b t=O.getD (caI p t).toNat []:=by unfold caO;rw [e,ho]
 refine ⟨by rw [e];omega,by rw [e];omega,by rw [e,ho,h.len];exact Nat.le_refl _,?_,?_,by rw [e];omega,by omega⟩
 ·rw [hO];exact MF h.rise _
 ·rw [hO];have:=h.len25 hc (caI p t).toNat;omega
theorem z9z {p:Pg} {O:List (List Str)} {b:Book} (hs:b.s=sheetOf p) (ho:b.outs=O) (t:S):HU b t=HU (bkO p O) t:=by
 unfold HU caO bkO;rw [hs,ho]
theorem x0s {p:Pg} {O:List (List Str)} (hc:QO p=true) (h:OkO p O) {t:S} (ht:t∈VA p):(HU (bkO p O) t).length<=34:=by
 unfold HU
 (repeat' split)<;>try (simp;done)
 rename_i h4;have hr:=z1j t (caP p t) (caO (bkO p O) t) t.args.length;have h6:=(MM hc ht h4).2;have h7:=h.len25 hc (caI p t).toNat;have h8:((caO (bkO p O) t).filter (comB p)).length<=(O.getD (caI p t).toNat []).length:=List.length_filter_le _ _;show ((if t.name=[] then [] else [t.name])++z2h t (caP p t) (caO (bkO p O) t) t.args.length++(caO (bkO p O) t).filter (comB p)).length<=34;rw [length_append,length_append];have h9:(if t.name=[] then [] else [t.name]).length<=1:=by split<;>simp
 omega
theorem x8n (p:Pg) (O:List (List Str)):(dfB p O).length=(sheetOf p).l.length:=length_map _
def leO (O O':List (List Str)):Prop := ∀ i n,n∈O.getD i []->n∈O'.getD i []
theorem q4k {t:S} {f:Pr} {O:List Str} {n:Str}:n∈z2h t f O t.args.length ↔ ∃ x∈(t.args.zip f.params).take t.args.length,(x.1.ref=true∧x.2.name∈O)∧x.1.name=n:=by
 unfold z2h w9y;simp only [List.mem_map,List.mem_filter,Bool.and_eq_true,XN,and_assoc]
theorem z7t {p:Pg} {O O':List (List Str)} (h:leO O O') {t:S} {n:Str} (hn:n∈HU (bkO p O) t):n∈HU (bkO p O') t:=by
 unfold HU at hn ⊢
 (repeat' split at hn)
 ·rw [if_pos (by assumption)];exact hn
 ·rw [if_neg (by assumption),if_pos (by assumption)];exact hn
 ·rw [if_neg (by assumption),if_neg (by assumption),if_pos (by assumption)];exact hn
 ·rw [if_neg (by assumption),if_neg (by assumption),if_neg (by assumption),if_pos (by assumption)];unfold w3y at hn ⊢;rcases List.mem_append.1 hn with hn|hn
  ·rcases List.mem_append.1 hn with hn|hn
   ·exact List.mem_append_left _ (List.mem_append_left _ hn)
   ·refine List.mem_append_left _ (List.mem_append_right _ ?_);obtain ⟨x,h1,⟨h2,h3⟩,h4⟩:=q4k.1 hn;exact q4k.2 ⟨x,h1,⟨h2,h _ _ h3⟩,h4⟩
  ·obtain ⟨h1,h2⟩:=List.mem_filter.1 hn;exact List.mem_append_right _ (List.mem_filter.2 ⟨h _ _ h1,h2⟩)
 ·cases hn
theorem JU {α β:Type} {f:α->List β} {l:List α} {i:Nat} {n:β}:n∈(l.map f).getD i [] ↔ ∃ x,l[i]? = some x∧n∈f x:=by
 rw [getD_eq_getElem?_getD,List.getElem?_map];cases l[i]? with
 | none=>simp
 | some x=>simp
theorem w2i {p:Pg} {O O':List (List Str)} (h:leO O O'):leO (dfB p O) (dfB p O'):=fun i n hn=>by
 obtain ⟨it,h1,h2⟩:=JU.1 hn;exact JU.2 ⟨it,h1,XF.2 (z7t h (XF.1 h2))⟩
def lvB (p:Pg) (i:Nat) (id:Int):Bool:=(QQ p i (prA p i)).live.getD (ixI p i (prA p i) id).toNat false
theorem w1d {p:Pg} {i:Nat} {D:List (List Str)} {n:Str}:n∈x7g p i (prA p i) D (itsOf p i (prA p i)) ↔ ∃ it∈itsOf p i (prA p i),lvB p i it.s.id=true∧n∈HM D it.s.id∧outB p (prA p i) n=true:=by
 unfold x7g;rw [List.mem_flatMap];refine exists_congr fun it=>and_congr_right fun _=>?_;unfold w8s lvB;cases (QQ p i (prA p i)).live.getD (ixI p i (prA p i) it.s.id).toNat false with
 | false=>simp
 | true=>simp [List.mem_filter]
theorem x3m {p:Pg} {D:List (List Str)} {i:Nat} (hi:i<p.procs.length) {n:Str}:n∈(otB p D).getD i [] ↔ ∃ it∈itsOf p i (prA p i),lvB p i it.s.id=true∧n∈HM D it.s.id∧outB p (prA p i) n=true:=by
 unfold otB;rw [JU,<- w1d];constructor
 ·rintro ⟨x,h1,h2⟩;rw [List.getElem?_range hi] at h1;cases h1;exact XF.1 h2
 ·exact fun h=>⟨i,List.getElem?_range hi,XF.2 h⟩
theorem w2l {p:Pg} {D D':List (List Str)} (h:leO D D'):leO (otB p D) (otB p D'):=fun i n hn=>by
 rcases Nat.lt_or_ge i p.procs.length with hi|hi
 ·obtain ⟨it,h1,h2,h3,h4⟩:=(x3m hi).1 hn;exact (x3m hi).2 ⟨it,h1,h2,h _ _ h3,h4⟩
 ·obtain ⟨x,h1,_⟩:=JU.1 hn;rw [List.getElem?_eq_none (by simpa using hi)] at h1;cases h1
theorem w2y {p:Pg} {O O':List (List Str)} (h:leO O O'):leO (rdO p O) (rdO p O'):=w2l (w2i h)
theorem w3t (p:Pg) : ∀ k,leO (itO p k) (itO p (k+1))
 | 0=>fun i n hn=>by
   unfold itO at hn;rw [getD_eq_getElem?_getD,List.getElem?_replicate] at hn;split at hn<;>cases hn
 | k+1=>w2y (w3t p k)
theorem w3h (p:Pg) (D:List (List Str)):OkO p (otB p D):=by
 refine ⟨by unfold otB;rw [length_map,List.length_range],fun o ho => ?_,fun i hi n hn => ?_⟩
 ·obtain ⟨i,_,rfl⟩:=List.mem_map.1 ho;exact YQ _
 ·obtain ⟨it,_,_,_,h⟩:=(x3m hi).1 hn;exact h
theorem q5l (p:Pg) : ∀ k,OkO p (itO p k)
 | 0=>by
   refine ⟨by unfold itO;rw [List.length_replicate],fun o ho => ?_,fun i hi n hn => ?_⟩
   ·rw [List.eq_of_mem_replicate ho];exact .nil
   ·unfold itO at hn;rw [getD_eq_getElem?_getD,List.getElem?_replicate] at hn;split at hn<;>cases hn
 | k+1=>w3h p _
def tot (O:List (List Str)):Nat:=(O.map length).sum
theorem z9e {a b:List Str} {O O':List (List Str)} (h:leO (a::O) (b::O')):(∀ n∈a,n∈b)∧leO O O':=⟨fun n hn=>h 0 n hn,fun i n hn=>h (i+1) n hn⟩
theorem w2q {a b:List Str} (ha:a.Pairwise ltT) (hb:b.Pairwise ltT) (hs : ∀ n∈a,n∈b) (hl:b.length<=a.length):a=b:=by
 refine x3x q7d ltT.trans ha hb fun s=>⟨hs s,fun h => ?_⟩;refine Classical.byContradiction fun hn => ?_;have:=FB (l:=s::a) (m:=b) (List.nodup_cons.2 ⟨hn,KV ha⟩) fun n h'=>by
  rcases List.mem_cons.1 h' with rfl|h'
  ·exact h
  ·exact hs n h'
 rw [length_cons] at this;omega
theorem z9x : ∀ {O O':List (List Str)},O.length=O'.length->(∀ o∈O,o.Pairwise ltT)->(∀ o∈O',o.Pairwise ltT)->leO O O'->tot O<=tot O'∧(tot O'<=tot O->O=O')
 | [],[],_,_,_,_=>⟨Nat.le_refl _,fun _=>rfl⟩
 | [],_::_,h,_,_,_=>by cases h
 | _::_,[],h,_,_,_=>by cases h
 | a::O,b::O',hl,h1,h2,h=>by
   obtain ⟨h3,h4⟩:=z9e h;obtain ⟨h5,h6⟩:=z9x (O:=O) (O':=O') (by simpa using hl) (fun o ho=>h1 o (mem_cons_of_mem _ ho)) (fun o ho=>h2 o (mem_cons_of_mem _ ho)) h4;have ha:=h1 a mem_cons_self;have hb:=h2 b mem_cons_self;have h7:=FB (KV ha) h3;have e : ∀ (x:List Str) (l:List (List Str)),tot (x::l)=x.length+tot l:=fun x l=>by unfold tot;rw [map_cons,sum_cons]
   rw [e,e];exact ⟨by omega,fun h8=>by rw [w2q ha hb h3 (by omega),h6 (by omega)]⟩
theorem x1m : ∀ {O:List (List Str)},(∀ o∈O,o.length<=25)->tot O<=25*O.length
 | [],_=>Nat.le_refl _
 | a::O,h=>by
   have h1:=x1m (O:=O) fun o ho=>h o (mem_cons_of_mem _ ho);have h2:=h a mem_cons_self;have e:tot (a::O)=a.length+tot O:=by unfold tot;rw [map_cons,sum_cons]
   rw [e,length_cons];omega
theorem OkO.tot {p:Pg} {O:List (List Str)} (hc:QO p=true) (h:OkO p O):Go.Ab.tot O<=400:=by
 have h1:=x1m (O:=O) fun o ho=>by
  obtain ⟨i,hi,rfl⟩:=List.mem_iff_getElem.1 ho;have:=h.len25 hc i
  rwa [getD_eq_getElem?_getD,List.getElem?_eq_getElem hi] at this
 have h2:=(ZZ hc).2.1;rw [h.len] at h1;omega
theorem z0w {p:Pg} {k:Nat} (h:itO p (k+1)≠itO p k):Go.Ab.tot (itO p k)<Go.Ab.tot (itO p (k+1)):=by
 obtain ⟨h1,h2⟩:=z9x (O:=itO p k) (O':=itO p (k+1)) (by rw [(q5l p k).len,(q5l p (k+1)).len]) (q5l p k).rise (q5l p (k+1)).rise (w3t p k);rcases Nat.lt_or_ge (Go.Ab.tot (itO p k)) (Go.Ab.tot (itO p (k+1))) with h3|h3
 ·exact h3
 ·exact absurd (h2 h3).symm h
section
variable (p:Pg) (i:Nat) (f:Pr) (D U:List (List Str)) (o:List Str) (x:Str)
def idN (a:Int):Int:=XK p i (cntL f.body+2:Nat) a
def hitN (a:Int):Bool:=bif decide (a=(cntL f.body+2:Nat)-1) then inS o x else bif decide (0<a) then inS (HM U (idN p i f a)) x else false
def HB (a:Int):Bool:=bif decide (a=(cntL f.body+2:Nat)-1) then false else bif decide (0<a) then !inS (HM D (idN p i f a)) x else true
def netR (p:Pg) (i:Nat) (f:Pr):List (List Int):=q0x (cntL f.body+2) (JP (QQ p i f) f)
def w9s:List (Int×Int):=(JP (QQ p i f) f).filter fun t=>HB p i f D x t.1
def z1i:Bool:=(HX 0 (ZU (QS (cntL f.body+2) (w9s p i f D x)).1 [0])).any (hitN p i f U o x)
end
section
variable {p:Pg} {i:Nat} {f:Pr} {D U:List (List Str)} {o:List Str} {x:Str}
def nR (p:Pg) (i:Nat) (f:Pr) (D:List (List Str)) (x:Str) (a b:Int):Prop:=HB p i f D x a=true∧(a,b)∈JP (QQ p i f) f
theorem JY (h:QO p=true) (hj:p.procs[i]? = some f):z1i p i f D U o x=true ↔ ∃ a,Rch (nR p i f D x) 0 a∧hitN p i f U o x a=true:=by
 unfold z1i;rw [List.any_eq_true];refine exists_congr fun a=>and_congr_left fun _=>?_;rw [q5c (by omega)];have e : ∀ a b,((a,b)∈w9s p i f D x∧ZG (cntL f.body+2) b=true)↔nR p i f D x a b:=fun a b=>by
  unfold w9s nR;rw [List.mem_filter];constructor
  ·exact fun h1=>⟨h1.1.2,h1.1.1⟩
  ·intro h1;have h2:=(FQ h hj _ h1.2).2;exact ⟨⟨h1.2,h1.1⟩,by unfold ZG;simp;omega⟩
 exact ⟨fun h1=>h1.mono fun a b h2=>(e a b).1 h2,fun h1=>h1.mono fun a b h2=>(e a b).2 h2⟩
theorem x8s (h:QO p=true) (hj:p.procs[i]? = some f) {S:Int->Prop} (h0:S 0) (h1 : ∀ a,S a->hitN p i f U o x a=false) (h2 : ∀ a b,S a->nR p i f D x a b->S b):z1i p i f D U o x=false:=by
 cases hq:z1i p i f D U o x with
 | false=>rfl
 | true =>
   obtain ⟨a,h3,h4⟩:=(JY h hj).1 hq;rw [h1 a (Rch.closed h2 h0 h3)] at h4;cases h4
structure NedI (p:Pg) (i:Nat) (f:Pr) (D U:List (List Str)) (o:List Str) (x:Str) (n:Nat) (seen:List Bool) (todo:List Int):Prop where
 len:seen.length=n
 rng : ∀ a∈todo,0<=a∧a<(n:Int)
 way : ∀ a:Int,(a=0∨seen.getD a.toNat false=true∧0<=a)->Rch (nR p i f D x) 0 a
 td : ∀ a∈todo,a=0∨seen.getD a.toNat false=true∧0<=a
 done : ∀ a:Int,(a=0∨seen.getD a.toNat false=true∧0<=a)->a∉todo->hitN p i f U o x a=false ∧ ∀ b,nR p i f D x a b->seen.getD b.toNat false=true
structure NedJ (p:Pg) (i:Nat) (f:Pr) (D U:List (List Str)) (o:List Str) (x:Str) (n:Nat) (a:Int) (k:Nat) (seen:List Bool) (todo:List Int):Prop where
 len:seen.length=n
 rng : ∀ a∈todo,0<=a∧a<(n:Int)
 way : ∀ a:Int,(a=0∨seen.getD a.toNat false=true∧0<=a)->Rch (nR p i f D x) 0 a
 td : ∀ a∈todo,a=0∨seen.getD a.toNat false=true∧0<=a
 me:Rch (nR p i f D x) 0 a
 done : ∀ b:Int,(b=0∨seen.getD b.toNat false=true∧0<=b)->b∉todo->b≠a->hitN p i f U o x b=false ∧ ∀ c,nR p i f D x b c->seen.getD c.toNat false=true
 row : ∀ c∈((netR p i f).getD a.toNat []).take k,seen.getD c.toNat false=true
theorem w4t {l:List Bool} {k j:Nat} (h:(l.set k true).getD j false=true):j=k∨l.getD j false=true:=by
 rcases Nat.decEq j k with hne|rfl
 ·right
  rwa [getD_eq_getElem?_getD,List.getElem?_set_ne (Ne.symm hne),<- getD_eq_getElem?_getD] at h
 ·exact .inl rfl
theorem x8e {l:List Bool} {k j:Nat} (h:l.getD j false=true):(l.set k true).getD j false=true:=by
 rcases Nat.decEq j k with hne|rfl
 ·rwa [getD_eq_getElem?_getD,List.getElem?_set_ne (Ne.symm hne),<- getD_eq_getElem?_getD]
 ·have hl:j<l.length:=by
   rcases Nat.lt_or_ge j l.length with h1|h1
   ·exact h1
   ·rw [getD_eq_getElem?_getD,List.getElem?_eq_none h1] at h;cases h
  rw [getD_eq_getElem?_getD,List.getElem?_set_self hl];rfl
theorem w3c {l:List Bool} {k:Nat} (h:k<l.length):(l.set k true).getD k false=true:=by
 rw [getD_eq_getElem?_getD,List.getElem?_set_self h];rfl
variable {n:Nat} {seen:List Bool} {todo:List Int} {a:Int}
theorem NedI.start (n:Nat) (hn:0<n):NedI p i f D U o x n (List.replicate n false) [0]:=by
 have hno : ∀ k:Nat,(List.replicate n false).getD k false=true->False:=fun k h=>by
  rw [getD_eq_getElem?_getD,List.getElem?_replicate] at h;split at h<;>cases h
 refine ⟨List.length_replicate,fun a ha=>by rw [List.mem_singleton.1 ha];omega,fun a ha => ?_,fun a ha => .inl (List.mem_singleton.1 ha),fun a ha hn => ?_⟩
 ·rcases ha with rfl|⟨h,_⟩
  ·exact .refl
  ·exact (hno _ h).elim
 ·rcases ha with rfl|⟨h,_⟩
  ·exact absurd (List.mem_singleton.2 rfl) hn
  ·exact (hno _ h).elim
theorem NedI.stop (h:QO p=true) (hj:p.procs[i]? = some f) (hI:NedI p i f D U o x n seen []):z1i p i f D U o x=false:=by
 refine x8s h hj (S:=fun a=>a=0∨seen.getD a.toNat false=true∧0<=a) (.inl rfl) (fun a ha=>(hI.done a ha (by simp)).1) fun a b ha hb => ?_;have h1:=(hI.done a ha (by simp)).2 b hb;have h2:=(FQ h hj _ hb.2).2;exact .inr ⟨h1,h2.1⟩
theorem NedI.skip (hI:NedI p i f D U o x n seen (todo++[a])) (h1:hitN p i f U o x a=false) (h2:HB p i f D x a=false):NedI p i f D U o x n seen todo:=by
 refine ⟨hI.len,fun b hb=>hI.rng b (List.mem_append_left _ hb),hI.way,fun b hb=>hI.td b (List.mem_append_left _ hb),fun b hb hn => ?_⟩;by_cases he:b=a
 ·subst he;exact ⟨h1,fun c hc=>by rw [hc.1] at h2;cases h2⟩
 ·exact hI.done b hb fun hm=>(List.mem_append.1 hm).elim hn fun hm=>he (List.mem_singleton.1 hm)
theorem NedI.open (hI:NedI p i f D U o x n seen (todo++[a])):NedJ p i f D U o x n a 0 seen todo :=
 ⟨hI.len,fun b hb=>hI.rng b (List.mem_append_left _ hb),hI.way,fun b hb=>hI.td b (List.mem_append_left _ hb),hI.way a (hI.td a (List.mem_append_right _ (List.mem_singleton.2 rfl))),
   fun b hb hn he=>hI.done b hb fun hm=>(List.mem_append.1 hm).elim hn fun hm=>he (List.mem_singleton.1 hm),fun c hc=>by rw [List.take_zero] at hc;cases hc⟩
theorem NedJ.shut (h:QO p=true) (hj:p.procs[i]? = some f) {k:Nat} (hJ:NedJ p i f D U o x n a k seen todo) (hk:((netR p i f).getD a.toNat []).length<=k) (h1:hitN p i f U o x a=false):NedI p i f D U o x n seen todo:=by
 refine ⟨hJ.len,hJ.rng,hJ.way,hJ.td,fun b hb hm => ?_⟩;by_cases he:b=a
 ·subst he;refine ⟨h1,fun c hc=>hJ.row c ?_⟩;rw [take_of_length_le hk];exact (q6i fun t ht=>(FQ h hj t ht).1).2 ⟨(b,c),hc.2,by have:=(FQ h hj _ hc.2).1;simp only at this ⊢;omega,rfl⟩
 ·exact hJ.done b hb hm he
theorem NedJ.old {k:Nat} (hJ:NedJ p i f D U o x n a k seen todo) (hk:k<((netR p i f).getD a.toNat []).length) (hs:seen.getD (((netR p i f).getD a.toNat [])[k]).toNat false=true):NedJ p i f D U o x n a (k+1) seen todo:=by
 refine ⟨hJ.len,hJ.rng,hJ.way,hJ.td,hJ.me,hJ.done,fun c hc => ?_⟩;rcases (GY hk).1 hc with h1|rfl
 ·exact hJ.row c h1
 ·exact hs
theorem NedJ.new {k:Nat} (hJ:NedJ p i f D U o x n a k seen todo) (hk:k<((netR p i f).getD a.toNat []).length) {c:Int} (hc:c=((netR p i f).getD a.toNat [])[k]) (hr:0<=c∧c<(n:Int)) (hR:nR p i f D x a c):NedJ p i f D U o x n a (k+1) (seen.set c.toNat true) (todo++[c]):=by
 have hl:c.toNat<seen.length:=by rw [hJ.len];omega
 have hold : ∀ b:Int,(b=0∨(seen.set c.toNat true).getD b.toNat false=true∧0<=b)->b=c∨(b=0∨seen.getD b.toNat false=true∧0<=b):=fun b hb=>by
  rcases hb with h1|⟨h1,h2⟩
  ·exact .inr (.inl h1)
  ·rcases w4t h1 with h3|h3
   ·exact .inl (by omega)
   ·exact .inr (.inr ⟨h3,h2⟩)
 refine ⟨by rw [List.length_set];exact hJ.len,fun b hb => ?_,fun b hb => ?_,fun b hb => ?_,hJ.me,fun b hb hm he => ?_,fun b hb => ?_⟩
 ·rcases List.mem_append.1 hb with h1|h1
  ·exact hJ.rng b h1
  ·rw [List.mem_singleton.1 h1];exact hr
 ·rcases hold b hb with rfl|h1
  ·exact .tail hJ.me hR
  ·exact hJ.way b h1
 ·rcases List.mem_append.1 hb with h1|h1
  ·rcases hJ.td b h1 with h2|h2
   ·exact .inl h2
   ·exact .inr ⟨x8e h2.1,h2.2⟩
  ·rw [List.mem_singleton.1 h1];exact .inr ⟨w3c hl,hr.1⟩
 ·rcases hold b hb with rfl|h1
  ·exact absurd (List.mem_append_right _ (List.mem_singleton.2 rfl)) hm
  ·obtain ⟨h2,h3⟩:=hJ.done b h1 (fun h=>hm (List.mem_append_left _ h)) he;exact ⟨h2,fun d hd=>x8e (h3 d hd)⟩
 ·rcases (GY hk).1 hb with h1|h1
  ·exact x8e (hJ.row b h1)
  ·rw [h1,<- hc];exact w3c hl
end
theorem z4b {P:Program} {T:Tab} {hr:Bool} {s:St} {o:Oper} {K:LV->Prop} (hT:TabOK P T) {t u:TypeId} {x:Operand} (hop:o.op = .binOp .eql t x (.const (.slice none 0 0)) u) {i:TyI} (ht:T.get t=some i) {e:TypeId} (hd:i.desc = .slice e) {es:List AV} (hx:QR s.sl x = .p (.sl es)) (hK : ∀ b:Bool,(b=true->es=[])->K (.p (.bool b))):ValO P hr s o K:=by
 refine ⟨fun σ β ac w hs _ => ?_⟩;have h1:=QU hs x;rw [hx] at h1;have hu:=hT.of ht;rw [hd] at hu;have hv : ∃ ad n c,ac.eval x = .slice ad n c∧(ad.isNone=true->es=[]):=by
  generalize ac.eval x=v at h1;cases h1 with
  | p h1 =>
    cases h1 with
    | nilsl=>exact ⟨none,0,0,rfl,fun _=>rfl⟩
    | slz b=>exact ⟨some b,0,0,rfl,fun _=>rfl⟩
    | sl _ b off cap sz cells u hb hcap hmax hsz hc hrr=>exact ⟨_,_,_,rfl,fun h=>(by cases h)⟩
 obtain ⟨ad,n,c,hv,he⟩:=hv;refine ⟨_,.bool ad.isNone,hK ad.isNone he,.p (.bool _),fun w' _ _ => ?_⟩;have h2:ac.eval (.const (.slice none 0 0)) = .slice none 0 0:=rfl;have hg:(eqGuard .eql t x (.const (.slice none 0 0)) (.slice ad n c) (.slice none 0 0)).run P w' = .ok () w':=by unfold eqGuard;rfl
 have he:(Op.equal t (.slice ad n c) (.slice none 0 0)).run P w' = .ok ad.isNone w':=by
  have e:Op.equal t (.slice ad n c) (.slice none 0 0)=Op.equalIn (9999+1) t (.slice ad n c) (.slice none 0 0):=rfl;rw [e,Op.equalIn,Sem.run_bind,run_underlying hu,Result.andThen_ok];cases ad<;>rfl
 simp only [execOp,hop,hv,h2,Sem.run_bind,hg,Result.andThen_ok,binOp];simp [he]
theorem z4f {L:List Str} {es:List AV} {n:Nat} {nil:Prop} (q:Nat) (he:es=L.map .str) (h:n=L.length):OneRow (x1z L) nil (.hd q 0 n) [(q,.own 9 1 es)]:=by
 subst he;exact .inr ⟨q,_,_,_,by rw [h,length_map],rfl,q4q L,rfl,rfl,rfl⟩
theorem YV (l:List Str) (hl:l.length<=1000000):SpecH Tryz.prog 245 [.p (eStrs l)] [] (fun r H=>OneRow (x1z l) (l=[]) r H):=by
 refine sH UJ Tryz.func245 rfl Tryz.call245 ?_;conv=>whnf
 repeat' (first|((first|(refine iM fun _=>?_)|refine dA ?_|refine And.intro rfl ?_|refine aD ?_|refine aR ?_|(refine iA fun _=>?_)|refine IdxK.xs (by omega) ?_|refine QX (by omega) ?_|(refine ByteK.at (by omega) ?_)|refine wI ?_|refine z4b QY rfl rfl rfl rfl (fun q hq => ?_)|refine BsK.own (fun x hx=>by cases hx) rfl ?_|refine VF _ (by simp) (by simp;omega) ?_);conv=>whnf)|(apply bD<;>intro _<;>first|omega|conv=>whnf)|(apply bE<;>intro _<;>first|omega|conv=>whnf)|(apply bN<;>intro _<;>conv=>whnf)|(apply bB<;>intro _<;>conv=>whnf))
 all_goals first
  | exact RetHK.mk _ (LSub.refl _) (.inl ⟨rfl,rfl,List.map_eq_nil_iff.1 (hq (by assumption))⟩)
  | exact RetHK.mk _ (LSub.refl _) (z4f 0 rfl (by simp))
  | trace_state
def x9e (p:Pg) (i:Nat) (f:Pr) (D U:List (List Str)) (o:List Str):List Str:=(p.globals++[tapeS]).filter (z1i p i f D U o)
theorem fzL {N:Nat} {a b c d e:AV} {L:List Str} {n:Nat} (hn:n=(L.map AV.str).length) :
  Le N ⟨[(0,.p a),(1,.p b),(5,.p .nils),(6,.p c),(27,.hd 0 0 n),(28,.p d),(29,.p e)],[(0,.own 9 1 (L.map .str))]⟩ ⟨[(0,.p a),(1,.p b),(5,.hd 0 0 0),(6,.p c),(27,.p (eStrs L)),(28,.p d),(29,.p e)],[(0,.own 9 1 [])]⟩:=by
 subst hn;obtain ⟨s',rfl,hle⟩:=Le.row (N:=N) (s:=⟨[(0,.p a),(1,.p b),(5,.p .nils),(6,.p c),(27,.hd 0 0 (L.map AV.str).length),(28,.p d),(29,.p e)],[(0,.own 9 1 (L.map .str))]⟩) (k:=0) (e:=9) (sz:=1) (es:=L.map .str) (zs:=[27]) rfl
  (K:=fun s=>s=⟨[(0,.p a),(1,.p b),(5,.p .nils),(6,.p c),(27,.p (eStrs L)),(28,.p d),(29,.p e)],[]⟩) ⟨rfl,rfl⟩
 exact hle.trans (Le.mk [(0,.own 9 1 [])] (by simp [Chunk.new0];rfl) (by simp) (by simp) (.cons (.refl _) (.cons (.refl _) (.cons (.nil mem_cons_self) (.cons (.refl _) (.cons (.refl _) (.cons (.refl _) (.cons (.refl _) .nil))))))) (.new mem_cons_self .nil))
theorem x3z (b:Book) (p:Pg) (hp:b.s=sheetOf p) (h:QO p=true) (i:Nat) (f:Pr) (hj:p.procs[i]? = some f) (hW:b.ways[i]? = some (QQ p i f)) (o:List Str) (hN : ∀ x,SpecP Tryz.prog 246 [.ip b.cells,.int .i64 i,q7n (netR p i f),.str x] (fun r=>r = .bool (z1i p i f b.defs b.uses o x))):SpecH Tryz.prog 154 [.p (.ip b.cells),.p (.int .i64 i)] [] (fun r H=>OneRow (x1z (x9e p i f b.defs b.uses o)) False r H):=by
 refine sH q4t Tryz.func154 rfl Tryz.call154 ?_;conv=>whnf
 have hbp:b.s.p=p:=by rw [hp];exact (QJ p).1
 have hg:=(ZZ h).1;have hdl:=z0m h hj;have hNt:=x9n (QQ p i f) f (cntL f.body+2) (w9q h hj) (FQ h hj) (by omega);have hNt2:SpecP Tryz.prog 244 [.ip (QQ p i f).cells] (fun r=>r=q7n (netR p i f)):=hNt;have hCl:SpecH Tryz.prog 245 ([eStrs p.globals].map .p) [] (OneRow (x1z p.globals) (p.globals=[])):=YV p.globals (by omega);have hg1:(b.ways.map fun w=>AV.ip w.cells)[i]? = some (.ip (QQ p i f).cells):=by rw [List.getElem?_map,hW];rfl
 generalize QQ p i f=w at *
 generalize netR p i f=net at *
 repeat' (first|((first|(refine iM fun _=>?_)|refine dA ?_|refine And.intro rfl ?_|refine aD ?_|refine aR ?_|refine bP ?_|(refine iA fun _=>?_)|refine IdxK.xs (by omega) ?_|refine QX (by omega) ?_|(refine ByteK.at (by omega) ?_)|refine wI ?_|(refine IdxK.at (k:=i) rfl hg1 rfl ?_)|refine cP hNt2 ?_);conv=>whnf)|(apply bD<;>intro _<;>first|omega|conv=>whnf)|(apply bE<;>intro _<;>first|omega|conv=>whnf)|(apply bN<;>intro _<;>conv=>whnf)|(apply bB<;>intro _<;>conv=>whnf))
 obtain ⟨L,hL⟩ : ∃ L,L=p.globals++[tapeS]:=⟨_,rfl⟩;have hLl:L.length<=17:=by rw [hL,length_append];simp;omega
 have hfin:x9e p i f b.defs b.uses o=L.filter (z1i p i f b.defs b.uses o):=by unfold x9e;rw [hL]
 rw [hfin];generalize z1i p i f b.defs b.uses o=ned at *
 refine DC 0 rfl hCl (.cons (.p (Sub.of_eq (by rw [hbp]))) .nil) (fun hnil => ?_) (fun q e sz es hR => ?_);rotate_left;obtain ⟨rfl,rfl,rfl⟩:=hR
 rotate_right
 all_goals
  conv=>whnf
  repeat' (first|((first|(refine iM fun _=>?_)|refine dA ?_|refine And.intro rfl ?_|refine aD ?_|refine aR ?_|refine bP ?_|(refine iA fun _=>?_)|refine IdxK.xs (by omega) ?_|refine QX (by omega) ?_|(refine ByteK.at (by omega) ?_)|refine wI ?_|refine QC (es:=[]) rfl (by simp) ?_|refine QC (by simp) (by simp;omega) ?_);conv=>whnf)|(apply bD<;>intro _<;>first|omega|conv=>whnf)|(apply bE<;>intro _<;>first|omega|conv=>whnf)|(apply bN<;>intro _<;>conv=>whnf)|(apply bB<;>intro _<;>conv=>whnf))
 all_goals
  refine LoopK.inv QY (fun x:Nat×List Str=>⟨[(0,.p (.ip b.cells)),(1,.p (.int .i64 i)),(5,.hd 0 0 x.2.length),(6,.p (q7n net)),(27,.p (eStrs L)),(28,.p (.int .i64 (L.map AV.str).length)),(29,.p (.int .i64 x.1))],[(0,.own 9 1 (x.2.map .str))]⟩) (fun x=>x.1<=L.length∧x.2=(L.take x.1).filter ned∧x.2.length<=x.1) (fun x=>L.length-x.1) (0,[])
   (by first
     | exact Le.trans (Le.of_eq (by rw [hL,hnil];rfl)) (fzL (L:=L) rfl)
     | exact Le.trans (Le.of_eq (by rw [hL];simp only [List.map_append,length_append];rfl)) (fzL (L:=L) rfl)
     | trace_state) ⟨zero_le _,by simp,by simp⟩ ?_
  rintro ⟨j,acc⟩ ⟨h2,h3,h4⟩;simp only at h2 h3 h4 ⊢;have hlm:(L.map AV.str).length=L.length:=length_map _;rcases Nat.lt_or_ge j L.length with hj|hj
  ·have hst:=List.take_succ_eq_append_getElem hj;have hNj:=hN L[j];have e5:(L.map AV.str)[j]? = some (.str L[j]):=by simp [hj]
   cases hnd:ned L[j];all_goals
    rw [hnd] at hNj;conv=>whnf
    repeat' (first|((first|(refine iM fun _=>?_)|refine dA ?_|refine And.intro rfl ?_|refine aD ?_|refine aR ?_|refine bP ?_|(refine iA fun _=>?_)|refine IdxK.xs (by omega) ?_|refine QX (by omega) ?_|(refine ByteK.at (by omega) ?_)|refine wI ?_|(refine IdxK.at (k:=j) rfl e5 rfl ?_)|refine cP hNj ?_|refine QC (by simp) (by rw [length_map];omega) ?_|refine Br.tt ?_|refine Br.ff ?_);conv=>whnf)|(apply bD<;>intro _<;>first|omega|conv=>whnf)|(apply bE<;>intro _<;>first|omega|conv=>whnf)|(apply bN<;>intro _<;>conv=>whnf)|(apply bB<;>intro _<;>conv=>whnf))
   all_goals first
    | exact ⟨(j+1,acc++[L[j]]),⟨hj,by simp only;rw [hst,List.filter_append,List.filter_cons_of_pos hnd,h3];rfl,by simp;omega⟩,by simp only;omega,Le.of_eq (by simp only [length_append,List.map_append];rfl)⟩
    | exact ⟨(j+1,acc),⟨hj,by simp only;rw [hst,List.filter_append,List.filter_cons_of_neg (by rw [hnd];decide),h3];simp,by simp only;omega⟩,by simp only;omega,Le.of_eq rfl⟩
    | trace_state
  ·rw [take_of_length_le hj] at h3;subst h3;conv=>whnf
   repeat' (first|((first|(refine iM fun _=>?_)|refine dA ?_|refine And.intro rfl ?_|refine aD ?_|refine aR ?_|refine bP ?_|(refine iA fun _=>?_)|refine IdxK.xs (by omega) ?_|refine QX (by omega) ?_|(refine ByteK.at (by omega) ?_)|refine wI ?_);conv=>whnf)|(apply bD<;>intro _<;>first|omega|conv=>whnf)|(apply bE<;>intro _<;>first|omega|conv=>whnf)|(apply bN<;>intro _<;>conv=>whnf)|(apply bB<;>intro _<;>conv=>whnf))
   all_goals exact RetHK.mk _ (LSub.refl _) (OneRow.str rfl)
end Go.Ab
