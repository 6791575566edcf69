/- The reference's expressions. -/
import Derived.Test.YtneccajakpeodaaGreatAugA13
set_option linter.unusedSimpArgs false
set_option linter.unusedVariables false
set_option maxRecDepth 100000
set_option maxHeartbeats 16000000
namespace Go.Ab
open Go.Proofs
theorem LR (op:Int):SpecP Tryz.prog 288 [.int .i64 op] (fun r=>r = .int .i64 (q3w op)):=by
 refine SpecP.body BJ QQ Tryz.func288 rfl Tryz.call288 (by show 1≤_;decide) ?_
 conv=>whnf
 repeat' (refine Br.dec (fun _=>?_) (fun _=>?_)<;>first|(exfalso;omega)|conv=>whnf)
 all_goals exact RetK.int (by unfold q3w;(repeat' split)<;>omega)
theorem GV (x:X):SpecP Tryz.prog 249 [.agg x.cells] (fun r=>r = .bool (noneB x)):=by
 refine SpecP.body BS QQ Tryz.func249 rfl Tryz.call249 (by show 1≤_;decide) ?_
 conv=>whnf
 repeat' (first|(intro (_:_≤9223372036854775807);conv=>whnf)|(refine Br.dec (fun _=>?_) (fun _=>?_)<;>first|(exfalso;omega)|conv=>whnf)|(refine Br.b (fun _=>?_) (fun _=>?_)<;>conv=>whnf))
 all_goals have hk:((X.avs x.kids).length:Int)=x.kids.length:=by rw [X.avs_len]
 all_goals first
  | exact RetK.ff (by simp_all [noneB];done)
  | exact RetK.bool (by simp_all [noneB];done)
def KB (x:X):Bool:=decide (q3w x.op=(x.kids.length:Int))&&(decide (x.op=1)||decide (x.n=0))&&decide (0≤x.n)&&(decide (x.op=2) == !(x.name==[]))&&((x.name==[])||isName x.name)
def BD:Nat→X→Bool
 | 0,_=>true
 | k+1,x=>KB x&&x.kids.all (BD k)
theorem x5i : ∀ (l:List X) (y:X),y∈l→wX y≤wXs l
 | [],y,h=>by cases h
 | a::r,y,h=>by
   rw [wXs]
   rcases List.mem_cons.1 h with rfl|h
   ·omega
   ·have:=x5i r y h;omega
theorem KL : ∀ (k:Nat) (x:X) (_:wX x<k),SpecP Tryz.prog 252 [.agg x.cells] (fun r=>r = .bool (BD k x)):=by
 intro k
 induction k with
 | zero=>intro x h;omega
 | succ k ih =>
   intro x hx
   have hxe:wX x=1+wXs x.kids:=by cases x;rw [wX];rfl
   have hk:((X.avs x.kids).length:Int)=x.kids.length:=by rw [X.avs_len]
   refine SpecP.body BR QQ Tryz.func252 rfl Tryz.call252 (by show 1≤_;decide) ?_
   conv=>whnf
   repeat' (first|((first|intro (_:_≤9223372036854775807)|(refine CallK.pure (LR _) (by repeat' (first|exact ArgP.nil|refine ArgP.cons ?_ ?_|exact Sub.refl _|exact Sub.tt rfl|exact Sub.ff rfl)) ?_;rintro _ rfl)|(refine CallK.pure (XP _) (by repeat' (first|exact ArgP.nil|refine ArgP.cons ?_ ?_|exact Sub.refl _|exact Sub.tt rfl|exact Sub.ff rfl)) ?_;rintro _ rfl)|refine DrawK.auto QQ mixed (by kernel_rfl) ?_|refine ValO.boolNeq QQ rfl rfl rfl rfl rfl ?_);conv=>whnf)|(refine Br.dec (fun _=>?_) (fun _=>?_)<;>first|(exfalso;omega)|conv=>whnf)|(refine Br.dec2 (fun _=>?_) (fun _=>?_)<;>first|(exfalso;omega)|conv=>whnf)|(refine Br.n (fun _=>?_) (fun _=>?_)<;>conv=>whnf))
   all_goals simp only [show (ByteArray.mk #[]).data.toList=[] from rfl] at *
   all_goals first
    | (refine RetK.ff ?_
       rw [BD,Bool.and_eq_false_iff]
       left
       unfold KB
       rw [show decide (0≤x.n)=false from decide_eq_false (by omega)]
       simp
       done)
    | (refine RetK.ff ?_
       rw [BD,Bool.and_eq_false_iff]
       left
       rename_i h
       have hq:(decide (x.op=2) == !(x.name==[]))=false:=by
        have e:decide (x.op=2)=(x.op==2):=rfl
        rw [e]
        revert h
        cases (x.op==2)<;>cases (x.name==[])<;>decide
       unfold KB
       rw [hq]
       simp
       done)
    | (refine RetK.ff ?_
       rw [BD,Bool.and_eq_false_iff]
       left
       simp_all [KB]
       done)
    | (refine RetK.ff ?_
       rw [BD,Bool.and_eq_false_iff]
       left
       simp_all [KB]
       omega)
    | (have h0:KB x=true:=by first
        | (simp_all [KB];done)
        | (simp_all [KB];omega)
       rw [show BD (k+1) x=x.kids.all (BD k) by rw [BD,h0];rfl])
   all_goals
    clear h0
    refine LoopK.inv QQ (fun j:Nat=>⟨[(1,.p (.ip x.cells)),(48,.p (.int .i64 (X.avs x.kids).length)),(49,.p (.int .i64 j))],[]⟩) (fun j=>j≤x.kids.length∧(x.kids.drop j).all (BD k)=x.kids.all (BD k)) (fun j=>x.kids.length-j) 0 (Le.of_eq rfl) ⟨Nat.zero_le _,rfl⟩ ?_
    rintro j ⟨h2,h3⟩
    rcases Nat.lt_or_ge j x.kids.length with hj|hj
    ·have hw:=x5i x.kids _ (List.getElem_mem hj)
     conv=>whnf
     repeat' (first|((first|refine IdxK.xs (by omega) ?_|refine Wr.i64 (by omega) (by omega) ?_|(refine CallK.pure (ih (x.kids[j]'hj) (by omega)) (.cons (Sub.refl _) .nil) ?_;rintro _ rfl));conv=>whnf)|(refine Br.dec (fun _=>?_) (fun _=>?_)<;>first|(exfalso;omega)|conv=>whnf)|(refine Br.n (fun _=>?_) (fun _=>?_)<;>conv=>whnf))
     ·exact ⟨j+1,⟨by omega,by rw [JA (by omega) (by assumption)];exact h3⟩,by omega,Le.of_eq rfl⟩
     ·exact RetK.ff (by rw [← h3,MT (by omega) (by assumption)])
    ·conv=>whnf
     repeat' (refine Br.dec (fun _=>?_) (fun _=>?_)<;>first|(exfalso;omega)|conv=>whnf)
     exact RetK.tt (by rw [← h3,JE (by omega)])
open Go.Proofs
def z0m:List Nat→Nat
 | []=>0
 | a::r=>max a (z0m r)
def KO:Nat→X→Nat
 | 0,_=>1
 | m+1,x=>1+z0m (x.kids.map (KO m))
theorem x5j {l:List Nat} {m:Nat} (h : ∀ a∈l,a≤m):z0m l≤m:=by
 induction l with
 | nil=>exact Nat.zero_le _
 | cons a r ih =>
   have:=ih fun b hb=>h b (List.mem_cons_of_mem _ hb)
   have:=h a List.mem_cons_self
   rw [z0m]
   omega
theorem x1n : ∀ (m:Nat) (x:X),KO m x≤m+1
 | 0,_=>Nat.le_refl _
 | m+1,x=>by
   rw [KO]
   have:z0m (x.kids.map (KO m))≤m+1:=x5j fun a ha=>by
    obtain ⟨y,_,rfl⟩:=List.mem_map.1 ha
    exact x1n m y
   omega
theorem KR : ∀ (m:Nat) (_:m≤1000) (x:X),SpecP Tryz.prog 251 [.agg x.cells,.int .i64 m] (fun r=>r = .int .i64 (KO m x)):=by
 intro m
 induction m with
 | zero =>
   intro _ x
   refine SpecP.body YD QQ Tryz.func251 rfl Tryz.call251 (by show 2≤_;decide) ?_
   conv=>whnf
   repeat' (refine Br.dec (fun _=>?_) (fun _=>?_)<;>first|(exfalso;omega)|conv=>whnf)
   exact RetK.int rfl
 | succ m ih =>
   intro hm x
   have hk:((X.avs x.kids).length:Int)=x.kids.length:=by rw [X.avs_len]
   refine SpecP.body YD QQ Tryz.func251 rfl Tryz.call251 (by show 2≤_;decide) ?_
   conv=>whnf
   repeat' (refine Br.dec (fun _=>?_) (fun _=>?_)<;>first|(exfalso;omega)|conv=>whnf)
   have hmx:z0m (x.kids.map (KO m))≤m+1:=x5j fun a ha=>by
    obtain ⟨y,_,rfl⟩:=List.mem_map.1 ha
    exact x1n m y
   refine LoopK.inv QQ (fun y:Nat×Nat=>⟨[(1,.p (.int .i64 (m+1:Nat))),(2,.p (.ip x.cells)),(5,.p (.int .i64 y.2)),(6,.p (.int .i64 y.1))],[]⟩) (fun y=>y.1≤x.kids.length∧y.2≤m+1∧max y.2 (z0m ((x.kids.drop y.1).map (KO m)))=z0m (x.kids.map (KO m))) (fun y=>x.kids.length-y.1) (0,0) (Le.of_eq rfl) ⟨Nat.zero_le _,Nat.zero_le _,by simp⟩ ?_
   rintro ⟨j,d⟩ ⟨h2,h3,h4⟩
   simp only at h2 h3 h4 ⊢
   rcases Nat.lt_or_ge j x.kids.length with hj|hj
   ·rw [List.drop_eq_getElem_cons hj,List.map_cons,z0m] at h4
    have hd:=x1n m x.kids[j]
    conv=>whnf
    repeat' (first|((first|intro (_:_≤9223372036854775807)|refine IdxK.xs (by omega) ?_|refine Wr.i64 (by omega) (by omega) ?_|(refine CallK.pure (ih (by omega) (x.kids[j]'hj)) (.cons (Sub.refl _) (.cons (Sub.int (by omega)) .nil)) ?_;rintro _ rfl));conv=>whnf)|(refine Br.dec (fun _=>?_) (fun _=>?_)<;>first|(exfalso;omega)|conv=>whnf))
    all_goals first
     | exact ⟨(j+1,KO m x.kids[j]),⟨by simp only;omega,by simp only;omega,by simp only;omega⟩,by simp only;omega,Le.of_eq rfl⟩
     | exact ⟨(j+1,d),⟨by simp only;omega,by simp only;omega,by simp only;omega⟩,by simp only;omega,Le.of_eq rfl⟩
     | exact RetK.int (by rw [KO];omega)
   ·rw [List.drop_eq_nil_of_le hj,List.map_nil,z0m] at h4
    conv=>whnf
    repeat' (first|((first|intro (_:_≤9223372036854775807)|refine Wr.i64 (by omega) (by omega) ?_);conv=>whnf)|(refine Br.dec (fun _=>?_) (fun _=>?_)<;>first|(exfalso;omega)|conv=>whnf))
    exact RetK.int (by rw [KO];omega)
def mayXR (x:X):Bool:=decide (KO 20 x≤20)&&BD (wX x+1) x
theorem UO (x:X):SpecP Tryz.prog 178 [.agg x.cells] (fun r=>r = .bool (mayXR x)):=by
 refine SpecP.body VC QQ Tryz.func178 rfl Tryz.call178 (by show 1≤_;decide) ?_
 conv=>whnf
 repeat' (first|((first|(refine CallK.pure (KR 20 (by omega) x) (.cons (Sub.refl _) (.cons (Sub.refl _) .nil)) ?_;rintro _ rfl)|(refine CallK.pure (KL (wX x+1) x (by omega)) (.cons (Sub.refl _) .nil) ?_;rintro _ rfl));conv=>whnf)|(refine Br.dec (fun _=>?_) (fun _=>?_)<;>first|(exfalso;omega)|conv=>whnf))
 all_goals first
  | exact RetK.bool (by unfold mayXR;rw [decide_eq_true (by omega)];rfl)
  | exact RetK.ff (by unfold mayXR;rw [decide_eq_false (by omega)];rfl)
theorem q1b : ∀ (n:Nat) (x:X),WP n x=true→KO n x≤n ∧ ∀ k,BD k x=true
 | 0,x,h=>by rw [WP] at h;cases h
 | n+1,x,h=>by
   rw [WP] at h
   simp only [Bool.and_eq_true,decide_eq_true_eq] at h
   obtain ⟨h1,h2⟩:=h
   have hkids:(∀ y∈x.kids,WP n y=true)∧KB x=true:=by
    split at h2
    ·rename_i ho
     simp only [Bool.and_eq_true,decide_eq_true_eq] at h2
     have hk0:x.kids=[]:=by
      rw [ho] at h1
      have:q3w 1=0:=by decide
      rw [this] at h1
      exact List.length_eq_zero_iff.1 (by omega)
     refine ⟨by rw [hk0];simp,?_⟩
     unfold KB
     rw [h1,ho,h2.2]
     simp [h2.1]
    split at h2
    ·rename_i ho
     simp only [Bool.and_eq_true,decide_eq_true_eq] at h2
     have hk0:x.kids=[]:=by
      rw [ho] at h1
      have:q3w 2=0:=by decide
      rw [this] at h1
      exact List.length_eq_zero_iff.1 (by omega)
     have hne:(x.name==[])=false:=by
      cases hq:x.name with
      | nil =>
        have:=h2.2
        rw [hq] at this
        unfold isName at this
        rw [dif_neg (by simp)] at this
        cases this
      | cons a r=>rfl
     refine ⟨by rw [hk0];simp,?_⟩
     unfold KB
     rw [h1,ho,h2.2,hne,h2.1]
     simp
    ·rename_i ho1 ho2
     simp only [Bool.and_eq_true,decide_eq_true_eq,List.all_eq_true] at h2
     refine ⟨h2.2,?_⟩
     unfold KB
     rw [h1,h2.1.1,h2.1.2]
     simp [ho1,ho2]
   refine ⟨?_,fun k => ?_⟩
   ·rw [KO]
    have:z0m (x.kids.map (KO n))≤n:=x5j fun a ha=>by
     obtain ⟨y,hy,rfl⟩:=List.mem_map.1 ha
     exact (q1b n y (hkids.1 y hy)).1
    omega
   ·cases k with
    | zero=>rfl
    | succ k =>
      rw [BD,hkids.2,Bool.true_and,List.all_eq_true]
      exact fun y hy=>(q1b n y (hkids.1 y hy)).2 k
theorem z5k {x:X} (h:z4b x=true):mayXR x=true:=by
 obtain ⟨h1,h2⟩:=q1b 20 x h
 unfold mayXR
 rw [decide_eq_true h1,h2]
 rfl
open Go.Proofs
def argR (a:Arg):Bool:=bif a.ref then isName a.name&&noneB a.x else (a.name==[])&&mayXR a.x
theorem q3z (a:Arg):SpecP Tryz.prog 250 [.agg a.cells] (fun r=>r = .bool (argR a)):=by
 refine SpecP.body LK QQ Tryz.func250 rfl Tryz.call250 (by show 1≤_;decide) ?_
 conv=>whnf
 repeat' (first|((first|(refine CallK.pure (XP _) (by repeat' (first|exact ArgP.nil|refine ArgP.cons ?_ ?_|exact Sub.refl _|exact Sub.tt rfl|exact Sub.ff rfl)) ?_;rintro _ rfl)|(refine CallK.pure (GV _) (by repeat' (first|exact ArgP.nil|refine ArgP.cons ?_ ?_|exact Sub.refl _|exact Sub.tt rfl|exact Sub.ff rfl)) ?_;rintro _ rfl)|(refine CallK.pure (UO _) (by repeat' (first|exact ArgP.nil|refine ArgP.cons ?_ ?_|exact Sub.refl _|exact Sub.tt rfl|exact Sub.ff rfl)) ?_;rintro _ rfl));conv=>whnf)|(refine Br.b (fun _=>?_) (fun _=>?_)<;>conv=>whnf))
 all_goals simp only [show (ByteArray.mk #[]).data.toList=[] from rfl] at *
 all_goals first
  | exact RetK.bool (by simp_all [argR])
  | exact RetK.ff (by simp_all [argR])
theorem w0s {a:Arg} (h:NI a=true):argR a=true:=by
 unfold NI UT HZ at h
 unfold argR
 cases hr:a.ref with
 | true =>
   rw [hr] at h
   simpa using h
 | false =>
   rw [hr] at h
   simp only [cond_false,Bool.not_false,cond_true,Bool.and_eq_true] at h
   rw [h.1,z5k h.2]
   rfl
open Go.Proofs
def oneOk (s:S):Bool:=WF s&&namesB s.labels
def hasXB (s:S):Bool:=decide (s.kind=1)||decide (s.kind=3)||decide (s.kind=5)||decide (s.kind=6)||(decide (s.kind=9)&&s.has)
structure OneF (s:S):Prop where
 labels:namesB s.labels=true
 lo:1≤s.kind
 hi:s.kind≤10
 x:hasXB s=true→mayXR s.x=true
 nox:hasXB s=false→noneB s.x=true
 has:s.has=true→s.kind=9
 name:s.kind=1∨s.kind=2∨s.kind=10→isName s.name=true
 noname : ¬(s.kind=1∨s.kind=2∨s.kind=10)→(s.name==[])=true∨(s.kind=4∧isName s.name=true)
 proc:s.kind=4→isName s.proc=true
 noproc:s.kind≠4→(s.proc==[])=true
 args:s.args.all argR=true
 noargs:s.kind≠4→s.args.length=0
 thn:s.thn.length=0∨s.kind=5∨s.kind=6
 els:s.els.length=0∨s.kind=5
theorem q1u {s:Str} (h:isName s=true):(s==[])=false:=by
 cases s with
 | nil=>unfold isName at h;rw [dif_neg (by simp)] at h;cases h
 | cons a r=>rfl
theorem UJ {s:S} (h:oneOk s=true):OneF s:=by
 unfold oneOk at h
 rw [Bool.and_eq_true] at h
 obtain ⟨h,hlab⟩:=h
 have hargs:s.args.all NI=true→s.args.all argR=true:=fun h=>by
  rw [List.all_eq_true] at h ⊢
  exact fun a ha=>w0s (h a ha)
 have key : ∀ (k:Int) (f:Flds),s.kind=k→MX s.kind s.has (s.name==[])=some f→f.has=false∧(f.thn=false→s.thn.length=0)∧(f.els=false→s.els.length=0)∧(s.kind≠4→s.args.length=0)∧UT s.name f.name=true∧UT s.proc f.proc=true∧HZ s.x f.x=true∧s.args.all argR=true:=fun k f hk hf=>by
  rw [q7i hf] at h
  simp only [Bool.and_eq_true,Bool.not_eq_true',Bool.or_eq_false_iff,Bool.and_eq_false_iff,Bool.not_eq_false',decide_eq_false_iff_not,decide_eq_true_eq] at h
  obtain ⟨⟨⟨⟨⟨⟨⟨h1,h2⟩,h3⟩,h4⟩,h5⟩,h6⟩,h7⟩,h8⟩:=h
  refine ⟨h1,fun hq => ?_,fun hq => ?_,fun hq => ?_,h5,h6,h7,hargs h8⟩
  ·rcases h2 with h2|h2
   ·rw [hq] at h2;cases h2
   ·omega
  ·rcases h3 with h3|h3
   ·rw [hq] at h3;cases h3
   ·omega
  ·rcases h4 with h4|h4
   ·exact absurd h4 hq
   ·omega
 have hkind:s.kind=1∨s.kind=2∨s.kind=3∨s.kind=4∨s.kind=5∨s.kind=6∨s.kind=7∨s.kind=8∨s.kind=9∨s.kind=10:=by
  unfold WF at h
  split at h
  ·cases h
  ·rename_i f hf
   unfold MX at hf
   (repeat' split at hf)<;>first|(cases hf;done)|omega
 have fin : ∀ (k:Int) (f:Flds),s.kind=k→MX s.kind s.has (s.name==[])=some f→(1≤k∧k≤10)→f.x=hasXB s→(s.has=true→f.has=true∨k=9)→((k=1∨k=2∨k=10)→f.name=true)→(¬(k=1∨k=2∨k=10)→f.name=false∨(k=4∧f.name = !(s.name==[])))→f.proc=decide (k=4)→(f.thn=true→k=5∨k=6)→(f.els=true→k=5)→OneF s:=fun k f hk hf hkk hfx hfh hfn hfnn hfp hft hfe=>by
  obtain ⟨h1,h2,h3,h4,h5,h6,h7,h8⟩:=key k f hk hf
  unfold HZ at h7
  refine ⟨hlab,by omega,by omega,fun hq => ?_,fun hq => ?_,fun hq => ?_,fun hq => ?_,fun hq => ?_,fun hq => ?_,fun hq => ?_,h8,h4,?_,?_⟩
  ·rw [hfx,hq] at h7;exact z5k h7
  ·rw [hfx,hq] at h7;exact h7
  ·rcases hfh hq with h9|h9
   ·rw [h1] at h9;cases h9
   ·omega
  ·rw [hfn (by omega)] at h5;exact h5
  ·rcases hfnn (by omega) with h9|⟨h9,h10⟩
   ·rw [h9] at h5;exact .inl h5
   ·cases hq2:s.name==[] with
    | true=>exact .inl rfl
    | false =>
      rw [h10,hq2] at h5
      exact .inr ⟨by omega,h5⟩
  ·rw [hfp,decide_eq_true (by omega)] at h6;exact h6
  ·rw [hfp,decide_eq_false (by omega)] at h6;exact h6
  ·cases ht:f.thn with
   | true=>exact .inr (by have:=hft ht;omega)
   | false=>exact .inl (h2 ht)
  ·cases he:f.els with
   | true=>exact .inr (by have:=hfe he;omega)
   | false=>exact .inl (h3 he)
 rcases hkind with hk|hk|hk|hk|hk|hk|hk|hk|hk|hk
 ·exact fin 1 ⟨true,false,true,s.has,false,false⟩ hk (by rw [hk];rfl) (by omega) (by unfold hasXB;rw [hk];rfl) (fun h => .inl h) (fun _=>rfl) (fun h=>absurd (by omega) h) rfl (fun h=>by cases h) (fun h=>by cases h)
 ·exact fin 2 ⟨true,false,false,s.has,false,false⟩ hk (by rw [hk];rfl) (by omega) (by unfold hasXB;rw [hk];rfl) (fun h => .inl h) (fun _=>rfl) (fun h=>absurd (by omega) h) rfl (fun h=>by cases h) (fun h=>by cases h)
 ·exact fin 3 ⟨false,false,true,s.has,false,false⟩ hk (by rw [hk];rfl) (by omega) (by unfold hasXB;rw [hk];rfl) (fun h => .inl h) (fun h=>by omega) (fun _ => .inl rfl) rfl (fun h=>by cases h) (fun h=>by cases h)
 ·exact fin 4 ⟨!(s.name==[]),true,false,s.has,false,false⟩ hk (by rw [hk];rfl) (by omega) (by unfold hasXB;rw [hk];rfl) (fun h => .inl h) (fun h=>by omega) (fun _ => .inr ⟨rfl,rfl⟩) rfl (fun h=>by cases h) (fun h=>by cases h)
 ·exact fin 5 ⟨false,false,true,s.has,true,true⟩ hk (by rw [hk];rfl) (by omega) (by unfold hasXB;rw [hk];rfl) (fun h => .inl h) (fun h=>by omega) (fun _ => .inl rfl) rfl (fun _ => .inl rfl) (fun _=>rfl)
 ·exact fin 6 ⟨false,false,true,s.has,true,false⟩ hk (by rw [hk];rfl) (by omega) (by unfold hasXB;rw [hk];rfl) (fun h => .inl h) (fun h=>by omega) (fun _ => .inl rfl) rfl (fun _ => .inr rfl) (fun h=>by cases h)
 ·exact fin 7 ⟨false,false,false,s.has,false,false⟩ hk (by rw [hk];rfl) (by omega) (by unfold hasXB;rw [hk];rfl) (fun h => .inl h) (fun h=>by omega) (fun _ => .inl rfl) rfl (fun h=>by cases h) (fun h=>by cases h)
 ·exact fin 8 ⟨false,false,false,s.has,false,false⟩ hk (by rw [hk];rfl) (by omega) (by unfold hasXB;rw [hk];rfl) (fun h => .inl h) (fun h=>by omega) (fun _ => .inl rfl) rfl (fun h=>by cases h) (fun h=>by cases h)
 ·exact fin 9 ⟨false,false,s.has,false,false,false⟩ hk (by rw [hk];rfl) (by omega) (by unfold hasXB;rw [hk];cases s.has<;>rfl) (fun _ => .inr rfl) (fun h=>by omega) (fun _ => .inl rfl) rfl (fun h=>by cases h) (fun h=>by cases h)
 ·exact fin 10 ⟨true,false,false,s.has,false,false⟩ hk (by rw [hk];rfl) (by omega) (by unfold hasXB;rw [hk];rfl) (fun h => .inl h) (fun _=>rfl) (fun h=>absurd (by omega) h) rfl (fun h=>by cases h) (fun h=>by cases h)
open Go.Proofs
structure RI where
 s:S
 deep:Int
 inn:Int
 els:Bool
def RI.cells (i:RI):List AV:=i.s.cells++[.int .i64 i.deep,.int .i64 i.inn,.bool i.els]
def JF (l:List RI):AV := .sl (l.map fun i => .agg i.cells)
def flF:Nat→Int→Bool→List S→List RI→List RI
 | 0,i,e,l,out=>l.foldl (fun o s=>if o.length≤200 then o++[⟨s,13,i,e⟩] else o) out
 | m+1,i,e,l,out=>l.foldl (fun o s=>if o.length≤200 then flF m s.id true s.els (flF m s.id false s.thn (o++[⟨s,13-((m+1:Nat):Int),i,e⟩])) else o) out
theorem FQ : ∀ (m:Nat) (i:Int) (e:Bool) (l:List S) (out:List RI),out.length≤(flF m i e l out).length∧(flF m i e l out).length≤max out.length 201
 | 0,i,e,[],out=>by show out.length≤out.length∧_;exact ⟨Nat.le_refl _,Nat.le_max_left _ _⟩
 | m+1,i,e,[],out=>by show out.length≤out.length∧_;exact ⟨Nat.le_refl _,Nat.le_max_left _ _⟩
 | 0,i,e,s::r,out=>by
   have h:=FQ 0 i e r (if out.length≤200 then out++[⟨s,13,i,e⟩] else out)
   show out.length≤(flF 0 i e r (if out.length≤200 then out++[⟨s,13,i,e⟩] else out)).length∧(flF 0 i e r (if out.length≤200 then out++[⟨s,13,i,e⟩] else out)).length≤_
   split at h
   ·rw [if_pos (by assumption)]
    simp only [List.length_append,List.length_singleton] at h
    omega
   ·rw [if_neg (by assumption)]
    exact h
 | m+1,i,e,s::r,out=>by
   have h:=FQ (m+1) i e r (if out.length≤200 then flF m s.id true s.els (flF m s.id false s.thn (out++[⟨s,13-((m+1:Nat):Int),i,e⟩])) else out)
   show out.length≤(flF (m+1) i e r (if out.length≤200 then flF m s.id true s.els (flF m s.id false s.thn (out++[⟨s,13-((m+1:Nat):Int),i,e⟩])) else out)).length∧(flF (m+1) i e r (if out.length≤200 then flF m s.id true s.els (flF m s.id false s.thn (out++[⟨s,13-((m+1:Nat):Int),i,e⟩])) else out)).length≤_
   split at h
   ·rw [if_pos (by assumption)]
    have h1:=FQ m s.id false s.thn (out++[⟨s,13-((m+1:Nat):Int),i,e⟩])
    have h2:=FQ m s.id true s.els (flF m s.id false s.thn (out++[⟨s,13-((m+1:Nat):Int),i,e⟩]))
    simp only [List.length_append,List.length_singleton] at h1
    omega
   ·rw [if_neg (by assumption)]
    exact h
mutual
def fuS (d i:Int) (e:Bool):S→List RI
 | .mk id kind labels name proc x has args thn els=>⟨.mk id kind labels name proc x has args thn els,d,i,e⟩::(fuL (d+1) id false thn++fuL (d+1) id true els)
def fuL (d i:Int) (e:Bool):List S→List RI
 | []=>[]
 | t::r=>fuS d i e t++fuL d i e r
end
theorem q8o (d i:Int) (e:Bool) (t:S):fuS d i e t=⟨t,d,i,e⟩::(fuL (d+1) t.id false t.thn++fuL (d+1) t.id true t.els):=by
 cases t
 rw [fuS]
 rfl
mutual
theorem w5g (d i:Int) (e:Bool) : ∀ t:S,(fuS d i e t).map RI.s=flS t
 | .mk id kind labels name proc x has args thn els=>by
   rw [fuS,flS,List.map_cons,List.map_append,BH _ _ _ thn,BH _ _ _ els]
theorem BH (d i:Int) (e:Bool) : ∀ l:List S,(fuL d i e l).map RI.s=flL l
 | []=>by rw [fuL,flL];rfl
 | t::r=>by rw [fuL,flL,List.map_append,w5g _ _ _ t,BH _ _ _ r]
end
theorem WB (d i:Int) (e:Bool) (l:List S):(fuL d i e l).length=QY l:=by
 rw [← q6x,← BH d i e l,List.length_map]
theorem ZW {nest seen m:Int} {s:S} (h:q3h nest seen s=some m):oneOk s=true∧s.id=seen+1 ∧ ∃ m1,ZV (nest+1) (seen+1) s.thn=some m1∧ZV (nest+1) m1 s.els=some m:=by
 rw [z5q] at h
 split at h
 ·cases h
 split at h
 ·cases h
 rename_i hid
 cases hn:namesB s.labels<;>rw [hn] at h
 ·cases h
 cases hf:WF s<;>rw [hf] at h
 ·cases h
 simp only [cond_true] at h
 split at h
 ·rename_i m1 h1
  exact ⟨by unfold oneOk;rw [hn,hf];rfl,by omega,m1,h1,h⟩
 ·cases h
theorem XD {nest seen m:Int} {s:S} {r:List S} (h:ZV nest seen (s::r)=some m):nest≤12 ∧ ∃ m1,q3h nest seen s=some m1∧ZV nest m1 r=some m:=by
 rw [ZV] at h
 split at h
 ·cases h
 rename_i h0
 split at h
 ·rename_i m1 h1
  exact ⟨by omega,m1,h1,h⟩
 ·cases h
mutual
theorem w2n (d i:Int) (e:Bool) : ∀ (t:S) {n m:Int},d≤12→q3h d n t=some m → ∀ x∈fuS d i e t,x.deep≤12∧oneOk x.s=true
 | .mk id kind labels name proc x has args thn els,n,m,hd,h,y,hy=>by
   obtain ⟨h1,_,m1,h2,h3⟩:=ZW h
   rw [fuS] at hy
   rcases List.mem_cons.1 hy with rfl|hy
   ·exact ⟨hd,h1⟩
   ·rcases List.mem_append.1 hy with hy|hy
    ·exact x9k _ _ _ thn h2 y hy
    ·exact x9k _ _ _ els h3 y hy
theorem x9k (d i:Int) (e:Bool) : ∀ (l:List S) {n m:Int},ZV d n l=some m → ∀ x∈fuL d i e l,x.deep≤12∧oneOk x.s=true
 | [],n,m,h,y,hy=>by rw [fuL] at hy;cases hy
 | t::r,n,m,h,y,hy=>by
   obtain ⟨h1,m1,h2,h3⟩:=XD h
   rw [fuL] at hy
   rcases List.mem_append.1 hy with hy|hy
   ·exact w2n _ _ _ t h1 h2 y hy
   ·exact x9k _ _ _ r h3 y hy
end
theorem w2u : ∀ (k:Nat) (l:List S) (i:Int) (e:Bool) (out:List RI) (seen m:Int),ZV (13-(k:Int)) seen l=some m→out.length+QY l≤200→flF k i e l out=out++fuL (13-(k:Int)) i e l:=by
 intro k
 induction k with
 | zero =>
   intro l i e out seen m h hl
   cases l with
   | nil=>rw [fuL,List.append_nil];rfl
   | cons s r =>
     have:=(XD h).1
     simp at this
 | succ k ih =>
   intro l
   induction l with
   | nil=>intro i e out seen m h hl;rw [fuL,List.append_nil];rfl
   | cons s r ihr =>
     intro i e out seen m h hl
     obtain ⟨h1,m1,h2,h3⟩:=XD h
     obtain ⟨_,_,m2,h4,h5⟩:=ZW h2
     have ed:(13:Int)-((k+1:Nat):Int)+1=13-(k:Int):=by omega
     rw [ed] at h4 h5
     rw [QY,WZ] at hl
     show flF (k+1) i e r (if out.length≤200 then flF k s.id true s.els (flF k s.id false s.thn (out++[⟨s,13-((k+1:Nat):Int),i,e⟩])) else out)=_
     rw [if_pos (by omega),ih s.thn s.id false _ _ _ h4 (by simp;omega),ih s.els s.id true _ _ _ h5 (by simp [WB];omega),ihr i e _ _ _ h3 (by simp [WB];omega),fuL,q8o,ed]
     simp
def WS (f:Pr):List RI:=flF 12 0 false f.body []
def FJ (l:List Pr) (out:List RI):List RI:=l.foldl (fun o f=>if o.length≤200 then o++WS f else o) out
def allR (p:Pg):List RI:=FJ p.procs []
def flatU (f:Pr):List RI:=fuL 1 0 false f.body
theorem q5f : ∀ (l:List Pr) {n m:Int},XN n l=some m → ∀ f∈l,JO f=true ∧ ∃ a b,ZV 1 a f.body=some b
 | [],_,_,_,f,hf=>by cases hf
 | g::r,n,m,h,f,hf=>by
   rw [XN] at h
   cases hm:JO g<;>rw [hm] at h
   ·cases h
   simp only [cond_true] at h
   split at h
   ·rename_i m1 h1
    rcases List.mem_cons.1 hf with rfl|hf
    ·exact ⟨hm,_,_,h1⟩
    ·exact q5f r h f hf
   ·cases h
theorem q1q {p:Pg} (h:VX p=true):p.globals.length≤16∧p.procs.length≤16∧namesB p.globals=true ∧ ∀ f∈p.procs,JO f=true ∧ ∃ a b,ZV 1 a f.body=some b:=by
 unfold VX at h
 simp only [Bool.and_eq_true,decide_eq_true_eq] at h
 obtain ⟨⟨⟨h1,h2⟩,h3⟩,h4⟩:=h
 refine ⟨h1,h2,h3,?_⟩
 cases hm:XN 0 p.procs with
 | none=>rw [hm] at h4;cases h4
 | some m=>exact q5f p.procs hm
theorem GF : ∀ (l:List Pr) (f:Pr),f∈l→QY f.body≤cntP l
 | [],f,h=>by cases h
 | g::r,f,h=>by
   rw [cntP]
   rcases List.mem_cons.1 h with rfl|h
   ·omega
   ·have:=GF r f h
    omega
theorem JP {p:Pg} (h:VX p=true) {f:Pr} (hf:f∈p.procs):WS f=flatU f:=by
 obtain ⟨_,_,_,h4⟩:=q1q h
 obtain ⟨_,a,b,h5⟩:=h4 f hf
 have h6:=(XS h).2.2
 have h7:=GF _ f hf
 have:=w2u 12 f.body 0 false [] a b h5 (by simp;omega)
 simpa [WS,flatU] using this
theorem x8q : ∀ (l:List Pr) (out:List RI),(∀ f∈l,WS f=flatU f)→out.length+cntP l≤200→FJ l out=out++l.flatMap flatU
 | [],out,_,_=>by show out=_;simp
 | f::r,out,h,hl=>by
   rw [cntP] at hl
   show FJ r (if out.length≤200 then out++WS f else out)=_
   have e:=WB 1 0 false f.body
   rw [if_pos (by omega),h f List.mem_cons_self,x8q r _ (fun g hg=>h g (List.mem_cons_of_mem _ hg)) (by simp only [flatU,List.length_append,e];omega)]
   simp
theorem x1t {p:Pg} (h:VX p=true):allR p=p.procs.flatMap flatU:=by
 have:=x8q p.procs [] (fun f hf=>JP h hf) (by have:=(XS h).2.2;simpa using this)
 simpa [allR] using this
theorem z5f {p:Pg} (h:VX p=true) : ∀ x∈p.procs.flatMap flatU,x.deep≤12∧oneOk x.s=true:=by
 intro x hx
 obtain ⟨f,hf,hx⟩:=List.mem_flatMap.1 hx
 obtain ⟨_,_,_,h4⟩:=q1q h
 obtain ⟨_,a,b,h5⟩:=h4 f hf
 exact x9k 1 0 false f.body h5 x hx
theorem ME : ∀ (l:List Pr) {n:Nat} {m:Int},XN n l=some m→(l.flatMap fun f=>flL f.body).map S.id=JC n (cntP l)
 | [],n,m,_=>by rw [cntP];rfl
 | g::r,n,m,h=>by
   rw [XN] at h
   cases hm:JO g<;>rw [hm] at h
   ·cases h
   simp only [cond_true] at h
   split at h
   ·rename_i m1 h1
    have h2:=ZD _ _ g.body h1
    have h':XN ((n+QY g.body:Nat):Int) r=some m:=by rw [← h,h2];rfl
    have h3:=ME r h'
    rw [List.flatMap_cons,List.map_append,YQ 1 g.body h1,h3,cntP,GH]
   ·cases h
theorem z9r (l:List Pr):(l.flatMap flatU).map RI.s=l.flatMap fun f=>flL f.body:=by
 induction l with
 | nil=>rfl
 | cons f r ih =>
   rw [List.flatMap_cons,List.flatMap_cons,List.map_append,ih]
   congr 1
   exact BH _ _ _ _
theorem MI (l:List Pr):(l.flatMap flatU).length=cntP l:=by
 induction l with
 | nil=>rfl
 | cons f r ih=>rw [List.flatMap_cons,List.length_append,ih,cntP];congr 1;exact WB _ _ _ _
theorem z6i {p:Pg} (h:VX p=true) {k:Nat} {x:RI} (hk:(p.procs.flatMap flatU)[k]? = some x):x.s.id=(k:Int)+1:=by
 unfold VX at h
 simp only [Bool.and_eq_true,decide_eq_true_eq] at h
 cases hm:XN 0 p.procs with
 | none=>rw [hm] at h;cases h.2
 | some m =>
   have h1:=ME p.procs (n:=0) hm
   rw [← z9r] at h1
   have h2:(((p.procs.flatMap flatU).map RI.s).map S.id)[k]? = some x.s.id:=by simp [hk]
   rw [h1] at h2
   unfold JC at h2
   have hlt:k<cntP p.procs:=by rw [← MI];exact (List.getElem?_eq_some_iff.1 hk).1
   rw [List.getElem?_map,List.getElem?_range' hlt] at h2
   simp at h2
   omega
open Go.Proofs
def riH (t:Nat) (out:List RI):Heap:=[(2000,.own t 16 (out.map fun i => .agg i.cells))]
theorem w1j {t:Nat} {out:List RI} {x:RI}:riH t (out++[x])=[(2000,.own t 16 ((out.map fun i => .agg i.cells)++[.agg x.cells]))]:=by simp [riH]
theorem WJ (l:List RI):(l.map fun i=>AV.agg i.cells).length=l.length:=List.length_map _
theorem z7c {i:Int} {e:Bool} {l:List S} {j:Nat} {o:List RI} (hj:j<l.length) (h:o.length≤200):flF 0 i e (l.drop j) o=flF 0 i e (l.drop (j+1)) (o++[⟨l[j],13,i,e⟩]):=by
 rw [QJ hj]
 show flF 0 i e (l.drop (j+1)) (if o.length≤200 then _ else _)=_
 rw [if_pos h]
theorem w1y {m:Nat} {i:Int} {e:Bool} {l:List S} {j:Nat} {o:List RI} (hj:j<l.length) (h:o.length≤200):flF (m+1) i e (l.drop j) o=flF (m+1) i e (l.drop (j+1)) (flF m l[j].id true l[j].els (flF m l[j].id false l[j].thn (o++[RI.mk l[j] (13-((m+1:Nat):Int)) i e]))):=by
 rw [QJ hj]
 show flF (m+1) i e (l.drop (j+1)) (if o.length≤200 then _ else _)=_
 rw [if_pos h]
theorem q3u : ∀ (m:Nat) {i:Int} {e:Bool} {l:List S} {o:List RI},¬o.length≤200→flF m i e l o=o
 | 0,i,e,[],o,_=>rfl
 | m+1,i,e,[],o,_=>rfl
 | 0,i,e,s::r,o,h=>by
   show flF 0 i e r (if o.length≤200 then _ else o)=o
   rw [if_neg h]
   exact q3u 0 h
 | m+1,i,e,s::r,o,h=>by
   show flF (m+1) i e r (if o.length≤200 then _ else o)=o
   rw [if_neg h]
   exact q3u (m+1) h
theorem z4c (m:Nat) {i:Int} {e:Bool} {o:List RI}:flF m i e [] o=o:=by cases m<;>rfl
theorem q0x : ∀ (m:Nat) (_:m≤12) (l:List S) (i:Int) (e:Bool) (out:List RI),
  SpecH Tryz.prog 155 [.p (eSs l),.p (.int .i64 (13-(m:Int))),.p (.int .i64 i),.p (.bool e),.hd 2000 0 out.length] (riH 103 out)
   (fun r H=>r = .hd 2000 0 (flF m i e l out).length∧H=riH 103 (flF m i e l out)):=by
 intro m
 induction m with
 | zero =>
   intro _ l i e out
   have hll:=S.avs_len l
   refine SpecH.body YF QQ Tryz.func155 rfl Tryz.call155 (by show 5≤_;decide) ?_
   conv=>whnf
   skip
   refine LoopK.inv QQ (fun x:Nat×List RI=>⟨[(0,.p (eSs l)),(1,.p (.int .i64 (13-((0:Nat):Int)))),(2,.p (.int .i64 i)),(3,.p (.bool e)),(4,.hd 2000 0 x.2.length),(11,.p (.int .i64 x.1))],riH 103 x.2⟩) (fun x=>x.1≤l.length∧flF 0 i e (l.drop x.1) x.2=flF 0 i e l out) (fun x=>l.length-x.1) (0,out) (Le.of_eq rfl) ⟨Nat.zero_le _,rfl⟩ ?_
   rintro ⟨j,o⟩ ⟨h2,h3⟩
   simp only at h2 h3 ⊢
   have hol:=WJ o
   rcases Nat.lt_or_ge j l.length with hj|hj
   ·conv=>whnf
    repeat' (first|((first|intro (_:_≤9223372036854775807)|refine And.intro rfl ?_|(refine And.intro ⟨by decide,by decide⟩ ?_)|refine BsK.pure (fun x hx=>by rcases List.mem_singleton.1 hx with rfl;rfl) rfl ?_|refine IdxK.ss (by omega) ?_|refine Wr.i64 (by omega) (by omega) ?_|refine AppK.mk (by simp) rfl (by show (o.length+1)*232≤140737488355328;omega) (by show o.length+1≤9223372036854775807;omega) (fun x hx=>by rcases List.mem_singleton.1 hx with rfl;exact ⟨rfl,rfl⟩) ?_);conv=>whnf)|(refine Br.dec (fun _=>?_) (fun _=>?_)<;>first|(exfalso;omega)|conv=>whnf))
    ·exact ⟨(j+1,o++[⟨l[j],13,i,e⟩]),⟨hj,by rw [← h3,z7c hj (by omega)]⟩,by simp only;omega,Le.of_eq (by simp only [w1j,List.length_append,List.length_singleton];rfl)⟩
    ·rw [q3u 0 (by omega)] at h3
     exact ⟨_,.refl _,by rw [← h3];exact ⟨rfl,rfl⟩⟩
   ·conv=>whnf
    repeat' (first|(intro (_:_≤9223372036854775807);conv=>whnf)|(refine Br.dec (fun _=>?_) (fun _=>?_)<;>first|(exfalso;omega)|conv=>whnf))
    rw [List.drop_eq_nil_of_le hj,z4c] at h3
    exact ⟨_,.refl _,by rw [← h3];exact ⟨rfl,rfl⟩⟩
 | succ m ih =>
   intro hm l i e out
   have hll:=S.avs_len l
   refine SpecH.body YF QQ Tryz.func155 rfl Tryz.call155 (by show 5≤_;decide) ?_
   conv=>whnf
   skip
   refine LoopK.inv QQ (fun x:Nat×List RI=>⟨[(0,.p (eSs l)),(1,.p (.int .i64 (13-((m+1:Nat):Int)))),(2,.p (.int .i64 i)),(3,.p (.bool e)),(4,.hd 2000 0 x.2.length),(11,.p (.int .i64 x.1))],riH 103 x.2⟩) (fun x=>x.1≤l.length∧flF (m+1) i e (l.drop x.1) x.2=flF (m+1) i e l out) (fun x=>l.length-x.1) (0,out) (Le.of_eq rfl) ⟨Nat.zero_le _,rfl⟩ ?_
   rintro ⟨j,o⟩ ⟨h2,h3⟩
   simp only at h2 h3 ⊢
   have hol:=WJ o
   rcases Nat.lt_or_ge j l.length with hj|hj
   ·conv=>whnf
    repeat' (first|((first|intro (_:_≤9223372036854775807)|refine DrawK.auto QQ mixed (by kernel_rfl) ?_|refine And.intro rfl ?_|(refine And.intro ⟨by decide,by decide⟩ ?_)|refine BsK.pure (fun x hx=>by rcases List.mem_singleton.1 hx with rfl;rfl) rfl ?_|refine IdxK.ss (by omega) ?_|refine Wr.i64 (by omega) (by omega) ?_|refine AppK.mk (by simp) rfl (by show (o.length+1)*232≤140737488355328;omega) (by show o.length+1≤9223372036854775807;omega) (fun x hx=>by rcases List.mem_singleton.1 hx with rfl;exact ⟨rfl,rfl⟩) ?_);conv=>whnf)|(refine Br.dec (fun _=>?_) (fun _=>?_)<;>first|(exfalso;omega)|conv=>whnf))
    ·refine CallK.heap [(2000,2000)] 0 (ArgsH.cons (LSub.refl _) (ArgsH.cons (LSub.p (Sub.int (by omega))) (ArgsH.cons (LSub.refl _) (ArgsH.cons (LSub.p (Sub.ff rfl)) (ArgsH.cons (LSub.of_eq (by rw [List.length_append];rfl)) ArgsH.nil))))) (by exact BlksH.cons (j:=2000) rfl rfl (CSub.of_eq (by rw [List.map_append];first|done|rfl)) BlksH.nil) (ih (by omega) l[j].thn l[j].id false (o++[RI.mk l[j] (13-((m+1:Nat):Int)) i e])) rfl rfl ?_
     rintro l' H' ⟨rfl,rfl⟩
     conv=>whnf
     repeat' ((first|refine DrawK.auto QQ mixed (by kernel_rfl) ?_|refine IdxK.ss (by omega) ?_|refine Wr.i64 (by omega) (by omega) ?_);conv=>whnf)
     refine CallK.heap [(2000,2000)] 0 (ArgsH.cons (LSub.refl _) (ArgsH.cons (LSub.p (Sub.int (by omega))) (ArgsH.cons (LSub.refl _) (ArgsH.cons (LSub.p (Sub.tt rfl)) (ArgsH.cons (LSub.refl _) ArgsH.nil))))) (by exact BlksH.cons (j:=2000) rfl rfl (CSub.refl _) BlksH.nil) (ih (by omega) l[j].els l[j].id true (flF m l[j].id false l[j].thn (o++[RI.mk l[j] (13-((m+1:Nat):Int)) i e]))) rfl rfl ?_
     rintro l' H' ⟨rfl,rfl⟩
     conv=>whnf
     repeat' (refine Wr.i64 (by omega) (by omega) ?_;conv=>whnf)
     exact ⟨(j+1,flF m l[j].id true l[j].els (flF m l[j].id false l[j].thn (o++[RI.mk l[j] (13-((m+1:Nat):Int)) i e]))),⟨hj,by rw [← h3,w1y hj (by omega)]⟩,by simp only;omega,Le.of_eq rfl⟩
    ·rw [q3u (m+1) (by omega)] at h3
     exact ⟨_,.refl _,by rw [← h3];exact ⟨rfl,rfl⟩⟩
   ·conv=>whnf
    repeat' (first|(intro (_:_≤9223372036854775807);conv=>whnf)|(refine Br.dec (fun _=>?_) (fun _=>?_)<;>first|(exfalso;omega)|conv=>whnf))
    rw [List.drop_eq_nil_of_le hj,z4c] at h3
    exact ⟨_,.refl _,by rw [← h3];exact ⟨rfl,rfl⟩⟩
theorem XZ (f:Pr):SpecP Tryz.prog 97 [.agg f.cells] (fun r=>r=JF (WS f)):=by
 refine SpecP.body PO QQ Tryz.func97 rfl Tryz.call97 (by show 1≤_;decide) ?_
 conv=>whnf
 skip
 refine CallK.nil 5 103 16 rfl (.cons rfl (.cons rfl (.cons rfl (.cons rfl (.row .nil))))) ?_
 refine CallK.heap [(2000,5)] 0 (by repeat' (first|exact ArgsH.nil|refine ArgsH.cons ?_ ?_|exact LSub.refl _|exact LSub.p Sub.nils|exact LSub.p (Sub.tt rfl)|exact LSub.p (Sub.ff rfl)|exact LSub.p (Sub.int (by omega)))) (by refine BlksH.cons (j:=5) rfl rfl ?_ ?_;exact CSub.refl _;exact BlksH.nil) (q0x 12 (by omega) f.body 0 false []) rfl rfl ?_
 rintro l' H' ⟨rfl,rfl⟩
 conv=>whnf
 exact ⟨_,.hd rfl (by simp [WS]),rfl⟩
theorem z0c {l:List Pr} {j:Nat} {o:List RI} (hj:j<l.length) (h:o.length≤200):FJ (l.drop j) o=FJ (l.drop (j+1)) (o++WS l[j]):=by
 rw [QJ hj]
 show FJ (l.drop (j+1)) (if o.length≤200 then _ else _)=_
 rw [if_pos h]
theorem q9j : ∀ {l:List Pr} {o:List RI},¬o.length≤200→FJ l o=o
 | [],o,_=>rfl
 | f::r,o,h=>by
   show FJ r (if o.length≤200 then _ else o)=o
   rw [if_neg h]
   exact q9j h
theorem KM (f:Pr):(WS f).length≤201:=by
 have:=(FQ 12 0 false f.body []).2
 simpa [WS] using this
theorem UN (p:Pg):SpecP Tryz.prog 115 [.agg p.cells] (fun r=>r=JF (allR p)):=by
 refine SpecP.body LG QQ Tryz.func115 rfl Tryz.call115 (by show 1≤_;decide) ?_
 conv=>whnf
 repeat' (intro (_:_≤9223372036854775807);conv=>whnf)
 have hl2:(p.procs.map fun f=>AV.agg f.cells).length=p.procs.length:=List.length_map _
 refine LoopK.inv QQ (fun x:Nat×List RI=>⟨[(3,.hd 1 0 x.2.length),(7,.p (.sl (p.procs.map fun f => .agg f.cells))),(8,.p (.int .i64 (p.procs.map fun f=>AV.agg f.cells).length)),(9,.p (.int .i64 x.1))],[(1,.own 103 16 (x.2.map fun i => .agg i.cells))]⟩) (fun x=>x.1≤p.procs.length∧x.2.length≤200∧FJ (p.procs.drop x.1) x.2=allR p) (fun x=>p.procs.length-x.1) (0,[])
  (Le.mk [(1,.own 103 16 [])] (by simp [Chunk.new0];rfl) (by simp) (by simp) (.cons (.nil List.mem_cons_self) (.cons (.refl _) (.cons (.refl _) (.cons (.refl _) .nil)))) (.new List.mem_cons_self .nil)) ⟨Nat.zero_le _,Nat.zero_le _,rfl⟩ ?_
 rintro ⟨j,o⟩ ⟨h2,h4,h3⟩
 simp only at h2 h3 h4 ⊢
 have hol:=WJ o
 rcases Nat.lt_or_ge j p.procs.length with hj|hj
 ·have hfl:=KM p.procs[j]
  have hst:=fun (h:o.length≤200)=>z0c hj h
  have hF:=XZ p.procs[j]
  generalize hL:WS p.procs[j]=L at hfl hst hF
  have hfl2:=WJ L
  conv=>whnf
  repeat' (first|((first|intro (_:_≤9223372036854775807)|refine And.intro rfl ?_|(refine And.intro ⟨by decide,by decide⟩ ?_)|refine IdxK.map (by omega) (fun _=>rfl) ?_|refine Wr.i64 (by omega) (by omega) ?_|(refine CallK.pure hF (.cons (Sub.refl _) .nil) ?_;rintro _ rfl)|refine AppK.mk (by simp) rfl (by rw [hfl2];show (o.length+L.length)*232≤140737488355328;omega) (by rw [hfl2];show o.length+L.length≤9223372036854775807;omega) (fun x hx=>by obtain ⟨y,_,rfl⟩:=List.mem_map.1 hx;exact ⟨rfl,rfl⟩) ?_);conv=>whnf)|(refine Br.dec (fun _=>?_) (fun _=>?_)<;>first|(exfalso;omega)|conv=>whnf))
  ·refine ⟨_,.hd rfl (by simp),?_⟩
   rw [← h3,hst h4,q9j (by simp;omega),← List.map_append]
   rfl
  ·exact ⟨(j+1,o++L),⟨hj,by simp;omega,by rw [← h3,hst h4]⟩,by simp only;omega,Le.of_eq (by simp only [List.length_append,List.map_append,List.length_map];rfl)⟩
 ·conv=>whnf
  repeat' (refine Br.dec (fun _=>?_) (fun _=>?_)<;>first|(exfalso;omega)|conv=>whnf)
  rw [List.drop_eq_nil_of_le hj] at h3
  refine ⟨_,.hd rfl (by simp),?_⟩
  rw [← h3]
  simp [JF,FJ]
open Go.Proofs
def z1h (n k:Int):Int:=if k<1 then 0 else if n.tmod k<0 then n.tmod k+k else n.tmod k
theorem x7r {n k:Int} (hk:0<k):0≤z1h n k∧z1h n k<k:=by
 unfold z1h
 have h1:=Int.tmod_lt_of_pos n hk
 have h2 : -k<n.tmod k:=by
  rcases Int.le_total 0 n with h|h
  ·have:=Int.tmod_nonneg k h;omega
  ·have h3:=Int.tmod_lt_of_pos (-n) hk
   rw [Int.neg_tmod] at h3
   omega
 rw [if_neg (by omega)]
 split<;>omega
theorem q2i (n k:Int) (hk:k≤1000000):SpecP Tryz.prog 81 [.int .i64 n,.int .i64 k] (fun r=>r = .int .i64 (z1h n k)):=by
 refine SpecP.body MO QQ Tryz.func81 rfl Tryz.call81 (by show 2≤_;decide) ?_
 conv=>whnf
 have h1:=fun h:0<k=>x7r (n:=n) h
 repeat' (first|(refine And.intro (by omega) ?_;conv=>whnf)|(refine Br.dec (fun _=>?_) (fun _=>?_)<;>first|(exfalso;omega)|conv=>whnf))
 all_goals first
  | (refine Wr.i64 (by have:=h1 (by omega);unfold z1h at this;rw [if_neg (by omega),if_pos (by assumption)] at this;omega) (by have:=h1 (by omega);unfold z1h at this;rw [if_neg (by omega),if_pos (by assumption)] at this;omega) ?_
     conv=>whnf
     exact RetK.int (by unfold z1h;rw [if_neg (by assumption),if_pos (by assumption)]))
  | exact RetK.int (by unfold z1h;rw [if_pos (by assumption)])
  | exact RetK.int (by unfold z1h;rw [if_neg (by assumption),if_neg (by assumption)])
def q0u (l:List Int) (x:Int):Bool:=l.any fun y=>decide (x=y)
theorem QA (l:List Int) (x:Int):SpecP Tryz.prog 98 [QS l,.int .i64 x] (fun r=>r = .bool (q0u l x)):=by
 refine SpecP.body BT QQ Tryz.func98 rfl Tryz.call98 (by show 2≤_;decide) ?_
 conv=>whnf
 repeat' (intro (_:_≤9223372036854775807);conv=>whnf)
 have hl:(l.map (AV.int .i64)).length=l.length:=List.length_map _
 refine LoopK.inv QQ (fun j:Nat=>⟨[(1,.p (.int .i64 x)),(7,.p (QS l)),(8,.p (.int .i64 (l.map (AV.int .i64)).length)),(9,.p (.int .i64 j))],[]⟩) (fun j=>j≤l.length∧(l.drop j).any (fun y=>decide (x=y))=q0u l x) (fun j=>l.length-j) 0 (Le.of_eq rfl) ⟨Nat.zero_le _,rfl⟩ ?_
 rintro j ⟨h2,h3⟩
 rcases Nat.lt_or_ge j l.length with hj|hj
 ·conv=>whnf
  repeat' (first|((first|refine IdxK.map (by omega) (fun _=>rfl) ?_|refine Wr.i64 (by omega) (by omega) ?_);conv=>whnf)|(refine Br.dec (fun _=>?_) (fun _=>?_)<;>first|(exfalso;omega)|conv=>whnf))
  all_goals first
   | exact RetK.tt (by rw [← h3,q0z hj (by simp_all)])
   | exact ⟨j+1,⟨hj,by rw [q2y hj (by simp;omega)];exact h3⟩,by omega,Le.of_eq rfl⟩
 ·conv=>whnf
  repeat' (refine Br.dec (fun _=>?_) (fun _=>?_)<;>first|(exfalso;omega)|conv=>whnf)
  exact RetK.ff (by rw [← h3,FB hj])
def inS (l:List Str) (x:Str):Bool:=l.any fun y=>y==x
theorem QM (l:List Str) (x:Str):SpecP Tryz.prog 56 [QH l,.str x] (fun r=>r = .bool (inS l x)):=by
 refine SpecP.body q1t QQ Tryz.func56 rfl Tryz.call56 (by show 2≤_;decide) ?_
 conv=>whnf
 repeat' (intro (_:_≤9223372036854775807);conv=>whnf)
 have hl:(l.map AV.str).length=l.length:=List.length_map _
 refine LoopK.inv QQ (fun j:Nat=>⟨[(0,.p (QH l)),(1,.p (.str x)),(7,.p (.int .i64 (l.map AV.str).length)),(8,.p (.int .i64 j))],[]⟩) (fun j=>j≤l.length∧(l.drop j).any (fun y=>y==x)=inS l x) (fun j=>l.length-j) 0 (Le.of_eq rfl) ⟨Nat.zero_le _,rfl⟩ ?_
 rintro j ⟨h2,h3⟩
 rcases Nat.lt_or_ge j l.length with hj|hj
 ·conv=>whnf
  repeat' (first|((first|refine IdxK.map (by omega) (fun _=>rfl) ?_|refine Wr.i64 (by omega) (by omega) ?_);conv=>whnf)|(refine Br.dec (fun _=>?_) (fun _=>?_)<;>first|(exfalso;omega)|conv=>whnf)|(refine Br.b (fun _=>?_) (fun _=>?_)<;>conv=>whnf))
  ·exact RetK.tt (by rw [← h3,q0z hj (by assumption)])
  ·exact ⟨j+1,⟨hj,by rw [q2y hj (by assumption)];exact h3⟩,by omega,Le.of_eq rfl⟩
 ·conv=>whnf
  repeat' (refine Br.dec (fun _=>?_) (fun _=>?_)<;>first|(exfalso;omega)|conv=>whnf)
  exact RetK.ff (by rw [← h3,FB hj])
def ZL (p:Pg) (n:Int):Str:=match p.procs[(z1h n p.procs.length).toNat]? with
 | some f=>f.name
 | none=>[]
theorem NG (p:Pg) (n:Int) (hp:p.procs.length≤20000):SpecP Tryz.prog 19 [.agg p.cells,.int .i64 n] (fun r=>r = .str (ZL p n)):=by
 refine SpecP.body DZ QQ Tryz.func19 rfl Tryz.call19 (by show 2≤_;decide) ?_
 conv=>whnf
 have hl:(p.procs.map fun f=>AV.agg f.cells).length=p.procs.length:=List.length_map _
 have hr:=fun h:0<(p.procs.length:Int)=>x7r (n:=n) h
 repeat' (first|((first|intro (_:_≤9223372036854775807)|refine DrawK.auto QQ mixed (by kernel_rfl) ?_|(refine CallK.pure (q2i n (p.procs.length:Int) (by omega)) (.cons (Sub.refl _) (.cons (Sub.int (by omega)) .nil)) ?_;rintro _ rfl));conv=>whnf)|(refine Br.dec (fun _=>?_) (fun _=>?_)<;>first|(exfalso;omega)|conv=>whnf))
 ·refine RetK.p ?_
  have h0:p.procs=[]:=List.length_eq_zero_iff.1 (by omega)
  unfold ZL
  rw [h0]
  rfl
 ·obtain ⟨h1,h2⟩:=hr (by omega)
  have hlt:(z1h n p.procs.length).toNat<p.procs.length:=by omega
  refine IdxK.at (k:=(z1h n p.procs.length).toNat) (e := .agg p.procs[(z1h n p.procs.length).toNat].cells) (by omega) (by rw [List.getElem?_map,List.getElem?_eq_getElem hlt];rfl) rfl ?_
  conv=>whnf
  skip
  exact RetK.p (by unfold ZL;rw [List.getElem?_eq_getElem hlt])
def z8p (a b:Int):Bool:=bif decide (a = -1)||decide (b = -1) then decide (b = -1) && !decide (a = -1) else decide (a<b)
theorem JX (a b:Int):SpecP Tryz.prog 147 [.int .i64 a,.int .i64 b] (fun r=>r = .bool (z8p a b)):=by
 refine SpecP.body FI QQ Tryz.func147 rfl Tryz.call147 (by show 2≤_;decide) ?_
 conv=>whnf
 repeat' (refine Br.dec (fun _=>?_) (fun _=>?_)<;>first|(exfalso;omega)|conv=>whnf)
 all_goals first
  | exact RetK.bool (by unfold z8p;simp_all)
  | exact RetK.ff (by unfold z8p;simp_all)
  | exact RetK.bool (by unfold z8p;simp_all;omega)
open Go.Proofs
theorem NC {α β:Type} {f:α→β} : ∀ {l:List α},(l.map f).Nodup → ∀ a∈l,∀ b∈l,f a=f b→a=b
 | [],_,a,ha,_,_,_=>by cases ha
 | c::r,h,a,ha,b,hb,e=>by
   rw [List.map_cons,List.nodup_cons] at h
   rcases List.mem_cons.1 ha with ha1|ha1
   ·rcases List.mem_cons.1 hb with hb1|hb1
    ·rw [ha1,hb1]
    ·exact (h.1 (List.mem_map.2 ⟨b,hb1,by rw [← e,ha1]⟩)).elim
   ·rcases List.mem_cons.1 hb with hb1|hb1
    ·exact (h.1 (List.mem_map.2 ⟨a,ha1,by rw [e,hb1]⟩)).elim
    ·exact NC h.2 a ha1 b hb1 e
theorem VK {α:Type} [DecidableEq α] : ∀ {l m:List α},l.Nodup→(∀ s∈l,s∈m)→l.length≤m.length
 | [],m,_,_=>Nat.zero_le _
 | a::r,m,h,hs=>by
   rw [List.nodup_cons] at h
   have ha:=hs a List.mem_cons_self
   have h1:=VK (m:=m.erase a) h.2 fun s hsr=>(List.mem_erase_of_ne (fun e=>h.1 (by rw [← e];exact hsr))).2 (hs s (List.mem_cons_of_mem _ hsr))
   rw [List.length_erase_of_mem ha] at h1
   have:=List.length_pos_of_mem ha
   simp only [List.length_cons]
   omega
theorem q0i (n c:Nat):(JC n c).Nodup:=by
 unfold JC List.Nodup
 rw [List.pairwise_map]
 exact List.Pairwise.imp (fun h e=>h (by omega)) (List.nodup_range' (s:=n+1) (n:=c) (step:=1))
theorem z5r {p:Pg} (hm:VX p=true) {j:Nat} {f:Pr} (hj:p.procs[j]? = some f):(itsOf p j f).map (fun it=>it.s.id)=JC (QR p.procs j) (QY f.body):=by
 rw [← q9d hm hj,← NF (j:Nat) 0 (-1) 0 (QR p.procs j) f.body,List.map_map]
 rfl
theorem w2t {p:Pg} (hm:VX p=true) {j:Nat} {f:Pr} (hj:p.procs[j]? = some f) {a b:Item} (ha:a∈itsOf p j f) (hb:b∈itsOf p j f) (h:a.s.id=b.s.id):a=b :=
 NC (f:=fun it:Item=>it.s.id) (by rw [z5r hm hj];exact q0i _ _) a ha b hb h
theorem w5b {p:Pg} {j:Nat} {f:Pr} {t:S} (h:t∈flL f.body) : ∃ it∈itsOf p j f,it.s=t:=by
 rw [← NF (j:Nat) 0 (-1) 0 (QR p.procs j) f.body] at h
 obtain ⟨it,h1,h2⟩:=List.mem_map.1 h
 exact ⟨it,h1,h2⟩
theorem x2e (sh:Sheet) (f:Pr) (it:Item):1≤(ZE sh f it).length∧(ZE sh f it).length≤2∧((ZE sh f it).length=2→it.s.kind=5∨it.s.kind=6):=by
 unfold ZE
 split
 ·rename_i h;exact ⟨by simp,by simp,fun _ => .inl h⟩
 split
 ·rename_i h;exact ⟨by simp,by simp,fun _ => .inr h⟩
 split
 ·simp
 split
 ·simp
 split
 ·simp
 split<;>simp
theorem z6a {l:List Step} (h:l.Pairwise NT):l.Nodup:=h.imp fun h e=>by subst e;exact HQ h
theorem UV {l:List Int} {x:Int}:q0u l x=true↔x∈l:=by
 unfold q0u
 rw [List.any_eq_true]
 refine ⟨fun ⟨y,h1,h2⟩=>by simp at h2;exact h2▸h1,fun h=>⟨x,h,by simp⟩⟩
open Go.Proofs
inductive Rch {α:Type} (R:α→α→Prop) (a:α):α→Prop
 | refl:Rch R a a
 | tail {b c:α} (h:Rch R a b) (hr:R b c):Rch R a c
theorem Rch.trans {α:Type} {R:α→α→Prop} {a b c:α} (h:Rch R a b) (h':Rch R b c):Rch R a c:=by
 induction h' with
 | refl=>exact h
 | tail _ hr ih=>exact .tail ih hr
theorem Rch.head {α:Type} {R:α→α→Prop} {a b c:α} (hr:R a b) (h:Rch R b c):Rch R a c:=Rch.trans (.tail .refl hr) h
theorem Rch.mono {α:Type} {R R':α→α→Prop} (h : ∀ x y,R x y→R' x y) {a b:α} (hr:Rch R a b):Rch R' a b:=by
 induction hr with
 | refl=>exact .refl
 | tail _ hr ih=>exact .tail ih (h _ _ hr)
theorem Rch.closed {α:Type} {R:α→α→Prop} {S:α→Prop} (hS : ∀ x y,S x→R x y→S y) {a b:α} (ha:S a) (h:Rch R a b):S b:=by
 induction h with
 | refl=>exact ha
 | tail _ hr ih=>exact hS _ _ ih hr
structure WkM (n:Nat) (st:List Bool×List Int):Prop where
 inv:wkInv n st
 mem : ∀ x,x∈st.2↔(0≤x∧x<n)∧st.1.getD x.toNat false=true
theorem WkM.start (n:Nat):WkM n (List.replicate n false,[]):=⟨BO n,fun x=>by
 simp only [List.not_mem_nil,false_iff,not_and]
 intro _
 rw [List.getD_eq_getElem?_getD,List.getElem?_replicate]
 split<;>simp⟩
theorem WkM.see {n:Nat} {st:List Bool×List Int} (h:WkM n st) {b:Int} (hb:0≤b∧b<n):WkM n (JN st b)∧(∀ x,x∈(JN st b).2↔x∈st.2∨x=b)∧st.2 <+: (JN st b).2:=by
 have hi:=NN h.inv hb
 cases hs:st.1.getD b.toNat false with
 | true =>
   have e:JN st b=st:=by unfold JN;rw [hs];rfl
   rw [e]
   refine ⟨h,fun x=>⟨.inl,fun hx => ?_⟩,List.prefix_refl _⟩
   rcases hx with hx|rfl
   ·exact hx
   ·exact (h.mem _).2 ⟨hb,hs⟩
 | false =>
   have e:JN st b=(st.1.set b.toNat true,st.2++[b]):=by unfold JN;rw [hs];rfl
   rw [e] at hi ⊢
   have hlen:=h.inv.1
   refine ⟨⟨hi,fun x => ?_⟩,fun x=>by simp,List.prefix_append _ _⟩
   rw [List.mem_append,List.mem_singleton,h.mem]
   simp only [List.getD_eq_getElem?_getD,List.getElem?_set]
   by_cases hx:x=b
   ·subst hx
    rw [if_pos rfl,if_pos (by omega)]
    simp [hb]
   ·constructor
    ·rintro (⟨h1,h2⟩|h2)
     ·refine ⟨h1,?_⟩
      rw [if_neg (by omega)]
      exact h2
     ·exact absurd h2 hx
    ·rintro ⟨h1,h2⟩
     rw [if_neg (by omega)] at h2
     exact .inl ⟨h1,h2⟩
theorem WkM.fold {n:Nat} : ∀ (l:List Int) {st:List Bool×List Int},WkM n st→(∀ b∈l,0≤b∧b<n)→WkM n (l.foldl JN st)∧(∀ x,x∈(l.foldl JN st).2↔x∈st.2∨x∈l)∧st.2 <+: (l.foldl JN st).2
 | [],st,h,_=>⟨h,fun x=>by simp,List.prefix_refl _⟩
 | b::r,st,h,hl=>by
   obtain ⟨h1,h2,h3⟩:=h.see (hl b List.mem_cons_self)
   obtain ⟨h4,h5,h6⟩:=WkM.fold r h1 fun c hc=>hl c (List.mem_cons_of_mem _ hc)
   refine ⟨h4,fun x => ?_,h3.trans h6⟩
   rw [List.foldl_cons,h5,h2,List.mem_cons,or_assoc]
def x1c (rows:List (List Int)) (x y:Int):Prop:=y∈rows.getD x.toNat []
theorem HR {n:Nat} {rows:List (List Int)} (hr:XJ n rows) {x y:Int} (h:x1c rows x y):0≤y∧y<n:=by
 unfold x1c at h
 rw [List.getD_eq_getElem?_getD] at h
 cases hq:rows[x.toNat]? with
 | none=>rw [hq] at h;simp at h
 | some r=>rw [hq] at h;exact hr.2 r (List.mem_of_getElem? hq) y h
theorem q1g {α:Type} {l m:List α} (h:l <+: m) {i:Nat} {a:α} (ha:l[i]? = some a):m[i]? = some a:=by
 obtain ⟨t,rfl⟩:=h
 rw [List.getElem?_append_left (List.getElem?_eq_some_iff.1 ha).1]
 exact ha
theorem q6d {n:Nat} {rows:List (List Int)} (hr:XJ n rows) : ∀ (k i:Nat) {st:List Bool×List Int},WkM n st→i≤st.2.length→n+1≤k+i→(∀ (m:Nat) (a:Int),m<i→st.2[m]? = some a → ∀ b,x1c rows a b→b∈st.2) →
  WkM n (XA rows k i st)∧(∀ x∈st.2,x∈(XA rows k i st).2)∧(∀ x∈(XA rows k i st).2,∀ b,x1c rows x b→b∈(XA rows k i st).2)∧(∀ S:Int→Prop,(∀ x∈st.2,S x)→(∀ x b,S x→x1c rows x b→S b) → ∀ x∈(XA rows k i st).2,S x)
 | 0,i,st,h,hi,hk,_=>by
   have:=FC h.inv
   omega
 | k+1,i,st,h,hi,hk,hc=>by
   rw [XA]
   split
   ·rename_i a ha
    have hlt:=(List.getElem?_eq_some_iff.1 ha).1
    have hrow : ∀ b∈rows.getD a.toNat [],0≤b∧b<n:=fun b hb=>HR hr hb
    obtain ⟨h1,h2,h3⟩:=h.fold (rows.getD a.toNat []) hrow
    obtain ⟨h4,h5,h6,h7⟩:=q6d hr k (i+1) h1 (Nat.le_trans hlt h3.length_le) (by omega) fun m c hm hmc b hb=>by
     rw [h2]
     rcases Nat.lt_or_ge m i with hmi|hmi
     ·have hml:m<st.2.length:=by omega
      have hmc':st.2[m]? = some c:=by
       have:=q1g h3 (List.getElem?_eq_getElem hml)
       rw [List.getElem?_eq_getElem hml,← this,hmc]
      exact .inl (hc m c hmi hmc' b hb)
     ·obtain rfl:m=i:=by omega
      have:=q1g h3 ha
      rw [this] at hmc
      cases hmc
      exact .inr hb
    refine ⟨h4,fun x hx=>h5 x ((h2 x).2 (.inl hx)),h6,fun S hS hcl=>h7 S (fun x hx => ?_) hcl⟩
    rcases (h2 x).1 hx with hx|hx
    ·exact hS x hx
    ·exact hcl a x (hS a (List.mem_of_getElem? ha)) hx
   ·rename_i ha
    have hlen:st.2.length≤i:=List.getElem?_eq_none_iff.1 ha
    refine ⟨h,fun x hx=>hx,fun x hx b hb => ?_,fun S hS _=>hS⟩
    obtain ⟨m,hm⟩:=List.mem_iff_getElem?.1 hx
    exact hc m x (by have:=(List.getElem?_eq_some_iff.1 hm).1;omega) hm b hb
theorem q1s {n:Nat} : ∀ (l:List Int) {st:List Bool×List Int},WkM n st→WkM n (l.foldl (fun st a=>bif WK n a then JN st a else st) st) ∧ ∀ x,x∈(l.foldl (fun st a=>bif WK n a then JN st a else st) st).2↔x∈st.2∨(x∈l∧WK n x=true)
 | [],st,h=>⟨h,fun x=>by simp⟩
 | a::r,st,h=>by
   rw [List.foldl_cons]
   cases hb:WK n a with
   | true =>
     obtain ⟨h1,h2,_⟩:=h.see (ZJ hb)
     obtain ⟨h3,h4⟩:=q1s r h1
     rw [cond_true]
     refine ⟨h3,fun x => ?_⟩
     rw [h4,h2,List.mem_cons]
     constructor
     ·rintro ((h5|rfl)|⟨h5,h6⟩)
      ·exact .inl h5
      ·exact .inr ⟨.inl rfl,hb⟩
      ·exact .inr ⟨.inr h5,h6⟩
     ·rintro (h5|⟨rfl|h5,h6⟩)
      ·exact .inl (.inl h5)
      ·exact .inl (.inr rfl)
      ·exact .inr ⟨h5,h6⟩
   | false =>
     obtain ⟨h3,h4⟩:=q1s r h
     rw [cond_false]
     refine ⟨h3,fun x => ?_⟩
     rw [h4,List.mem_cons]
     constructor
     ·rintro (h5|⟨h5,h6⟩)
      ·exact .inl h5
      ·exact .inr ⟨.inr h5,h6⟩
     ·rintro (h5|⟨rfl|h5,h6⟩)
      ·exact .inl h5
      ·rw [hb] at h6;cases h6
      ·exact .inr ⟨h5,h6⟩
theorem x9v : ∀ (l:List Bool) (i:Nat) (y:Int),y∈BL i l ↔ ∃ k:Nat,l[k]? = some true∧y=((i+k:Nat):Int)
 | [],i,y=>by simp [BL]
 | b::r,i,y=>by
   have ih:=x9v r (i+1) y
   have key:(∃ k:Nat,(b::r)[k]? = some true∧y=((i+k:Nat):Int))↔(b=true∧y=(i:Int)) ∨ ∃ k:Nat,r[k]? = some true∧y=((i+1+k:Nat):Int):=by
    constructor
    ·rintro ⟨k,h1,h2⟩
     cases k with
     | zero=>simp at h1;exact .inl ⟨h1,by simpa using h2⟩
     | succ k=>exact .inr ⟨k,by simpa using h1,by rw [h2];omega⟩
    ·rintro (⟨h1,h2⟩|⟨k,h1,h2⟩)
     ·exact ⟨0,by simp [h1],by simpa using h2⟩
     ·exact ⟨k+1,by simpa using h1,by rw [h2];omega⟩
   rw [key,← ih,BL]
   cases b<;>simp
theorem z4q {n:Nat} {rows:List (List Int)} (hr:XJ n rows) (l:List Int) (y:Int):y∈BL 0 (VW rows l) ↔ ∃ a∈l,WK n a=true∧Rch (x1c rows) a y:=by
 obtain ⟨h1,h2⟩:=q1s (n:=n) l (WkM.start n)
 obtain ⟨h3,h4,h5,h6⟩:=q6d hr (rows.length+1) 0 (st:=FZ rows.length l) (by rw [hr.1];exact h1) (Nat.zero_le _) (by rw [hr.1];omega) (fun m a hm=>by omega)
 have hst : ∀ x,x∈(FZ rows.length l).2↔x∈l∧WK n x=true:=fun x=>by
  rw [hr.1]
  unfold FZ
  rw [h2]
  simp
 have hmem : ∀ y,y∈BL 0 (VW rows l)↔y∈(XA rows (rows.length+1) 0 (FZ rows.length l)).2:=fun y=>by
  rw [x9v,h3.mem]
  show (∃ k:Nat,(XA rows (rows.length+1) 0 (FZ rows.length l)).1[k]? = some true∧_)↔_
  constructor
  ·rintro ⟨k,h7,h8⟩
   have hlt:=(List.getElem?_eq_some_iff.1 h7).1
   rw [h3.inv.1] at hlt
   refine ⟨by omega,?_⟩
   rw [h8,List.getD_eq_getElem?_getD]
   simp [h7]
  ·rintro ⟨h7,h8⟩
   have hlt:y.toNat<(XA rows (rows.length+1) 0 (FZ rows.length l)).1.length:=by rw [h3.inv.1];omega
   refine ⟨y.toNat,?_,by omega⟩
   rw [List.getD_eq_getElem?_getD,List.getElem?_eq_getElem hlt] at h8
   rw [List.getElem?_eq_getElem hlt]
   simpa using h8
 rw [hmem]
 constructor
 ·intro hy
  refine h6 (fun y => ∃ a∈l,WK n a=true∧Rch (x1c rows) a y) (fun x hx => ?_) (fun x b ⟨a,h7,h8,h9⟩ hb=>⟨a,h7,h8,.tail h9 hb⟩) y hy
  obtain ⟨h7,h8⟩:=(hst x).1 hx
  exact ⟨x,h7,h8,.refl⟩
 ·rintro ⟨a,h7,h8,h9⟩
  exact h9.closed (S:=fun y=>y∈(XA rows (rows.length+1) 0 (FZ rows.length l)).2) (fun x b hx hb=>h5 x hx b hb) (h4 a ((hst a).2 ⟨h7,h8⟩))
open Go.Proofs
theorem x9u {l:List Int} {k:Nat} {b x:Int}:x∈q2w l k b↔x∈l∨x=b:=by
 unfold q2w
 rw [List.mem_append,List.mem_cons]
 have:x∈l↔x∈l.take k∨x∈l.drop k:=by rw [← List.mem_append,List.take_append_drop]
 rw [this]
 constructor
 ·rintro (h|h|h)
  ·exact .inl (.inl h)
  ·exact .inr h
  ·exact .inl (.inr h)
 ·rintro ((h|h)|h)
  ·exact .inl h
  ·exact .inr (.inr h)
  ·exact .inr (.inl h)
theorem z6p {n:Nat} {g:List (List Int)×List (List Int)} (hl:g.1.length=n) (e:Int×Int) {x y:Int} (hx:0≤x∧x<n):y∈(x1a n g e).1.getD x.toNat []↔y∈g.1.getD x.toNat []∨((x,y)=e∧WK n y=true):=by
 rw [q4c]
 cases hc:(WK n e.1&&WK n e.2 && !(g.1.getD e.1.toNat []).contains e.2) with
 | true =>
   simp only [Bool.and_eq_true,Bool.not_eq_true'] at hc
   obtain ⟨⟨h1,h2⟩,_⟩:=hc
   have h3:=ZJ h1
   rw [cond_true]
   unfold q9k
   rw [List.getD_eq_getElem?_getD,List.getElem?_set]
   by_cases he:e.1.toNat=x.toNat
   ·rw [if_pos he,if_pos (by omega)]
    simp only [Option.getD_some]
    rw [x9u,← he]
    have:x=e.1:=by omega
    constructor
    ·rintro (h|h)
     ·exact .inl h
     ·exact .inr ⟨by rw [this,h],by rw [h];exact h2⟩
    ·rintro (h|⟨h,_⟩)
     ·exact .inl h
     ·exact .inr (by rw [← h])
   ·rw [if_neg he,← List.getD_eq_getElem?_getD]
    constructor
    ·exact .inl
    ·rintro (h|⟨h,_⟩)
     ·exact h
     ·exact absurd (by rw [← h]) he
 | false =>
   rw [cond_false]
   constructor
   ·exact .inl
   ·rintro (h|⟨rfl,h⟩)
    ·exact h
    ·have h1:WK n x=true:=by unfold WK;simp [hx]
     simp only [h1,h,Bool.true_and,Bool.not_eq_false'] at hc
     simpa using hc
theorem x8o {n:Nat} {g:List (List Int)×List (List Int)} (hl:g.1.length=n) (e:Int×Int):(x1a n g e).1.length=n:=by
 rw [q4c]
 cases (WK n e.1&&WK n e.2 && !(g.1.getD e.1.toNat []).contains e.2) with
 | true=>rw [cond_true];unfold q9k;rw [List.length_set];exact hl
 | false=>exact hl
theorem x3e {n:Nat} {x y:Int} (hx:0≤x∧x<n) : ∀ (l:List (Int×Int)) {g:List (List Int)×List (List Int)},g.1.length=n→(y∈(l.foldl (x1a n) g).1.getD x.toNat []↔y∈g.1.getD x.toNat []∨((x,y)∈l∧WK n y=true))
 | [],g,_=>by simp
 | e::r,g,h=>by
   rw [List.foldl_cons,x3e hx r (x8o h e),z6p h e hx,List.mem_cons]
   constructor
   ·rintro ((h1|⟨h1,h2⟩)|⟨h1,h2⟩)
    ·exact .inl h1
    ·exact .inr ⟨.inl h1,h2⟩
    ·exact .inr ⟨.inr h1,h2⟩
   ·rintro (h1|⟨h1|h1,h2⟩)
    ·exact .inl (.inl h1)
    ·exact .inl (.inr ⟨h1,h2⟩)
    ·exact .inr ⟨h1,h2⟩
theorem q9x {n:Nat} {l:List (Int×Int)} {x y:Int} (hx:0≤x∧x<n):x1c (QI n l).1 x y↔(x,y)∈l∧WK n y=true:=by
 unfold x1c QI
 rw [x3e hx l (by simp)]
 have:(List.replicate n ([]:List Int)).getD x.toNat []=[]:=by
  rw [List.getD_eq_getElem?_getD,List.getElem?_replicate]
  split<;>rfl
 rw [this]
 simp
def stR (F:List Step) (a b:Int):Prop := ∃ s∈F,s.src=a∧s.dst=b
def plP (p:Pg) (j:Nat) (f:Pr) (x:Int):Prop:=x=0∨x = -1∨((QR p.procs j:Int)+1≤x∧x≤(QR p.procs j+QY f.body:Nat))
def ixI (p:Pg) (j:Nat) (f:Pr) (x:Int):Int:=HV (loI p j) (hiI p j f) (QY f.body+2:Nat) x
theorem LA {p:Pg} {j:Nat} {f:Pr} {x:Int} (h:plP p j f x):0≤ixI p j f x∧ixI p j f x<(QY f.body+2:Nat):=by
 unfold ixI HV loI hiI
 unfold plP at h
 (repeat' split)<;>omega
theorem z5z {p:Pg} {j:Nat} {f:Pr} {x y:Int} (hx:plP p j f x) (hy:plP p j f y) (h:ixI p j f x=ixI p j f y):x=y:=by
 unfold ixI HV loI hiI at h
 unfold plP at hx hy
 (repeat' split at h)<;>omega
theorem YO {p:Pg} (h:ZB p=true) {j:Nat} {f:Pr} (hj:p.procs[j]? = some f) : ∀ s∈(QX p j f).real,plP p j f s.src∧plP p j f s.dst:=fun s hs=>by
 obtain ⟨_,h2⟩:=FE h hj
 obtain ⟨_,h3,_⟩:=NQ h hj
 obtain ⟨h4,h5⟩:=h3 s ((h2 s).1 hs)
 unfold okI at h5
 unfold plP
 omega
theorem z6b {l:List Str} (h:XW l=false):l.Nodup:=by
 unfold XW at h
 rw [List.any_eq_false] at h
 unfold List.Nodup
 rw [List.pairwise_iff_getElem]
 intro i j hi hj hij he
 have h1:=h j (List.mem_range.2 hj)
 apply h1
 rw [List.any_eq_true]
 refine ⟨l[i],?_,?_⟩
 ·exact List.mem_iff_getElem.2 ⟨i,by simp;omega,by simp⟩
 ·rw [List.getElem?_eq_getElem hj]
  simp [he]
open Go.Proofs
theorem z4y {E:Int→Int→Prop} {B:List Int} {u x:Int} (h:Rch E u x) (hu:u∈B) (hx:x∉B) : ∃ z y,z∈B∧E z y∧y∉B∧Rch E u y∧Rch E y x:=by
 induction h with
 | refl=>exact absurd hu hx
 | @tail b c h hr ih =>
   by_cases hb:b∈B
   ·exact ⟨b,c,hb,hr,hx,.tail h hr,.refl⟩
   ·obtain ⟨z,y,h1,h2,h3,h4,h5⟩:=ih hb
    exact ⟨z,y,h1,h2,h3,h4,.tail h5 hr⟩
def chainE (E:Int→Int→Prop):List Int→Prop
 | []=>True
 | [_]=>True
 | a::b::r=>E a b∧chainE E (b::r)
theorem BA {E:Int→Int→Prop} : ∀ (l:List Int) {a y:Int},chainE E (l++[a])→y∈l++[a]→Rch E y a
 | [],a,y,_,hy=>by
   simp at hy
   rw [hy]
   exact .refl
 | [b],a,y,h,hy=>by
   simp at hy
   rcases hy with rfl|rfl
   ·exact .tail .refl h.1
   ·exact .refl
 | b::c::r,a,y,h,hy=>by
   have h1:chainE E ((c::r)++[a]):=h.2
   rcases List.mem_cons.1 hy with rfl|hy
   ·exact .head h.1 (BA (c::r) h1 (by simp))
   ·exact BA (c::r) h1 hy
theorem q3o {E:Int→Int→Prop} : ∀ (l:List Int) {a b:Int},chainE E (l++[a])→E a b→chainE E (l++[a]++[b])
 | [],a,b,_,hb=>⟨hb,trivial⟩
 | [c],a,b,h,hb=>⟨h.1,hb,trivial⟩
 | c::d::r,a,b,h,hb=>⟨h.1,q3o (d::r) h.2 hb⟩
theorem q9u {E:Int→Int→Prop} : ∀ (l:List Int) {a:Int},chainE E (l++[a])→chainE E l
 | [],_,_=>trivial
 | [_],_,_=>trivial
 | c::d::r,_,h=>⟨h.1,q9u (d::r) h.2⟩
structure DfsI (n:Nat) (E:Int→Int→Prop) (out stack:List Int):Prop where
 nd:(out++stack).Nodup
 rng : ∀ x∈out++stack,0≤x∧x<n
 path:chainE E stack
 cl : ∀ u∈out,∀ v,E u v→v∈out∨v∈stack
 J : ∀ u∈out,∀ x,Rch E u x→x∉out → ∃ s∈stack,Rch E u s∧Rch E s u∧Rch E s x
 K : ∀ (i:Nat) (r:Int),out[i]? = some r → ∀ u,Rch E u r→Rch E r u ∨ ∃ u',Rch E u u'∧Rch E u' u∧(u'∉out ∨ ∃ j,i<j∧out[j]? = some u')
theorem DfsI.start (n:Nat) (E:Int→Int→Prop):DfsI n E [] []:=⟨by simp,by simp,trivial,by simp,by simp,by simp⟩
theorem DfsI.push {n:Nat} {E:Int→Int→Prop} {out stack:List Int} (h:DfsI n E out stack) {b:Int} (hb:0≤b∧b<n) (hn:b∉out++stack) (hp:chainE E (stack++[b])):DfsI n E out (stack++[b]):=by
 refine ⟨?_,fun x hx => ?_,hp,fun u hu v hv => ?_,fun u hu x hx hxo => ?_,h.K⟩
 ·rw [← List.append_assoc,List.nodup_append]
  refine ⟨h.nd,by simp,fun x hx y hy => ?_⟩
  rw [List.mem_singleton.1 hy]
  exact fun e=>hn (e▸hx)
 ·rw [← List.append_assoc] at hx
  rcases List.mem_append.1 hx with hx|hx
  ·exact h.rng x hx
  ·rw [List.mem_singleton.1 hx];exact hb
 ·rcases h.cl u hu v hv with h1|h1
  ·exact .inl h1
  ·exact .inr (List.mem_append.2 (.inl h1))
 ·obtain ⟨s,h1,h2⟩:=h.J u hu x hx hxo
  exact ⟨s,List.mem_append.2 (.inl h1),h2⟩
theorem DfsI.pop {n:Nat} {E:Int→Int→Prop} {out st:List Int} {a:Int} (h:DfsI n E out (st++[a])) (ha : ∀ v,E a v→v∈out∨v∈st++[a]):DfsI n E (out++[a]) st:=by
 have hnd:=h.nd
 rw [List.nodup_append] at hnd
 obtain ⟨hn1,hn2,hn3⟩:=hnd
 rw [List.nodup_append] at hn2
 obtain ⟨hn4,_,hn5⟩:=hn2
 have hao:a∉out:=fun hm=>hn3 a hm a (by simp) rfl
 have hast:a∉st:=fun hm=>hn5 a hm a (by simp) rfl
 have hcl : ∀ u∈out++[a],∀ v,E u v→v∈out++[a]∨v∈st:=fun u hu v hv=>by
  have:v∈out∨v∈st++[a]:=by
   rcases List.mem_append.1 hu with hu|hu
   ·exact h.cl u hu v hv
   ·rw [List.mem_singleton.1 hu] at hv;exact ha v hv
  rcases this with h1|h1
  ·exact .inl (List.mem_append.2 (.inl h1))
  ·rcases List.mem_append.1 h1 with h1|h1
   ·exact .inr h1
   ·exact .inl (List.mem_append.2 (.inr h1))
 have hfst : ∀ u∈out++[a],∀ x,Rch E u x→x∉out++[a] → ∃ y∈st,Rch E u y∧Rch E y x:=fun u hu x hx hxo=>by
  obtain ⟨z,y,h1,h2,h3,h4,h5⟩:=z4y hx hu hxo
  rcases hcl z h1 y h2 with h6|h6
  ·exact absurd h6 h3
  ·exact ⟨y,h6,h4,h5⟩
 have hya : ∀ y∈st,Rch E y a:=fun y hy=>BA st h.path (List.mem_append.2 (.inl hy))
 refine ⟨?_,fun x hx => ?_,q9u st h.path,hcl,fun u hu x hx hxo => ?_,fun i r hi u hu => ?_⟩
 ·rw [List.append_assoc,List.nodup_append]
  refine ⟨hn1,?_,fun x hx y hy=>hn3 x hx y (by simp at hy ⊢;exact hy.symm)⟩
  rw [List.nodup_append]
  refine ⟨by simp,hn4,fun x hx y hy e => ?_⟩
  rw [List.mem_singleton.1 hx] at e
  exact hast (e▸hy)
 ·refine h.rng x ?_
  simp only [List.mem_append,List.mem_singleton] at hx ⊢
  rcases hx with (h1|h1)|h1
  ·exact .inl h1
  ·exact .inr (.inr h1)
  ·exact .inr (.inl h1)
 ·obtain ⟨y,h1,h2,h3⟩:=hfst u hu x hx hxo
  rcases List.mem_append.1 hu with hu|hu
  ·have hyo:y∉out:=fun hm=>hn3 y hm y (List.mem_append.2 (.inl h1)) rfl
   obtain ⟨s,h4,h5,h6,h7⟩:=h.J u hu y h2 hyo
   rcases List.mem_append.1 h4 with h4|h4
   ·exact ⟨s,h4,h5,h6,h7.trans h3⟩
   ·rw [List.mem_singleton.1 h4] at h5 h6
    exact ⟨y,h1,h2,(hya y h1).trans h6,h3⟩
  ·rw [List.mem_singleton.1 hu] at h2 ⊢
   exact ⟨y,h1,h2,hya y h1,h3⟩
 ·rcases Nat.lt_or_ge i out.length with hil|hil
  ·rw [List.getElem?_append_left hil] at hi
   rcases h.K i r hi u hu with h1|⟨u',h1,h2,h3⟩
   ·exact .inl h1
   ·refine .inr ⟨u',h1,h2,?_⟩
    rcases h3 with h3|⟨j,h3,h4⟩
    ·by_cases hua:u'=a
     ·exact .inr ⟨out.length,hil,by rw [hua];simp⟩
     ·exact .inl fun hm=>by
       rcases List.mem_append.1 hm with hm|hm
       ·exact h3 hm
       ·exact hua (List.mem_singleton.1 hm)
    ·exact .inr ⟨j,h3,by rw [List.getElem?_append_left (List.getElem?_eq_some_iff.1 h4).1];exact h4⟩
  ·have hr:r=a:=by
    have h1:=(List.getElem?_eq_some_iff.1 hi).1
    simp at h1
    rw [List.getElem?_append_right hil,show i-out.length=0 by omega] at hi
    simpa using hi.symm
   subst hr
   by_cases hau:Rch E r u
   ·exact .inl hau
   ·right
    by_cases huo:u∈out
    ·obtain ⟨s,h4,h5,h6,h7⟩:=h.J u huo r hu hao
     rcases List.mem_append.1 h4 with h4|h4
     ·refine ⟨s,h5,h6,.inl fun hm => ?_⟩
      rcases List.mem_append.1 hm with hm|hm
      ·exact hn3 s hm s (List.mem_append.2 (.inl h4)) rfl
      ·rw [List.mem_singleton.1 hm] at h4;exact hast h4
     ·rw [List.mem_singleton.1 h4] at h6
      exact absurd h6 hau
    ·refine ⟨u,.refl,.refl,.inl fun hm => ?_⟩
     rcases List.mem_append.1 hm with hm|hm
     ·exact huo hm
     ·rw [List.mem_singleton.1 hm] at hau
      exact hau .refl
structure EndsP (n:Nat) (E:Int→Int→Prop) (es:List Int):Prop where
 nd:es.Nodup
 mem : ∀ x:Int,x∈es↔0≤x∧x<n
 K : ∀ (i:Nat) (r:Int),es[i]? = some r → ∀ u:Int,0≤u∧u<n→Rch E u r→Rch E r u ∨ ∃ u',Rch E u u'∧Rch E u' u ∧ ∃ j,i<j∧es[j]? = some u'
theorem DfsI.fin {n:Nat} {E:Int→Int→Prop} (hE : ∀ x y,E x y→0≤y∧y<n) {out:List Int} (h:DfsI n E out []) (hall : ∀ x:Int,0≤x∧x<n→x∈out):EndsP n E out:=by
 refine ⟨by simpa using h.nd,fun x=>⟨fun hx=>h.rng x (by simpa using hx),hall x⟩,fun i r hi u hur hu => ?_⟩
 rcases h.K i r hi u hu with h1|⟨u',h1,h2,h3⟩
 ·exact .inl h1
 ·refine .inr ⟨u',h1,h2,?_⟩
  rcases h3 with h3|h3
  ·exfalso
   apply h3
   apply hall
   cases h1 with
   | refl=>exact hur
   | tail _ hr=>exact hE _ _ hr
  ·exact h3
def sccP (E:Int→Int→Prop) (x y:Int):Prop:=Rch E x y∧Rch E y x
theorem sccP.refl {E:Int→Int→Prop} (x:Int):sccP E x x:=⟨.refl,.refl⟩
theorem sccP.symm {E:Int→Int→Prop} {x y:Int} (h:sccP E x y):sccP E y x:=⟨h.2,h.1⟩
theorem sccP.trans {E:Int→Int→Prop} {x y z:Int} (h:sccP E x y) (h':sccP E y z):sccP E x z:=⟨h.1.trans h'.1,h'.2.trans h.2⟩
def SeenP (E:Int→Int→Prop) (es:List Int) (i:Nat) (x:Int):Prop := ∃ (j:Nat) (y:Int),i≤j∧es[j]? = some y∧sccP E x y
theorem z3d {n:Nat} {E:Int→Int→Prop} (hE : ∀ x y,E x y→(0≤x∧x<n)∧0≤y∧y<n) {es:List Int} (h:EndsP n E es) {i:Nat} {r:Int} (hi:es[i]? = some r) (hr : ¬SeenP E es (i+1) r) (x:Int) :
  Rch (fun a b=>E b a ∧ ¬SeenP E es (i+1) b) r x↔sccP E r x:=by
 have hrr:=(h.mem r).1 (List.mem_of_getElem? hi)
 constructor
 ·intro hx
  have key:(0≤x∧x<n) ∧ ¬SeenP E es (i+1) x∧Rch E x r:=hx.closed (S:=fun x:Int=>(0≤x∧x<n) ∧ ¬SeenP E es (i+1) x∧Rch E x r) (fun a b ⟨h1,h2,h3⟩ ⟨h4,h5⟩=>⟨(hE _ _ h4).1,h5,.head h4 h3⟩) ⟨hrr,hr,.refl⟩
  refine ⟨?_,key.2.2⟩
  rcases h.K i r hi x key.1 key.2.2 with h1|⟨u',h1,h2,j,h3,h4⟩
  ·exact h1
  ·exact absurd ⟨j,u',h3,h4,h1,h2⟩ key.2.1
 ·rintro ⟨h1,h2⟩
  have hns : ∀ y,sccP E r y → ¬SeenP E es (i+1) y:=fun y hy ⟨j,z,h3,h4,h5⟩=>hr ⟨j,z,h3,h4,hy.trans h5⟩
  have key : ∀ {a b:Int},Rch E a b→Rch E r a→Rch E b r→Rch (fun a b=>E b a ∧ ¬SeenP E es (i+1) b) b a:=fun {a b} hab=>by
   induction hab with
   | refl=>intro _ _;exact .refl
   | @tail b c hab hbc ih =>
     intro h3 h4
     have h5:Rch E b r := .head hbc h4
     exact .head ⟨hbc,hns b ⟨h3.trans hab,h5⟩⟩ (ih h3 h5)
  exact key h2 h1 .refl
theorem z5e {E:Int→Int→Prop} {es:List Int} {i:Nat} {r:Int} (hi:es[i]? = some r) (hr:SeenP E es (i+1) r) (x:Int):SeenP E es i x↔SeenP E es (i+1) x:=by
 constructor
 ·rintro ⟨j,y,h1,h2,h3⟩
  rcases Nat.eq_or_lt_of_le h1 with h4|h4
  ·subst h4
   rw [hi] at h2
   cases h2
   obtain ⟨k,z,h5,h6,h7⟩:=hr
   exact ⟨k,z,h5,h6,h3.trans h7⟩
  ·exact ⟨j,y,h4,h2,h3⟩
 ·rintro ⟨j,y,h1,h2,h3⟩
  exact ⟨j,y,by omega,h2,h3⟩
theorem x3u {E:Int→Int→Prop} {es:List Int} {i:Nat} {r:Int} (hi:es[i]? = some r) (x:Int):SeenP E es i x↔SeenP E es (i+1) x∨sccP E r x:=by
 constructor
 ·rintro ⟨j,y,h1,h2,h3⟩
  rcases Nat.eq_or_lt_of_le h1 with h4|h4
  ·subst h4
   rw [hi] at h2
   cases h2
   exact .inr h3.symm
  ·exact .inl ⟨j,y,h4,h2,h3⟩
 ·rintro (⟨j,y,h1,h2,h3⟩|h)
  ·exact ⟨j,y,by omega,h2,h3⟩
  ·exact ⟨i,r,Nat.le_refl _,hi,h.symm⟩
theorem z6k {n:Nat} {E:Int→Int→Prop} {es:List Int} (h:EndsP n E es) {x:Int} (hx:0≤x∧x<n):SeenP E es 0 x:=by
 obtain ⟨j,hj⟩:=List.mem_iff_getElem?.1 ((h.mem x).2 hx)
 exact ⟨j,x,Nat.zero_le _,hj,.refl x⟩
end Go.Ab
