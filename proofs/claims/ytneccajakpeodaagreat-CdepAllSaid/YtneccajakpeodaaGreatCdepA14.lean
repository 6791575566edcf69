/- The reference's names. -/
import Derived.Test.YtneccajakpeodaaGreatCdepA10
import Derived.Test.YtneccajakpeodaaGreatCdepA13
set_option linter.unusedSimpArgs false
set_option linter.unusedVariables false
set_option maxRecDepth 100000
set_option maxHeartbeats 16000000
namespace Go.Ab
open Go.Proofs
theorem JE (c:UInt8):SpecP Tryz.prog 246 [.int .u8 c.toNat] (fun r=>r = .bool (YY c)):=by
 refine SpecP.body PL QQ Tryz.func246 rfl Tryz.call246 (by show 1≤_;decide) ?_
 conv=>whnf
 repeat' (refine Br.dec (fun _=>?_) (fun _=>?_)<;>first|(exfalso;omega)|conv=>whnf)
 ·exact RetK.bool (by simp_all [YY];try omega)
 ·exact RetK.ff (by simp_all [YY];try omega)
theorem q1f (c:UInt8):SpecP Tryz.prog 247 [.int .u8 c.toNat] (fun r=>r = .bool (MX c)):=by
 refine SpecP.body PD QQ Tryz.func247 rfl Tryz.call247 (by show 1≤_;decide) ?_
 conv=>whnf
 repeat' (refine Br.dec (fun _=>?_) (fun _=>?_)<;>first|(exfalso;omega)|conv=>whnf)
 ·exact RetK.bool (by simp_all [MX];try omega)
 ·exact RetK.ff (by simp_all [MX];try omega)
def wordsL:List Str:=[[103,108,111,98,97,108],[112,114,111,99],[118,97,114],[114,101,102],[105,102],[101,108,115,101],[119,104,105,108,101],[98,114,101,97,107],[99,111,110,116,105,110,117,101],[114,101,116,117,114,110],[103,111,116,111],[114,101,97,100],[112,114,105,110,116]]
theorem q0o:SpecP Tryz.prog 287 [] (fun r=>r=QD wordsL):=by
 refine SpecP.body NX QQ Tryz.func287 rfl Tryz.call287 (by show 0≤_;decide) ?_
 conv=>whnf
 repeat' ((first|refine And.intro rfl ?_|(refine And.intro ⟨by decide,by decide⟩ ?_)|refine BsK.pureL rfl rfl ?_);conv=>whnf)
 exact RetK.p rfl
theorem z4o (s:Str):q3a s=wordsL.any fun w=>w==s:=by
 rw [Bool.eq_iff_iff]
 unfold q3a wordsL
 simp only [Bool.or_eq_true,decide_eq_true_eq,List.any_cons,List.any_nil,Bool.or_false,beq_iff_eq,or_assoc,@eq_comm _ s]
theorem q3x (s:Str):SpecP Tryz.prog 248 [.str s] (fun r=>r = .bool (q3a s)):=by
 refine SpecP.body NL QQ Tryz.func248 rfl Tryz.call248 (by show 1≤_;decide) ?_
 conv=>whnf
 rw [z4o]
 repeat' ((first|intro (_:_≤9223372036854775807)|(refine CallK.pure q0o .nil ?_;rintro _ rfl));conv=>whnf)
 have hlb:wordsL.length≤1000:=by decide
 generalize wordsL=l at hlb ⊢
 have hl:(l.map AV.str).length=l.length:=List.length_map _
 refine LoopK.inv QQ (fun j:Nat=>⟨[(0,.p (.str s)),(5,.p (QD l)),(6,.p (.int .i64 (l.map AV.str).length)),(7,.p (.int .i64 j))],[]⟩) (fun j=>j≤l.length∧(l.drop j).any (fun w=>w==s)=l.any fun w=>w==s) (fun j=>l.length-j) 0 (Le.of_eq rfl) ⟨Nat.zero_le _,rfl⟩ ?_
 rintro j ⟨h2,h3⟩
 conv=>whnf
 repeat' (first|((first|refine IdxK.map (by omega) (fun _=>rfl) ?_|refine Wr.i64 (by omega) (by omega) ?_);conv=>whnf)|(refine Br.dec (fun _=>?_) (fun _=>?_)<;>first|(exfalso;omega)|conv=>whnf)|(refine Br.b (fun _=>?_) (fun _=>?_)<;>conv=>whnf))
 ·exact RetK.tt (by rw [← h3,q2d (p:=fun w=>w==s) (by omega) (by assumption)])
 ·exact ⟨j+1,⟨by omega,by rw [← h3,q3s (p:=fun w=>w==s) (by omega) (by assumption)]⟩,by omega,Le.of_eq rfl⟩
 ·exact RetK.ff (by rw [← h3,BP (by omega)])
theorem x9z {s:Str} {i:Nat} (h:s.length≤i):YA s i=i:=LN fun hi=>by omega
theorem XM (s:Str):SpecP Tryz.prog 176 [.str s] (fun r=>r = .bool (isName s)):=by
 refine SpecP.body NI QQ Tryz.func176 rfl Tryz.call176 (by show 1≤_;decide) ?_
 conv=>whnf
 by_cases hs:s=[]
 ·subst hs
  have e:isName []=false:=by unfold isName;rw [dif_neg (by simp)]
  rw [e]
  repeat' (first|(intro (_:_≤9223372036854775807);conv=>whnf)|(refine Br.dec (fun _=>?_) (fun _=>?_)<;>first|(exfalso;omega)|conv=>whnf)|(refine Br.b (fun _=>?_) (fun _=>?_)<;>conv=>whnf))
  all_goals first
   | exact RetK.ff rfl
   | (exfalso;simp_all;done)
 have hlen:0<s.length:=List.length_pos_iff.2 hs
 have hsb:(s==(⟨#[]⟩:ByteArray).data.toList)=false:=by simpa using hs
 repeat' (first|((first|intro (_:_≤9223372036854775807)|(refine CallK.pure (JE _) (by repeat' (first|exact ArgP.nil|refine ArgP.cons ?_ ?_|exact Sub.refl _|exact Sub.tt rfl|exact Sub.ff rfl)) ?_;rintro _ rfl)|(refine ByteK.at (by omega) ?_));conv=>whnf)|(refine Br.dec (fun _=>?_) (fun _=>?_)<;>first|(exfalso;omega)|conv=>whnf)|(refine Br.n (fun _=>?_) (fun _=>?_)<;>conv=>whnf)|(refine Br.b (fun _=>?_) (fun _=>?_)<;>conv=>whnf))
 ·exfalso
  rename_i h
  rw [hsb] at h
  cases h
 ·exact RetK.ff (by unfold isName;rw [dif_neg (by omega)])
 rotate_left 1
 ·exact RetK.ff (by unfold isName;rw [dif_pos (by omega)];simp_all)
 have hl0:YY s[0]=true:=by assumption
 have hle:s.length≤8:=by omega
 have e0:YA s 0=YA s 1:=(BI hlen (by unfold w2d;rw [hl0];rfl)).symm
 have en:isName s=(decide (YA s 1=s.length) && !q3a s):=by
  unfold isName
  rw [dif_pos (by omega),hl0,e0]
  rfl
 refine LoopK.inv QQ (fun j:Nat=>⟨[(0,.p (.str s)),(3,.p (.int .i64 j))],[]⟩) (fun j=>1≤j∧j≤s.length∧YA s j=YA s 1) (fun j=>s.length-j) 1 (Le.of_eq rfl) ⟨Nat.le_refl _,hlen,rfl⟩ ?_
 rintro j ⟨h1,h2,h3⟩
 conv=>whnf
 repeat' (first|((first|intro (_:_≤9223372036854775807)|(refine CallK.pure (JE _) (by repeat' (first|exact ArgP.nil|refine ArgP.cons ?_ ?_|exact Sub.refl _|exact Sub.tt rfl|exact Sub.ff rfl)) ?_;rintro _ rfl)|(refine CallK.pure (q1f _) (by repeat' (first|exact ArgP.nil|refine ArgP.cons ?_ ?_|exact Sub.refl _|exact Sub.tt rfl|exact Sub.ff rfl)) ?_;rintro _ rfl)|(refine CallK.pure (q3x _) (by repeat' (first|exact ArgP.nil|refine ArgP.cons ?_ ?_|exact Sub.refl _|exact Sub.tt rfl|exact Sub.ff rfl)) ?_;rintro _ rfl)|(refine ByteK.at (by omega) ?_)|refine Wr.i64 (by omega) (by omega) ?_);conv=>whnf)|(refine Br.dec (fun _=>?_) (fun _=>?_)<;>first|(exfalso;omega)|conv=>whnf)|(refine Br.n (fun _=>?_) (fun _=>?_)<;>conv=>whnf))
 all_goals first
  | exact ⟨j+1,⟨by omega,by omega,by rw [BI (by omega) (by simp_all [w2d])];exact h3⟩,by omega,Le.of_eq rfl⟩
  | exact RetK.ff (by rw [en,← h3,LN fun _=>by simp_all [w2d]];simp;omega)
  | exact RetK.bool (by rw [en,← h3,x9z (by omega),show j=s.length by omega];simp)
theorem VT (l:List Str):SpecP Tryz.prog 175 [QD l] (fun r=>r = .bool (namesB l)):=by
 refine SpecP.body PI QQ Tryz.func175 rfl Tryz.call175 (by show 1≤_;decide) ?_
 conv=>whnf
 intro (_:_≤9223372036854775807)
 conv=>whnf
 refine LoopK.inv QQ (fun j:Nat=>⟨[(5,.p (QD l)),(6,.p (.int .i64 (l.map AV.str).length)),(7,.p (.int .i64 j))],[]⟩) (fun j=>j≤l.length∧(l.drop j).all isName=namesB l) (fun j=>l.length-j) 0 (Le.of_eq rfl) ⟨Nat.zero_le _,rfl⟩ ?_
 rintro j ⟨h2,h3⟩
 have hl:(l.map AV.str).length=l.length:=List.length_map _
 conv=>whnf
 repeat' (first|((first|(refine CallK.pure (XM _) (by repeat' (first|exact ArgP.nil|refine ArgP.cons ?_ ?_|exact Sub.refl _|exact Sub.tt rfl|exact Sub.ff rfl)) ?_;rintro _ rfl)|refine IdxK.map (by omega) (fun _=>rfl) ?_|refine Wr.i64 (by omega) (by omega) ?_);conv=>whnf)|(refine Br.dec (fun _=>?_) (fun _=>?_)<;>first|(exfalso;omega)|conv=>whnf)|(refine Br.n (fun _=>?_) (fun _=>?_)<;>conv=>whnf))
 ·exact ⟨j+1,⟨by omega,by rw [KC (by omega) (by assumption)];exact h3⟩,by omega,Le.of_eq rfl⟩
 ·exact RetK.ff (by rw [← h3,q0s (by omega) (by assumption)])
 ·exact RetK.tt (by rw [← h3,KH (by omega)])
open Go.Proofs
theorem q0k (op:Int):SpecP Tryz.prog 288 [.int .i64 op] (fun r=>r = .int .i64 (q4t op)):=by
 refine SpecP.body PM QQ Tryz.func288 rfl Tryz.call288 (by show 1≤_;decide) ?_
 conv=>whnf
 repeat' (refine Br.dec (fun _=>?_) (fun _=>?_)<;>first|(exfalso;omega)|conv=>whnf)
 all_goals exact RetK.int (by unfold q4t;(repeat' split)<;>omega)
theorem GD (x:X):SpecP Tryz.prog 249 [.agg x.cells] (fun r=>r = .bool (noneB x)):=by
 refine SpecP.body MZ QQ Tryz.func249 rfl Tryz.call249 (by show 1≤_;decide) ?_
 conv=>whnf
 repeat' (first|(intro (_:_≤9223372036854775807);conv=>whnf)|(refine Br.dec (fun _=>?_) (fun _=>?_)<;>first|(exfalso;omega)|conv=>whnf)|(refine Br.b (fun _=>?_) (fun _=>?_)<;>conv=>whnf))
 all_goals have hk:((X.avs x.kids).length:Int)=x.kids.length:=by rw [X.avs_len]
 all_goals first
  | exact RetK.ff (by simp_all [noneB];done)
  | exact RetK.bool (by simp_all [noneB];done)
def KO (x:X):Bool:=decide (q4t x.op=(x.kids.length:Int))&&(decide (x.op=1)||decide (x.n=0))&&decide (0≤x.n)&&(decide (x.op=2) == !(x.name==[]))&&((x.name==[])||isName x.name)
def PJ:Nat→X→Bool
 | 0,_=>true
 | k+1,x=>KO x&&x.kids.all (PJ k)
theorem x8p : ∀ (l:List X) (y:X),y∈l→wX y≤wXs l
 | [],y,h=>by cases h
 | a::r,y,h=>by
   rw [wXs]
   rcases List.mem_cons.1 h with rfl|h
   ·omega
   ·have:=x8p r y h;omega
theorem HQ : ∀ (k:Nat) (x:X) (_:wX x<k),SpecP Tryz.prog 252 [.agg x.cells] (fun r=>r = .bool (PJ k x)):=by
 intro k
 induction k with
 | zero=>intro x h;omega
 | succ k ih =>
   intro x hx
   have hxe:wX x=1+wXs x.kids:=by cases x;rw [wX];rfl
   have hk:((X.avs x.kids).length:Int)=x.kids.length:=by rw [X.avs_len]
   refine SpecP.body ML QQ Tryz.func252 rfl Tryz.call252 (by show 1≤_;decide) ?_
   conv=>whnf
   repeat' (first|((first|intro (_:_≤9223372036854775807)|(refine CallK.pure (q0k _) (by repeat' (first|exact ArgP.nil|refine ArgP.cons ?_ ?_|exact Sub.refl _|exact Sub.tt rfl|exact Sub.ff rfl)) ?_;rintro _ rfl)|(refine CallK.pure (XM _) (by repeat' (first|exact ArgP.nil|refine ArgP.cons ?_ ?_|exact Sub.refl _|exact Sub.tt rfl|exact Sub.ff rfl)) ?_;rintro _ rfl)|refine DrawK.auto QQ mixed (by kernel_rfl) ?_|refine ValO.boolNeq QQ rfl rfl rfl rfl rfl ?_);conv=>whnf)|(refine Br.dec (fun _=>?_) (fun _=>?_)<;>first|(exfalso;omega)|conv=>whnf)|(refine Br.dec2 (fun _=>?_) (fun _=>?_)<;>first|(exfalso;omega)|conv=>whnf)|(refine Br.n (fun _=>?_) (fun _=>?_)<;>conv=>whnf))
   all_goals simp only [show (ByteArray.mk #[]).data.toList=[] from rfl] at *
   all_goals first
    | (refine RetK.ff ?_
       rw [PJ,Bool.and_eq_false_iff]
       left
       unfold KO
       rw [show decide (0≤x.n)=false from decide_eq_false (by omega)]
       simp
       done)
    | (refine RetK.ff ?_
       rw [PJ,Bool.and_eq_false_iff]
       left
       rename_i h
       have hq:(decide (x.op=2) == !(x.name==[]))=false:=by
        have e:decide (x.op=2)=(x.op==2):=rfl
        rw [e]
        revert h
        cases (x.op==2)<;>cases (x.name==[])<;>decide
       unfold KO
       rw [hq]
       simp
       done)
    | (refine RetK.ff ?_
       rw [PJ,Bool.and_eq_false_iff]
       left
       simp_all [KO]
       done)
    | (refine RetK.ff ?_
       rw [PJ,Bool.and_eq_false_iff]
       left
       simp_all [KO]
       omega)
    | (have h0:KO x=true:=by first
        | (simp_all [KO];done)
        | (simp_all [KO];omega)
       rw [show PJ (k+1) x=x.kids.all (PJ k) by rw [PJ,h0];rfl])
   all_goals
    clear h0
    refine LoopK.inv QQ (fun j:Nat=>⟨[(1,.p (.ip x.cells)),(48,.p (.int .i64 (X.avs x.kids).length)),(49,.p (.int .i64 j))],[]⟩) (fun j=>j≤x.kids.length∧(x.kids.drop j).all (PJ k)=x.kids.all (PJ k)) (fun j=>x.kids.length-j) 0 (Le.of_eq rfl) ⟨Nat.zero_le _,rfl⟩ ?_
    rintro j ⟨h2,h3⟩
    rcases Nat.lt_or_ge j x.kids.length with hj|hj
    ·have hw:=x8p x.kids _ (List.getElem_mem hj)
     conv=>whnf
     repeat' (first|((first|refine IdxK.xs (by omega) ?_|refine Wr.i64 (by omega) (by omega) ?_|(refine CallK.pure (ih (x.kids[j]'hj) (by omega)) (.cons (Sub.refl _) .nil) ?_;rintro _ rfl));conv=>whnf)|(refine Br.dec (fun _=>?_) (fun _=>?_)<;>first|(exfalso;omega)|conv=>whnf)|(refine Br.n (fun _=>?_) (fun _=>?_)<;>conv=>whnf))
     ·exact ⟨j+1,⟨by omega,by rw [KC (by omega) (by assumption)];exact h3⟩,by omega,Le.of_eq rfl⟩
     ·exact RetK.ff (by rw [← h3,q0s (by omega) (by assumption)])
    ·conv=>whnf
     repeat' (refine Br.dec (fun _=>?_) (fun _=>?_)<;>first|(exfalso;omega)|conv=>whnf)
     exact RetK.tt (by rw [← h3,KH (by omega)])
open Go.Proofs
def z4n:List Nat→Nat
 | []=>0
 | a::r=>max a (z4n r)
def GW:Nat→X→Nat
 | 0,_=>1
 | m+1,x=>1+z4n (x.kids.map (GW m))
theorem x9n {l:List Nat} {m:Nat} (h : ∀ a∈l,a≤m):z4n l≤m:=by
 induction l with
 | nil=>exact Nat.zero_le _
 | cons a r ih =>
   have:=ih fun b hb=>h b (List.mem_cons_of_mem _ hb)
   have:=h a List.mem_cons_self
   rw [z4n]
   omega
theorem x1b : ∀ (m:Nat) (x:X),GW m x≤m+1
 | 0,_=>Nat.le_refl _
 | m+1,x=>by
   rw [GW]
   have:z4n (x.kids.map (GW m))≤m+1:=x9n fun a ha=>by
    obtain ⟨y,_,rfl⟩:=List.mem_map.1 ha
    exact x1b m y
   omega
theorem GV : ∀ (m:Nat) (_:m≤1000) (x:X),SpecP Tryz.prog 251 [.agg x.cells,.int .i64 m] (fun r=>r = .int .i64 (GW m x)):=by
 intro m
 induction m with
 | zero =>
   intro _ x
   refine SpecP.body JJ QQ Tryz.func251 rfl Tryz.call251 (by show 2≤_;decide) ?_
   conv=>whnf
   repeat' (refine Br.dec (fun _=>?_) (fun _=>?_)<;>first|(exfalso;omega)|conv=>whnf)
   exact RetK.int rfl
 | succ m ih =>
   intro hm x
   have hk:((X.avs x.kids).length:Int)=x.kids.length:=by rw [X.avs_len]
   refine SpecP.body JJ QQ Tryz.func251 rfl Tryz.call251 (by show 2≤_;decide) ?_
   conv=>whnf
   repeat' (refine Br.dec (fun _=>?_) (fun _=>?_)<;>first|(exfalso;omega)|conv=>whnf)
   have hmx:z4n (x.kids.map (GW m))≤m+1:=x9n fun a ha=>by
    obtain ⟨y,_,rfl⟩:=List.mem_map.1 ha
    exact x1b m y
   refine LoopK.inv QQ (fun y:Nat×Nat=>⟨[(1,.p (.int .i64 (m+1:Nat))),(2,.p (.ip x.cells)),(5,.p (.int .i64 y.2)),(6,.p (.int .i64 y.1))],[]⟩) (fun y=>y.1≤x.kids.length∧y.2≤m+1∧max y.2 (z4n ((x.kids.drop y.1).map (GW m)))=z4n (x.kids.map (GW m))) (fun y=>x.kids.length-y.1) (0,0) (Le.of_eq rfl) ⟨Nat.zero_le _,Nat.zero_le _,by simp⟩ ?_
   rintro ⟨j,d⟩ ⟨h2,h3,h4⟩
   simp only at h2 h3 h4 ⊢
   rcases Nat.lt_or_ge j x.kids.length with hj|hj
   ·rw [List.drop_eq_getElem_cons hj,List.map_cons,z4n] at h4
    have hd:=x1b m x.kids[j]
    conv=>whnf
    repeat' (first|((first|intro (_:_≤9223372036854775807)|refine IdxK.xs (by omega) ?_|refine Wr.i64 (by omega) (by omega) ?_|(refine CallK.pure (ih (by omega) (x.kids[j]'hj)) (.cons (Sub.refl _) (.cons (Sub.int (by omega)) .nil)) ?_;rintro _ rfl));conv=>whnf)|(refine Br.dec (fun _=>?_) (fun _=>?_)<;>first|(exfalso;omega)|conv=>whnf))
    all_goals first
     | exact ⟨(j+1,GW m x.kids[j]),⟨by simp only;omega,by simp only;omega,by simp only;omega⟩,by simp only;omega,Le.of_eq rfl⟩
     | exact ⟨(j+1,d),⟨by simp only;omega,by simp only;omega,by simp only;omega⟩,by simp only;omega,Le.of_eq rfl⟩
     | exact RetK.int (by rw [GW];omega)
   ·rw [List.drop_eq_nil_of_le hj,List.map_nil,z4n] at h4
    conv=>whnf
    repeat' (first|((first|intro (_:_≤9223372036854775807)|refine Wr.i64 (by omega) (by omega) ?_);conv=>whnf)|(refine Br.dec (fun _=>?_) (fun _=>?_)<;>first|(exfalso;omega)|conv=>whnf))
    exact RetK.int (by rw [GW];omega)
def mayXR (x:X):Bool:=decide (GW 20 x≤20)&&PJ (wX x+1) x
theorem YX (x:X):SpecP Tryz.prog 178 [.agg x.cells] (fun r=>r = .bool (mayXR x)):=by
 refine SpecP.body UZ QQ Tryz.func178 rfl Tryz.call178 (by show 1≤_;decide) ?_
 conv=>whnf
 repeat' (first|((first|(refine CallK.pure (GV 20 (by omega) x) (.cons (Sub.refl _) (.cons (Sub.refl _) .nil)) ?_;rintro _ rfl)|(refine CallK.pure (HQ (wX x+1) x (by omega)) (.cons (Sub.refl _) .nil) ?_;rintro _ rfl));conv=>whnf)|(refine Br.dec (fun _=>?_) (fun _=>?_)<;>first|(exfalso;omega)|conv=>whnf))
 all_goals first
  | exact RetK.bool (by unfold mayXR;rw [decide_eq_true (by omega)];rfl)
  | exact RetK.ff (by unfold mayXR;rw [decide_eq_false (by omega)];rfl)
theorem q3v : ∀ (n:Nat) (x:X),WT n x=true→GW n x≤n ∧ ∀ k,PJ k x=true
 | 0,x,h=>by rw [WT] at h;cases h
 | n+1,x,h=>by
   rw [WT] at h
   simp only [Bool.and_eq_true,decide_eq_true_eq] at h
   obtain ⟨h1,h2⟩:=h
   have hkids:(∀ y∈x.kids,WT n y=true)∧KO x=true:=by
    split at h2
    ·rename_i ho
     simp only [Bool.and_eq_true,decide_eq_true_eq] at h2
     have hk0:x.kids=[]:=by
      rw [ho] at h1
      have:q4t 1=0:=by decide
      rw [this] at h1
      exact List.length_eq_zero_iff.1 (by omega)
     refine ⟨by rw [hk0];simp,?_⟩
     unfold KO
     rw [h1,ho,h2.2]
     simp [h2.1]
    split at h2
    ·rename_i ho
     simp only [Bool.and_eq_true,decide_eq_true_eq] at h2
     have hk0:x.kids=[]:=by
      rw [ho] at h1
      have:q4t 2=0:=by decide
      rw [this] at h1
      exact List.length_eq_zero_iff.1 (by omega)
     have hne:(x.name==[])=false:=by
      cases hq:x.name with
      | nil =>
        have:=h2.2
        rw [hq] at this
        unfold isName at this
        rw [dif_neg (by simp)] at this
        cases this
      | cons a r=>rfl
     refine ⟨by rw [hk0];simp,?_⟩
     unfold KO
     rw [h1,ho,h2.2,hne,h2.1]
     simp
    ·rename_i ho1 ho2
     simp only [Bool.and_eq_true,decide_eq_true_eq,List.all_eq_true] at h2
     refine ⟨h2.2,?_⟩
     unfold KO
     rw [h1,h2.1.1,h2.1.2]
     simp [ho1,ho2]
   refine ⟨?_,fun k => ?_⟩
   ·rw [GW]
    have:z4n (x.kids.map (GW n))≤n:=x9n fun a ha=>by
     obtain ⟨y,hy,rfl⟩:=List.mem_map.1 ha
     exact (q3v n y (hkids.1 y hy)).1
    omega
   ·cases k with
    | zero=>rfl
    | succ k =>
      rw [PJ,hkids.2,Bool.true_and,List.all_eq_true]
      exact fun y hy=>(q3v n y (hkids.1 y hy)).2 k
theorem z7h {x:X} (h:z7k x=true):mayXR x=true:=by
 obtain ⟨h1,h2⟩:=q3v 20 x h
 unfold mayXR
 rw [decide_eq_true h1,h2]
 rfl
open Go.Proofs
def argR (a:Arg):Bool:=bif a.ref then isName a.name&&noneB a.x else (a.name==[])&&mayXR a.x
theorem q4s (a:Arg):SpecP Tryz.prog 250 [.agg a.cells] (fun r=>r = .bool (argR a)):=by
 refine SpecP.body LF QQ Tryz.func250 rfl Tryz.call250 (by show 1≤_;decide) ?_
 conv=>whnf
 repeat' (first|((first|(refine CallK.pure (XM _) (by repeat' (first|exact ArgP.nil|refine ArgP.cons ?_ ?_|exact Sub.refl _|exact Sub.tt rfl|exact Sub.ff rfl)) ?_;rintro _ rfl)|(refine CallK.pure (GD _) (by repeat' (first|exact ArgP.nil|refine ArgP.cons ?_ ?_|exact Sub.refl _|exact Sub.tt rfl|exact Sub.ff rfl)) ?_;rintro _ rfl)|(refine CallK.pure (YX _) (by repeat' (first|exact ArgP.nil|refine ArgP.cons ?_ ?_|exact Sub.refl _|exact Sub.tt rfl|exact Sub.ff rfl)) ?_;rintro _ rfl));conv=>whnf)|(refine Br.b (fun _=>?_) (fun _=>?_)<;>conv=>whnf))
 all_goals simp only [show (ByteArray.mk #[]).data.toList=[] from rfl] at *
 all_goals first
  | exact RetK.bool (by simp_all [argR])
  | exact RetK.ff (by simp_all [argR])
theorem w6l {a:Arg} (h:LU a=true):argR a=true:=by
 unfold LU YV FF at h
 unfold argR
 cases hr:a.ref with
 | true =>
   rw [hr] at h
   simpa using h
 | false =>
   rw [hr] at h
   simp only [cond_false,Bool.not_false,cond_true,Bool.and_eq_true] at h
   rw [h.1,z7h h.2]
   rfl
open Go.Proofs
def oneOk (s:S):Bool:=WP s&&namesB s.labels
def hasXB (s:S):Bool:=decide (s.kind=1)||decide (s.kind=3)||decide (s.kind=5)||decide (s.kind=6)||(decide (s.kind=9)&&s.has)
structure OneF (s:S):Prop where
 labels:namesB s.labels=true
 lo:1≤s.kind
 hi:s.kind≤10
 x:hasXB s=true→mayXR s.x=true
 nox:hasXB s=false→noneB s.x=true
 has:s.has=true→s.kind=9
 name:s.kind=1∨s.kind=2∨s.kind=10→isName s.name=true
 noname : ¬(s.kind=1∨s.kind=2∨s.kind=10)→(s.name==[])=true∨(s.kind=4∧isName s.name=true)
 proc:s.kind=4→isName s.proc=true
 noproc:s.kind≠4→(s.proc==[])=true
 args:s.args.all argR=true
 noargs:s.kind≠4→s.args.length=0
 thn:s.thn.length=0∨s.kind=5∨s.kind=6
 els:s.els.length=0∨s.kind=5
theorem q2w {s:Str} (h:isName s=true):(s==[])=false:=by
 cases s with
 | nil=>unfold isName at h;rw [dif_neg (by simp)] at h;cases h
 | cons a r=>rfl
theorem UG {s:S} (h:oneOk s=true):OneF s:=by
 unfold oneOk at h
 rw [Bool.and_eq_true] at h
 obtain ⟨h,hlab⟩:=h
 have hargs:s.args.all LU=true→s.args.all argR=true:=fun h=>by
  rw [List.all_eq_true] at h ⊢
  exact fun a ha=>w6l (h a ha)
 have key : ∀ (k:Int) (f:Flds),s.kind=k→q0n s.kind s.has (s.name==[])=some f→f.has=false∧(f.thn=false→s.thn.length=0)∧(f.els=false→s.els.length=0)∧(s.kind≠4→s.args.length=0)∧YV s.name f.name=true∧YV s.proc f.proc=true∧FF s.x f.x=true∧s.args.all argR=true:=fun k f hk hf=>by
  rw [x1w hf] at h
  simp only [Bool.and_eq_true,Bool.not_eq_true',Bool.or_eq_false_iff,Bool.and_eq_false_iff,Bool.not_eq_false',decide_eq_false_iff_not,decide_eq_true_eq] at h
  obtain ⟨⟨⟨⟨⟨⟨⟨h1,h2⟩,h3⟩,h4⟩,h5⟩,h6⟩,h7⟩,h8⟩:=h
  refine ⟨h1,fun hq => ?_,fun hq => ?_,fun hq => ?_,h5,h6,h7,hargs h8⟩
  ·rcases h2 with h2|h2
   ·rw [hq] at h2;cases h2
   ·omega
  ·rcases h3 with h3|h3
   ·rw [hq] at h3;cases h3
   ·omega
  ·rcases h4 with h4|h4
   ·exact absurd h4 hq
   ·omega
 have hkind:s.kind=1∨s.kind=2∨s.kind=3∨s.kind=4∨s.kind=5∨s.kind=6∨s.kind=7∨s.kind=8∨s.kind=9∨s.kind=10:=by
  unfold WP at h
  split at h
  ·cases h
  ·rename_i f hf
   unfold q0n at hf
   (repeat' split at hf)<;>first|(cases hf;done)|omega
 have fin : ∀ (k:Int) (f:Flds),s.kind=k→q0n s.kind s.has (s.name==[])=some f→(1≤k∧k≤10)→f.x=hasXB s→(s.has=true→f.has=true∨k=9)→((k=1∨k=2∨k=10)→f.name=true)→(¬(k=1∨k=2∨k=10)→f.name=false∨(k=4∧f.name = !(s.name==[])))→f.proc=decide (k=4)→(f.thn=true→k=5∨k=6)→(f.els=true→k=5)→OneF s:=fun k f hk hf hkk hfx hfh hfn hfnn hfp hft hfe=>by
  obtain ⟨h1,h2,h3,h4,h5,h6,h7,h8⟩:=key k f hk hf
  unfold FF at h7
  refine ⟨hlab,by omega,by omega,fun hq => ?_,fun hq => ?_,fun hq => ?_,fun hq => ?_,fun hq => ?_,fun hq => ?_,fun hq => ?_,h8,h4,?_,?_⟩
  ·rw [hfx,hq] at h7;exact z7h h7
  ·rw [hfx,hq] at h7;exact h7
  ·rcases hfh hq with h9|h9
   ·rw [h1] at h9;cases h9
   ·omega
  ·rw [hfn (by omega)] at h5;exact h5
  ·rcases hfnn (by omega) with h9|⟨h9,h10⟩
   ·rw [h9] at h5;exact .inl h5
   ·cases hq2:s.name==[] with
    | true=>exact .inl rfl
    | false =>
      rw [h10,hq2] at h5
      exact .inr ⟨by omega,h5⟩
  ·rw [hfp,decide_eq_true (by omega)] at h6;exact h6
  ·rw [hfp,decide_eq_false (by omega)] at h6;exact h6
  ·cases ht:f.thn with
   | true=>exact .inr (by have:=hft ht;omega)
   | false=>exact .inl (h2 ht)
  ·cases he:f.els with
   | true=>exact .inr (by have:=hfe he;omega)
   | false=>exact .inl (h3 he)
 rcases hkind with hk|hk|hk|hk|hk|hk|hk|hk|hk|hk
 ·exact fin 1 ⟨true,false,true,s.has,false,false⟩ hk (by rw [hk];rfl) (by omega) (by unfold hasXB;rw [hk];rfl) (fun h => .inl h) (fun _=>rfl) (fun h=>absurd (by omega) h) rfl (fun h=>by cases h) (fun h=>by cases h)
 ·exact fin 2 ⟨true,false,false,s.has,false,false⟩ hk (by rw [hk];rfl) (by omega) (by unfold hasXB;rw [hk];rfl) (fun h => .inl h) (fun _=>rfl) (fun h=>absurd (by omega) h) rfl (fun h=>by cases h) (fun h=>by cases h)
 ·exact fin 3 ⟨false,false,true,s.has,false,false⟩ hk (by rw [hk];rfl) (by omega) (by unfold hasXB;rw [hk];rfl) (fun h => .inl h) (fun h=>by omega) (fun _ => .inl rfl) rfl (fun h=>by cases h) (fun h=>by cases h)
 ·exact fin 4 ⟨!(s.name==[]),true,false,s.has,false,false⟩ hk (by rw [hk];rfl) (by omega) (by unfold hasXB;rw [hk];rfl) (fun h => .inl h) (fun h=>by omega) (fun _ => .inr ⟨rfl,rfl⟩) rfl (fun h=>by cases h) (fun h=>by cases h)
 ·exact fin 5 ⟨false,false,true,s.has,true,true⟩ hk (by rw [hk];rfl) (by omega) (by unfold hasXB;rw [hk];rfl) (fun h => .inl h) (fun h=>by omega) (fun _ => .inl rfl) rfl (fun _ => .inl rfl) (fun _=>rfl)
 ·exact fin 6 ⟨false,false,true,s.has,true,false⟩ hk (by rw [hk];rfl) (by omega) (by unfold hasXB;rw [hk];rfl) (fun h => .inl h) (fun h=>by omega) (fun _ => .inl rfl) rfl (fun _ => .inr rfl) (fun h=>by cases h)
 ·exact fin 7 ⟨false,false,false,s.has,false,false⟩ hk (by rw [hk];rfl) (by omega) (by unfold hasXB;rw [hk];rfl) (fun h => .inl h) (fun h=>by omega) (fun _ => .inl rfl) rfl (fun h=>by cases h) (fun h=>by cases h)
 ·exact fin 8 ⟨false,false,false,s.has,false,false⟩ hk (by rw [hk];rfl) (by omega) (by unfold hasXB;rw [hk];rfl) (fun h => .inl h) (fun h=>by omega) (fun _ => .inl rfl) rfl (fun h=>by cases h) (fun h=>by cases h)
 ·exact fin 9 ⟨false,false,s.has,false,false,false⟩ hk (by rw [hk];rfl) (by omega) (by unfold hasXB;rw [hk];cases s.has<;>rfl) (fun _ => .inr rfl) (fun h=>by omega) (fun _ => .inl rfl) rfl (fun h=>by cases h) (fun h=>by cases h)
 ·exact fin 10 ⟨true,false,false,s.has,false,false⟩ hk (by rw [hk];rfl) (by omega) (by unfold hasXB;rw [hk];rfl) (fun h => .inl h) (fun _=>rfl) (fun h=>absurd (by omega) h) rfl (fun h=>by cases h) (fun h=>by cases h)
open Go.Proofs
structure RI where
 s:S
 deep:Int
 inn:Int
 els:Bool
def RI.cells (i:RI):List AV:=i.s.cells++[.int .i64 i.deep,.int .i64 i.inn,.bool i.els]
def YN (l:List RI):AV := .sl (l.map fun i => .agg i.cells)
def flF:Nat→Int→Bool→List S→List RI→List RI
 | 0,i,e,l,out=>l.foldl (fun o s=>if o.length≤200 then o++[⟨s,13,i,e⟩] else o) out
 | m+1,i,e,l,out=>l.foldl (fun o s=>if o.length≤200 then flF m s.id true s.els (flF m s.id false s.thn (o++[⟨s,13-((m+1:Nat):Int),i,e⟩])) else o) out
theorem FO : ∀ (m:Nat) (i:Int) (e:Bool) (l:List S) (out:List RI),out.length≤(flF m i e l out).length∧(flF m i e l out).length≤max out.length 201
 | 0,i,e,[],out=>by show out.length≤out.length∧_;exact ⟨Nat.le_refl _,Nat.le_max_left _ _⟩
 | m+1,i,e,[],out=>by show out.length≤out.length∧_;exact ⟨Nat.le_refl _,Nat.le_max_left _ _⟩
 | 0,i,e,s::r,out=>by
   have h:=FO 0 i e r (if out.length≤200 then out++[⟨s,13,i,e⟩] else out)
   show out.length≤(flF 0 i e r (if out.length≤200 then out++[⟨s,13,i,e⟩] else out)).length∧(flF 0 i e r (if out.length≤200 then out++[⟨s,13,i,e⟩] else out)).length≤_
   split at h
   ·rw [if_pos (by assumption)]
    simp only [List.length_append,List.length_singleton] at h
    omega
   ·rw [if_neg (by assumption)]
    exact h
 | m+1,i,e,s::r,out=>by
   have h:=FO (m+1) i e r (if out.length≤200 then flF m s.id true s.els (flF m s.id false s.thn (out++[⟨s,13-((m+1:Nat):Int),i,e⟩])) else out)
   show out.length≤(flF (m+1) i e r (if out.length≤200 then flF m s.id true s.els (flF m s.id false s.thn (out++[⟨s,13-((m+1:Nat):Int),i,e⟩])) else out)).length∧(flF (m+1) i e r (if out.length≤200 then flF m s.id true s.els (flF m s.id false s.thn (out++[⟨s,13-((m+1:Nat):Int),i,e⟩])) else out)).length≤_
   split at h
   ·rw [if_pos (by assumption)]
    have h1:=FO m s.id false s.thn (out++[⟨s,13-((m+1:Nat):Int),i,e⟩])
    have h2:=FO m s.id true s.els (flF m s.id false s.thn (out++[⟨s,13-((m+1:Nat):Int),i,e⟩]))
    simp only [List.length_append,List.length_singleton] at h1
    omega
   ·rw [if_neg (by assumption)]
    exact h
mutual
def fuS (d i:Int) (e:Bool):S→List RI
 | .mk id kind labels name proc x has args thn els=>⟨.mk id kind labels name proc x has args thn els,d,i,e⟩::(fuL (d+1) id false thn++fuL (d+1) id true els)
def fuL (d i:Int) (e:Bool):List S→List RI
 | []=>[]
 | t::r=>fuS d i e t++fuL d i e r
end
theorem x1v (d i:Int) (e:Bool) (t:S):fuS d i e t=⟨t,d,i,e⟩::(fuL (d+1) t.id false t.thn++fuL (d+1) t.id true t.els):=by
 cases t
 rw [fuS]
 rfl
mutual
theorem w9u (d i:Int) (e:Bool) : ∀ t:S,(fuS d i e t).map RI.s=flS t
 | .mk id kind labels name proc x has args thn els=>by
   rw [fuS,flS,List.map_cons,List.map_append,DW _ _ _ thn,DW _ _ _ els]
theorem DW (d i:Int) (e:Bool) : ∀ l:List S,(fuL d i e l).map RI.s=flL l
 | []=>by rw [fuL,flL];rfl
 | t::r=>by rw [fuL,flL,List.map_append,w9u _ _ _ t,DW _ _ _ r]
end
theorem WQ (d i:Int) (e:Bool) (l:List S):(fuL d i e l).length=QY l:=by
 rw [← q6z,← DW d i e l,List.length_map]
theorem ZK {nest seen m:Int} {s:S} (h:q4i nest seen s=some m):oneOk s=true∧s.id=seen+1 ∧ ∃ m1,ZG (nest+1) (seen+1) s.thn=some m1∧ZG (nest+1) m1 s.els=some m:=by
 rw [z9u] at h
 split at h
 ·cases h
 split at h
 ·cases h
 rename_i hid
 cases hn:namesB s.labels<;>rw [hn] at h
 ·cases h
 cases hf:WP s<;>rw [hf] at h
 ·cases h
 simp only [cond_true] at h
 split at h
 ·rename_i m1 h1
  exact ⟨by unfold oneOk;rw [hn,hf];rfl,by omega,m1,h1,h⟩
 ·cases h
theorem XN {nest seen m:Int} {s:S} {r:List S} (h:ZG nest seen (s::r)=some m):nest≤12 ∧ ∃ m1,q4i nest seen s=some m1∧ZG nest m1 r=some m:=by
 rw [ZG] at h
 split at h
 ·cases h
 rename_i h0
 split at h
 ·rename_i m1 h1
  exact ⟨by omega,m1,h1,h⟩
 ·cases h
mutual
theorem w7y (d i:Int) (e:Bool) : ∀ (t:S) {n m:Int},d≤12→q4i d n t=some m → ∀ x∈fuS d i e t,x.deep≤12∧oneOk x.s=true
 | .mk id kind labels name proc x has args thn els,n,m,hd,h,y,hy=>by
   obtain ⟨h1,_,m1,h2,h3⟩:=ZK h
   rw [fuS] at hy
   rcases List.mem_cons.1 hy with rfl|hy
   ·exact ⟨hd,h1⟩
   ·rcases List.mem_append.1 hy with hy|hy
    ·exact z2m _ _ _ thn h2 y hy
    ·exact z2m _ _ _ els h3 y hy
theorem z2m (d i:Int) (e:Bool) : ∀ (l:List S) {n m:Int},ZG d n l=some m → ∀ x∈fuL d i e l,x.deep≤12∧oneOk x.s=true
 | [],n,m,h,y,hy=>by rw [fuL] at hy;cases hy
 | t::r,n,m,h,y,hy=>by
   obtain ⟨h1,m1,h2,h3⟩:=XN h
   rw [fuL] at hy
   rcases List.mem_append.1 hy with hy|hy
   ·exact w7y _ _ _ t h1 h2 y hy
   ·exact z2m _ _ _ r h3 y hy
end
theorem w7c : ∀ (k:Nat) (l:List S) (i:Int) (e:Bool) (out:List RI) (seen m:Int),ZG (13-(k:Int)) seen l=some m→out.length+QY l≤200→flF k i e l out=out++fuL (13-(k:Int)) i e l:=by
 intro k
 induction k with
 | zero =>
   intro l i e out seen m h hl
   cases l with
   | nil=>rw [fuL,List.append_nil];rfl
   | cons s r =>
     have:=(XN h).1
     simp at this
 | succ k ih =>
   intro l
   induction l with
   | nil=>intro i e out seen m h hl;rw [fuL,List.append_nil];rfl
   | cons s r ihr =>
     intro i e out seen m h hl
     obtain ⟨h1,m1,h2,h3⟩:=XN h
     obtain ⟨_,_,m2,h4,h5⟩:=ZK h2
     have ed:(13:Int)-((k+1:Nat):Int)+1=13-(k:Int):=by omega
     rw [ed] at h4 h5
     rw [QY,ZO] at hl
     show flF (k+1) i e r (if out.length≤200 then flF k s.id true s.els (flF k s.id false s.thn (out++[⟨s,13-((k+1:Nat):Int),i,e⟩])) else out)=_
     rw [if_pos (by omega),ih s.thn s.id false _ _ _ h4 (by simp;omega),ih s.els s.id true _ _ _ h5 (by simp [WQ];omega),ihr i e _ _ _ h3 (by simp [WQ];omega),fuL,x1v,ed]
     simp
def ZR (f:Pr):List RI:=flF 12 0 false f.body []
def FA (l:List Pr) (out:List RI):List RI:=l.foldl (fun o f=>if o.length≤200 then o++ZR f else o) out
def allR (p:Pg):List RI:=FA p.procs []
def flatU (f:Pr):List RI:=fuL 1 0 false f.body
theorem q6r : ∀ (l:List Pr) {n m:Int},XL n l=some m → ∀ f∈l,KL f=true ∧ ∃ a b,ZG 1 a f.body=some b
 | [],_,_,_,f,hf=>by cases hf
 | g::r,n,m,h,f,hf=>by
   rw [XL] at h
   cases hm:KL g<;>rw [hm] at h
   ·cases h
   simp only [cond_true] at h
   split at h
   ·rename_i m1 h1
    rcases List.mem_cons.1 hf with rfl|hf
    ·exact ⟨hm,_,_,h1⟩
    ·exact q6r r h f hf
   ·cases h
theorem q2c {p:Pg} (h:WI p=true):p.globals.length≤16∧p.procs.length≤16∧namesB p.globals=true ∧ ∀ f∈p.procs,KL f=true ∧ ∃ a b,ZG 1 a f.body=some b:=by
 unfold WI at h
 simp only [Bool.and_eq_true,decide_eq_true_eq] at h
 obtain ⟨⟨⟨h1,h2⟩,h3⟩,h4⟩:=h
 refine ⟨h1,h2,h3,?_⟩
 cases hm:XL 0 p.procs with
 | none=>rw [hm] at h4;cases h4
 | some m=>exact q6r p.procs hm
theorem HM : ∀ (l:List Pr) (f:Pr),f∈l→QY f.body≤cntP l
 | [],f,h=>by cases h
 | g::r,f,h=>by
   rw [cntP]
   rcases List.mem_cons.1 h with rfl|h
   ·omega
   ·have:=HM r f h
    omega
theorem WK {p:Pg} (h:WI p=true) {f:Pr} (hf:f∈p.procs):ZR f=flatU f:=by
 obtain ⟨_,_,_,h4⟩:=q2c h
 obtain ⟨_,a,b,h5⟩:=h4 f hf
 have h6:=(ZX h).2.2
 have h7:=HM _ f hf
 have:=w7c 12 f.body 0 false [] a b h5 (by simp;omega)
 simpa [ZR,flatU] using this
theorem z0k : ∀ (l:List Pr) (out:List RI),(∀ f∈l,ZR f=flatU f)→out.length+cntP l≤200→FA l out=out++l.flatMap flatU
 | [],out,_,_=>by show out=_;simp
 | f::r,out,h,hl=>by
   rw [cntP] at hl
   show FA r (if out.length≤200 then out++ZR f else out)=_
   have e:=WQ 1 0 false f.body
   rw [if_pos (by omega),h f List.mem_cons_self,z0k r _ (fun g hg=>h g (List.mem_cons_of_mem _ hg)) (by simp only [flatU,List.length_append,e];omega)]
   simp
theorem q1e {p:Pg} (h:WI p=true):allR p=p.procs.flatMap flatU:=by
 have:=z0k p.procs [] (fun f hf=>WK h hf) (by have:=(ZX h).2.2;simpa using this)
 simpa [allR] using this
theorem z9x {p:Pg} (h:WI p=true) : ∀ x∈p.procs.flatMap flatU,x.deep≤12∧oneOk x.s=true:=by
 intro x hx
 obtain ⟨f,hf,hx⟩:=List.mem_flatMap.1 hx
 obtain ⟨_,_,_,h4⟩:=q2c h
 obtain ⟨_,a,b,h5⟩:=h4 f hf
 exact z2m 1 0 false f.body h5 x hx
theorem LO : ∀ (l:List Pr) {n:Nat} {m:Int},XL n l=some m→(l.flatMap fun f=>flL f.body).map S.id=YF n (cntP l)
 | [],n,m,_=>by rw [cntP];rfl
 | g::r,n,m,h=>by
   rw [XL] at h
   cases hm:KL g<;>rw [hm] at h
   ·cases h
   simp only [cond_true] at h
   split at h
   ·rename_i m1 h1
    have h2:=ZP _ _ g.body h1
    have h':XL ((n+QY g.body:Nat):Int) r=some m:=by rw [← h,h2];rfl
    have h3:=LO r h'
    rw [List.flatMap_cons,List.map_append,YD 1 g.body h1,h3,cntP,FZ]
   ·cases h
theorem w4j (l:List Pr):(l.flatMap flatU).map RI.s=l.flatMap fun f=>flL f.body:=by
 induction l with
 | nil=>rfl
 | cons f r ih =>
   rw [List.flatMap_cons,List.flatMap_cons,List.map_append,ih]
   congr 1
   exact DW _ _ _ _
theorem LE (l:List Pr):(l.flatMap flatU).length=cntP l:=by
 induction l with
 | nil=>rfl
 | cons f r ih=>rw [List.flatMap_cons,List.length_append,ih,cntP];congr 1;exact WQ _ _ _ _
theorem w2b {p:Pg} (h:WI p=true) {k:Nat} {x:RI} (hk:(p.procs.flatMap flatU)[k]? = some x):x.s.id=(k:Int)+1:=by
 unfold WI at h
 simp only [Bool.and_eq_true,decide_eq_true_eq] at h
 cases hm:XL 0 p.procs with
 | none=>rw [hm] at h;cases h.2
 | some m =>
   have h1:=LO p.procs (n:=0) hm
   rw [← w4j] at h1
   have h2:(((p.procs.flatMap flatU).map RI.s).map S.id)[k]? = some x.s.id:=by simp [hk]
   rw [h1] at h2
   unfold YF at h2
   have hlt:k<cntP p.procs:=by rw [← LE];exact (List.getElem?_eq_some_iff.1 hk).1
   rw [List.getElem?_map,List.getElem?_range' hlt] at h2
   simp at h2
   omega
open Go.Proofs
def riH (t:Nat) (out:List RI):Heap:=[(2000,.own t 16 (out.map fun i => .agg i.cells))]
theorem w4k {t:Nat} {out:List RI} {x:RI}:riH t (out++[x])=[(2000,.own t 16 ((out.map fun i => .agg i.cells)++[.agg x.cells]))]:=by simp [riH]
theorem ZI (l:List RI):(l.map fun i=>AV.agg i.cells).length=l.length:=List.length_map _
theorem w2r {i:Int} {e:Bool} {l:List S} {j:Nat} {o:List RI} (hj:j<l.length) (h:o.length≤200):flF 0 i e (l.drop j) o=flF 0 i e (l.drop (j+1)) (o++[⟨l[j],13,i,e⟩]):=by
 rw [QG hj]
 show flF 0 i e (l.drop (j+1)) (if o.length≤200 then _ else _)=_
 rw [if_pos h]
theorem w5u {m:Nat} {i:Int} {e:Bool} {l:List S} {j:Nat} {o:List RI} (hj:j<l.length) (h:o.length≤200):flF (m+1) i e (l.drop j) o=flF (m+1) i e (l.drop (j+1)) (flF m l[j].id true l[j].els (flF m l[j].id false l[j].thn (o++[RI.mk l[j] (13-((m+1:Nat):Int)) i e]))):=by
 rw [QG hj]
 show flF (m+1) i e (l.drop (j+1)) (if o.length≤200 then _ else _)=_
 rw [if_pos h]
theorem q4e : ∀ (m:Nat) {i:Int} {e:Bool} {l:List S} {o:List RI},¬o.length≤200→flF m i e l o=o
 | 0,i,e,[],o,_=>rfl
 | m+1,i,e,[],o,_=>rfl
 | 0,i,e,s::r,o,h=>by
   show flF 0 i e r (if o.length≤200 then _ else o)=o
   rw [if_neg h]
   exact q4e 0 h
 | m+1,i,e,s::r,o,h=>by
   show flF (m+1) i e r (if o.length≤200 then _ else o)=o
   rw [if_neg h]
   exact q4e (m+1) h
theorem z8n (m:Nat) {i:Int} {e:Bool} {o:List RI}:flF m i e [] o=o:=by cases m<;>rfl
theorem q2n : ∀ (m:Nat) (_:m≤12) (l:List S) (i:Int) (e:Bool) (out:List RI),
  SpecH Tryz.prog 155 [.p (eSs l),.p (.int .i64 (13-(m:Int))),.p (.int .i64 i),.p (.bool e),.hd 2000 0 out.length] (riH 103 out)
   (fun r H=>r = .hd 2000 0 (flF m i e l out).length∧H=riH 103 (flF m i e l out)):=by
 intro m
 induction m with
 | zero =>
   intro _ l i e out
   have hll:=S.avs_len l
   refine SpecH.body JD QQ Tryz.func155 rfl Tryz.call155 (by show 5≤_;decide) ?_
   conv=>whnf
   skip
   refine LoopK.inv QQ (fun x:Nat×List RI=>⟨[(0,.p (eSs l)),(1,.p (.int .i64 (13-((0:Nat):Int)))),(2,.p (.int .i64 i)),(3,.p (.bool e)),(4,.hd 2000 0 x.2.length),(11,.p (.int .i64 x.1))],riH 103 x.2⟩) (fun x=>x.1≤l.length∧flF 0 i e (l.drop x.1) x.2=flF 0 i e l out) (fun x=>l.length-x.1) (0,out) (Le.of_eq rfl) ⟨Nat.zero_le _,rfl⟩ ?_
   rintro ⟨j,o⟩ ⟨h2,h3⟩
   simp only at h2 h3 ⊢
   have hol:=ZI o
   rcases Nat.lt_or_ge j l.length with hj|hj
   ·conv=>whnf
    repeat' (first|((first|intro (_:_≤9223372036854775807)|refine And.intro rfl ?_|(refine And.intro ⟨by decide,by decide⟩ ?_)|refine BsK.pure (fun x hx=>by rcases List.mem_singleton.1 hx with rfl;rfl) rfl ?_|refine IdxK.ss (by omega) ?_|refine Wr.i64 (by omega) (by omega) ?_|refine AppK.mk (by simp) rfl (by show (o.length+1)*232≤140737488355328;omega) (by show o.length+1≤9223372036854775807;omega) (fun x hx=>by rcases List.mem_singleton.1 hx with rfl;exact ⟨rfl,rfl⟩) ?_);conv=>whnf)|(refine Br.dec (fun _=>?_) (fun _=>?_)<;>first|(exfalso;omega)|conv=>whnf))
    ·exact ⟨(j+1,o++[⟨l[j],13,i,e⟩]),⟨hj,by rw [← h3,w2r hj (by omega)]⟩,by simp only;omega,Le.of_eq (by simp only [w4k,List.length_append,List.length_singleton];rfl)⟩
    ·rw [q4e 0 (by omega)] at h3
     exact ⟨_,.refl _,by rw [← h3];exact ⟨rfl,rfl⟩⟩
   ·conv=>whnf
    repeat' (first|(intro (_:_≤9223372036854775807);conv=>whnf)|(refine Br.dec (fun _=>?_) (fun _=>?_)<;>first|(exfalso;omega)|conv=>whnf))
    rw [List.drop_eq_nil_of_le hj,z8n] at h3
    exact ⟨_,.refl _,by rw [← h3];exact ⟨rfl,rfl⟩⟩
 | succ m ih =>
   intro hm l i e out
   have hll:=S.avs_len l
   refine SpecH.body JD QQ Tryz.func155 rfl Tryz.call155 (by show 5≤_;decide) ?_
   conv=>whnf
   skip
   refine LoopK.inv QQ (fun x:Nat×List RI=>⟨[(0,.p (eSs l)),(1,.p (.int .i64 (13-((m+1:Nat):Int)))),(2,.p (.int .i64 i)),(3,.p (.bool e)),(4,.hd 2000 0 x.2.length),(11,.p (.int .i64 x.1))],riH 103 x.2⟩) (fun x=>x.1≤l.length∧flF (m+1) i e (l.drop x.1) x.2=flF (m+1) i e l out) (fun x=>l.length-x.1) (0,out) (Le.of_eq rfl) ⟨Nat.zero_le _,rfl⟩ ?_
   rintro ⟨j,o⟩ ⟨h2,h3⟩
   simp only at h2 h3 ⊢
   have hol:=ZI o
   rcases Nat.lt_or_ge j l.length with hj|hj
   ·conv=>whnf
    repeat' (first|((first|intro (_:_≤9223372036854775807)|refine DrawK.auto QQ mixed (by kernel_rfl) ?_|refine And.intro rfl ?_|(refine And.intro ⟨by decide,by decide⟩ ?_)|refine BsK.pure (fun x hx=>by rcases List.mem_singleton.1 hx with rfl;rfl) rfl ?_|refine IdxK.ss (by omega) ?_|refine Wr.i64 (by omega) (by omega) ?_|refine AppK.mk (by simp) rfl (by show (o.length+1)*232≤140737488355328;omega) (by show o.length+1≤9223372036854775807;omega) (fun x hx=>by rcases List.mem_singleton.1 hx with rfl;exact ⟨rfl,rfl⟩) ?_);conv=>whnf)|(refine Br.dec (fun _=>?_) (fun _=>?_)<;>first|(exfalso;omega)|conv=>whnf))
    ·refine CallK.heap [(2000,2000)] 0 (ArgsH.cons (LSub.refl _) (ArgsH.cons (LSub.p (Sub.int (by omega))) (ArgsH.cons (LSub.refl _) (ArgsH.cons (LSub.p (Sub.ff rfl)) (ArgsH.cons (LSub.of_eq (by rw [List.length_append];rfl)) ArgsH.nil))))) (by exact BlksH.cons (j:=2000) rfl rfl (CSub.of_eq (by rw [List.map_append];first|done|rfl)) BlksH.nil) (ih (by omega) l[j].thn l[j].id false (o++[RI.mk l[j] (13-((m+1:Nat):Int)) i e])) rfl rfl ?_
     rintro l' H' ⟨rfl,rfl⟩
     conv=>whnf
     repeat' ((first|refine DrawK.auto QQ mixed (by kernel_rfl) ?_|refine IdxK.ss (by omega) ?_|refine Wr.i64 (by omega) (by omega) ?_);conv=>whnf)
     refine CallK.heap [(2000,2000)] 0 (ArgsH.cons (LSub.refl _) (ArgsH.cons (LSub.p (Sub.int (by omega))) (ArgsH.cons (LSub.refl _) (ArgsH.cons (LSub.p (Sub.tt rfl)) (ArgsH.cons (LSub.refl _) ArgsH.nil))))) (by exact BlksH.cons (j:=2000) rfl rfl (CSub.refl _) BlksH.nil) (ih (by omega) l[j].els l[j].id true (flF m l[j].id false l[j].thn (o++[RI.mk l[j] (13-((m+1:Nat):Int)) i e]))) rfl rfl ?_
     rintro l' H' ⟨rfl,rfl⟩
     conv=>whnf
     repeat' (refine Wr.i64 (by omega) (by omega) ?_;conv=>whnf)
     exact ⟨(j+1,flF m l[j].id true l[j].els (flF m l[j].id false l[j].thn (o++[RI.mk l[j] (13-((m+1:Nat):Int)) i e]))),⟨hj,by rw [← h3,w5u hj (by omega)]⟩,by simp only;omega,Le.of_eq rfl⟩
    ·rw [q4e (m+1) (by omega)] at h3
     exact ⟨_,.refl _,by rw [← h3];exact ⟨rfl,rfl⟩⟩
   ·conv=>whnf
    repeat' (first|(intro (_:_≤9223372036854775807);conv=>whnf)|(refine Br.dec (fun _=>?_) (fun _=>?_)<;>first|(exfalso;omega)|conv=>whnf))
    rw [List.drop_eq_nil_of_le hj,z8n] at h3
    exact ⟨_,.refl _,by rw [← h3];exact ⟨rfl,rfl⟩⟩
theorem QE (f:Pr):SpecP Tryz.prog 97 [.agg f.cells] (fun r=>r=YN (ZR f)):=by
 refine SpecP.body LZ QQ Tryz.func97 rfl Tryz.call97 (by show 1≤_;decide) ?_
 conv=>whnf
 skip
 refine CallK.nil 5 103 16 rfl (.cons rfl (.cons rfl (.cons rfl (.cons rfl (.row .nil))))) ?_
 refine CallK.heap [(2000,5)] 0 (by repeat' (first|exact ArgsH.nil|refine ArgsH.cons ?_ ?_|exact LSub.refl _|exact LSub.p Sub.nils|exact LSub.p (Sub.tt rfl)|exact LSub.p (Sub.ff rfl)|exact LSub.p (Sub.int (by omega)))) (by refine BlksH.cons (j:=5) rfl rfl ?_ ?_;exact CSub.refl _;exact BlksH.nil) (q2n 12 (by omega) f.body 0 false []) rfl rfl ?_
 rintro l' H' ⟨rfl,rfl⟩
 conv=>whnf
 exact ⟨_,.hd rfl (by simp [ZR]),rfl⟩
theorem z5w {l:List Pr} {j:Nat} {o:List RI} (hj:j<l.length) (h:o.length≤200):FA (l.drop j) o=FA (l.drop (j+1)) (o++ZR l[j]):=by
 rw [QG hj]
 show FA (l.drop (j+1)) (if o.length≤200 then _ else _)=_
 rw [if_pos h]
theorem x0s : ∀ {l:List Pr} {o:List RI},¬o.length≤200→FA l o=o
 | [],o,_=>rfl
 | f::r,o,h=>by
   show FA r (if o.length≤200 then _ else o)=o
   rw [if_neg h]
   exact x0s h
theorem JH (f:Pr):(ZR f).length≤201:=by
 have:=(FO 12 0 false f.body []).2
 simpa [ZR] using this
theorem UR (p:Pg):SpecP Tryz.prog 115 [.agg p.cells] (fun r=>r=YN (allR p)):=by
 refine SpecP.body LH QQ Tryz.func115 rfl Tryz.call115 (by show 1≤_;decide) ?_
 conv=>whnf
 repeat' (intro (_:_≤9223372036854775807);conv=>whnf)
 have hl2:(p.procs.map fun f=>AV.agg f.cells).length=p.procs.length:=List.length_map _
 refine LoopK.inv QQ (fun x:Nat×List RI=>⟨[(3,.hd 1 0 x.2.length),(7,.p (.sl (p.procs.map fun f => .agg f.cells))),(8,.p (.int .i64 (p.procs.map fun f=>AV.agg f.cells).length)),(9,.p (.int .i64 x.1))],[(1,.own 103 16 (x.2.map fun i => .agg i.cells))]⟩) (fun x=>x.1≤p.procs.length∧x.2.length≤200∧FA (p.procs.drop x.1) x.2=allR p) (fun x=>p.procs.length-x.1) (0,[])
  (Le.mk [(1,.own 103 16 [])] (by simp [Chunk.new0];rfl) (by simp) (by simp) (.cons (.nil List.mem_cons_self) (.cons (.refl _) (.cons (.refl _) (.cons (.refl _) .nil)))) (.new List.mem_cons_self .nil)) ⟨Nat.zero_le _,Nat.zero_le _,rfl⟩ ?_
 rintro ⟨j,o⟩ ⟨h2,h4,h3⟩
 simp only at h2 h3 h4 ⊢
 have hol:=ZI o
 rcases Nat.lt_or_ge j p.procs.length with hj|hj
 ·have hfl:=JH p.procs[j]
  have hst:=fun (h:o.length≤200)=>z5w hj h
  have hF:=QE p.procs[j]
  generalize hL:ZR p.procs[j]=L at hfl hst hF
  have hfl2:=ZI L
  conv=>whnf
  repeat' (first|((first|intro (_:_≤9223372036854775807)|refine And.intro rfl ?_|(refine And.intro ⟨by decide,by decide⟩ ?_)|refine IdxK.map (by omega) (fun _=>rfl) ?_|refine Wr.i64 (by omega) (by omega) ?_|(refine CallK.pure hF (.cons (Sub.refl _) .nil) ?_;rintro _ rfl)|refine AppK.mk (by simp) rfl (by rw [hfl2];show (o.length+L.length)*232≤140737488355328;omega) (by rw [hfl2];show o.length+L.length≤9223372036854775807;omega) (fun x hx=>by obtain ⟨y,_,rfl⟩:=List.mem_map.1 hx;exact ⟨rfl,rfl⟩) ?_);conv=>whnf)|(refine Br.dec (fun _=>?_) (fun _=>?_)<;>first|(exfalso;omega)|conv=>whnf))
  ·refine ⟨_,.hd rfl (by simp),?_⟩
   rw [← h3,hst h4,x0s (by simp;omega),← List.map_append]
   rfl
  ·exact ⟨(j+1,o++L),⟨hj,by simp;omega,by rw [← h3,hst h4]⟩,by simp only;omega,Le.of_eq (by simp only [List.length_append,List.map_append,List.length_map];rfl)⟩
 ·conv=>whnf
  repeat' (refine Br.dec (fun _=>?_) (fun _=>?_)<;>first|(exfalso;omega)|conv=>whnf)
  rw [List.drop_eq_nil_of_le hj] at h3
  refine ⟨_,.hd rfl (by simp),?_⟩
  rw [← h3]
  simp [YN,FA]
open Go.Proofs
def z3f (n k:Int):Int:=if k<1 then 0 else if n.tmod k<0 then n.tmod k+k else n.tmod k
theorem z2j {n k:Int} (hk:0<k):0≤z3f n k∧z3f n k<k:=by
 unfold z3f
 have h1:=Int.tmod_lt_of_pos n hk
 have h2 : -k<n.tmod k:=by
  rcases Int.le_total 0 n with h|h
  ·have:=Int.tmod_nonneg k h;omega
  ·have h3:=Int.tmod_lt_of_pos (-n) hk
   rw [Int.neg_tmod] at h3
   omega
 rw [if_neg (by omega)]
 split<;>omega
theorem q4n (n k:Int) (hk:k≤1000000):SpecP Tryz.prog 81 [.int .i64 n,.int .i64 k] (fun r=>r = .int .i64 (z3f n k)):=by
 refine SpecP.body q0i QQ Tryz.func81 rfl Tryz.call81 (by show 2≤_;decide) ?_
 conv=>whnf
 have h1:=fun h:0<k=>z2j (n:=n) h
 repeat' (first|(refine And.intro (by omega) ?_;conv=>whnf)|(refine Br.dec (fun _=>?_) (fun _=>?_)<;>first|(exfalso;omega)|conv=>whnf))
 all_goals first
  | (refine Wr.i64 (by have:=h1 (by omega);unfold z3f at this;rw [if_neg (by omega),if_pos (by assumption)] at this;omega) (by have:=h1 (by omega);unfold z3f at this;rw [if_neg (by omega),if_pos (by assumption)] at this;omega) ?_
     conv=>whnf
     exact RetK.int (by unfold z3f;rw [if_neg (by assumption),if_pos (by assumption)]))
  | exact RetK.int (by unfold z3f;rw [if_pos (by assumption)])
  | exact RetK.int (by unfold z3f;rw [if_neg (by assumption),if_neg (by assumption)])
def FC (l:List Int) (x:Int):Bool:=l.any fun y=>decide (x=y)
theorem QO (l:List Int) (x:Int):SpecP Tryz.prog 98 [QF l,.int .i64 x] (fun r=>r = .bool (FC l x)):=by
 refine SpecP.body MR QQ Tryz.func98 rfl Tryz.call98 (by show 2≤_;decide) ?_
 conv=>whnf
 repeat' (intro (_:_≤9223372036854775807);conv=>whnf)
 have hl:(l.map (AV.int .i64)).length=l.length:=List.length_map _
 refine LoopK.inv QQ (fun j:Nat=>⟨[(1,.p (.int .i64 x)),(7,.p (QF l)),(8,.p (.int .i64 (l.map (AV.int .i64)).length)),(9,.p (.int .i64 j))],[]⟩) (fun j=>j≤l.length∧(l.drop j).any (fun y=>decide (x=y))=FC l x) (fun j=>l.length-j) 0 (Le.of_eq rfl) ⟨Nat.zero_le _,rfl⟩ ?_
 rintro j ⟨h2,h3⟩
 rcases Nat.lt_or_ge j l.length with hj|hj
 ·conv=>whnf
  repeat' (first|((first|refine IdxK.map (by omega) (fun _=>rfl) ?_|refine Wr.i64 (by omega) (by omega) ?_);conv=>whnf)|(refine Br.dec (fun _=>?_) (fun _=>?_)<;>first|(exfalso;omega)|conv=>whnf))
  all_goals first
   | exact RetK.tt (by rw [← h3,q2d hj (by simp_all)])
   | exact ⟨j+1,⟨hj,by rw [q3s hj (by simp;omega)];exact h3⟩,by omega,Le.of_eq rfl⟩
 ·conv=>whnf
  repeat' (refine Br.dec (fun _=>?_) (fun _=>?_)<;>first|(exfalso;omega)|conv=>whnf)
  exact RetK.ff (by rw [← h3,BP hj])
def inS (l:List Str) (x:Str):Bool:=l.any fun y=>y==x
theorem QC (l:List Str) (x:Str):SpecP Tryz.prog 56 [QD l,.str x] (fun r=>r = .bool (inS l x)):=by
 refine SpecP.body q1o QQ Tryz.func56 rfl Tryz.call56 (by show 2≤_;decide) ?_
 conv=>whnf
 repeat' (intro (_:_≤9223372036854775807);conv=>whnf)
 have hl:(l.map AV.str).length=l.length:=List.length_map _
 refine LoopK.inv QQ (fun j:Nat=>⟨[(0,.p (QD l)),(1,.p (.str x)),(7,.p (.int .i64 (l.map AV.str).length)),(8,.p (.int .i64 j))],[]⟩) (fun j=>j≤l.length∧(l.drop j).any (fun y=>y==x)=inS l x) (fun j=>l.length-j) 0 (Le.of_eq rfl) ⟨Nat.zero_le _,rfl⟩ ?_
 rintro j ⟨h2,h3⟩
 rcases Nat.lt_or_ge j l.length with hj|hj
 ·conv=>whnf
  repeat' (first|((first|refine IdxK.map (by omega) (fun _=>rfl) ?_|refine Wr.i64 (by omega) (by omega) ?_);conv=>whnf)|(refine Br.dec (fun _=>?_) (fun _=>?_)<;>first|(exfalso;omega)|conv=>whnf)|(refine Br.b (fun _=>?_) (fun _=>?_)<;>conv=>whnf))
  ·exact RetK.tt (by rw [← h3,q2d hj (by assumption)])
  ·exact ⟨j+1,⟨hj,by rw [q3s hj (by assumption)];exact h3⟩,by omega,Le.of_eq rfl⟩
 ·conv=>whnf
  repeat' (refine Br.dec (fun _=>?_) (fun _=>?_)<;>first|(exfalso;omega)|conv=>whnf)
  exact RetK.ff (by rw [← h3,BP hj])
def WB (p:Pg) (n:Int):Str:=match p.procs[(z3f n p.procs.length).toNat]? with
 | some f=>f.name
 | none=>[]
theorem ND (p:Pg) (n:Int) (hp:p.procs.length≤20000):SpecP Tryz.prog 19 [.agg p.cells,.int .i64 n] (fun r=>r = .str (WB p n)):=by
 refine SpecP.body DH QQ Tryz.func19 rfl Tryz.call19 (by show 2≤_;decide) ?_
 conv=>whnf
 have hl:(p.procs.map fun f=>AV.agg f.cells).length=p.procs.length:=List.length_map _
 have hr:=fun h:0<(p.procs.length:Int)=>z2j (n:=n) h
 repeat' (first|((first|intro (_:_≤9223372036854775807)|refine DrawK.auto QQ mixed (by kernel_rfl) ?_|(refine CallK.pure (q4n n (p.procs.length:Int) (by omega)) (.cons (Sub.refl _) (.cons (Sub.int (by omega)) .nil)) ?_;rintro _ rfl));conv=>whnf)|(refine Br.dec (fun _=>?_) (fun _=>?_)<;>first|(exfalso;omega)|conv=>whnf))
 ·refine RetK.p ?_
  have h0:p.procs=[]:=List.length_eq_zero_iff.1 (by omega)
  unfold WB
  rw [h0]
  rfl
 ·obtain ⟨h1,h2⟩:=hr (by omega)
  have hlt:(z3f n p.procs.length).toNat<p.procs.length:=by omega
  refine IdxK.at (k:=(z3f n p.procs.length).toNat) (e := .agg p.procs[(z3f n p.procs.length).toNat].cells) (by omega) (by rw [List.getElem?_map,List.getElem?_eq_getElem hlt];rfl) rfl ?_
  conv=>whnf
  skip
  exact RetK.p (by unfold WB;rw [List.getElem?_eq_getElem hlt])
def w1i (a b:Int):Bool:=bif decide (a = -1)||decide (b = -1) then decide (b = -1) && !decide (a = -1) else decide (a<b)
theorem YS (a b:Int):SpecP Tryz.prog 147 [.int .i64 a,.int .i64 b] (fun r=>r = .bool (w1i a b)):=by
 refine SpecP.body DD QQ Tryz.func147 rfl Tryz.call147 (by show 2≤_;decide) ?_
 conv=>whnf
 repeat' (refine Br.dec (fun _=>?_) (fun _=>?_)<;>first|(exfalso;omega)|conv=>whnf)
 all_goals first
  | exact RetK.bool (by unfold w1i;simp_all)
  | exact RetK.ff (by unfold w1i;simp_all)
  | exact RetK.bool (by unfold w1i;simp_all;omega)
open Go.Proofs
theorem BR {α β:Type} {f:α→β} : ∀ {l:List α},(l.map f).Nodup → ∀ a∈l,∀ b∈l,f a=f b→a=b
 | [],_,a,ha,_,_,_=>by cases ha
 | c::r,h,a,ha,b,hb,e=>by
   rw [List.map_cons,List.nodup_cons] at h
   rcases List.mem_cons.1 ha with ha1|ha1
   ·rcases List.mem_cons.1 hb with hb1|hb1
    ·rw [ha1,hb1]
    ·exact (h.1 (List.mem_map.2 ⟨b,hb1,by rw [← e,ha1]⟩)).elim
   ·rcases List.mem_cons.1 hb with hb1|hb1
    ·exact (h.1 (List.mem_map.2 ⟨a,ha1,by rw [e,hb1]⟩)).elim
    ·exact BR h.2 a ha1 b hb1 e
theorem WS {α:Type} [DecidableEq α] : ∀ {l m:List α},l.Nodup→(∀ s∈l,s∈m)→l.length≤m.length
 | [],m,_,_=>Nat.zero_le _
 | a::r,m,h,hs=>by
   rw [List.nodup_cons] at h
   have ha:=hs a List.mem_cons_self
   have h1:=WS (m:=m.erase a) h.2 fun s hsr=>(List.mem_erase_of_ne (fun e=>h.1 (by rw [← e];exact hsr))).2 (hs s (List.mem_cons_of_mem _ hsr))
   rw [List.length_erase_of_mem ha] at h1
   have:=List.length_pos_of_mem ha
   simp only [List.length_cons]
   omega
theorem q3u (n c:Nat):(YF n c).Nodup:=by
 unfold YF List.Nodup
 rw [List.pairwise_map]
 exact List.Pairwise.imp (fun h e=>h (by omega)) (List.nodup_range' (s:=n+1) (n:=c) (step:=1))
theorem z5t {p:Pg} (hm:WI p=true) {j:Nat} {f:Pr} (hj:p.procs[j]? = some f):(itsOf p j f).map (fun it=>it.s.id)=YF (QN p.procs j) (QY f.body):=by
 rw [← x3l hm hj,← MK (j:Nat) 0 (-1) 0 (QN p.procs j) f.body,List.map_map]
 rfl
theorem z8g {p:Pg} (hm:WI p=true) {j:Nat} {f:Pr} (hj:p.procs[j]? = some f) {a b:Item} (ha:a∈itsOf p j f) (hb:b∈itsOf p j f) (h:a.s.id=b.s.id):a=b :=
 BR (f:=fun it:Item=>it.s.id) (by rw [z5t hm hj];exact q3u _ _) a ha b hb h
theorem w4s {p:Pg} {j:Nat} {f:Pr} {t:S} (h:t∈flL f.body) : ∃ it∈itsOf p j f,it.s=t:=by
 rw [← MK (j:Nat) 0 (-1) 0 (QN p.procs j) f.body] at h
 obtain ⟨it,h1,h2⟩:=List.mem_map.1 h
 exact ⟨it,h1,h2⟩
theorem x5f (sh:Sheet) (f:Pr) (it:Item):1≤(WY sh f it).length∧(WY sh f it).length≤2∧((WY sh f it).length=2→it.s.kind=5∨it.s.kind=6):=by
 unfold WY
 split
 ·rename_i h;exact ⟨by simp,by simp,fun _ => .inl h⟩
 split
 ·rename_i h;exact ⟨by simp,by simp,fun _ => .inr h⟩
 split
 ·simp
 split
 ·simp
 split
 ·simp
 split<;>simp
theorem z0o {l:List Step} (h:l.Pairwise q0g):l.Nodup:=h.imp fun h e=>by subst e;exact HU h
theorem WO {l:List Int} {x:Int}:FC l x=true↔x∈l:=by
 unfold FC
 rw [List.any_eq_true]
 refine ⟨fun ⟨y,h1,h2⟩=>by simp at h2;exact h2▸h1,fun h=>⟨x,h,by simp⟩⟩
theorem z1g {n c:Nat} {a:Int} (h1:(n:Int)+1≤a) (h2:a≤(n+c:Nat)):a∈YF n c:=by
 unfold YF
 refine List.mem_map.2 ⟨a.toNat,List.mem_range'.2 ⟨a.toNat-(n+1),by omega,by omega⟩,by omega⟩
open Go.Proofs
inductive Rch {α:Type} (R:α→α→Prop) (a:α):α→Prop
 | refl:Rch R a a
 | tail {b c:α} (h:Rch R a b) (hr:R b c):Rch R a c
theorem Rch.trans {α:Type} {R:α→α→Prop} {a b c:α} (h:Rch R a b) (h':Rch R b c):Rch R a c:=by
 induction h' with
 | refl=>exact h
 | tail _ hr ih=>exact .tail ih hr
theorem Rch.head {α:Type} {R:α→α→Prop} {a b c:α} (hr:R a b) (h:Rch R b c):Rch R a c:=Rch.trans (.tail .refl hr) h
theorem Rch.mono {α:Type} {R R':α→α→Prop} (h : ∀ x y,R x y→R' x y) {a b:α} (hr:Rch R a b):Rch R' a b:=by
 induction hr with
 | refl=>exact .refl
 | tail _ hr ih=>exact .tail ih (h _ _ hr)
theorem Rch.closed {α:Type} {R:α→α→Prop} {S:α→Prop} (hS : ∀ x y,S x→R x y→S y) {a b:α} (ha:S a) (h:Rch R a b):S b:=by
 induction h with
 | refl=>exact ha
 | tail _ hr ih=>exact hS _ _ ih hr
structure WkM (n:Nat) (st:List Bool×List Int):Prop where
 inv:wkInv n st
 mem : ∀ x,x∈st.2↔(0≤x∧x<n)∧st.1.getD x.toNat false=true
theorem WkM.start (n:Nat):WkM n (List.replicate n false,[]):=⟨LW n,fun x=>by
 simp only [List.not_mem_nil,false_iff,not_and]
 intro _
 rw [List.getD_eq_getElem?_getD,List.getElem?_replicate]
 split<;>simp⟩
theorem WkM.see {n:Nat} {st:List Bool×List Int} (h:WkM n st) {b:Int} (hb:0≤b∧b<n):WkM n (KU st b)∧(∀ x,x∈(KU st b).2↔x∈st.2∨x=b)∧st.2 <+: (KU st b).2:=by
 have hi:=q1n h.inv hb
 cases hs:st.1.getD b.toNat false with
 | true =>
   have e:KU st b=st:=by unfold KU;rw [hs];rfl
   rw [e]
   refine ⟨h,fun x=>⟨.inl,fun hx => ?_⟩,List.prefix_refl _⟩
   rcases hx with hx|rfl
   ·exact hx
   ·exact (h.mem _).2 ⟨hb,hs⟩
 | false =>
   have e:KU st b=(st.1.set b.toNat true,st.2++[b]):=by unfold KU;rw [hs];rfl
   rw [e] at hi ⊢
   have hlen:=h.inv.1
   refine ⟨⟨hi,fun x => ?_⟩,fun x=>by simp,List.prefix_append _ _⟩
   rw [List.mem_append,List.mem_singleton,h.mem]
   simp only [List.getD_eq_getElem?_getD,List.getElem?_set]
   by_cases hx:x=b
   ·subst hx
    rw [if_pos rfl,if_pos (by omega)]
    simp [hb]
   ·constructor
    ·rintro (⟨h1,h2⟩|h2)
     ·refine ⟨h1,?_⟩
      rw [if_neg (by omega)]
      exact h2
     ·exact absurd h2 hx
    ·rintro ⟨h1,h2⟩
     rw [if_neg (by omega)] at h2
     exact .inl ⟨h1,h2⟩
theorem WkM.fold {n:Nat} : ∀ (l:List Int) {st:List Bool×List Int},WkM n st→(∀ b∈l,0≤b∧b<n)→WkM n (l.foldl KU st)∧(∀ x,x∈(l.foldl KU st).2↔x∈st.2∨x∈l)∧st.2 <+: (l.foldl KU st).2
 | [],st,h,_=>⟨h,fun x=>by simp,List.prefix_refl _⟩
 | b::r,st,h,hl=>by
   obtain ⟨h1,h2,h3⟩:=h.see (hl b List.mem_cons_self)
   obtain ⟨h4,h5,h6⟩:=WkM.fold r h1 fun c hc=>hl c (List.mem_cons_of_mem _ hc)
   refine ⟨h4,fun x => ?_,h3.trans h6⟩
   rw [List.foldl_cons,h5,h2,List.mem_cons,or_assoc]
def x4v (rows:List (List Int)) (x y:Int):Prop:=y∈rows.getD x.toNat []
theorem DJ {n:Nat} {rows:List (List Int)} (hr:XG n rows) {x y:Int} (h:x4v rows x y):0≤y∧y<n:=by
 unfold x4v at h
 rw [List.getD_eq_getElem?_getD] at h
 cases hq:rows[x.toNat]? with
 | none=>rw [hq] at h;simp at h
 | some r=>rw [hq] at h;exact hr.2 r (List.mem_of_getElem? hq) y h
theorem q1c {α:Type} {l m:List α} (h:l <+: m) {i:Nat} {a:α} (ha:l[i]? = some a):m[i]? = some a:=by
 obtain ⟨t,rfl⟩:=h
 rw [List.getElem?_append_left (List.getElem?_eq_some_iff.1 ha).1]
 exact ha
theorem q7w {n:Nat} {rows:List (List Int)} (hr:XG n rows) : ∀ (k i:Nat) {st:List Bool×List Int},WkM n st→i≤st.2.length→n+1≤k+i→(∀ (m:Nat) (a:Int),m<i→st.2[m]? = some a → ∀ b,x4v rows a b→b∈st.2) →
  WkM n (XO rows k i st)∧(∀ x∈st.2,x∈(XO rows k i st).2)∧(∀ x∈(XO rows k i st).2,∀ b,x4v rows x b→b∈(XO rows k i st).2)∧(∀ S:Int→Prop,(∀ x∈st.2,S x)→(∀ x b,S x→x4v rows x b→S b) → ∀ x∈(XO rows k i st).2,S x)
 | 0,i,st,h,hi,hk,_=>by
   have:=BF h.inv
   omega
 | k+1,i,st,h,hi,hk,hc=>by
   rw [XO]
   split
   ·rename_i a ha
    have hlt:=(List.getElem?_eq_some_iff.1 ha).1
    have hrow : ∀ b∈rows.getD a.toNat [],0≤b∧b<n:=fun b hb=>DJ hr hb
    obtain ⟨h1,h2,h3⟩:=h.fold (rows.getD a.toNat []) hrow
    obtain ⟨h4,h5,h6,h7⟩:=q7w hr k (i+1) h1 (Nat.le_trans hlt h3.length_le) (by omega) fun m c hm hmc b hb=>by
     rw [h2]
     rcases Nat.lt_or_ge m i with hmi|hmi
     ·have hml:m<st.2.length:=by omega
      have hmc':st.2[m]? = some c:=by
       have:=q1c h3 (List.getElem?_eq_getElem hml)
       rw [List.getElem?_eq_getElem hml,← this,hmc]
      exact .inl (hc m c hmi hmc' b hb)
     ·obtain rfl:m=i:=by omega
      have:=q1c h3 ha
      rw [this] at hmc
      cases hmc
      exact .inr hb
    refine ⟨h4,fun x hx=>h5 x ((h2 x).2 (.inl hx)),h6,fun S hS hcl=>h7 S (fun x hx => ?_) hcl⟩
    rcases (h2 x).1 hx with hx|hx
    ·exact hS x hx
    ·exact hcl a x (hS a (List.mem_of_getElem? ha)) hx
   ·rename_i ha
    have hlen:st.2.length≤i:=List.getElem?_eq_none_iff.1 ha
    refine ⟨h,fun x hx=>hx,fun x hx b hb => ?_,fun S hS _=>hS⟩
    obtain ⟨m,hm⟩:=List.mem_iff_getElem?.1 hx
    exact hc m x (by have:=(List.getElem?_eq_some_iff.1 hm).1;omega) hm b hb
theorem q2u {n:Nat} : ∀ (l:List Int) {st:List Bool×List Int},WkM n st→WkM n (l.foldl (fun st a=>bif WD n a then KU st a else st) st) ∧ ∀ x,x∈(l.foldl (fun st a=>bif WD n a then KU st a else st) st).2↔x∈st.2∨(x∈l∧WD n x=true)
 | [],st,h=>⟨h,fun x=>by simp⟩
 | a::r,st,h=>by
   rw [List.foldl_cons]
   cases hb:WD n a with
   | true =>
     obtain ⟨h1,h2,_⟩:=h.see (ZN hb)
     obtain ⟨h3,h4⟩:=q2u r h1
     rw [cond_true]
     refine ⟨h3,fun x => ?_⟩
     rw [h4,h2,List.mem_cons]
     constructor
     ·rintro ((h5|rfl)|⟨h5,h6⟩)
      ·exact .inl h5
      ·exact .inr ⟨.inl rfl,hb⟩
      ·exact .inr ⟨.inr h5,h6⟩
     ·rintro (h5|⟨rfl|h5,h6⟩)
      ·exact .inl (.inl h5)
      ·exact .inl (.inr rfl)
      ·exact .inr ⟨h5,h6⟩
   | false =>
     obtain ⟨h3,h4⟩:=q2u r h
     rw [cond_false]
     refine ⟨h3,fun x => ?_⟩
     rw [h4,List.mem_cons]
     constructor
     ·rintro (h5|⟨h5,h6⟩)
      ·exact .inl h5
      ·exact .inr ⟨.inr h5,h6⟩
     ·rintro (h5|⟨rfl|h5,h6⟩)
      ·exact .inl h5
      ·rw [hb] at h6;cases h6
      ·exact .inr ⟨h5,h6⟩
theorem z1y : ∀ (l:List Bool) (i:Nat) (y:Int),y∈NJ i l ↔ ∃ k:Nat,l[k]? = some true∧y=((i+k:Nat):Int)
 | [],i,y=>by simp [NJ]
 | b::r,i,y=>by
   have ih:=z1y r (i+1) y
   have key:(∃ k:Nat,(b::r)[k]? = some true∧y=((i+k:Nat):Int))↔(b=true∧y=(i:Int)) ∨ ∃ k:Nat,r[k]? = some true∧y=((i+1+k:Nat):Int):=by
    constructor
    ·rintro ⟨k,h1,h2⟩
     cases k with
     | zero=>simp at h1;exact .inl ⟨h1,by simpa using h2⟩
     | succ k=>exact .inr ⟨k,by simpa using h1,by rw [h2];omega⟩
    ·rintro (⟨h1,h2⟩|⟨k,h1,h2⟩)
     ·exact ⟨0,by simp [h1],by simpa using h2⟩
     ·exact ⟨k+1,by simpa using h1,by rw [h2];omega⟩
   rw [key,← ih,NJ]
   cases b<;>simp
theorem z9t {n:Nat} {rows:List (List Int)} (hr:XG n rows) (l:List Int) (y:Int):y∈NJ 0 (VU rows l) ↔ ∃ a∈l,WD n a=true∧Rch (x4v rows) a y:=by
 obtain ⟨h1,h2⟩:=q2u (n:=n) l (WkM.start n)
 obtain ⟨h3,h4,h5,h6⟩:=q7w hr (rows.length+1) 0 (st:=DK rows.length l) (by rw [hr.1];exact h1) (Nat.zero_le _) (by rw [hr.1];omega) (fun m a hm=>by omega)
 have hst : ∀ x,x∈(DK rows.length l).2↔x∈l∧WD n x=true:=fun x=>by
  rw [hr.1]
  unfold DK
  rw [h2]
  simp
 have hmem : ∀ y,y∈NJ 0 (VU rows l)↔y∈(XO rows (rows.length+1) 0 (DK rows.length l)).2:=fun y=>by
  rw [z1y,h3.mem]
  show (∃ k:Nat,(XO rows (rows.length+1) 0 (DK rows.length l)).1[k]? = some true∧_)↔_
  constructor
  ·rintro ⟨k,h7,h8⟩
   have hlt:=(List.getElem?_eq_some_iff.1 h7).1
   rw [h3.inv.1] at hlt
   refine ⟨by omega,?_⟩
   rw [h8,List.getD_eq_getElem?_getD]
   simp [h7]
  ·rintro ⟨h7,h8⟩
   have hlt:y.toNat<(XO rows (rows.length+1) 0 (DK rows.length l)).1.length:=by rw [h3.inv.1];omega
   refine ⟨y.toNat,?_,by omega⟩
   rw [List.getD_eq_getElem?_getD,List.getElem?_eq_getElem hlt] at h8
   rw [List.getElem?_eq_getElem hlt]
   simpa using h8
 rw [hmem]
 constructor
 ·intro hy
  refine h6 (fun y => ∃ a∈l,WD n a=true∧Rch (x4v rows) a y) (fun x hx => ?_) (fun x b ⟨a,h7,h8,h9⟩ hb=>⟨a,h7,h8,.tail h9 hb⟩) y hy
  obtain ⟨h7,h8⟩:=(hst x).1 hx
  exact ⟨x,h7,h8,.refl⟩
 ·rintro ⟨a,h7,h8,h9⟩
  exact h9.closed (S:=fun y=>y∈(XO rows (rows.length+1) 0 (DK rows.length l)).2) (fun x b hx hb=>h5 x hx b hb) (h4 a ((hst a).2 ⟨h7,h8⟩))
open Go.Proofs
theorem z2l {l:List Int} {k:Nat} {b x:Int}:x∈q4q l k b↔x∈l∨x=b:=by
 unfold q4q
 rw [List.mem_append,List.mem_cons]
 have:x∈l↔x∈l.take k∨x∈l.drop k:=by rw [← List.mem_append,List.take_append_drop]
 rw [this]
 constructor
 ·rintro (h|h|h)
  ·exact .inl (.inl h)
  ·exact .inr h
  ·exact .inl (.inr h)
 ·rintro ((h|h)|h)
  ·exact .inl h
  ·exact .inr (.inr h)
  ·exact .inr (.inl h)
theorem w0l {n:Nat} {g:List (List Int)×List (List Int)} (hl:g.1.length=n) (e:Int×Int) {x y:Int} (hx:0≤x∧x<n):y∈(x4y n g e).1.getD x.toNat []↔y∈g.1.getD x.toNat []∨((x,y)=e∧WD n y=true):=by
 rw [q7s]
 cases hc:(WD n e.1&&WD n e.2 && !(g.1.getD e.1.toNat []).contains e.2) with
 | true =>
   simp only [Bool.and_eq_true,Bool.not_eq_true'] at hc
   obtain ⟨⟨h1,h2⟩,_⟩:=hc
   have h3:=ZN h1
   rw [cond_true]
   unfold x0g
   rw [List.getD_eq_getElem?_getD,List.getElem?_set]
   by_cases he:e.1.toNat=x.toNat
   ·rw [if_pos he,if_pos (by omega)]
    simp only [Option.getD_some]
    rw [z2l,← he]
    have:x=e.1:=by omega
    constructor
    ·rintro (h|h)
     ·exact .inl h
     ·exact .inr ⟨by rw [this,h],by rw [h];exact h2⟩
    ·rintro (h|⟨h,_⟩)
     ·exact .inl h
     ·exact .inr (by rw [← h])
   ·rw [if_neg he,← List.getD_eq_getElem?_getD]
    constructor
    ·exact .inl
    ·rintro (h|⟨h,_⟩)
     ·exact h
     ·exact absurd (by rw [← h]) he
 | false =>
   rw [cond_false]
   constructor
   ·exact .inl
   ·rintro (h|⟨rfl,h⟩)
    ·exact h
    ·have h1:WD n x=true:=by unfold WD;simp [hx]
     simp only [h1,h,Bool.true_and,Bool.not_eq_false'] at hc
     simpa using hc
theorem z2n {n:Nat} {g:List (List Int)×List (List Int)} (hl:g.1.length=n) (e:Int×Int):(x4y n g e).1.length=n:=by
 rw [q7s]
 cases (WD n e.1&&WD n e.2 && !(g.1.getD e.1.toNat []).contains e.2) with
 | true=>rw [cond_true];unfold x0g;rw [List.length_set];exact hl
 | false=>exact hl
theorem x4m {n:Nat} {x y:Int} (hx:0≤x∧x<n) : ∀ (l:List (Int×Int)) {g:List (List Int)×List (List Int)},g.1.length=n→(y∈(l.foldl (x4y n) g).1.getD x.toNat []↔y∈g.1.getD x.toNat []∨((x,y)∈l∧WD n y=true))
 | [],g,_=>by simp
 | e::r,g,h=>by
   rw [List.foldl_cons,x4m hx r (z2n h e),w0l h e hx,List.mem_cons]
   constructor
   ·rintro ((h1|⟨h1,h2⟩)|⟨h1,h2⟩)
    ·exact .inl h1
    ·exact .inr ⟨.inl h1,h2⟩
    ·exact .inr ⟨.inr h1,h2⟩
   ·rintro (h1|⟨h1|h1,h2⟩)
    ·exact .inl (.inl h1)
    ·exact .inl (.inr ⟨h1,h2⟩)
    ·exact .inr ⟨h1,h2⟩
theorem q9d {n:Nat} {l:List (Int×Int)} {x y:Int} (hx:0≤x∧x<n):x4v (XX n l).1 x y↔(x,y)∈l∧WD n y=true:=by
 unfold x4v XX
 rw [x4m hx l (by simp)]
 have:(List.replicate n ([]:List Int)).getD x.toNat []=[]:=by
  rw [List.getD_eq_getElem?_getD,List.getElem?_replicate]
  split<;>rfl
 rw [this]
 simp
def stR (F:List Step) (a b:Int):Prop := ∃ s∈F,s.src=a∧s.dst=b
def plP (p:Pg) (j:Nat) (f:Pr) (x:Int):Prop:=x=0∨x = -1∨((QN p.procs j:Int)+1≤x∧x≤(QN p.procs j+QY f.body:Nat))
def ixI (p:Pg) (j:Nat) (f:Pr) (x:Int):Int:=KX (loI p j) (hiI p j f) (QY f.body+2:Nat) x
theorem WH {p:Pg} {j:Nat} {f:Pr} {x:Int} (h:plP p j f x):0≤ixI p j f x∧ixI p j f x<(QY f.body+2:Nat):=by
 unfold ixI KX loI hiI
 unfold plP at h
 (repeat' split)<;>omega
theorem BJ {p:Pg} {j:Nat} {f:Pr} {x y:Int} (hx:plP p j f x) (hy:plP p j f y) (h:ixI p j f x=ixI p j f y):x=y:=by
 unfold ixI KX loI hiI at h
 unfold plP at hx hy
 (repeat' split at h)<;>omega
theorem JZ {p:Pg} (h:XK p=true) {j:Nat} {f:Pr} (hj:p.procs[j]? = some f) : ∀ s∈(QX p j f).real,plP p j f s.src∧plP p j f s.dst:=fun s hs=>by
 obtain ⟨_,h2⟩:=JY h hj
 obtain ⟨_,h3,_⟩:=BG h hj
 obtain ⟨h4,h5⟩:=h3 s ((h2 s).1 hs)
 unfold okI at h5
 unfold plP
 omega
theorem z2v {l:List Str} (h:XY l=false):l.Nodup:=by
 unfold XY at h
 rw [List.any_eq_false] at h
 unfold List.Nodup
 rw [List.pairwise_iff_getElem]
 intro i j hi hj hij he
 have h1:=h j (List.mem_range.2 hj)
 apply h1
 rw [List.any_eq_true]
 refine ⟨l[i],?_,?_⟩
 ·exact List.mem_iff_getElem.2 ⟨i,by simp;omega,by simp⟩
 ·rw [List.getElem?_eq_getElem hj]
  simp [he]
theorem x9g {p:Pg} (h:XK p=true):(procsN p).Nodup:=by
 obtain ⟨hm,hs,_⟩:=QK h
 unfold QS at hs
 rw [hm,cond_true] at hs
 cases hb:ZH p with
 | true=>rw [hb] at hs;cases hs
 | false =>
   unfold ZH at hb
   simp only [Bool.or_eq_false_iff] at hb
   exact z2v hb.2.1
open Go.Proofs
theorem z6y {E:Int→Int→Prop} {B:List Int} {u x:Int} (h:Rch E u x) (hu:u∈B) (hx:x∉B) : ∃ z y,z∈B∧E z y∧y∉B∧Rch E u y∧Rch E y x:=by
 induction h with
 | refl=>exact absurd hu hx
 | @tail b c h hr ih =>
   by_cases hb:b∈B
   ·exact ⟨b,c,hb,hr,hx,.tail h hr,.refl⟩
   ·obtain ⟨z,y,h1,h2,h3,h4,h5⟩:=ih hb
    exact ⟨z,y,h1,h2,h3,h4,.tail h5 hr⟩
def chainE (E:Int→Int→Prop):List Int→Prop
 | []=>True
 | [_]=>True
 | a::b::r=>E a b∧chainE E (b::r)
theorem NT {E:Int→Int→Prop} : ∀ (l:List Int) {a y:Int},chainE E (l++[a])→y∈l++[a]→Rch E y a
 | [],a,y,_,hy=>by
   simp at hy
   rw [hy]
   exact .refl
 | [b],a,y,h,hy=>by
   simp at hy
   rcases hy with rfl|rfl
   ·exact .tail .refl h.1
   ·exact .refl
 | b::c::r,a,y,h,hy=>by
   have h1:chainE E ((c::r)++[a]):=h.2
   rcases List.mem_cons.1 hy with rfl|hy
   ·exact .head h.1 (NT (c::r) h1 (by simp))
   ·exact NT (c::r) h1 hy
theorem q7o {E:Int→Int→Prop} : ∀ (l:List Int) {a b:Int},chainE E (l++[a])→E a b→chainE E (l++[a]++[b])
 | [],a,b,_,hb=>⟨hb,trivial⟩
 | [c],a,b,h,hb=>⟨h.1,hb,trivial⟩
 | c::d::r,a,b,h,hb=>⟨h.1,q7o (d::r) h.2 hb⟩
theorem x0l {E:Int→Int→Prop} : ∀ (l:List Int) {a:Int},chainE E (l++[a])→chainE E l
 | [],_,_=>trivial
 | [_],_,_=>trivial
 | c::d::r,_,h=>⟨h.1,x0l (d::r) h.2⟩
structure DfsI (n:Nat) (E:Int→Int→Prop) (out stack:List Int):Prop where
 nd:(out++stack).Nodup
 rng : ∀ x∈out++stack,0≤x∧x<n
 path:chainE E stack
 cl : ∀ u∈out,∀ v,E u v→v∈out∨v∈stack
 J : ∀ u∈out,∀ x,Rch E u x→x∉out → ∃ s∈stack,Rch E u s∧Rch E s u∧Rch E s x
 K : ∀ (i:Nat) (r:Int),out[i]? = some r → ∀ u,Rch E u r→Rch E r u ∨ ∃ u',Rch E u u'∧Rch E u' u∧(u'∉out ∨ ∃ j,i<j∧out[j]? = some u')
theorem DfsI.start (n:Nat) (E:Int→Int→Prop):DfsI n E [] []:=⟨by simp,by simp,trivial,by simp,by simp,by simp⟩
theorem DfsI.push {n:Nat} {E:Int→Int→Prop} {out stack:List Int} (h:DfsI n E out stack) {b:Int} (hb:0≤b∧b<n) (hn:b∉out++stack) (hp:chainE E (stack++[b])):DfsI n E out (stack++[b]):=by
 refine ⟨?_,fun x hx => ?_,hp,fun u hu v hv => ?_,fun u hu x hx hxo => ?_,h.K⟩
 ·rw [← List.append_assoc,List.nodup_append]
  refine ⟨h.nd,by simp,fun x hx y hy => ?_⟩
  rw [List.mem_singleton.1 hy]
  exact fun e=>hn (e▸hx)
 ·rw [← List.append_assoc] at hx
  rcases List.mem_append.1 hx with hx|hx
  ·exact h.rng x hx
  ·rw [List.mem_singleton.1 hx];exact hb
 ·rcases h.cl u hu v hv with h1|h1
  ·exact .inl h1
  ·exact .inr (List.mem_append.2 (.inl h1))
 ·obtain ⟨s,h1,h2⟩:=h.J u hu x hx hxo
  exact ⟨s,List.mem_append.2 (.inl h1),h2⟩
theorem DfsI.pop {n:Nat} {E:Int→Int→Prop} {out st:List Int} {a:Int} (h:DfsI n E out (st++[a])) (ha : ∀ v,E a v→v∈out∨v∈st++[a]):DfsI n E (out++[a]) st:=by
 have hnd:=h.nd
 rw [List.nodup_append] at hnd
 obtain ⟨hn1,hn2,hn3⟩:=hnd
 rw [List.nodup_append] at hn2
 obtain ⟨hn4,_,hn5⟩:=hn2
 have hao:a∉out:=fun hm=>hn3 a hm a (by simp) rfl
 have hast:a∉st:=fun hm=>hn5 a hm a (by simp) rfl
 have hcl : ∀ u∈out++[a],∀ v,E u v→v∈out++[a]∨v∈st:=fun u hu v hv=>by
  have:v∈out∨v∈st++[a]:=by
   rcases List.mem_append.1 hu with hu|hu
   ·exact h.cl u hu v hv
   ·rw [List.mem_singleton.1 hu] at hv;exact ha v hv
  rcases this with h1|h1
  ·exact .inl (List.mem_append.2 (.inl h1))
  ·rcases List.mem_append.1 h1 with h1|h1
   ·exact .inr h1
   ·exact .inl (List.mem_append.2 (.inr h1))
 have hfst : ∀ u∈out++[a],∀ x,Rch E u x→x∉out++[a] → ∃ y∈st,Rch E u y∧Rch E y x:=fun u hu x hx hxo=>by
  obtain ⟨z,y,h1,h2,h3,h4,h5⟩:=z6y hx hu hxo
  rcases hcl z h1 y h2 with h6|h6
  ·exact absurd h6 h3
  ·exact ⟨y,h6,h4,h5⟩
 have hya : ∀ y∈st,Rch E y a:=fun y hy=>NT st h.path (List.mem_append.2 (.inl hy))
 refine ⟨?_,fun x hx => ?_,x0l st h.path,hcl,fun u hu x hx hxo => ?_,fun i r hi u hu => ?_⟩
 ·rw [List.append_assoc,List.nodup_append]
  refine ⟨hn1,?_,fun x hx y hy=>hn3 x hx y (by simp at hy ⊢;exact hy.symm)⟩
  rw [List.nodup_append]
  refine ⟨by simp,hn4,fun x hx y hy e => ?_⟩
  rw [List.mem_singleton.1 hx] at e
  exact hast (e▸hy)
 ·refine h.rng x ?_
  simp only [List.mem_append,List.mem_singleton] at hx ⊢
  rcases hx with (h1|h1)|h1
  ·exact .inl h1
  ·exact .inr (.inr h1)
  ·exact .inr (.inl h1)
 ·obtain ⟨y,h1,h2,h3⟩:=hfst u hu x hx hxo
  rcases List.mem_append.1 hu with hu|hu
  ·have hyo:y∉out:=fun hm=>hn3 y hm y (List.mem_append.2 (.inl h1)) rfl
   obtain ⟨s,h4,h5,h6,h7⟩:=h.J u hu y h2 hyo
   rcases List.mem_append.1 h4 with h4|h4
   ·exact ⟨s,h4,h5,h6,h7.trans h3⟩
   ·rw [List.mem_singleton.1 h4] at h5 h6
    exact ⟨y,h1,h2,(hya y h1).trans h6,h3⟩
  ·rw [List.mem_singleton.1 hu] at h2 ⊢
   exact ⟨y,h1,h2,hya y h1,h3⟩
 ·rcases Nat.lt_or_ge i out.length with hil|hil
  ·rw [List.getElem?_append_left hil] at hi
   rcases h.K i r hi u hu with h1|⟨u',h1,h2,h3⟩
   ·exact .inl h1
   ·refine .inr ⟨u',h1,h2,?_⟩
    rcases h3 with h3|⟨j,h3,h4⟩
    ·by_cases hua:u'=a
     ·exact .inr ⟨out.length,hil,by rw [hua];simp⟩
     ·exact .inl fun hm=>by
       rcases List.mem_append.1 hm with hm|hm
       ·exact h3 hm
       ·exact hua (List.mem_singleton.1 hm)
    ·exact .inr ⟨j,h3,by rw [List.getElem?_append_left (List.getElem?_eq_some_iff.1 h4).1];exact h4⟩
  ·have hr:r=a:=by
    have h1:=(List.getElem?_eq_some_iff.1 hi).1
    simp at h1
    rw [List.getElem?_append_right hil,show i-out.length=0 by omega] at hi
    simpa using hi.symm
   subst hr
   by_cases hau:Rch E r u
   ·exact .inl hau
   ·right
    by_cases huo:u∈out
    ·obtain ⟨s,h4,h5,h6,h7⟩:=h.J u huo r hu hao
     rcases List.mem_append.1 h4 with h4|h4
     ·refine ⟨s,h5,h6,.inl fun hm => ?_⟩
      rcases List.mem_append.1 hm with hm|hm
      ·exact hn3 s hm s (List.mem_append.2 (.inl h4)) rfl
      ·rw [List.mem_singleton.1 hm] at h4;exact hast h4
     ·rw [List.mem_singleton.1 h4] at h6
      exact absurd h6 hau
    ·refine ⟨u,.refl,.refl,.inl fun hm => ?_⟩
     rcases List.mem_append.1 hm with hm|hm
     ·exact huo hm
     ·rw [List.mem_singleton.1 hm] at hau
      exact hau .refl
structure EndsP (n:Nat) (E:Int→Int→Prop) (es:List Int):Prop where
 nd:es.Nodup
 mem : ∀ x:Int,x∈es↔0≤x∧x<n
 K : ∀ (i:Nat) (r:Int),es[i]? = some r → ∀ u:Int,0≤u∧u<n→Rch E u r→Rch E r u ∨ ∃ u',Rch E u u'∧Rch E u' u ∧ ∃ j,i<j∧es[j]? = some u'
theorem DfsI.fin {n:Nat} {E:Int→Int→Prop} (hE : ∀ x y,E x y→0≤y∧y<n) {out:List Int} (h:DfsI n E out []) (hall : ∀ x:Int,0≤x∧x<n→x∈out):EndsP n E out:=by
 refine ⟨by simpa using h.nd,fun x=>⟨fun hx=>h.rng x (by simpa using hx),hall x⟩,fun i r hi u hur hu => ?_⟩
 rcases h.K i r hi u hu with h1|⟨u',h1,h2,h3⟩
 ·exact .inl h1
 ·refine .inr ⟨u',h1,h2,?_⟩
  rcases h3 with h3|h3
  ·exfalso
   apply h3
   apply hall
   cases h1 with
   | refl=>exact hur
   | tail _ hr=>exact hE _ _ hr
  ·exact h3
def sccP (E:Int→Int→Prop) (x y:Int):Prop:=Rch E x y∧Rch E y x
theorem sccP.refl {E:Int→Int→Prop} (x:Int):sccP E x x:=⟨.refl,.refl⟩
theorem sccP.symm {E:Int→Int→Prop} {x y:Int} (h:sccP E x y):sccP E y x:=⟨h.2,h.1⟩
theorem sccP.trans {E:Int→Int→Prop} {x y z:Int} (h:sccP E x y) (h':sccP E y z):sccP E x z:=⟨h.1.trans h'.1,h'.2.trans h.2⟩
def SeenP (E:Int→Int→Prop) (es:List Int) (i:Nat) (x:Int):Prop := ∃ (j:Nat) (y:Int),i≤j∧es[j]? = some y∧sccP E x y
theorem z9q {n:Nat} {E:Int→Int→Prop} (hE : ∀ x y,E x y→(0≤x∧x<n)∧0≤y∧y<n) {es:List Int} (h:EndsP n E es) {i:Nat} {r:Int} (hi:es[i]? = some r) (hr : ¬SeenP E es (i+1) r) (x:Int) :
  Rch (fun a b=>E b a ∧ ¬SeenP E es (i+1) b) r x↔sccP E r x:=by
 have hrr:=(h.mem r).1 (List.mem_of_getElem? hi)
 constructor
 ·intro hx
  have key:(0≤x∧x<n) ∧ ¬SeenP E es (i+1) x∧Rch E x r:=hx.closed (S:=fun x:Int=>(0≤x∧x<n) ∧ ¬SeenP E es (i+1) x∧Rch E x r) (fun a b ⟨h1,h2,h3⟩ ⟨h4,h5⟩=>⟨(hE _ _ h4).1,h5,.head h4 h3⟩) ⟨hrr,hr,.refl⟩
  refine ⟨?_,key.2.2⟩
  rcases h.K i r hi x key.1 key.2.2 with h1|⟨u',h1,h2,j,h3,h4⟩
  ·exact h1
  ·exact absurd ⟨j,u',h3,h4,h1,h2⟩ key.2.1
 ·rintro ⟨h1,h2⟩
  have hns : ∀ y,sccP E r y → ¬SeenP E es (i+1) y:=fun y hy ⟨j,z,h3,h4,h5⟩=>hr ⟨j,z,h3,h4,hy.trans h5⟩
  have key : ∀ {a b:Int},Rch E a b→Rch E r a→Rch E b r→Rch (fun a b=>E b a ∧ ¬SeenP E es (i+1) b) b a:=fun {a b} hab=>by
   induction hab with
   | refl=>intro _ _;exact .refl
   | @tail b c hab hbc ih =>
     intro h3 h4
     have h5:Rch E b r := .head hbc h4
     exact .head ⟨hbc,hns b ⟨h3.trans hab,h5⟩⟩ (ih h3 h5)
  exact key h2 h1 .refl
theorem z6n {E:Int→Int→Prop} {es:List Int} {i:Nat} {r:Int} (hi:es[i]? = some r) (hr:SeenP E es (i+1) r) (x:Int):SeenP E es i x↔SeenP E es (i+1) x:=by
 constructor
 ·rintro ⟨j,y,h1,h2,h3⟩
  rcases Nat.eq_or_lt_of_le h1 with h4|h4
  ·subst h4
   rw [hi] at h2
   cases h2
   obtain ⟨k,z,h5,h6,h7⟩:=hr
   exact ⟨k,z,h5,h6,h3.trans h7⟩
  ·exact ⟨j,y,h4,h2,h3⟩
 ·rintro ⟨j,y,h1,h2,h3⟩
  exact ⟨j,y,by omega,h2,h3⟩
theorem x6r {E:Int→Int→Prop} {es:List Int} {i:Nat} {r:Int} (hi:es[i]? = some r) (x:Int):SeenP E es i x↔SeenP E es (i+1) x∨sccP E r x:=by
 constructor
 ·rintro ⟨j,y,h1,h2,h3⟩
  rcases Nat.eq_or_lt_of_le h1 with h4|h4
  ·subst h4
   rw [hi] at h2
   cases h2
   exact .inr h3.symm
  ·exact .inl ⟨j,y,h4,h2,h3⟩
 ·rintro (⟨j,y,h1,h2,h3⟩|h)
  ·exact ⟨j,y,by omega,h2,h3⟩
  ·exact ⟨i,r,Nat.le_refl _,hi,h.symm⟩
theorem w1g {n:Nat} {E:Int→Int→Prop} {es:List Int} (h:EndsP n E es) {x:Int} (hx:0≤x∧x<n):SeenP E es 0 x:=by
 obtain ⟨j,hj⟩:=List.mem_iff_getElem?.1 ((h.mem x).2 hx)
 exact ⟨j,x,Nat.zero_le _,hj,.refl x⟩
end Go.Ab
