/- Small laws for the scripts. Conditions: none. -/
import Derived.Test.YtiaikoimoonlmaaGreatDomR6
import Derived.Test.YtiaikoimoonlmaaGreatDomR7
set_option linter.unusedSimpArgs false
set_option linter.unusedVariables false
set_option maxRecDepth 100000
set_option maxHeartbeats 16000000
open List (all_cons any_cons drop_eq_nil_of_le length_append length_map length_singleton map_take mem_cons_of_mem mem_cons_self)
open Nat (ble zero_le)
namespace Go.Ab
open Go.Proofs
theorem v2w {p:Prop} [Decidable p] {A B:Prop} (h:p->A) (h' : ¬p->B):Br (decide p) A B:=⟨fun e=>h (by simpa using e),fun e=>h' (by simpa using e)⟩
theorem w9m {p:Prop} [Decidable p] {A B:Prop} (h:p->A) (h' : ¬p->B):Br (!decide p) B A:=⟨fun e=>h' (by simpa using e),fun e=>h (by simpa using e)⟩
theorem Br.n {b:Bool} {A B:Prop} (h:b=true->B) (h':b=false->A):Br (!b) A B:=⟨fun e=>h' (by simpa using e),fun e=>h (by simpa using e)⟩
theorem ByteK.at {s:List UInt8} {k:Nat} {K:UInt8->Prop} (hk:k<s.length) (h:K s[k]):ByteK s k K:=⟨k,s[k],rfl,by simp,h⟩
theorem X.avs_len (l:List X):(X.avs l).length=l.length:=by rw [X.avs_eq];simp
theorem S.avs_len (l:List S):(S.avs l).length=l.length:=by rw [S.avs_eq];simp
theorem IdxK.map {α:Type} {f:α->AV} {l:List α} {sz k:Nat} {K:List AV->Prop} (hk:k<(l.map f).length) (hs : ∀ x,(f x).cells.length=sz) (h:K (f (l[k]'(by simpa using hk))).cells):IdxK (l.map f) sz k K :=
 ⟨k,f (l[k]'(by simpa using hk)),rfl,by simp at hk;simp [hk],hs _,h⟩
theorem IdxK.xs {l:List X} {k:Nat} {K:List AV->Prop} (hk:k<(X.avs l).length) (h:K (l[k]'(by rw [X.avs_len] at hk;exact hk)).cells):IdxK (X.avs l) 4 k K:=by
 rw [X.avs_len] at hk;refine ⟨k,.agg l[k].cells,rfl,?_,rfl,h⟩;rw [X.avs_eq];simp [hk]
theorem QB {l:List S} {k:Nat} {K:List AV->Prop} (hk:k<(S.avs l).length) (h:K (l[k]'(by rw [S.avs_len] at hk;exact hk)).cells):IdxK (S.avs l) 13 k K:=by
 rw [S.avs_len] at hk;refine ⟨k,.agg l[k].cells,rfl,?_,rfl,h⟩;rw [S.avs_eq];simp [hk]
theorem RetK.tt {H:Heap} {b:Bool} (h:b=true):RetK H (.p .tt) (fun r=>r = .bool b):=⟨_,.p (Sub.tt h),rfl⟩
theorem RetK.ff {H:Heap} {b:Bool} (h:b=false):RetK H (.p .ff) (fun r=>r = .bool b):=⟨_,.p (Sub.ff h),rfl⟩
theorem RetK.bool {H:Heap} {a b:Bool} (h:a=b):RetK H (.p (.bool a)) (fun r=>r = .bool b):=⟨_,.p (Sub.bool h),rfl⟩
theorem RetK.int {H:Heap} {k:IntKind} {m n:Int} (h:m=n):RetK H (.p (.int k m)) (fun r=>r = .int k n):=⟨_,.p (Sub.int h),rfl⟩
theorem RetK.p {H:Heap} {a b:AV} (h:a=b):RetK H (.p a) (fun r=>r=b):=⟨_,.p (Sub.of_eq h),rfl⟩
theorem QG {α:Type} {l:List α} {j:Nat} (h:j<l.length):l.drop j=l[j]::l.drop (j+1):=by simp
theorem q2a {α:Type} {l:List α} {p:α->Bool} {j:Nat} (hj:j<l.length) (h:p l[j]=true):(l.drop (j+1)).all p=(l.drop j).all p:=by
 rw [QG hj,all_cons,h,Bool.true_and]
theorem q8j {α:Type} {l:List α} {p:α->Bool} {j:Nat} (hj:j<l.length) (h:p l[j]=false):(l.drop j).all p=false:=by
 rw [QG hj,all_cons,h,Bool.false_and]
theorem q2e {α:Type} {l:List α} {p:α->Bool} {j:Nat} (hj:l.length<=j):(l.drop j).all p=true:=by
 rw [drop_eq_nil_of_le hj];rfl
theorem q8s {α:Type} {l:List α} {p:α->Bool} {j:Nat} (hj:j<l.length) (h:p l[j]=false):(l.drop (j+1)).any p=(l.drop j).any p:=by
 rw [QG hj,any_cons,h,Bool.false_or]
theorem x6c {α:Type} {l:List α} {p:α->Bool} {j:Nat} (hj:j<l.length) (h:p l[j]=true):(l.drop j).any p=true:=by
 rw [QG hj,any_cons,h,Bool.true_or]
theorem MS {α:Type} {l:List α} {p:α->Bool} {j:Nat} (hj:l.length<=j):(l.drop j).any p=false:=by
 rw [drop_eq_nil_of_le hj];rfl
theorem w3s {α β:Type} {l:List α} {g:α->β} {j:Nat} (hj:j<l.length):(l.take (j+1)).map g=(l.take j).map g++[g l[j]]:=by
 rw [List.take_succ_eq_append_getElem hj,List.map_append];rfl
def idxF {α:Type} (p:α->Bool) (l:List α):Int:=bif l.any p then (l.findIdx p:Nat) else -1
theorem w1o {α:Type} {l:List α} {p:α->Bool} {j:Nat} (hj:j<l.length) (h:p l[j]=false):(l.drop j).findIdx p=(l.drop (j+1)).findIdx p+1:=by
 rw [QG hj,List.findIdx_cons,h,cond_false]
theorem v0k {α:Type} {l:List α} {p:α->Bool} {j:Nat} (hj:j<l.length) (h:p l[j]=true):(l.drop j).findIdx p=0:=by
 rw [QG hj,List.findIdx_cons,h,cond_true]
theorem MY {α:Type} {p:α->Bool} {l:List α}:decide (idxF p l≥0)=l.any p:=by
 unfold idxF;cases l.any p<;>simp
theorem q2h {α:Type} {p:α->Bool} {l:List α} {j:Nat} (hj:j<l.length) (h:p l[j]=true) (h1:(l.drop j).any p=l.any p) (h2:l.findIdx p=j+(l.drop j).findIdx p):idxF p l=j:=by
 unfold idxF;rw [<- h1,x6c hj h,cond_true,h2,v0k hj h];rfl
theorem q9y {α:Type} {p:α->Bool} {l:List α} (h:l.any p=false):idxF p l = -1:=by
 unfold idxF;rw [h];rfl
theorem q8a {P:Program} {T:Tab} {N:Nat} {ops:Array Oper} {info:Info} {id:Nat} {K:St->Prop} {s:St} (S1:St) (h:DrawK P T N info id ops (fun s=>z3w info id s fun s3=>Le N s3 S1) s) (hK:z3w info id S1 K) :
  DrawK P T N info id ops (fun s=>z3w info id s K) s:=by
 refine ⟨⟨fun σ β a w hr=>Code.wp_mono (fun e a' w' hk => ?_) (h.ok.ok σ β a w hr)⟩⟩;obtain ⟨σ',β',s',hk,hr',hl⟩:=hk;cases e<;>simp only at hk ⊢;obtain ⟨s2,h1,h2⟩:=LC (N:=N) hk;obtain ⟨σ2,β2,hr2,hl2⟩:=(h2.trans h1) σ' β' a' w' hr';exact ⟨σ2,β2,S1,hK,hr2,hl.trans hl2⟩
theorem z5x {P:Program} {T:Tab} {N:Nat} {ops:Array Oper} {info:Info} {id:Nat} {K:St->Prop} {s:St} (hT:TabOK P T) (hm:P.follows .mixedOrders=true) (hok:(bif x0b ops.size ops.toList then bif ble (info.sched id).len ops.size then WZ ops [] (info.sched id) else false else false)=true)
  (h:drW P T N ops (info.sched id) s K):DrawK P T N info id ops K s:=DrawK.of hT hm _ hok h
theorem bD {p:Prop} [Decidable p] {A B:Prop} (h:p->A) (h' : ¬p->B):Br (decide p) A B:=v2w h h'
theorem bE {p:Prop} [Decidable p] {A B:Prop} (h:p->A) (h' : ¬p->B):Br (!decide p) B A:=w9m h h'
theorem bB {b:Bool} {A B:Prop} (h:b=true->A) (h':b=false->B):Br b A B:=⟨h,h'⟩
theorem bN {b:Bool} {A B:Prop} (h:b=true->B) (h':b=false->A):Br (!b) A B:=Br.n h h'
theorem iM {n:Nat} {K:Prop} (h:n<=9223372036854775807->K):n<=9223372036854775807->K:=h
theorem wI {n:Int} {K:Int->Prop} (hk:K n) (h1 : -9223372036854775808<=n:=by omega) (h2:n<=9223372036854775807:=by omega):Wr .i64 n K:=Wr.i64 h1 h2 hk
theorem aD {a b c:Prop} (h:c) (h1:a:=by decide) (h2:b:=by decide):(a∧b)∧c:=⟨⟨h1,h2⟩,h⟩
theorem aR {a b c d:Prop} (h:d) (h1:a:=by exact rfl) (h2:b:=by exact rfl) (h3:c:=by decide):(a∧b∧c)∧d:=⟨⟨h1,h2,h3⟩,h⟩
theorem bP {es:List AV} {sz:Nat} {out:List LV} {Kp Ko:Prop} (hK:Kp) (hx : ∀ x∈es,x.cells.length=sz:=by intro x hx;rcases List.mem_singleton.1 hx with rfl;rfl) (ho:out=(es.flatMap AV.cells).map .p:=by exact rfl):BsK es sz out Kp Ko := .pure hx ho hK
theorem iA {α:Type} {f:α->AV} {l:List α} {sz k:Nat} {K:List AV->Prop} (h : ∀ hk:k<l.length,K (f l[k]).cells) (hk:k<(l.map f).length:=by omega) (hs : ∀ x,(f x).cells.length=sz:=by intro _;rfl):IdxK (l.map f) sz k K:=IdxK.map hk hs (h (by simpa using hk))
theorem dA {N:Nat} {ops:Array Oper} {info:Info} {id:Nat} {K:St->Prop} {s:St} (h:drW Tryz.prog tab N ops (info.sched id) s K) (hok:(bif x0b ops.size ops.toList then bif ble (info.sched id).len ops.size then WZ ops [] (info.sched id) else false else false)=true:=by kernel_rfl):DrawK Tryz.prog tab N info id ops K s:=z5x QV mixed hok h
theorem cP {P:Program} {N:Nat} {g:FuncId} {args:List LV} {dst:Option Nat} {s:St} {K:St->Prop} {avs:List AV} {c:AV} (hs:SpecP P g avs fun r=>r=c) (h:setD N s.sl dst (.p c) fun sl=>K ⟨sl,s.H⟩) (ha:ArgP args avs:=by (repeat (refine ArgP.cons ?_ ?_;first|exact Sub.refl _|exact Sub.tt rfl|exact Sub.ff rfl|exact Sub.int (by omega)));exact ArgP.nil):CallK P N g args dst s K:=CallK.pure hs ha fun _ e=>e▸h
theorem lE {N:Nat} {s:St} {sl':List (Nat×LV)} {H':Heap} (hnd:(H'.map (·.1)).Nodup:=by simp) (hsl:WkS [] s.sl sl':=by (repeat (refine WkS.cons ?_ ?_;exact Wk.refl _));exact WkS.nil) (hH:WkH [] s.H H':=by (repeat refine WkH.cons rfl (CWk.refl _) ?_);exact WkH.nil):Le N s ⟨sl',H'⟩:=Le.mk [] (by simp) (by simp) hnd hsl hH
theorem sB (info:Info) {f:FuncId} {fn:Func} {c:Code} (hf:Tryz.prog.funcs[f]? = some fn) (hb:fn.body=some c) (hgo : ∀ (vals:Array Value) (w:World),(callFunc f vals).run Tryz.prog w = .ok (.enter f vals) w)
  {args:List AV} {R:AV->Prop} (h:W Tryz.prog tab fn.ntmps info c (v5j tab fn.results R) ⟨x6x args 0,[]⟩) (hlen:args.length<=fn.ntmps:=by exact Nat.le_of_ble_eq_true rfl):SpecP Tryz.prog f args R:=SpecP.body info QV hf hb hgo hlen h
theorem sH (info:Info) {f:FuncId} {fn:Func} {c:Code} (hf:Tryz.prog.funcs[f]? = some fn) (hb:fn.body=some c) (hgo : ∀ (vals:Array Value) (w:World),(callFunc f vals).run Tryz.prog w = .ok (.enter f vals) w)
  {args:List LV} {H:Heap} {R:LV->Heap->Prop} (h:W Tryz.prog tab fn.ntmps info c (v5n tab fn.results R) ⟨q0y args 0,H⟩) (hlen:args.length<=fn.ntmps:=by exact Nat.le_of_ble_eq_true rfl):SpecH Tryz.prog f args H R:=SpecH.body info QV hf hb hgo hlen h
def PM (c:UInt8):Bool:=decide (97<=(c.toNat:Int))&&decide ((c.toNat:Int)<=122)
def x2q (c:UInt8):Bool:=decide (48<=(c.toNat:Int))&&decide ((c.toNat:Int)<=57)
def w9i (c:UInt8):Bool:=PM c||x2q c
theorem q8y (c:UInt8):SpecP Tryz.prog 243 [.int .u8 c.toNat] (fun r=>r = .bool (PM c)):=by
 refine sB x5u Tryz.func243 rfl Tryz.call243 ?_;conv=>whnf
 repeat' (apply bD<;>intro _<;>first|omega|conv=>whnf)
 ·exact RetK.bool (by simp_all [PM];try omega)
 ·exact RetK.ff (by simp_all [PM];try omega)
theorem w0e (c:UInt8):SpecP Tryz.prog 308 [.int .u8 c.toNat] (fun r=>r = .bool (x2q c)):=by
 refine sB x6f Tryz.func308 rfl Tryz.call308 ?_;conv=>whnf
 repeat' (apply bD<;>intro _<;>first|omega|conv=>whnf)
 ·exact RetK.bool (by simp_all [x2q];try omega)
 ·exact RetK.ff (by simp_all [x2q];try omega)
def PG (s:Str) (i:Nat):Nat:=i+((s.drop i).takeWhile w9i).length
theorem q6m {s:Str} {i:Nat} (h:i<s.length) (hc:w9i s[i]=true):PG s (i+1)=PG s i:=by
 unfold PG;rw [QG h,List.takeWhile_cons,if_pos hc];simp only [List.length_cons];omega
theorem x5c {s:Str} {i:Nat} (h : ∀ (hi:i<s.length),w9i s[i]=false):PG s i=i:=by
 unfold PG;by_cases hi:i<s.length
 ·rw [QG hi,List.takeWhile_cons,if_neg (by simp [h hi])];rfl
 ·rw [drop_eq_nil_of_le (by omega)];rfl
theorem w8r (s:Str) (i:Nat) (hi:i<=s.length):SpecP Tryz.prog 244 [.str s,.int .i64 i] (fun r=>r = .int .i64 (PG s i)):=by
 refine sB z5a Tryz.func244 rfl Tryz.call244 ?_;conv=>whnf
 refine LoopK.inv QV (fun j:Nat=>⟨[(0,.p (.str s)),(1,.p (.int .i64 j))],[]⟩) (fun j=>j<=s.length∧PG s j=PG s i) (fun j=>s.length-j) i (Le.of_eq rfl) ⟨hi,rfl⟩ ?_;rintro j ⟨h2,h3⟩;conv=>whnf
 repeat' (first|((first|(refine iM fun _=>?_)|refine cP (q8y _) ?_|refine cP (w0e _) ?_|(refine ByteK.at (by omega) ?_)|refine wI ?_);conv=>whnf)|(apply bD<;>intro _<;>first|omega|conv=>whnf)|(apply bB<;>intro _<;>conv=>whnf))
 ·exact ⟨j+1,⟨by omega,by rw [q6m (by omega) (by simp_all [w9i])];exact h3⟩,by omega,Le.of_eq rfl⟩
 ·exact ⟨j+1,⟨by omega,by rw [q6m (by omega) (by simp_all [w9i])];exact h3⟩,by omega,Le.of_eq rfl⟩
 ·exact RetK.int (by rw [<- h3,x5c fun _=>by simp_all [w9i]])
 ·exact RetK.int (by rw [<- h3,x5c fun _=>by omega])
def x9f (s:Str):Bool:=decide (s=[103,108,111,98,97,108])||decide (s=[112,114,111,99])||decide (s=[118,97,114])||decide (s=[114,101,102])||decide (s=[105,102])||decide (s=[101,108,115,101])||decide (s=[119,104,105,108,101])||decide (s=[98,114,101,97,107])||decide (s=[99,111,110,116,105,110,117,101])||decide (s=[114,101,116,117,114,110])||decide (s=[103,111,116,111])||decide (s=[114,101,97,100])||decide (s=[112,114,105,110,116])
theorem w4g (s:Str):SpecP Tryz.prog 245 [.str s] (fun r=>r = .bool (x9f s)):=by
 refine sB z3z Tryz.func245 rfl Tryz.call245 ?_;conv=>whnf
 repeat' (apply bB<;>intro _<;>conv=>whnf)
 all_goals first
  | exact RetK.tt (by simp_all [x9f])
  | exact RetK.ff (by simp_all [x9f])
def isName (s:Str):Bool:=if h:1<=s.length∧s.length<=8 then PM (s[0]'(by omega))&&decide (PG s 0=s.length) && !x9f s else false
theorem NB (s:Str):SpecP Tryz.prog 174 [.str s] (fun r=>r = .bool (isName s)):=by
 refine sB z4s Tryz.func174 rfl Tryz.call174 ?_;conv=>whnf
 repeat' (first|((first|(refine iM fun _=>?_)|refine cP (q8y _) ?_|refine cP (w8r _ 0 (zero_le _)) ?_|refine cP (w4g _) ?_|(refine ByteK.at (k:=0) (by omega) ?_));conv=>whnf)|(apply bD<;>intro _<;>first|omega|conv=>whnf)|(apply bN<;>intro _<;>conv=>whnf))
 ·exact RetK.ff (by unfold isName;rw [dif_neg (by omega)])
 ·exact RetK.ff (by unfold isName;rw [dif_neg (by omega)])
 ·exact RetK.bool (by unfold isName;rw [dif_pos (by omega)];simp_all;omega)
 ·exact RetK.ff (by unfold isName;rw [dif_pos (by omega)];simp_all;omega)
 ·exact RetK.ff (by unfold isName;rw [dif_pos (by omega)];simp_all)
def namesB (l:List Str):Bool:=l.all isName
theorem MK (l:List Str):SpecP Tryz.prog 173 [QP l] (fun r=>r = .bool (namesB l)):=by
 refine sB x5d Tryz.func173 rfl Tryz.call173 ?_;conv=>whnf
 refine iM fun _=>?_;conv=>whnf
 refine LoopK.inv QV (fun j:Nat=>⟨[(5,.p (QP l)),(6,.p (.int .i64 (l.map AV.str).length)),(7,.p (.int .i64 j))],[]⟩) (fun j=>j<=l.length∧(l.drop j).all isName=namesB l) (fun j=>l.length-j) 0 (Le.of_eq rfl) ⟨zero_le _,rfl⟩ ?_;rintro j ⟨h2,h3⟩;have hl:(l.map AV.str).length=l.length:=length_map _;conv=>whnf
 repeat' (first|((first|refine cP (NB _) ?_|(refine iA fun _=>?_)|refine wI ?_);conv=>whnf)|(apply bD<;>intro _<;>first|omega|conv=>whnf)|(apply bN<;>intro _<;>conv=>whnf))
 ·exact ⟨j+1,⟨by omega,by rw [q2a (by omega) (by assumption)];exact h3⟩,by omega,Le.of_eq rfl⟩
 ·exact RetK.ff (by rw [<- h3,q8j (by omega) (by assumption)])
 ·exact RetK.tt (by rw [<- h3,q2e (by omega)])
def q1c (op:Int):Int:=if op=1∨op=2 then 0 else if op=3∨op=4 then 1 else if 5<=op∧op<=17 then 2 else -1
theorem z9i (op:Int):SpecP Tryz.prog 346 [.int .i64 op] (fun r=>r = .int .i64 (q1c op)):=by
 refine sB x8v Tryz.func346 rfl Tryz.call346 ?_;conv=>whnf
 repeat' (apply bD<;>intro _<;>first|omega|conv=>whnf)
 all_goals exact RetK.int (by unfold q1c;(repeat' split)<;>omega)
def ZE:Nat->X->Bool
 | 0,_=>false
 | n+1,x=>decide ((x.kids.length:Int)=q1c x.op)&&(if x.op=1 then decide (0<=x.n)&&(x.name==[]) else if x.op=2 then decide (x.n=0)&&isName x.name else decide (x.n=0)&&(x.name==[])&&x.kids.all (ZE n))
theorem z9w : ∀ (n:Nat) (_:n<=1000) (x:X),SpecP Tryz.prog 320 [.agg x.cells,.int .i64 n] (fun r=>r = .bool (ZE n x)):=by
 intro n;induction n with
 | zero =>
   intro _ x;refine sB q4f Tryz.func320 rfl Tryz.call320 ?_;conv=>whnf
   repeat' (first|(refine dA ?_;conv=>whnf)|(apply bD<;>intro _<;>first|omega|conv=>whnf))
   exact RetK.ff rfl
 | succ n ih =>
   intro hn x;refine sB q4f Tryz.func320 rfl Tryz.call320 ?_;conv=>whnf
   repeat' (first|((first|(refine iM fun _=>?_)|refine cP (z9i _) ?_|refine cP (NB _) ?_|refine dA ?_);conv=>whnf)|(apply bD<;>intro _<;>first|omega|conv=>whnf)|(apply bE<;>intro _<;>first|omega|conv=>whnf)|(apply bN<;>intro _<;>conv=>whnf))
   all_goals try (have hk:((X.avs x.kids).length:Int)=x.kids.length:=by rw [X.avs_len])
   ·exact RetK.bool (by simp_all [ZE])
   ·exact RetK.ff (by simp_all [ZE];try omega)
   ·exact RetK.bool (by simp_all [ZE])
   ·exact RetK.ff (by simp_all [ZE];try omega)
   ·have h0:ZE (n+1) x=x.kids.all (ZE n):=by simp_all [ZE]
    rw [h0];refine LoopK.inv QV (fun j:Nat=>⟨[(1,.p (.int .i64 (n+1:Nat))),(49,.p (.sl (X.avs x.kids))),(50,.p (.int .i64 (X.avs x.kids).length)),(51,.p (.int .i64 j))],[]⟩) (fun j=>j<=x.kids.length∧(x.kids.drop j).all (ZE n)=x.kids.all (ZE n)) (fun j=>x.kids.length-j) 0 (Le.of_eq rfl) ⟨zero_le _,rfl⟩ ?_;rintro j ⟨h2,h3⟩;conv=>whnf
    repeat' (first|((first|refine And.intro rfl ?_|refine IdxK.xs (by omega) ?_|refine wI ?_|(refine CallK.pure (ih (by omega) _) (.cons (Sub.refl _) (.cons (Sub.int (by omega)) .nil)) ?_;rintro _ rfl));conv=>whnf)|(apply bD<;>intro _<;>first|omega|conv=>whnf)|(apply bN<;>intro _<;>conv=>whnf))
    ·exact ⟨j+1,⟨by omega,by rw [q2a (by omega) (by assumption)];exact h3⟩,by omega,Le.of_eq rfl⟩
    ·exact RetK.ff (by rw [<- h3,q8j (by omega) (by assumption)])
    ·exact RetK.tt (by rw [<- h3,q2e (by omega)])
   ·exact RetK.ff (by simp_all [ZE];try omega)
   ·exact RetK.ff (by simp_all [ZE];try omega)
   ·exact RetK.ff (by simp_all [ZE];try omega)
def w1h (x:X):Bool:=ZE 20 x
theorem FZ (x:X):SpecP Tryz.prog 261 [.agg x.cells] (fun r=>r = .bool (w1h x)):=by
 refine sB q6y Tryz.func261 rfl Tryz.call261 ?_;conv=>whnf
 repeat' (refine cP (z9w 20 (by omega) _) ?_;conv=>whnf)
 exact RetK.p rfl
def noneB (x:X):Bool:=decide (x.op=0)&&decide (x.n=0)&&(x.name==[])&&((x.kids.length:Int)==0)
theorem z6g (x:X):SpecP Tryz.prog 339 [.agg x.cells] (fun r=>r = .bool (noneB x)):=by
 refine sB x6o Tryz.func339 rfl Tryz.call339 ?_;conv=>whnf
 repeat' (first|(refine iM fun _=>?_;conv=>whnf)|(apply bD<;>intro _<;>first|omega|conv=>whnf)|(apply bB<;>intro _<;>conv=>whnf))
 all_goals have hk:((X.avs x.kids).length:Int)=x.kids.length:=by rw [X.avs_len]
 all_goals first
  | exact RetK.ff (by simp_all [noneB])
  | exact RetK.bool (by simp_all [noneB])
def GY (s:Str) (is:Bool):Bool:=bif is then isName s else s==[]
theorem q7i (s:Str) (is:Bool):SpecP Tryz.prog 309 [.str s,.bool is] (fun r=>r = .bool (GY s is)):=by
 refine sB x4z Tryz.func309 rfl Tryz.call309 ?_;conv=>whnf
 repeat' (first|(refine cP (NB _) ?_;conv=>whnf)|(apply bN<;>intro _<;>conv=>whnf)|(apply bB<;>intro _<;>conv=>whnf))
 all_goals first
  | exact RetK.tt (by simp_all [GY])
  | exact RetK.ff (by simp_all [GY])
  | exact RetK.bool (by simp_all [GY])
def DM (x:X) (is:Bool):Bool:=bif is then w1h x else noneB x
theorem q6i (x:X) (is:Bool):SpecP Tryz.prog 310 [.agg x.cells,.bool is] (fun r=>r = .bool (DM x is)):=by
 refine sB x5v Tryz.func310 rfl Tryz.call310 ?_;conv=>whnf
 repeat' (first|((first|refine cP (FZ _) ?_|refine cP (z6g _) ?_);conv=>whnf)|(apply bN<;>intro _<;>conv=>whnf)|(apply bB<;>intro _<;>conv=>whnf))
 all_goals first
  | exact RetK.tt (by simp_all [DM])
  | exact RetK.ff (by simp_all [DM])
  | exact RetK.bool (by simp_all [DM])
def q3q (a:Arg):Bool:=GY a.name a.ref&&DM a.x (!a.ref)
theorem x6d (l:List Arg):SpecP Tryz.prog 311 [w1x l] (fun r=>r = .bool (l.all q3q)):=by
 refine sB x0f Tryz.func311 rfl Tryz.call311 ?_;conv=>whnf
 refine iM fun _=>?_;conv=>whnf
 refine LoopK.inv QV (fun j:Nat=>⟨[(5,.p (w1x l)),(6,.p (.int .i64 (l.map fun a=>AV.agg a.cells).length)),(7,.p (.int .i64 j))],[]⟩) (fun j=>j<=l.length∧(l.drop j).all q3q=l.all q3q) (fun j=>l.length-j) 0 (Le.of_eq rfl) ⟨zero_le _,rfl⟩ ?_;rintro j ⟨h2,h3⟩;have hl:(l.map fun a=>AV.agg a.cells).length=l.length:=length_map _;conv=>whnf
 repeat' (first|((first|refine cP (q7i _ _) ?_|refine cP (q6i _ _) ?_|refine And.intro rfl ?_|(refine iA fun _=>?_)|refine wI ?_);conv=>whnf)|(apply bD<;>intro _<;>first|omega|conv=>whnf)|(apply bN<;>intro _<;>conv=>whnf))
 ·exact ⟨j+1,⟨by omega,by rw [q2a (by omega) (by simp_all [q3q])];exact h3⟩,by omega,Le.of_eq rfl⟩
 ·exact RetK.ff (by rw [<- h3,q8j (by omega) (by simp_all [q3q])])
 ·exact RetK.ff (by rw [<- h3,q8j (by omega) (by simp_all [q3q])])
 ·exact RetK.tt (by rw [<- h3,q2e (by omega)])
structure Flds where
 name:Bool
 proc:Bool
 x:Bool
 has:Bool
 thn:Bool
 els:Bool
def q0e (k:Int) (has:Bool) (noName:Bool):Option Flds :=
 if k=1 then some ⟨true,false,true,has,false,false⟩
 else if k=2 then some ⟨true,false,false,has,false,false⟩
 else if k=10 then some ⟨true,false,false,has,false,false⟩
 else if k=3 then some ⟨false,false,true,has,false,false⟩
 else if k=4 then some ⟨!noName,true,false,has,false,false⟩
 else if k=5 then some ⟨false,false,true,has,true,true⟩
 else if k=6 then some ⟨false,false,true,has,true,false⟩
 else if k=9 then some ⟨false,false,has,false,false,false⟩
 else if k=7 then some ⟨false,false,false,has,false,false⟩
 else if k=8 then some ⟨false,false,false,has,false,false⟩
 else none
def ZH (s:S):Bool :=
 match q0e s.kind s.has (s.name==[]) with
 | none=>false
 | some f => !(f.has||(!f.thn&&decide (0<s.thn.length))||(!f.els&&decide (0<s.els.length))||(!decide (s.kind=4)&&decide (0<s.args.length)))&&GY s.name f.name&&GY s.proc f.proc&&DM s.x f.x&&s.args.all q3q
theorem z3c {s:S} {f:Flds} (h:q0e s.kind s.has (s.name==[])=some f):ZH s=(!(f.has||(!f.thn&&decide (0<s.thn.length))||(!f.els&&decide (0<s.els.length))||(!decide (s.kind=4)&&decide (0<s.args.length)))&&GY s.name f.name&&GY s.proc f.proc&&DM s.x f.x&&s.args.all q3q):=by
 unfold ZH;rw [h]
theorem x6i (s:S):SpecP Tryz.prog 246 [.agg s.cells] (fun r=>r = .bool (ZH s)):=by
 refine sB x0s Tryz.func246 rfl Tryz.call246 ?_;conv=>whnf
 repeat' (first|((first|(refine iM fun _=>?_)|refine cP (q7i _ _) ?_|refine cP (q6i _ _) ?_|refine cP (x6d _) ?_|refine dA ?_);conv=>whnf)|(apply bD<;>intro _<;>first|omega|conv=>whnf)|(apply bE<;>intro _<;>first|omega|conv=>whnf)|(apply bN<;>intro _<;>conv=>whnf)|(apply bB<;>intro _<;>conv=>whnf))
 all_goals first
  | exact RetK.ff (by simp_all [ZH,q0e,S.avs_len])
  | exact RetK.bool (by simp_all [ZH,q0e,S.avs_len])
  | exact RetK.ff (by simp_all [ZH,q0e,S.avs_len];omega)
mutual
def x0m (nest seen:Int):S->Option Int
 | .mk id kind labels name proc x has args thn els =>
   if seen+1>200 then none else if id≠seen+1 then none else
   bif namesB labels then bif ZH (.mk id kind labels name proc x has args thn els) then
    match VH (nest+1) (seen+1) thn with
    | some m=>VH (nest+1) m els
    | none=>none
   else none else none
def VH (nest seen:Int):List S->Option Int
 | []=>some seen
 | s::r=>if nest>12 then none else match x0m nest seen s with
   | some m=>VH nest m r
   | none=>none
end
theorem x7q (nest seen:Int) (s:S):x0m nest seen s=if seen+1>200 then none else if s.id≠seen+1 then none else
  bif namesB s.labels then bif ZH s then
   match VH (nest+1) (seen+1) s.thn with
   | some m=>VH (nest+1) m s.els
   | none=>none
  else none else none:=by
 cases s;rw [x0m];rfl
mutual
theorem w9n (nest seen:Int) : ∀ (s:S) {m:Int},x0m nest seen s=some m->seen<m∧m<=200
 | .mk id kind labels name proc x has args thn els,m,h=>by
   simp only [x0m] at h;split at h
   ·cases h
   split at h
   ·cases h
   cases hn:namesB labels<;>rw [hn] at h
   ·cases h
   cases hf:ZH (.mk id kind labels name proc x has args thn els)<;>rw [hf] at h
   ·cases h
   simp only [cond_true] at h;split at h
   ·rename_i m1 h1;have h2:=q5j (nest+1) (seen+1) thn (by omega) h1;have h3:=q5j (nest+1) m1 els h2.2 h;omega
   ·cases h
theorem q5j (nest seen:Int) : ∀ (l:List S) {m:Int},seen<=200->VH nest seen l=some m->seen<=m∧m<=200
 | [],m,h0,h=>by
   simp only [VH] at h;cases h;omega
 | s::r,m,h0,h=>by
   simp only [VH] at h;split at h
   ·cases h
   split at h
   ·rename_i m1 h1;have h2:=w9n nest seen s h1;have h3:=q5j nest m1 r h2.2 h;omega
   ·cases h
end
def x8m (T:Nat) (nest seen:Int) (l:List S) (r:LV) (H:Heap):Prop :=
 match VH nest seen l with
 | some m=>r = .p .tt∧H=[(1000,.obj T [.p (.int .i64 m)])]
 | none=>r = .p .ff ∧ ∃ m,H=[(1000,.obj T [.p (.int .i64 m)])]
theorem q6o {T:Nat} {nest seen m:Int} {l:List S} (h:VH nest seen l=some m):RetHK [(1000,.obj T [.p (.int .i64 m)])] (.p .tt) (x8m T nest seen l) :=
 ⟨.p .tt,.refl _,by unfold x8m;rw [h];exact ⟨rfl,rfl⟩⟩
theorem LI {T:Nat} {nest seen m:Int} {l:List S} (h:VH nest seen l=none):RetHK [(1000,.obj T [.p (.int .i64 m)])] (.p .ff) (x8m T nest seen l) :=
 ⟨.p .ff,.refl _,by unfold x8m;rw [h];exact ⟨rfl,_,rfl⟩⟩
theorem q2o {T:Nat} {nest seen:Int} {l:List S} {Q:LV->Heap->Prop} (hs:seen<=200) (h1 : ∀ m,VH nest seen l=some m->seen<=m->m<=200->Q (.p .tt) [(1000,.obj T [.p (.int .i64 m)])])
  (h2:VH nest seen l=none -> ∀ m,Q (.p .ff) [(1000,.obj T [.p (.int .i64 m)])]) : ∀ l' H',x8m T nest seen l l' H'->Q l' H':=by
 intro l' H' h;unfold x8m at h;cases hr:VH nest seen l with
 | some m =>
   rw [hr] at h;obtain ⟨rfl,rfl⟩:=h;have:=q5j nest seen l hs hr;exact h1 m hr this.1 this.2
 | none =>
   rw [hr] at h;obtain ⟨rfl,m,rfl⟩:=h;exact h2 hr m
theorem x3k {nest seen:Int} {l:List S} (h:nest>12) (hl:0<l.length):VH nest seen l=none:=by
 cases l with
 | nil=>cases hl
 | cons s r=>simp only [VH];rw [if_pos h]
theorem w0r {nest seen:Int} {l:List S} {j:Nat} (h : ¬nest>12) (hj:j<l.length):VH nest seen (l.drop j)=match x0m nest seen l[j] with
  | some m=>VH nest m (l.drop (j+1))
  | none=>none:=by
 rw [QG hj,VH,if_neg h]
theorem z8d : ∀ (d n:Nat) (_:n+d=14) (l:List S) (seen:Int) (_:0<=seen) (_:seen<=200),
  SpecH Tryz.prog 175 [.ptr 1000 0,.p (eSs l),.p (.int .i64 n)] [(1000,.obj 215 [.p (.int .i64 seen)])] (x8m 215 n seen l):=by
 intro d;induction d with
 | zero =>
   intro n hn l seen h0 h1;refine sH YD Tryz.func175 rfl Tryz.call175 ?_;conv=>whnf
   repeat' (first|(refine iM fun _=>?_;conv=>whnf)|(apply bD<;>intro _<;>first|omega|conv=>whnf))
   ·exact LI (x3k (by omega) (by rw [S.avs_len] at *;omega))
   ·have hl:=S.avs_len l;obtain rfl:l=[]:=List.eq_nil_of_length_eq_zero (by omega);refine LoopK.inv QV (fun _:Unit=>⟨[(0,.ptr 1000 0),(2,.p (.int .i64 n)),(16,.p (eSs [])),(17,.p (.int .i64 (S.avs []).length)),(18,.p (.int .i64 0))],[(1000,.obj 215 [.p (.int .i64 seen)])]⟩) (fun _=>True) (fun _=>0) () (Le.of_eq rfl) trivial ?_;intro _ _;conv=>whnf
    repeat' (apply bD<;>intro _<;>first|omega|conv=>whnf)
    exact q6o rfl
 | succ d ih =>
   intro n hn l seen h0 h1;refine sH YD Tryz.func175 rfl Tryz.call175 ?_;have hl:=S.avs_len l;conv=>whnf
   repeat' (first|(refine iM fun _=>?_;conv=>whnf)|(apply bD<;>intro _<;>first|omega|conv=>whnf))
   ·exact LI (x3k (by omega) (by omega))
   all_goals
    refine LoopK.inv QV (fun i:Nat×Int=>⟨[(0,.ptr 1000 0),(2,.p (.int .i64 n)),(16,.p (eSs l)),(17,.p (.int .i64 (S.avs l).length)),(18,.p (.int .i64 i.1))],[(1000,.obj 215 [.p (.int .i64 i.2)])]⟩) (fun i=>i.1<=l.length∧0<=i.2∧i.2<=200∧VH n i.2 (l.drop i.1)=VH n seen l) (fun i=>l.length-i.1) (0,seen) (Le.of_eq rfl) ⟨zero_le _,h0,h1,rfl⟩ ?_;rintro ⟨j,m⟩ ⟨h2,h3,h4,h5⟩;simp only at h2 h3 h4 h5 ⊢;conv=>whnf
    repeat' (first|((first|refine cP (MK _) ?_|refine cP (x6i _) ?_|refine dA ?_|refine And.intro rfl ?_|refine QB (by omega) ?_|refine wI ?_);conv=>whnf)|(apply bD<;>intro _<;>first|omega|conv=>whnf)|(apply bE<;>intro _<;>first|omega|conv=>whnf)|(apply bN<;>intro _<;>conv=>whnf)|(refine CallK.heap [(1000,1000)] 0 (by repeat' (first|exact ArgsH.nil|refine ArgsH.cons ?_ ?_|exact LSub.refl _|exact LSub.p Sub.nils|exact LSub.p (Sub.tt rfl)|exact LSub.p (Sub.ff rfl)|exact LSub.p (Sub.int (by omega)))) (by refine BlksH.cons (j:=1000) rfl rfl ?_ ?_;exact CSub.refl _;exact BlksH.nil) (ih (n+1) (by omega) _ _ (by omega) (by omega)) rfl rfl (q2o (by omega) (fun _ _ _ _ => ?_) (fun _ _ => ?_))<;>conv=>whnf))
    all_goals try (have hst:=w0r (seen:=m) (l:=l) (j:=j) (nest:=(n:Int)) (by omega) (by omega);rw [x7q,show (n:Int)+1=((n+1:Nat):Int) from rfl] at hst)
    all_goals first
     | exact q6o (by rw [<- h5,drop_eq_nil_of_le (by omega)];simp only [VH])
     | exact LI (by rw [<- h5,hst];clear h5 hst;first|rw [if_pos (by omega:m+1>200)]|(rw [if_neg (by omega : ¬m+1>200)];simp [*,-Int.natCast_add]))
     | exact ⟨(j+1,_),⟨by simp only;omega,by simp only;omega,by simp only;omega,by rw [<- h5,hst];clear h5 hst;first|rw [if_pos (by omega:m+1>200)]|(rw [if_neg (by omega : ¬m+1>200)];simp [*,-Int.natCast_add])⟩,by simp only;omega,Le.of_eq rfl⟩
def HA (f:Pr):Bool:=decide (f.params.length<=8)&&decide (f.vars.length<=16)&&isName f.name&&namesB f.vars&&namesB f.fin&&f.params.all fun a=>isName a.name
def XP (seen:Int):List Pr->Option Int
 | []=>some seen
 | f::r=>bif HA f then match VH 1 seen f.body with
    | some m=>XP m r
    | none=>none
   else none
def KG (p:Pg):Bool:=decide (p.globals.length<=16)&&decide (p.procs.length<=16)&&namesB p.globals&&(XP 0 p.procs).isSome
theorem q4i {seen:Int} {l:List Pr} {j:Nat} (hj:j<l.length):XP seen (l.drop j)=bif HA l[j] then match VH 1 seen l[j].body with
   | some m=>XP m (l.drop (j+1))
   | none=>none
  else none:=by
 rw [QG hj,XP]
theorem UA {f:Pr}:HA f=true↔f.params.length<=8∧f.vars.length<=16∧isName f.name=true∧namesB f.vars=true∧namesB f.fin=true∧(f.params.all fun a=>isName a.name)=true:=by
 simp only [HA,Bool.and_eq_true,decide_eq_true_eq,and_assoc]
theorem q5w {seen:Int} {l:List Pr} {j:Nat} (hj:j<l.length) (h : ¬(l[j].params.length<=8∧l[j].vars.length<=16∧isName l[j].name=true∧namesB l[j].vars=true∧namesB l[j].fin=true∧(l[j].params.all fun a=>isName a.name)=true)):(XP seen (l.drop j)).isSome=false:=by
 rw [q4i hj];have:HA l[j]=false:=by rw [Bool.eq_false_iff];intro hm;exact h (UA.1 hm)
 rw [this];rfl
theorem x1x (p:Pg):SpecP Tryz.prog 106 [.agg p.cells] (fun r=>r = .bool (KG p)):=by
 refine sB z4i Tryz.func106 rfl Tryz.call106 ?_;conv=>whnf
 repeat' (first|((first|(refine iM fun _=>?_)|refine cP (MK _) ?_|refine And.intro rfl ?_);conv=>whnf)|(apply bD<;>intro _<;>first|omega|conv=>whnf)|(apply bN<;>intro _<;>conv=>whnf))
 all_goals try have hl1:(p.globals.map AV.str).length=p.globals.length:=length_map _
 all_goals try have hl2:(p.procs.map fun f=>AV.agg f.cells).length=p.procs.length:=length_map _
 ·exact RetK.ff (by unfold KG;simp;omega)
 ·exact RetK.ff (by unfold KG;simp;omega)
 ·have h0:KG p=(XP 0 p.procs).isSome:=by unfold KG;simp [*];omega
  rw [h0];refine LoopK.inv QV (fun i:Nat×Int=>⟨[(3,.ptr 0 0),(27,.p (.sl (p.procs.map fun f=>AV.agg f.cells))),(28,.p (.int .i64 (p.procs.map fun f=>AV.agg f.cells).length)),(29,.p (.int .i64 i.1))],[(0,.obj 215 [.p (.int .i64 i.2)])]⟩) (fun i=>i.1<=p.procs.length∧0<=i.2∧i.2<=200∧XP i.2 (p.procs.drop i.1)=XP 0 p.procs) (fun i=>p.procs.length-i.1) (0,0) (Le.of_eq rfl) ⟨zero_le _,by decide,by decide,rfl⟩ ?_;rintro ⟨j,m⟩ ⟨h2,h3,h4,h5⟩;simp only at h2 h3 h4 h5 ⊢;conv=>whnf
  repeat' (first|((first|(refine iM fun _=>?_)|refine cP (MK _) ?_|refine cP (NB _) ?_|refine And.intro rfl ?_|(refine iA fun _=>?_));conv=>whnf)|(apply bD<;>intro _<;>first|omega|conv=>whnf)|(apply bN<;>intro _<;>conv=>whnf))
  all_goals try have hl3:((p.procs[j]'(by omega)).params.map fun a=>AV.agg a.cells).length=(p.procs[j]'(by omega)).params.length:=length_map _
  all_goals try have hl4:((p.procs[j]'(by omega)).vars.map AV.str).length=(p.procs[j]'(by omega)).vars.length:=length_map _
  rotate_left 2
  ·have hj:j<p.procs.length:=by omega
   refine LoopK.inv QV (fun i:Nat=>⟨[(3,.ptr 0 0),(5,.p (.ip p.procs[j].cells)),(27,.p (.sl (p.procs.map fun f=>AV.agg f.cells))),(28,.p (.int .i64 (p.procs.map fun f=>AV.agg f.cells).length)),(29,.p (.int .i64 j)),(62,.p (.sl (p.procs[j].params.map fun a=>AV.agg a.cells))),(63,.p (.int .i64 (p.procs[j].params.map fun a=>AV.agg a.cells).length)),(64,.p (.int .i64 i))],[(0,.obj 215 [.p (.int .i64 m)])]⟩) (fun i=>i<=p.procs[j].params.length∧((p.procs[j].params.drop i).all fun a=>isName a.name)=p.procs[j].params.all fun a=>isName a.name) (fun i=>p.procs[j].params.length-i) 0 (Le.of_eq rfl) ⟨zero_le _,rfl⟩ ?_;rintro i ⟨h6,h7⟩;conv=>whnf
   repeat' (first|((first|refine cP (NB _) ?_|refine And.intro rfl ?_|(refine iA fun _=>?_)|refine wI ?_);conv=>whnf)|(apply bD<;>intro _<;>first|omega|conv=>whnf)|(apply bN<;>intro _<;>conv=>whnf)|(refine CallK.heap [(1000,0)] 0 (by repeat' (first|exact ArgsH.nil|refine ArgsH.cons ?_ ?_|exact LSub.refl _|exact LSub.p Sub.nils|exact LSub.p (Sub.tt rfl)|exact LSub.p (Sub.ff rfl)|exact LSub.p (Sub.int (by omega)))) (by refine BlksH.cons (j:=0) rfl rfl ?_ ?_;exact CSub.refl _;exact BlksH.nil) (z8d 13 1 rfl _ _ (by omega) (by omega)) rfl rfl (q2o (by omega) (fun _ _ _ _ => ?_) (fun _ _ => ?_))<;>conv=>whnf))
   ·exact ⟨i+1,⟨by omega,by rw [<- h7,q2a (p:=fun a:Param=>isName a.name) (by omega) (by assumption)]⟩,by omega,Le.of_eq rfl⟩
   ·exact RetK.ff (by
     rw [<- h5];refine q5w hj fun h => ?_;have:=q8j (p:=fun a:Param=>isName a.name) (l:=p.procs[j].params) (j:=i) (by omega) (by assumption);rw [h7,h.2.2.2.2.2] at this;cases this)
   all_goals
    have hall:(p.procs[j].params.all fun a=>isName a.name)=true:=by rw [<- h7,q2e (by omega)]
    have hp:HA p.procs[j]=true:=UA.2 ⟨by omega,by omega,by assumption,by assumption,by assumption,hall⟩;have hst:=q4i (seen:=m) hj;rw [hp,cond_true] at hst
   ·rename_i m2 hrow _ _;replace hrow:VH 1 m p.procs[j].body=some m2:=hrow;rw [hrow] at hst;exact ⟨(j+1,m2),⟨by simp only;omega,by simp only;omega,by simp only;omega,by rw [<- h5,hst]⟩,by simp only;omega,Le.of_eq rfl⟩
   ·rename_i hrow _;replace hrow:VH 1 m p.procs[j].body=none:=hrow;rw [hrow] at hst;exact RetK.ff (by rw [<- h5,hst];rfl)
  all_goals first
   | exact RetK.tt (by rw [<- h5,drop_eq_nil_of_le (by omega)];rfl)
   | exact RetK.ff (by rw [<- h5];exact q5w (by omega) fun h=>by omega)
   | exact RetK.ff (by rw [<- h5];exact q5w (by omega) fun h=>by simp_all)
 ·exact RetK.ff (by unfold KG;simp [*])
theorem XX (l:List Str) (v:Str):SpecP Tryz.prog 190 [QP l,.str v] (fun r=>r = .int .i64 (idxF (fun s=>v==s) l)):=by
 refine sB UK Tryz.func190 rfl Tryz.call190 ?_;conv=>whnf
 refine iM fun _=>?_;have hl:(l.map AV.str).length=l.length:=length_map _;conv=>whnf
 refine LoopK.inv QV (fun j:Nat=>⟨[(0,.p (QP l)),(1,.p (.str v)),(7,.p (.int .i64 (l.map AV.str).length)),(8,.p (.int .i64 j))],[]⟩) (fun j=>j<=l.length∧(l.drop j).any (fun s=>v==s)=l.any (fun s=>v==s)∧l.findIdx (fun s=>v==s)=j+(l.drop j).findIdx (fun s=>v==s)) (fun j=>l.length-j) 0 (Le.of_eq rfl) ⟨zero_le _,rfl,by simp⟩ ?_;rintro j ⟨h2,h3,h4⟩;conv=>whnf
 repeat' (first|((first|(refine iA fun _=>?_)|refine wI ?_);conv=>whnf)|(apply bD<;>intro _<;>first|omega|conv=>whnf)|(apply bB<;>intro _<;>conv=>whnf))
 ·exact RetK.int (q2h (p:=fun s=>v==s) (by omega) (by assumption) h3 h4).symm
 ·exact ⟨j+1,⟨by omega,by rw [<- h3,q8s (p:=fun s=>v==s) (by omega) (by assumption)],by rw [h4,w1o (p:=fun s=>v==s) (by omega) (by assumption)];omega⟩,by omega,Le.of_eq rfl⟩
 ·exact RetK.int (by rw [q9y];rw [<- h3,MS (by omega)])
theorem QX (l:List Str) (v:Str):SpecP Tryz.prog 147 [QP l,.str v] (fun r=>r = .bool (l.any fun s=>v==s)):=by
 refine sB VJ Tryz.func147 rfl Tryz.call147 ?_;conv=>whnf
 repeat' (refine cP (XX _ _) ?_;conv=>whnf)
 exact RetK.bool MY
def ZW (l:List Str):Bool:=(List.range l.length).any fun i=>(l.take i).any fun s=>l[i]?.getD []==s
theorem PW (l:List Str):SpecP Tryz.prog 191 [QP l] (fun r=>r = .bool (ZW l)):=by
 refine sB x1l Tryz.func191 rfl Tryz.call191 ?_;conv=>whnf
 refine iM fun _=>?_;have hl:(l.map AV.str).length=l.length:=length_map _;conv=>whnf
 refine LoopK.inv QV (fun j:Nat=>⟨[(0,.p (QP l)),(5,.p (QP l)),(6,.p (.int .i64 (l.map AV.str).length)),(7,.p (.int .i64 j))],[]⟩) (fun j=>j<=l.length∧((List.range l.length).drop j).any (fun i=>(l.take i).any fun s=>l[i]?.getD []==s)=ZW l) (fun j=>l.length-j) 0 (Le.of_eq rfl) ⟨zero_le _,rfl⟩ ?_;rintro j ⟨h2,h3⟩;conv=>whnf
 repeat' (first|((first|(refine iA fun _=>?_)|refine wI ?_|refine And.intro (fun e he=>by obtain ⟨x,_,rfl⟩:=List.mem_map.1 he;rfl) (SlK.mk 0 j rfl rfl (by omega) (by omega) ?_)|(refine CallK.pure (QX (l.take j) (l[j]'(by omega))) (.cons (Sub.of_eq (by simp [QP,map_take])) (.cons (Sub.refl _) .nil)) ?_;rintro _ rfl));conv=>whnf)|(apply bD<;>intro _<;>first|omega|conv=>whnf)|(apply bB<;>intro _<;>conv=>whnf))
 all_goals try have hr:(List.range l.length)[j]'(by simp;omega)=j:=by simp
 all_goals try have e:l[j]?.getD []=l[j]'(by omega):=by rw [List.getElem?_eq_getElem (by omega)];rfl
 ·exact RetK.tt (by rw [<- h3,x6c (p:=fun i=>(l.take i).any fun s=>l[i]?.getD []==s) (by simp;omega) (by rw [hr,e];assumption)])
 ·exact ⟨j+1,⟨by omega,by rw [<- h3,q8s (p:=fun i=>(l.take i).any fun s=>l[i]?.getD []==s) (by simp;omega) (by rw [hr,e];assumption)]⟩,by omega,Le.of_eq rfl⟩
 ·exact RetK.ff (by rw [<- h3,MS (by simp;omega)])
def MJ (f:Pr):List Str:=f.params.map Param.name++f.vars
theorem x5q (f:Pr) (h1:f.params.length<=1000) (h2:f.vars.length<=1000):SpecP Tryz.prog 192 [.agg f.cells] (fun r=>r=QP (MJ f)):=by
 refine sB x8z Tryz.func192 rfl Tryz.call192 ?_;conv=>whnf
 refine iM fun _=>?_;have hl:(f.params.map fun a=>AV.agg a.cells).length=f.params.length:=length_map _;conv=>whnf
 refine LoopK.inv QV (fun j:Nat=>⟨[(1,.p (.ip f.cells)),(3,.hd 0 0 j),(7,.p (.sl (f.params.map fun a=>AV.agg a.cells))),(8,.p (.int .i64 (f.params.map fun a=>AV.agg a.cells).length)),(9,.p (.int .i64 j))],[(0,.own 9 1 ((f.params.take j).map fun a=>AV.str a.name))]⟩) (fun j=>j<=f.params.length) (fun j=>f.params.length-j) 0
  (Le.mk [(0,.own 9 1 [])] (by simp [Chunk.new0];rfl) (by simp) (by simp) (.cons (.refl _) (.cons (.nil mem_cons_self) (.cons (.refl _) (.cons (.refl _) (.cons (.refl _) .nil))))) (.new mem_cons_self .nil)) (zero_le _) ?_
 intro j h3;conv=>whnf
 repeat' (first|((first|refine And.intro rfl ?_|refine aD ?_|refine bP ?_|(refine iA fun _=>?_)|refine wI ?_|refine AppK.mk (by simp;omega) rfl (by show (j+1)*16<=140737488355328;omega) (by show j+1<=9223372036854775807;omega) (fun x hx=>by rcases List.mem_singleton.1 hx with rfl;exact ⟨rfl,rfl⟩) ?_|refine AppK.mk (by simp;omega) rfl (by rw [length_map];show (j+f.vars.length)*16<=140737488355328;omega) (by rw [length_map];show j+f.vars.length<=9223372036854775807;omega) (fun x hx=>by obtain ⟨y,_,rfl⟩:=List.mem_map.1 hx;exact ⟨rfl,rfl⟩) ?_);conv=>whnf)|(apply bD<;>intro _<;>first|omega|conv=>whnf))
 ·exact ⟨j+1,by omega,by omega,Le.of_eq (by rw [w3s (by omega)];rfl)⟩
 ·refine ⟨_,.hd rfl (by simp;omega),?_⟩;rw [List.take_of_length_le (by omega)];simp [QP,MJ]
mutual
def XB:S->Nat
 | .mk _ _ _ _ _ _ _ _ thn els=>1+cntL thn+cntL els
def cntL:List S->Nat
 | []=>0
 | s::r=>XB s+cntL r
end
theorem ZS (s:S):XB s=1+cntL s.thn+cntL s.els:=by
 cases s;rw [XB];rfl
theorem NP {l:List S} {j:Nat} (hj:j<l.length):cntL (l.drop j)=XB l[j]+cntL (l.drop (j+1)):=by
 rw [QG hj,cntL]
theorem z1d {l:List S} {j:Nat} (hj:l.length<=j):cntL (l.drop j)=0:=by
 rw [drop_eq_nil_of_le hj,cntL]
theorem z9z : ∀ (n:Nat) (_:n<=100000) (s:S) (_:XB s<=n),SpecP Tryz.prog 247 [.agg s.cells] (fun r=>r = .int .i64 (XB s)):=by
 intro n;induction n with
 | zero=>intro _ s h;rw [ZS] at h;omega
 | succ n ih =>
   intro hn s h;have hs:=ZS s;have hl1:=S.avs_len s.thn;have hl2:=S.avs_len s.els;refine sB x6g Tryz.func247 rfl Tryz.call247 ?_;conv=>whnf
   repeat' (refine iM fun _=>?_;conv=>whnf)
   refine LoopK.inv QV (fun i:Nat×Nat=>⟨[(1,.p (.ip s.cells)),(3,.p (.int .i64 i.2)),(9,.p (eSs s.thn)),(10,.p (.int .i64 (S.avs s.thn).length)),(11,.p (.int .i64 i.1))],[]⟩) (fun i=>i.1<=s.thn.length∧1<=i.2∧i.2+cntL (s.thn.drop i.1)=1+cntL s.thn) (fun i=>s.thn.length-i.1) (0,1) (Le.of_eq rfl) ⟨zero_le _,Nat.le_refl _,rfl⟩ ?_;rintro ⟨j,a⟩ ⟨h2,h4,h3⟩;simp only at h2 h3 h4 ⊢;have hst : ∀ hj:j<s.thn.length,cntL (s.thn.drop j)=XB s.thn[j]+cntL (s.thn.drop (j+1)):=fun hj=>NP hj;conv=>whnf
   repeat' (first|((first|(refine iM fun _=>?_)|refine And.intro rfl ?_|refine QB (by omega) ?_|refine wI ?_|(refine CallK.pure (ih (by omega) (s.thn[j]'(by omega)) (by have:=hst (by omega);omega)) (.cons (Sub.refl _) .nil) ?_;rintro _ rfl;have hst:=hst (by omega)));conv=>whnf)|(apply bD<;>intro _<;>first|omega|conv=>whnf))
   ·exact ⟨(j+1,a+XB s.thn[j]),⟨by simp only;omega,by simp only;omega,by simp only;omega⟩,by simp only;omega,Le.of_eq rfl⟩
   ·have ha:a=1+cntL s.thn:=by rw [z1d (by omega)] at h3;omega
    refine LoopK.inv QV (fun i:Nat×Nat=>⟨[(3,.p (.int .i64 i.2)),(21,.p (eSs s.els)),(22,.p (.int .i64 (S.avs s.els).length)),(23,.p (.int .i64 i.1))],[]⟩) (fun i=>i.1<=s.els.length∧1<=i.2∧i.2+cntL (s.els.drop i.1)=XB s) (fun i=>s.els.length-i.1) (0,a) (Le.of_eq rfl) ⟨zero_le _,h4,by simp only [List.drop_zero];omega⟩ ?_;rintro ⟨k,b⟩ ⟨h5,h6,h7⟩;simp only at h5 h6 h7 ⊢;have hst2 : ∀ hk:k<s.els.length,cntL (s.els.drop k)=XB s.els[k]+cntL (s.els.drop (k+1)):=fun hk=>NP hk;conv=>whnf
    repeat' (first|((first|refine And.intro rfl ?_|refine QB (by omega) ?_|refine wI ?_|(refine CallK.pure (ih (by omega) (s.els[k]'(by omega)) (by have:=hst2 (by omega);omega)) (.cons (Sub.refl _) .nil) ?_;rintro _ rfl;have hst2:=hst2 (by omega)));conv=>whnf)|(apply bD<;>intro _<;>first|omega|conv=>whnf))
    ·exact ⟨(k+1,b+XB s.els[k]),⟨by simp only;omega,by simp only;omega,by simp only;omega⟩,by simp only;omega,Le.of_eq rfl⟩
    ·exact RetK.int (by rw [z1d (by omega)] at h7;omega)
structure Item where
 s:S
 proc:Int
 up:Int
 next:Int
 loop:Int
def Item.cells (i:Item):List AV:=i.s.cells++[.int .i64 i.proc,.int .i64 i.up,.int .i64 i.next,.int .i64 i.loop]
mutual
def q2x (proc up nx loop:Int) (acc:List Item):S->List Item
 | .mk id kind labels name pr x has args thn els =>
   XG proc (acc.length+1) (if kind=6 then acc.length+1 else nx) (if kind=6 then acc.length+1 else loop)
    (XG proc (acc.length+1) (if kind=6 then acc.length+1 else nx) (if kind=6 then acc.length+1 else loop) (acc++[⟨.mk id kind labels name pr x has args thn els,proc,up,nx,loop⟩]) thn) els
def XG (proc up nx loop:Int) (acc:List Item):List S->List Item
 | []=>acc
 | t::r=>XG proc up nx loop (q2x proc up (if r.isEmpty then nx else acc.length+1+XB t) loop acc t) r
end
theorem HE (proc up nx loop:Int) (acc:List Item) (t:S):q2x proc up nx loop acc t=XG proc (acc.length+1) (if t.kind=6 then acc.length+1 else nx) (if t.kind=6 then acc.length+1 else loop)
   (XG proc (acc.length+1) (if t.kind=6 then acc.length+1 else nx) (if t.kind=6 then acc.length+1 else loop) (acc++[⟨t,proc,up,nx,loop⟩]) t.thn) t.els:=by
 cases t;rw [q2x];rfl
mutual
theorem XS (proc up nx loop:Int) (acc:List Item) : ∀ t:S,(q2x proc up nx loop acc t).length=acc.length+XB t
 | .mk id kind labels name pr x has args thn els=>by
   rw [q2x,XB,XY _ _ _ _ _ els,XY _ _ _ _ _ thn];simp;omega
theorem XY (proc up nx loop:Int) (acc:List Item) : ∀ l:List S,(XG proc up nx loop acc l).length=acc.length+cntL l
 | []=>by rw [XG,cntL];rfl
 | t::r=>by
   rw [XG,cntL,XY _ _ _ _ _ r,XS _ _ _ _ _ t];omega
end
theorem WT {proc up nx loop:Int} {acc:List Item} {l:List S} {j:Nat} (hj:j<l.length) :
  XG proc up nx loop acc (l.drop j)=XG proc up nx loop (q2x proc up (if j+1<l.length then acc.length+1+XB l[j] else nx) loop acc l[j]) (l.drop (j+1)):=by
 rw [QG hj,XG];congr 2;by_cases h:j+1<l.length
 ·rw [if_pos h,if_neg];simp only [List.isEmpty_iff];intro he;have:=congrArg List.length he;simp at this;omega
 ·rw [if_neg h,if_pos];rw [drop_eq_nil_of_le (by omega)];rfl
def w0o (tS tI tN:Nat) (gl pr:AV) (L:List Item) (lo hi:List Int):Heap :=
 [(1000,.obj tS [.p gl,.p pr,.hd 2000 0 L.length,.hd 2001 0 lo.length,.hd 2002 0 hi.length]),(2000,.own tI 17 (L.map fun i => .agg i.cells)),(2001,.own tN 1 (lo.map (.int .i64))),(2002,.own tN 1 (hi.map (.int .i64)))]
def X0:X := .mk 0 0 [] []
def S0:S := .mk 0 0 [] [] [] X0 false [] [] []
theorem LSub.agg {cs ds:List AV} (h:SubL cs ds):LSub (.p (.agg cs)) (.p (.agg ds)) := .p (Sub.agg h)
theorem z0v : ∀ (n:Nat) (_:n<=1000) (l:List S) (_:cntL l<n) (acc:List Item) (_:acc.length+cntL l<=1000) (a:Item) (gl pr:AV) (lo hi:List Int),
  SpecH Tryz.prog 176 [.ptr 1000 0,.p (eSs l),.p (.agg a.cells)] (w0o 154 151 3 gl pr acc lo hi)
   (fun r H=>r = .p (.tup [])∧H=w0o 154 151 3 gl pr (XG a.proc a.up a.next a.loop acc l) lo hi):=by
 intro n;induction n with
 | zero=>intro _ l h;omega
 | succ n ih =>
   intro hn l hl acc hacc a gl pr lo hi;have hl1:=S.avs_len l;refine sH q1p Tryz.func176 rfl Tryz.call176 ?_;conv=>whnf
   repeat' (refine iM fun _=>?_;conv=>whnf)
   refine LoopK.inv QV (fun i:Nat×List Item=>⟨[(0,.ptr 1000 0),(1,.p (eSs l)),(5,.p (.ip a.cells)),(11,.p (eSs l)),(12,.p (.int .i64 (S.avs l).length)),(13,.p (.int .i64 i.1))],w0o 154 151 3 gl pr i.2 lo hi⟩) (fun i=>i.1<=l.length∧acc.length<=i.2.length∧i.2.length+cntL (l.drop i.1)=acc.length+cntL l∧XG a.proc a.up a.next a.loop i.2 (l.drop i.1)=XG a.proc a.up a.next a.loop acc l) (fun i=>l.length-i.1) (0,acc) (Le.of_eq rfl) ⟨zero_le _,Nat.le_refl _,rfl,rfl⟩ ?_;rintro ⟨j,b⟩ ⟨h2,h5,h3,h4⟩;simp only at h2 h3 h4 h5 ⊢;have hst : ∀ hj:j<l.length,cntL (l.drop j)=XB l[j]+cntL (l.drop (j+1)):=fun hj=>NP hj;conv=>whnf
   repeat' (first|((first|(refine iM fun _=>?_)|refine dA ?_|refine And.intro rfl ?_|refine aD ?_|refine bP ?_|refine QB (by omega) ?_|refine wI ?_|(refine CallK.pure (z9z 1000 (by omega) (l[j]'(by omega)) (by have:=hst (by omega);omega)) (.cons (Sub.refl _) .nil) ?_;rintro _ rfl)|refine Wr.i64 (by have:=hst (by omega);omega) (by have:=hst (by omega);omega) ?_|refine AppK.mk (by simp) rfl (by show (b.length+1)*240<=140737488355328;have:=hst (by omega);omega) (by show b.length+1<=9223372036854775807;have:=hst (by omega);omega) (fun x hx=>by rcases List.mem_singleton.1 hx with rfl;exact ⟨rfl,rfl⟩) ?_);conv=>whnf)|(apply bD<;>intro _<;>first|omega|conv=>whnf)|(refine And.intro ?_ ?_<;>conv=>whnf))
   ·have hj:j<l.length:=by omega
    have hst:=hst hj;have hcs:=ZS l[j];refine CallK.heap [(1000,1000),(2000,2000),(2001,2001),(2002,2002)] 0 (by refine ArgsH.cons (LSub.refl _) (ArgsH.cons (LSub.refl _) (ArgsH.cons (LSub.agg ?_) ArgsH.nil));repeat' (first|exact SubL.nil|refine SubL.cons ?_ ?_|exact Sub.refl _|exact Sub.nils|exact Sub.ff rfl)) (by exact BlksH.cons (j:=1000) rfl rfl (CSub.of_eq (by rw [length_append];first|done|rfl)) (BlksH.cons (j:=2000) rfl rfl (CSub.of_eq (by rw [List.map_append];first|done|rfl)) (BlksH.cons (j:=2001) rfl rfl (CSub.refl _) (BlksH.cons (j:=2002) rfl rfl (CSub.refl _) BlksH.nil)))) (ih (by omega) l[j].thn (by omega) (b++[⟨l[j]'hj,a.proc,a.up,(b.length+1+XB (l[j]'hj):Int),a.loop⟩]) (by rw [length_append];simp only [length_singleton];omega) ⟨S0,a.proc,b.length+1,(b.length+1:Int),(b.length+1:Int)⟩ gl pr lo hi) rfl rfl ?_;rintro l' H' ⟨rfl,rfl⟩;conv=>whnf
    refine CallK.heap [(1000,1000),(2000,2000),(2001,2001),(2002,2002)] 0 (by refine ArgsH.cons (LSub.refl _) (ArgsH.cons (LSub.refl _) (ArgsH.cons (LSub.agg ?_) ArgsH.nil));repeat' (first|exact SubL.nil|refine SubL.cons ?_ ?_|exact Sub.refl _|exact Sub.nils|exact Sub.ff rfl)) (by exact BlksH.cons (j:=1000) rfl rfl (CSub.refl _) (BlksH.cons (j:=2000) rfl rfl (CSub.refl _) (BlksH.cons (j:=2001) rfl rfl (CSub.refl _) (BlksH.cons (j:=2002) rfl rfl (CSub.refl _) BlksH.nil)))) (ih (by omega) l[j].els (by omega) (XG a.proc (b.length+1) (b.length+1:Int) (b.length+1:Int) (b++[⟨l[j]'hj,a.proc,a.up,(b.length+1+XB (l[j]'hj):Int),a.loop⟩]) (l[j]'hj).thn) (by rw [XY,length_append];simp only [length_singleton];omega) ⟨S0,a.proc,b.length+1,(b.length+1:Int),(b.length+1:Int)⟩ gl pr lo hi) rfl rfl ?_;rintro l' H' ⟨rfl,rfl⟩;conv=>whnf
    refine wI ?_;conv=>whnf
    have hrow:q2x a.proc a.up (b.length+1+XB (l[j]'hj):Int) a.loop b l[j]=XG a.proc (b.length+1) (b.length+1:Int) (b.length+1:Int) (XG a.proc (b.length+1) (b.length+1:Int) (b.length+1:Int) (b++[⟨l[j]'hj,a.proc,a.up,(b.length+1+XB (l[j]'hj):Int),a.loop⟩]) (l[j]'hj).thn) l[j].els:=by
     rw [HE,if_pos (by assumption),if_pos (by assumption)]
    exact ⟨(j+1,q2x a.proc a.up (b.length+1+XB (l[j]'hj):Int) a.loop b l[j]),⟨by simp only;omega,by simp only;rw [XS];omega,by simp only;rw [XS];omega,by simp only;rw [<- h4,WT hj,if_pos (by omega)]⟩,by simp only;omega,Le.of_eq (by simp only;rw [hrow];rfl)⟩
   ·have hj:j<l.length:=by omega
    have hst:=hst hj;have hcs:=ZS l[j];refine CallK.heap [(1000,1000),(2000,2000),(2001,2001),(2002,2002)] 0 (by refine ArgsH.cons (LSub.refl _) (ArgsH.cons (LSub.refl _) (ArgsH.cons (LSub.agg ?_) ArgsH.nil));repeat' (first|exact SubL.nil|refine SubL.cons ?_ ?_|exact Sub.refl _|exact Sub.nils|exact Sub.ff rfl)) (by exact BlksH.cons (j:=1000) rfl rfl (CSub.of_eq (by rw [length_append];first|done|rfl)) (BlksH.cons (j:=2000) rfl rfl (CSub.of_eq (by rw [List.map_append];first|done|rfl)) (BlksH.cons (j:=2001) rfl rfl (CSub.refl _) (BlksH.cons (j:=2002) rfl rfl (CSub.refl _) BlksH.nil)))) (ih (by omega) l[j].thn (by omega) (b++[⟨l[j]'hj,a.proc,a.up,(b.length+1+XB (l[j]'hj):Int),a.loop⟩]) (by rw [length_append];simp only [length_singleton];omega) ⟨S0,a.proc,b.length+1,(b.length+1+XB (l[j]'hj):Int),a.loop⟩ gl pr lo hi) rfl rfl ?_;rintro l' H' ⟨rfl,rfl⟩;conv=>whnf
    refine CallK.heap [(1000,1000),(2000,2000),(2001,2001),(2002,2002)] 0 (by refine ArgsH.cons (LSub.refl _) (ArgsH.cons (LSub.refl _) (ArgsH.cons (LSub.agg ?_) ArgsH.nil));repeat' (first|exact SubL.nil|refine SubL.cons ?_ ?_|exact Sub.refl _|exact Sub.nils|exact Sub.ff rfl)) (by exact BlksH.cons (j:=1000) rfl rfl (CSub.refl _) (BlksH.cons (j:=2000) rfl rfl (CSub.refl _) (BlksH.cons (j:=2001) rfl rfl (CSub.refl _) (BlksH.cons (j:=2002) rfl rfl (CSub.refl _) BlksH.nil)))) (ih (by omega) l[j].els (by omega) (XG a.proc (b.length+1) (b.length+1+XB (l[j]'hj):Int) a.loop (b++[⟨l[j]'hj,a.proc,a.up,(b.length+1+XB (l[j]'hj):Int),a.loop⟩]) (l[j]'hj).thn) (by rw [XY,length_append];simp only [length_singleton];omega) ⟨S0,a.proc,b.length+1,(b.length+1+XB (l[j]'hj):Int),a.loop⟩ gl pr lo hi) rfl rfl ?_;rintro l' H' ⟨rfl,rfl⟩;conv=>whnf
    refine wI ?_;conv=>whnf
    have hrow:q2x a.proc a.up (b.length+1+XB (l[j]'hj):Int) a.loop b l[j]=XG a.proc (b.length+1) (b.length+1+XB (l[j]'hj):Int) a.loop (XG a.proc (b.length+1) (b.length+1+XB (l[j]'hj):Int) a.loop (b++[⟨l[j]'hj,a.proc,a.up,(b.length+1+XB (l[j]'hj):Int),a.loop⟩]) (l[j]'hj).thn) l[j].els:=by
     rw [HE,if_neg (by assumption),if_neg (by assumption)]
    exact ⟨(j+1,q2x a.proc a.up (b.length+1+XB (l[j]'hj):Int) a.loop b l[j]),⟨by simp only;omega,by simp only;rw [XS];omega,by simp only;rw [XS];omega,by simp only;rw [<- h4,WT hj,if_pos (by omega)]⟩,by simp only;omega,Le.of_eq (by simp only;rw [hrow];rfl)⟩
   ·have hj:j<l.length:=by omega
    have hst:=hst hj;have hcs:=ZS l[j];refine CallK.heap [(1000,1000),(2000,2000),(2001,2001),(2002,2002)] 0 (by refine ArgsH.cons (LSub.refl _) (ArgsH.cons (LSub.refl _) (ArgsH.cons (LSub.agg ?_) ArgsH.nil));repeat' (first|exact SubL.nil|refine SubL.cons ?_ ?_|exact Sub.refl _|exact Sub.nils|exact Sub.ff rfl)) (by exact BlksH.cons (j:=1000) rfl rfl (CSub.of_eq (by rw [length_append];first|done|rfl)) (BlksH.cons (j:=2000) rfl rfl (CSub.of_eq (by rw [List.map_append];first|done|rfl)) (BlksH.cons (j:=2001) rfl rfl (CSub.refl _) (BlksH.cons (j:=2002) rfl rfl (CSub.refl _) BlksH.nil)))) (ih (by omega) l[j].thn (by omega) (b++[⟨l[j]'hj,a.proc,a.up,(b.length+1+XB (l[j]'hj):Int),a.loop⟩]) (by rw [length_append];simp only [length_singleton];omega) ⟨S0,a.proc,b.length+1,(b.length+1:Int),(b.length+1:Int)⟩ gl pr lo hi) rfl rfl ?_;rintro l' H' ⟨rfl,rfl⟩;conv=>whnf
    refine CallK.heap [(1000,1000),(2000,2000),(2001,2001),(2002,2002)] 0 (by refine ArgsH.cons (LSub.refl _) (ArgsH.cons (LSub.refl _) (ArgsH.cons (LSub.agg ?_) ArgsH.nil));repeat' (first|exact SubL.nil|refine SubL.cons ?_ ?_|exact Sub.refl _|exact Sub.nils|exact Sub.ff rfl)) (by exact BlksH.cons (j:=1000) rfl rfl (CSub.refl _) (BlksH.cons (j:=2000) rfl rfl (CSub.refl _) (BlksH.cons (j:=2001) rfl rfl (CSub.refl _) (BlksH.cons (j:=2002) rfl rfl (CSub.refl _) BlksH.nil)))) (ih (by omega) l[j].els (by omega) (XG a.proc (b.length+1) (b.length+1:Int) (b.length+1:Int) (b++[⟨l[j]'hj,a.proc,a.up,(b.length+1+XB (l[j]'hj):Int),a.loop⟩]) (l[j]'hj).thn) (by rw [XY,length_append];simp only [length_singleton];omega) ⟨S0,a.proc,b.length+1,(b.length+1:Int),(b.length+1:Int)⟩ gl pr lo hi) rfl rfl ?_;rintro l' H' ⟨rfl,rfl⟩;conv=>whnf
    refine wI ?_;conv=>whnf
    have hrow:q2x a.proc a.up (b.length+1+XB (l[j]'hj):Int) a.loop b l[j]=XG a.proc (b.length+1) (b.length+1:Int) (b.length+1:Int) (XG a.proc (b.length+1) (b.length+1:Int) (b.length+1:Int) (b++[⟨l[j]'hj,a.proc,a.up,(b.length+1+XB (l[j]'hj):Int),a.loop⟩]) (l[j]'hj).thn) l[j].els:=by
     rw [HE,if_pos (by assumption),if_pos (by assumption)]
    exact ⟨(j+1,q2x a.proc a.up (b.length+1+XB (l[j]'hj):Int) a.loop b l[j]),⟨by simp only;omega,by simp only;rw [XS];omega,by simp only;rw [XS];omega,by simp only;rw [<- h4,WT hj,if_pos (by omega)]⟩,by simp only;omega,Le.of_eq (by simp only;rw [hrow];rfl)⟩
   ·have hj:j<l.length:=by omega
    have hst:=hst hj;have hcs:=ZS l[j];refine CallK.heap [(1000,1000),(2000,2000),(2001,2001),(2002,2002)] 0 (by refine ArgsH.cons (LSub.refl _) (ArgsH.cons (LSub.refl _) (ArgsH.cons (LSub.agg ?_) ArgsH.nil));repeat' (first|exact SubL.nil|refine SubL.cons ?_ ?_|exact Sub.refl _|exact Sub.nils|exact Sub.ff rfl)) (by exact BlksH.cons (j:=1000) rfl rfl (CSub.of_eq (by rw [length_append];first|done|rfl)) (BlksH.cons (j:=2000) rfl rfl (CSub.of_eq (by rw [List.map_append];first|done|rfl)) (BlksH.cons (j:=2001) rfl rfl (CSub.refl _) (BlksH.cons (j:=2002) rfl rfl (CSub.refl _) BlksH.nil)))) (ih (by omega) l[j].thn (by omega) (b++[⟨l[j]'hj,a.proc,a.up,(b.length+1+XB (l[j]'hj):Int),a.loop⟩]) (by rw [length_append];simp only [length_singleton];omega) ⟨S0,a.proc,b.length+1,(b.length+1+XB (l[j]'hj):Int),a.loop⟩ gl pr lo hi) rfl rfl ?_;rintro l' H' ⟨rfl,rfl⟩;conv=>whnf
    refine CallK.heap [(1000,1000),(2000,2000),(2001,2001),(2002,2002)] 0 (by refine ArgsH.cons (LSub.refl _) (ArgsH.cons (LSub.refl _) (ArgsH.cons (LSub.agg ?_) ArgsH.nil));repeat' (first|exact SubL.nil|refine SubL.cons ?_ ?_|exact Sub.refl _|exact Sub.nils|exact Sub.ff rfl)) (by exact BlksH.cons (j:=1000) rfl rfl (CSub.refl _) (BlksH.cons (j:=2000) rfl rfl (CSub.refl _) (BlksH.cons (j:=2001) rfl rfl (CSub.refl _) (BlksH.cons (j:=2002) rfl rfl (CSub.refl _) BlksH.nil)))) (ih (by omega) l[j].els (by omega) (XG a.proc (b.length+1) (b.length+1+XB (l[j]'hj):Int) a.loop (b++[⟨l[j]'hj,a.proc,a.up,(b.length+1+XB (l[j]'hj):Int),a.loop⟩]) (l[j]'hj).thn) (by rw [XY,length_append];simp only [length_singleton];omega) ⟨S0,a.proc,b.length+1,(b.length+1+XB (l[j]'hj):Int),a.loop⟩ gl pr lo hi) rfl rfl ?_;rintro l' H' ⟨rfl,rfl⟩;conv=>whnf
    refine wI ?_;conv=>whnf
    have hrow:q2x a.proc a.up (b.length+1+XB (l[j]'hj):Int) a.loop b l[j]=XG a.proc (b.length+1) (b.length+1+XB (l[j]'hj):Int) a.loop (XG a.proc (b.length+1) (b.length+1+XB (l[j]'hj):Int) a.loop (b++[⟨l[j]'hj,a.proc,a.up,(b.length+1+XB (l[j]'hj):Int),a.loop⟩]) (l[j]'hj).thn) l[j].els:=by
     rw [HE,if_neg (by assumption),if_neg (by assumption)]
    exact ⟨(j+1,q2x a.proc a.up (b.length+1+XB (l[j]'hj):Int) a.loop b l[j]),⟨by simp only;omega,by simp only;rw [XS];omega,by simp only;rw [XS];omega,by simp only;rw [<- h4,WT hj,if_pos (by omega)]⟩,by simp only;omega,Le.of_eq (by simp only;rw [hrow];rfl)⟩
   ·have hj:j<l.length:=by omega
    have hst:=hst hj;have hcs:=ZS l[j];refine CallK.heap [(1000,1000),(2000,2000),(2001,2001),(2002,2002)] 0 (by refine ArgsH.cons (LSub.refl _) (ArgsH.cons (LSub.refl _) (ArgsH.cons (LSub.agg ?_) ArgsH.nil));repeat' (first|exact SubL.nil|refine SubL.cons ?_ ?_|exact Sub.refl _|exact Sub.nils|exact Sub.ff rfl)) (by exact BlksH.cons (j:=1000) rfl rfl (CSub.of_eq (by rw [length_append];first|done|rfl)) (BlksH.cons (j:=2000) rfl rfl (CSub.of_eq (by rw [List.map_append];first|done|rfl)) (BlksH.cons (j:=2001) rfl rfl (CSub.refl _) (BlksH.cons (j:=2002) rfl rfl (CSub.refl _) BlksH.nil)))) (ih (by omega) l[j].thn (by omega) (b++[⟨l[j]'hj,a.proc,a.up,a.next,a.loop⟩]) (by rw [length_append];simp only [length_singleton];omega) ⟨S0,a.proc,b.length+1,(b.length+1:Int),(b.length+1:Int)⟩ gl pr lo hi) rfl rfl ?_;rintro l' H' ⟨rfl,rfl⟩;conv=>whnf
    refine CallK.heap [(1000,1000),(2000,2000),(2001,2001),(2002,2002)] 0 (by refine ArgsH.cons (LSub.refl _) (ArgsH.cons (LSub.refl _) (ArgsH.cons (LSub.agg ?_) ArgsH.nil));repeat' (first|exact SubL.nil|refine SubL.cons ?_ ?_|exact Sub.refl _|exact Sub.nils|exact Sub.ff rfl)) (by exact BlksH.cons (j:=1000) rfl rfl (CSub.refl _) (BlksH.cons (j:=2000) rfl rfl (CSub.refl _) (BlksH.cons (j:=2001) rfl rfl (CSub.refl _) (BlksH.cons (j:=2002) rfl rfl (CSub.refl _) BlksH.nil)))) (ih (by omega) l[j].els (by omega) (XG a.proc (b.length+1) (b.length+1:Int) (b.length+1:Int) (b++[⟨l[j]'hj,a.proc,a.up,a.next,a.loop⟩]) (l[j]'hj).thn) (by rw [XY,length_append];simp only [length_singleton];omega) ⟨S0,a.proc,b.length+1,(b.length+1:Int),(b.length+1:Int)⟩ gl pr lo hi) rfl rfl ?_;rintro l' H' ⟨rfl,rfl⟩;conv=>whnf
    refine wI ?_;conv=>whnf
    have hrow:q2x a.proc a.up a.next a.loop b l[j]=XG a.proc (b.length+1) (b.length+1:Int) (b.length+1:Int) (XG a.proc (b.length+1) (b.length+1:Int) (b.length+1:Int) (b++[⟨l[j]'hj,a.proc,a.up,a.next,a.loop⟩]) (l[j]'hj).thn) l[j].els:=by
     rw [HE,if_pos (by assumption),if_pos (by assumption)]
    exact ⟨(j+1,q2x a.proc a.up a.next a.loop b l[j]),⟨by simp only;omega,by simp only;rw [XS];omega,by simp only;rw [XS];omega,by simp only;rw [<- h4,WT hj,if_neg (by omega)]⟩,by simp only;omega,Le.of_eq (by simp only;rw [hrow];rfl)⟩
   ·have hj:j<l.length:=by omega
    have hst:=hst hj;have hcs:=ZS l[j];refine CallK.heap [(1000,1000),(2000,2000),(2001,2001),(2002,2002)] 0 (by refine ArgsH.cons (LSub.refl _) (ArgsH.cons (LSub.refl _) (ArgsH.cons (LSub.agg ?_) ArgsH.nil));repeat' (first|exact SubL.nil|refine SubL.cons ?_ ?_|exact Sub.refl _|exact Sub.nils|exact Sub.ff rfl)) (by exact BlksH.cons (j:=1000) rfl rfl (CSub.of_eq (by rw [length_append];first|done|rfl)) (BlksH.cons (j:=2000) rfl rfl (CSub.of_eq (by rw [List.map_append];first|done|rfl)) (BlksH.cons (j:=2001) rfl rfl (CSub.refl _) (BlksH.cons (j:=2002) rfl rfl (CSub.refl _) BlksH.nil)))) (ih (by omega) l[j].thn (by omega) (b++[⟨l[j]'hj,a.proc,a.up,a.next,a.loop⟩]) (by rw [length_append];simp only [length_singleton];omega) ⟨S0,a.proc,b.length+1,a.next,a.loop⟩ gl pr lo hi) rfl rfl ?_;rintro l' H' ⟨rfl,rfl⟩;conv=>whnf
    refine CallK.heap [(1000,1000),(2000,2000),(2001,2001),(2002,2002)] 0 (by refine ArgsH.cons (LSub.refl _) (ArgsH.cons (LSub.refl _) (ArgsH.cons (LSub.agg ?_) ArgsH.nil));repeat' (first|exact SubL.nil|refine SubL.cons ?_ ?_|exact Sub.refl _|exact Sub.nils|exact Sub.ff rfl)) (by exact BlksH.cons (j:=1000) rfl rfl (CSub.refl _) (BlksH.cons (j:=2000) rfl rfl (CSub.refl _) (BlksH.cons (j:=2001) rfl rfl (CSub.refl _) (BlksH.cons (j:=2002) rfl rfl (CSub.refl _) BlksH.nil)))) (ih (by omega) l[j].els (by omega) (XG a.proc (b.length+1) a.next a.loop (b++[⟨l[j]'hj,a.proc,a.up,a.next,a.loop⟩]) (l[j]'hj).thn) (by rw [XY,length_append];simp only [length_singleton];omega) ⟨S0,a.proc,b.length+1,a.next,a.loop⟩ gl pr lo hi) rfl rfl ?_;rintro l' H' ⟨rfl,rfl⟩;conv=>whnf
    refine wI ?_;conv=>whnf
    have hrow:q2x a.proc a.up a.next a.loop b l[j]=XG a.proc (b.length+1) a.next a.loop (XG a.proc (b.length+1) a.next a.loop (b++[⟨l[j]'hj,a.proc,a.up,a.next,a.loop⟩]) (l[j]'hj).thn) l[j].els:=by
     rw [HE,if_neg (by assumption),if_neg (by assumption)]
    exact ⟨(j+1,q2x a.proc a.up a.next a.loop b l[j]),⟨by simp only;omega,by simp only;rw [XS];omega,by simp only;rw [XS];omega,by simp only;rw [<- h4,WT hj,if_neg (by omega)]⟩,by simp only;omega,Le.of_eq (by simp only;rw [hrow];rfl)⟩
   ·have hj:j<l.length:=by omega
    have hst:=hst hj;have hcs:=ZS l[j];refine CallK.heap [(1000,1000),(2000,2000),(2001,2001),(2002,2002)] 0 (by refine ArgsH.cons (LSub.refl _) (ArgsH.cons (LSub.refl _) (ArgsH.cons (LSub.agg ?_) ArgsH.nil));repeat' (first|exact SubL.nil|refine SubL.cons ?_ ?_|exact Sub.refl _|exact Sub.nils|exact Sub.ff rfl)) (by exact BlksH.cons (j:=1000) rfl rfl (CSub.of_eq (by rw [length_append];first|done|rfl)) (BlksH.cons (j:=2000) rfl rfl (CSub.of_eq (by rw [List.map_append];first|done|rfl)) (BlksH.cons (j:=2001) rfl rfl (CSub.refl _) (BlksH.cons (j:=2002) rfl rfl (CSub.refl _) BlksH.nil)))) (ih (by omega) l[j].thn (by omega) (b++[⟨l[j]'hj,a.proc,a.up,a.next,a.loop⟩]) (by rw [length_append];simp only [length_singleton];omega) ⟨S0,a.proc,b.length+1,(b.length+1:Int),(b.length+1:Int)⟩ gl pr lo hi) rfl rfl ?_;rintro l' H' ⟨rfl,rfl⟩;conv=>whnf
    refine CallK.heap [(1000,1000),(2000,2000),(2001,2001),(2002,2002)] 0 (by refine ArgsH.cons (LSub.refl _) (ArgsH.cons (LSub.refl _) (ArgsH.cons (LSub.agg ?_) ArgsH.nil));repeat' (first|exact SubL.nil|refine SubL.cons ?_ ?_|exact Sub.refl _|exact Sub.nils|exact Sub.ff rfl)) (by exact BlksH.cons (j:=1000) rfl rfl (CSub.refl _) (BlksH.cons (j:=2000) rfl rfl (CSub.refl _) (BlksH.cons (j:=2001) rfl rfl (CSub.refl _) (BlksH.cons (j:=2002) rfl rfl (CSub.refl _) BlksH.nil)))) (ih (by omega) l[j].els (by omega) (XG a.proc (b.length+1) (b.length+1:Int) (b.length+1:Int) (b++[⟨l[j]'hj,a.proc,a.up,a.next,a.loop⟩]) (l[j]'hj).thn) (by rw [XY,length_append];simp only [length_singleton];omega) ⟨S0,a.proc,b.length+1,(b.length+1:Int),(b.length+1:Int)⟩ gl pr lo hi) rfl rfl ?_;rintro l' H' ⟨rfl,rfl⟩;conv=>whnf
    refine wI ?_;conv=>whnf
    have hrow:q2x a.proc a.up a.next a.loop b l[j]=XG a.proc (b.length+1) (b.length+1:Int) (b.length+1:Int) (XG a.proc (b.length+1) (b.length+1:Int) (b.length+1:Int) (b++[⟨l[j]'hj,a.proc,a.up,a.next,a.loop⟩]) (l[j]'hj).thn) l[j].els:=by
     rw [HE,if_pos (by assumption),if_pos (by assumption)]
    exact ⟨(j+1,q2x a.proc a.up a.next a.loop b l[j]),⟨by simp only;omega,by simp only;rw [XS];omega,by simp only;rw [XS];omega,by simp only;rw [<- h4,WT hj,if_neg (by omega)]⟩,by simp only;omega,Le.of_eq (by simp only;rw [hrow];rfl)⟩
   ·have hj:j<l.length:=by omega
    have hst:=hst hj;have hcs:=ZS l[j];refine CallK.heap [(1000,1000),(2000,2000),(2001,2001),(2002,2002)] 0 (by refine ArgsH.cons (LSub.refl _) (ArgsH.cons (LSub.refl _) (ArgsH.cons (LSub.agg ?_) ArgsH.nil));repeat' (first|exact SubL.nil|refine SubL.cons ?_ ?_|exact Sub.refl _|exact Sub.nils|exact Sub.ff rfl)) (by exact BlksH.cons (j:=1000) rfl rfl (CSub.of_eq (by rw [length_append];first|done|rfl)) (BlksH.cons (j:=2000) rfl rfl (CSub.of_eq (by rw [List.map_append];first|done|rfl)) (BlksH.cons (j:=2001) rfl rfl (CSub.refl _) (BlksH.cons (j:=2002) rfl rfl (CSub.refl _) BlksH.nil)))) (ih (by omega) l[j].thn (by omega) (b++[⟨l[j]'hj,a.proc,a.up,a.next,a.loop⟩]) (by rw [length_append];simp only [length_singleton];omega) ⟨S0,a.proc,b.length+1,a.next,a.loop⟩ gl pr lo hi) rfl rfl ?_;rintro l' H' ⟨rfl,rfl⟩;conv=>whnf
    refine CallK.heap [(1000,1000),(2000,2000),(2001,2001),(2002,2002)] 0 (by refine ArgsH.cons (LSub.refl _) (ArgsH.cons (LSub.refl _) (ArgsH.cons (LSub.agg ?_) ArgsH.nil));repeat' (first|exact SubL.nil|refine SubL.cons ?_ ?_|exact Sub.refl _|exact Sub.nils|exact Sub.ff rfl)) (by exact BlksH.cons (j:=1000) rfl rfl (CSub.refl _) (BlksH.cons (j:=2000) rfl rfl (CSub.refl _) (BlksH.cons (j:=2001) rfl rfl (CSub.refl _) (BlksH.cons (j:=2002) rfl rfl (CSub.refl _) BlksH.nil)))) (ih (by omega) l[j].els (by omega) (XG a.proc (b.length+1) a.next a.loop (b++[⟨l[j]'hj,a.proc,a.up,a.next,a.loop⟩]) (l[j]'hj).thn) (by rw [XY,length_append];simp only [length_singleton];omega) ⟨S0,a.proc,b.length+1,a.next,a.loop⟩ gl pr lo hi) rfl rfl ?_;rintro l' H' ⟨rfl,rfl⟩;conv=>whnf
    refine wI ?_;conv=>whnf
    have hrow:q2x a.proc a.up a.next a.loop b l[j]=XG a.proc (b.length+1) a.next a.loop (XG a.proc (b.length+1) a.next a.loop (b++[⟨l[j]'hj,a.proc,a.up,a.next,a.loop⟩]) (l[j]'hj).thn) l[j].els:=by
     rw [HE,if_neg (by assumption),if_neg (by assumption)]
    exact ⟨(j+1,q2x a.proc a.up a.next a.loop b l[j]),⟨by simp only;omega,by simp only;rw [XS];omega,by simp only;rw [XS];omega,by simp only;rw [<- h4,WT hj,if_neg (by omega)]⟩,by simp only;omega,Le.of_eq (by simp only;rw [hrow];rfl)⟩
   ·refine ⟨_,.refl _,rfl,?_⟩;rw [drop_eq_nil_of_le (by omega),XG] at h4;rw [<- h4];rfl
structure Sheet where
 p:Pg
 l:List Item
 lo:List Int
 hi:List Int
def Sheet.cells (s:Sheet):List AV:=s.p.cells++[.sl (s.l.map fun i => .agg i.cells),QA s.lo,QA s.hi]
def cntP:List Pr->Nat
 | []=>0
 | f::r=>cntL f.body+cntP r
theorem q4b {l:List Pr} {j:Nat} (hj:j<l.length):cntP (l.drop j)=cntL l[j].body+cntP (l.drop (j+1)):=by
 rw [QG hj,cntP]
def q6q (i:Nat) (acc:List Item) (lo hi:List Int):List Pr->List Item×List Int×List Int
 | []=>(acc,lo,hi)
 | f::r=>q6q (i+1) (XG i 0 (-1) 0 acc f.body) (lo++[(acc.length:Int)+1]) (hi++[((XG i 0 (-1) 0 acc f.body).length:Int)+1]) r
def sheetOf (p:Pg):Sheet:=⟨p,(q6q 0 [] [] [] p.procs).1,(q6q 0 [] [] [] p.procs).2.1,(q6q 0 [] [] [] p.procs).2.2⟩
theorem x2n {i:Nat} {acc:List Item} {lo hi:List Int} {l:List Pr} {j:Nat} (hj:j<l.length) :
  q6q i acc lo hi (l.drop j)=q6q (i+1) (XG i 0 (-1) 0 acc l[j].body) (lo++[(acc.length:Int)+1]) (hi++[((XG i 0 (-1) 0 acc l[j].body).length:Int)+1]) (l.drop (j+1)):=by
 rw [QG hj,q6q]
def v0p (tS tI tN:Nat) (p:Pg) (L:List Item) (lo hi:List Int):Heap :=
 [(0,.obj tS [.p (QP p.globals),.p (.sl (p.procs.map fun f => .agg f.cells)),.hd 1 0 L.length,.hd 2 0 lo.length,.hd 3 0 hi.length]),(1,.own tI 17 (L.map fun i => .agg i.cells)),(2,.own tN 1 (lo.map (.int .i64))),(3,.own tN 1 (hi.map (.int .i64)))]
theorem YR (p:Pg) (h1:p.procs.length<=1000) (hc:cntP p.procs<=999):SpecP Tryz.prog 109 [.agg p.cells] (fun r=>r = .ip (sheetOf p).cells):=by
 refine sB z2u Tryz.func109 rfl Tryz.call109 ?_;conv=>whnf
 repeat' ((first|(refine iM fun _=>?_)|refine And.intro rfl ?_);conv=>whnf)
 have hl2:(p.procs.map fun f=>AV.agg f.cells).length=p.procs.length:=length_map _;refine LoopK.inv QV (fun i:Nat×List Item×List Int×List Int=>⟨[(3,.ptr 0 0),(10,.p (.sl (p.procs.map fun f=>AV.agg f.cells))),(11,.p (.int .i64 (p.procs.map fun f=>AV.agg f.cells).length)),(12,.p (.int .i64 i.1))],v0p 154 151 3 p i.2.1 i.2.2.1 i.2.2.2⟩)
  (fun i=>i.1<=p.procs.length∧i.2.1.length+cntP (p.procs.drop i.1)=cntP p.procs∧i.2.2.1.length=i.1∧i.2.2.2.length=i.1∧q6q i.1 i.2.1 i.2.2.1 i.2.2.2 (p.procs.drop i.1)=q6q 0 [] [] [] p.procs) (fun i=>p.procs.length-i.1) (0,[],[],[])
  (Le.mk [(1,.own 151 17 []),(2,.own 3 1 []),(3,.own 3 1 [])] (by simp [Chunk.new0];exact ⟨rfl,rfl,rfl⟩) (by simp) (by simp [v0p]) (.cons (.refl _) (.cons (.refl _) (.cons (.refl _) (.cons (.refl _) .nil))))
    (.cons rfl (.obj (.cons (.refl _) (.cons (.refl _) (.cons (.nil mem_cons_self) (.cons (.nil (mem_cons_of_mem _ mem_cons_self)) (.cons (.nil (mem_cons_of_mem _ (mem_cons_of_mem _ mem_cons_self))) .nil)))))) (.new mem_cons_self (.new (mem_cons_of_mem _ mem_cons_self) (.new (mem_cons_of_mem _ (mem_cons_of_mem _ mem_cons_self)) .nil)))))
  ⟨zero_le _,by simp,rfl,rfl,rfl⟩ ?_
 rintro ⟨j,b,lo,hi⟩ ⟨h2,h3,h4,h5,h6⟩;simp only at h2 h3 h4 h5 h6 ⊢;conv=>whnf
 repeat' (first|((first|(refine iM fun _=>?_)|refine dA ?_|refine And.intro rfl ?_|refine aD ?_|refine bP ?_|(refine iA fun _=>?_)|refine wI ?_|refine AppK.mk (by simp) rfl (by show (lo.length+1)*8<=140737488355328;omega) (by show lo.length+1<=9223372036854775807;omega) (fun x hx=>by rcases List.mem_singleton.1 hx with rfl;exact ⟨rfl,rfl⟩) ?_);conv=>whnf)|(apply bD<;>intro _<;>first|omega|conv=>whnf)|(refine And.intro ?_ ?_<;>conv=>whnf))
 ·have hj:j<p.procs.length:=by omega
  have hst:=q4b hj;refine CallK.heap [(1000,0),(2000,1),(2001,2),(2002,3)] 0 (by refine ArgsH.cons (LSub.refl _) (ArgsH.cons (LSub.refl _) (ArgsH.cons (LSub.agg ?_) ArgsH.nil));repeat' (first|exact SubL.nil|refine SubL.cons ?_ ?_|exact Sub.refl _|exact Sub.nils|exact Sub.ff rfl)) (by exact BlksH.cons (j:=0) rfl rfl (CSub.of_eq (by rw [length_append];first|done|rfl)) (BlksH.cons (j:=1) rfl rfl (CSub.refl _) (BlksH.cons (j:=2) rfl rfl (CSub.of_eq (by rw [List.map_append];first|done|rfl)) (BlksH.cons (j:=3) rfl rfl (CSub.refl _) BlksH.nil)))) (z0v 1000 (by omega) p.procs[j].body (by omega) b (by omega) ⟨S0,j,0,-1,0⟩ _ _ (lo++[(b.length:Int)+1]) hi) rfl rfl ?_;rintro l' H' ⟨rfl,rfl⟩;conv=>whnf
  have hlen:=XY j 0 (-1) 0 b p.procs[j].body;repeat' (first|((first|(refine iM fun _=>?_)|refine dA ?_|refine And.intro rfl ?_|refine aD ?_|refine bP ?_|refine wI ?_|refine AppK.mk (by simp) rfl (by show (hi.length+1)*8<=140737488355328;omega) (by show hi.length+1<=9223372036854775807;omega) (fun x hx=>by rcases List.mem_singleton.1 hx with rfl;exact ⟨rfl,rfl⟩) ?_|refine Wr.i64 (by rw [XY];omega) (by rw [XY];omega) ?_);conv=>whnf)|(refine And.intro ?_ ?_<;>conv=>whnf))
  all_goals exact ⟨(j+1,XG j 0 (-1) 0 b p.procs[j].body,lo++[(b.length:Int)+1],hi++[((XG j 0 (-1) 0 b p.procs[j].body).length:Int)+1]),⟨by simp only;omega,by simp only;omega,by simp [h4],by simp [h5],by simp only;rw [<- h6,x2n hj]⟩,by simp only;omega,Le.of_eq (by simp only [v0p,length_append,List.map_append];rfl)⟩
 ·have hj:j<p.procs.length:=by omega
  have hst:=q4b hj;refine CallK.heap [(1000,0),(2000,1),(2001,2),(2002,3)] 0 (by refine ArgsH.cons (LSub.refl _) (ArgsH.cons (LSub.refl _) (ArgsH.cons (LSub.agg ?_) ArgsH.nil));repeat' (first|exact SubL.nil|refine SubL.cons ?_ ?_|exact Sub.refl _|exact Sub.nils|exact Sub.ff rfl)) (by exact BlksH.cons (j:=0) rfl rfl (CSub.of_eq (by rw [length_append];first|done|rfl)) (BlksH.cons (j:=1) rfl rfl (CSub.refl _) (BlksH.cons (j:=2) rfl rfl (CSub.of_eq (by rw [List.map_append];first|done|rfl)) (BlksH.cons (j:=3) rfl rfl (CSub.refl _) BlksH.nil)))) (z0v 1000 (by omega) p.procs[j].body (by omega) b (by omega) ⟨S0,j,0,-1,0⟩ _ _ (lo++[(b.length:Int)+1]) hi) rfl rfl ?_;rintro l' H' ⟨rfl,rfl⟩;conv=>whnf
  have hlen:=XY j 0 (-1) 0 b p.procs[j].body;repeat' (first|((first|(refine iM fun _=>?_)|refine dA ?_|refine And.intro rfl ?_|refine aD ?_|refine bP ?_|refine wI ?_|refine AppK.mk (by simp) rfl (by show (hi.length+1)*8<=140737488355328;omega) (by show hi.length+1<=9223372036854775807;omega) (fun x hx=>by rcases List.mem_singleton.1 hx with rfl;exact ⟨rfl,rfl⟩) ?_|refine Wr.i64 (by rw [XY];omega) (by rw [XY];omega) ?_);conv=>whnf)|(refine And.intro ?_ ?_<;>conv=>whnf))
  all_goals exact ⟨(j+1,XG j 0 (-1) 0 b p.procs[j].body,lo++[(b.length:Int)+1],hi++[((XG j 0 (-1) 0 b p.procs[j].body).length:Int)+1]),⟨by simp only;omega,by simp only;omega,by simp [h4],by simp [h5],by simp only;rw [<- h6,x2n hj]⟩,by simp only;omega,Le.of_eq (by simp only [v0p,length_append,List.map_append];rfl)⟩
 ·have hd:p.procs.drop j=[]:=drop_eq_nil_of_le (by omega);rw [hd,q6q] at h6;refine ⟨.ip (sheetOf p).cells,?_,rfl⟩;have e:(sheetOf p).cells=[QP p.globals,.sl (p.procs.map fun f => .agg f.cells),.sl (b.map fun i => .agg i.cells),QA lo,QA hi]:=by
   unfold sheetOf;rw [<- h6];rfl
  rw [e];have hF : ∀ H:Heap,getH H 1=some (.own 151 17 (b.map fun i => .agg i.cells))->getH H 2=some (.own 3 1 (lo.map (.int .i64)))->getH H 3=some (.own 3 1 (hi.map (.int .i64))) ->
    FrzL H [.p (QP p.globals),.p (.sl (p.procs.map fun f => .agg f.cells)),.hd 1 0 b.length,.hd 2 0 lo.length,.hd 3 0 hi.length] [QP p.globals,.sl (p.procs.map fun f => .agg f.cells),.sl (b.map fun i => .agg i.cells),QA lo,QA hi]:=fun H g1 g2 g3 =>
   .cons (.p (Sub.refl _)) (.cons (.p (Sub.refl _)) (.cons (.hd g1 (by simp)) (.cons (.hd g2 (by simp)) (.cons (.hd g3 (by simp)) .nil))))
  refine Frz.ptr (off:=0) rfl rfl fun m l c hl hc => ?_;obtain ⟨l',h7,h8⟩:=(hF (v0p 154 151 3 p b lo hi) rfl rfl rfl).get.2 m c hc;have h9:=h7.symm.trans hl;cases h9;exact h8
theorem IdxK.at {es:List AV} {sz k:Nat} {e:AV} {n:Int} {K:List AV->Prop} (hn:n=k) (he:es[k]? = some e) (hs:e.cells.length=sz) (h:K e.cells):IdxK es sz n K:=⟨k,e,hn,he,hs,h⟩
theorem VU {l:List Int} {k:Nat} {n:Int} (h:l[k]? = some n):(l.map (AV.int .i64))[k]? = some (.int .i64 n):=by simp [h]
def YL (l:List Item):AV := .sl (l.map fun i => .agg i.cells)
theorem x1s (s:Sheet) (i lo hi:Nat) (h1:s.lo[i]? = some ((lo:Int)+1)) (h2:s.hi[i]? = some ((hi:Int)+1)) (h3:lo<=hi) (h4:hi<=s.l.length) (h5:s.l.length<=1000):SpecP Tryz.prog 195 [.ip s.cells,.int .i64 i] (fun r=>r=YL ((s.l.take hi).drop lo)):=by
 refine sB q3m Tryz.func195 rfl Tryz.call195 ?_;conv=>whnf
 repeat' ((first|refine dA ?_|refine wI ?_|(refine IdxK.at rfl (VU h1) rfl ?_)|(refine IdxK.at rfl (VU h2) rfl ?_)|refine And.intro (fun e he=>by obtain ⟨x,_,rfl⟩:=List.mem_map.1 he;rfl) (SlK.mk lo hi (by simp) (by simp) h3 (by simpa using h4) ?_));conv=>whnf)
 exact RetK.p (by simp [YL,map_take,List.map_drop])
theorem GB (s:Sheet) (i lo hi:Nat) (h1:s.lo[i]? = some ((lo:Int)+1)) (h2:s.hi[i]? = some ((hi:Int)+1)):SpecP Tryz.prog 146 [.ip s.cells,.int .i64 i] (fun r=>r = .int .i64 (if lo<hi then (lo:Int)+1 else -1)):=by
 refine sB PE Tryz.func146 rfl Tryz.call146 ?_;conv=>whnf
 repeat' (first|((first|refine dA ?_|(refine IdxK.at rfl (VU h1) rfl ?_)|(refine IdxK.at rfl (VU h2) rfl ?_));conv=>whnf)|(apply bD<;>intro _<;>first|omega|conv=>whnf))
 ·exact RetK.int (by rw [if_pos (by omega)])
 ·exact RetK.int (by rw [if_neg (by omega)])
theorem VN (l:List Str) (g:Nat) (c:AV) (p:Str->Bool) (hp : ∀ s,SpecP Tryz.prog g [.str s,c] (fun r=>r = .bool (p s))):SpecP Tryz.prog 250 [QP l,.fn g [c]] (fun r=>r = .int .i64 (idxF p l)):=by
 refine sB WO Tryz.func250 rfl Tryz.call250 ?_;conv=>whnf
 refine iM fun _=>?_;have hl:(l.map AV.str).length=l.length:=length_map _;conv=>whnf
 refine LoopK.inv QV (fun j:Nat=>⟨[(0,.p (QP l)),(1,.p (.fn g [c])),(7,.p (.int .i64 (l.map AV.str).length)),(8,.p (.int .i64 j))],[]⟩) (fun j=>j<=l.length∧(l.drop j).any p=l.any p∧l.findIdx p=j+(l.drop j).findIdx p) (fun j=>l.length-j) 0 (Le.of_eq rfl) ⟨zero_le _,rfl,by simp⟩ ?_;rintro j ⟨h2,h3,h4⟩;conv=>whnf
 repeat' (first|((first|(refine iA fun _=>?_)|refine wI ?_|refine cP (hp _) ?_);conv=>whnf)|(apply bD<;>intro _<;>first|omega|conv=>whnf)|(apply bB<;>intro _<;>conv=>whnf))
 ·exact RetK.int (q2h (p:=p) (by omega) (by assumption) h3 h4).symm
 ·exact ⟨j+1,⟨by omega,by rw [<- h3,q8s (p:=p) (by omega) (by assumption)],by rw [h4,w1o (p:=p) (by omega) (by assumption)];omega⟩,by omega,Le.of_eq rfl⟩
 ·exact RetK.int (by rw [q9y];rw [<- h3,MS (by omega)])
theorem WC (l:List Str) (g:Nat) (c:AV) (p:Str->Bool) (hp : ∀ s,SpecP Tryz.prog g [.str s,c] (fun r=>r = .bool (p s))):SpecP Tryz.prog 193 [QP l,.fn g [c]] (fun r=>r = .bool (l.any p)):=by
 refine sB WJ Tryz.func193 rfl Tryz.call193 ?_;conv=>whnf
 repeat' (refine cP (VN _ _ _ p hp) ?_;conv=>whnf)
 exact RetK.bool MY
theorem XN (l:List Pr) (g:Nat) (c:AV) (p:Pr->Bool) (hp : ∀ s:Pr,SpecP Tryz.prog g [.agg s.cells,c] (fun r=>r = .bool (p s))):SpecP Tryz.prog 135 [.sl (l.map fun f => .agg f.cells),.fn g [c]] (fun r=>r = .int .i64 (idxF p l)):=by
 refine sB WV Tryz.func135 rfl Tryz.call135 ?_;conv=>whnf
 refine iM fun _=>?_;have hl:(l.map fun f=>AV.agg f.cells).length=l.length:=length_map _;conv=>whnf
 refine LoopK.inv QV (fun j:Nat=>⟨[(0,.p (.sl (l.map fun f => .agg f.cells))),(1,.p (.fn g [c])),(7,.p (.int .i64 (l.map fun f=>AV.agg f.cells).length)),(8,.p (.int .i64 j))],[]⟩) (fun j=>j<=l.length∧(l.drop j).any p=l.any p∧l.findIdx p=j+(l.drop j).findIdx p) (fun j=>l.length-j) 0 (Le.of_eq rfl) ⟨zero_le _,rfl,by simp⟩ ?_;rintro j ⟨h2,h3,h4⟩;conv=>whnf
 repeat' (first|((first|(refine iA fun _=>?_)|refine wI ?_|refine cP (hp _) ?_);conv=>whnf)|(apply bD<;>intro _<;>first|omega|conv=>whnf)|(apply bB<;>intro _<;>conv=>whnf))
 ·exact RetK.int (q2h (p:=p) (by omega) (by assumption) h3 h4).symm
 ·exact ⟨j+1,⟨by omega,by rw [<- h3,q8s (p:=p) (by omega) (by assumption)],by rw [h4,w1o (p:=p) (by omega) (by assumption)];omega⟩,by omega,Le.of_eq rfl⟩
 ·exact RetK.int (by rw [q9y];rw [<- h3,MS (by omega)])
theorem ZO (l:List Pr) (g:Nat) (c:AV) (p:Pr->Bool) (hp : ∀ s:Pr,SpecP Tryz.prog g [.agg s.cells,c] (fun r=>r = .bool (p s))):SpecP Tryz.prog 315 [.sl (l.map fun f => .agg f.cells),.fn g [c]] (fun r=>r = .bool (l.any p)):=by
 refine sB ZM Tryz.func315 rfl Tryz.call315 ?_;conv=>whnf
 repeat' (refine cP (XN _ _ _ p hp) ?_;conv=>whnf)
 exact RetK.bool MY
theorem q9i (p:Pg) (n:Str):SpecP Tryz.prog 194 [.str n,.ip p.cells] (fun r=>r = .bool (p.globals.any fun s=>n==s)):=by
 refine sB q4k Tryz.func194 rfl Tryz.call194 ?_;conv=>whnf
 repeat' (refine cP (QX _ _) ?_;conv=>whnf)
 exact RetK.p rfl
theorem LY (n:Str) (f:Pr):SpecP Tryz.prog 136 [.agg f.cells,.ip [.str n]] (fun r=>r = .bool (f.name==n)):=by
 refine sB DS Tryz.func136 rfl Tryz.call136 ?_;conv=>whnf
 skip
 exact RetK.p rfl
theorem x1v (n:Str) (f:Pr):SpecP Tryz.prog 316 [.agg f.cells,.ip [.str n]] (fun r=>r = .bool (f.name==n)):=by
 refine sB q3y Tryz.func316 rfl Tryz.call316 ?_;conv=>whnf
 skip
 exact RetK.p rfl
theorem ZV (s:Sheet) (n:Str):SpecP Tryz.prog 76 [.ip s.cells,.str n] (fun r=>r = .int .i64 (idxF (fun f=>f.name==n) s.p.procs)):=by
 refine sB LZ Tryz.func76 rfl Tryz.call76 ?_;conv=>whnf
 repeat' (refine cP (XN _ _ _ (fun f=>f.name==n) (fun f=>LY n f)) ?_;conv=>whnf)
 exact RetK.p rfl
end Go.Ab
