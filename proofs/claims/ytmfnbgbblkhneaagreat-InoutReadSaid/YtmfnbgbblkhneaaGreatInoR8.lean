/- Small laws for the scripts. Conditions: none. -/
import Derived.Test.YtmfnbgbblkhneaaGreatInoR6
import Derived.Test.YtmfnbgbblkhneaaGreatInoR7
set_option linter.unusedSimpArgs false
set_option linter.unusedVariables false
set_option maxRecDepth 100000
set_option maxHeartbeats 16000000
open List (all_cons any_cons map_take)
open Nat (ble)
namespace Go.Ab
open Go.Proofs.Tryz
open Go.Proofs
variable {α:Type}{A B:Prop}{K:List AV->Prop}{N T i j k sz:Nat}{P:Program}{b:Bool}{info:Info}{nest seen:Int}{ops:Array Oper}
theorem EO{p:Prop}[Decidable p](h:p->A)(h':¬p->B):Br (decide p) A B:=⟨fun e=>h (by simpa using e),fun e=>h' (by simpa using e)⟩
theorem AP{p:Prop}[Decidable p](h:p->A)(h':¬p->B):Br (!decide p) B A:=⟨fun e=>h' (by simpa using e),fun e=>h (by simpa using e)⟩
theorem Br.n(h:b=true->B)(h':b=false->A):Br (!b) A B:=⟨fun e=>h' (by simpa using e),fun e=>h (by simpa using e)⟩
theorem ByteK.at{s:List UInt8}{K:UInt8->Prop}(hk:k<s.length)(h:K s[k]):ByteK s k K:=⟨k,s[k],rfl,by simp,h⟩
theorem X.avs_len(l:List X):(X.avs l).length=l.length:=by rw[X.avs_eq];simp
theorem S.avs_len(l:List S):(S.avs l).length=l.length:=by rw[S.avs_eq];simp
theorem IdxK.map{f:α->AV}{l:List α}(hk:k<(l.map f).length)(hs:∀x,(f x).cells.length=sz)(h:K (f (l[k]'(by simpa using hk))).cells):IdxK (l.map f) sz k K:=
 ⟨k,f (l[k]'(by simpa using hk)),rfl,by simp at hk;simp[hk],hs _,h⟩
theorem IdxK.xs{l:List X}(hk:k<(X.avs l).length)(h:K (l[k]'(by rw[X.avs_len]at hk;exact hk)).cells):IdxK (X.avs l) 4 k K:=by
 rw[X.avs_len]at hk;refine⟨k,.agg l[k].cells,rfl,?_,rfl,h⟩;rw[X.avs_eq];simp[hk]
theorem QN{l:List S}(hk:k<(S.avs l).length)(h:K (l[k]'(by rw[S.avs_len]at hk;exact hk)).cells):IdxK (S.avs l) 13 k K:=by
 rw[S.avs_len]at hk;refine⟨k,.agg l[k].cells,rfl,?_,rfl,h⟩;rw[S.avs_eq];simp[hk]
theorem RetK.tt{H:Heap}{b:Bool}(h:b=true):RetK H (.p .tt) (fun r=>r=.bool b):=⟨_,.p (Sub.tt h),rfl⟩
theorem RetK.ff{H:Heap}{b:Bool}(h:b=false):RetK H (.p .ff) (fun r=>r=.bool b):=⟨_,.p (Sub.ff h),rfl⟩
theorem RetK.bool{H:Heap}{a b:Bool}(h:a=b):RetK H (.p (.bool a)) (fun r=>r=.bool b):=⟨_,.p (Sub.bool h),rfl⟩
theorem RetK.int{H:Heap}{k:IntKind}{m n:Int}(h:m=n):RetK H (.p (.int k m)) (fun r=>r=.int k n):=⟨_,.p (Sub.int h),rfl⟩
theorem RetK.p{H:Heap}{a b:AV}(h:a=b):RetK H (.p a) (fun r=>r=b):=⟨_,.p (Sub.of_eq h),rfl⟩
theorem QH{l:List α}(h:j<l.length):l.drop j=l[j]::l.drop (j+1):=by simp
theorem Zx{l:List α}{p:α->Bool}(hj:j<l.length)(h:p l[j]=true):(l.drop (j+1)).all p=(l.drop j).all p:=by
 rw[QH hj,all_cons,h,Bool.true_and]
theorem Vo{l:List α}{p:α->Bool}(hj:j<l.length)(h:p l[j]=false):(l.drop j).all p=false:=by
 rw[QH hj,all_cons,h,Bool.false_and]
theorem Zq{l:List α}{p:α->Bool}(hj:l.length<=j):(l.drop j).all p=true:=by
 rw[q4j hj];rfl
theorem U1{l:List α}{p:α->Bool}(hj:j<l.length)(h:p l[j]=false):(l.drop (j+1)).any p=(l.drop j).any p:=by
 rw[QH hj,any_cons,h,Bool.false_or]
theorem Dh{l:List α}{p:α->Bool}(hj:j<l.length)(h:p l[j]=true):(l.drop j).any p=true:=by
 rw[QH hj,any_cons,h,Bool.true_or]
theorem MC{l:List α}{p:α->Bool}(hj:l.length<=j):(l.drop j).any p=false:=by
 rw[q4j hj];rfl
theorem CA{β:Type}{l:List α}{g:α->β}(hj:j<l.length):(l.take (j+1)).map g=(l.take j).map g++[g l[j]]:=by
 rw[q4y hj,q4z];rfl
def idxF{α:Type}(p:α->Bool)(l:List α):Int:=bif l.any p then(l.findIdx p:Nat)else -1
theorem SS{l:List α}{p:α->Bool}(hj:j<l.length)(h:p l[j]=false):(l.drop j).findIdx p=(l.drop (j+1)).findIdx p+1:=by
 rw[QH hj,List.findIdx_cons,h,q4f]
theorem Il{l:List α}{p:α->Bool}(hj:j<l.length)(h:p l[j]=true):(l.drop j).findIdx p=0:=by
 rw[QH hj,List.findIdx_cons,h,q4v]
theorem LF{p:α->Bool}{l:List α}:decide (idxF p l≥0)=l.any p:=by
 unfold idxF;cases l.any p<;>simp
theorem Xf{p:α->Bool}{l:List α}(hj:j<l.length)(h:p l[j]=true)(h1:(l.drop j).any p=l.any p)(h2:l.findIdx p=j+(l.drop j).findIdx p):idxF p l=j:=by
 unfold idxF;rw[<-h1,Dh hj h,q4v,h2,Il hj h];rfl
theorem Jy{p:α->Bool}{l:List α}(h:l.any p=false):idxF p l = -1:=by
 unfold idxF;rw[h];rfl
theorem MH{T:Tab}{id:Nat}{K:St->Prop}{s:St}(S1:St)(h:DrawK P T N info id ops (fun s=>Fk info id s fun s3=>Le N s3 S1) s)(hK:Fk info id S1 K):
  DrawK P T N info id ops (fun s=>Fk info id s K) s:=by
 refine⟨⟨fun σ β a w hr=>Code.wp_mono (fun e a' w' hk=>?_) (h.ok.ok σ β a w hr)⟩⟩;obtain⟨σ',β',s',hk,hr',hl⟩:=hk;cases e<;>simp only at hk⊢;obtain⟨s2,h1,h2⟩:=Q1 (N:=N) hk;obtain⟨σ2,β2,hr2,hl2⟩:=(h2.trans h1) σ' β' a' w' hr';exact⟨σ2,β2,S1,hK,hr2,hl.trans hl2⟩
theorem Ns{T:Tab}{id:Nat}{K:St->Prop}{s:St}(hT:TabOK P T)(hm:P.follows .mixedOrders=true)(hok:(bif J6 ops.size ops.toList then bif ble (info.sched id).len ops.size then WH ops [] (info.sched id)else false else false)=true)(h:drW P T N ops (info.sched id) s K):DrawK P T N info id ops K s:=DrawK.of hT hm _ hok h
theorem bD{p:Prop}[Decidable p](h:p->A)(h':¬p->B):Br (decide p) A B:=EO h h'
theorem bE{p:Prop}[Decidable p](h:p->A)(h':¬p->B):Br (!decide p) B A:=AP h h'
theorem bB(h:b=true->A)(h':b=false->B):Br b A B:=⟨h,h'⟩
theorem bN(h:b=true->B)(h':b=false->A):Br (!b) A B:=Br.n h h'
theorem iM{n:Nat}{K:Prop}(h:n<=9223372036854775807->K):n<=9223372036854775807->K:=h
theorem wI{n:Int}{K:Int->Prop}(hk:K n)(h1 : -9223372036854775808<=n:=by omega)(h2:n<=9223372036854775807:=by omega):Wr .i64 n K:=Wr.i64 h1 h2 hk
theorem aD{a b c:Prop}(h:c)(h1:a:=by decide)(h2:b:=by decide):(a/\b)/\c:=⟨⟨h1,h2⟩,h⟩
theorem aR{a b c d:Prop}(h:d)(h1:a:=by exact rfl)(h2:b:=by exact rfl)(h3:c:=by decide):(a/\b/\c)/\d:=⟨⟨h1,h2,h3⟩,h⟩
theorem bP{es:List AV}{out:List LV}{Kp Ko:Prop}(hK:Kp)(hx:∀x∈es,x.cells.length=sz:=by intro x hx;rcases q3r.1 hx with rfl;rfl)(ho:out=(es.flatMap AV.cells).map .p:=by exact rfl):BsK es sz out Kp Ko:=.pure hx ho hK
theorem iA{f:α->AV}{l:List α}(h:∀hk:k<l.length,K (f l[k]).cells)(hk:k<(l.map f).length:=by omega)(hs:∀x,(f x).cells.length=sz:=by intro _;rfl):IdxK (l.map f) sz k K:=IdxK.map hk hs (h (by simpa using hk))
theorem dA{id:Nat}{K:St->Prop}{s:St}(h:drW prog tab N ops (info.sched id) s K)(hok:(bif J6 ops.size ops.toList then bif ble (info.sched id).len ops.size then WH ops [] (info.sched id)else false else false)=true:=by kernel_rfl):DrawK prog tab N info id ops K s:=Ns QY mixed hok h
theorem cP{g:FuncId}{args:List LV}{dst:Option Nat}{s:St}{K:St->Prop}{avs:List AV}{c:AV}(hs:SpecP P g avs fun r=>r=c)(h:setD N s.sl dst (.p c) fun sl=>K ⟨sl,s.H⟩)(ha:ArgP args avs:=by(repeat (refine ArgP.cons ?_ ?_;first|exact Sub.refl _|exact Sub.tt rfl|exact Sub.ff rfl|exact Sub.int (by omega)));exact ArgP.nil):CallK P N g args dst s K:=CallK.pure hs ha fun _ e=>e▸h
theorem lE{s:St}{sl':List (Nat×LV)}{H':Heap}(hnd:(H'.map (·.1)).Nodup:=by simp)(hsl:WkS [] s.sl sl':=by(repeat (refine WkS.cons ?_ ?_;exact Wk.refl _));exact WkS.nil)(hH:WkH [] s.H H':=by(repeat refine WkH.cons rfl (CWk.refl _) ?_);exact WkH.nil):Le N s ⟨sl',H'⟩:=Le.mk [] (by simp) (by simp) hnd hsl hH
theorem sB(info:Info){f:FuncId}{fn:Func}{c:Code}(hf:prog.funcs[f]?=some fn)(hb:fn.body=some c)(hgo:∀(vals:Array Value)(w:World),(callFunc f vals).run prog w=.ok (.enter f vals) w){args:List AV}{R:AV->Prop}(h:W prog tab fn.ntmps info c (q1p tab fn.results R) ⟨Gb args 0,[]⟩)(hlen:args.length<=fn.ntmps:=by exact q7p rfl):SpecP prog f args R:=SpecP.body info QY hf hb hgo hlen h
theorem sH(info:Info){f:FuncId}{fn:Func}{c:Code}(hf:prog.funcs[f]?=some fn)(hb:fn.body=some c)(hgo:∀(vals:Array Value)(w:World),(callFunc f vals).run prog w=.ok (.enter f vals) w){args:List LV}{H:Heap}{R:LV->Heap->Prop}(h:W prog tab fn.ntmps info c (q1b tab fn.results R) ⟨Qv args 0,H⟩)(hlen:args.length<=fn.ntmps:=by exact q7p rfl):SpecH prog f args H R:=SpecH.body info QY hf hb hgo hlen h
def NU(c:UInt8):Bool:=decide (97<=(c.toNat:Int))&&decide ((c.toNat:Int)<=122)
def Jk(c:UInt8):Bool:=decide (48<=(c.toNat:Int))&&decide ((c.toNat:Int)<=57)
def ES(c:UInt8):Bool:=NU c||Jk c
theorem Uh(c:UInt8):SpecP prog 170 [.int .u8 c.toNat] (fun r=>r=.bool (NU c)):=by
 refine sB G7 func170 rfl call170 ?_;conv=>whnf
 repeat' (apply bD<;>intro _<;>first|omega|conv=>whnf)
 ·exact RetK.bool (by simp_all[NU];try omega)
 ·exact RetK.ff (by simp_all[NU];try omega)
theorem Tv(c:UInt8):SpecP prog 214 [.int .u8 c.toNat] (fun r=>r=.bool (Jk c)):=by
 refine sB Dq func214 rfl call214 ?_;conv=>whnf
 repeat' (apply bD<;>intro _<;>first|omega|conv=>whnf)
 ·exact RetK.bool (by simp_all[Jk];try omega)
 ·exact RetK.ff (by simp_all[Jk];try omega)
def NG(s:Str)(i:Nat):Nat:=i+((s.drop i).takeWhile ES).length
theorem Uf{s:Str}(h:i<s.length)(hc:ES s[i]=true):NG s (i+1)=NG s i:=by
 unfold NG;rw[QH h,List.takeWhile_cons,if_pos hc];simp only[q4m];omega
theorem Hn{s:Str}(h:∀(hi:i<s.length),ES s[i]=false):NG s i=i:=by
 unfold NG;by_cases hi:i<s.length
 ·rw[QH hi,List.takeWhile_cons,if_neg (by simp[h hi])];rfl
 ·rw[q4j (by omega)];rfl
theorem Eg(s:Str)(i:Nat)(hi:i<=s.length):SpecP prog 171 [.str s,.int .i64 i] (fun r=>r=.int .i64 (NG s i)):=by
 refine sB R4 func171 rfl call171 ?_;conv=>whnf
 refine LoopK.inv QY (fun j:Nat=>⟨[(0,.p (.str s)),(1,.p (.int .i64 j))],[]⟩) (fun j=>j<=s.length/\NG s j=NG s i) (fun j=>s.length-j) i (Le.of_eq rfl) ⟨hi,rfl⟩ ?_;rintro j ⟨h2,h3⟩;conv=>whnf
 repeat' (first|((first|(refine iM fun _=>?_)|refine cP (Uh _) ?_|refine cP (Tv _) ?_|(refine ByteK.at (by omega) ?_)|refine wI ?_);conv=>whnf)|(apply bD<;>intro _<;>first|omega|conv=>whnf)|(apply bB<;>intro _<;>conv=>whnf))
 ·exact⟨j+1,⟨by omega,by rw[Uf (by omega) (by simp_all[ES])];exact h3⟩,by omega,Le.of_eq rfl⟩
 ·exact⟨j+1,⟨by omega,by rw[Uf (by omega) (by simp_all[ES])];exact h3⟩,by omega,Le.of_eq rfl⟩
 ·exact RetK.int (by rw[<-h3,Hn fun _=>by simp_all[ES]])
 ·exact RetK.int (by rw[<-h3,Hn fun _=>by omega])
def Pm(s:Str):Bool:=decide (s=[103,108,111,98,97,108])||decide (s=[112,114,111,99])||decide (s=[118,97,114])||decide (s=[114,101,102])||decide (s=[105,102])||decide (s=[101,108,115,101])||decide (s=[119,104,105,108,101])||decide (s=[98,114,101,97,107])||decide (s=[99,111,110,116,105,110,117,101])||decide (s=[114,101,116,117,114,110])||decide (s=[103,111,116,111])||decide (s=[114,101,97,100])||decide (s=[112,114,105,110,116])
theorem Cj(s:Str):SpecP prog 172 [.str s] (fun r=>r=.bool (Pm s)):=by
 refine sB No func172 rfl call172 ?_;conv=>whnf
 repeat' (apply bB<;>intro _<;>conv=>whnf)
 all_goals first
  |exact RetK.tt (by simp_all[Pm])
  |exact RetK.ff (by simp_all[Pm])
def isName(s:Str):Bool:=if h:1<=s.length/\s.length<=8 then NU (s[0]'(by omega))&&decide (NG s 0=s.length) && !Pm s else false
theorem NK(s:Str):SpecP prog 112 [.str s] (fun r=>r=.bool (isName s)):=by
 refine sB Ni func112 rfl call112 ?_;conv=>whnf
 repeat' (first|((first|(refine iM fun _=>?_)|refine cP (Uh _) ?_|refine cP (Eg _ 0 (q3o _)) ?_|refine cP (Cj _) ?_|(refine ByteK.at (k:=0) (by omega) ?_));conv=>whnf)|(apply bD<;>intro _<;>first|omega|conv=>whnf)|(apply bN<;>intro _<;>conv=>whnf))
 ·exact RetK.ff (by unfold isName;rw[dif_neg (by omega)])
 ·exact RetK.ff (by unfold isName;rw[dif_neg (by omega)])
 ·exact RetK.bool (by unfold isName;rw[dif_pos (by omega)];simp_all;omega)
 ·exact RetK.ff (by unfold isName;rw[dif_pos (by omega)];simp_all;omega)
 ·exact RetK.ff (by unfold isName;rw[dif_pos (by omega)];simp_all)
def namesB(l:List Str):Bool:=l.all isName
theorem Q4(l:List Str):SpecP prog 111 [eStrs l] (fun r=>r=.bool (namesB l)):=by
 refine sB Gw func111 rfl call111 ?_;conv=>whnf
 refine iM fun _=>?_;conv=>whnf
 refine LoopK.inv QY (fun j:Nat=>⟨[(5,.p (eStrs l)),(6,.p (.int .i64 (l.map AV.str).length)),(7,.p (.int .i64 j))],[]⟩) (fun j=>j<=l.length/\(l.drop j).all isName=namesB l) (fun j=>l.length-j) 0 (Le.of_eq rfl) ⟨q3o _,rfl⟩ ?_;rintro j ⟨h2,h3⟩;have hl:(l.map AV.str).length=l.length:=q3f _;conv=>whnf
 repeat' (first|((first|refine cP (NK _) ?_|(refine iA fun _=>?_)|refine wI ?_);conv=>whnf)|(apply bD<;>intro _<;>first|omega|conv=>whnf)|(apply bN<;>intro _<;>conv=>whnf))
 ·exact⟨j+1,⟨by omega,by rw[Zx (by omega) (by assumption)];exact h3⟩,by omega,Le.of_eq rfl⟩
 ·exact RetK.ff (by rw[<-h3,Vo (by omega) (by assumption)])
 ·exact RetK.tt (by rw[<-h3,Zq (by omega)])
def X8(op:Int):Int:=if op=1\/op=2 then 0 else if op=3\/op=4 then 1 else if 5<=op/\op<=17 then 2 else -1
theorem Sv(op:Int):SpecP prog 256 [.int .i64 op] (fun r=>r=.int .i64 (X8 op)):=by
 refine sB Dv func256 rfl call256 ?_;conv=>whnf
 repeat' (apply bD<;>intro _<;>first|omega|conv=>whnf)
 all_goals exact RetK.int (by unfold X8;(repeat' split)<;>omega)
def ZO:Nat->X->Bool
 |0,_=>false
 |n+1,x=>decide ((x.kids.length:Int)=X8 x.op)&&(if x.op=1 then decide (0<=x.n)&&(x.name==[])else if x.op=2 then decide (x.n=0)&&isName x.name else decide (x.n=0)&&(x.name==[])&&x.kids.all (ZO n))
theorem Sw:∀(n:Nat)(_:n<=1000)(x:X),SpecP prog 233 [.agg x.cells,.int .i64 n] (fun r=>r=.bool (ZO n x)):=by
 intro n;induction n with
 | zero=>
   intro _ x;refine sB Z2 func233 rfl call233 ?_;conv=>whnf
   repeat' (first|(refine dA ?_;conv=>whnf)|(apply bD<;>intro _<;>first|omega|conv=>whnf))
   exact RetK.ff rfl
 | succ n ih=>
   intro hn x;refine sB Z2 func233 rfl call233 ?_;conv=>whnf
   repeat' (first|((first|(refine iM fun _=>?_)|refine cP (Sv _) ?_|refine cP (NK _) ?_|refine dA ?_);conv=>whnf)|(apply bD<;>intro _<;>first|omega|conv=>whnf)|(apply bE<;>intro _<;>first|omega|conv=>whnf)|(apply bN<;>intro _<;>conv=>whnf))
   all_goals try (have hk:((X.avs x.kids).length:Int)=x.kids.length:=by rw[X.avs_len])
   ·exact RetK.bool (by simp_all[ZO])
   ·exact RetK.ff (by simp_all[ZO];try omega)
   ·exact RetK.bool (by simp_all[ZO])
   ·exact RetK.ff (by simp_all[ZO];try omega)
   ·have h0:ZO (n+1) x=x.kids.all (ZO n):=by simp_all[ZO]
    rw[h0];refine LoopK.inv QY (fun j:Nat=>⟨[(1,.p (.int .i64 (n+1:Nat))),(49,.p (.sl (X.avs x.kids))),(50,.p (.int .i64 (X.avs x.kids).length)),(51,.p (.int .i64 j))],[]⟩) (fun j=>j<=x.kids.length/\(x.kids.drop j).all (ZO n)=x.kids.all (ZO n)) (fun j=>x.kids.length-j) 0 (Le.of_eq rfl) ⟨q3o _,rfl⟩ ?_;rintro j ⟨h2,h3⟩;conv=>whnf
    repeat' (first|((first|refine q3l rfl ?_|refine IdxK.xs (by omega) ?_|refine wI ?_|(refine CallK.pure (ih (by omega) _) (.cons (Sub.refl _) (.cons (Sub.int (by omega)) .nil)) ?_;rintro _ rfl));conv=>whnf)|(apply bD<;>intro _<;>first|omega|conv=>whnf)|(apply bN<;>intro _<;>conv=>whnf))
    ·exact⟨j+1,⟨by omega,by rw[Zx (by omega) (by assumption)];exact h3⟩,by omega,Le.of_eq rfl⟩
    ·exact RetK.ff (by rw[<-h3,Vo (by omega) (by assumption)])
    ·exact RetK.tt (by rw[<-h3,Zq (by omega)])
   ·exact RetK.ff (by simp_all[ZO];try omega)
   ·exact RetK.ff (by simp_all[ZO];try omega)
   ·exact RetK.ff (by simp_all[ZO];try omega)
def Li(x:X):Bool:=ZO 20 x
theorem JV(x:X):SpecP prog 190 [.agg x.cells] (fun r=>r=.bool (Li x)):=by
 refine sB Vu func190 rfl call190 ?_;conv=>whnf
 repeat' (refine cP (Sw 20 (by omega) _) ?_;conv=>whnf)
 exact RetK.p rfl
def noneB(x:X):Bool:=decide (x.op=0)&&decide (x.n=0)&&(x.name==[])&&((x.kids.length:Int)==0)
theorem Su(x:X):SpecP prog 247 [.agg x.cells] (fun r=>r=.bool (noneB x)):=by
 refine sB Du func247 rfl call247 ?_;conv=>whnf
 repeat' (first|(refine iM fun _=>?_;conv=>whnf)|(apply bD<;>intro _<;>first|omega|conv=>whnf)|(apply bB<;>intro _<;>conv=>whnf))
 all_goals have hk:((X.avs x.kids).length:Int)=x.kids.length:=by rw[X.avs_len]
 all_goals first
  |exact RetK.ff (by simp_all[noneB])
  |exact RetK.bool (by simp_all[noneB])
def GS(s:Str)(is:Bool):Bool:=bif is then isName s else s==[]
theorem Yv(s:Str)(is:Bool):SpecP prog 215 [.str s,.bool is] (fun r=>r=.bool (GS s is)):=by
 refine sB Gz func215 rfl call215 ?_;conv=>whnf
 repeat' (first|(refine cP (NK _) ?_;conv=>whnf)|(apply bN<;>intro _<;>conv=>whnf)|(apply bB<;>intro _<;>conv=>whnf))
 all_goals first
  |exact RetK.tt (by simp_all[GS])
  |exact RetK.ff (by simp_all[GS])
  |exact RetK.bool (by simp_all[GS])
def DN(x:X)(is:Bool):Bool:=bif is then Li x else noneB x
theorem Yu(x:X)(is:Bool):SpecP prog 216 [.agg x.cells,.bool is] (fun r=>r=.bool (DN x is)):=by
 refine sB Gv func216 rfl call216 ?_;conv=>whnf
 repeat' (first|((first|refine cP (JV _) ?_|refine cP (Su _) ?_);conv=>whnf)|(apply bN<;>intro _<;>conv=>whnf)|(apply bB<;>intro _<;>conv=>whnf))
 all_goals first
  |exact RetK.tt (by simp_all[DN])
  |exact RetK.ff (by simp_all[DN])
  |exact RetK.bool (by simp_all[DN])
def Ze(a:Arg):Bool:=GS a.name a.ref&&DN a.x (!a.ref)
theorem Bp(l:List Arg):SpecP prog 217 [RV l] (fun r=>r=.bool (l.all Ze)):=by
 refine sB Ys func217 rfl call217 ?_;conv=>whnf
 refine iM fun _=>?_;conv=>whnf
 refine LoopK.inv QY (fun j:Nat=>⟨[(5,.p (RV l)),(6,.p (.int .i64 (l.map fun a=>AV.agg a.cells).length)),(7,.p (.int .i64 j))],[]⟩) (fun j=>j<=l.length/\(l.drop j).all Ze=l.all Ze) (fun j=>l.length-j) 0 (Le.of_eq rfl) ⟨q3o _,rfl⟩ ?_;rintro j ⟨h2,h3⟩;have hl:(l.map fun a=>AV.agg a.cells).length=l.length:=q3f _;conv=>whnf
 repeat' (first|((first|refine cP (Yv _ _) ?_|refine cP (Yu _ _) ?_|refine q3l rfl ?_|(refine iA fun _=>?_)|refine wI ?_);conv=>whnf)|(apply bD<;>intro _<;>first|omega|conv=>whnf)|(apply bN<;>intro _<;>conv=>whnf))
 ·exact⟨j+1,⟨by omega,by rw[Zx (by omega) (by simp_all[Ze])];exact h3⟩,by omega,Le.of_eq rfl⟩
 ·exact RetK.ff (by rw[<-h3,Vo (by omega) (by simp_all[Ze])])
 ·exact RetK.ff (by rw[<-h3,Vo (by omega) (by simp_all[Ze])])
 ·exact RetK.tt (by rw[<-h3,Zq (by omega)])
structure Flds where
 name:Bool
 proc:Bool
 x:Bool
 has:Bool
 thn:Bool
 els:Bool
def Qf(k:Int)(has:Bool)(noName:Bool):Option Flds:=
 if k=1 then some ⟨true,false,true,has,false,false⟩
 else if k=2 then some ⟨true,false,false,has,false,false⟩
 else if k=10 then some ⟨true,false,false,has,false,false⟩
 else if k=3 then some ⟨false,false,true,has,false,false⟩
 else if k=4 then some ⟨!noName,true,false,has,false,false⟩
 else if k=5 then some ⟨false,false,true,has,true,true⟩
 else if k=6 then some ⟨false,false,true,has,true,false⟩
 else if k=9 then some ⟨false,false,has,false,false,false⟩
 else if k=7 then some ⟨false,false,false,has,false,false⟩
 else if k=8 then some ⟨false,false,false,has,false,false⟩
 else none
def VF(s:S):Bool:=
 match Qf s.kind s.has (s.name==[])with
 |none=>false
 |some f=> !(f.has||(!f.thn&&decide (0<s.thn.length))||(!f.els&&decide (0<s.els.length))||(!decide (s.kind=4)&&decide (0<s.args.length)))&&GS s.name f.name&&GS s.proc f.proc&&DN s.x f.x&&s.args.all Ze
theorem Mh{s:S}{f:Flds}(h:Qf s.kind s.has (s.name==[])=some f):VF s=(!(f.has||(!f.thn&&decide (0<s.thn.length))||(!f.els&&decide (0<s.els.length))||(!decide (s.kind=4)&&decide (0<s.args.length)))&&GS s.name f.name&&GS s.proc f.proc&&DN s.x f.x&&s.args.all Ze):=by
 unfold VF;rw[h]
theorem Bb(s:S):SpecP prog 173 [.agg s.cells] (fun r=>r=.bool (VF s)):=by
 refine sB Yr func173 rfl call173 ?_;conv=>whnf
 repeat' (first|((first|(refine iM fun _=>?_)|refine cP (Yv _ _) ?_|refine cP (Yu _ _) ?_|refine cP (Bp _) ?_|refine dA ?_);conv=>whnf)|(apply bD<;>intro _<;>first|omega|conv=>whnf)|(apply bE<;>intro _<;>first|omega|conv=>whnf)|(apply bN<;>intro _<;>conv=>whnf)|(apply bB<;>intro _<;>conv=>whnf))
 all_goals first
  |exact RetK.ff (by simp_all[VF,Qf,S.avs_len])
  |exact RetK.bool (by simp_all[VF,Qf,S.avs_len])
  |exact RetK.ff (by simp_all[VF,Qf,S.avs_len];omega)
mutual
def Fx(nest seen:Int):S->Option Int
 | .mk id kind labels name proc x has args thn els=>
   if seen+1>200 then none else if id≠seen+1 then none else
   bif namesB labels then bif VF (.mk id kind labels name proc x has args thn els)then
    match YM (nest+1) (seen+1) thn with
    |some m=>YM (nest+1) m els
    |none=>none
   else none else none
def YM(nest seen:Int):List S->Option Int
 |[]=>some seen
 | s::r=>if nest>12 then none else match Fx nest seen s with
   |some m=>YM nest m r
   |none=>none
end
theorem TF(nest seen:Int)(s:S):Fx nest seen s=if seen+1>200 then none else if s.id≠seen+1 then none else
  bif namesB s.labels then bif VF s then
   match YM (nest+1) (seen+1) s.thn with
   |some m=>YM (nest+1) m s.els
   |none=>none
  else none else none:=by
 cases s;rw[Fx];rfl
mutual
theorem Eo(nest seen:Int):∀(s:S){m:Int},Fx nest seen s=some m->seen<m/\m<=200
 | .mk id kind labels name proc x has args thn els,m,h=>by
   simp only[Fx]at h;split at h
   ·cases h
   split at h
   ·cases h
   cases hn:namesB labels<;>rw[hn]at h
   ·cases h
   cases hf:VF (.mk id kind labels name proc x has args thn els)<;>rw[hf]at h
   ·cases h
   simp only[q4v]at h;split at h
   ·rename_i m1 h1;have h2:=Wt (nest+1) (seen+1) thn (by omega) h1;have h3:=Wt (nest+1) m1 els h2.2 h;omega
   ·cases h
theorem Wt(nest seen:Int):∀(l:List S){m:Int},seen<=200->YM nest seen l=some m->seen<=m/\m<=200
 | [],m,h0,h=>by
   simp only[YM]at h;cases h;omega
 | s::r,m,h0,h=>by
   simp only[YM]at h;split at h
   ·cases h
   split at h
   ·rename_i m1 h1;have h2:=Eo nest seen s h1;have h3:=Wt nest m1 r h2.2 h;omega
   ·cases h
end
def Bw(T:Nat)(nest seen:Int)(l:List S)(r:LV)(H:Heap):Prop:=
 match YM nest seen l with
 |some m=>r=.p .tt/\H=[(1000,.obj T [.p (.int .i64 m)])]
 |none=>r=.p .ff/\∃m,H=[(1000,.obj T [.p (.int .i64 m)])]
theorem Y2{m:Int}{l:List S}(h:YM nest seen l=some m):RetHK [(1000,.obj T [.p (.int .i64 m)])] (.p .tt) (Bw T nest seen l):=
 ⟨.p .tt,.refl _,by unfold Bw;rw[h];exact⟨rfl,rfl⟩⟩
theorem LA{m:Int}{l:List S}(h:YM nest seen l=none):RetHK [(1000,.obj T [.p (.int .i64 m)])] (.p .ff) (Bw T nest seen l):=
 ⟨.p .ff,.refl _,by unfold Bw;rw[h];exact⟨rfl,_,rfl⟩⟩
theorem Ws{l:List S}{Q:LV->Heap->Prop}(hs:seen<=200)(h1:∀m,YM nest seen l=some m->seen<=m->m<=200->Q (.p .tt) [(1000,.obj T [.p (.int .i64 m)])])(h2:YM nest seen l=none->∀m,Q (.p .ff) [(1000,.obj T [.p (.int .i64 m)])]):∀l' H',Bw T nest seen l l' H'->Q l' H':=by
 intro l' H' h;unfold Bw at h;cases hr:YM nest seen l with
 | some m=>
   rw[hr]at h;obtain⟨rfl,rfl⟩:=h;have:=Wt nest seen l hs hr;exact h1 m hr this.1 this.2
 | none=>
   rw[hr]at h;obtain⟨rfl,m,rfl⟩:=h;exact h2 hr m
theorem Fq{l:List S}(h:nest>12)(hl:0<l.length):YM nest seen l=none:=by
 cases l with
 |nil=>cases hl
 |cons s r=>simp only[YM];rw[if_pos h]
theorem TH{l:List S}(h:¬nest>12)(hj:j<l.length):YM nest seen (l.drop j)=match Fx nest seen l[j]with
  |some m=>YM nest m (l.drop (j+1))
  |none=>none:=by
 rw[QH hj,YM,if_neg h]
theorem Sy:∀(d n:Nat)(_:n+d=14)(l:List S)(seen:Int)(_:0<=seen)(_:seen<=200),
  SpecH prog 113 [.ptr 1000 0,.p (eSs l),.p (.int .i64 n)] [(1000,.obj 170 [.p (.int .i64 seen)])] (Bw 170 n seen l):=by
 intro d;induction d with
 | zero=>
   intro n hn l seen h0 h1;refine sH YT func113 rfl call113 ?_;conv=>whnf
   repeat' (first|(refine iM fun _=>?_;conv=>whnf)|(apply bD<;>intro _<;>first|omega|conv=>whnf))
   ·exact LA (Fq (by omega) (by rw[S.avs_len]at*;omega))
   ·have hl:=S.avs_len l;obtain rfl:l=[]:=q5b (by omega);refine LoopK.inv QY (fun _:Unit=>⟨[(0,.ptr 1000 0),(2,.p (.int .i64 n)),(16,.p (eSs [])),(17,.p (.int .i64 (S.avs []).length)),(18,.p (.int .i64 0))],[(1000,.obj 170 [.p (.int .i64 seen)])]⟩) (fun _=>True) (fun _=>0) () (Le.of_eq rfl) trivial ?_;intro _ _;conv=>whnf
    repeat' (apply bD<;>intro _<;>first|omega|conv=>whnf)
    exact Y2 rfl
 | succ d ih=>
   intro n hn l seen h0 h1;refine sH YT func113 rfl call113 ?_;have hl:=S.avs_len l;conv=>whnf
   repeat' (first|(refine iM fun _=>?_;conv=>whnf)|(apply bD<;>intro _<;>first|omega|conv=>whnf))
   ·exact LA (Fq (by omega) (by omega))
   all_goals
    refine LoopK.inv QY (fun i:Nat×Int=>⟨[(0,.ptr 1000 0),(2,.p (.int .i64 n)),(16,.p (eSs l)),(17,.p (.int .i64 (S.avs l).length)),(18,.p (.int .i64 i.1))],[(1000,.obj 170 [.p (.int .i64 i.2)])]⟩) (fun i=>i.1<=l.length/\0<=i.2/\i.2<=200/\YM n i.2 (l.drop i.1)=YM n seen l) (fun i=>l.length-i.1) (0,seen) (Le.of_eq rfl) ⟨q3o _,h0,h1,rfl⟩ ?_;rintro⟨j,m⟩ ⟨h2,h3,h4,h5⟩;simp only at h2 h3 h4 h5⊢;conv=>whnf
    repeat' (first|((first|refine cP (Q4 _) ?_|refine cP (Bb _) ?_|refine dA ?_|refine q3l rfl ?_|refine QN (by omega) ?_|refine wI ?_);conv=>whnf)|(apply bD<;>intro _<;>first|omega|conv=>whnf)|(apply bE<;>intro _<;>first|omega|conv=>whnf)|(apply bN<;>intro _<;>conv=>whnf)|(refine CallK.heap [(1000,1000)] 0 (by repeat' (first|exact q4d|refine q3i ?_ ?_|exact q3e _|exact q4q Sub.nils|exact q4q (Sub.tt rfl)|exact q4q (Sub.ff rfl)|exact q4q (Sub.int (by omega)))) (by refine q3h (j:=1000) rfl rfl ?_ ?_;exact CSub.refl _;exact q4b) (ih (n+1) (by omega) _ _ (by omega) (by omega)) rfl rfl (Ws (by omega) (fun _ _ _ _=>?_) (fun _ _=>?_))<;>conv=>whnf))
    all_goals try (have hst:=TH (seen:=m) (l:=l) (j:=j) (nest:=(n:Int)) (by omega) (by omega);rw[TF,show(n:Int)+1=((n+1:Nat):Int)from rfl]at hst)
    all_goals first
     |exact Y2 (by rw[<-h5,q4j (by omega)];simp only[YM])
     |exact LA (by rw[<-h5,hst];clear h5 hst;first|rw[if_pos (by omega:m+1>200)]|(rw[if_neg (by omega:¬m+1>200)];simp[*,-Int.natCast_add]))
     |exact⟨(j+1,_),⟨by simp only;omega,by simp only;omega,by simp only;omega,by rw[<-h5,hst];clear h5 hst;first|rw[if_pos (by omega:m+1>200)]|(rw[if_neg (by omega:¬m+1>200)];simp[*,-Int.natCast_add])⟩,by simp only;omega,Le.of_eq rfl⟩
def DY(f:Pr):Bool:=decide (f.params.length<=8)&&decide (f.vars.length<=16)&&isName f.name&&namesB f.vars&&namesB f.fin&&f.params.all fun a=>isName a.name
def XE(seen:Int):List Pr->Option Int
 |[]=>some seen
 | f::r=>bif DY f then match YM 1 seen f.body with
    |some m=>XE m r
    |none=>none
   else none
def HE(p:Pg):Bool:=decide (p.globals.length<=16)&&decide (p.procs.length<=16)&&namesB p.globals&&(XE 0 p.procs).isSome
theorem Ww{l:List Pr}(hj:j<l.length):XE seen (l.drop j)=bif DY l[j]then match YM 1 seen l[j].body with
   |some m=>XE m (l.drop (j+1))
   |none=>none
  else none:=by
 rw[QH hj,XE]
theorem KZ{f:Pr}:DY f=true↔f.params.length<=8/\f.vars.length<=16/\isName f.name=true/\namesB f.vars=true/\namesB f.fin=true/\(f.params.all fun a=>isName a.name)=true:=by
 simp only[DY,q4k,q4o,and_assoc]
theorem Wx{l:List Pr}(hj:j<l.length)(h:¬(l[j].params.length<=8/\l[j].vars.length<=16/\isName l[j].name=true/\namesB l[j].vars=true/\namesB l[j].fin=true/\(l[j].params.all fun a=>isName a.name)=true)):(XE seen (l.drop j)).isSome=false:=by
 rw[Ww hj];have:DY l[j]=false:=by rw[q8f];intro hm;exact h (KZ.1 hm)
 rw[this];rfl
theorem Kg(p:Pg):SpecP prog 58 [.agg p.cells] (fun r=>r=.bool (HE p)):=by
 refine sB M3 func58 rfl call58 ?_;conv=>whnf
 repeat' (first|((first|(refine iM fun _=>?_)|refine cP (Q4 _) ?_|refine q3l rfl ?_);conv=>whnf)|(apply bD<;>intro _<;>first|omega|conv=>whnf)|(apply bN<;>intro _<;>conv=>whnf))
 all_goals try have hl1:(p.globals.map AV.str).length=p.globals.length:=q3f _
 all_goals try have hl2:(p.procs.map fun f=>AV.agg f.cells).length=p.procs.length:=q3f _
 ·exact RetK.ff (by unfold HE;simp;omega)
 ·exact RetK.ff (by unfold HE;simp;omega)
 ·have h0:HE p=(XE 0 p.procs).isSome:=by unfold HE;simp[*];omega
  rw[h0];refine LoopK.inv QY (fun i:Nat×Int=>⟨[(3,.ptr 0 0),(27,.p (.sl (p.procs.map fun f=>AV.agg f.cells))),(28,.p (.int .i64 (p.procs.map fun f=>AV.agg f.cells).length)),(29,.p (.int .i64 i.1))],[(0,.obj 170 [.p (.int .i64 i.2)])]⟩) (fun i=>i.1<=p.procs.length/\0<=i.2/\i.2<=200/\XE i.2 (p.procs.drop i.1)=XE 0 p.procs) (fun i=>p.procs.length-i.1) (0,0) (Le.of_eq rfl) ⟨q3o _,by decide,by decide,rfl⟩ ?_;rintro⟨j,m⟩ ⟨h2,h3,h4,h5⟩;simp only at h2 h3 h4 h5⊢;conv=>whnf
  repeat' (first|((first|(refine iM fun _=>?_)|refine cP (Q4 _) ?_|refine cP (NK _) ?_|refine q3l rfl ?_|(refine iA fun _=>?_));conv=>whnf)|(apply bD<;>intro _<;>first|omega|conv=>whnf)|(apply bN<;>intro _<;>conv=>whnf))
  all_goals try have hl3:((p.procs[j]'(by omega)).params.map fun a=>AV.agg a.cells).length=(p.procs[j]'(by omega)).params.length:=q3f _
  all_goals try have hl4:((p.procs[j]'(by omega)).vars.map AV.str).length=(p.procs[j]'(by omega)).vars.length:=q3f _
  rotate_left 2
  ·have hj:j<p.procs.length:=by omega
   refine LoopK.inv QY (fun i:Nat=>⟨[(3,.ptr 0 0),(5,.p (.ip p.procs[j].cells)),(27,.p (.sl (p.procs.map fun f=>AV.agg f.cells))),(28,.p (.int .i64 (p.procs.map fun f=>AV.agg f.cells).length)),(29,.p (.int .i64 j)),(62,.p (.sl (p.procs[j].params.map fun a=>AV.agg a.cells))),(63,.p (.int .i64 (p.procs[j].params.map fun a=>AV.agg a.cells).length)),(64,.p (.int .i64 i))],[(0,.obj 170 [.p (.int .i64 m)])]⟩) (fun i=>i<=p.procs[j].params.length/\((p.procs[j].params.drop i).all fun a=>isName a.name)=p.procs[j].params.all fun a=>isName a.name) (fun i=>p.procs[j].params.length-i) 0 (Le.of_eq rfl) ⟨q3o _,rfl⟩ ?_;rintro i ⟨h6,h7⟩;conv=>whnf
   repeat' (first|((first|refine cP (NK _) ?_|refine q3l rfl ?_|(refine iA fun _=>?_)|refine wI ?_);conv=>whnf)|(apply bD<;>intro _<;>first|omega|conv=>whnf)|(apply bN<;>intro _<;>conv=>whnf)|(refine CallK.heap [(1000,0)] 0 (by repeat' (first|exact q4d|refine q3i ?_ ?_|exact q3e _|exact q4q Sub.nils|exact q4q (Sub.tt rfl)|exact q4q (Sub.ff rfl)|exact q4q (Sub.int (by omega)))) (by refine q3h (j:=0) rfl rfl ?_ ?_;exact CSub.refl _;exact q4b) (Sy 13 1 rfl _ _ (by omega) (by omega)) rfl rfl (Ws (by omega) (fun _ _ _ _=>?_) (fun _ _=>?_))<;>conv=>whnf))
   ·exact⟨i+1,⟨by omega,by rw[<-h7,Zx (p:=fun a:Param=>isName a.name) (by omega) (by assumption)]⟩,by omega,Le.of_eq rfl⟩
   ·exact RetK.ff (by
     rw[<-h5];refine Wx hj fun h=>?_;have:=Vo (p:=fun a:Param=>isName a.name) (l:=p.procs[j].params) (j:=i) (by omega) (by assumption);rw[h7,h.2.2.2.2.2]at this;cases this)
   all_goals
    have hall:(p.procs[j].params.all fun a=>isName a.name)=true:=by rw[<-h7,Zq (by omega)]
    have hp:DY p.procs[j]=true:=KZ.2 ⟨by omega,by omega,by assumption,by assumption,by assumption,hall⟩;have hst:=Ww (seen:=m) hj;rw[hp,q4v]at hst
   ·rename_i m2 hrow _ _;replace hrow:YM 1 m p.procs[j].body=some m2:=hrow;rw[hrow]at hst;exact⟨(j+1,m2),⟨by simp only;omega,by simp only;omega,by simp only;omega,by rw[<-h5,hst]⟩,by simp only;omega,Le.of_eq rfl⟩
   ·rename_i hrow _;replace hrow:YM 1 m p.procs[j].body=none:=hrow;rw[hrow]at hst;exact RetK.ff (by rw[<-h5,hst];rfl)
  all_goals first
   |exact RetK.tt (by rw[<-h5,q4j (by omega)];rfl)
   |exact RetK.ff (by rw[<-h5];exact Wx (by omega) fun h=>by omega)
   |exact RetK.ff (by rw[<-h5];exact Wx (by omega) fun h=>by simp_all)
 ·exact RetK.ff (by unfold HE;simp[*])
theorem QO(l:List Str)(v:Str):SpecP prog 126 [eStrs l,.str v] (fun r=>r=.int .i64 (idxF (fun s=>v==s) l)):=by
 refine sB UP func126 rfl call126 ?_;conv=>whnf
 refine iM fun _=>?_;have hl:(l.map AV.str).length=l.length:=q3f _;conv=>whnf
 refine LoopK.inv QY (fun j:Nat=>⟨[(0,.p (eStrs l)),(1,.p (.str v)),(7,.p (.int .i64 (l.map AV.str).length)),(8,.p (.int .i64 j))],[]⟩) (fun j=>j<=l.length/\(l.drop j).any (fun s=>v==s)=l.any (fun s=>v==s)/\l.findIdx (fun s=>v==s)=j+(l.drop j).findIdx (fun s=>v==s)) (fun j=>l.length-j) 0 (Le.of_eq rfl) ⟨q3o _,rfl,by simp⟩ ?_;rintro j ⟨h2,h3,h4⟩;conv=>whnf
 repeat' (first|((first|(refine iA fun _=>?_)|refine wI ?_);conv=>whnf)|(apply bD<;>intro _<;>first|omega|conv=>whnf)|(apply bB<;>intro _<;>conv=>whnf))
 ·exact RetK.int (Xf (p:=fun s=>v==s) (by omega) (by assumption) h3 h4).symm
 ·exact⟨j+1,⟨by omega,by rw[<-h3,U1 (p:=fun s=>v==s) (by omega) (by assumption)],by rw[h4,SS (p:=fun s=>v==s) (by omega) (by assumption)];omega⟩,by omega,Le.of_eq rfl⟩
 ·exact RetK.int (by rw[Jy];rw[<-h3,MC (by omega)])
theorem QX(l:List Str)(v:Str):SpecP prog 114 [eStrs l,.str v] (fun r=>r=.bool (l.any fun s=>v==s)):=by
 refine sB VR func114 rfl call114 ?_;conv=>whnf
 repeat' (refine cP (QO _ _) ?_;conv=>whnf)
 exact RetK.bool LF
def VV(l:List Str):Bool:=(List.range l.length).any fun i=>(l.take i).any fun s=>l[i]?.getD []==s
theorem BR(l:List Str):SpecP prog 127 [eStrs l] (fun r=>r=.bool (VV l)):=by
 refine sB Yp func127 rfl call127 ?_;conv=>whnf
 refine iM fun _=>?_;have hl:(l.map AV.str).length=l.length:=q3f _;conv=>whnf
 refine LoopK.inv QY (fun j:Nat=>⟨[(0,.p (eStrs l)),(5,.p (eStrs l)),(6,.p (.int .i64 (l.map AV.str).length)),(7,.p (.int .i64 j))],[]⟩) (fun j=>j<=l.length/\((List.range l.length).drop j).any (fun i=>(l.take i).any fun s=>l[i]?.getD []==s)=VV l) (fun j=>l.length-j) 0 (Le.of_eq rfl) ⟨q3o _,rfl⟩ ?_;rintro j ⟨h2,h3⟩;conv=>whnf
 repeat' (first|((first|(refine iA fun _=>?_)|refine wI ?_|refine q3l (fun e he=>by obtain⟨x,_,rfl⟩:=q3s.1 he;rfl) (q8s 0 j rfl rfl (by omega) (by omega) ?_)|(refine CallK.pure (QX (l.take j) (l[j]'(by omega))) (.cons (Sub.of_eq (by simp[eStrs,map_take])) (.cons (Sub.refl _) .nil)) ?_;rintro _ rfl));conv=>whnf)|(apply bD<;>intro _<;>first|omega|conv=>whnf)|(apply bB<;>intro _<;>conv=>whnf))
 all_goals try have hr:(List.range l.length)[j]'(by simp;omega)=j:=by simp
 all_goals try have e:l[j]?.getD []=l[j]'(by omega):=by rw[q3b (by omega)];rfl
 ·exact RetK.tt (by rw[<-h3,Dh (p:=fun i=>(l.take i).any fun s=>l[i]?.getD []==s) (by simp;omega) (by rw[hr,e];assumption)])
 ·exact⟨j+1,⟨by omega,by rw[<-h3,U1 (p:=fun i=>(l.take i).any fun s=>l[i]?.getD []==s) (by simp;omega) (by rw[hr,e];assumption)]⟩,by omega,Le.of_eq rfl⟩
 ·exact RetK.ff (by rw[<-h3,MC (by simp;omega)])
def Wd(f:Pr):List Str:=f.params.map Param.name++f.vars
theorem Fz(f:Pr)(h1:f.params.length<=1000)(h2:f.vars.length<=1000):SpecP prog 128 [.agg f.cells] (fun r=>r=eStrs (Wd f)):=by
 refine sB Dz func128 rfl call128 ?_;conv=>whnf
 refine iM fun _=>?_;have hl:(f.params.map fun a=>AV.agg a.cells).length=f.params.length:=q3f _;conv=>whnf
 refine LoopK.inv QY (fun j:Nat=>⟨[(1,.p (.ip f.cells)),(3,.hd 0 0 j),(7,.p (.sl (f.params.map fun a=>AV.agg a.cells))),(8,.p (.int .i64 (f.params.map fun a=>AV.agg a.cells).length)),(9,.p (.int .i64 j))],[(0,.own 9 1 ((f.params.take j).map fun a=>AV.str a.name))]⟩) (fun j=>j<=f.params.length) (fun j=>f.params.length-j) 0
  (Le.mk [(0,.own 9 1 [])] (by simp[Chunk.new0];rfl) (by simp) (by simp) (.r (.cons (.nil q3d) (.r (.r (.r .nil))))) (.new q3d .nil)) (q3o _) ?_
 intro j h3;conv=>whnf
 repeat' (first|((first|refine q3l rfl ?_|refine aD ?_|refine bP ?_|(refine iA fun _=>?_)|refine wI ?_|refine q6g (by simp;omega) rfl (by show(j+1)*16<=140737488355328;omega) (by show j+1<=9223372036854775807;omega) (fun x hx=>by rcases q3r.1 hx with rfl;exact⟨rfl,rfl⟩) ?_|refine q6g (by simp;omega) rfl (by rw[q3f];show(j+f.vars.length)*16<=140737488355328;omega) (by rw[q3f];show j+f.vars.length<=9223372036854775807;omega) (fun x hx=>by obtain⟨y,_,rfl⟩:=q3s.1 hx;exact⟨rfl,rfl⟩) ?_);conv=>whnf)|(apply bD<;>intro _<;>first|omega|conv=>whnf))
 ·exact⟨j+1,by omega,by omega,Le.of_eq (by rw[CA (by omega)];rfl)⟩
 ·refine⟨_,.hd rfl (by simp;omega),?_⟩;rw[q4g (by omega)];simp[eStrs,Wd]
mutual
def WJ:S->Nat
 |.mk _ _ _ _ _ _ _ _ thn els=>1+cntL thn+cntL els
def cntL:List S->Nat
 |[]=>0
 |s::r=>WJ s+cntL r
end
theorem WK(s:S):WJ s=1+cntL s.thn+cntL s.els:=by
 cases s;rw[WJ];rfl
theorem PC{l:List S}(hj:j<l.length):cntL (l.drop j)=WJ l[j]+cntL (l.drop (j+1)):=by
 rw[QH hj,cntL]
theorem P7{l:List S}(hj:l.length<=j):cntL (l.drop j)=0:=by
 rw[q4j hj,cntL]
theorem RD:∀(n:Nat)(_:n<=100000)(s:S)(_:WJ s<=n),SpecP prog 175 [.agg s.cells] (fun r=>r=.int .i64 (WJ s)):=by
 intro n;induction n with
 |zero=>intro _ s h;rw[WK]at h;omega
 | succ n ih=>
   intro hn s h;have hs:=WK s;have hl1:=S.avs_len s.thn;have hl2:=S.avs_len s.els;refine sB D6 func175 rfl call175 ?_;conv=>whnf
   repeat' (refine iM fun _=>?_;conv=>whnf)
   refine LoopK.inv QY (fun i:Nat×Nat=>⟨[(1,.p (.ip s.cells)),(3,.p (.int .i64 i.2)),(9,.p (eSs s.thn)),(10,.p (.int .i64 (S.avs s.thn).length)),(11,.p (.int .i64 i.1))],[]⟩) (fun i=>i.1<=s.thn.length/\1<=i.2/\i.2+cntL (s.thn.drop i.1)=1+cntL s.thn) (fun i=>s.thn.length-i.1) (0,1) (Le.of_eq rfl) ⟨q3o _,q4h _,rfl⟩ ?_;rintro⟨j,a⟩ ⟨h2,h4,h3⟩;simp only at h2 h3 h4⊢;have hst:∀hj:j<s.thn.length,cntL (s.thn.drop j)=WJ s.thn[j]+cntL (s.thn.drop (j+1)):=fun hj=>PC hj;conv=>whnf
   repeat' (first|((first|(refine iM fun _=>?_)|refine q3l rfl ?_|refine QN (by omega) ?_|refine wI ?_|(refine CallK.pure (ih (by omega) (s.thn[j]'(by omega)) (by have:=hst (by omega);omega)) (.cons (Sub.refl _) .nil) ?_;rintro _ rfl;have hst:=hst (by omega)));conv=>whnf)|(apply bD<;>intro _<;>first|omega|conv=>whnf))
   ·exact⟨(j+1,a+WJ s.thn[j]),⟨by simp only;omega,by simp only;omega,by simp only;omega⟩,by simp only;omega,Le.of_eq rfl⟩
   ·have ha:a=1+cntL s.thn:=by rw[P7 (by omega)]at h3;omega
    refine LoopK.inv QY (fun i:Nat×Nat=>⟨[(3,.p (.int .i64 i.2)),(21,.p (eSs s.els)),(22,.p (.int .i64 (S.avs s.els).length)),(23,.p (.int .i64 i.1))],[]⟩) (fun i=>i.1<=s.els.length/\1<=i.2/\i.2+cntL (s.els.drop i.1)=WJ s) (fun i=>s.els.length-i.1) (0,a) (Le.of_eq rfl) ⟨q3o _,h4,by simp only[List.drop_zero];omega⟩ ?_;rintro⟨k,b⟩ ⟨h5,h6,h7⟩;simp only at h5 h6 h7⊢;have hst2:∀hk:k<s.els.length,cntL (s.els.drop k)=WJ s.els[k]+cntL (s.els.drop (k+1)):=fun hk=>PC hk;conv=>whnf
    repeat' (first|((first|refine q3l rfl ?_|refine QN (by omega) ?_|refine wI ?_|(refine CallK.pure (ih (by omega) (s.els[k]'(by omega)) (by have:=hst2 (by omega);omega)) (.cons (Sub.refl _) .nil) ?_;rintro _ rfl;have hst2:=hst2 (by omega)));conv=>whnf)|(apply bD<;>intro _<;>first|omega|conv=>whnf))
    ·exact⟨(k+1,b+WJ s.els[k]),⟨by simp only;omega,by simp only;omega,by simp only;omega⟩,by simp only;omega,Le.of_eq rfl⟩
    ·exact RetK.int (by rw[P7 (by omega)]at h7;omega)
structure Item where
 s:S
 proc:Int
 up:Int
 next:Int
 loop:Int
def Item.cells(i:Item):List AV:=i.s.cells++[.int .i64 i.proc,.int .i64 i.up,.int .i64 i.next,.int .i64 i.loop]
mutual
def Xt(proc up nx loop:Int)(acc:List Item):S->List Item
 | .mk id kind labels name pr x has args thn els=>
   XF proc (acc.length+1) (if kind=6 then acc.length+1 else nx) (if kind=6 then acc.length+1 else loop)
    (XF proc (acc.length+1) (if kind=6 then acc.length+1 else nx) (if kind=6 then acc.length+1 else loop) (acc++[⟨.mk id kind labels name pr x has args thn els,proc,up,nx,loop⟩]) thn) els
def XF(proc up nx loop:Int)(acc:List Item):List S->List Item
 |[]=>acc
 |t::r=>XF proc up nx loop (Xt proc up (if r.isEmpty then nx else acc.length+1+WJ t) loop acc t) r
end
theorem FU(proc up nx loop:Int)(acc:List Item)(t:S):Xt proc up nx loop acc t=XF proc (acc.length+1) (if t.kind=6 then acc.length+1 else nx) (if t.kind=6 then acc.length+1 else loop)
   (XF proc (acc.length+1) (if t.kind=6 then acc.length+1 else nx) (if t.kind=6 then acc.length+1 else loop) (acc++[⟨t,proc,up,nx,loop⟩]) t.thn) t.els:=by
 cases t;rw[Xt];rfl
mutual
theorem XO(proc up nx loop:Int)(acc:List Item):∀t:S,(Xt proc up nx loop acc t).length=acc.length+WJ t
 | .mk id kind labels name pr x has args thn els=>by
   rw[Xt,WJ,XY _ _ _ _ _ els,XY _ _ _ _ _ thn];simp;omega
theorem XY(proc up nx loop:Int)(acc:List Item):∀l:List S,(XF proc up nx loop acc l).length=acc.length+cntL l
 |[]=>by rw[XF,cntL];rfl
 | t::r=>by
   rw[XF,cntL,XY _ _ _ _ _ r,XO _ _ _ _ _ t];omega
end
theorem VW{proc up nx loop:Int}{acc:List Item}{l:List S}(hj:j<l.length):
  XF proc up nx loop acc (l.drop j)=XF proc up nx loop (Xt proc up (if j+1<l.length then acc.length+1+WJ l[j]else nx) loop acc l[j]) (l.drop (j+1)):=by
 rw[QH hj,XF];congr 2;by_cases h:j+1<l.length
 ·rw[if_pos h,if_neg];simp only[List.isEmpty_iff];intro he;have:=q5i List.length he;simp at this;omega
 ·rw[if_neg h,if_pos];rw[q4j (by omega)];rfl
def TR(tS tI tN:Nat)(gl pr:AV)(L:List Item)(lo hi:List Int):Heap:=
 [(1000,.obj tS [.p gl,.p pr,.hd 2000 0 L.length,.hd 2001 0 lo.length,.hd 2002 0 hi.length]),(2000,.own tI 17 (L.map fun i=>.agg i.cells)),(2001,.own tN 1 (lo.map (.int .i64))),(2002,.own tN 1 (hi.map (.int .i64)))]
def X0:X:=.mk 0 0 [] []
def S0:S:=.mk 0 0 [] [] [] X0 false [] [] []
theorem LSub.agg{cs ds:List AV}(h:SubL cs ds):LSub (.p (.agg cs)) (.p (.agg ds)):=.p (Sub.agg h)
theorem Pw:∀(n:Nat)(_:n<=1000)(l:List S)(_:cntL l<n)(acc:List Item)(_:acc.length+cntL l<=1000)(a:Item)(gl pr:AV)(lo hi:List Int),
  SpecH prog 116 [.ptr 1000 0,.p (eSs l),.p (.agg a.cells)] (TR 109 106 3 gl pr acc lo hi)
   (fun r H=>r=.p (.tup [])/\H=TR 109 106 3 gl pr (XF a.proc a.up a.next a.loop acc l) lo hi):=by
 intro n;induction n with
 |zero=>intro _ l h;omega
 | succ n ih=>
   intro hn l hl acc hacc a gl pr lo hi;have hl1:=S.avs_len l;refine sH Qa func116 rfl call116 ?_;conv=>whnf
   repeat' (refine iM fun _=>?_;conv=>whnf)
   refine LoopK.inv QY (fun i:Nat×List Item=>⟨[(0,.ptr 1000 0),(1,.p (eSs l)),(5,.p (.ip a.cells)),(11,.p (eSs l)),(12,.p (.int .i64 (S.avs l).length)),(13,.p (.int .i64 i.1))],TR 109 106 3 gl pr i.2 lo hi⟩) (fun i=>i.1<=l.length/\acc.length<=i.2.length/\i.2.length+cntL (l.drop i.1)=acc.length+cntL l/\XF a.proc a.up a.next a.loop i.2 (l.drop i.1)=XF a.proc a.up a.next a.loop acc l) (fun i=>l.length-i.1) (0,acc) (Le.of_eq rfl) ⟨q3o _,q4h _,rfl,rfl⟩ ?_;rintro⟨j,b⟩ ⟨h2,h5,h3,h4⟩;simp only at h2 h3 h4 h5⊢;have hst:∀hj:j<l.length,cntL (l.drop j)=WJ l[j]+cntL (l.drop (j+1)):=fun hj=>PC hj;conv=>whnf
   repeat' (first|((first|(refine iM fun _=>?_)|refine dA ?_|refine q3l rfl ?_|refine aD ?_|refine bP ?_|refine QN (by omega) ?_|refine wI ?_|(refine CallK.pure (RD 1000 (by omega) (l[j]'(by omega)) (by have:=hst (by omega);omega)) (.cons (Sub.refl _) .nil) ?_;rintro _ rfl)|refine Wr.i64 (by have:=hst (by omega);omega) (by have:=hst (by omega);omega) ?_|refine q6g (by simp) rfl (by show(b.length+1)*240<=140737488355328;have:=hst (by omega);omega) (by show b.length+1<=9223372036854775807;have:=hst (by omega);omega) (fun x hx=>by rcases q3r.1 hx with rfl;exact⟨rfl,rfl⟩) ?_);conv=>whnf)|(apply bD<;>intro _<;>first|omega|conv=>whnf)|(refine q3l ?_ ?_<;>conv=>whnf))
   ·have hj:j<l.length:=by omega
    have hst:=hst hj;have hcs:=WK l[j];refine CallK.heap [(1000,1000),(2000,2000),(2001,2001),(2002,2002)] 0 (by refine q3i (q3e _) (q3i (q3e _) (q3i (LSub.agg ?_) q4d));repeat' (first|exact SubL.nil|refine SubL.cons ?_ ?_|exact Sub.refl _|exact Sub.nils|exact Sub.ff rfl)) (by exact q3h (j:=1000) rfl rfl (CSub.of_eq (by rw[q3m];first|done|rfl)) (q3h (j:=2000) rfl rfl (CSub.of_eq (by rw[q4z];first|done|rfl)) (q3h (j:=2001) rfl rfl (CSub.refl _) (q3h (j:=2002) rfl rfl (CSub.refl _) q4b)))) (ih (by omega) l[j].thn (by omega) (b++[⟨l[j]'hj,a.proc,a.up,(b.length+1+WJ (l[j]'hj):Int),a.loop⟩]) (by rw[q3m];simp only[q4r];omega) ⟨S0,a.proc,b.length+1,(b.length+1:Int),(b.length+1:Int)⟩ gl pr lo hi) rfl rfl ?_;rintro l' H' ⟨rfl,rfl⟩;conv=>whnf
    refine CallK.heap [(1000,1000),(2000,2000),(2001,2001),(2002,2002)] 0 (by refine q3i (q3e _) (q3i (q3e _) (q3i (LSub.agg ?_) q4d));repeat' (first|exact SubL.nil|refine SubL.cons ?_ ?_|exact Sub.refl _|exact Sub.nils|exact Sub.ff rfl)) (by exact q3h (j:=1000) rfl rfl (CSub.refl _) (q3h (j:=2000) rfl rfl (CSub.refl _) (q3h (j:=2001) rfl rfl (CSub.refl _) (q3h (j:=2002) rfl rfl (CSub.refl _) q4b)))) (ih (by omega) l[j].els (by omega) (XF a.proc (b.length+1) (b.length+1:Int) (b.length+1:Int) (b++[⟨l[j]'hj,a.proc,a.up,(b.length+1+WJ (l[j]'hj):Int),a.loop⟩]) (l[j]'hj).thn) (by rw[XY,q3m];simp only[q4r];omega) ⟨S0,a.proc,b.length+1,(b.length+1:Int),(b.length+1:Int)⟩ gl pr lo hi) rfl rfl ?_;rintro l' H' ⟨rfl,rfl⟩;conv=>whnf
    refine wI ?_;conv=>whnf
    have hrow:Xt a.proc a.up (b.length+1+WJ (l[j]'hj):Int) a.loop b l[j]=XF a.proc (b.length+1) (b.length+1:Int) (b.length+1:Int) (XF a.proc (b.length+1) (b.length+1:Int) (b.length+1:Int) (b++[⟨l[j]'hj,a.proc,a.up,(b.length+1+WJ (l[j]'hj):Int),a.loop⟩]) (l[j]'hj).thn) l[j].els:=by
     rw[FU,if_pos (by assumption),if_pos (by assumption)]
    exact⟨(j+1,Xt a.proc a.up (b.length+1+WJ (l[j]'hj):Int) a.loop b l[j]),⟨by simp only;omega,by simp only;rw[XO];omega,by simp only;rw[XO];omega,by simp only;rw[<-h4,VW hj,if_pos (by omega)]⟩,by simp only;omega,Le.of_eq (by simp only;rw[hrow];rfl)⟩
   ·have hj:j<l.length:=by omega
    have hst:=hst hj;have hcs:=WK l[j];refine CallK.heap [(1000,1000),(2000,2000),(2001,2001),(2002,2002)] 0 (by refine q3i (q3e _) (q3i (q3e _) (q3i (LSub.agg ?_) q4d));repeat' (first|exact SubL.nil|refine SubL.cons ?_ ?_|exact Sub.refl _|exact Sub.nils|exact Sub.ff rfl)) (by exact q3h (j:=1000) rfl rfl (CSub.of_eq (by rw[q3m];first|done|rfl)) (q3h (j:=2000) rfl rfl (CSub.of_eq (by rw[q4z];first|done|rfl)) (q3h (j:=2001) rfl rfl (CSub.refl _) (q3h (j:=2002) rfl rfl (CSub.refl _) q4b)))) (ih (by omega) l[j].thn (by omega) (b++[⟨l[j]'hj,a.proc,a.up,(b.length+1+WJ (l[j]'hj):Int),a.loop⟩]) (by rw[q3m];simp only[q4r];omega) ⟨S0,a.proc,b.length+1,(b.length+1+WJ (l[j]'hj):Int),a.loop⟩ gl pr lo hi) rfl rfl ?_;rintro l' H' ⟨rfl,rfl⟩;conv=>whnf
    refine CallK.heap [(1000,1000),(2000,2000),(2001,2001),(2002,2002)] 0 (by refine q3i (q3e _) (q3i (q3e _) (q3i (LSub.agg ?_) q4d));repeat' (first|exact SubL.nil|refine SubL.cons ?_ ?_|exact Sub.refl _|exact Sub.nils|exact Sub.ff rfl)) (by exact q3h (j:=1000) rfl rfl (CSub.refl _) (q3h (j:=2000) rfl rfl (CSub.refl _) (q3h (j:=2001) rfl rfl (CSub.refl _) (q3h (j:=2002) rfl rfl (CSub.refl _) q4b)))) (ih (by omega) l[j].els (by omega) (XF a.proc (b.length+1) (b.length+1+WJ (l[j]'hj):Int) a.loop (b++[⟨l[j]'hj,a.proc,a.up,(b.length+1+WJ (l[j]'hj):Int),a.loop⟩]) (l[j]'hj).thn) (by rw[XY,q3m];simp only[q4r];omega) ⟨S0,a.proc,b.length+1,(b.length+1+WJ (l[j]'hj):Int),a.loop⟩ gl pr lo hi) rfl rfl ?_;rintro l' H' ⟨rfl,rfl⟩;conv=>whnf
    refine wI ?_;conv=>whnf
    have hrow:Xt a.proc a.up (b.length+1+WJ (l[j]'hj):Int) a.loop b l[j]=XF a.proc (b.length+1) (b.length+1+WJ (l[j]'hj):Int) a.loop (XF a.proc (b.length+1) (b.length+1+WJ (l[j]'hj):Int) a.loop (b++[⟨l[j]'hj,a.proc,a.up,(b.length+1+WJ (l[j]'hj):Int),a.loop⟩]) (l[j]'hj).thn) l[j].els:=by
     rw[FU,if_neg (by assumption),if_neg (by assumption)]
    exact⟨(j+1,Xt a.proc a.up (b.length+1+WJ (l[j]'hj):Int) a.loop b l[j]),⟨by simp only;omega,by simp only;rw[XO];omega,by simp only;rw[XO];omega,by simp only;rw[<-h4,VW hj,if_pos (by omega)]⟩,by simp only;omega,Le.of_eq (by simp only;rw[hrow];rfl)⟩
   ·have hj:j<l.length:=by omega
    have hst:=hst hj;have hcs:=WK l[j];refine CallK.heap [(1000,1000),(2000,2000),(2001,2001),(2002,2002)] 0 (by refine q3i (q3e _) (q3i (q3e _) (q3i (LSub.agg ?_) q4d));repeat' (first|exact SubL.nil|refine SubL.cons ?_ ?_|exact Sub.refl _|exact Sub.nils|exact Sub.ff rfl)) (by exact q3h (j:=1000) rfl rfl (CSub.of_eq (by rw[q3m];first|done|rfl)) (q3h (j:=2000) rfl rfl (CSub.of_eq (by rw[q4z];first|done|rfl)) (q3h (j:=2001) rfl rfl (CSub.refl _) (q3h (j:=2002) rfl rfl (CSub.refl _) q4b)))) (ih (by omega) l[j].thn (by omega) (b++[⟨l[j]'hj,a.proc,a.up,(b.length+1+WJ (l[j]'hj):Int),a.loop⟩]) (by rw[q3m];simp only[q4r];omega) ⟨S0,a.proc,b.length+1,(b.length+1:Int),(b.length+1:Int)⟩ gl pr lo hi) rfl rfl ?_;rintro l' H' ⟨rfl,rfl⟩;conv=>whnf
    refine CallK.heap [(1000,1000),(2000,2000),(2001,2001),(2002,2002)] 0 (by refine q3i (q3e _) (q3i (q3e _) (q3i (LSub.agg ?_) q4d));repeat' (first|exact SubL.nil|refine SubL.cons ?_ ?_|exact Sub.refl _|exact Sub.nils|exact Sub.ff rfl)) (by exact q3h (j:=1000) rfl rfl (CSub.refl _) (q3h (j:=2000) rfl rfl (CSub.refl _) (q3h (j:=2001) rfl rfl (CSub.refl _) (q3h (j:=2002) rfl rfl (CSub.refl _) q4b)))) (ih (by omega) l[j].els (by omega) (XF a.proc (b.length+1) (b.length+1:Int) (b.length+1:Int) (b++[⟨l[j]'hj,a.proc,a.up,(b.length+1+WJ (l[j]'hj):Int),a.loop⟩]) (l[j]'hj).thn) (by rw[XY,q3m];simp only[q4r];omega) ⟨S0,a.proc,b.length+1,(b.length+1:Int),(b.length+1:Int)⟩ gl pr lo hi) rfl rfl ?_;rintro l' H' ⟨rfl,rfl⟩;conv=>whnf
    refine wI ?_;conv=>whnf
    have hrow:Xt a.proc a.up (b.length+1+WJ (l[j]'hj):Int) a.loop b l[j]=XF a.proc (b.length+1) (b.length+1:Int) (b.length+1:Int) (XF a.proc (b.length+1) (b.length+1:Int) (b.length+1:Int) (b++[⟨l[j]'hj,a.proc,a.up,(b.length+1+WJ (l[j]'hj):Int),a.loop⟩]) (l[j]'hj).thn) l[j].els:=by
     rw[FU,if_pos (by assumption),if_pos (by assumption)]
    exact⟨(j+1,Xt a.proc a.up (b.length+1+WJ (l[j]'hj):Int) a.loop b l[j]),⟨by simp only;omega,by simp only;rw[XO];omega,by simp only;rw[XO];omega,by simp only;rw[<-h4,VW hj,if_pos (by omega)]⟩,by simp only;omega,Le.of_eq (by simp only;rw[hrow];rfl)⟩
   ·have hj:j<l.length:=by omega
    have hst:=hst hj;have hcs:=WK l[j];refine CallK.heap [(1000,1000),(2000,2000),(2001,2001),(2002,2002)] 0 (by refine q3i (q3e _) (q3i (q3e _) (q3i (LSub.agg ?_) q4d));repeat' (first|exact SubL.nil|refine SubL.cons ?_ ?_|exact Sub.refl _|exact Sub.nils|exact Sub.ff rfl)) (by exact q3h (j:=1000) rfl rfl (CSub.of_eq (by rw[q3m];first|done|rfl)) (q3h (j:=2000) rfl rfl (CSub.of_eq (by rw[q4z];first|done|rfl)) (q3h (j:=2001) rfl rfl (CSub.refl _) (q3h (j:=2002) rfl rfl (CSub.refl _) q4b)))) (ih (by omega) l[j].thn (by omega) (b++[⟨l[j]'hj,a.proc,a.up,(b.length+1+WJ (l[j]'hj):Int),a.loop⟩]) (by rw[q3m];simp only[q4r];omega) ⟨S0,a.proc,b.length+1,(b.length+1+WJ (l[j]'hj):Int),a.loop⟩ gl pr lo hi) rfl rfl ?_;rintro l' H' ⟨rfl,rfl⟩;conv=>whnf
    refine CallK.heap [(1000,1000),(2000,2000),(2001,2001),(2002,2002)] 0 (by refine q3i (q3e _) (q3i (q3e _) (q3i (LSub.agg ?_) q4d));repeat' (first|exact SubL.nil|refine SubL.cons ?_ ?_|exact Sub.refl _|exact Sub.nils|exact Sub.ff rfl)) (by exact q3h (j:=1000) rfl rfl (CSub.refl _) (q3h (j:=2000) rfl rfl (CSub.refl _) (q3h (j:=2001) rfl rfl (CSub.refl _) (q3h (j:=2002) rfl rfl (CSub.refl _) q4b)))) (ih (by omega) l[j].els (by omega) (XF a.proc (b.length+1) (b.length+1+WJ (l[j]'hj):Int) a.loop (b++[⟨l[j]'hj,a.proc,a.up,(b.length+1+WJ (l[j]'hj):Int),a.loop⟩]) (l[j]'hj).thn) (by rw[XY,q3m];simp only[q4r];omega) ⟨S0,a.proc,b.length+1,(b.length+1+WJ (l[j]'hj):Int),a.loop⟩ gl pr lo hi) rfl rfl ?_;rintro l' H' ⟨rfl,rfl⟩;conv=>whnf
    refine wI ?_;conv=>whnf
    have hrow:Xt a.proc a.up (b.length+1+WJ (l[j]'hj):Int) a.loop b l[j]=XF a.proc (b.length+1) (b.length+1+WJ (l[j]'hj):Int) a.loop (XF a.proc (b.length+1) (b.length+1+WJ (l[j]'hj):Int) a.loop (b++[⟨l[j]'hj,a.proc,a.up,(b.length+1+WJ (l[j]'hj):Int),a.loop⟩]) (l[j]'hj).thn) l[j].els:=by
     rw[FU,if_neg (by assumption),if_neg (by assumption)]
    exact⟨(j+1,Xt a.proc a.up (b.length+1+WJ (l[j]'hj):Int) a.loop b l[j]),⟨by simp only;omega,by simp only;rw[XO];omega,by simp only;rw[XO];omega,by simp only;rw[<-h4,VW hj,if_pos (by omega)]⟩,by simp only;omega,Le.of_eq (by simp only;rw[hrow];rfl)⟩
   ·have hj:j<l.length:=by omega
    have hst:=hst hj;have hcs:=WK l[j];refine CallK.heap [(1000,1000),(2000,2000),(2001,2001),(2002,2002)] 0 (by refine q3i (q3e _) (q3i (q3e _) (q3i (LSub.agg ?_) q4d));repeat' (first|exact SubL.nil|refine SubL.cons ?_ ?_|exact Sub.refl _|exact Sub.nils|exact Sub.ff rfl)) (by exact q3h (j:=1000) rfl rfl (CSub.of_eq (by rw[q3m];first|done|rfl)) (q3h (j:=2000) rfl rfl (CSub.of_eq (by rw[q4z];first|done|rfl)) (q3h (j:=2001) rfl rfl (CSub.refl _) (q3h (j:=2002) rfl rfl (CSub.refl _) q4b)))) (ih (by omega) l[j].thn (by omega) (b++[⟨l[j]'hj,a.proc,a.up,a.next,a.loop⟩]) (by rw[q3m];simp only[q4r];omega) ⟨S0,a.proc,b.length+1,(b.length+1:Int),(b.length+1:Int)⟩ gl pr lo hi) rfl rfl ?_;rintro l' H' ⟨rfl,rfl⟩;conv=>whnf
    refine CallK.heap [(1000,1000),(2000,2000),(2001,2001),(2002,2002)] 0 (by refine q3i (q3e _) (q3i (q3e _) (q3i (LSub.agg ?_) q4d));repeat' (first|exact SubL.nil|refine SubL.cons ?_ ?_|exact Sub.refl _|exact Sub.nils|exact Sub.ff rfl)) (by exact q3h (j:=1000) rfl rfl (CSub.refl _) (q3h (j:=2000) rfl rfl (CSub.refl _) (q3h (j:=2001) rfl rfl (CSub.refl _) (q3h (j:=2002) rfl rfl (CSub.refl _) q4b)))) (ih (by omega) l[j].els (by omega) (XF a.proc (b.length+1) (b.length+1:Int) (b.length+1:Int) (b++[⟨l[j]'hj,a.proc,a.up,a.next,a.loop⟩]) (l[j]'hj).thn) (by rw[XY,q3m];simp only[q4r];omega) ⟨S0,a.proc,b.length+1,(b.length+1:Int),(b.length+1:Int)⟩ gl pr lo hi) rfl rfl ?_;rintro l' H' ⟨rfl,rfl⟩;conv=>whnf
    refine wI ?_;conv=>whnf
    have hrow:Xt a.proc a.up a.next a.loop b l[j]=XF a.proc (b.length+1) (b.length+1:Int) (b.length+1:Int) (XF a.proc (b.length+1) (b.length+1:Int) (b.length+1:Int) (b++[⟨l[j]'hj,a.proc,a.up,a.next,a.loop⟩]) (l[j]'hj).thn) l[j].els:=by
     rw[FU,if_pos (by assumption),if_pos (by assumption)]
    exact⟨(j+1,Xt a.proc a.up a.next a.loop b l[j]),⟨by simp only;omega,by simp only;rw[XO];omega,by simp only;rw[XO];omega,by simp only;rw[<-h4,VW hj,if_neg (by omega)]⟩,by simp only;omega,Le.of_eq (by simp only;rw[hrow];rfl)⟩
   ·have hj:j<l.length:=by omega
    have hst:=hst hj;have hcs:=WK l[j];refine CallK.heap [(1000,1000),(2000,2000),(2001,2001),(2002,2002)] 0 (by refine q3i (q3e _) (q3i (q3e _) (q3i (LSub.agg ?_) q4d));repeat' (first|exact SubL.nil|refine SubL.cons ?_ ?_|exact Sub.refl _|exact Sub.nils|exact Sub.ff rfl)) (by exact q3h (j:=1000) rfl rfl (CSub.of_eq (by rw[q3m];first|done|rfl)) (q3h (j:=2000) rfl rfl (CSub.of_eq (by rw[q4z];first|done|rfl)) (q3h (j:=2001) rfl rfl (CSub.refl _) (q3h (j:=2002) rfl rfl (CSub.refl _) q4b)))) (ih (by omega) l[j].thn (by omega) (b++[⟨l[j]'hj,a.proc,a.up,a.next,a.loop⟩]) (by rw[q3m];simp only[q4r];omega) ⟨S0,a.proc,b.length+1,a.next,a.loop⟩ gl pr lo hi) rfl rfl ?_;rintro l' H' ⟨rfl,rfl⟩;conv=>whnf
    refine CallK.heap [(1000,1000),(2000,2000),(2001,2001),(2002,2002)] 0 (by refine q3i (q3e _) (q3i (q3e _) (q3i (LSub.agg ?_) q4d));repeat' (first|exact SubL.nil|refine SubL.cons ?_ ?_|exact Sub.refl _|exact Sub.nils|exact Sub.ff rfl)) (by exact q3h (j:=1000) rfl rfl (CSub.refl _) (q3h (j:=2000) rfl rfl (CSub.refl _) (q3h (j:=2001) rfl rfl (CSub.refl _) (q3h (j:=2002) rfl rfl (CSub.refl _) q4b)))) (ih (by omega) l[j].els (by omega) (XF a.proc (b.length+1) a.next a.loop (b++[⟨l[j]'hj,a.proc,a.up,a.next,a.loop⟩]) (l[j]'hj).thn) (by rw[XY,q3m];simp only[q4r];omega) ⟨S0,a.proc,b.length+1,a.next,a.loop⟩ gl pr lo hi) rfl rfl ?_;rintro l' H' ⟨rfl,rfl⟩;conv=>whnf
    refine wI ?_;conv=>whnf
    have hrow:Xt a.proc a.up a.next a.loop b l[j]=XF a.proc (b.length+1) a.next a.loop (XF a.proc (b.length+1) a.next a.loop (b++[⟨l[j]'hj,a.proc,a.up,a.next,a.loop⟩]) (l[j]'hj).thn) l[j].els:=by
     rw[FU,if_neg (by assumption),if_neg (by assumption)]
    exact⟨(j+1,Xt a.proc a.up a.next a.loop b l[j]),⟨by simp only;omega,by simp only;rw[XO];omega,by simp only;rw[XO];omega,by simp only;rw[<-h4,VW hj,if_neg (by omega)]⟩,by simp only;omega,Le.of_eq (by simp only;rw[hrow];rfl)⟩
   ·have hj:j<l.length:=by omega
    have hst:=hst hj;have hcs:=WK l[j];refine CallK.heap [(1000,1000),(2000,2000),(2001,2001),(2002,2002)] 0 (by refine q3i (q3e _) (q3i (q3e _) (q3i (LSub.agg ?_) q4d));repeat' (first|exact SubL.nil|refine SubL.cons ?_ ?_|exact Sub.refl _|exact Sub.nils|exact Sub.ff rfl)) (by exact q3h (j:=1000) rfl rfl (CSub.of_eq (by rw[q3m];first|done|rfl)) (q3h (j:=2000) rfl rfl (CSub.of_eq (by rw[q4z];first|done|rfl)) (q3h (j:=2001) rfl rfl (CSub.refl _) (q3h (j:=2002) rfl rfl (CSub.refl _) q4b)))) (ih (by omega) l[j].thn (by omega) (b++[⟨l[j]'hj,a.proc,a.up,a.next,a.loop⟩]) (by rw[q3m];simp only[q4r];omega) ⟨S0,a.proc,b.length+1,(b.length+1:Int),(b.length+1:Int)⟩ gl pr lo hi) rfl rfl ?_;rintro l' H' ⟨rfl,rfl⟩;conv=>whnf
    refine CallK.heap [(1000,1000),(2000,2000),(2001,2001),(2002,2002)] 0 (by refine q3i (q3e _) (q3i (q3e _) (q3i (LSub.agg ?_) q4d));repeat' (first|exact SubL.nil|refine SubL.cons ?_ ?_|exact Sub.refl _|exact Sub.nils|exact Sub.ff rfl)) (by exact q3h (j:=1000) rfl rfl (CSub.refl _) (q3h (j:=2000) rfl rfl (CSub.refl _) (q3h (j:=2001) rfl rfl (CSub.refl _) (q3h (j:=2002) rfl rfl (CSub.refl _) q4b)))) (ih (by omega) l[j].els (by omega) (XF a.proc (b.length+1) (b.length+1:Int) (b.length+1:Int) (b++[⟨l[j]'hj,a.proc,a.up,a.next,a.loop⟩]) (l[j]'hj).thn) (by rw[XY,q3m];simp only[q4r];omega) ⟨S0,a.proc,b.length+1,(b.length+1:Int),(b.length+1:Int)⟩ gl pr lo hi) rfl rfl ?_;rintro l' H' ⟨rfl,rfl⟩;conv=>whnf
    refine wI ?_;conv=>whnf
    have hrow:Xt a.proc a.up a.next a.loop b l[j]=XF a.proc (b.length+1) (b.length+1:Int) (b.length+1:Int) (XF a.proc (b.length+1) (b.length+1:Int) (b.length+1:Int) (b++[⟨l[j]'hj,a.proc,a.up,a.next,a.loop⟩]) (l[j]'hj).thn) l[j].els:=by
     rw[FU,if_pos (by assumption),if_pos (by assumption)]
    exact⟨(j+1,Xt a.proc a.up a.next a.loop b l[j]),⟨by simp only;omega,by simp only;rw[XO];omega,by simp only;rw[XO];omega,by simp only;rw[<-h4,VW hj,if_neg (by omega)]⟩,by simp only;omega,Le.of_eq (by simp only;rw[hrow];rfl)⟩
   ·have hj:j<l.length:=by omega
    have hst:=hst hj;have hcs:=WK l[j];refine CallK.heap [(1000,1000),(2000,2000),(2001,2001),(2002,2002)] 0 (by refine q3i (q3e _) (q3i (q3e _) (q3i (LSub.agg ?_) q4d));repeat' (first|exact SubL.nil|refine SubL.cons ?_ ?_|exact Sub.refl _|exact Sub.nils|exact Sub.ff rfl)) (by exact q3h (j:=1000) rfl rfl (CSub.of_eq (by rw[q3m];first|done|rfl)) (q3h (j:=2000) rfl rfl (CSub.of_eq (by rw[q4z];first|done|rfl)) (q3h (j:=2001) rfl rfl (CSub.refl _) (q3h (j:=2002) rfl rfl (CSub.refl _) q4b)))) (ih (by omega) l[j].thn (by omega) (b++[⟨l[j]'hj,a.proc,a.up,a.next,a.loop⟩]) (by rw[q3m];simp only[q4r];omega) ⟨S0,a.proc,b.length+1,a.next,a.loop⟩ gl pr lo hi) rfl rfl ?_;rintro l' H' ⟨rfl,rfl⟩;conv=>whnf
    refine CallK.heap [(1000,1000),(2000,2000),(2001,2001),(2002,2002)] 0 (by refine q3i (q3e _) (q3i (q3e _) (q3i (LSub.agg ?_) q4d));repeat' (first|exact SubL.nil|refine SubL.cons ?_ ?_|exact Sub.refl _|exact Sub.nils|exact Sub.ff rfl)) (by exact q3h (j:=1000) rfl rfl (CSub.refl _) (q3h (j:=2000) rfl rfl (CSub.refl _) (q3h (j:=2001) rfl rfl (CSub.refl _) (q3h (j:=2002) rfl rfl (CSub.refl _) q4b)))) (ih (by omega) l[j].els (by omega) (XF a.proc (b.length+1) a.next a.loop (b++[⟨l[j]'hj,a.proc,a.up,a.next,a.loop⟩]) (l[j]'hj).thn) (by rw[XY,q3m];simp only[q4r];omega) ⟨S0,a.proc,b.length+1,a.next,a.loop⟩ gl pr lo hi) rfl rfl ?_;rintro l' H' ⟨rfl,rfl⟩;conv=>whnf
    refine wI ?_;conv=>whnf
    have hrow:Xt a.proc a.up a.next a.loop b l[j]=XF a.proc (b.length+1) a.next a.loop (XF a.proc (b.length+1) a.next a.loop (b++[⟨l[j]'hj,a.proc,a.up,a.next,a.loop⟩]) (l[j]'hj).thn) l[j].els:=by
     rw[FU,if_neg (by assumption),if_neg (by assumption)]
    exact⟨(j+1,Xt a.proc a.up a.next a.loop b l[j]),⟨by simp only;omega,by simp only;rw[XO];omega,by simp only;rw[XO];omega,by simp only;rw[<-h4,VW hj,if_neg (by omega)]⟩,by simp only;omega,Le.of_eq (by simp only;rw[hrow];rfl)⟩
   ·refine⟨_,.refl _,rfl,?_⟩;rw[q4j (by omega),XF]at h4;rw[<-h4];rfl
structure Sheet where
 p:Pg
 l:List Item
 lo:List Int
 hi:List Int
def Sheet.cells(s:Sheet):List AV:=s.p.cells++[.sl (s.l.map fun i=>.agg i.cells),XU s.lo,XU s.hi]
def cntP:List Pr->Nat
 |[]=>0
 |f::r=>cntL f.body+cntP r
theorem Zg{l:List Pr}(hj:j<l.length):cntP (l.drop j)=cntL l[j].body+cntP (l.drop (j+1)):=by
 rw[QH hj,cntP]
def Vz(i:Nat)(acc:List Item)(lo hi:List Int):List Pr->List Item×List Int×List Int
 |[]=>(acc,lo,hi)
 |f::r=>Vz (i+1) (XF i 0 (-1) 0 acc f.body) (lo++[(acc.length:Int)+1]) (hi++[((XF i 0 (-1) 0 acc f.body).length:Int)+1]) r
def sheetOf(p:Pg):Sheet:=⟨p,(Vz 0 [] [] [] p.procs).1,(Vz 0 [] [] [] p.procs).2.1,(Vz 0 [] [] [] p.procs).2.2⟩
theorem Hc{acc:List Item}{lo hi:List Int}{l:List Pr}(hj:j<l.length):
  Vz i acc lo hi (l.drop j)=Vz (i+1) (XF i 0 (-1) 0 acc l[j].body) (lo++[(acc.length:Int)+1]) (hi++[((XF i 0 (-1) 0 acc l[j].body).length:Int)+1]) (l.drop (j+1)):=by
 rw[QH hj,Vz]
def IY(tS tI tN:Nat)(p:Pg)(L:List Item)(lo hi:List Int):Heap:=
 [(0,.obj tS [.p (eStrs p.globals),.p (.sl (p.procs.map fun f=>.agg f.cells)),.hd 1 0 L.length,.hd 2 0 lo.length,.hd 3 0 hi.length]),(1,.own tI 17 (L.map fun i=>.agg i.cells)),(2,.own tN 1 (lo.map (.int .i64))),(3,.own tN 1 (hi.map (.int .i64)))]
theorem KI(p:Pg)(h1:p.procs.length<=1000)(hc:cntP p.procs<=999):SpecP prog 67 [.agg p.cells] (fun r=>r=.ip (sheetOf p).cells):=by
 refine sB Nc func67 rfl call67 ?_;conv=>whnf
 repeat' ((first|(refine iM fun _=>?_)|refine q3l rfl ?_);conv=>whnf)
 have hl2:(p.procs.map fun f=>AV.agg f.cells).length=p.procs.length:=q3f _;refine LoopK.inv QY (fun i:Nat×List Item×List Int×List Int=>⟨[(3,.ptr 0 0),(10,.p (.sl (p.procs.map fun f=>AV.agg f.cells))),(11,.p (.int .i64 (p.procs.map fun f=>AV.agg f.cells).length)),(12,.p (.int .i64 i.1))],IY 109 106 3 p i.2.1 i.2.2.1 i.2.2.2⟩)
  (fun i=>i.1<=p.procs.length/\i.2.1.length+cntP (p.procs.drop i.1)=cntP p.procs/\i.2.2.1.length=i.1/\i.2.2.2.length=i.1/\Vz i.1 i.2.1 i.2.2.1 i.2.2.2 (p.procs.drop i.1)=Vz 0 [] [] [] p.procs) (fun i=>p.procs.length-i.1) (0,[],[],[])
  (Le.mk [(1,.own 106 17 []),(2,.own 3 1 []),(3,.own 3 1 [])] (by simp[Chunk.new0];exact⟨rfl,rfl,rfl⟩) (by simp) (by simp[IY]) (.r (.r (.r (.r .nil))))
    (.cons rfl (.obj (.r (.r (.cons (.nil q3d) (.cons (.nil (q3n _ q3d)) (.cons (.nil (q3n _ (q3n _ q3d))) .nil)))))) (.new q3d (.new (q3n _ q3d) (.new (q3n _ (q3n _ q3d)) .nil)))))
  ⟨q3o _,by simp,rfl,rfl,rfl⟩ ?_
 rintro⟨j,b,lo,hi⟩ ⟨h2,h3,h4,h5,h6⟩;simp only at h2 h3 h4 h5 h6⊢;conv=>whnf
 repeat' (first|((first|(refine iM fun _=>?_)|refine dA ?_|refine q3l rfl ?_|refine aD ?_|refine bP ?_|(refine iA fun _=>?_)|refine wI ?_|refine q6g (by simp) rfl (by show(lo.length+1)*8<=140737488355328;omega) (by show lo.length+1<=9223372036854775807;omega) (fun x hx=>by rcases q3r.1 hx with rfl;exact⟨rfl,rfl⟩) ?_);conv=>whnf)|(apply bD<;>intro _<;>first|omega|conv=>whnf)|(refine q3l ?_ ?_<;>conv=>whnf))
 ·have hj:j<p.procs.length:=by omega
  have hst:=Zg hj;refine CallK.heap [(1000,0),(2000,1),(2001,2),(2002,3)] 0 (by refine q3i (q3e _) (q3i (q3e _) (q3i (LSub.agg ?_) q4d));repeat' (first|exact SubL.nil|refine SubL.cons ?_ ?_|exact Sub.refl _|exact Sub.nils|exact Sub.ff rfl)) (by exact q3h (j:=0) rfl rfl (CSub.of_eq (by rw[q3m];first|done|rfl)) (q3h (j:=1) rfl rfl (CSub.refl _) (q3h (j:=2) rfl rfl (CSub.of_eq (by rw[q4z];first|done|rfl)) (q3h (j:=3) rfl rfl (CSub.refl _) q4b)))) (Pw 1000 (by omega) p.procs[j].body (by omega) b (by omega) ⟨S0,j,0,-1,0⟩ _ _ (lo++[(b.length:Int)+1]) hi) rfl rfl ?_;rintro l' H' ⟨rfl,rfl⟩;conv=>whnf
  have hlen:=XY j 0 (-1) 0 b p.procs[j].body;repeat' (first|((first|(refine iM fun _=>?_)|refine dA ?_|refine q3l rfl ?_|refine aD ?_|refine bP ?_|refine wI ?_|refine q6g (by simp) rfl (by show(hi.length+1)*8<=140737488355328;omega) (by show hi.length+1<=9223372036854775807;omega) (fun x hx=>by rcases q3r.1 hx with rfl;exact⟨rfl,rfl⟩) ?_|refine Wr.i64 (by rw[XY];omega) (by rw[XY];omega) ?_);conv=>whnf)|(refine q3l ?_ ?_<;>conv=>whnf))
  all_goals exact⟨(j+1,XF j 0 (-1) 0 b p.procs[j].body,lo++[(b.length:Int)+1],hi++[((XF j 0 (-1) 0 b p.procs[j].body).length:Int)+1]),⟨by simp only;omega,by simp only;omega,by simp[h4],by simp[h5],by simp only;rw[<-h6,Hc hj]⟩,by simp only;omega,Le.of_eq (by simp only[IY,q3m,q4z];rfl)⟩
 ·have hj:j<p.procs.length:=by omega
  have hst:=Zg hj;refine CallK.heap [(1000,0),(2000,1),(2001,2),(2002,3)] 0 (by refine q3i (q3e _) (q3i (q3e _) (q3i (LSub.agg ?_) q4d));repeat' (first|exact SubL.nil|refine SubL.cons ?_ ?_|exact Sub.refl _|exact Sub.nils|exact Sub.ff rfl)) (by exact q3h (j:=0) rfl rfl (CSub.of_eq (by rw[q3m];first|done|rfl)) (q3h (j:=1) rfl rfl (CSub.refl _) (q3h (j:=2) rfl rfl (CSub.of_eq (by rw[q4z];first|done|rfl)) (q3h (j:=3) rfl rfl (CSub.refl _) q4b)))) (Pw 1000 (by omega) p.procs[j].body (by omega) b (by omega) ⟨S0,j,0,-1,0⟩ _ _ (lo++[(b.length:Int)+1]) hi) rfl rfl ?_;rintro l' H' ⟨rfl,rfl⟩;conv=>whnf
  have hlen:=XY j 0 (-1) 0 b p.procs[j].body;repeat' (first|((first|(refine iM fun _=>?_)|refine dA ?_|refine q3l rfl ?_|refine aD ?_|refine bP ?_|refine wI ?_|refine q6g (by simp) rfl (by show(hi.length+1)*8<=140737488355328;omega) (by show hi.length+1<=9223372036854775807;omega) (fun x hx=>by rcases q3r.1 hx with rfl;exact⟨rfl,rfl⟩) ?_|refine Wr.i64 (by rw[XY];omega) (by rw[XY];omega) ?_);conv=>whnf)|(refine q3l ?_ ?_<;>conv=>whnf))
  all_goals exact⟨(j+1,XF j 0 (-1) 0 b p.procs[j].body,lo++[(b.length:Int)+1],hi++[((XF j 0 (-1) 0 b p.procs[j].body).length:Int)+1]),⟨by simp only;omega,by simp only;omega,by simp[h4],by simp[h5],by simp only;rw[<-h6,Hc hj]⟩,by simp only;omega,Le.of_eq (by simp only[IY,q3m,q4z];rfl)⟩
 ·have hd:p.procs.drop j=[]:=q4j (by omega);rw[hd,Vz]at h6;refine⟨.ip (sheetOf p).cells,?_,rfl⟩;have e:(sheetOf p).cells=[eStrs p.globals,.sl (p.procs.map fun f=>.agg f.cells),.sl (b.map fun i=>.agg i.cells),XU lo,XU hi]:=by
   unfold sheetOf;rw[<-h6];rfl
  rw[e];have hF:∀H:Heap,getH H 1=some (.own 106 17 (b.map fun i=>.agg i.cells))->getH H 2=some (.own 3 1 (lo.map (.int .i64)))->getH H 3=some (.own 3 1 (hi.map (.int .i64)))->
    FrzL H [.p (eStrs p.globals),.p (.sl (p.procs.map fun f=>.agg f.cells)),.hd 1 0 b.length,.hd 2 0 lo.length,.hd 3 0 hi.length] [eStrs p.globals,.sl (p.procs.map fun f=>.agg f.cells),.sl (b.map fun i=>.agg i.cells),XU lo,XU hi]:=fun H g1 g2 g3=>
   .cons (.p (Sub.refl _)) (.cons (.p (Sub.refl _)) (.cons (.hd g1 (by simp)) (.cons (.hd g2 (by simp)) (.cons (.hd g3 (by simp)) .nil))))
  refine Frz.ptr (off:=0) rfl rfl fun m l c hl hc=>?_;obtain⟨l',h7,h8⟩:=(hF (IY 109 106 3 p b lo hi) rfl rfl rfl).get.2 m c hc;have h9:=h7.symm.trans hl;cases h9;exact h8
theorem IdxK.at{es:List AV}{e:AV}{n:Int}(hn:n=k)(he:es[k]?=some e)(hs:e.cells.length=sz)(h:K e.cells):IdxK es sz n K:=⟨k,e,hn,he,hs,h⟩
theorem VG{l:List Int}{n:Int}(h:l[k]?=some n):(l.map (AV.int .i64))[k]?=some (.int .i64 n):=by simp[h]
def VH(l:List Item):AV:=.sl (l.map fun i=>.agg i.cells)
theorem NX(s:Sheet)(i lo hi:Nat)(h1:s.lo[i]?=some ((lo:Int)+1))(h2:s.hi[i]?=some ((hi:Int)+1))(h3:lo<=hi)(h4:hi<=s.l.length)(h5:s.l.length<=1000):SpecP prog 131 [.ip s.cells,.int .i64 i] (fun r=>r=VH ((s.l.take hi).drop lo)):=by
 refine sB Xa func131 rfl call131 ?_;conv=>whnf
 repeat' ((first|refine dA ?_|refine wI ?_|(refine IdxK.at rfl (VG h1) rfl ?_)|(refine IdxK.at rfl (VG h2) rfl ?_)|refine q3l (fun e he=>by obtain⟨x,_,rfl⟩:=q3s.1 he;rfl) (q8s lo hi (by simp) (by simp) h3 (by simpa using h4) ?_));conv=>whnf)
 exact RetK.p (by simp[VH,map_take,List.map_drop])
theorem DF(s:Sheet)(id:Int):SpecP prog 52 [.ip s.cells,.int .i64 id] (fun r=>r=.bool (decide (1<=id)&&decide (id<=s.l.length))):=by
 refine sB Qc func52 rfl call52 ?_;conv=>whnf
 repeat' (first|(refine iM fun _=>?_;conv=>whnf)|(apply bD<;>intro _<;>first|omega|conv=>whnf))
 all_goals have hl:(s.l.map fun i=>AV.agg i.cells).length=s.l.length:=q3f _
 ·exact RetK.bool (by simp_all)
 ·exact RetK.ff (by simp;omega)
theorem GM(s:Sheet)(i lo hi:Nat)(h1:s.lo[i]?=some ((lo:Int)+1))(h2:s.hi[i]?=some ((hi:Int)+1)):SpecP prog 118 [.ip s.cells,.int .i64 i] (fun r=>r=.int .i64 (if lo<hi then(lo:Int)+1 else -1)):=by
 refine sB PU func118 rfl call118 ?_;conv=>whnf
 repeat' (first|((first|refine dA ?_|(refine IdxK.at rfl (VG h1) rfl ?_)|(refine IdxK.at rfl (VG h2) rfl ?_));conv=>whnf)|(apply bD<;>intro _<;>first|omega|conv=>whnf))
 ·exact RetK.int (by rw[if_pos (by omega)])
 ·exact RetK.int (by rw[if_neg (by omega)])
theorem UW(l:List Str)(g:Nat)(c:AV)(p:Str->Bool)(hp:∀s,SpecP prog g [.str s,c] (fun r=>r=.bool (p s))):SpecP prog 178 [eStrs l,.fn g [c]] (fun r=>r=.int .i64 (idxF p l)):=by
 refine sB VJ func178 rfl call178 ?_;conv=>whnf
 refine iM fun _=>?_;have hl:(l.map AV.str).length=l.length:=q3f _;conv=>whnf
 refine LoopK.inv QY (fun j:Nat=>⟨[(0,.p (eStrs l)),(1,.p (.fn g [c])),(7,.p (.int .i64 (l.map AV.str).length)),(8,.p (.int .i64 j))],[]⟩) (fun j=>j<=l.length/\(l.drop j).any p=l.any p/\l.findIdx p=j+(l.drop j).findIdx p) (fun j=>l.length-j) 0 (Le.of_eq rfl) ⟨q3o _,rfl,by simp⟩ ?_;rintro j ⟨h2,h3,h4⟩;conv=>whnf
 repeat' (first|((first|(refine iA fun _=>?_)|refine wI ?_|refine cP (hp _) ?_);conv=>whnf)|(apply bD<;>intro _<;>first|omega|conv=>whnf)|(apply bB<;>intro _<;>conv=>whnf))
 ·exact RetK.int (Xf (p:=p) (by omega) (by assumption) h3 h4).symm
 ·exact⟨j+1,⟨by omega,by rw[<-h3,U1 (p:=p) (by omega) (by assumption)],by rw[h4,SS (p:=p) (by omega) (by assumption)];omega⟩,by omega,Le.of_eq rfl⟩
 ·exact RetK.int (by rw[Jy];rw[<-h3,MC (by omega)])
theorem VY(l:List Str)(g:Nat)(c:AV)(p:Str->Bool)(hp:∀s,SpecP prog g [.str s,c] (fun r=>r=.bool (p s))):SpecP prog 129 [eStrs l,.fn g [c]] (fun r=>r=.bool (l.any p)):=by
 refine sB WB func129 rfl call129 ?_;conv=>whnf
 repeat' (refine cP (UW _ _ _ p hp) ?_;conv=>whnf)
 exact RetK.bool LF
theorem XL(l:List Pr)(g:Nat)(c:AV)(p:Pr->Bool)(hp:∀s:Pr,SpecP prog g [.agg s.cells,c] (fun r=>r=.bool (p s))):SpecP prog 92 [.sl (l.map fun f=>.agg f.cells),.fn g [c]] (fun r=>r=.int .i64 (idxF p l)):=by
 refine sB WY func92 rfl call92 ?_;conv=>whnf
 refine iM fun _=>?_;have hl:(l.map fun f=>AV.agg f.cells).length=l.length:=q3f _;conv=>whnf
 refine LoopK.inv QY (fun j:Nat=>⟨[(0,.p (.sl (l.map fun f=>.agg f.cells))),(1,.p (.fn g [c])),(7,.p (.int .i64 (l.map fun f=>AV.agg f.cells).length)),(8,.p (.int .i64 j))],[]⟩) (fun j=>j<=l.length/\(l.drop j).any p=l.any p/\l.findIdx p=j+(l.drop j).findIdx p) (fun j=>l.length-j) 0 (Le.of_eq rfl) ⟨q3o _,rfl,by simp⟩ ?_;rintro j ⟨h2,h3,h4⟩;conv=>whnf
 repeat' (first|((first|(refine iA fun _=>?_)|refine wI ?_|refine cP (hp _) ?_);conv=>whnf)|(apply bD<;>intro _<;>first|omega|conv=>whnf)|(apply bB<;>intro _<;>conv=>whnf))
 ·exact RetK.int (Xf (p:=p) (by omega) (by assumption) h3 h4).symm
 ·exact⟨j+1,⟨by omega,by rw[<-h3,U1 (p:=p) (by omega) (by assumption)],by rw[h4,SS (p:=p) (by omega) (by assumption)];omega⟩,by omega,Le.of_eq rfl⟩
 ·exact RetK.int (by rw[Jy];rw[<-h3,MC (by omega)])
theorem WW(l:List Pr)(g:Nat)(c:AV)(p:Pr->Bool)(hp:∀s:Pr,SpecP prog g [.agg s.cells,c] (fun r=>r=.bool (p s))):SpecP prog 220 [.sl (l.map fun f=>.agg f.cells),.fn g [c]] (fun r=>r=.bool (l.any p)):=by
 refine sB ZL func220 rfl call220 ?_;conv=>whnf
 repeat' (refine cP (XL _ _ _ p hp) ?_;conv=>whnf)
 exact RetK.bool LF
theorem K6(p:Pg)(n:Str):SpecP prog 130 [.str n,.ip p.cells] (fun r=>r=.bool (p.globals.any fun s=>n==s)):=by
 refine sB Xo func130 rfl call130 ?_;conv=>whnf
 repeat' (refine cP (QX _ _) ?_;conv=>whnf)
 exact RetK.p rfl
theorem LU(n:Str)(f:Pr):SpecP prog 93 [.agg f.cells,.ip [.str n]] (fun r=>r=.bool (f.name==n)):=by
 refine sB DL func93 rfl call93 ?_;conv=>whnf
 skip
 exact RetK.p rfl
theorem Kk(n:Str)(f:Pr):SpecP prog 221 [.agg f.cells,.ip [.str n]] (fun r=>r=.bool (f.name==n)):=by
 refine sB Z1 func221 rfl call221 ?_;conv=>whnf
 skip
 exact RetK.p rfl
theorem XN(s:Sheet)(n:Str):SpecP prog 49 [.ip s.cells,.str n] (fun r=>r=.int .i64 (idxF (fun f=>f.name==n) s.p.procs)):=by
 refine sB MD func49 rfl call49 ?_;conv=>whnf
 repeat' (refine cP (XL _ _ _ (fun f=>f.name==n) (fun f=>LU n f)) ?_;conv=>whnf)
 exact RetK.p rfl
end Go.Ab
