/- Small laws for the scripts. Conditions: none. -/
import Derived.Test.YtonbdgcjnecapaaGreatRchR6
import Derived.Test.YtonbdgcjnecapaaGreatRchR7
set_option linter.all false
set_option maxRecDepth 100000
set_option maxHeartbeats 16000000
open List (all_cons any_cons map_take)
open Nat (ble)
namespace Go.Ab
open Go.Proofs.Tryz
open Go.Proofs
variable {α:Type}{A B:Prop}{K:List AV->Prop}{L:List Str}{N T i j k sz:Nat}{P:Program}{b:Bool}{info:Info}{nest seen:Int}{ops:Array Oper}
def q8b{p:Prop}[Decidable p](h:p->A)(l:¬p->B):Br (decide p) A B:=⟨fun e=>h (by simpa using e),fun e=>l (by simpa using e)⟩
def q4y{p:Prop}[Decidable p](h:p->A)(l:¬p->B):Br (!decide p) B A:=⟨fun e=>l (by simpa using e),fun e=>h (by simpa using e)⟩
theorem Br.n(h:b=true->B)(l:b=false->A):Br (!b) A B:=⟨fun e=>l (by simpa using e),fun e=>h (by simpa using e)⟩
theorem ByteK.at{s:List UInt8}{K:UInt8->Prop}(l:k<s.length)(h:K s[k]):ByteK s k K:=⟨k,s[k],rfl,by simp,h⟩
theorem X.avs_len(l:List X):(X.avs l).length=l.length:=by rw[X.avs_eq];simp
theorem S.avs_len(l:List S):(S.avs l).length=l.length:=by rw[S.avs_eq];simp
theorem IdxK.map{f:α->AV}{l:List α}(m:k<(l.map f).length)(o:∀x,(f x).cells.length=sz)(h:K (f (l[k]'(by simpa using m))).cells):IdxK (l.map f) sz k K:=
 ⟨k,f (l[k]'(by simpa using m)),rfl,by simp at m;simp[m],o _,h⟩
theorem IdxK.xs{l:List X}(m:k<(X.avs l).length)(h:K (l[k]'(by rw[X.avs_len]at m;exact m)).cells):IdxK (X.avs l) 4 k K:=by
 rw[X.avs_len]at m;refine⟨k,.agg l[k].cells,rfl,?_,rfl,h⟩;rw[X.avs_eq];simp[m]
def UK{l:List S}(m:k<(S.avs l).length)(h:K (l[k]'(by rw[S.avs_len]at m;exact m)).cells):IdxK (S.avs l) 13 k K:=by
 rw[S.avs_len]at m;refine⟨k,.agg l[k].cells,rfl,?_,rfl,h⟩;rw[S.avs_eq];simp[m]
theorem RetK.tt{H:Heap}{b:Bool}(h:b=true):RetK H (.p .tt) (fun r=>r=.bool b):=⟨_,.p (Sub.tt h),rfl⟩
theorem RetK.ff{H:Heap}{b:Bool}(h:b=false):RetK H (.p .ff) (fun r=>r=.bool b):=⟨_,.p (Sub.ff h),rfl⟩
theorem RetK.bool{H:Heap}{a b:Bool}(h:a=b):RetK H (.p (.bool a)) (fun r=>r=.bool b):=⟨_,.p (Sub.bool h),rfl⟩
theorem RetK.int{H:Heap}{k:IntKind}{m n:Int}(h:m=n):RetK H (.p (.int k m)) (fun r=>r=.int k n):=⟨_,.p (Sub.int h),rfl⟩
theorem RetK.p{H:Heap}{a b:AV}(h:a=b):RetK H (.p a) (fun r=>r=b):=⟨_,.p (Sub.of_eq h),rfl⟩
def QG{l:List α}(h:j<l.length):l.drop j=l[j]::l.drop (j+1):=by simp
def U5{l:List α}{p:α->Bool}(m:j<l.length)(h:p l[j]=true):(l.drop (j+1)).all p=(l.drop j).all p:=by
 rw[QG m,all_cons,h,Bool.true_and]
def Kg{l:List α}{p:α->Bool}(m:j<l.length)(h:p l[j]=false):(l.drop j).all p=false:=by
 rw[QG m,all_cons,h,Bool.false_and]
def U4{l:List α}{p:α->Bool}(h:l.length<=j):(l.drop j).all p=true:=by
 rw[x7e h];rfl
def Kf{l:List α}{p:α->Bool}(m:j<l.length)(h:p l[j]=false):(l.drop (j+1)).any p=(l.drop j).any p:=by
 rw[QG m,any_cons,h,Bool.false_or]
def Ll{l:List α}{p:α->Bool}(m:j<l.length)(h:p l[j]=true):(l.drop j).any p=true:=by
 rw[QG m,any_cons,h,Bool.true_or]
def X8{l:List α}{p:α->Bool}(h:l.length<=j):(l.drop j).any p=false:=by
 rw[x7e h];rfl
def q2x{β:Type}{l:List α}{g:α->β}(h:j<l.length):(l.take (j+1)).map g=(l.take j).map g++[g l[j]]:=by
 rw[x7r h,x7n];rfl
def idxF{α:Type}(p:α->Bool)(l:List α):Int:=bif l.any p then(l.findIdx p:Nat)else -1
def Ot{l:List α}{p:α->Bool}(m:j<l.length)(h:p l[j]=false):(l.drop j).findIdx p=(l.drop (j+1)).findIdx p+1:=by
 rw[QG m,List.findIdx_cons,h,x7o]
def q9j{l:List α}{p:α->Bool}(m:j<l.length)(h:p l[j]=true):(l.drop j).findIdx p=0:=by
 rw[QG m,List.findIdx_cons,h,x7c]
def Xd{p:α->Bool}{l:List α}:decide (idxF p l≥0)=l.any p:=by
 unfold idxF;cases l.any p<;>simp
def V8{p:α->Bool}{l:List α}(m:j<l.length)(h:p l[j]=true)(n:(l.drop j).any p=l.any p)(o:l.findIdx p=j+(l.drop j).findIdx p):idxF p l=j:=by
 unfold idxF;rw[<-n,Ll m h,x7c,o,q9j m h];rfl
def Fc{p:α->Bool}{l:List α}(h:l.any p=false):idxF p l = -1:=by
 unfold idxF;rw[h];rfl
def Qp{T:Tab}{id:Nat}{K:St->Prop}{s:St}(m:St)(h:DrawK P T N info id ops (fun s=>Mn info id s fun y=>Le N y m) s)(u:Mn info id m K):
  DrawK P T N info id ops (fun s=>Mn info id s K) s:=by
 refine⟨⟨fun σ β a w x=>Code.wp_mono (fun e q w' l=>?_) (h.ok.ok σ β a w x)⟩⟩;obtain⟨σ',β',s',l,o,v⟩:=l;cases e<;>simp only at l⊢;obtain⟨z,r,t⟩:=Z8 (N:=N) l;obtain⟨σ2,β2,p,n⟩:=(t.trans r) σ' β' q w' o;exact⟨σ2,β2,m,u,p,v.trans n⟩
def Sx{T:Tab}{id:Nat}{K:St->Prop}{s:St}(hT:TabOK P T)(m:P.follows .mixedOrders=true)(l:(bif Fj ops.size ops.toList then bif ble (info.sched id).len ops.size then WP ops [] (info.sched id)else false else false)=true)(h:drW P T N ops (info.sched id) s K):DrawK P T N info id ops K s:=DrawK.of hT m _ l h
def bD{p:Prop}[Decidable p](h:p->A)(l:¬p->B):Br (decide p) A B:=q8b h l
def bE{p:Prop}[Decidable p](h:p->A)(l:¬p->B):Br (!decide p) B A:=q4y h l
def bB(h:b=true->A)(l:b=false->B):Br b A B:=⟨h,l⟩
def bN(h:b=true->B)(l:b=false->A):Br (!b) A B:=Br.n h l
def iM{n:Nat}{K:Prop}(h:n<=9223372036854775807->K):n<=9223372036854775807->K:=h
def wI{n:Int}{K:Int->Prop}(m:K n)(h : -9223372036854775808<=n:=by omega)(l:n<=9223372036854775807:=by omega):Wr .i64 n K:=Wr.i64 h l m
def aD{a b c:Prop}(h:c)(l:a:=by decide)(m:b:=by decide):(a/\b)/\c:=⟨⟨l,m⟩,h⟩
def aR{a b c d:Prop}(h:d)(l:a:=by exact rfl)(m:b:=by exact rfl)(n:c:=by decide):(a/\b/\c)/\d:=⟨⟨l,m,n⟩,h⟩
def bP{es:List AV}{out:List LV}{l m:Prop}(n:l)(h:∀x∈es,x.cells.length=sz:=by intro x h;rcases x7y.1 h with rfl;rfl)(o:out=(es.flatMap AV.cells).map .p:=by exact rfl):BsK es sz out l m:=.pure h o n
def iA{f:α->AV}{l:List α}(h:∀m:k<l.length,K (f l[k]).cells)(m:k<(l.map f).length:=by omega)(n:∀x,(f x).cells.length=sz:=by intro _;rfl):IdxK (l.map f) sz k K:=IdxK.map m n (h (by simpa using m))
def dA{id:Nat}{K:St->Prop}{s:St}(h:drW prog tab N ops (info.sched id) s K)(l:(bif Fj ops.size ops.toList then bif ble (info.sched id).len ops.size then WP ops [] (info.sched id)else false else false)=true:=by kernel_rfl):DrawK prog tab N info id ops K s:=Sx QV mixed l h
def cP{g:FuncId}{args:List LV}{l:Option Nat}{s:St}{K:St->Prop}{avs:List AV}{c:AV}(m:SpecP P g avs fun r=>r=c)(h:setD N s.sl l (.p c) fun sl=>K ⟨sl,s.H⟩)(ha:ArgP args avs:=by(repeat (refine ArgP.cons ?_ ?_;first|exact Sub.refl _|exact Sub.tt rfl|exact Sub.ff rfl|exact Sub.int (by omega)));exact ArgP.nil):CallK P N g args l s K:=CallK.pure m ha fun _ e=>e▸h
def lE{s:St}{sl':List (Nat×LV)}{H':Heap}(h:(H'.map (·.1)).Nodup:=by simp)(l:WkS [] s.sl sl':=by(repeat (refine WkS.cons ?_ ?_;exact Wk.refl _));exact WkS.nil)(hH:WkH [] s.H H':=by(repeat refine WkH.cons rfl (CWk.refl _) ?_);exact WkH.nil):Le N s ⟨sl',H'⟩:=Le.mk [] (by simp) (by simp) h l hH
def sB(info:Info){f:FuncId}{l:Func}{c:Code}(p:prog.funcs[f]?=some l)(o:l.body=some c)(n:∀(vals:Array Value)(w:World),(callFunc f vals).run prog w=.ok (.enter f vals) w){args:List AV}{R:AV->Prop}(h:W prog tab l.ntmps info c (x5v tab l.results R) ⟨Px args 0,[]⟩)(m:args.length<=l.ntmps:=by exact z2w rfl):SpecP prog f args R:=SpecP.body info QV p o n m h
def sH(info:Info){f:FuncId}{l:Func}{c:Code}(p:prog.funcs[f]?=some l)(o:l.body=some c)(n:∀(vals:Array Value)(w:World),(callFunc f vals).run prog w=.ok (.enter f vals) w){args:List LV}{H:Heap}{R:LV->Heap->Prop}(h:W prog tab l.ntmps info c (x5w tab l.results R) ⟨Zp args 0,H⟩)(m:args.length<=l.ntmps:=by exact z2w rfl):SpecH prog f args H R:=SpecH.body info QV p o n m h
def Kx(L:List Str)(_:Nat)(e:TypeId)(sz:Nat)(es:List AV):Prop:=e=9/\sz=1/\es=L.map .str
def S2(L:List Str):∀x∈L.map AV.str,∀c∈x.cells,c.flat=true:=fun x l c h=>by
 obtain⟨s,_,rfl⟩:=x7d.1 l;rw[x7y.1 (show c∈[AV.str s]from h)];rfl
def NY{q n:Nat}{nil:Prop}(h:n=L.length):OneRow (Kx L) nil (.hd q 0 n) [(q,.own 9 1 (L.map .str))]:=
 .inr ⟨q,_,_,_,by rw[h,x7z],rfl,S2 L,rfl,rfl,rfl⟩
theorem OneRow.str{n:Nat}(h:n=L.length):OneRow (Kx L) False (.hd 0 0 n) [(0,.own 9 1 (L.map .str))]:=NY h
def UG{n:Nat}{nil:Prop}(h:n=L.length):OneRow (Kx L) nil (.hd 0 0 n) [(0,.own 9 1 (L.map .str))]:=NY h
theorem CallK.le{g:FuncId}{args:List LV}{o:Option Nat}{s:St}{K:St->Prop}(h:CallK P N g args o s fun s'=>∃l,K l/\Le N s' l):CallK P N g args o s K:=
 ⟨fun σ β a w y m x z=>⟨(h.ok σ β a w y m x z).1,(h.ok σ β a w y m x z).2.mono fun e w' ⟨u,σ',β',s',f,⟨l,c,r⟩,t,C⟩=>by
   obtain⟨σ2,β2,v,q⟩:=C.le' r t;exact⟨u,σ2,β2,l,f,c,v,q⟩⟩⟩
def LT(c:UInt8):Bool:=decide (97<=(c.toNat:Int))&&decide ((c.toNat:Int)<=122)
def Fa(c:UInt8):Bool:=decide (48<=(c.toNat:Int))&&decide ((c.toNat:Int)<=57)
def q8j(c:UInt8):Bool:=LT c||Fa c
def Gk(c:UInt8):SpecP prog 197 [.int .u8 c.toNat] (fun r=>r=.bool (LT c)):=by
 refine sB Bb func197 rfl call197 ?_;conv=>whnf
 repeat' (apply bD<;>intro _<;>first|omega|conv=>whnf)
 .exact RetK.bool (by simp_all[LT];try omega)
 .exact RetK.ff (by simp_all[LT];try omega)
def Ez(c:UInt8):SpecP prog 251 [.int .u8 c.toNat] (fun r=>r=.bool (Fa c)):=by
 refine sB Ly func251 rfl call251 ?_;conv=>whnf
 repeat' (apply bD<;>intro _<;>first|omega|conv=>whnf)
 .exact RetK.bool (by simp_all[Fa];try omega)
 .exact RetK.ff (by simp_all[Fa];try omega)
def LI(s:Str)(i:Nat):Nat:=i+((s.drop i).takeWhile q8j).length
def Gg{s:Str}(h:i<s.length)(l:q8j s[i]=true):LI s (i+1)=LI s i:=by
 unfold LI;rw[QG h,List.takeWhile_cons,if_pos l];simp only[x8j];omega
def Nb{s:Str}(h:∀(l:i<s.length),q8j s[i]=false):LI s i=i:=by
 unfold LI;by_cases l:i<s.length
 .rw [QG l,List.takeWhile_cons,if_neg (by simp[h l])];rfl
 .rw [x7e (by omega)];rfl
def q6x(s:Str)(i:Nat)(l:i<=s.length):SpecP prog 198 [.str s,.int .i64 i] (fun r=>r=.int .i64 (LI s i)):=by
 refine sB CJ func198 rfl call198 ?_;conv=>whnf
 refine LoopK.inv QV (fun j:Nat=>⟨[(0,.p (.str s)),(1,.j j)],[]⟩) (fun j=>j<=s.length/\LI s j=LI s i) (fun j=>s.length-j) i (Le.of_eq rfl) ⟨l,rfl⟩ ?_;rintro j ⟨m,h⟩;conv=>whnf
 repeat' (first|((first|(refine iM fun _=>?_)|refine cP (Gk _) ?_|refine cP (Ez _) ?_|(refine ByteK.at (by omega) ?_)|refine wI ?_);conv=>whnf)|(apply bD<;>intro _<;>first|omega|conv=>whnf)|(apply bB<;>intro _<;>conv=>whnf))
 .exact ⟨j+1,⟨by omega,by rw[Gg (by omega) (by simp_all[q8j])];exact h⟩,by omega,Le.of_eq rfl⟩
 .exact ⟨j+1,⟨by omega,by rw[Gg (by omega) (by simp_all[q8j])];exact h⟩,by omega,Le.of_eq rfl⟩
 .exact RetK.int (by rw[<-h,Nb fun _=>by simp_all[q8j]])
 .exact RetK.int (by rw[<-h,Nb fun _=>by omega])
def Ty(s:Str):Bool:=decide (s=[103,108,111,98,97,108])||decide (s=[112,114,111,99])||decide (s=[118,97,114])||decide (s=[114,101,102])||decide (s=[105,102])||decide (s=[101,108,115,101])||decide (s=[119,104,105,108,101])||decide (s=[98,114,101,97,107])||decide (s=[99,111,110,116,105,110,117,101])||decide (s=[114,101,116,117,114,110])||decide (s=[103,111,116,111])||decide (s=[114,101,97,100])||decide (s=[112,114,105,110,116])
def q0x(s:Str):SpecP prog 199 [.str s] (fun r=>r=.bool (Ty s)):=by
 refine sB Su func199 rfl call199 ?_;conv=>whnf
 repeat' (apply bB<;>intro _<;>conv=>whnf)
 all_goals first
  |exact RetK.tt (by simp_all[Ty])
  |exact RetK.ff (by simp_all[Ty])
def isName(s:Str):Bool:=if h:1<=s.length/\s.length<=8 then LT (s[0]'(by omega))&&decide (LI s 0=s.length) && !Ty s else false
def LE(s:Str):SpecP prog 128 [.str s] (fun r=>r=.bool (isName s)):=by
 refine sB Sv func128 rfl call128 ?_;conv=>whnf
 repeat' (first|((first|(refine iM fun _=>?_)|refine cP (Gk _) ?_|refine cP (q6x _ 0 (x7p _)) ?_|refine cP (q0x _) ?_|(refine ByteK.at (k:=0) (by omega) ?_));conv=>whnf)|(apply bD<;>intro _<;>first|omega|conv=>whnf)|(apply bN<;>intro _<;>conv=>whnf))
 .exact RetK.ff (by unfold isName;rw[dif_neg (by omega)])
 .exact RetK.ff (by unfold isName;rw[dif_neg (by omega)])
 .exact RetK.bool (by unfold isName;rw[dif_pos (by omega)];simp_all;omega)
 .exact RetK.ff (by unfold isName;rw[dif_pos (by omega)];simp_all;omega)
 .exact RetK.ff (by unfold isName;rw[dif_pos (by omega)];simp_all)
def namesB(l:List Str):Bool:=l.all isName
def Zx(l:List Str):SpecP prog 127 [eStrs l] (fun r=>r=.bool (namesB l)):=by
 refine sB Bi func127 rfl call127 ?_;conv=>whnf
 refine iM fun _=>?_;conv=>whnf
 refine LoopK.inv QV (fun j:Nat=>⟨[(5,.p (eStrs l)),(6,.p (.int .i64 (l.map AV.str).length)),(7,.j j)],[]⟩) (fun j=>j<=l.length/\(l.drop j).all isName=namesB l) (fun j=>l.length-j) 0 (Le.of_eq rfl) ⟨x7p _,rfl⟩ ?_;rintro j ⟨m,h⟩;have n:(l.map AV.str).length=l.length:=x7z _;conv=>whnf
 repeat' (first|((first|refine cP (LE _) ?_|(refine iA fun _=>?_)|refine wI ?_);conv=>whnf)|(apply bD<;>intro _<;>first|omega|conv=>whnf)|(apply bN<;>intro _<;>conv=>whnf))
 .exact ⟨j+1,⟨by omega,by rw[U5 (by omega) (by assumption)];exact h⟩,by omega,Le.of_eq rfl⟩
 .exact RetK.ff (by rw[<-h,Kg (by omega) (by assumption)])
 .exact RetK.tt (by rw[<-h,U4 (by omega)])
def Wn(op:Int):Int:=if op=1\/op=2 then 0 else if op=3\/op=4 then 1 else if 5<=op/\op<=17 then 2 else -1
def IQ(op:Int):SpecP prog 310 [.int .i64 op] (fun r=>r=.int .i64 (Wn op)):=by
 refine sB Lh func310 rfl call310 ?_;conv=>whnf
 repeat' (apply bD<;>intro _<;>first|omega|conv=>whnf)
 all_goals exact RetK.int (by unfold Wn;(repeat' split)<;>omega)
def WY:Nat->X->Bool
 |0,_=>false
 |n+1,x=>decide ((x.kids.length:Int)=Wn x.op)&&(if x.op=1 then decide (0<=x.n)&&(x.name==[])else if x.op=2 then decide (x.n=0)&&isName x.name else decide (x.n=0)&&(x.name==[])&&x.kids.all (WY n))
def Io:∀(n:Nat)(_:n<=1000)(x:X),SpecP prog 280 [.agg x.cells,.int .i64 n] (fun r=>r=.bool (WY n x)):=by
 intro n;induction n with
 | zero=>
   intro _ x;refine sB Va func280 rfl call280 ?_;conv=>whnf
   repeat' (first|(refine dA ?_;conv=>whnf)|(apply bD<;>intro _<;>first|omega|conv=>whnf))
   exact RetK.ff rfl
 | succ n m=>
   intro s x;refine sB Va func280 rfl call280 ?_;conv=>whnf
   repeat' (first|((first|(refine iM fun _=>?_)|refine cP (IQ _) ?_|refine cP (LE _) ?_|refine dA ?_);conv=>whnf)|(apply bD<;>intro _<;>first|omega|conv=>whnf)|(apply bE<;>intro _<;>first|omega|conv=>whnf)|(apply bN<;>intro _<;>conv=>whnf))
   all_goals try (have q:((X.avs x.kids).length:Int)=x.kids.length:=by rw[X.avs_len])
   .exact RetK.bool (by simp_all[WY])
   .exact RetK.ff (by simp_all[WY];try omega)
   .exact RetK.bool (by simp_all[WY])
   .exact RetK.ff (by simp_all[WY];try omega)
   .have l:WY (n+1) x=x.kids.all (WY n):=by simp_all[WY]
    rw[l];refine LoopK.inv QV (fun j:Nat=>⟨[(1,.j (n+1:Nat)),(49,.p (.sl (X.avs x.kids))),(50,.p (.int .i64 (X.avs x.kids).length)),(51,.j j)],[]⟩) (fun j=>j<=x.kids.length/\(x.kids.drop j).all (WY n)=x.kids.all (WY n)) (fun j=>x.kids.length-j) 0 (Le.of_eq rfl) ⟨x7p _,rfl⟩ ?_;rintro j ⟨o,h⟩;conv=>whnf
    repeat' (first|((first|refine x7g rfl ?_|refine IdxK.xs (by omega) ?_|refine wI ?_|(refine CallK.pure (m (by omega) _) (.cons (Sub.refl _) (.cons (Sub.int (by omega)) .nil)) ?_;rintro _ rfl));conv=>whnf)|(apply bD<;>intro _<;>first|omega|conv=>whnf)|(apply bN<;>intro _<;>conv=>whnf))
    .exact ⟨j+1,⟨by omega,by rw[U5 (by omega) (by assumption)];exact h⟩,by omega,Le.of_eq rfl⟩
    .exact RetK.ff (by rw[<-h,Kg (by omega) (by assumption)])
    .exact RetK.tt (by rw[<-h,U4 (by omega)])
   .exact RetK.ff (by simp_all[WY];try omega)
   .exact RetK.ff (by simp_all[WY];try omega)
   .exact RetK.ff (by simp_all[WY];try omega)
def CX(x:X):Bool:=WY 20 x
def KF(x:X):SpecP prog 222 [.agg x.cells] (fun r=>r=.bool (CX x)):=by
 refine sB Jc func222 rfl call222 ?_;conv=>whnf
 repeat' (refine cP (Io 20 (by omega) _) ?_;conv=>whnf)
 exact RetK.p rfl
def noneB(x:X):Bool:=decide (x.op=0)&&decide (x.n=0)&&(x.name==[])&&((x.kids.length:Int)==0)
def IX(x:X):SpecP prog 300 [.agg x.cells] (fun r=>r=.bool (noneB x)):=by
 refine sB Lf func300 rfl call300 ?_;conv=>whnf
 repeat' (first|(refine iM fun _=>?_;conv=>whnf)|(apply bD<;>intro _<;>first|omega|conv=>whnf)|(apply bB<;>intro _<;>conv=>whnf))
 all_goals have h:((X.avs x.kids).length:Int)=x.kids.length:=by rw[X.avs_len]
 all_goals first
  |exact RetK.ff (by simp_all[noneB])
  |exact RetK.bool (by simp_all[noneB])
def HO(s:Str)(h:Bool):Bool:=bif h then isName s else s==[]
def Hf(s:Str)(h:Bool):SpecP prog 252 [.str s,.bool h] (fun r=>r=.bool (HO s h)):=by
 refine sB Be func252 rfl call252 ?_;conv=>whnf
 repeat' (first|(refine cP (LE _) ?_;conv=>whnf)|(apply bN<;>intro _<;>conv=>whnf)|(apply bB<;>intro _<;>conv=>whnf))
 all_goals first
  |exact RetK.tt (by simp_all[HO])
  |exact RetK.ff (by simp_all[HO])
  |exact RetK.bool (by simp_all[HO])
def PP(x:X)(h:Bool):Bool:=bif h then CX x else noneB x
def Hd(x:X)(h:Bool):SpecP prog 253 [.agg x.cells,.bool h] (fun r=>r=.bool (PP x h)):=by
 refine sB Bo func253 rfl call253 ?_;conv=>whnf
 repeat' (first|((first|refine cP (KF _) ?_|refine cP (IX _) ?_);conv=>whnf)|(apply bN<;>intro _<;>conv=>whnf)|(apply bB<;>intro _<;>conv=>whnf))
 all_goals first
  |exact RetK.tt (by simp_all[PP])
  |exact RetK.ff (by simp_all[PP])
  |exact RetK.bool (by simp_all[PP])
def Y8(a:Arg):Bool:=HO a.name a.ref&&PP a.x (!a.ref)
def RU(l:List Arg):SpecP prog 254 [Am l] (fun r=>r=.bool (l.all Y8)):=by
 refine sB F4 func254 rfl call254 ?_;conv=>whnf
 refine iM fun _=>?_;conv=>whnf
 refine LoopK.inv QV (fun j:Nat=>⟨[(5,.p (Am l)),(6,.p (.int .i64 (l.map fun a=>AV.agg a.cells).length)),(7,.j j)],[]⟩) (fun j=>j<=l.length/\(l.drop j).all Y8=l.all Y8) (fun j=>l.length-j) 0 (Le.of_eq rfl) ⟨x7p _,rfl⟩ ?_;rintro j ⟨m,h⟩;have n:(l.map fun a=>AV.agg a.cells).length=l.length:=x7z _;conv=>whnf
 repeat' (first|((first|refine cP (Hf _ _) ?_|refine cP (Hd _ _) ?_|refine x7g rfl ?_|(refine iA fun _=>?_)|refine wI ?_);conv=>whnf)|(apply bD<;>intro _<;>first|omega|conv=>whnf)|(apply bN<;>intro _<;>conv=>whnf))
 .exact ⟨j+1,⟨by omega,by rw[U5 (by omega) (by simp_all[Y8])];exact h⟩,by omega,Le.of_eq rfl⟩
 .exact RetK.ff (by rw[<-h,Kg (by omega) (by simp_all[Y8])])
 .exact RetK.ff (by rw[<-h,Kg (by omega) (by simp_all[Y8])])
 .exact RetK.tt (by rw[<-h,U4 (by omega)])
structure Flds where
 name:Bool
 D:Bool
 x:Bool
 has:Bool
 L:Bool
 M:Bool
def Zi(k:Int)(has:Bool)(h:Bool):Option Flds:=
 if k=1 then some ⟨true,false,true,has,false,false⟩
 else if k=2 then some ⟨true,false,false,has,false,false⟩
 else if k=10 then some ⟨true,false,false,has,false,false⟩
 else if k=3 then some ⟨false,false,true,has,false,false⟩
 else if k=4 then some ⟨!h,true,false,has,false,false⟩
 else if k=5 then some ⟨false,false,true,has,true,true⟩
 else if k=6 then some ⟨false,false,true,has,true,false⟩
 else if k=9 then some ⟨false,false,has,false,false,false⟩
 else if k=7 then some ⟨false,false,false,has,false,false⟩
 else if k=8 then some ⟨false,false,false,has,false,false⟩
 else none
def ZM(s:S):Bool:=
 match Zi s.kind s.has (s.name==[])with
 |none=>false
 |some f=> !(f.has||(!f.L&&decide (0<s.L.length))||(!f.M&&decide (0<s.M.length))||(!decide (s.kind=4)&&decide (0<s.args.length)))&&HO s.name f.name&&HO s.D f.D&&PP s.x f.x&&s.args.all Y8
def SQ{s:S}{f:Flds}(h:Zi s.kind s.has (s.name==[])=some f):ZM s=(!(f.has||(!f.L&&decide (0<s.L.length))||(!f.M&&decide (0<s.M.length))||(!decide (s.kind=4)&&decide (0<s.args.length)))&&HO s.name f.name&&HO s.D f.D&&PP s.x f.x&&s.args.all Y8):=by
 unfold ZM;rw[h]
def RV(s:S):SpecP prog 200 [.agg s.cells] (fun r=>r=.bool (ZM s)):=by
 refine sB F2 func200 rfl call200 ?_;conv=>whnf
 repeat' (first|((first|(refine iM fun _=>?_)|refine cP (Hf _ _) ?_|refine cP (Hd _ _) ?_|refine cP (RU _) ?_|refine dA ?_);conv=>whnf)|(apply bD<;>intro _<;>first|omega|conv=>whnf)|(apply bE<;>intro _<;>first|omega|conv=>whnf)|(apply bN<;>intro _<;>conv=>whnf)|(apply bB<;>intro _<;>conv=>whnf))
 all_goals first
  |exact RetK.ff (by simp_all[ZM,Zi,S.avs_len])
  |exact RetK.bool (by simp_all[ZM,Zi,S.avs_len])
  |exact RetK.ff (by simp_all[ZM,Zi,S.avs_len];omega)
mutual
def Df(nest seen:Int):S->Option Int
 | .mk id kind G name D x has args L M=>
   if seen+1>200 then none else if id≠seen+1 then none else
   bif namesB G then bif ZM (.mk id kind G name D x has args L M)then
    match UR (nest+1) (seen+1) L with
    |some m=>UR (nest+1) m M
    |none=>none
   else none else none
def UR(nest seen:Int):List S->Option Int
 |[]=>some seen
 | s::r=>if nest>12 then none else match Df nest seen s with
   |some m=>UR nest m r
   |none=>none
end
def Rl(nest seen:Int)(s:S):Df nest seen s=if seen+1>200 then none else if s.id≠seen+1 then none else
  bif namesB s.G then bif ZM s then
   match UR (nest+1) (seen+1) s.L with
   |some m=>UR (nest+1) m s.M
   |none=>none
  else none else none:=by
 cases s;rw[Df];rfl
mutual
theorem q6a(nest seen:Int):∀(s:S){m:Int},Df nest seen s=some m->seen<m/\m<=200
 | .mk id kind G name D x has args L M,m,h=>by
   simp only[Df]at h;split at h
   ·cases h
   split at h
   ·cases h
   cases hn:namesB G<;>rw[hn]at h
   ·cases h
   cases hf:ZM (.mk id kind G name D x has args L M)<;>rw[hf]at h
   ·cases h
   simp only[x7c]at h;split at h
   ·rename_i m1 h1;have h2:=J4 (nest+1) (seen+1) L (by omega) h1;have h3:=J4 (nest+1) m1 M h2.2 h;omega
   ·cases h
theorem J4(nest seen:Int):∀(l:List S){m:Int},seen<=200->UR nest seen l=some m->seen<=m/\m<=200
 | [],m,h0,h=>by
   simp only[UR]at h;cases h;omega
 | s::r,m,h0,h=>by
   simp only[UR]at h;split at h
   ·cases h
   split at h
   ·rename_i m1 h1;have h2:=q6a nest seen s h1;have h3:=J4 nest m1 r h2.2 h;omega
   ·cases h
end
def Rr(T:Nat)(nest seen:Int)(l:List S)(r:LV)(H:Heap):Prop:=
 match UR nest seen l with
 |some m=>r=.p .tt/\H=[(1000,.obj T [.p (.int .i64 m)])]
 |none=>r=.p .ff/\∃m,H=[(1000,.obj T [.p (.int .i64 m)])]
def H5{m:Int}{l:List S}(h:UR nest seen l=some m):RetHK [(1000,.obj T [.p (.int .i64 m)])] (.p .tt) (Rr T nest seen l):=
 ⟨.p .tt,.refl _,by unfold Rr;rw[h];exact⟨rfl,rfl⟩⟩
def Z2{m:Int}{l:List S}(h:UR nest seen l=none):RetHK [(1000,.obj T [.p (.int .i64 m)])] (.p .ff) (Rr T nest seen l):=
 ⟨.p .ff,.refl _,by unfold Rr;rw[h];exact⟨rfl,_,rfl⟩⟩
def J5{l:List S}{Q:LV->Heap->Prop}(r:seen<=200)(o:∀m,UR nest seen l=some m->seen<=m->m<=200->Q (.p .tt) [(1000,.obj T [.p (.int .i64 m)])])(q:UR nest seen l=none->∀m,Q (.p .ff) [(1000,.obj T [.p (.int .i64 m)])]):∀l' H',Rr T nest seen l l' H'->Q l' H':=by
 intro l' H' h;unfold Rr at h;cases n:UR nest seen l with
 | some m=>
   rw[n]at h;obtain⟨rfl,rfl⟩:=h;have:=J4 nest seen l r n;exact o m n this.1 this.2
 | none=>
   rw[n]at h;obtain⟨rfl,m,rfl⟩:=h;exact q n m
def Mv{l:List S}(h:nest>12)(m:0<l.length):UR nest seen l=none:=by
 cases l with
 |nil=>cases m
 |cons s r=>simp only[UR];rw[if_pos h]
def EN{l:List S}(h:¬nest>12)(n:j<l.length):UR nest seen (l.drop j)=match Df nest seen l[j]with
  |some m=>UR nest m (l.drop (j+1))
  |none=>none:=by
 rw[QG n,UR,if_neg h]
def IZ:∀(d n:Nat)(_:n+d=14)(l:List S)(seen:Int)(_:0<=seen)(_:seen<=200),
  SpecH prog 129 [.ptr 1000 0,.p (eSs l),.j n] [(1000,.obj 187 [.p (.int .i64 seen)])] (Rr 187 n seen l):=by
 intro d;induction d with
 | zero=>
   intro n w l seen q r;refine sH JI func129 rfl call129 ?_;conv=>whnf
   repeat' (first|(refine iM fun _=>?_;conv=>whnf)|(apply bD<;>intro _<;>first|omega|conv=>whnf))
   .exact Z2 (Mv (by omega) (by rw[S.avs_len]at*;omega))
   .have v:=S.avs_len l;obtain rfl:l=[]:=x9y (by omega);refine LoopK.inv QV (fun _:Unit=>⟨[(0,.ptr 1000 0),(2,.j n),(16,.p (eSs [])),(17,.p (.int .i64 (S.avs []).length)),(18,.j 0)],[(1000,.obj 187 [.p (.int .i64 seen)])]⟩) (fun _=>True) (fun _=>0) () (Le.of_eq rfl) trivial ?_;intro _ _;conv=>whnf
    repeat' (apply bD<;>intro _<;>first|omega|conv=>whnf)
    exact H5 rfl
 | succ d x=>
   intro n w l seen q r;refine sH JI func129 rfl call129 ?_;have v:=S.avs_len l;conv=>whnf
   repeat' (first|(refine iM fun _=>?_;conv=>whnf)|(apply bD<;>intro _<;>first|omega|conv=>whnf))
   .exact Z2 (Mv (by omega) (by omega))
   all_goals
    refine LoopK.inv QV (fun i:Nat×Int=>⟨[(0,.ptr 1000 0),(2,.j n),(16,.p (eSs l)),(17,.p (.int .i64 (S.avs l).length)),(18,.j i.1)],[(1000,.obj 187 [.p (.int .i64 i.2)])]⟩) (fun i=>i.1<=l.length/\0<=i.2/\i.2<=200/\UR n i.2 (l.drop i.1)=UR n seen l) (fun i=>l.length-i.1) (0,seen) (Le.of_eq rfl) ⟨x7p _,q,r,rfl⟩ ?_;rintro⟨j,m⟩ ⟨s,t,u,o⟩;simp only at s t u o⊢;conv=>whnf
    repeat' (first|((first|refine cP (Zx _) ?_|refine cP (RV _) ?_|refine dA ?_|refine x7g rfl ?_|refine UK (by omega) ?_|refine wI ?_);conv=>whnf)|(apply bD<;>intro _<;>first|omega|conv=>whnf)|(apply bE<;>intro _<;>first|omega|conv=>whnf)|(apply bN<;>intro _<;>conv=>whnf)|(refine CallK.heap [(1000,1000)] 0 (by repeat' (first|exact z0v|refine x8y ?_ ?_|exact x8z _|exact z1u Sub.nils|exact z1u (Sub.tt rfl)|exact z1u (Sub.ff rfl)|exact z1u (Sub.int (by omega)))) (by refine x8u (j:=1000) rfl rfl ?_ ?_;exact CSub.refl _;exact z0z) (x (n+1) (by omega) _ _ (by omega) (by omega)) rfl rfl (J5 (by omega) (fun _ _ _ _=>?_) (fun _ _=>?_))<;>conv=>whnf))
    all_goals try (have h:=EN (seen:=m) (l:=l) (j:=j) (nest:=(n:Int)) (by omega) (by omega);rw[Rl,show(n:Int)+1=((n+1:Nat):Int)from rfl]at h)
    all_goals first
     |exact H5 (by rw[<-o,x7e (by omega)];simp only[UR])
     |exact Z2 (by rw[<-o,h];clear o h;first|rw[if_pos (by omega:m+1>200)]|(rw[if_neg (by omega:¬m+1>200)];simp[*,-Int.natCast_add]))
     |exact⟨(j+1,_),⟨by simp only;omega,by simp only;omega,by simp only;omega,by rw[<-o,h];clear o h;first|rw[if_pos (by omega:m+1>200)]|(rw[if_neg (by omega:¬m+1>200)];simp[*,-Int.natCast_add])⟩,by simp only;omega,Le.of_eq rfl⟩
def DJ(f:Pr):Bool:=decide (f.C.length<=8)&&decide (f.F.length<=16)&&isName f.name&&namesB f.F&&namesB f.fin&&f.C.all fun a=>isName a.name
def XL(seen:Int):List Pr->Option Int
 |[]=>some seen
 | f::r=>bif DJ f then match UR 1 seen f.body with
    |some m=>XL m r
    |none=>none
   else none
def KR(p:Pg):Bool:=decide (p.B.length<=16)&&decide (p.A.length<=16)&&namesB p.B&&(XL 0 p.A).isSome
def Yb{l:List Pr}(h:j<l.length):XL seen (l.drop j)=bif DJ l[j]then match UR 1 seen l[j].body with
   |some m=>XL m (l.drop (j+1))
   |none=>none
  else none:=by
 rw[QG h,XL]
def YV{f:Pr}:DJ f=true↔f.C.length<=8/\f.F.length<=16/\isName f.name=true/\namesB f.F=true/\namesB f.fin=true/\(f.C.all fun a=>isName a.name)=true:=by
 simp only[DJ,x7i,x8l,and_assoc]
def Yf{l:List Pr}(m:j<l.length)(h:¬(l[j].C.length<=8/\l[j].F.length<=16/\isName l[j].name=true/\namesB l[j].F=true/\namesB l[j].fin=true/\(l[j].C.all fun a=>isName a.name)=true)):(XL seen (l.drop j)).isSome=false:=by
 rw[Yb m];have:DJ l[j]=false:=by rw[z2a];intro n;exact h (YV.1 n)
 rw[this];rfl
def Vp(p:Pg):SpecP prog 67 [.agg p.cells] (fun r=>r=.bool (KR p)):=by
 refine sB Sk func67 rfl call67 ?_;conv=>whnf
 repeat' (first|((first|(refine iM fun _=>?_)|refine cP (Zx _) ?_|refine x7g rfl ?_);conv=>whnf)|(apply bD<;>intro _<;>first|omega|conv=>whnf)|(apply bN<;>intro _<;>conv=>whnf))
 all_goals try have c:(p.B.map AV.str).length=p.B.length:=x7z _
 all_goals try have d:(p.A.map fun f=>AV.agg f.cells).length=p.A.length:=x7z _
 .exact RetK.ff (by unfold KR;simp;omega)
 .exact RetK.ff (by unfold KR;simp;omega)
 .have w:KR p=(XL 0 p.A).isSome:=by unfold KR;simp[*];omega
  rw[w];refine LoopK.inv QV (fun i:Nat×Int=>⟨[(3,.ptr 0 0),(27,.p (.sl (p.A.map fun f=>AV.agg f.cells))),(28,.p (.int .i64 (p.A.map fun f=>AV.agg f.cells).length)),(29,.j i.1)],[(0,.obj 187 [.p (.int .i64 i.2)])]⟩) (fun i=>i.1<=p.A.length/\0<=i.2/\i.2<=200/\XL i.2 (p.A.drop i.1)=XL 0 p.A) (fun i=>p.A.length-i.1) (0,0) (Le.of_eq rfl) ⟨x7p _,by decide,by decide,rfl⟩ ?_;rintro⟨j,m⟩ ⟨x,y,z,q⟩;simp only at x y z q⊢;conv=>whnf
  repeat' (first|((first|(refine iM fun _=>?_)|refine cP (Zx _) ?_|refine cP (LE _) ?_|refine x7g rfl ?_|(refine iA fun _=>?_));conv=>whnf)|(apply bD<;>intro _<;>first|omega|conv=>whnf)|(apply bN<;>intro _<;>conv=>whnf))
  all_goals try have e:((p.A[j]'(by omega)).C.map fun a=>AV.agg a.cells).length=(p.A[j]'(by omega)).C.length:=x7z _
  all_goals try have g:((p.A[j]'(by omega)).F.map AV.str).length=(p.A[j]'(by omega)).F.length:=x7z _
  rotate_left 2
  .have u:j<p.A.length:=by omega
   refine LoopK.inv QV (fun i:Nat=>⟨[(3,.ptr 0 0),(5,.p (.ip p.A[j].cells)),(27,.p (.sl (p.A.map fun f=>AV.agg f.cells))),(28,.p (.int .i64 (p.A.map fun f=>AV.agg f.cells).length)),(29,.j j),(62,.p (.sl (p.A[j].C.map fun a=>AV.agg a.cells))),(63,.p (.int .i64 (p.A[j].C.map fun a=>AV.agg a.cells).length)),(64,.j i)],[(0,.obj 187 [.p (.int .i64 m)])]⟩) (fun i=>i<=p.A[j].C.length/\((p.A[j].C.drop i).all fun a=>isName a.name)=p.A[j].C.all fun a=>isName a.name) (fun i=>p.A[j].C.length-i) 0 (Le.of_eq rfl) ⟨x7p _,rfl⟩ ?_;rintro i ⟨E,t⟩;conv=>whnf
   repeat' (first|((first|refine cP (LE _) ?_|refine x7g rfl ?_|(refine iA fun _=>?_)|refine wI ?_);conv=>whnf)|(apply bD<;>intro _<;>first|omega|conv=>whnf)|(apply bN<;>intro _<;>conv=>whnf)|(refine CallK.heap [(1000,0)] 0 (by repeat' (first|exact z0v|refine x8y ?_ ?_|exact x8z _|exact z1u Sub.nils|exact z1u (Sub.tt rfl)|exact z1u (Sub.ff rfl)|exact z1u (Sub.int (by omega)))) (by refine x8u (j:=0) rfl rfl ?_ ?_;exact CSub.refl _;exact z0z) (IZ 13 1 rfl _ _ (by omega) (by omega)) rfl rfl (J5 (by omega) (fun _ _ _ _=>?_) (fun _ _=>?_))<;>conv=>whnf))
   .exact ⟨i+1,⟨by omega,by rw[<-t,U5 (p:=fun a:Param=>isName a.name) (by omega) (by assumption)]⟩,by omega,Le.of_eq rfl⟩
   .exact RetK.ff (by
     rw[<-q];refine Yf u fun h=>?_;have:=Kg (p:=fun a:Param=>isName a.name) (l:=p.A[j].C) (j:=i) (by omega) (by assumption);rw[t,h.2.2.2.2.2]at this;cases this)
   all_goals
    have s:(p.A[j].C.all fun a=>isName a.name)=true:=by rw[<-t,U4 (by omega)]
    have D:DJ p.A[j]=true:=YV.2 ⟨by omega,by omega,by assumption,by assumption,by assumption,s⟩;have o:=Yb (seen:=m) u;rw[D,x7c]at o
   .rename_i v n _ _;replace n:UR 1 m p.A[j].body=some v:=n;rw[n]at o;exact⟨(j+1,v),⟨by simp only;omega,by simp only;omega,by simp only;omega,by rw[<-q,o]⟩,by simp only;omega,Le.of_eq rfl⟩
   .rename_i n _;replace n:UR 1 m p.A[j].body=none:=n;rw[n]at o;exact RetK.ff (by rw[<-q,o];rfl)
  all_goals first
   |exact RetK.tt (by rw[<-q,x7e (by omega)];rfl)
   |exact RetK.ff (by rw[<-q];exact Yf (by omega) fun h=>by omega)
   |exact RetK.ff (by rw[<-q];exact Yf (by omega) fun h=>by simp_all)
 .exact RetK.ff (by unfold KR;simp[*])
def XZ(l:List Str)(v:Str):SpecP prog 145 [eStrs l,.str v] (fun r=>r=.int .i64 (idxF (fun s=>v==s) l)):=by
 refine sB YN func145 rfl call145 ?_;conv=>whnf
 refine iM fun _=>?_;have o:(l.map AV.str).length=l.length:=x7z _;conv=>whnf
 refine LoopK.inv QV (fun j:Nat=>⟨[(0,.p (eStrs l)),(1,.p (.str v)),(7,.p (.int .i64 (l.map AV.str).length)),(8,.j j)],[]⟩) (fun j=>j<=l.length/\(l.drop j).any (fun s=>v==s)=l.any (fun s=>v==s)/\l.findIdx (fun s=>v==s)=j+(l.drop j).findIdx (fun s=>v==s)) (fun j=>l.length-j) 0 (Le.of_eq rfl) ⟨x7p _,rfl,by simp⟩ ?_;rintro j ⟨n,h,m⟩;conv=>whnf
 repeat' (first|((first|(refine iA fun _=>?_)|refine wI ?_);conv=>whnf)|(apply bD<;>intro _<;>first|omega|conv=>whnf)|(apply bB<;>intro _<;>conv=>whnf))
 .exact RetK.int (V8 (p:=fun s=>v==s) (by omega) (by assumption) h m).symm
 .exact ⟨j+1,⟨by omega,by rw[<-h,Kf (p:=fun s=>v==s) (by omega) (by assumption)],by rw[m,Ot (p:=fun s=>v==s) (by omega) (by assumption)];omega⟩,by omega,Le.of_eq rfl⟩
 .exact RetK.int (by rw[Fc];rw[<-h,X8 (by omega)])
def QX(l:List Str)(v:Str):SpecP prog 130 [eStrs l,.str v] (fun r=>r=.bool (l.any fun s=>v==s)):=by
 refine sB UW func130 rfl call130 ?_;conv=>whnf
 repeat' (refine cP (XZ _ _) ?_;conv=>whnf)
 exact RetK.bool Xd
def ZD(l:List Str):Bool:=(List.range l.length).any fun i=>(l.take i).any fun s=>l[i]?.getD []==s
def NI(l:List Str):SpecP prog 146 [eStrs l] (fun r=>r=.bool (ZD l)):=by
 refine sB He func146 rfl call146 ?_;conv=>whnf
 refine iM fun _=>?_;have q:(l.map AV.str).length=l.length:=x7z _;conv=>whnf
 refine LoopK.inv QV (fun j:Nat=>⟨[(0,.p (eStrs l)),(5,.p (eStrs l)),(6,.p (.int .i64 (l.map AV.str).length)),(7,.j j)],[]⟩) (fun j=>j<=l.length/\((List.range l.length).drop j).any (fun i=>(l.take i).any fun s=>l[i]?.getD []==s)=ZD l) (fun j=>l.length-j) 0 (Le.of_eq rfl) ⟨x7p _,rfl⟩ ?_;rintro j ⟨o,h⟩;conv=>whnf
 repeat' (first|((first|(refine iA fun _=>?_)|refine wI ?_|refine x7g (fun e n=>by obtain⟨x,_,rfl⟩:=x7d.1 n;rfl) (z3d 0 j rfl rfl (by omega) (by omega) ?_)|(refine CallK.pure (QX (l.take j) (l[j]'(by omega))) (.cons (Sub.of_eq (by simp[eStrs,map_take])) (.cons (Sub.refl _) .nil)) ?_;rintro _ rfl));conv=>whnf)|(apply bD<;>intro _<;>first|omega|conv=>whnf)|(apply bB<;>intro _<;>conv=>whnf))
 all_goals try have m:(List.range l.length)[j]'(by simp;omega)=j:=by simp
 all_goals try have e:l[j]?.getD []=l[j]'(by omega):=by rw[x7x (by omega)];rfl
 .exact RetK.tt (by rw[<-h,Ll (p:=fun i=>(l.take i).any fun s=>l[i]?.getD []==s) (by simp;omega) (by rw[m,e];assumption)])
 .exact ⟨j+1,⟨by omega,by rw[<-h,Kf (p:=fun i=>(l.take i).any fun s=>l[i]?.getD []==s) (by simp;omega) (by rw[m,e];assumption)]⟩,by omega,Le.of_eq rfl⟩
 .exact RetK.ff (by rw[<-h,X8 (by simp;omega)])
def Qb(f:Pr):List Str:=f.C.map Param.name++f.F
def My(f:Pr)(l:f.C.length<=1000)(m:f.F.length<=1000):SpecP prog 147 [.agg f.cells] (fun r=>r=eStrs (Qb f)):=by
 refine sB Lk func147 rfl call147 ?_;conv=>whnf
 refine iM fun _=>?_;have o:(f.C.map fun a=>AV.agg a.cells).length=f.C.length:=x7z _;conv=>whnf
 refine LoopK.inv QV (fun j:Nat=>⟨[(1,.p (.ip f.cells)),(3,.hd 0 0 j),(7,.p (.sl (f.C.map fun a=>AV.agg a.cells))),(8,.p (.int .i64 (f.C.map fun a=>AV.agg a.cells).length)),(9,.j j)],[(0,.own 9 1 ((f.C.take j).map fun a=>AV.str a.name))]⟩) (fun j=>j<=f.C.length) (fun j=>f.C.length-j) 0
  (Le.mk [(0,.own 9 1 [])] (by simp[Chunk.new0];rfl) (by simp) (by simp) (.r (.cons (.nil x7v) (.r (.r (.r .nil))))) (.new x7v .nil)) (x7p _) ?_
 intro j n;conv=>whnf
 repeat' (first|((first|refine x7g rfl ?_|refine aD ?_|refine bP ?_|(refine iA fun _=>?_)|refine wI ?_|refine z0w (by simp;omega) rfl (by show(j+1)*16<=140737488355328;omega) (by show j+1<=9223372036854775807;omega) (fun x h=>by rcases x7y.1 h with rfl;exact⟨rfl,rfl⟩) ?_|refine z0w (by simp;omega) rfl (by rw[x7z];show(j+f.F.length)*16<=140737488355328;omega) (by rw[x7z];show j+f.F.length<=9223372036854775807;omega) (fun x h=>by obtain⟨y,_,rfl⟩:=x7d.1 h;exact⟨rfl,rfl⟩) ?_);conv=>whnf)|(apply bD<;>intro _<;>first|omega|conv=>whnf))
 .exact ⟨j+1,by omega,by omega,Le.of_eq (by rw[q2x (by omega)];rfl)⟩
 .refine ⟨_,.hd rfl (by simp;omega),?_⟩;rw[x7a (by omega)];simp[eStrs,Qb]
mutual
def ZU:S->Nat
 |.mk _ _ _ _ _ _ _ _ L M=>1+cntL L+cntL M
def cntL:List S->Nat
 |[]=>0
 |s::r=>ZU s+cntL r
end
def WQ(s:S):ZU s=1+cntL s.L+cntL s.M:=by
 cases s;rw[ZU];rfl
def LU{l:List S}(h:j<l.length):cntL (l.drop j)=ZU l[j]+cntL (l.drop (j+1)):=by
 rw[QG h,cntL]
def RE{l:List S}(h:l.length<=j):cntL (l.drop j)=0:=by
 rw[x7e h,cntL]
def Ao:∀(n:Nat)(_:n<=100000)(s:S)(_:ZU s<=n),SpecP prog 206 [.agg s.cells] (fun r=>r=.int .i64 (ZU s)):=by
 intro n;induction n with
 |zero=>intro _ s h;rw[WQ]at h;omega
 | succ n w=>
   intro e s h;have f:=WQ s;have c:=S.avs_len s.L;have d:=S.avs_len s.M;refine sB Lw func206 rfl call206 ?_;conv=>whnf
   repeat' (refine iM fun _=>?_;conv=>whnf)
   refine LoopK.inv QV (fun i:Nat×Nat=>⟨[(1,.p (.ip s.cells)),(3,.j i.2),(9,.p (eSs s.L)),(10,.p (.int .i64 (S.avs s.L).length)),(11,.j i.1)],[]⟩) (fun i=>i.1<=s.L.length/\1<=i.2/\i.2+cntL (s.L.drop i.1)=1+cntL s.L) (fun i=>s.L.length-i.1) (0,1) (Le.of_eq rfl) ⟨x7p _,x7s _,rfl⟩ ?_;rintro⟨j,a⟩ ⟨x,q,o⟩;simp only at x o q⊢;have m:∀u:j<s.L.length,cntL (s.L.drop j)=ZU s.L[j]+cntL (s.L.drop (j+1)):=fun u=>LU u;conv=>whnf
   repeat' (first|((first|(refine iM fun _=>?_)|refine x7g rfl ?_|refine UK (by omega) ?_|refine wI ?_|(refine CallK.pure (w (by omega) (s.L[j]'(by omega)) (by have:=m (by omega);omega)) (.cons (Sub.refl _) .nil) ?_;rintro _ rfl;have m:=m (by omega)));conv=>whnf)|(apply bD<;>intro _<;>first|omega|conv=>whnf))
   .exact ⟨(j+1,a+ZU s.L[j]),⟨by simp only;omega,by simp only;omega,by simp only;omega⟩,by simp only;omega,Le.of_eq rfl⟩
   .have ha:a=1+cntL s.L:=by rw[RE (by omega)]at o;omega
    refine LoopK.inv QV (fun i:Nat×Nat=>⟨[(3,.j i.2),(21,.p (eSs s.M)),(22,.p (.int .i64 (S.avs s.M).length)),(23,.j i.1)],[]⟩) (fun i=>i.1<=s.M.length/\1<=i.2/\i.2+cntL (s.M.drop i.1)=ZU s) (fun i=>s.M.length-i.1) (0,a) (Le.of_eq rfl) ⟨x7p _,q,by simp only[z4z];omega⟩ ?_;rintro⟨k,b⟩ ⟨y,z,t⟩;simp only at y z t⊢;have l:∀v:k<s.M.length,cntL (s.M.drop k)=ZU s.M[k]+cntL (s.M.drop (k+1)):=fun v=>LU v;conv=>whnf
    repeat' (first|((first|refine x7g rfl ?_|refine UK (by omega) ?_|refine wI ?_|(refine CallK.pure (w (by omega) (s.M[k]'(by omega)) (by have:=l (by omega);omega)) (.cons (Sub.refl _) .nil) ?_;rintro _ rfl;have l:=l (by omega)));conv=>whnf)|(apply bD<;>intro _<;>first|omega|conv=>whnf))
    .exact ⟨(k+1,b+ZU s.M[k]),⟨by simp only;omega,by simp only;omega,by simp only;omega⟩,by simp only;omega,Le.of_eq rfl⟩
    .exact RetK.int (by rw[RE (by omega)]at t;omega)
structure Item where
 s:S
 D:Int
 up:Int
 next:Int
 loop:Int
def Item.cells(i:Item):List AV:=i.s.cells++[.int .i64 i.D,.int .i64 i.up,.int .i64 i.next,.int .i64 i.loop]
mutual
def Vg(D up nx loop:Int)(acc:List Item):S->List Item
 | .mk id kind G name pr x has args L M=>
   XD D (acc.length+1) (if kind=6 then acc.length+1 else nx) (if kind=6 then acc.length+1 else loop)
    (XD D (acc.length+1) (if kind=6 then acc.length+1 else nx) (if kind=6 then acc.length+1 else loop) (acc++[⟨.mk id kind G name pr x has args L M,D,up,nx,loop⟩]) L) M
def XD(D up nx loop:Int)(acc:List Item):List S->List Item
 |[]=>acc
 |t::r=>XD D up nx loop (Vg D up (if r.isEmpty then nx else acc.length+1+ZU t) loop acc t) r
end
def DB(D m nx l:Int)(h:List Item)(t:S):Vg D m nx l h t=XD D (h.length+1) (if t.kind=6 then h.length+1 else nx) (if t.kind=6 then h.length+1 else l)
   (XD D (h.length+1) (if t.kind=6 then h.length+1 else nx) (if t.kind=6 then h.length+1 else l) (h++[⟨t,D,m,nx,l⟩]) t.L) t.M:=by
 cases t;rw[Vg];rfl
mutual
theorem ZX(D up nx loop:Int)(acc:List Item):∀t:S,(Vg D up nx loop acc t).length=acc.length+ZU t
 | .mk id kind G name pr x has args L M=>by
   rw[Vg,ZU,XY _ _ _ _ _ M,XY _ _ _ _ _ L];simp;omega
theorem XY(D up nx loop:Int)(acc:List Item):∀l:List S,(XD D up nx loop acc l).length=acc.length+cntL l
 |[]=>by rw[XD,cntL];rfl
 | t::r=>by
   rw[XD,cntL,XY _ _ _ _ _ r,ZX _ _ _ _ _ t];omega
end
def VG{D o nx m:Int}{n:List Item}{l:List S}(q:j<l.length):
  XD D o nx m n (l.drop j)=XD D o nx m (Vg D o (if j+1<l.length then n.length+1+ZU l[j]else nx) m n l[j]) (l.drop (j+1)):=by
 rw[QG q,XD];congr 2;by_cases h:j+1<l.length
 .rw [if_pos h,if_neg];simp only[List.isEmpty_iff];intro p;have:=x9l List.length p;simp at this;omega
 .rw [if_neg h,if_pos];rw[x7e (by omega)];rfl
def EI(o tI m:Nat)(n pr:AV)(L:List Item)(l h:List Int):Heap:=
 [(1000,.obj o [.p n,.p pr,.hd 2000 0 L.length,.hd 2001 0 l.length,.hd 2002 0 h.length]),(2000,.own tI 17 (L.map fun i=>.agg i.cells)),(2001,.own m 1 (l.map (.int .i64))),(2002,.own m 1 (h.map (.int .i64)))]
def X0:X:=.mk 0 0 [] []
def S0:S:=.mk 0 0 [] [] [] X0 false [] [] []
theorem LSub.agg{cs l:List AV}(h:SubL cs l):LSub (.p (.agg cs)) (.p (.agg l)):=.p (Sub.agg h)
def T4:∀(n:Nat)(_:n<=1000)(l:List S)(_:cntL l<n)(v:List Item)(_:v.length+cntL l<=1000)(a:Item)(s pr:AV)(u t:List Int),
  SpecH prog 134 [.ptr 1000 0,.p (eSs l),.p (.agg a.cells)] (EI 133 130 3 s pr v u t)
   (fun r H=>r=.p (.tup [])/\H=EI 133 130 3 s pr (XD a.D a.up a.next a.loop v l) u t):=by
 intro n;induction n with
 |zero=>intro _ l h;omega
 | succ n w=>
   intro F l E v c a s pr u t;have g:=S.avs_len l;refine sH W9 func134 rfl call134 ?_;conv=>whnf
   repeat' (refine iM fun _=>?_;conv=>whnf)
   refine LoopK.inv QV (fun i:Nat×List Item=>⟨[(0,.ptr 1000 0),(1,.p (eSs l)),(5,.p (.ip a.cells)),(11,.p (eSs l)),(12,.p (.int .i64 (S.avs l).length)),(13,.j i.1)],EI 133 130 3 s pr i.2 u t⟩) (fun i=>i.1<=l.length/\v.length<=i.2.length/\i.2.length+cntL (l.drop i.1)=v.length+cntL l/\XD a.D a.up a.next a.loop i.2 (l.drop i.1)=XD a.D a.up a.next a.loop v l) (fun i=>l.length-i.1) (0,v) (Le.of_eq rfl) ⟨x7p _,x7s _,rfl,rfl⟩ ?_;rintro⟨j,b⟩ ⟨d,f,e,z⟩;simp only at d e z f⊢;have q:∀m:j<l.length,cntL (l.drop j)=ZU l[j]+cntL (l.drop (j+1)):=fun m=>LU m;conv=>whnf
   repeat' (first|((first|(refine iM fun _=>?_)|refine dA ?_|refine x7g rfl ?_|refine aD ?_|refine bP ?_|refine UK (by omega) ?_|refine wI ?_|(refine CallK.pure (Ao 1000 (by omega) (l[j]'(by omega)) (by have:=q (by omega);omega)) (.cons (Sub.refl _) .nil) ?_;rintro _ rfl)|refine Wr.i64 (by have:=q (by omega);omega) (by have:=q (by omega);omega) ?_|refine z0w (by simp) rfl (by show(b.length+1)*240<=140737488355328;have:=q (by omega);omega) (by show b.length+1<=9223372036854775807;have:=q (by omega);omega) (fun x C=>by rcases x7y.1 C with rfl;exact⟨rfl,rfl⟩) ?_);conv=>whnf)|(apply bD<;>intro _<;>first|omega|conv=>whnf)|(refine x7g ?_ ?_<;>conv=>whnf))
   .have m:j<l.length:=by omega
    have q:=q m;have y:=WQ l[j];refine cJ rH1 0 (w (by omega) l[j].L (by omega) (b++[⟨l[j]'m,a.D,a.up,(b.length+1+ZU (l[j]'m):Int),a.loop⟩]) (by rw[x7u];simp only[x8k];omega) ⟨S0,a.D,b.length+1,(b.length+1:Int),(b.length+1:Int)⟩ s pr u t) ?_ (ha:=(by refine x8y (x8z _) (x8y (x8z _) (x8y (LSub.agg ?_) z0v));repeat' (first|exact SubL.nil|refine SubL.cons ?_ ?_|exact Sub.refl _|exact Sub.nils|exact Sub.ff rfl))) (hH:=by exact x8u (j:=1000) rfl rfl (CSub.of_eq (by rw[x7u];first|done|rfl)) (x8u (j:=2000) rfl rfl (CSub.of_eq (by rw[x7n];first|done|rfl)) (x8u (j:=2001) rfl rfl (CSub.refl _) (x8u (j:=2002) rfl rfl (CSub.refl _) z0z))));rintro l' H' ⟨rfl,rfl⟩;conv=>whnf
    refine cJ rH1 0 (w (by omega) l[j].M (by omega) (XD a.D (b.length+1) (b.length+1:Int) (b.length+1:Int) (b++[⟨l[j]'m,a.D,a.up,(b.length+1+ZU (l[j]'m):Int),a.loop⟩]) (l[j]'m).L) (by rw[XY,x7u];simp only[x8k];omega) ⟨S0,a.D,b.length+1,(b.length+1:Int),(b.length+1:Int)⟩ s pr u t) ?_ (ha:=(by refine x8y (x8z _) (x8y (x8z _) (x8y (LSub.agg ?_) z0v));repeat' (first|exact SubL.nil|refine SubL.cons ?_ ?_|exact Sub.refl _|exact Sub.nils|exact Sub.ff rfl))) (hH:=by exact x8u (j:=1000) rfl rfl (CSub.refl _) (x8u (j:=2000) rfl rfl (CSub.refl _) (x8u (j:=2001) rfl rfl (CSub.refl _) (x8u (j:=2002) rfl rfl (CSub.refl _) z0z))));rintro l' H' ⟨rfl,rfl⟩;conv=>whnf
    refine wI ?_;conv=>whnf
    have o:Vg a.D a.up (b.length+1+ZU (l[j]'m):Int) a.loop b l[j]=XD a.D (b.length+1) (b.length+1:Int) (b.length+1:Int) (XD a.D (b.length+1) (b.length+1:Int) (b.length+1:Int) (b++[⟨l[j]'m,a.D,a.up,(b.length+1+ZU (l[j]'m):Int),a.loop⟩]) (l[j]'m).L) l[j].M:=by
     rw[DB,if_pos (by assumption),if_pos (by assumption)]
    exact⟨(j+1,Vg a.D a.up (b.length+1+ZU (l[j]'m):Int) a.loop b l[j]),⟨by simp only;omega,by simp only;rw[ZX];omega,by simp only;rw[ZX];omega,by simp only;rw[<-z,VG m,if_pos (by omega)]⟩,by simp only;omega,Le.of_eq (by simp only;rw[o];rfl)⟩
   .have m:j<l.length:=by omega
    have q:=q m;have y:=WQ l[j];refine cJ rH1 0 (w (by omega) l[j].L (by omega) (b++[⟨l[j]'m,a.D,a.up,(b.length+1+ZU (l[j]'m):Int),a.loop⟩]) (by rw[x7u];simp only[x8k];omega) ⟨S0,a.D,b.length+1,(b.length+1+ZU (l[j]'m):Int),a.loop⟩ s pr u t) ?_ (ha:=(by refine x8y (x8z _) (x8y (x8z _) (x8y (LSub.agg ?_) z0v));repeat' (first|exact SubL.nil|refine SubL.cons ?_ ?_|exact Sub.refl _|exact Sub.nils|exact Sub.ff rfl))) (hH:=by exact x8u (j:=1000) rfl rfl (CSub.of_eq (by rw[x7u];first|done|rfl)) (x8u (j:=2000) rfl rfl (CSub.of_eq (by rw[x7n];first|done|rfl)) (x8u (j:=2001) rfl rfl (CSub.refl _) (x8u (j:=2002) rfl rfl (CSub.refl _) z0z))));rintro l' H' ⟨rfl,rfl⟩;conv=>whnf
    refine cJ rH1 0 (w (by omega) l[j].M (by omega) (XD a.D (b.length+1) (b.length+1+ZU (l[j]'m):Int) a.loop (b++[⟨l[j]'m,a.D,a.up,(b.length+1+ZU (l[j]'m):Int),a.loop⟩]) (l[j]'m).L) (by rw[XY,x7u];simp only[x8k];omega) ⟨S0,a.D,b.length+1,(b.length+1+ZU (l[j]'m):Int),a.loop⟩ s pr u t) ?_ (ha:=(by refine x8y (x8z _) (x8y (x8z _) (x8y (LSub.agg ?_) z0v));repeat' (first|exact SubL.nil|refine SubL.cons ?_ ?_|exact Sub.refl _|exact Sub.nils|exact Sub.ff rfl))) (hH:=by exact x8u (j:=1000) rfl rfl (CSub.refl _) (x8u (j:=2000) rfl rfl (CSub.refl _) (x8u (j:=2001) rfl rfl (CSub.refl _) (x8u (j:=2002) rfl rfl (CSub.refl _) z0z))));rintro l' H' ⟨rfl,rfl⟩;conv=>whnf
    refine wI ?_;conv=>whnf
    have o:Vg a.D a.up (b.length+1+ZU (l[j]'m):Int) a.loop b l[j]=XD a.D (b.length+1) (b.length+1+ZU (l[j]'m):Int) a.loop (XD a.D (b.length+1) (b.length+1+ZU (l[j]'m):Int) a.loop (b++[⟨l[j]'m,a.D,a.up,(b.length+1+ZU (l[j]'m):Int),a.loop⟩]) (l[j]'m).L) l[j].M:=by
     rw[DB,if_neg (by assumption),if_neg (by assumption)]
    exact⟨(j+1,Vg a.D a.up (b.length+1+ZU (l[j]'m):Int) a.loop b l[j]),⟨by simp only;omega,by simp only;rw[ZX];omega,by simp only;rw[ZX];omega,by simp only;rw[<-z,VG m,if_pos (by omega)]⟩,by simp only;omega,Le.of_eq (by simp only;rw[o];rfl)⟩
   .have m:j<l.length:=by omega
    have q:=q m;have y:=WQ l[j];refine cJ rH1 0 (w (by omega) l[j].L (by omega) (b++[⟨l[j]'m,a.D,a.up,(b.length+1+ZU (l[j]'m):Int),a.loop⟩]) (by rw[x7u];simp only[x8k];omega) ⟨S0,a.D,b.length+1,(b.length+1:Int),(b.length+1:Int)⟩ s pr u t) ?_ (ha:=(by refine x8y (x8z _) (x8y (x8z _) (x8y (LSub.agg ?_) z0v));repeat' (first|exact SubL.nil|refine SubL.cons ?_ ?_|exact Sub.refl _|exact Sub.nils|exact Sub.ff rfl))) (hH:=by exact x8u (j:=1000) rfl rfl (CSub.of_eq (by rw[x7u];first|done|rfl)) (x8u (j:=2000) rfl rfl (CSub.of_eq (by rw[x7n];first|done|rfl)) (x8u (j:=2001) rfl rfl (CSub.refl _) (x8u (j:=2002) rfl rfl (CSub.refl _) z0z))));rintro l' H' ⟨rfl,rfl⟩;conv=>whnf
    refine cJ rH1 0 (w (by omega) l[j].M (by omega) (XD a.D (b.length+1) (b.length+1:Int) (b.length+1:Int) (b++[⟨l[j]'m,a.D,a.up,(b.length+1+ZU (l[j]'m):Int),a.loop⟩]) (l[j]'m).L) (by rw[XY,x7u];simp only[x8k];omega) ⟨S0,a.D,b.length+1,(b.length+1:Int),(b.length+1:Int)⟩ s pr u t) ?_ (ha:=(by refine x8y (x8z _) (x8y (x8z _) (x8y (LSub.agg ?_) z0v));repeat' (first|exact SubL.nil|refine SubL.cons ?_ ?_|exact Sub.refl _|exact Sub.nils|exact Sub.ff rfl))) (hH:=by exact x8u (j:=1000) rfl rfl (CSub.refl _) (x8u (j:=2000) rfl rfl (CSub.refl _) (x8u (j:=2001) rfl rfl (CSub.refl _) (x8u (j:=2002) rfl rfl (CSub.refl _) z0z))));rintro l' H' ⟨rfl,rfl⟩;conv=>whnf
    refine wI ?_;conv=>whnf
    have o:Vg a.D a.up (b.length+1+ZU (l[j]'m):Int) a.loop b l[j]=XD a.D (b.length+1) (b.length+1:Int) (b.length+1:Int) (XD a.D (b.length+1) (b.length+1:Int) (b.length+1:Int) (b++[⟨l[j]'m,a.D,a.up,(b.length+1+ZU (l[j]'m):Int),a.loop⟩]) (l[j]'m).L) l[j].M:=by
     rw[DB,if_pos (by assumption),if_pos (by assumption)]
    exact⟨(j+1,Vg a.D a.up (b.length+1+ZU (l[j]'m):Int) a.loop b l[j]),⟨by simp only;omega,by simp only;rw[ZX];omega,by simp only;rw[ZX];omega,by simp only;rw[<-z,VG m,if_pos (by omega)]⟩,by simp only;omega,Le.of_eq (by simp only;rw[o];rfl)⟩
   .have m:j<l.length:=by omega
    have q:=q m;have y:=WQ l[j];refine cJ rH1 0 (w (by omega) l[j].L (by omega) (b++[⟨l[j]'m,a.D,a.up,(b.length+1+ZU (l[j]'m):Int),a.loop⟩]) (by rw[x7u];simp only[x8k];omega) ⟨S0,a.D,b.length+1,(b.length+1+ZU (l[j]'m):Int),a.loop⟩ s pr u t) ?_ (ha:=(by refine x8y (x8z _) (x8y (x8z _) (x8y (LSub.agg ?_) z0v));repeat' (first|exact SubL.nil|refine SubL.cons ?_ ?_|exact Sub.refl _|exact Sub.nils|exact Sub.ff rfl))) (hH:=by exact x8u (j:=1000) rfl rfl (CSub.of_eq (by rw[x7u];first|done|rfl)) (x8u (j:=2000) rfl rfl (CSub.of_eq (by rw[x7n];first|done|rfl)) (x8u (j:=2001) rfl rfl (CSub.refl _) (x8u (j:=2002) rfl rfl (CSub.refl _) z0z))));rintro l' H' ⟨rfl,rfl⟩;conv=>whnf
    refine cJ rH1 0 (w (by omega) l[j].M (by omega) (XD a.D (b.length+1) (b.length+1+ZU (l[j]'m):Int) a.loop (b++[⟨l[j]'m,a.D,a.up,(b.length+1+ZU (l[j]'m):Int),a.loop⟩]) (l[j]'m).L) (by rw[XY,x7u];simp only[x8k];omega) ⟨S0,a.D,b.length+1,(b.length+1+ZU (l[j]'m):Int),a.loop⟩ s pr u t) ?_ (ha:=(by refine x8y (x8z _) (x8y (x8z _) (x8y (LSub.agg ?_) z0v));repeat' (first|exact SubL.nil|refine SubL.cons ?_ ?_|exact Sub.refl _|exact Sub.nils|exact Sub.ff rfl))) (hH:=by exact x8u (j:=1000) rfl rfl (CSub.refl _) (x8u (j:=2000) rfl rfl (CSub.refl _) (x8u (j:=2001) rfl rfl (CSub.refl _) (x8u (j:=2002) rfl rfl (CSub.refl _) z0z))));rintro l' H' ⟨rfl,rfl⟩;conv=>whnf
    refine wI ?_;conv=>whnf
    have o:Vg a.D a.up (b.length+1+ZU (l[j]'m):Int) a.loop b l[j]=XD a.D (b.length+1) (b.length+1+ZU (l[j]'m):Int) a.loop (XD a.D (b.length+1) (b.length+1+ZU (l[j]'m):Int) a.loop (b++[⟨l[j]'m,a.D,a.up,(b.length+1+ZU (l[j]'m):Int),a.loop⟩]) (l[j]'m).L) l[j].M:=by
     rw[DB,if_neg (by assumption),if_neg (by assumption)]
    exact⟨(j+1,Vg a.D a.up (b.length+1+ZU (l[j]'m):Int) a.loop b l[j]),⟨by simp only;omega,by simp only;rw[ZX];omega,by simp only;rw[ZX];omega,by simp only;rw[<-z,VG m,if_pos (by omega)]⟩,by simp only;omega,Le.of_eq (by simp only;rw[o];rfl)⟩
   .have m:j<l.length:=by omega
    have q:=q m;have y:=WQ l[j];refine cJ rH1 0 (w (by omega) l[j].L (by omega) (b++[⟨l[j]'m,a.D,a.up,a.next,a.loop⟩]) (by rw[x7u];simp only[x8k];omega) ⟨S0,a.D,b.length+1,(b.length+1:Int),(b.length+1:Int)⟩ s pr u t) ?_ (ha:=(by refine x8y (x8z _) (x8y (x8z _) (x8y (LSub.agg ?_) z0v));repeat' (first|exact SubL.nil|refine SubL.cons ?_ ?_|exact Sub.refl _|exact Sub.nils|exact Sub.ff rfl))) (hH:=by exact x8u (j:=1000) rfl rfl (CSub.of_eq (by rw[x7u];first|done|rfl)) (x8u (j:=2000) rfl rfl (CSub.of_eq (by rw[x7n];first|done|rfl)) (x8u (j:=2001) rfl rfl (CSub.refl _) (x8u (j:=2002) rfl rfl (CSub.refl _) z0z))));rintro l' H' ⟨rfl,rfl⟩;conv=>whnf
    refine cJ rH1 0 (w (by omega) l[j].M (by omega) (XD a.D (b.length+1) (b.length+1:Int) (b.length+1:Int) (b++[⟨l[j]'m,a.D,a.up,a.next,a.loop⟩]) (l[j]'m).L) (by rw[XY,x7u];simp only[x8k];omega) ⟨S0,a.D,b.length+1,(b.length+1:Int),(b.length+1:Int)⟩ s pr u t) ?_ (ha:=(by refine x8y (x8z _) (x8y (x8z _) (x8y (LSub.agg ?_) z0v));repeat' (first|exact SubL.nil|refine SubL.cons ?_ ?_|exact Sub.refl _|exact Sub.nils|exact Sub.ff rfl))) (hH:=by exact x8u (j:=1000) rfl rfl (CSub.refl _) (x8u (j:=2000) rfl rfl (CSub.refl _) (x8u (j:=2001) rfl rfl (CSub.refl _) (x8u (j:=2002) rfl rfl (CSub.refl _) z0z))));rintro l' H' ⟨rfl,rfl⟩;conv=>whnf
    refine wI ?_;conv=>whnf
    have o:Vg a.D a.up a.next a.loop b l[j]=XD a.D (b.length+1) (b.length+1:Int) (b.length+1:Int) (XD a.D (b.length+1) (b.length+1:Int) (b.length+1:Int) (b++[⟨l[j]'m,a.D,a.up,a.next,a.loop⟩]) (l[j]'m).L) l[j].M:=by
     rw[DB,if_pos (by assumption),if_pos (by assumption)]
    exact⟨(j+1,Vg a.D a.up a.next a.loop b l[j]),⟨by simp only;omega,by simp only;rw[ZX];omega,by simp only;rw[ZX];omega,by simp only;rw[<-z,VG m,if_neg (by omega)]⟩,by simp only;omega,Le.of_eq (by simp only;rw[o];rfl)⟩
   .have m:j<l.length:=by omega
    have q:=q m;have y:=WQ l[j];refine cJ rH1 0 (w (by omega) l[j].L (by omega) (b++[⟨l[j]'m,a.D,a.up,a.next,a.loop⟩]) (by rw[x7u];simp only[x8k];omega) ⟨S0,a.D,b.length+1,a.next,a.loop⟩ s pr u t) ?_ (ha:=(by refine x8y (x8z _) (x8y (x8z _) (x8y (LSub.agg ?_) z0v));repeat' (first|exact SubL.nil|refine SubL.cons ?_ ?_|exact Sub.refl _|exact Sub.nils|exact Sub.ff rfl))) (hH:=by exact x8u (j:=1000) rfl rfl (CSub.of_eq (by rw[x7u];first|done|rfl)) (x8u (j:=2000) rfl rfl (CSub.of_eq (by rw[x7n];first|done|rfl)) (x8u (j:=2001) rfl rfl (CSub.refl _) (x8u (j:=2002) rfl rfl (CSub.refl _) z0z))));rintro l' H' ⟨rfl,rfl⟩;conv=>whnf
    refine cJ rH1 0 (w (by omega) l[j].M (by omega) (XD a.D (b.length+1) a.next a.loop (b++[⟨l[j]'m,a.D,a.up,a.next,a.loop⟩]) (l[j]'m).L) (by rw[XY,x7u];simp only[x8k];omega) ⟨S0,a.D,b.length+1,a.next,a.loop⟩ s pr u t) ?_ (ha:=(by refine x8y (x8z _) (x8y (x8z _) (x8y (LSub.agg ?_) z0v));repeat' (first|exact SubL.nil|refine SubL.cons ?_ ?_|exact Sub.refl _|exact Sub.nils|exact Sub.ff rfl))) (hH:=by exact x8u (j:=1000) rfl rfl (CSub.refl _) (x8u (j:=2000) rfl rfl (CSub.refl _) (x8u (j:=2001) rfl rfl (CSub.refl _) (x8u (j:=2002) rfl rfl (CSub.refl _) z0z))));rintro l' H' ⟨rfl,rfl⟩;conv=>whnf
    refine wI ?_;conv=>whnf
    have o:Vg a.D a.up a.next a.loop b l[j]=XD a.D (b.length+1) a.next a.loop (XD a.D (b.length+1) a.next a.loop (b++[⟨l[j]'m,a.D,a.up,a.next,a.loop⟩]) (l[j]'m).L) l[j].M:=by
     rw[DB,if_neg (by assumption),if_neg (by assumption)]
    exact⟨(j+1,Vg a.D a.up a.next a.loop b l[j]),⟨by simp only;omega,by simp only;rw[ZX];omega,by simp only;rw[ZX];omega,by simp only;rw[<-z,VG m,if_neg (by omega)]⟩,by simp only;omega,Le.of_eq (by simp only;rw[o];rfl)⟩
   .have m:j<l.length:=by omega
    have q:=q m;have y:=WQ l[j];refine cJ rH1 0 (w (by omega) l[j].L (by omega) (b++[⟨l[j]'m,a.D,a.up,a.next,a.loop⟩]) (by rw[x7u];simp only[x8k];omega) ⟨S0,a.D,b.length+1,(b.length+1:Int),(b.length+1:Int)⟩ s pr u t) ?_ (ha:=(by refine x8y (x8z _) (x8y (x8z _) (x8y (LSub.agg ?_) z0v));repeat' (first|exact SubL.nil|refine SubL.cons ?_ ?_|exact Sub.refl _|exact Sub.nils|exact Sub.ff rfl))) (hH:=by exact x8u (j:=1000) rfl rfl (CSub.of_eq (by rw[x7u];first|done|rfl)) (x8u (j:=2000) rfl rfl (CSub.of_eq (by rw[x7n];first|done|rfl)) (x8u (j:=2001) rfl rfl (CSub.refl _) (x8u (j:=2002) rfl rfl (CSub.refl _) z0z))));rintro l' H' ⟨rfl,rfl⟩;conv=>whnf
    refine cJ rH1 0 (w (by omega) l[j].M (by omega) (XD a.D (b.length+1) (b.length+1:Int) (b.length+1:Int) (b++[⟨l[j]'m,a.D,a.up,a.next,a.loop⟩]) (l[j]'m).L) (by rw[XY,x7u];simp only[x8k];omega) ⟨S0,a.D,b.length+1,(b.length+1:Int),(b.length+1:Int)⟩ s pr u t) ?_ (ha:=(by refine x8y (x8z _) (x8y (x8z _) (x8y (LSub.agg ?_) z0v));repeat' (first|exact SubL.nil|refine SubL.cons ?_ ?_|exact Sub.refl _|exact Sub.nils|exact Sub.ff rfl))) (hH:=by exact x8u (j:=1000) rfl rfl (CSub.refl _) (x8u (j:=2000) rfl rfl (CSub.refl _) (x8u (j:=2001) rfl rfl (CSub.refl _) (x8u (j:=2002) rfl rfl (CSub.refl _) z0z))));rintro l' H' ⟨rfl,rfl⟩;conv=>whnf
    refine wI ?_;conv=>whnf
    have o:Vg a.D a.up a.next a.loop b l[j]=XD a.D (b.length+1) (b.length+1:Int) (b.length+1:Int) (XD a.D (b.length+1) (b.length+1:Int) (b.length+1:Int) (b++[⟨l[j]'m,a.D,a.up,a.next,a.loop⟩]) (l[j]'m).L) l[j].M:=by
     rw[DB,if_pos (by assumption),if_pos (by assumption)]
    exact⟨(j+1,Vg a.D a.up a.next a.loop b l[j]),⟨by simp only;omega,by simp only;rw[ZX];omega,by simp only;rw[ZX];omega,by simp only;rw[<-z,VG m,if_neg (by omega)]⟩,by simp only;omega,Le.of_eq (by simp only;rw[o];rfl)⟩
   .have m:j<l.length:=by omega
    have q:=q m;have y:=WQ l[j];refine cJ rH1 0 (w (by omega) l[j].L (by omega) (b++[⟨l[j]'m,a.D,a.up,a.next,a.loop⟩]) (by rw[x7u];simp only[x8k];omega) ⟨S0,a.D,b.length+1,a.next,a.loop⟩ s pr u t) ?_ (ha:=(by refine x8y (x8z _) (x8y (x8z _) (x8y (LSub.agg ?_) z0v));repeat' (first|exact SubL.nil|refine SubL.cons ?_ ?_|exact Sub.refl _|exact Sub.nils|exact Sub.ff rfl))) (hH:=by exact x8u (j:=1000) rfl rfl (CSub.of_eq (by rw[x7u];first|done|rfl)) (x8u (j:=2000) rfl rfl (CSub.of_eq (by rw[x7n];first|done|rfl)) (x8u (j:=2001) rfl rfl (CSub.refl _) (x8u (j:=2002) rfl rfl (CSub.refl _) z0z))));rintro l' H' ⟨rfl,rfl⟩;conv=>whnf
    refine cJ rH1 0 (w (by omega) l[j].M (by omega) (XD a.D (b.length+1) a.next a.loop (b++[⟨l[j]'m,a.D,a.up,a.next,a.loop⟩]) (l[j]'m).L) (by rw[XY,x7u];simp only[x8k];omega) ⟨S0,a.D,b.length+1,a.next,a.loop⟩ s pr u t) ?_ (ha:=(by refine x8y (x8z _) (x8y (x8z _) (x8y (LSub.agg ?_) z0v));repeat' (first|exact SubL.nil|refine SubL.cons ?_ ?_|exact Sub.refl _|exact Sub.nils|exact Sub.ff rfl))) (hH:=by exact x8u (j:=1000) rfl rfl (CSub.refl _) (x8u (j:=2000) rfl rfl (CSub.refl _) (x8u (j:=2001) rfl rfl (CSub.refl _) (x8u (j:=2002) rfl rfl (CSub.refl _) z0z))));rintro l' H' ⟨rfl,rfl⟩;conv=>whnf
    refine wI ?_;conv=>whnf
    have o:Vg a.D a.up a.next a.loop b l[j]=XD a.D (b.length+1) a.next a.loop (XD a.D (b.length+1) a.next a.loop (b++[⟨l[j]'m,a.D,a.up,a.next,a.loop⟩]) (l[j]'m).L) l[j].M:=by
     rw[DB,if_neg (by assumption),if_neg (by assumption)]
    exact⟨(j+1,Vg a.D a.up a.next a.loop b l[j]),⟨by simp only;omega,by simp only;rw[ZX];omega,by simp only;rw[ZX];omega,by simp only;rw[<-z,VG m,if_neg (by omega)]⟩,by simp only;omega,Le.of_eq (by simp only;rw[o];rfl)⟩
   .refine ⟨_,.refl _,rfl,?_⟩;rw[x7e (by omega),XD]at z;rw[<-z];rfl
structure Sheet where
 p:Pg
 l:List Item
 lo:List Int
 hi:List Int
def Sheet.cells(s:Sheet):List AV:=s.p.cells++[.sl (s.l.map fun i=>.agg i.cells),QB s.lo,QB s.hi]
def cntP:List Pr->Nat
 |[]=>0
 |f::r=>cntL f.body+cntP r
def Uk{l:List Pr}(h:j<l.length):cntP (l.drop j)=cntL l[j].body+cntP (l.drop (j+1)):=by
 rw[QG h,cntP]
def Jr(i:Nat)(h:List Item)(m l:List Int):List Pr->List Item×List Int×List Int
 |[]=>(h,m,l)
 |f::r=>Jr (i+1) (XD i 0 (-1) 0 h f.body) (m++[(h.length:Int)+1]) (l++[((XD i 0 (-1) 0 h f.body).length:Int)+1]) r
def sheetOf(p:Pg):Sheet:=⟨p,(Jr 0 [] [] [] p.A).1,(Jr 0 [] [] [] p.A).2.1,(Jr 0 [] [] [] p.A).2.2⟩
def Nr{h:List Item}{n m:List Int}{l:List Pr}(o:j<l.length):
  Jr i h n m (l.drop j)=Jr (i+1) (XD i 0 (-1) 0 h l[j].body) (n++[(h.length:Int)+1]) (m++[((XD i 0 (-1) 0 h l[j].body).length:Int)+1]) (l.drop (j+1)):=by
 rw[QG o,Jr]
def x0v(n tI m:Nat)(p:Pg)(L:List Item)(l h:List Int):Heap:=
 [(0,.obj n [.p (eStrs p.B),.p (.sl (p.A.map fun f=>.agg f.cells)),.hd 1 0 L.length,.hd 2 0 l.length,.hd 3 0 h.length]),(1,.own tI 17 (L.map fun i=>.agg i.cells)),(2,.own m 1 (l.map (.int .i64))),(3,.own m 1 (h.map (.int .i64)))]
def HW(p:Pg)(M:p.A.length<=1000)(y:cntP p.A<=999):SpecP prog 75 [.agg p.cells] (fun r=>r=.ip (sheetOf p).cells):=by
 refine sB Sz func75 rfl call75 ?_;conv=>whnf
 repeat' ((first|(refine iM fun _=>?_)|refine x7g rfl ?_);conv=>whnf)
 have J:(p.A.map fun f=>AV.agg f.cells).length=p.A.length:=x7z _;refine LoopK.inv QV (fun i:Nat×List Item×List Int×List Int=>⟨[(3,.ptr 0 0),(10,.p (.sl (p.A.map fun f=>AV.agg f.cells))),(11,.p (.int .i64 (p.A.map fun f=>AV.agg f.cells).length)),(12,.j i.1)],x0v 133 130 3 p i.2.1 i.2.2.1 i.2.2.2⟩)
  (fun i=>i.1<=p.A.length/\i.2.1.length+cntP (p.A.drop i.1)=cntP p.A/\i.2.2.1.length=i.1/\i.2.2.2.length=i.1/\Jr i.1 i.2.1 i.2.2.1 i.2.2.2 (p.A.drop i.1)=Jr 0 [] [] [] p.A) (fun i=>p.A.length-i.1) (0,[],[],[])
  (Le.mk [(1,.own 130 17 []),(2,.own 3 1 []),(3,.own 3 1 [])] (by simp[Chunk.new0];exact⟨rfl,rfl,rfl⟩) (by simp) (by simp[x0v]) (.r (.r (.r (.r .nil))))
    (.cons rfl (.obj (.r (.r (.cons (.nil x7v) (.cons (.nil (x7j _ x7v)) (.cons (.nil (x7j _ (x7j _ x7v))) .nil)))))) (.new x7v (.new (x7j _ x7v) (.new (x7j _ (x7j _ x7v)) .nil)))))
  ⟨x7p _,by simp,rfl,rfl,rfl⟩ ?_
 rintro⟨j,b,n,h⟩ ⟨d,g,u,v,o⟩;simp only at d g u v o⊢;conv=>whnf
 repeat' (first|((first|(refine iM fun _=>?_)|refine dA ?_|refine x7g rfl ?_|refine aD ?_|refine bP ?_|(refine iA fun _=>?_)|refine wI ?_|refine z0w (by simp) rfl (by show(n.length+1)*8<=140737488355328;omega) (by show n.length+1<=9223372036854775807;omega) (fun x t=>by rcases x7y.1 t with rfl;exact⟨rfl,rfl⟩) ?_);conv=>whnf)|(apply bD<;>intro _<;>first|omega|conv=>whnf)|(refine x7g ?_ ?_<;>conv=>whnf))
 .have q:j<p.A.length:=by omega
  have w:=Uk q;refine cJ [(1000,0),(2000,1),(2001,2),(2002,3)] 0 (T4 1000 (by omega) p.A[j].body (by omega) b (by omega) ⟨S0,j,0,-1,0⟩ _ _ (n++[(b.length:Int)+1]) h) ?_ (ha:=(by refine x8y (x8z _) (x8y (x8z _) (x8y (LSub.agg ?_) z0v));repeat' (first|exact SubL.nil|refine SubL.cons ?_ ?_|exact Sub.refl _|exact Sub.nils|exact Sub.ff rfl))) (hH:=by exact x8u (j:=0) rfl rfl (CSub.of_eq (by rw[x7u];first|done|rfl)) (x8u (j:=1) rfl rfl (CSub.refl _) (x8u (j:=2) rfl rfl (CSub.of_eq (by rw[x7n];first|done|rfl)) (x8u (j:=3) rfl rfl (CSub.refl _) z0z))));rintro l' H' ⟨rfl,rfl⟩;conv=>whnf
  have s:=XY j 0 (-1) 0 b p.A[j].body;repeat' (first|((first|(refine iM fun _=>?_)|refine dA ?_|refine x7g rfl ?_|refine aD ?_|refine bP ?_|refine wI ?_|refine z0w (by simp) rfl (by show(h.length+1)*8<=140737488355328;omega) (by show h.length+1<=9223372036854775807;omega) (fun x t=>by rcases x7y.1 t with rfl;exact⟨rfl,rfl⟩) ?_|refine Wr.i64 (by rw[XY];omega) (by rw[XY];omega) ?_);conv=>whnf)|(refine x7g ?_ ?_<;>conv=>whnf))
  all_goals exact⟨(j+1,XD j 0 (-1) 0 b p.A[j].body,n++[(b.length:Int)+1],h++[((XD j 0 (-1) 0 b p.A[j].body).length:Int)+1]),⟨by simp only;omega,by simp only;omega,by simp[u],by simp[v],by simp only;rw[<-o,Nr q]⟩,by simp only;omega,Le.of_eq (by simp only[x0v,x7u,x7n];rfl)⟩
 .have q:j<p.A.length:=by omega
  have w:=Uk q;refine cJ [(1000,0),(2000,1),(2001,2),(2002,3)] 0 (T4 1000 (by omega) p.A[j].body (by omega) b (by omega) ⟨S0,j,0,-1,0⟩ _ _ (n++[(b.length:Int)+1]) h) ?_ (ha:=(by refine x8y (x8z _) (x8y (x8z _) (x8y (LSub.agg ?_) z0v));repeat' (first|exact SubL.nil|refine SubL.cons ?_ ?_|exact Sub.refl _|exact Sub.nils|exact Sub.ff rfl))) (hH:=by exact x8u (j:=0) rfl rfl (CSub.of_eq (by rw[x7u];first|done|rfl)) (x8u (j:=1) rfl rfl (CSub.refl _) (x8u (j:=2) rfl rfl (CSub.of_eq (by rw[x7n];first|done|rfl)) (x8u (j:=3) rfl rfl (CSub.refl _) z0z))));rintro l' H' ⟨rfl,rfl⟩;conv=>whnf
  have s:=XY j 0 (-1) 0 b p.A[j].body;repeat' (first|((first|(refine iM fun _=>?_)|refine dA ?_|refine x7g rfl ?_|refine aD ?_|refine bP ?_|refine wI ?_|refine z0w (by simp) rfl (by show(h.length+1)*8<=140737488355328;omega) (by show h.length+1<=9223372036854775807;omega) (fun x t=>by rcases x7y.1 t with rfl;exact⟨rfl,rfl⟩) ?_|refine Wr.i64 (by rw[XY];omega) (by rw[XY];omega) ?_);conv=>whnf)|(refine x7g ?_ ?_<;>conv=>whnf))
  all_goals exact⟨(j+1,XD j 0 (-1) 0 b p.A[j].body,n++[(b.length:Int)+1],h++[((XD j 0 (-1) 0 b p.A[j].body).length:Int)+1]),⟨by simp only;omega,by simp only;omega,by simp[u],by simp[v],by simp only;rw[<-o,Nr q]⟩,by simp only;omega,Le.of_eq (by simp only[x0v,x7u,x7n];rfl)⟩
 .have G:p.A.drop j=[]:=x7e (by omega);rw[G,Jr]at o;refine⟨.ip (sheetOf p).cells,?_,rfl⟩;have e:(sheetOf p).cells=[eStrs p.B,.sl (p.A.map fun f=>.agg f.cells),.sl (b.map fun i=>.agg i.cells),QB n,QB h]:=by
   unfold sheetOf;rw[<-o];rfl
  rw[e];have F:∀H:Heap,getH H 1=some (.own 130 17 (b.map fun i=>.agg i.cells))->getH H 2=some (.own 3 1 (n.map (.int .i64)))->getH H 3=some (.own 3 1 (h.map (.int .i64)))->
    FrzL H [.p (eStrs p.B),.p (.sl (p.A.map fun f=>.agg f.cells)),.hd 1 0 b.length,.hd 2 0 n.length,.hd 3 0 h.length] [eStrs p.B,.sl (p.A.map fun f=>.agg f.cells),.sl (b.map fun i=>.agg i.cells),QB n,QB h]:=fun H g1 z a=>
   .cons (.p (Sub.refl _)) (.cons (.p (Sub.refl _)) (.cons (.hd g1 (by simp)) (.cons (.hd z (by simp)) (.cons (.hd a (by simp)) .nil))))
  refine Frz.ptr (off:=0) rfl rfl fun m l c I y=>?_;obtain⟨l',C,D⟩:=(F (x0v 133 130 3 p b n h) rfl rfl rfl).get.2 m c y;have E:=C.symm.trans I;cases E;exact D
theorem IdxK.at{es:List AV}{e:AV}{n:Int}(m:n=k)(l:es[k]?=some e)(o:e.cells.length=sz)(h:K e.cells):IdxK es sz n K:=⟨k,e,m,l,o,h⟩
def VM{l:List Int}{n:Int}(h:l[k]?=some n):(l.map (AV.int .i64))[k]?=some (.int .i64 n):=by simp[h]
def VL(l:List Item):AV:=.sl (l.map fun i=>.agg i.cells)
def LD(s:Sheet)(i m h:Nat)(n:s.lo[i]?=some ((m:Int)+1))(o:s.hi[i]?=some ((h:Int)+1))(q:m<=h)(t:h<=s.l.length)(v:s.l.length<=1000):SpecP prog 150 [.ip s.cells,.int .i64 i] (fun r=>r=VL ((s.l.take h).drop m)):=by
 refine sB Vm func150 rfl call150 ?_;conv=>whnf
 repeat' ((first|refine dA ?_|refine wI ?_|(refine IdxK.at rfl (VM n) rfl ?_)|(refine IdxK.at rfl (VM o) rfl ?_)|refine x7g (fun e u=>by obtain⟨x,_,rfl⟩:=x7d.1 u;rfl) (z3d m h (by simp) (by simp) q (by simpa using t) ?_));conv=>whnf)
 exact RetK.p (by simp[VL,map_take,List.map_drop])
def KP(s:Sheet)(id:Int):SpecP prog 60 [.ip s.cells,.int .i64 id] (fun r=>r=.bool (decide (1<=id)&&decide (id<=s.l.length))):=by
 refine sB W8 func60 rfl call60 ?_;conv=>whnf
 repeat' (first|(refine iM fun _=>?_;conv=>whnf)|(apply bD<;>intro _<;>first|omega|conv=>whnf))
 all_goals have h:(s.l.map fun i=>AV.agg i.cells).length=s.l.length:=x7z _
 .exact RetK.bool (by simp_all)
 .exact RetK.ff (by simp;omega)
def HS(s:Sheet)(i h l:Nat)(m:s.lo[i]?=some ((h:Int)+1))(n:s.hi[i]?=some ((l:Int)+1)):SpecP prog 136 [.ip s.cells,.int .i64 i] (fun r=>r=.int .i64 (if h<l then(h:Int)+1 else -1)):=by
 refine sB MG func136 rfl call136 ?_;conv=>whnf
 repeat' (first|((first|refine dA ?_|(refine IdxK.at rfl (VM m) rfl ?_)|(refine IdxK.at rfl (VM n) rfl ?_));conv=>whnf)|(apply bD<;>intro _<;>first|omega|conv=>whnf))
 .exact RetK.int (by rw[if_pos (by omega)])
 .exact RetK.int (by rw[if_neg (by omega)])
def UC(l:List Str)(g:Nat)(c:AV)(p:Str->Bool)(n:∀s,SpecP prog g [.str s,c] (fun r=>r=.bool (p s))):SpecP prog 210 [eStrs l,.fn g [c]] (fun r=>r=.int .i64 (idxF p l)):=by
 refine sB VB func210 rfl call210 ?_;conv=>whnf
 refine iM fun _=>?_;have q:(l.map AV.str).length=l.length:=x7z _;conv=>whnf
 refine LoopK.inv QV (fun j:Nat=>⟨[(0,.p (eStrs l)),(1,.p (.fn g [c])),(7,.p (.int .i64 (l.map AV.str).length)),(8,.j j)],[]⟩) (fun j=>j<=l.length/\(l.drop j).any p=l.any p/\l.findIdx p=j+(l.drop j).findIdx p) (fun j=>l.length-j) 0 (Le.of_eq rfl) ⟨x7p _,rfl,by simp⟩ ?_;rintro j ⟨o,h,m⟩;conv=>whnf
 repeat' (first|((first|(refine iA fun _=>?_)|refine wI ?_|refine cP (n _) ?_);conv=>whnf)|(apply bD<;>intro _<;>first|omega|conv=>whnf)|(apply bB<;>intro _<;>conv=>whnf))
 .exact RetK.int (V8 (p:=p) (by omega) (by assumption) h m).symm
 .exact ⟨j+1,⟨by omega,by rw[<-h,Kf (p:=p) (by omega) (by assumption)],by rw[m,Ot (p:=p) (by omega) (by assumption)];omega⟩,by omega,Le.of_eq rfl⟩
 .exact RetK.int (by rw[Fc];rw[<-h,X8 (by omega)])
def VF(l:List Str)(g:Nat)(c:AV)(p:Str->Bool)(h:∀s,SpecP prog g [.str s,c] (fun r=>r=.bool (p s))):SpecP prog 148 [eStrs l,.fn g [c]] (fun r=>r=.bool (l.any p)):=by
 refine sB WR func148 rfl call148 ?_;conv=>whnf
 repeat' (refine cP (UC _ _ _ p h) ?_;conv=>whnf)
 exact RetK.bool Xd
def XT(l:List Pr)(g:Nat)(c:AV)(p:Pr->Bool)(n:∀s:Pr,SpecP prog g [.agg s.cells,c] (fun r=>r=.bool (p s))):SpecP prog 100 [.sl (l.map fun f=>.agg f.cells),.fn g [c]] (fun r=>r=.int .i64 (idxF p l)):=by
 refine sB WB func100 rfl call100 ?_;conv=>whnf
 refine iM fun _=>?_;have q:(l.map fun f=>AV.agg f.cells).length=l.length:=x7z _;conv=>whnf
 refine LoopK.inv QV (fun j:Nat=>⟨[(0,.p (.sl (l.map fun f=>.agg f.cells))),(1,.p (.fn g [c])),(7,.p (.int .i64 (l.map fun f=>AV.agg f.cells).length)),(8,.j j)],[]⟩) (fun j=>j<=l.length/\(l.drop j).any p=l.any p/\l.findIdx p=j+(l.drop j).findIdx p) (fun j=>l.length-j) 0 (Le.of_eq rfl) ⟨x7p _,rfl,by simp⟩ ?_;rintro j ⟨o,h,m⟩;conv=>whnf
 repeat' (first|((first|(refine iA fun _=>?_)|refine wI ?_|refine cP (n _) ?_);conv=>whnf)|(apply bD<;>intro _<;>first|omega|conv=>whnf)|(apply bB<;>intro _<;>conv=>whnf))
 .exact RetK.int (V8 (p:=p) (by omega) (by assumption) h m).symm
 .exact ⟨j+1,⟨by omega,by rw[<-h,Kf (p:=p) (by omega) (by assumption)],by rw[m,Ot (p:=p) (by omega) (by assumption)];omega⟩,by omega,Le.of_eq rfl⟩
 .exact RetK.int (by rw[Fc];rw[<-h,X8 (by omega)])
def WF(l:List Pr)(g:Nat)(c:AV)(p:Pr->Bool)(h:∀s:Pr,SpecP prog g [.agg s.cells,c] (fun r=>r=.bool (p s))):SpecP prog 267 [.sl (l.map fun f=>.agg f.cells),.fn g [c]] (fun r=>r=.bool (l.any p)):=by
 refine sB ZI func267 rfl call267 ?_;conv=>whnf
 repeat' (refine cP (XT _ _ _ p h) ?_;conv=>whnf)
 exact RetK.bool Xd
def Db(p:Pg)(n:Str):SpecP prog 149 [.str n,.ip p.cells] (fun r=>r=.bool (p.B.any fun s=>n==s)):=by
 refine sB Vt func149 rfl call149 ?_;conv=>whnf
 repeat' (refine cP (QX _ _) ?_;conv=>whnf)
 exact RetK.p rfl
def Xv(n:Str)(f:Pr):SpecP prog 101 [.agg f.cells,.ip [.str n]] (fun r=>r=.bool (f.name==n)):=by
 refine sB PM func101 rfl call101 ?_;conv=>whnf
 skip
 exact RetK.p rfl
def Di(n:Str)(f:Pr):SpecP prog 268 [.agg f.cells,.ip [.str n]] (fun r=>r=.bool (f.name==n)):=by
 refine sB Vc func268 rfl call268 ?_;conv=>whnf
 skip
 exact RetK.p rfl
def XM(s:Sheet)(n:Str):SpecP prog 51 [.ip s.cells,.str n] (fun r=>r=.int .i64 (idxF (fun f=>f.name==n) s.p.A)):=by
 refine sB Qm func51 rfl call51 ?_;conv=>whnf
 repeat' (refine cP (XT _ _ _ (fun f=>f.name==n) (fun f=>Xv n f)) ?_;conv=>whnf)
 exact RetK.p rfl
end Go.Ab
