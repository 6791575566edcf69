/- Small laws for the scripts. Conditions: none. -/
import Derived.Test.YtgljdhjopolmcaaGreatInN7
set_option linter.all false
set_option maxRecDepth 100000
set_option maxHeartbeats 16000000
open List (all_cons any_cons map_take)
open Nat (ble)
namespace Go.Ab
open Go.Proofs.Tryz
open Go.Proofs
variable {ι:Type}{K:List AV->Prop}{N T i j m:Nat}{b:Bool}{c:Code}{e:AV}{fn:Func}{info:Info}{nest seen:Int}{ops:Array Oper}
def q9z{p:Prop}[Decidable p]{A B:Prop}(h:p->A)(k:¬p->B):Br (decide p) A B:=⟨fun e=>h (by simpa using e),fun e=>k (by simpa using e)⟩
def q5m{p:Prop}[Decidable p]{A B:Prop}(h:p->A)(k:¬p->B):Br (!decide p) B A:=⟨fun e=>k (by simpa using e),fun e=>h (by simpa using e)⟩
theorem Br.n{A B:Prop}(h:b=true->B)(l:b=false->A):Br (!b) A B:=⟨fun e=>l (by simpa using e),fun e=>h (by simpa using e)⟩
theorem ByteK.at{s:List UInt8}{k:Nat}{K:UInt8->Prop}(l:k<s.length)(h:K s[k]):ByteK s k K:=⟨k,s[k],rfl,by simp,h⟩
theorem X.avs_len(l:List X):(X.avs l).length=l.length:=by rw[X.avs_eq];simp
theorem S.avs_len(l:List S):(S.avs l).length=l.length:=by rw[S.avs_eq];simp
theorem IdxK.map{α:Type}{f:α->AV}{l:List α}{sz k:Nat}(o:k<(l.map f).length)(q:∀x,(f x).cells.length=sz)(h:K (f (l[k]'(by simpa using o))).cells):IdxK (l.map f) sz k K:=
 ⟨k,f (l[k]'(by simpa using o)),rfl,by simp at o;simp[o],q _,h⟩
theorem IdxK.xs{l:List X}{k:Nat}(o:k<(X.avs l).length)(h:K (l[k]'(by rw[X.avs_len]at o;exact o)).cells):IdxK (X.avs l) 4 k K:=by
 rw[X.avs_len]at o;refine⟨k,.agg l[k].cells,rfl,?_,rfl,h⟩;rw[X.avs_eq];simp[o]
def RR{l:List S}{k:Nat}(n:k<(S.avs l).length)(h:K (l[k]'(by rw[S.avs_len]at n;exact n)).cells):IdxK (S.avs l) 13 k K:=by
 rw[S.avs_len]at n;refine⟨k,.agg l[k].cells,rfl,?_,rfl,h⟩;rw[S.avs_eq];simp[n]
theorem RetK.tt{H:Heap}{b:Bool}(h:b=true):RetK H (.p .tt) (fun r=>r=.bool b):=⟨_,.p (Sub.tt h),rfl⟩
theorem RetK.ff{H:Heap}{b:Bool}(h:b=false):RetK H (.p .ff) (fun r=>r=.bool b):=⟨_,.p (Sub.ff h),rfl⟩
theorem RetK.bool{H:Heap}{a b:Bool}(h:a=b):RetK H (.p (.bool a)) (fun r=>r=.bool b):=⟨_,.p (Sub.bool h),rfl⟩
theorem RetK.int{H:Heap}{k:IntKind}{m n:Int}(h:m=n):RetK H (.p (.int k m)) (fun r=>r=.int k n):=⟨_,.p (Sub.int h),rfl⟩
theorem RetK.p{H:Heap}{a b:AV}(h:a=b):RetK H (.p a) (fun r=>r=b):=⟨_,.p (Sub.of_eq h),rfl⟩
def QG{α:Type}{l:List α}(h:j<l.length):l.drop j=l[j]::l.drop (j+1):=by simp
def GI{α:Type}{l:List α}{p:α->Bool}(k:j<l.length)(h:p l[j]=true):(l.drop (j+1)).all p=(l.drop j).all p:=by
 rw[QG k,all_cons,h,z3l]
def Z6{α:Type}{l:List α}{p:α->Bool}(k:j<l.length)(h:p l[j]=false):(l.drop j).all p=false:=by
 rw[QG k,all_cons,h,Bool.false_and]
def GE{α:Type}{l:List α}{p:α->Bool}(h:l.length<=j):(l.drop j).all p=true:=by
 rw[x9j h];rfl
def Ud{α:Type}{l:List α}{p:α->Bool}(k:j<l.length)(h:p l[j]=false):(l.drop (j+1)).any p=(l.drop j).any p:=by
 rw[QG k,any_cons,h,Bool.false_or]
def Jt{α:Type}{l:List α}{p:α->Bool}(k:j<l.length)(h:p l[j]=true):(l.drop j).any p=true:=by
 rw[QG k,any_cons,h,Bool.true_or]
def PG{α:Type}{l:List α}{p:α->Bool}(h:l.length<=j):(l.drop j).any p=false:=by
 rw[x9j h];rfl
def q3p{α β:Type}{l:List α}{g:α->β}(h:j<l.length):(l.take (j+1)).map g=(l.take j).map g++[g l[j]]:=by
 rw[x9v h,x8a];rfl
def idxF{α:Type}(p:α->Bool)(l:List α):Int:=bif l.any p then(l.findIdx p:Nat)else -1
def q0e{α:Type}{l:List α}{p:α->Bool}(k:j<l.length)(h:p l[j]=false):(l.drop j).findIdx p=(l.drop (j+1)).findIdx p+1:=by
 rw[QG k,List.findIdx_cons,h,x9k]
def x0y{α:Type}{l:List α}{p:α->Bool}(k:j<l.length)(h:p l[j]=true):(l.drop j).findIdx p=0:=by
 rw[QG k,List.findIdx_cons,h,x9z]
def Vh{α:Type}{p:α->Bool}{l:List α}:decide (idxF p l≥0)=l.any p:=by
 unfold idxF;cases l.any p<;>simp
def Ya{α:Type}{p:α->Bool}{l:List α}(k:j<l.length)(h:p l[j]=true)(n:(l.drop j).any p=l.any p)(o:l.findIdx p=j+(l.drop j).findIdx p):idxF p l=j:=by
 unfold idxF;rw[<-n,Jt k h,x9z,o,x0y k h];rfl
def P3{α:Type}{p:α->Bool}{l:List α}(h:l.any p=false):idxF p l = -1:=by
 unfold idxF;rw[h];rfl
def Wt{P:Program}{T:Tab}{id:Nat}{K:St->Prop}{s:St}(l:St)(h:DrawK P T N info id ops (fun s=>Ry info id s fun y=>Le N y l) s)(u:Ry info id l K):
  DrawK P T N info id ops (fun s=>Ry info id s K) s:=by
 refine⟨⟨fun σ β a w x=>Code.wp_mono (fun e q w' k=>?_) (h.ok.ok σ β a w x)⟩⟩;obtain⟨σ',β',s',k,o,v⟩:=k;cases e<;>simp only at k⊢;obtain⟨z,r,t⟩:=U5 (N:=N) k;obtain⟨σ2,β2,p,n⟩:=(t.trans r) σ' β' q w' o;exact⟨σ2,β2,l,u,p,v.trans n⟩
def Ce{P:Program}{T:Tab}{id:Nat}{K:St->Prop}{s:St}(hT:TabOK P T)(l:P.follows .mixedOrders=true)(k:(bif Bp ops.size ops.toList then bif ble (info.sched id).len ops.size then VU ops [] (info.sched id)else false else false)=true)(h:drW P T N ops (info.sched id) s K):DrawK P T N info id ops K s:=DrawK.of hT l _ k h
def bD{p:Prop}[Decidable p]{A B:Prop}(h:p->A)(k:¬p->B):Br (decide p) A B:=q9z h k
def bE{p:Prop}[Decidable p]{A B:Prop}(h:p->A)(k:¬p->B):Br (!decide p) B A:=q5m h k
def bB{A B:Prop}(h:b=true->A)(k:b=false->B):Br b A B:=⟨h,k⟩
def bN{A B:Prop}(h:b=true->B)(k:b=false->A):Br (!b) A B:=Br.n h k
def iM{n:Nat}{K:Prop}(h:n<=9223372036854775807->K):n<=9223372036854775807->K:=h
def wI{n:Int}{K:Int->Prop}(l:K n)(h : -9223372036854775808<=n:=by omega)(k:n<=9223372036854775807:=by omega):Wr .i64 n K:=Wr.i64 h k l
def aD{a b c:Prop}(h:c)(k:a:=by decide)(l:b:=by decide):(a/\b)/\c:=⟨⟨k,l⟩,h⟩
def aR{a b c d:Prop}(h:d)(k:a:=by exact rfl)(l:b:=by exact rfl)(n:c:=by decide):(a/\b/\c)/\d:=⟨⟨k,l,n⟩,h⟩
def bP{es:List AV}{sz:Nat}{out:List LV}{k l:Prop}(n:k)(h:∀x∈es,x.cells.length=sz:=by intro x h;rcases x9q.1 h with rfl;rfl)(o:out=(es.flatMap AV.cells).map .p:=by exact rfl):BsK es sz out k l:=.pure h o n
def iA{α:Type}{f:α->AV}{l:List α}{sz k:Nat}(h:∀n:k<l.length,K (f l[k]).cells)(n:k<(l.map f).length:=by omega)(o:∀x,(f x).cells.length=sz:=by intro _;rfl):IdxK (l.map f) sz k K:=IdxK.map n o (h (by simpa using n))
def dA{id:Nat}{K:St->Prop}{s:St}(h:drW prog tab N ops (info.sched id) s K)(k:(bif Bp ops.size ops.toList then bif ble (info.sched id).len ops.size then VU ops [] (info.sched id)else false else false)=true:=by kernel_rfl):DrawK prog tab N info id ops K s:=Ce ZP mixed k h
def cP{P:Program}{g:FuncId}{args:List LV}{k:Option Nat}{s:St}{K:St->Prop}{avs:List AV}{c:AV}(l:SpecP P g avs fun r=>r=c)(h:setD N s.sl k (.p c) fun sl=>K ⟨sl,s.H⟩)(ha:ArgP args avs:=by(repeat (refine ArgP.cons ?_ ?_;first|exact Sub.refl _|exact Sub.tt rfl|exact Sub.ff rfl|exact Sub.int (by omega)));exact ArgP.nil):CallK P N g args k s K:=CallK.pure l ha fun _ e=>e▸h
def lE{s:St}{sl':List (Nat×LV)}{H':Heap}(hnd:(H'.map (·.1)).Nodup:=by simp)(hsl:WkS [] s.sl sl':=by(repeat (refine WkS.cons ?_ ?_;exact Wk.refl _));exact WkS.nil)(hH:WkH [] s.H H':=by(repeat refine WkH.cons rfl (CWk.refl _) ?_);exact WkH.nil):Le N s ⟨sl',H'⟩:=Le.mk [] (by simp) (by simp) hnd hsl hH
class Ask (P:Prop) (S Q:outParam Prop):Prop where
 h:Q->S->P
inductive AkA(a:Prop):Prop
 |mk (h:a)
inductive AkT:Prop
 |mk
inductive AkW:IntKind->Int->Prop
 |mk {n:Int} (h1 : -9223372036854775808<=n) (h2:n<=9223372036854775807):AkW .i64 n
inductive AkI{α:Type}(f:α->AV)(l:List α)(sz k:Nat):Prop
 |mk (hk:k<(l.map f).length) (hs:∀x,(f x).cells.length=sz)
inductive AkB(es:List AV)(sz:Nat)(out:List LV):Prop
 |mk (hx:∀x∈es,x.cells.length=sz) (ho:out=(es.flatMap AV.cells).map .p)
inductive AkL(k n:Nat):Prop
 |mk (h:k<n)
instance askA {a b:Prop}:Ask (a/\b) (AkA a) b:=⟨fun h s=>⟨match s with |.mk h=>h,h⟩⟩
instance askT {n:Nat} {K:Prop}:Ask (n<=9223372036854775807->K) AkT (n<=9223372036854775807->K):=⟨fun h _=>h⟩
instance askM {n:Nat} {K:Prop}:Ask (n<=maxLen->K) AkT (n<=9223372036854775807->K):=⟨fun h _=>h⟩
instance askW {k:IntKind} {n:Int} {K:Int->Prop}:Ask (Wr k n K) (AkW k n) (K n):=⟨fun h s=>by cases s with|mk h1 h2=>exact Wr.i64 h1 h2 h⟩
instance askI {α:Type} {f:α->AV} {l:List α} {sz k:Nat} {K:List AV->Prop}:Ask (IdxK (l.map f) sz k K) (AkI f l sz k) (∀hk:k<l.length,K (f l[k]).cells):=⟨fun h s=>by cases s with|mk hk hs=>exact iA h hk hs⟩
instance askX {l:List X} {sz k:Nat} {K:List AV->Prop}:Ask (IdxK (X.avs l) sz k K) (AkL k (X.avs l).length/\sz=4) (∀hk:k<(X.avs l).length,K (l[k]'(by rw[X.avs_len]at hk;exact hk)).cells):=⟨fun h s=>by cases s.1 with|mk hk=>rw[s.2];exact IdxK.xs hk (h hk)⟩
instance askS {l:List S} {sz k:Nat} {K:List AV->Prop}:Ask (IdxK (S.avs l) sz k K) (AkL k (S.avs l).length/\sz=13) (∀hk:k<(S.avs l).length,K (l[k]'(by rw[S.avs_len]at hk;exact hk)).cells):=⟨fun h s=>by cases s.1 with|mk hk=>rw[s.2];exact RR hk (h hk)⟩
instance askC {s:List UInt8} {k:Nat} {K:UInt8->Prop}:Ask (ByteK s k K) (AkL k s.length) (∀hk:k<s.length,K s[k]):=⟨fun h q=>by cases q with|mk hk=>exact ByteK.at hk (h hk)⟩
instance askB {es:List AV} {sz:Nat} {out:List LV} {Kp Ko:Prop}:Ask (BsK es sz out Kp Ko) (AkB es sz out) Kp:=⟨fun h s=>by cases s with|mk hx ho=>exact .pure hx ho h⟩
def gX{P S Q:Prop}[c:Ask P S Q](h:Q)(s:S:=by first|exact AkA.mk rfl|exact AkT.mk|exact AkW.mk (by omega) (by omega)|exact AkI.mk (by omega) (fun _=>rfl)|exact⟨AkL.mk (by omega),rfl⟩|exact AkL.mk (by omega)|exact AkB.mk (by intro x k;rcases x9q.1 k with rfl;rfl) rfl|exact AkA.mk ⟨by decide,by decide⟩|exact AkA.mk ⟨rfl,rfl,by decide⟩):P:=c.h h s
class Bra (P:Prop) (p q A B:outParam Prop):Prop where
 h:(p->A)->(q->B)->P
instance braD {p:Prop} [Decidable p] {A B:Prop}:Bra (Br (decide p) A B) p (¬p) A B:=⟨bD⟩
instance braE {p:Prop} [Decidable p] {A B:Prop}:Bra (Br (!decide p) B A) p (¬p) A B:=⟨bE⟩
instance (priority:=10) braB {b:Bool} {A B:Prop}:Bra (Br b A B) (b=true) (b=false) A B:=⟨bB⟩
instance (priority:=20) braN {b:Bool} {A B:Prop}:Bra (Br (!b) B A) (b=true) (b=false) A B:=⟨bN⟩
def lI{K:Exit->St->Prop}{s:St}(I:ι->St)(φ:ι->Prop)(μ:ι->Nat)(h:ι)(l:φ h)(step:∀i,φ i->W prog tab N info c (fun e s'=>match e with |.normal=>∃j,φ j/\μ j<μ i/\Le N s' (I j) |e=>K e s') (I i))(k:Le N s (I h):=by exact Le.of_eq rfl):LoopK prog tab N info c K s:=LoopK.inv ZP I φ μ h k l step
def nX{φ P Q:ι->Prop}(j:ι)(h:φ j)(k:P j:=by first|omega|(simp only;omega))(l:Q j:=by exact Le.of_eq rfl):∃j,φ j/\P j/\Q j:=⟨j,h,k,l⟩
def iT{es:List AV}{sz k:Nat}{n:Int}(l:es[k]?=some e)(h:K e.cells)(o:n=k:=by first|exact rfl|omega)(p:e.cells.length=sz:=by exact rfl):IdxK es sz n K:=⟨k,e,o,l,p,h⟩
def iO{len:Nat}{n:Int}{K:Nat->Prop}(i:Nat)(h:K i)(l:n=i:=by first|exact rfl|omega)(k:i<len:=by first|omega|(simp;done)|(simp;omega)):IdxL len n K:=.mk i l k h
def lO{es:List AV}{sz off:Nat}(k:es[m]?=some e)(h:K (e.cells.drop 0))(l:off=m*sz+0:=by omega):LdOwn es sz off K:=.mk m 0 e l k h
def sO{es:List AV}{sz off:Nat}{vs:List AV}(h:AV)(n:es[m]?=some e)(l:K (es.set m h))(p:off=m*sz+0:=by omega)(o:0+vs.length<=sz:=by exact x9h _)(k:h.cells=e.cells.take 0++vs++e.cells.drop (0+vs.length):=by exact rfl):StOwn es sz off vs K:=.mk m 0 e h p n o k l
def pA(k w:Nat){es xs:List AV}{n sz bytes:Nat}{K:Prop}(s:n=es.length)(q:K)(l:m=xs.length:=by exact rfl)(p:xs.length=k:=by exact rfl)(t:bytes=w:=by exact rfl)(r:(n+k)*w<=140737488355328:=by omega)(h:n+k<=9223372036854775807:=by omega)(o:∀x∈xs,x.cells.length=sz/\x.cells.all AV.one=true:=by(intro x o;rcases x9q.1 o with rfl;exact⟨rfl,rfl⟩)):AppK es xs n m sz bytes K:=.mk s l (by rw[l,p,t];exact r) (by rw[l,p];exact h) o q
def pS{es:List AV}{n:Nat}{K:Prop}{s:Str}(h:K)(k:n=es.length:=by simp)(o:es.length<=8796093022000:=by(simp;omega)):AppK es [.str s] n 1 1 16 K:=
 .mk k rfl (by omega) (by simp only[maxLen];omega) (fun x l=>by rcases x9q.1 l with rfl;exact⟨rfl,rfl⟩) h
def pI{es:List AV}{n:Nat}{K:Prop}{s:Int}(h:K)(k:n=es.length:=by simp)(o:es.length<=8796093022000:=by(simp;omega)):AppK es [.int .i64 s] n 1 1 8 K:=
 .mk k rfl (by omega) (by simp only[maxLen];omega) (fun x l=>by rcases x9q.1 l with rfl;exact⟨rfl,rfl⟩) h
def x7k{a b:List AV}(h:SubL a b:=by(repeat' (first|exact SubL.nil|refine SubL.cons ?_ ?_|exact Sub.refl _|exact Sub.nils|exact Sub.ff rfl))):SubL a b:=h
def goF{P:Program}{f:FuncId}(n:P.funcs[f]?=some fn)(h:(fn.name == "runtime.NumGoroutine")=false)(l:fn.body=some c)(args:Array Value)(w:World):
  (callFunc f args).run P w=.ok (.enter f args) w:=by
 have k:fn.name ≠ "runtime.NumGoroutine" :=by simpa using h
 simp[callFunc,n,k,l]
def sC(info:Info){f:FuncId}(n:prog.funcs[f]?=some fn){args:List AV}{R:AV->Prop}(h:W prog tab fn.ntmps info c (x6n tab fn.results R) ⟨Mz args 0,[]⟩)(l:fn.body=some c:=by exact rfl)(o:(fn.name == "runtime.NumGoroutine")=false:=by kernel_rfl)(k:args.length<=fn.ntmps:=by exact z3w rfl):SpecP prog f args R:=SpecP.body info ZP n l (goF n o l) k h
def sK(info:Info){f:FuncId}(n:prog.funcs[f]?=some fn){args:List LV}{H:Heap}{R:LV->Heap->Prop}(h:W prog tab fn.ntmps info c (x6p tab fn.results R) ⟨Ub args 0,H⟩)(l:fn.body=some c:=by exact rfl)(o:(fn.name == "runtime.NumGoroutine")=false:=by kernel_rfl)(k:args.length<=fn.ntmps:=by exact z3w rfl):SpecH prog f args H R:=SpecH.body info ZP n l (goF n o l) k h
def lJ{K:Exit->St->Prop}{s:St}(I:ι->St)(φ:ι->Prop)(μ:ι->Nat)(h:ι)(k:Le N s (I h))(l:φ h)(step:∀i,φ i->W prog tab N info c (fun e s'=>match e with |.normal=>∃j,φ j/\μ j<μ i/\Le N s' (I j) |e=>K e s') (I i)):LoopK prog tab N info c K s:=LoopK.inv ZP I φ μ h k l step
def lM{s:St}{sl':List (Nat×LV)}{H':Heap}(new:List (Nat×Chunk))(k:∀c∈new,c.2.new0=true/\WZ c.1 s=true:=by(simp[Chunk.new0];first|rfl|exact⟨rfl,rfl⟩|exact⟨rfl,rfl,rfl⟩))(h:(new.map (·.1)).Nodup:=by simp)(hnd:(H'.map (·.1)).Nodup:=by simp)(hsl:WkS new s.sl sl':=by(repeat' (first|exact WkS.nil|refine WkS.cons ?_ ?_|exact Wk.refl _|exact Wk.nil x8l)))(hH:WkH new s.H H':=by(repeat' (first|exact WkH.nil|refine WkH.cons rfl (CWk.refl _) ?_|refine WkH.new x8l ?_))):Le N s ⟨sl',H'⟩:=Le.mk new k h hnd hsl hH
abbrev aP (f:FuncId) (args:List AV) (c:AV):Prop:=SpecP prog f args fun r=>r=c
abbrev aH (f:FuncId) (args:List LV) (H:Heap) (l:LV) (H1:Heap):Prop:=SpecH prog f args H fun r H'=>r=l/\H'=H1
def KW(c:UInt8):Bool:=decide (97<=(c.toNat:Int))&&decide ((c.toNat:Int)<=122)
def Ql(c:UInt8):Bool:=decide (48<=(c.toNat:Int))&&decide ((c.toNat:Int)<=57)
def q1m(c:UInt8):Bool:=KW c||Ql c
def D0(c:UInt8):aP 180 [.int .u8 c.toNat] (.bool (KW c)):=by
 refine sC Nr func180 ?_;conv=>whnf
 repeat' (apply bD<;>intro _<;>first|omega|conv=>whnf)
 .exact RetK.bool (by simp_all[KW];try omega)
 .exact RetK.ff (by simp_all[KW];try omega)
def Ip(c:UInt8):aP 243 [.int .u8 c.toNat] (.bool (Ql c)):=by
 refine sC RD func243 ?_;conv=>whnf
 repeat' (apply bD<;>intro _<;>first|omega|conv=>whnf)
 .exact RetK.bool (by simp_all[Ql];try omega)
 .exact RetK.ff (by simp_all[Ql];try omega)
def KT(s:Str)(i:Nat):Nat:=i+((s.drop i).takeWhile q1m).length
def MW{s:Str}(h:i<s.length)(k:q1m s[i]=true):KT s (i+1)=KT s i:=by
 unfold KT;rw[QG h,List.takeWhile_cons,if_pos k];simp only[x9f];omega
def Zl{s:Str}(h:∀(k:i<s.length),q1m s[i]=false):KT s i=i:=by
 unfold KT;by_cases k:i<s.length
 .rw [QG k,List.takeWhile_cons,if_neg (by simp[h k])];rfl
 .rw [x9j (by omega)];rfl
def q7y(s:Str)(i:Nat)(k:i<=s.length):aP 181 [.str s,.int .i64 i] (.int .i64 (KT s i)):=by
 refine sC AI func181 ?_;conv=>whnf
 refine lI (fun j:Nat=>⟨[(0,.p (.str s)),(1,.j j)],[]⟩) (fun j=>j<=s.length/\KT s j=KT s i) (fun j=>s.length-j) i ⟨k,rfl⟩ ?_;rintro j ⟨l,h⟩;conv=>whnf
 repeat' ((first|(refine gX ?_;intros)|refine cP (D0 _) ?_|refine cP (Ip _) ?_|((first|apply bD|apply bB)<;>intro _<;>try omega))<;>conv=>whnf)
 .exact nX (j+1) ⟨by omega,by rw[MW (by omega) (by simp_all[q1m])];exact h⟩
 .exact nX (j+1) ⟨by omega,by rw[MW (by omega) (by simp_all[q1m])];exact h⟩
 .exact RetK.int (by rw[<-h,Zl fun _=>by simp_all[q1m]])
 .exact RetK.int (by rw[<-h,Zl fun _=>by omega])
def Y0(s:Str):Bool:=decide (s=[103,108,111,98,97,108])||decide (s=[112,114,111,99])||decide (s=[118,97,114])||decide (s=[114,101,102])||decide (s=[105,102])||decide (s=[101,108,115,101])||decide (s=[119,104,105,108,101])||decide (s=[98,114,101,97,107])||decide (s=[99,111,110,116,105,110,117,101])||decide (s=[114,101,116,117,114,110])||decide (s=[103,111,116,111])||decide (s=[114,101,97,100])||decide (s=[112,114,105,110,116])
def q2z(s:Str):aP 182 [.str s] (.bool (Y0 s)):=by
 refine sC CX func182 ?_;conv=>whnf
 repeat' (apply bB<;>intro _<;>conv=>whnf)
 all_goals first
  |exact RetK.tt (by simp_all[Y0])
  |exact RetK.ff (by simp_all[Y0])
def isName(s:Str):Bool:=if h:1<=s.length/\s.length<=8 then KW (s[0]'(by omega))&&decide (KT s 0=s.length) && !Y0 s else false
def Zm(s:Str):aP 116 [.str s] (.bool (isName s)):=by
 refine sC CQ func116 ?_;conv=>whnf
 repeat' ((first|(refine iM fun _=>?_)|refine cP (D0 _) ?_|refine cP (q7y _ 0 (x8i _)) ?_|refine cP (q2z _) ?_|refine ByteK.at (k:=0) (by omega) ?_|((first|apply bD|apply bN)<;>intro _<;>try omega))<;>conv=>whnf)
 .exact RetK.ff (by unfold isName;rw[dif_neg (by omega)])
 .exact RetK.ff (by unfold isName;rw[dif_neg (by omega)])
 .exact RetK.bool (by unfold isName;rw[dif_pos (by omega)];simp_all;omega)
 .exact RetK.ff (by unfold isName;rw[dif_pos (by omega)];simp_all;omega)
 .exact RetK.ff (by unfold isName;rw[dif_pos (by omega)];simp_all)
def namesB(l:List Str):Bool:=l.all isName
def U8(l:List Str):aP 115 [eStrs l] (.bool (namesB l)):=by
 refine sC No func115 ?_;conv=>whnf
 refine iM fun _=>?_;conv=>whnf
 refine lI (fun j:Nat=>⟨[(5,.p (eStrs l)),(6,.p (.int .i64 (l.map AV.str).length)),(7,.j j)],[]⟩) (fun j=>j<=l.length/\(l.drop j).all isName=namesB l) (fun j=>l.length-j) 0 ⟨x8i _,rfl⟩ ?_;rintro j ⟨k,h⟩;have n:(l.map AV.str).length=l.length:=x8b _;conv=>whnf
 repeat' ((first|refine cP (Zm _) ?_|(refine gX ?_;intros)|((first|apply bD|apply bN)<;>intro _<;>try omega))<;>conv=>whnf)
 .exact nX (j+1) ⟨by omega,by rw[GI (by omega) (by assumption)];exact h⟩
 .exact RetK.ff (by rw[<-h,Z6 (by omega) (by assumption)])
 .exact RetK.tt (by rw[<-h,GE (by omega)])
def Zp(op:Int):Int:=if op=1\/op=2 then 0 else if op=3\/op=4 then 1 else if 5<=op/\op<=17 then 2 else -1
def Oo(op:Int):aP 292 [.int .i64 op] (.int .i64 (Zp op)):=by
 refine sC RM func292 ?_;conv=>whnf
 repeat' (apply bD<;>intro _<;>first|omega|conv=>whnf)
 all_goals exact RetK.int (by unfold Zp;(repeat' split)<;>omega)
def WW:Nat->X->Bool
 |0,_=>false
 |n+1,x=>decide ((x.kids.length:Int)=Zp x.op)&&(if x.op=1 then decide (0<=x.n)&&(x.name==[])else if x.op=2 then decide (x.n=0)&&isName x.name else decide (x.n=0)&&(x.name==[])&&x.kids.all (WW n))
def Oi:∀(n:Nat)(_:n<=1000)(x:X),aP 260 [.agg x.cells,.int .i64 n] (.bool (WW n x)):=by
 intro n;induction n with
 | zero=>
   intro _ x;refine sC Jh func260 ?_;conv=>whnf
   repeat' ((first|refine dA ?_|(apply bD<;>intro _<;>try omega))<;>conv=>whnf)
   exact RetK.ff rfl
 | succ n l=>
   intro r x;refine sC Jh func260 ?_;conv=>whnf
   repeat' ((first|(refine iM fun _=>?_)|refine cP (Oo _) ?_|refine cP (Zm _) ?_|refine dA ?_|((first|apply bD|apply bE|apply bN)<;>intro _<;>try omega))<;>conv=>whnf)
   all_goals try (have q:((X.avs x.kids).length:Int)=x.kids.length:=by rw[X.avs_len])
   .exact RetK.bool (by simp_all[WW])
   .exact RetK.ff (by simp_all[WW];try omega)
   .exact RetK.bool (by simp_all[WW])
   .exact RetK.ff (by simp_all[WW];try omega)
   .have k:WW (n+1) x=x.kids.all (WW n):=by simp_all[WW]
    rw[k];refine lI (fun j:Nat=>⟨[(1,.j (n+1:Nat)),(49,.p (.sl (X.avs x.kids))),(50,.p (.int .i64 (X.avs x.kids).length)),(51,.j j)],[]⟩) (fun j=>j<=x.kids.length/\(x.kids.drop j).all (WW n)=x.kids.all (WW n)) (fun j=>x.kids.length-j) 0 ⟨x8i _,rfl⟩ ?_;rintro j ⟨o,h⟩;conv=>whnf
    repeat' ((first|(refine gX ?_;intros)|refine cP (l (by omega) _) ?_ (ha:=.cons (Sub.refl _) (.cons (Sub.int (by omega)) .nil))|((first|apply bD|apply bN)<;>intro _<;>try omega))<;>conv=>whnf)
    .exact nX (j+1) ⟨by omega,by rw[GI (by omega) (by assumption)];exact h⟩
    .exact RetK.ff (by rw[<-h,Z6 (by omega) (by assumption)])
    .exact RetK.tt (by rw[<-h,GE (by omega)])
   .exact RetK.ff (by simp_all[WW];try omega)
   .exact RetK.ff (by simp_all[WW];try omega)
   .exact RetK.ff (by simp_all[WW];try omega)
def J0(x:X):Bool:=WW 20 x
def GM(x:X):aP 197 [.agg x.cells] (.bool (J0 x)):=by
 refine sC Hz func197 ?_;conv=>whnf
 repeat' (refine cP (Oi 20 (by omega) _) ?_;conv=>whnf)
 exact RetK.p rfl
def noneB(x:X):Bool:=decide (x.op=0)&&decide (x.n=0)&&(x.name==[])&&((x.kids.length:Int)==0)
def OQ(x:X):aP 286 [.agg x.cells] (.bool (noneB x)):=by
 refine sC RL func286 ?_;conv=>whnf
 repeat' ((first|(refine iM fun _=>?_)|((first|apply bD|apply bB)<;>intro _<;>try omega))<;>conv=>whnf)
 all_goals have h:((X.avs x.kids).length:Int)=x.kids.length:=by rw[X.avs_len]
 all_goals first
  |exact RetK.ff (by simp_all[noneB])
  |exact RetK.bool (by simp_all[noneB])
def JR(s:Str)(h:Bool):Bool:=bif h then isName s else s==[]
def Dm(s:Str)(h:Bool):aP 244 [.str s,.bool h] (.bool (JR s h)):=by
 refine sC Ni func244 ?_;conv=>whnf
 repeat' ((first|refine cP (Zm _) ?_|((first|apply bN|apply bB)<;>intro _<;>try omega))<;>conv=>whnf)
 all_goals first
  |exact RetK.tt (by simp_all[JR])
  |exact RetK.ff (by simp_all[JR])
  |exact RetK.bool (by simp_all[JR])
def BF(x:X)(h:Bool):Bool:=bif h then J0 x else noneB x
def Dl(x:X)(h:Bool):aP 245 [.agg x.cells,.bool h] (.bool (BF x h)):=by
 refine sC M3 func245 ?_;conv=>whnf
 repeat' ((first|refine cP (GM _) ?_|refine cP (OQ _) ?_|((first|apply bN|apply bB)<;>intro _<;>try omega))<;>conv=>whnf)
 all_goals first
  |exact RetK.tt (by simp_all[BF])
  |exact RetK.ff (by simp_all[BF])
  |exact RetK.bool (by simp_all[BF])
def Zd(a:Arg):Bool:=JR a.name a.ref&&BF a.x (!a.ref)
def TM(l:List Arg):aP 246 [EJ l] (.bool (l.all Zd)):=by
 refine sC B5 func246 ?_;conv=>whnf
 refine iM fun _=>?_;conv=>whnf
 refine lI (fun j:Nat=>⟨[(5,.p (EJ l)),(6,.p (.int .i64 (l.map fun a=>AV.agg a.cells).length)),(7,.j j)],[]⟩) (fun j=>j<=l.length/\(l.drop j).all Zd=l.all Zd) (fun j=>l.length-j) 0 ⟨x8i _,rfl⟩ ?_;rintro j ⟨k,h⟩;have n:(l.map fun a=>AV.agg a.cells).length=l.length:=x8b _;conv=>whnf
 repeat' ((first|refine cP (Dm _ _) ?_|refine cP (Dl _ _) ?_|(refine gX ?_;intros)|((first|apply bD|apply bN)<;>intro _<;>try omega))<;>conv=>whnf)
 .exact nX (j+1) ⟨by omega,by rw[GI (by omega) (by simp_all[Zd])];exact h⟩
 .exact RetK.ff (by rw[<-h,Z6 (by omega) (by simp_all[Zd])])
 .exact RetK.ff (by rw[<-h,Z6 (by omega) (by simp_all[Zd])])
 .exact RetK.tt (by rw[<-h,GE (by omega)])
structure Flds where
 name:Bool
 D:Bool
 x:Bool
 has:Bool
 I:Bool
 L:Bool
def Zh(k:Int)(has:Bool)(h:Bool):Option Flds:=
 if k=1 then some ⟨true,false,true,has,false,false⟩
 else if k=2 then some ⟨true,false,false,has,false,false⟩
 else if k=10 then some ⟨true,false,false,has,false,false⟩
 else if k=3 then some ⟨false,false,true,has,false,false⟩
 else if k=4 then some ⟨!h,true,false,has,false,false⟩
 else if k=5 then some ⟨false,false,true,has,true,true⟩
 else if k=6 then some ⟨false,false,true,has,true,false⟩
 else if k=9 then some ⟨false,false,has,false,false,false⟩
 else if k=7 then some ⟨false,false,false,has,false,false⟩
 else if k=8 then some ⟨false,false,false,has,false,false⟩
 else none
def VW(s:S):Bool:=
 match Zh s.kind s.has (s.name==[])with
 |none=>false
 |some f=> !(f.has||(!f.I&&decide (0<s.I.length))||(!f.L&&decide (0<s.L.length))||(!decide (s.kind=4)&&decide (0<s.args.length)))&&JR s.name f.name&&JR s.D f.D&&BF s.x f.x&&s.args.all Zd
def Fg{s:S}{f:Flds}(h:Zh s.kind s.has (s.name==[])=some f):VW s=(!(f.has||(!f.I&&decide (0<s.I.length))||(!f.L&&decide (0<s.L.length))||(!decide (s.kind=4)&&decide (0<s.args.length)))&&JR s.name f.name&&JR s.D f.D&&BF s.x f.x&&s.args.all Zd):=by
 unfold VW;rw[h]
def TN(s:S):aP 183 [.agg s.cells] (.bool (VW s)):=by
 refine sC B3 func183 ?_;conv=>whnf
 repeat' ((first|(refine iM fun _=>?_)|refine cP (Dm _ _) ?_|refine cP (Dl _ _) ?_|refine cP (TM _) ?_|refine dA ?_|((first|apply bD|apply bE|apply bN|apply bB)<;>intro _<;>try omega))<;>conv=>whnf)
 all_goals first
  |exact RetK.ff (by simp_all[VW,Zh,S.avs_len])
  |exact RetK.bool (by simp_all[VW,Zh,S.avs_len])
  |exact RetK.ff (by simp_all[VW,Zh,S.avs_len];omega)
mutual
def Hm(nest seen:Int):S->Option Int
 | .mk id kind F name D x has args I L=>
   if seen+1>200 then none else if id≠seen+1 then none else
   bif namesB F then bif VW (.mk id kind F name D x has args I L)then
    match UA (nest+1) (seen+1) I with
    |some m=>UA (nest+1) m L
    |none=>none
   else none else none
def UA(nest seen:Int):List S->Option Int
 |[]=>some seen
 | s::r=>if nest>12 then none else match Hm nest seen s with
   |some m=>UA nest m r
   |none=>none
end
def O3(nest seen:Int)(s:S):Hm nest seen s=if seen+1>200 then none else if s.id≠seen+1 then none else
  bif namesB s.F then bif VW s then
   match UA (nest+1) (seen+1) s.I with
   |some m=>UA (nest+1) m s.L
   |none=>none
  else none else none:=by
 cases s;rw[Hm];rfl
mutual
theorem q8w(nest seen:Int):∀(s:S){m:Int},Hm nest seen s=some m->seen<m/\m<=200
 | .mk id kind F name D x has args I L,m,h=>by
   simp only[Hm]at h;split at h
   ·cases h
   split at h
   ·cases h
   cases hn:namesB F<;>rw[hn]at h
   ·cases h
   cases hf:VW (.mk id kind F name D x has args I L)<;>rw[hf]at h
   ·cases h
   simp only[x9z]at h;split at h
   ·rename_i m1 h1;have h2:=Gg (nest+1) (seen+1) I (by omega) h1;have h3:=Gg (nest+1) m1 L h2.2 h;omega
   ·cases h
theorem Gg(nest seen:Int):∀(l:List S){m:Int},seen<=200->UA nest seen l=some m->seen<=m/\m<=200
 | [],m,h0,h=>by
   simp only[UA]at h;cases h;omega
 | s::r,m,h0,h=>by
   simp only[UA]at h;split at h
   ·cases h
   split at h
   ·rename_i m1 h1;have h2:=q8w nest seen s h1;have h3:=Gg nest m1 r h2.2 h;omega
   ·cases h
end
def TW(T:Nat)(nest seen:Int)(l:List S)(r:LV)(H:Heap):Prop:=
 match UA nest seen l with
 |some m=>r=.p .tt/\H=[(1000,.obj T [.p (.int .i64 m)])]
 |none=>r=.p .ff/\∃m,H=[(1000,.obj T [.p (.int .i64 m)])]
def Dy{m:Int}{l:List S}(h:UA nest seen l=some m):RetHK [(1000,.obj T [.p (.int .i64 m)])] (.p .tt) (TW T nest seen l):=
 ⟨.p .tt,.refl _,by unfold TW;rw[h];exact⟨rfl,rfl⟩⟩
def Vi{m:Int}{l:List S}(h:UA nest seen l=none):RetHK [(1000,.obj T [.p (.int .i64 m)])] (.p .ff) (TW T nest seen l):=
 ⟨.p .ff,.refl _,by unfold TW;rw[h];exact⟨rfl,_,rfl⟩⟩
def Gh{l:List S}{Q:LV->Heap->Prop}(q:seen<=200)(n:∀m,UA nest seen l=some m->seen<=m->m<=200->Q (.p .tt) [(1000,.obj T [.p (.int .i64 m)])])(o:UA nest seen l=none->∀m,Q (.p .ff) [(1000,.obj T [.p (.int .i64 m)])]):∀l' H',TW T nest seen l l' H'->Q l' H':=by
 intro l' H' h;unfold TW at h;cases k:UA nest seen l with
 | some m=>
   rw[k]at h;obtain⟨rfl,rfl⟩:=h;have:=Gg nest seen l q k;exact n m k this.1 this.2
 | none=>
   rw[k]at h;obtain⟨rfl,m,rfl⟩:=h;exact o k m
def R8{l:List S}(h:nest>12)(k:0<l.length):UA nest seen l=none:=by
 cases l with
 |nil=>cases k
 |cons s r=>simp only[UA];rw[if_pos h]
def O2{l:List S}(h:¬nest>12)(k:j<l.length):UA nest seen (l.drop j)=match Hm nest seen l[j]with
  |some m=>UA nest m (l.drop (j+1))
  |none=>none:=by
 rw[QG k,UA,if_neg h]
def OX:∀(d n:Nat)(_:n+d=14)(l:List S)(seen:Int)(_:0<=seen)(_:seen<=200),
  SpecH prog 117 [.ptr 1000 0,.p (eSs l),.j n] [(1000,.obj 187 [.p (.int .i64 seen)])] (TW 187 n seen l):=by
 intro d;induction d with
 | zero=>
   intro n v l seen o q;refine sK GK func117 ?_;conv=>whnf
   repeat' ((first|(refine iM fun _=>?_)|(apply bD<;>intro _<;>try omega))<;>conv=>whnf)
   .exact Vi (R8 (by omega) (by rw[S.avs_len]at*;omega))
   .have u:=S.avs_len l;obtain rfl:l=[]:=z1z (by omega);refine lI (fun _:Unit=>⟨[(0,.ptr 1000 0),(2,.j n),(16,.p (eSs [])),(17,.p (.int .i64 (S.avs []).length)),(18,.j 0)],[(1000,.obj 187 [.p (.int .i64 seen)])]⟩) (fun _=>True) (fun _=>0) () trivial ?_;intro _ _;conv=>whnf
    repeat' (apply bD<;>intro _<;>first|omega|conv=>whnf)
    exact Dy rfl
 | succ d w=>
   intro n v l seen o q;refine sK GK func117 ?_;have u:=S.avs_len l;conv=>whnf
   repeat' ((first|(refine iM fun _=>?_)|(apply bD<;>intro _<;>try omega))<;>conv=>whnf)
   .exact Vi (R8 (by omega) (by omega))
   all_goals
    refine lI (fun i:Nat×Int=>⟨[(0,.ptr 1000 0),(2,.j n),(16,.p (eSs l)),(17,.p (.int .i64 (S.avs l).length)),(18,.j i.1)],[(1000,.obj 187 [.p (.int .i64 i.2)])]⟩) (fun i=>i.1<=l.length/\0<=i.2/\i.2<=200/\UA n i.2 (l.drop i.1)=UA n seen l) (fun i=>l.length-i.1) (0,seen) ⟨x8i _,o,q,rfl⟩ ?_;rintro⟨j,m⟩ ⟨r,s,t,k⟩;simp only at r s t k⊢;conv=>whnf
    repeat' ((first|refine cP (U8 _) ?_|refine cP (TN _) ?_|refine dA ?_|(refine gX ?_;intros)|((first|apply bD|apply bE|apply bN)<;>intro _<;>try omega)|(refine CallK.heap [(1000,1000)] 0 (by repeat' (first|exact z1w|refine x9t ?_ ?_|exact x9b _|exact z2v Sub.nils|exact z2v (Sub.tt rfl)|exact z2v (Sub.ff rfl)|exact z2v (Sub.int (by omega)))) (by refine x9m (j:=1000) rfl rfl ?_ ?_;exact CSub.refl _;exact z1x) (w (n+1) (by omega) _ _ (by omega) (by omega)) rfl rfl (Gh (by omega) (fun _ _ _ _=>?_) (fun _ _=>?_))))<;>conv=>whnf)
    all_goals try (have h:=O2 (seen:=m) (l:=l) (j:=j) (nest:=(n:Int)) (by omega) (by omega);rw[O3,show(n:Int)+1=((n+1:Nat):Int)from rfl]at h)
    all_goals first
     |exact Dy (by rw[<-k,x9j (by omega)];simp only[UA])
     |exact Vi (by rw[<-k,h];clear k h;first|rw[if_pos (by omega:m+1>200)]|(rw[if_neg (by omega:¬m+1>200)];simp[*,-Int.natCast_add]))
     |exact⟨(j+1,_),⟨by simp only;omega,by simp only;omega,by simp only;omega,by rw[<-k,h];clear k h;first|rw[if_pos (by omega:m+1>200)]|(rw[if_neg (by omega:¬m+1>200)];simp[*,-Int.natCast_add])⟩,by simp only;omega,Le.of_eq rfl⟩
def HX(f:Pr):Bool:=decide (f.C.length<=8)&&decide (f.E.length<=16)&&isName f.name&&namesB f.E&&namesB f.fin&&f.C.all fun a=>isName a.name
def XO(seen:Int):List Pr->Option Int
 |[]=>some seen
 | f::r=>bif HX f then match UA 1 seen f.body with
    |some m=>XO m r
    |none=>none
   else none
def YV(p:Pg):Bool:=decide (p.B.length<=16)&&decide (p.A.length<=16)&&namesB p.B&&(XO 0 p.A).isSome
def Ks{l:List Pr}(h:j<l.length):XO seen (l.drop j)=bif HX l[j]then match UA 1 seen l[j].body with
   |some m=>XO m (l.drop (j+1))
   |none=>none
  else none:=by
 rw[QG h,XO]
def HE{f:Pr}:HX f=true↔f.C.length<=8/\f.E.length<=16/\isName f.name=true/\namesB f.E=true/\namesB f.fin=true/\(f.C.all fun a=>isName a.name)=true:=by
 simp only[HX,x9g,x9o,and_assoc]
def Kr{l:List Pr}(k:j<l.length)(h:¬(l[j].C.length<=8/\l[j].E.length<=16/\isName l[j].name=true/\namesB l[j].E=true/\namesB l[j].fin=true/\(l[j].C.all fun a=>isName a.name)=true)):(XO seen (l.drop j)).isSome=false:=by
 rw[Ks k];have:HX l[j]=false:=by rw[z4m];intro n;exact h (HE.1 n)
 rw[this];rfl
def N5(p:Pg):aP 63 [.agg p.cells] (.bool (YV p)):=by
 refine sC CZ func63 ?_;conv=>whnf
 repeat' ((first|(refine gX ?_;intros)|refine cP (U8 _) ?_|((first|apply bD|apply bN)<;>intro _<;>try omega))<;>conv=>whnf)
 all_goals try have y:(p.B.map AV.str).length=p.B.length:=x8b _
 all_goals try have z:(p.A.map fun f=>AV.agg f.cells).length=p.A.length:=x8b _
 .exact RetK.ff (by unfold YV;simp;omega)
 .exact RetK.ff (by unfold YV;simp;omega)
 .have u:YV p=(XO 0 p.A).isSome:=by unfold YV;simp[*];omega
  rw[u];refine lI (fun i:Nat×Int=>⟨[(3,.ptr 0 0),(27,.p (.sl (p.A.map fun f=>AV.agg f.cells))),(28,.p (.int .i64 (p.A.map fun f=>AV.agg f.cells).length)),(29,.j i.1)],[(0,.obj 187 [.p (.int .i64 i.2)])]⟩) (fun i=>i.1<=p.A.length/\0<=i.2/\i.2<=200/\XO i.2 (p.A.drop i.1)=XO 0 p.A) (fun i=>p.A.length-i.1) (0,0) ⟨x8i _,by decide,by decide,rfl⟩ ?_;rintro⟨j,m⟩ ⟨v,w,x,o⟩;simp only at v w x o⊢;conv=>whnf
  repeat' ((first|(refine gX ?_;intros)|refine cP (U8 _) ?_|refine cP (Zm _) ?_|((first|apply bD|apply bN)<;>intro _<;>try omega))<;>conv=>whnf)
  all_goals try have d:((p.A[j]'(by omega)).C.map fun a=>AV.agg a.cells).length=(p.A[j]'(by omega)).C.length:=x8b _
  all_goals try have g:((p.A[j]'(by omega)).E.map AV.str).length=(p.A[j]'(by omega)).E.length:=x8b _
  rotate_left 2
  .have s:j<p.A.length:=by omega
   refine lI (fun i:Nat=>⟨[(3,.ptr 0 0),(5,.p (.ip p.A[j].cells)),(27,.p (.sl (p.A.map fun f=>AV.agg f.cells))),(28,.p (.int .i64 (p.A.map fun f=>AV.agg f.cells).length)),(29,.j j),(62,.p (.sl (p.A[j].C.map fun a=>AV.agg a.cells))),(63,.p (.int .i64 (p.A[j].C.map fun a=>AV.agg a.cells).length)),(64,.j i)],[(0,.obj 187 [.p (.int .i64 m)])]⟩) (fun i=>i<=p.A[j].C.length/\((p.A[j].C.drop i).all fun a=>isName a.name)=p.A[j].C.all fun a=>isName a.name) (fun i=>p.A[j].C.length-i) 0 ⟨x8i _,rfl⟩ ?_;rintro i ⟨F,r⟩;conv=>whnf
   repeat' ((first|refine cP (Zm _) ?_|(refine gX ?_;intros)|((first|apply bD|apply bN)<;>intro _<;>try omega)|(refine CallK.heap [(1000,0)] 0 (by repeat' (first|exact z1w|refine x9t ?_ ?_|exact x9b _|exact z2v Sub.nils|exact z2v (Sub.tt rfl)|exact z2v (Sub.ff rfl)|exact z2v (Sub.int (by omega)))) (by refine x9m (j:=0) rfl rfl ?_ ?_;exact CSub.refl _;exact z1x) (OX 13 1 rfl _ _ (by omega) (by omega)) rfl rfl (Gh (by omega) (fun _ _ _ _=>?_) (fun _ _=>?_))))<;>conv=>whnf)
   .exact nX (i+1) ⟨by omega,by rw[<-r,GI (p:=fun a:Param=>isName a.name) (by omega) (by assumption)]⟩
   .exact RetK.ff (by
     rw[<-o];refine Kr s fun h=>?_;have:=Z6 (p:=fun a:Param=>isName a.name) (l:=p.A[j].C) (j:=i) (by omega) (by assumption);rw[r,h.2.2.2.2.2]at this;cases this)
   all_goals
    have q:(p.A[j].C.all fun a=>isName a.name)=true:=by rw[<-r,GE (by omega)]
    have D:HX p.A[j]=true:=HE.2 ⟨by omega,by omega,by assumption,by assumption,by assumption,q⟩;have n:=Ks (seen:=m) s;rw[D,x9z]at n
   .rename_i t k _ _;replace k:UA 1 m p.A[j].body=some t:=k;rw[k]at n;exact nX (j+1,t) ⟨by simp only;omega,by simp only;omega,by simp only;omega,by rw[<-o,n]⟩
   .rename_i k _;replace k:UA 1 m p.A[j].body=none:=k;rw[k]at n;exact RetK.ff (by rw[<-o,n];rfl)
  all_goals first
   |exact RetK.tt (by rw[<-o,x9j (by omega)];rfl)
   |exact RetK.ff (by rw[<-o];exact Kr (by omega) fun h=>by omega)
   |exact RetK.ff (by rw[<-o];exact Kr (by omega) fun h=>by simp_all)
 .exact RetK.ff (by unfold YV;simp[*])
def XW(l:List Str)(v:Str):aP 118 [eStrs l,.str v] (.int .i64 (idxF (fun s=>v==s) l)):=by
 refine sC JH func118 ?_;conv=>whnf
 refine iM fun _=>?_;have o:(l.map AV.str).length=l.length:=x8b _;conv=>whnf
 refine lI (fun j:Nat=>⟨[(0,.p (eStrs l)),(1,.p (.str v)),(7,.p (.int .i64 (l.map AV.str).length)),(8,.j j)],[]⟩) (fun j=>j<=l.length/\(l.drop j).any (fun s=>v==s)=l.any (fun s=>v==s)/\l.findIdx (fun s=>v==s)=j+(l.drop j).findIdx (fun s=>v==s)) (fun j=>l.length-j) 0 ⟨x8i _,rfl,by simp⟩ ?_;rintro j ⟨n,h,k⟩;conv=>whnf
 repeat' ((first|(refine gX ?_;intros)|((first|apply bD|apply bB)<;>intro _<;>try omega))<;>conv=>whnf)
 .exact RetK.int (Ya (p:=fun s=>v==s) (by omega) (by assumption) h k).symm
 .exact nX (j+1) ⟨by omega,by rw[<-h,Ud (p:=fun s=>v==s) (by omega) (by assumption)],by rw[k,q0e (p:=fun s=>v==s) (by omega) (by assumption)];omega⟩
 .exact RetK.int (by rw[P3];rw[<-h,PG (by omega)])
def QV(l:List Str)(v:Str):aP 123 [eStrs l,.str v] (.bool (l.any fun s=>v==s)):=by
 refine sC UE func123 ?_;conv=>whnf
 repeat' (refine cP (XW _ _) ?_;conv=>whnf)
 exact RetK.bool Vh
def XF(l:List Str):Bool:=(List.range l.length).any fun i=>(l.take i).any fun s=>l[i]?.getD []==s
def X2(l:List Str):aP 119 [eStrs l] (.bool (XF l)):=by
 refine sC B0 func119 ?_;conv=>whnf
 refine iM fun _=>?_;have q:(l.map AV.str).length=l.length:=x8b _;conv=>whnf
 refine lI (fun j:Nat=>⟨[(0,.p (eStrs l)),(5,.p (eStrs l)),(6,.p (.int .i64 (l.map AV.str).length)),(7,.j j)],[]⟩) (fun j=>j<=l.length/\((List.range l.length).drop j).any (fun i=>(l.take i).any fun s=>l[i]?.getD []==s)=XF l) (fun j=>l.length-j) 0 ⟨x8i _,rfl⟩ ?_;rintro j ⟨o,h⟩;conv=>whnf
 repeat' ((first|(refine gX ?_;intros)|refine x9p (fun e n=>by obtain⟨x,_,rfl⟩:=x8c.1 n;rfl) (z4i 0 j rfl rfl (by omega) (by omega) ?_)|refine cP (QV (l.take j) (l[j]'(by omega))) ?_ (ha:=.cons (Sub.of_eq (by simp[eStrs,map_take])) (.cons (Sub.refl _) .nil))|((first|apply bD|apply bB)<;>intro _<;>try omega))<;>conv=>whnf)
 all_goals try have k:(List.range l.length)[j]'(by simp;omega)=j:=by simp
 all_goals try have e:l[j]?.getD []=l[j]'(by omega):=by rw[x8p (by omega)];rfl
 .exact RetK.tt (by rw[<-h,Jt (p:=fun i=>(l.take i).any fun s=>l[i]?.getD []==s) (by simp;omega) (by rw[k,e];assumption)])
 .exact nX (j+1) ⟨by omega,by rw[<-h,Ud (p:=fun i=>(l.take i).any fun s=>l[i]?.getD []==s) (by simp;omega) (by rw[k,e];assumption)]⟩
 .exact RetK.ff (by rw[<-h,PG (by simp;omega)])
def Vs(f:Pr):List Str:=f.C.map Param.name++f.E
def R9(f:Pr)(k:f.C.length<=1000)(l:f.E.length<=1000):aP 120 [.agg f.cells] (eStrs (Vs f)):=by
 refine sC RP func120 ?_;conv=>whnf
 refine iM fun _=>?_;have o:(f.C.map fun a=>AV.agg a.cells).length=f.C.length:=x8b _;conv=>whnf
 refine lJ (fun j:Nat=>⟨[(1,.p (.ip f.cells)),(3,.hd 0 0 j),(7,.p (.sl (f.C.map fun a=>AV.agg a.cells))),(8,.p (.int .i64 (f.C.map fun a=>AV.agg a.cells).length)),(9,.j j)],[(0,.own 9 1 ((f.C.take j).map fun a=>AV.str a.name))]⟩) (fun j=>j<=f.C.length) (fun j=>f.C.length-j) 0 (lM [(0,.own 9 1 [])]) (x8i _) ?_;intro j n;conv=>whnf
 repeat' ((first|(refine gX ?_;intros)|refine pA 1 16 (by simp;omega) ?_|refine z5w (by simp;omega) rfl (by rw[x8b];show(j+f.E.length)*16<=140737488355328;omega) (by rw[x8b];show j+f.E.length<=9223372036854775807;omega) (fun x h=>by obtain⟨y,_,rfl⟩:=x8c.1 h;exact⟨rfl,rfl⟩) ?_|(apply bD<;>intro _<;>try omega))<;>conv=>whnf)
 .exact ⟨j+1,by omega,by omega,Le.of_eq (by rw[q3p (by omega)];rfl)⟩
 .refine ⟨_,.hd rfl (by simp;omega),?_⟩;rw[x9u (by omega)];simp[eStrs,Vs]
mutual
def XL:S->Nat
 |.mk _ _ _ _ _ _ _ _ I L=>1+cntL I+cntL L
def cntL:List S->Nat
 |[]=>0
 |s::r=>XL s+cntL r
end
def WN(s:S):XL s=1+cntL s.I+cntL s.L:=by
 cases s;rw[XL];rfl
def Zq{l:List S}(h:j<l.length):cntL (l.drop j)=XL l[j]+cntL (l.drop (j+1)):=by
 rw[QG h,cntL]
def Su{l:List S}(h:l.length<=j):cntL (l.drop j)=0:=by
 rw[x9j h,cntL]
def ET:∀(n:Nat)(_:n<=100000)(s:S)(_:XL s<=n),aP 177 [.agg s.cells] (.int .i64 (XL s)):=by
 intro n;induction n with
 |zero=>intro _ s h;rw[WN]at h;omega
 | succ n w=>
   intro g s h;have A:=WN s;have d:=S.avs_len s.I;have f:=S.avs_len s.L;refine sC RK func177 ?_;conv=>whnf
   repeat' ((refine iM fun _=>?_)<;>conv=>whnf)
   refine lI (fun i:Nat×Nat=>⟨[(1,.p (.ip s.cells)),(3,.j i.2),(9,.p (eSs s.I)),(10,.p (.int .i64 (S.avs s.I).length)),(11,.j i.1)],[]⟩) (fun i=>i.1<=s.I.length/\1<=i.2/\i.2+cntL (s.I.drop i.1)=1+cntL s.I) (fun i=>s.I.length-i.1) (0,1) ⟨x8i _,x9h _,rfl⟩ ?_;rintro⟨j,a⟩ ⟨x,r,q⟩;simp only at x q r⊢;have o:∀u:j<s.I.length,cntL (s.I.drop j)=XL s.I[j]+cntL (s.I.drop (j+1)):=fun u=>Zq u;conv=>whnf
   repeat' ((first|(refine gX ?_;intros)|(refine cP (w (by omega) (s.I[j]'(by omega)) (by have:=o (by omega);omega)) ?_;have o:=o (by omega))|(apply bD<;>intro _<;>try omega))<;>conv=>whnf)
   .exact nX (j+1,a+XL s.I[j]) ⟨by simp only;omega,by simp only;omega,by simp only;omega⟩
   .have ha:a=1+cntL s.I:=by rw[Su (by omega)]at q;omega
    refine lI (fun i:Nat×Nat=>⟨[(3,.j i.2),(21,.p (eSs s.L)),(22,.p (.int .i64 (S.avs s.L).length)),(23,.j i.1)],[]⟩) (fun i=>i.1<=s.L.length/\1<=i.2/\i.2+cntL (s.L.drop i.1)=XL s) (fun i=>s.L.length-i.1) (0,a) ⟨x8i _,r,by simp only[List.drop_zero];omega⟩ ?_;rintro⟨k,b⟩ ⟨y,z,t⟩;simp only at y z t⊢;have l:∀v:k<s.L.length,cntL (s.L.drop k)=XL s.L[k]+cntL (s.L.drop (k+1)):=fun v=>Zq v;conv=>whnf
    repeat' ((first|(refine gX ?_;intros)|(refine cP (w (by omega) (s.L[k]'(by omega)) (by have:=l (by omega);omega)) ?_;have l:=l (by omega))|(apply bD<;>intro _<;>try omega))<;>conv=>whnf)
    .exact nX (k+1,b+XL s.L[k]) ⟨by simp only;omega,by simp only;omega,by simp only;omega⟩
    .exact RetK.int (by rw[Su (by omega)]at t;omega)
structure Item where
 s:S
 D:Int
 up:Int
 next:Int
 loop:Int
def Item.cells(i:Item):List AV:=i.s.cells++[.int .i64 i.D,.int .i64 i.up,.int .i64 i.next,.int .i64 i.loop]
mutual
def J8(D up nx loop:Int)(acc:List Item):S->List Item
 | .mk id kind F name pr x has args I L=>
   XN D (acc.length+1) (if kind=6 then acc.length+1 else nx) (if kind=6 then acc.length+1 else loop)
    (XN D (acc.length+1) (if kind=6 then acc.length+1 else nx) (if kind=6 then acc.length+1 else loop) (acc++[⟨.mk id kind F name pr x has args I L,D,up,nx,loop⟩]) I) L
def XN(D up nx loop:Int)(acc:List Item):List S->List Item
 |[]=>acc
 |t::r=>XN D up nx loop (J8 D up (if r.isEmpty then nx else acc.length+1+XL t) loop acc t) r
end
def NK(D up l k:Int)(h:List Item)(t:S):J8 D up l k h t=XN D (h.length+1) (if t.kind=6 then h.length+1 else l) (if t.kind=6 then h.length+1 else k)
   (XN D (h.length+1) (if t.kind=6 then h.length+1 else l) (if t.kind=6 then h.length+1 else k) (h++[⟨t,D,up,l,k⟩]) t.I) t.L:=by
 cases t;rw[J8];rfl
mutual
theorem ZJ(D up nx loop:Int)(acc:List Item):∀t:S,(J8 D up nx loop acc t).length=acc.length+XL t
 | .mk id kind F name pr x has args I L=>by
   rw[J8,XL,XK _ _ _ _ _ L,XK _ _ _ _ _ I];simp;omega
theorem XK(D up nx loop:Int)(acc:List Item):∀l:List S,(XN D up nx loop acc l).length=acc.length+cntL l
 |[]=>by rw[XN,cntL];rfl
 | t::r=>by
   rw[XN,cntL,XK _ _ _ _ _ r,ZJ _ _ _ _ _ t];omega
end
def UV{D up o k:Int}{n:List Item}{l:List S}(q:j<l.length):
  XN D up o k n (l.drop j)=XN D up o k (J8 D up (if j+1<l.length then n.length+1+XL l[j]else o) k n l[j]) (l.drop (j+1)):=by
 rw[QG q,XN];congr 2;by_cases h:j+1<l.length
 .rw [if_pos h,if_neg];simp only[List.isEmpty_iff];intro p;have:=z0l List.length p;simp at this;omega
 .rw [if_neg h,if_pos];rw[x9j (by omega)];rfl
def Oq(o tI l:Nat)(n pr:AV)(L:List Item)(k h:List Int):Heap:=
 [(1000,.obj o [.p n,.p pr,.hd 2000 0 L.length,.hd 2001 0 k.length,.hd 2002 0 h.length]),(2000,.own tI 17 (L.map fun i=>.agg i.cells)),(2001,.own l 1 (k.map (.int .i64))),(2002,.own l 1 (h.map (.int .i64)))]
def X0:X:=.mk 0 0 [] []
def S0:S:=.mk 0 0 [] [] [] X0 false [] [] []
theorem LSub.agg{cs l:List AV}(h:SubL cs l):LSub (.p (.agg cs)) (.p (.agg l)):=.p (Sub.agg h)
def Sf:∀(n:Nat)(_:n<=1000)(l:List S)(_:cntL l<n)(u:List Item)(_:u.length+cntL l<=1000)(a:Item)(r pr:AV)(t s:List Int),
  aH 105 [.ptr 1000 0,.p (eSs l),.p (.agg a.cells)] (Oq 120 116 3 r pr u t s) (.p (.tup [])) (Oq 120 116 3 r pr (XN a.D a.up a.next a.loop u l) t s):=by
 intro n;induction n with
 |zero=>intro _ l h;omega
 | succ n v=>
   intro E l C u z a r pr t s;have A:=S.avs_len l;refine sK Y9 func105 ?_;conv=>whnf
   repeat' ((refine iM fun _=>?_)<;>conv=>whnf)
   refine lI (fun i:Nat×List Item=>⟨[(0,.ptr 1000 0),(1,.p (eSs l)),(5,.p (.ip a.cells)),(11,.p (eSs l)),(12,.p (.int .i64 (S.avs l).length)),(13,.j i.1)],Oq 120 116 3 r pr i.2 t s⟩) (fun i=>i.1<=l.length/\u.length<=i.2.length/\i.2.length+cntL (l.drop i.1)=u.length+cntL l/\XN a.D a.up a.next a.loop i.2 (l.drop i.1)=XN a.D a.up a.next a.loop u l) (fun i=>l.length-i.1) (0,u) ⟨x8i _,x9h _,rfl,rfl⟩ ?_;rintro⟨j,b⟩ ⟨d,g,f,y⟩;simp only at d f y g⊢;have q:∀k:j<l.length,cntL (l.drop j)=XL l[j]+cntL (l.drop (j+1)):=fun k=>Zq k;conv=>whnf
   repeat' ((first|(refine gX ?_;intros)|refine dA ?_|refine cP (ET 1000 (by omega) (l[j]'(by omega)) (by have:=q (by omega);omega)) ?_|refine Wr.i64 (by have:=q (by omega);omega) (by have:=q (by omega);omega) ?_|refine z5w (by simp) rfl (by show(b.length+1)*240<=140737488355328;have:=q (by omega);omega) (by show b.length+1<=9223372036854775807;have:=q (by omega);omega) (fun x B=>by rcases x9q.1 B with rfl;exact⟨rfl,rfl⟩) ?_|(apply bD<;>intro _<;>try omega)|refine x9p ?_ ?_)<;>conv=>whnf)
   .have k:j<l.length:=by omega
    have q:=q k;have w:=WN l[j];refine cJ rH1 0 (v (by omega) l[j].I (by omega) (b++[⟨l[j]'k,a.D,a.up,(b.length+1+XL (l[j]'k):Int),a.loop⟩]) (by rw[x8m];simp only[x9a];omega) ⟨S0,a.D,b.length+1,(b.length+1:Int),(b.length+1:Int)⟩ r pr t s) ?_ (ha:=(by refine x9t (x9b _) (x9t (x9b _) (x9t (LSub.agg ?_) z1w));repeat' (first|exact SubL.nil|refine SubL.cons ?_ ?_|exact Sub.refl _|exact Sub.nils|exact Sub.ff rfl))) (hH:=by exact x9m (j:=1000) rfl rfl (CSub.of_eq (by rw[x8m];first|done|rfl)) (x9m (j:=2000) rfl rfl (CSub.of_eq (by rw[x8a];first|done|rfl)) (x9m (j:=2001) rfl rfl (CSub.refl _) (x9m (j:=2002) rfl rfl (CSub.refl _) z1x))));rintro l' H' ⟨rfl,rfl⟩;conv=>whnf
    refine cJ rH1 0 (v (by omega) l[j].L (by omega) (XN a.D (b.length+1) (b.length+1:Int) (b.length+1:Int) (b++[⟨l[j]'k,a.D,a.up,(b.length+1+XL (l[j]'k):Int),a.loop⟩]) (l[j]'k).I) (by rw[XK,x8m];simp only[x9a];omega) ⟨S0,a.D,b.length+1,(b.length+1:Int),(b.length+1:Int)⟩ r pr t s) ?_ (ha:=(by refine x9t (x9b _) (x9t (x9b _) (x9t (LSub.agg ?_) z1w));repeat' (first|exact SubL.nil|refine SubL.cons ?_ ?_|exact Sub.refl _|exact Sub.nils|exact Sub.ff rfl))) (hH:=by exact x9m (j:=1000) rfl rfl (CSub.refl _) (x9m (j:=2000) rfl rfl (CSub.refl _) (x9m (j:=2001) rfl rfl (CSub.refl _) (x9m (j:=2002) rfl rfl (CSub.refl _) z1x))));rintro l' H' ⟨rfl,rfl⟩;conv=>whnf
    refine wI ?_;conv=>whnf
    have o:J8 a.D a.up (b.length+1+XL (l[j]'k):Int) a.loop b l[j]=XN a.D (b.length+1) (b.length+1:Int) (b.length+1:Int) (XN a.D (b.length+1) (b.length+1:Int) (b.length+1:Int) (b++[⟨l[j]'k,a.D,a.up,(b.length+1+XL (l[j]'k):Int),a.loop⟩]) (l[j]'k).I) l[j].L:=by
     rw[NK,if_pos (by assumption),if_pos (by assumption)]
    exact⟨(j+1,J8 a.D a.up (b.length+1+XL (l[j]'k):Int) a.loop b l[j]),⟨by simp only;omega,by simp only;rw[ZJ];omega,by simp only;rw[ZJ];omega,by simp only;rw[<-y,UV k,if_pos (by omega)]⟩,by simp only;omega,Le.of_eq (by simp only;rw[o];rfl)⟩
   .have k:j<l.length:=by omega
    have q:=q k;have w:=WN l[j];refine cJ rH1 0 (v (by omega) l[j].I (by omega) (b++[⟨l[j]'k,a.D,a.up,(b.length+1+XL (l[j]'k):Int),a.loop⟩]) (by rw[x8m];simp only[x9a];omega) ⟨S0,a.D,b.length+1,(b.length+1+XL (l[j]'k):Int),a.loop⟩ r pr t s) ?_ (ha:=(by refine x9t (x9b _) (x9t (x9b _) (x9t (LSub.agg ?_) z1w));repeat' (first|exact SubL.nil|refine SubL.cons ?_ ?_|exact Sub.refl _|exact Sub.nils|exact Sub.ff rfl))) (hH:=by exact x9m (j:=1000) rfl rfl (CSub.of_eq (by rw[x8m];first|done|rfl)) (x9m (j:=2000) rfl rfl (CSub.of_eq (by rw[x8a];first|done|rfl)) (x9m (j:=2001) rfl rfl (CSub.refl _) (x9m (j:=2002) rfl rfl (CSub.refl _) z1x))));rintro l' H' ⟨rfl,rfl⟩;conv=>whnf
    refine cJ rH1 0 (v (by omega) l[j].L (by omega) (XN a.D (b.length+1) (b.length+1+XL (l[j]'k):Int) a.loop (b++[⟨l[j]'k,a.D,a.up,(b.length+1+XL (l[j]'k):Int),a.loop⟩]) (l[j]'k).I) (by rw[XK,x8m];simp only[x9a];omega) ⟨S0,a.D,b.length+1,(b.length+1+XL (l[j]'k):Int),a.loop⟩ r pr t s) ?_ (ha:=(by refine x9t (x9b _) (x9t (x9b _) (x9t (LSub.agg ?_) z1w));repeat' (first|exact SubL.nil|refine SubL.cons ?_ ?_|exact Sub.refl _|exact Sub.nils|exact Sub.ff rfl))) (hH:=by exact x9m (j:=1000) rfl rfl (CSub.refl _) (x9m (j:=2000) rfl rfl (CSub.refl _) (x9m (j:=2001) rfl rfl (CSub.refl _) (x9m (j:=2002) rfl rfl (CSub.refl _) z1x))));rintro l' H' ⟨rfl,rfl⟩;conv=>whnf
    refine wI ?_;conv=>whnf
    have o:J8 a.D a.up (b.length+1+XL (l[j]'k):Int) a.loop b l[j]=XN a.D (b.length+1) (b.length+1+XL (l[j]'k):Int) a.loop (XN a.D (b.length+1) (b.length+1+XL (l[j]'k):Int) a.loop (b++[⟨l[j]'k,a.D,a.up,(b.length+1+XL (l[j]'k):Int),a.loop⟩]) (l[j]'k).I) l[j].L:=by
     rw[NK,if_neg (by assumption),if_neg (by assumption)]
    exact⟨(j+1,J8 a.D a.up (b.length+1+XL (l[j]'k):Int) a.loop b l[j]),⟨by simp only;omega,by simp only;rw[ZJ];omega,by simp only;rw[ZJ];omega,by simp only;rw[<-y,UV k,if_pos (by omega)]⟩,by simp only;omega,Le.of_eq (by simp only;rw[o];rfl)⟩
   .have k:j<l.length:=by omega
    have q:=q k;have w:=WN l[j];refine cJ rH1 0 (v (by omega) l[j].I (by omega) (b++[⟨l[j]'k,a.D,a.up,(b.length+1+XL (l[j]'k):Int),a.loop⟩]) (by rw[x8m];simp only[x9a];omega) ⟨S0,a.D,b.length+1,(b.length+1:Int),(b.length+1:Int)⟩ r pr t s) ?_ (ha:=(by refine x9t (x9b _) (x9t (x9b _) (x9t (LSub.agg ?_) z1w));repeat' (first|exact SubL.nil|refine SubL.cons ?_ ?_|exact Sub.refl _|exact Sub.nils|exact Sub.ff rfl))) (hH:=by exact x9m (j:=1000) rfl rfl (CSub.of_eq (by rw[x8m];first|done|rfl)) (x9m (j:=2000) rfl rfl (CSub.of_eq (by rw[x8a];first|done|rfl)) (x9m (j:=2001) rfl rfl (CSub.refl _) (x9m (j:=2002) rfl rfl (CSub.refl _) z1x))));rintro l' H' ⟨rfl,rfl⟩;conv=>whnf
    refine cJ rH1 0 (v (by omega) l[j].L (by omega) (XN a.D (b.length+1) (b.length+1:Int) (b.length+1:Int) (b++[⟨l[j]'k,a.D,a.up,(b.length+1+XL (l[j]'k):Int),a.loop⟩]) (l[j]'k).I) (by rw[XK,x8m];simp only[x9a];omega) ⟨S0,a.D,b.length+1,(b.length+1:Int),(b.length+1:Int)⟩ r pr t s) ?_ (ha:=(by refine x9t (x9b _) (x9t (x9b _) (x9t (LSub.agg ?_) z1w));repeat' (first|exact SubL.nil|refine SubL.cons ?_ ?_|exact Sub.refl _|exact Sub.nils|exact Sub.ff rfl))) (hH:=by exact x9m (j:=1000) rfl rfl (CSub.refl _) (x9m (j:=2000) rfl rfl (CSub.refl _) (x9m (j:=2001) rfl rfl (CSub.refl _) (x9m (j:=2002) rfl rfl (CSub.refl _) z1x))));rintro l' H' ⟨rfl,rfl⟩;conv=>whnf
    refine wI ?_;conv=>whnf
    have o:J8 a.D a.up (b.length+1+XL (l[j]'k):Int) a.loop b l[j]=XN a.D (b.length+1) (b.length+1:Int) (b.length+1:Int) (XN a.D (b.length+1) (b.length+1:Int) (b.length+1:Int) (b++[⟨l[j]'k,a.D,a.up,(b.length+1+XL (l[j]'k):Int),a.loop⟩]) (l[j]'k).I) l[j].L:=by
     rw[NK,if_pos (by assumption),if_pos (by assumption)]
    exact⟨(j+1,J8 a.D a.up (b.length+1+XL (l[j]'k):Int) a.loop b l[j]),⟨by simp only;omega,by simp only;rw[ZJ];omega,by simp only;rw[ZJ];omega,by simp only;rw[<-y,UV k,if_pos (by omega)]⟩,by simp only;omega,Le.of_eq (by simp only;rw[o];rfl)⟩
   .have k:j<l.length:=by omega
    have q:=q k;have w:=WN l[j];refine cJ rH1 0 (v (by omega) l[j].I (by omega) (b++[⟨l[j]'k,a.D,a.up,(b.length+1+XL (l[j]'k):Int),a.loop⟩]) (by rw[x8m];simp only[x9a];omega) ⟨S0,a.D,b.length+1,(b.length+1+XL (l[j]'k):Int),a.loop⟩ r pr t s) ?_ (ha:=(by refine x9t (x9b _) (x9t (x9b _) (x9t (LSub.agg ?_) z1w));repeat' (first|exact SubL.nil|refine SubL.cons ?_ ?_|exact Sub.refl _|exact Sub.nils|exact Sub.ff rfl))) (hH:=by exact x9m (j:=1000) rfl rfl (CSub.of_eq (by rw[x8m];first|done|rfl)) (x9m (j:=2000) rfl rfl (CSub.of_eq (by rw[x8a];first|done|rfl)) (x9m (j:=2001) rfl rfl (CSub.refl _) (x9m (j:=2002) rfl rfl (CSub.refl _) z1x))));rintro l' H' ⟨rfl,rfl⟩;conv=>whnf
    refine cJ rH1 0 (v (by omega) l[j].L (by omega) (XN a.D (b.length+1) (b.length+1+XL (l[j]'k):Int) a.loop (b++[⟨l[j]'k,a.D,a.up,(b.length+1+XL (l[j]'k):Int),a.loop⟩]) (l[j]'k).I) (by rw[XK,x8m];simp only[x9a];omega) ⟨S0,a.D,b.length+1,(b.length+1+XL (l[j]'k):Int),a.loop⟩ r pr t s) ?_ (ha:=(by refine x9t (x9b _) (x9t (x9b _) (x9t (LSub.agg ?_) z1w));repeat' (first|exact SubL.nil|refine SubL.cons ?_ ?_|exact Sub.refl _|exact Sub.nils|exact Sub.ff rfl))) (hH:=by exact x9m (j:=1000) rfl rfl (CSub.refl _) (x9m (j:=2000) rfl rfl (CSub.refl _) (x9m (j:=2001) rfl rfl (CSub.refl _) (x9m (j:=2002) rfl rfl (CSub.refl _) z1x))));rintro l' H' ⟨rfl,rfl⟩;conv=>whnf
    refine wI ?_;conv=>whnf
    have o:J8 a.D a.up (b.length+1+XL (l[j]'k):Int) a.loop b l[j]=XN a.D (b.length+1) (b.length+1+XL (l[j]'k):Int) a.loop (XN a.D (b.length+1) (b.length+1+XL (l[j]'k):Int) a.loop (b++[⟨l[j]'k,a.D,a.up,(b.length+1+XL (l[j]'k):Int),a.loop⟩]) (l[j]'k).I) l[j].L:=by
     rw[NK,if_neg (by assumption),if_neg (by assumption)]
    exact⟨(j+1,J8 a.D a.up (b.length+1+XL (l[j]'k):Int) a.loop b l[j]),⟨by simp only;omega,by simp only;rw[ZJ];omega,by simp only;rw[ZJ];omega,by simp only;rw[<-y,UV k,if_pos (by omega)]⟩,by simp only;omega,Le.of_eq (by simp only;rw[o];rfl)⟩
   .have k:j<l.length:=by omega
    have q:=q k;have w:=WN l[j];refine cJ rH1 0 (v (by omega) l[j].I (by omega) (b++[⟨l[j]'k,a.D,a.up,a.next,a.loop⟩]) (by rw[x8m];simp only[x9a];omega) ⟨S0,a.D,b.length+1,(b.length+1:Int),(b.length+1:Int)⟩ r pr t s) ?_ (ha:=(by refine x9t (x9b _) (x9t (x9b _) (x9t (LSub.agg ?_) z1w));repeat' (first|exact SubL.nil|refine SubL.cons ?_ ?_|exact Sub.refl _|exact Sub.nils|exact Sub.ff rfl))) (hH:=by exact x9m (j:=1000) rfl rfl (CSub.of_eq (by rw[x8m];first|done|rfl)) (x9m (j:=2000) rfl rfl (CSub.of_eq (by rw[x8a];first|done|rfl)) (x9m (j:=2001) rfl rfl (CSub.refl _) (x9m (j:=2002) rfl rfl (CSub.refl _) z1x))));rintro l' H' ⟨rfl,rfl⟩;conv=>whnf
    refine cJ rH1 0 (v (by omega) l[j].L (by omega) (XN a.D (b.length+1) (b.length+1:Int) (b.length+1:Int) (b++[⟨l[j]'k,a.D,a.up,a.next,a.loop⟩]) (l[j]'k).I) (by rw[XK,x8m];simp only[x9a];omega) ⟨S0,a.D,b.length+1,(b.length+1:Int),(b.length+1:Int)⟩ r pr t s) ?_ (ha:=(by refine x9t (x9b _) (x9t (x9b _) (x9t (LSub.agg ?_) z1w));repeat' (first|exact SubL.nil|refine SubL.cons ?_ ?_|exact Sub.refl _|exact Sub.nils|exact Sub.ff rfl))) (hH:=by exact x9m (j:=1000) rfl rfl (CSub.refl _) (x9m (j:=2000) rfl rfl (CSub.refl _) (x9m (j:=2001) rfl rfl (CSub.refl _) (x9m (j:=2002) rfl rfl (CSub.refl _) z1x))));rintro l' H' ⟨rfl,rfl⟩;conv=>whnf
    refine wI ?_;conv=>whnf
    have o:J8 a.D a.up a.next a.loop b l[j]=XN a.D (b.length+1) (b.length+1:Int) (b.length+1:Int) (XN a.D (b.length+1) (b.length+1:Int) (b.length+1:Int) (b++[⟨l[j]'k,a.D,a.up,a.next,a.loop⟩]) (l[j]'k).I) l[j].L:=by
     rw[NK,if_pos (by assumption),if_pos (by assumption)]
    exact⟨(j+1,J8 a.D a.up a.next a.loop b l[j]),⟨by simp only;omega,by simp only;rw[ZJ];omega,by simp only;rw[ZJ];omega,by simp only;rw[<-y,UV k,if_neg (by omega)]⟩,by simp only;omega,Le.of_eq (by simp only;rw[o];rfl)⟩
   .have k:j<l.length:=by omega
    have q:=q k;have w:=WN l[j];refine cJ rH1 0 (v (by omega) l[j].I (by omega) (b++[⟨l[j]'k,a.D,a.up,a.next,a.loop⟩]) (by rw[x8m];simp only[x9a];omega) ⟨S0,a.D,b.length+1,a.next,a.loop⟩ r pr t s) ?_ (ha:=(by refine x9t (x9b _) (x9t (x9b _) (x9t (LSub.agg ?_) z1w));repeat' (first|exact SubL.nil|refine SubL.cons ?_ ?_|exact Sub.refl _|exact Sub.nils|exact Sub.ff rfl))) (hH:=by exact x9m (j:=1000) rfl rfl (CSub.of_eq (by rw[x8m];first|done|rfl)) (x9m (j:=2000) rfl rfl (CSub.of_eq (by rw[x8a];first|done|rfl)) (x9m (j:=2001) rfl rfl (CSub.refl _) (x9m (j:=2002) rfl rfl (CSub.refl _) z1x))));rintro l' H' ⟨rfl,rfl⟩;conv=>whnf
    refine cJ rH1 0 (v (by omega) l[j].L (by omega) (XN a.D (b.length+1) a.next a.loop (b++[⟨l[j]'k,a.D,a.up,a.next,a.loop⟩]) (l[j]'k).I) (by rw[XK,x8m];simp only[x9a];omega) ⟨S0,a.D,b.length+1,a.next,a.loop⟩ r pr t s) ?_ (ha:=(by refine x9t (x9b _) (x9t (x9b _) (x9t (LSub.agg ?_) z1w));repeat' (first|exact SubL.nil|refine SubL.cons ?_ ?_|exact Sub.refl _|exact Sub.nils|exact Sub.ff rfl))) (hH:=by exact x9m (j:=1000) rfl rfl (CSub.refl _) (x9m (j:=2000) rfl rfl (CSub.refl _) (x9m (j:=2001) rfl rfl (CSub.refl _) (x9m (j:=2002) rfl rfl (CSub.refl _) z1x))));rintro l' H' ⟨rfl,rfl⟩;conv=>whnf
    refine wI ?_;conv=>whnf
    have o:J8 a.D a.up a.next a.loop b l[j]=XN a.D (b.length+1) a.next a.loop (XN a.D (b.length+1) a.next a.loop (b++[⟨l[j]'k,a.D,a.up,a.next,a.loop⟩]) (l[j]'k).I) l[j].L:=by
     rw[NK,if_neg (by assumption),if_neg (by assumption)]
    exact⟨(j+1,J8 a.D a.up a.next a.loop b l[j]),⟨by simp only;omega,by simp only;rw[ZJ];omega,by simp only;rw[ZJ];omega,by simp only;rw[<-y,UV k,if_neg (by omega)]⟩,by simp only;omega,Le.of_eq (by simp only;rw[o];rfl)⟩
   .have k:j<l.length:=by omega
    have q:=q k;have w:=WN l[j];refine cJ rH1 0 (v (by omega) l[j].I (by omega) (b++[⟨l[j]'k,a.D,a.up,a.next,a.loop⟩]) (by rw[x8m];simp only[x9a];omega) ⟨S0,a.D,b.length+1,(b.length+1:Int),(b.length+1:Int)⟩ r pr t s) ?_ (ha:=(by refine x9t (x9b _) (x9t (x9b _) (x9t (LSub.agg ?_) z1w));repeat' (first|exact SubL.nil|refine SubL.cons ?_ ?_|exact Sub.refl _|exact Sub.nils|exact Sub.ff rfl))) (hH:=by exact x9m (j:=1000) rfl rfl (CSub.of_eq (by rw[x8m];first|done|rfl)) (x9m (j:=2000) rfl rfl (CSub.of_eq (by rw[x8a];first|done|rfl)) (x9m (j:=2001) rfl rfl (CSub.refl _) (x9m (j:=2002) rfl rfl (CSub.refl _) z1x))));rintro l' H' ⟨rfl,rfl⟩;conv=>whnf
    refine cJ rH1 0 (v (by omega) l[j].L (by omega) (XN a.D (b.length+1) (b.length+1:Int) (b.length+1:Int) (b++[⟨l[j]'k,a.D,a.up,a.next,a.loop⟩]) (l[j]'k).I) (by rw[XK,x8m];simp only[x9a];omega) ⟨S0,a.D,b.length+1,(b.length+1:Int),(b.length+1:Int)⟩ r pr t s) ?_ (ha:=(by refine x9t (x9b _) (x9t (x9b _) (x9t (LSub.agg ?_) z1w));repeat' (first|exact SubL.nil|refine SubL.cons ?_ ?_|exact Sub.refl _|exact Sub.nils|exact Sub.ff rfl))) (hH:=by exact x9m (j:=1000) rfl rfl (CSub.refl _) (x9m (j:=2000) rfl rfl (CSub.refl _) (x9m (j:=2001) rfl rfl (CSub.refl _) (x9m (j:=2002) rfl rfl (CSub.refl _) z1x))));rintro l' H' ⟨rfl,rfl⟩;conv=>whnf
    refine wI ?_;conv=>whnf
    have o:J8 a.D a.up a.next a.loop b l[j]=XN a.D (b.length+1) (b.length+1:Int) (b.length+1:Int) (XN a.D (b.length+1) (b.length+1:Int) (b.length+1:Int) (b++[⟨l[j]'k,a.D,a.up,a.next,a.loop⟩]) (l[j]'k).I) l[j].L:=by
     rw[NK,if_pos (by assumption),if_pos (by assumption)]
    exact⟨(j+1,J8 a.D a.up a.next a.loop b l[j]),⟨by simp only;omega,by simp only;rw[ZJ];omega,by simp only;rw[ZJ];omega,by simp only;rw[<-y,UV k,if_neg (by omega)]⟩,by simp only;omega,Le.of_eq (by simp only;rw[o];rfl)⟩
   .have k:j<l.length:=by omega
    have q:=q k;have w:=WN l[j];refine cJ rH1 0 (v (by omega) l[j].I (by omega) (b++[⟨l[j]'k,a.D,a.up,a.next,a.loop⟩]) (by rw[x8m];simp only[x9a];omega) ⟨S0,a.D,b.length+1,a.next,a.loop⟩ r pr t s) ?_ (ha:=(by refine x9t (x9b _) (x9t (x9b _) (x9t (LSub.agg ?_) z1w));repeat' (first|exact SubL.nil|refine SubL.cons ?_ ?_|exact Sub.refl _|exact Sub.nils|exact Sub.ff rfl))) (hH:=by exact x9m (j:=1000) rfl rfl (CSub.of_eq (by rw[x8m];first|done|rfl)) (x9m (j:=2000) rfl rfl (CSub.of_eq (by rw[x8a];first|done|rfl)) (x9m (j:=2001) rfl rfl (CSub.refl _) (x9m (j:=2002) rfl rfl (CSub.refl _) z1x))));rintro l' H' ⟨rfl,rfl⟩;conv=>whnf
    refine cJ rH1 0 (v (by omega) l[j].L (by omega) (XN a.D (b.length+1) a.next a.loop (b++[⟨l[j]'k,a.D,a.up,a.next,a.loop⟩]) (l[j]'k).I) (by rw[XK,x8m];simp only[x9a];omega) ⟨S0,a.D,b.length+1,a.next,a.loop⟩ r pr t s) ?_ (ha:=(by refine x9t (x9b _) (x9t (x9b _) (x9t (LSub.agg ?_) z1w));repeat' (first|exact SubL.nil|refine SubL.cons ?_ ?_|exact Sub.refl _|exact Sub.nils|exact Sub.ff rfl))) (hH:=by exact x9m (j:=1000) rfl rfl (CSub.refl _) (x9m (j:=2000) rfl rfl (CSub.refl _) (x9m (j:=2001) rfl rfl (CSub.refl _) (x9m (j:=2002) rfl rfl (CSub.refl _) z1x))));rintro l' H' ⟨rfl,rfl⟩;conv=>whnf
    refine wI ?_;conv=>whnf
    have o:J8 a.D a.up a.next a.loop b l[j]=XN a.D (b.length+1) a.next a.loop (XN a.D (b.length+1) a.next a.loop (b++[⟨l[j]'k,a.D,a.up,a.next,a.loop⟩]) (l[j]'k).I) l[j].L:=by
     rw[NK,if_neg (by assumption),if_neg (by assumption)]
    exact⟨(j+1,J8 a.D a.up a.next a.loop b l[j]),⟨by simp only;omega,by simp only;rw[ZJ];omega,by simp only;rw[ZJ];omega,by simp only;rw[<-y,UV k,if_neg (by omega)]⟩,by simp only;omega,Le.of_eq (by simp only;rw[o];rfl)⟩
   .refine ⟨_,.refl _,rfl,?_⟩;rw[x9j (by omega),XN]at y;rw[<-y];rfl
structure Sheet where
 p:Pg
 l:List Item
 lo:List Int
 hi:List Int
def Sheet.cells(s:Sheet):List AV:=s.p.cells++[.sl (s.l.map fun i=>.agg i.cells),XZ s.lo,XZ s.hi]
def cntP:List Pr->Nat
 |[]=>0
 |f::r=>cntL f.body+cntP r
def K0{l:List Pr}(h:j<l.length):cntP (l.drop j)=cntL l[j].body+cntP (l.drop (j+1)):=by
 rw[QG h,cntP]
def H8(i:Nat)(h:List Item)(l k:List Int):List Pr->List Item×List Int×List Int
 |[]=>(h,l,k)
 |f::r=>H8 (i+1) (XN i 0 (-1) 0 h f.body) (l++[(h.length:Int)+1]) (k++[((XN i 0 (-1) 0 h f.body).length:Int)+1]) r
def sheetOf(p:Pg):Sheet:=⟨p,(H8 0 [] [] [] p.A).1,(H8 0 [] [] [] p.A).2.1,(H8 0 [] [] [] p.A).2.2⟩
def Lr{h:List Item}{n k:List Int}{l:List Pr}(o:j<l.length):
  H8 i h n k (l.drop j)=H8 (i+1) (XN i 0 (-1) 0 h l[j].body) (n++[(h.length:Int)+1]) (k++[((XN i 0 (-1) 0 h l[j].body).length:Int)+1]) (l.drop (j+1)):=by
 rw[QG o,H8]
def x1w(n tI l:Nat)(p:Pg)(L:List Item)(k h:List Int):Heap:=
 [(0,.obj n [.p (eStrs p.B),.p (.sl (p.A.map fun f=>.agg f.cells)),.hd 1 0 L.length,.hd 2 0 k.length,.hd 3 0 h.length]),(1,.own tI 17 (L.map fun i=>.agg i.cells)),(2,.own l 1 (k.map (.int .i64))),(3,.own l 1 (h.map (.int .i64)))]
def DY(p:Pg)(G:p.A.length<=1000)(v:cntP p.A<=999):aP 50 [.agg p.cells] (.ip (sheetOf p).cells):=by
 refine sC Ci func50 ?_;conv=>whnf
 repeat' ((refine gX ?_;intros)<;>conv=>whnf)
 have F:(p.A.map fun f=>AV.agg f.cells).length=p.A.length:=x8b _;refine lJ (fun i:Nat×List Item×List Int×List Int=>⟨[(3,.ptr 0 0),(10,.p (.sl (p.A.map fun f=>AV.agg f.cells))),(11,.p (.int .i64 (p.A.map fun f=>AV.agg f.cells).length)),(12,.j i.1)],x1w 120 116 3 p i.2.1 i.2.2.1 i.2.2.2⟩) (fun i=>i.1<=p.A.length/\i.2.1.length+cntP (p.A.drop i.1)=cntP p.A/\i.2.2.1.length=i.1/\i.2.2.2.length=i.1/\H8 i.1 i.2.1 i.2.2.1 i.2.2.2 (p.A.drop i.1)=H8 0 [] [] [] p.A) (fun i=>p.A.length-i.1) (0,[],[],[]) (lM [(1,.own 116 17 []),(2,.own 3 1 []),(3,.own 3 1 [])] (hnd:=by simp[x1w]) (hH:=.cons rfl (.obj (.r (.r (.cons (.nil x8l) (.cons (.nil (x8r _ x8l)) (.cons (.nil (x8r _ (x8r _ x8l))) .nil)))))) (.new x8l (.new (x8r _ x8l) (.new (x8r _ (x8r _ x8l)) .nil))))) ⟨x8i _,by simp,rfl,rfl,rfl⟩ ?_;rintro⟨j,b,k,h⟩ ⟨y,z,s,t,n⟩;simp only at y z s t n⊢;conv=>whnf
 repeat' ((first|(refine gX ?_;intros)|refine dA ?_|refine pA 1 8 (by simp) ?_|(apply bD<;>intro _<;>try omega)|refine x9p ?_ ?_)<;>conv=>whnf)
 .have o:j<p.A.length:=by omega
  have u:=K0 o;refine cJ [(1000,0),(2000,1),(2001,2),(2002,3)] 0 (Sf 1000 (by omega) p.A[j].body (by omega) b (by omega) ⟨S0,j,0,-1,0⟩ _ _ (k++[(b.length:Int)+1]) h) ?_ (ha:=(by refine x9t (x9b _) (x9t (x9b _) (x9t (LSub.agg ?_) z1w));repeat' (first|exact SubL.nil|refine SubL.cons ?_ ?_|exact Sub.refl _|exact Sub.nils|exact Sub.ff rfl))) (hH:=by exact x9m (j:=0) rfl rfl (CSub.of_eq (by rw[x8m];first|done|rfl)) (x9m (j:=1) rfl rfl (CSub.refl _) (x9m (j:=2) rfl rfl (CSub.of_eq (by rw[x8a];first|done|rfl)) (x9m (j:=3) rfl rfl (CSub.refl _) z1x))));rintro l' H' ⟨rfl,rfl⟩;conv=>whnf
  have q:=XK j 0 (-1) 0 b p.A[j].body;repeat' ((first|(refine gX ?_;intros)|refine dA ?_|refine pA 1 8 (by simp) ?_|refine Wr.i64 (by rw[XK];omega) (by rw[XK];omega) ?_|refine x9p ?_ ?_)<;>conv=>whnf)
  all_goals exact⟨(j+1,XN j 0 (-1) 0 b p.A[j].body,k++[(b.length:Int)+1],h++[((XN j 0 (-1) 0 b p.A[j].body).length:Int)+1]),⟨by simp only;omega,by simp only;omega,by simp[s],by simp[t],by simp only;rw[<-n,Lr o]⟩,by simp only;omega,Le.of_eq (by simp only[x1w,x8m,x8a];rfl)⟩
 .have o:j<p.A.length:=by omega
  have u:=K0 o;refine cJ [(1000,0),(2000,1),(2001,2),(2002,3)] 0 (Sf 1000 (by omega) p.A[j].body (by omega) b (by omega) ⟨S0,j,0,-1,0⟩ _ _ (k++[(b.length:Int)+1]) h) ?_ (ha:=(by refine x9t (x9b _) (x9t (x9b _) (x9t (LSub.agg ?_) z1w));repeat' (first|exact SubL.nil|refine SubL.cons ?_ ?_|exact Sub.refl _|exact Sub.nils|exact Sub.ff rfl))) (hH:=by exact x9m (j:=0) rfl rfl (CSub.of_eq (by rw[x8m];first|done|rfl)) (x9m (j:=1) rfl rfl (CSub.refl _) (x9m (j:=2) rfl rfl (CSub.of_eq (by rw[x8a];first|done|rfl)) (x9m (j:=3) rfl rfl (CSub.refl _) z1x))));rintro l' H' ⟨rfl,rfl⟩;conv=>whnf
  have q:=XK j 0 (-1) 0 b p.A[j].body;repeat' ((first|(refine gX ?_;intros)|refine dA ?_|refine pA 1 8 (by simp) ?_|refine Wr.i64 (by rw[XK];omega) (by rw[XK];omega) ?_|refine x9p ?_ ?_)<;>conv=>whnf)
  all_goals exact⟨(j+1,XN j 0 (-1) 0 b p.A[j].body,k++[(b.length:Int)+1],h++[((XN j 0 (-1) 0 b p.A[j].body).length:Int)+1]),⟨by simp only;omega,by simp only;omega,by simp[s],by simp[t],by simp only;rw[<-n,Lr o]⟩,by simp only;omega,Le.of_eq (by simp only[x1w,x8m,x8a];rfl)⟩
 .have D:p.A.drop j=[]:=x9j (by omega);rw[D,H8]at n;refine⟨.ip (sheetOf p).cells,?_,rfl⟩;have e:(sheetOf p).cells=[eStrs p.B,.sl (p.A.map fun f=>.agg f.cells),.sl (b.map fun i=>.agg i.cells),XZ k,XZ h]:=by
   unfold sheetOf;rw[<-n];rfl
  rw[e];have C:∀H:Heap,getH H 1=some (.own 116 17 (b.map fun i=>.agg i.cells))->getH H 2=some (.own 3 1 (k.map (.int .i64)))->getH H 3=some (.own 3 1 (h.map (.int .i64)))->
    FrzL H [.p (eStrs p.B),.p (.sl (p.A.map fun f=>.agg f.cells)),.hd 1 0 b.length,.hd 2 0 k.length,.hd 3 0 h.length] [eStrs p.B,.sl (p.A.map fun f=>.agg f.cells),.sl (b.map fun i=>.agg i.cells),XZ k,XZ h]:=fun H g1 w x=>
   .cons (.p (Sub.refl _)) (.cons (.p (Sub.refl _)) (.cons (.hd g1 (by simp)) (.cons (.hd w (by simp)) (.cons (.hd x (by simp)) .nil))))
  refine Frz.ptr (off:=0) rfl rfl fun m l c E v=>?_;obtain⟨l',a,d⟩:=(C (x1w 120 116 3 p b k h) rfl rfl rfl).get.2 m c v;have g:=a.symm.trans E;cases g;exact d
theorem IdxK.at{es:List AV}{sz k:Nat}{n:Int}(o:n=k)(l:es[k]?=some e)(q:e.cells.length=sz)(h:K e.cells):IdxK es sz n K:=⟨k,e,o,l,q,h⟩
def UF{l:List Int}{k:Nat}{n:Int}(h:l[k]?=some n):(l.map (AV.int .i64))[k]?=some (.int .i64 n):=by simp[h]
def UD(l:List Item):AV:=.sl (l.map fun i=>.agg i.cells)
def Zg(s:Sheet)(i k h:Nat)(n:s.lo[i]?=some ((k:Int)+1))(o:s.hi[i]?=some ((h:Int)+1))(q:k<=h)(r:h<=s.l.length)(u:s.l.length<=1000):aP 124 [.ip s.cells,.int .i64 i] (UD ((s.l.take h).drop k)):=by
 refine sC Jv func124 ?_;conv=>whnf
 repeat' ((first|refine dA ?_|refine wI ?_|refine IdxK.at rfl (UF n) rfl ?_|refine IdxK.at rfl (UF o) rfl ?_|refine x9p (fun e t=>by obtain⟨x,_,rfl⟩:=x8c.1 t;rfl) (z4i k h (by simp) (by simp) q (by simpa using r) ?_))<;>conv=>whnf)
 exact RetK.p (by simp[UD,map_take,List.map_drop])
def LD(s:Sheet)(id:Int):aP 61 [.ip s.cells,.int .i64 id] (.bool (decide (1<=id)&&decide (id<=s.l.length))):=by
 refine sC Y8 func61 ?_;conv=>whnf
 repeat' ((first|(refine iM fun _=>?_)|(apply bD<;>intro _<;>try omega))<;>conv=>whnf)
 all_goals have h:(s.l.map fun i=>AV.agg i.cells).length=s.l.length:=x8b _
 .exact RetK.bool (by simp_all)
 .exact RetK.ff (by simp;omega)
def BQ(s:Sheet)(i h k:Nat)(l:s.lo[i]?=some ((h:Int)+1))(n:s.hi[i]?=some ((k:Int)+1)):aP 107 [.ip s.cells,.int .i64 i] (.int .i64 (if h<k then(h:Int)+1 else -1)):=by
 refine sC Xb func107 ?_;conv=>whnf
 repeat' ((first|refine dA ?_|refine IdxK.at rfl (UF l) rfl ?_|refine IdxK.at rfl (UF n) rfl ?_|(apply bD<;>intro _<;>try omega))<;>conv=>whnf)
 .exact RetK.int (by rw[if_pos (by omega)])
 .exact RetK.int (by rw[if_neg (by omega)])
def YL(l:List Str)(g:Nat)(c:AV)(p:Str->Bool)(n:∀s,aP g [.str s,c] (.bool (p s))):aP 184 [eStrs l,.fn g [c]] (.int .i64 (idxF p l)):=by
 refine sC UG func184 ?_;conv=>whnf
 refine iM fun _=>?_;have q:(l.map AV.str).length=l.length:=x8b _;conv=>whnf
 refine lI (fun j:Nat=>⟨[(0,.p (eStrs l)),(1,.p (.fn g [c])),(7,.p (.int .i64 (l.map AV.str).length)),(8,.j j)],[]⟩) (fun j=>j<=l.length/\(l.drop j).any p=l.any p/\l.findIdx p=j+(l.drop j).findIdx p) (fun j=>l.length-j) 0 ⟨x8i _,rfl,by simp⟩ ?_;rintro j ⟨o,h,k⟩;conv=>whnf
 repeat' ((first|(refine gX ?_;intros)|refine cP (n _) ?_|((first|apply bD|apply bB)<;>intro _<;>try omega))<;>conv=>whnf)
 .exact RetK.int (Ya (p:=p) (by omega) (by assumption) h k).symm
 .exact nX (j+1) ⟨by omega,by rw[<-h,Ud (p:=p) (by omega) (by assumption)],by rw[k,q0e (p:=p) (by omega) (by assumption)];omega⟩
 .exact RetK.int (by rw[P3];rw[<-h,PG (by omega)])
def UK(l:List Str)(g:Nat)(c:AV)(p:Str->Bool)(h:∀s,aP g [.str s,c] (.bool (p s))):aP 121 [eStrs l,.fn g [c]] (.bool (l.any p)):=by
 refine sC VK func121 ?_;conv=>whnf
 repeat' (refine cP (YL _ _ _ p h) ?_;conv=>whnf)
 exact RetK.bool Vh
def ZX(l:List Pr)(g:Nat)(c:AV)(p:Pr->Bool)(n:∀s:Pr,aP g [.agg s.cells,c] (.bool (p s))):aP 75 [.sl (l.map fun f=>.agg f.cells),.fn g [c]] (.int .i64 (idxF p l)):=by
 refine sC VZ func75 ?_;conv=>whnf
 refine iM fun _=>?_;have q:(l.map fun f=>AV.agg f.cells).length=l.length:=x8b _;conv=>whnf
 refine lI (fun j:Nat=>⟨[(0,.p (.sl (l.map fun f=>.agg f.cells))),(1,.p (.fn g [c])),(7,.p (.int .i64 (l.map fun f=>AV.agg f.cells).length)),(8,.j j)],[]⟩) (fun j=>j<=l.length/\(l.drop j).any p=l.any p/\l.findIdx p=j+(l.drop j).findIdx p) (fun j=>l.length-j) 0 ⟨x8i _,rfl,by simp⟩ ?_;rintro j ⟨o,h,k⟩;conv=>whnf
 repeat' ((first|(refine gX ?_;intros)|refine cP (n _) ?_|((first|apply bD|apply bB)<;>intro _<;>try omega))<;>conv=>whnf)
 .exact RetK.int (Ya (p:=p) (by omega) (by assumption) h k).symm
 .exact nX (j+1) ⟨by omega,by rw[<-h,Ud (p:=p) (by omega) (by assumption)],by rw[k,q0e (p:=p) (by omega) (by assumption)];omega⟩
 .exact RetK.int (by rw[P3];rw[<-h,PG (by omega)])
def WE(l:List Pr)(g:Nat)(c:AV)(p:Pr->Bool)(h:∀s:Pr,aP g [.agg s.cells,c] (.bool (p s))):aP 247 [.sl (l.map fun f=>.agg f.cells),.fn g [c]] (.bool (l.any p)):=by
 refine sC WD func247 ?_;conv=>whnf
 repeat' (refine cP (ZX _ _ _ p h) ?_;conv=>whnf)
 exact RetK.bool Vh
def Ps(p:Pg)(n:Str):aP 122 [.str n,.ip p.cells] (.bool (p.B.any fun s=>n==s)):=by
 refine sC Jj func122 ?_;conv=>whnf
 repeat' (refine cP (QV _ _) ?_;conv=>whnf)
 exact RetK.p rfl
def Vx(n:Str)(f:Pr):aP 76 [.agg f.cells,.ip [.str n]] (.bool (f.name==n)):=by
 refine sC LC func76 ?_;conv=>whnf
 skip
 exact RetK.p rfl
def N4(n:Str)(f:Pr):aP 248 [.agg f.cells,.ip [.str n]] (.bool (f.name==n)):=by
 refine sC Jg func248 ?_;conv=>whnf
 skip
 exact RetK.p rfl
def XE(s:Sheet)(n:Str):aP 33 [.ip s.cells,.str n] (.int .i64 (idxF (fun f=>f.name==n) s.p.A)):=by
 refine sC Ws func33 ?_;conv=>whnf
 repeat' ((refine cP (ZX _ _ _ (fun f=>f.name==n) (fun f=>Vx n f)) ?_)<;>conv=>whnf)
 exact RetK.p rfl
end Go.Ab
