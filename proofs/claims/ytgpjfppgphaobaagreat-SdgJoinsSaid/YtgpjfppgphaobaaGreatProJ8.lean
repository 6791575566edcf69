/- Small laws for the scripts. Conditions: none. -/
import Derived.Test.YtgpjfppgphaobaaGreatProJ7
set_option linter.all false
set_option maxRecDepth 100000
set_option maxHeartbeats 16000000
open List (all_cons any_cons map_take)
open Nat (ble)
namespace Go.Ab
open Go.Proofs.Tryz
open Go.Proofs
variable {ι:Type}{K:List AV->Prop}{N T i j m:Nat}{b:Bool}{c:Code}{e:AV}{fn:Func}{info:Info}{nest seen:Int}{ops:Array Oper}
def x0n{p:Prop}[Decidable p]{A B:Prop}(h:p->A)(k:¬p->B):Br (decide p) A B:=⟨fun e=>h (by simpa using e),fun e=>k (by simpa using e)⟩
def q7j{p:Prop}[Decidable p]{A B:Prop}(h:p->A)(k:¬p->B):Br (!decide p) B A:=⟨fun e=>k (by simpa using e),fun e=>h (by simpa using e)⟩
theorem Br.n{A B:Prop}(h:b=true->B)(l:b=false->A):Br (!b) A B:=⟨fun e=>l (by simpa using e),fun e=>h (by simpa using e)⟩
theorem ByteK.at{s:List UInt8}{k:Nat}{K:UInt8->Prop}(l:k<s.length)(h:K s[k]):ByteK s k K:=⟨k,s[k],rfl,by simp,h⟩
theorem X.avs_len(l:List X):(X.avs l).length=l.length:=by rw[X.avs_eq];simp
theorem S.avs_len(l:List S):(S.avs l).length=l.length:=by rw[S.avs_eq];simp
theorem IdxK.map{α:Type}{f:α->AV}{l:List α}{sz k:Nat}(o:k<(l.map f).length)(q:∀x,(f x).cells.length=sz)(h:K (f (l[k]'(by simpa using o))).cells):IdxK (l.map f) sz k K:=
 ⟨k,f (l[k]'(by simpa using o)),rfl,by simp at o;simp[o],q _,h⟩
theorem IdxK.xs{l:List X}{k:Nat}(o:k<(X.avs l).length)(h:K (l[k]'(by rw[X.avs_len]at o;exact o)).cells):IdxK (X.avs l) 4 k K:=by
 rw[X.avs_len]at o;refine⟨k,.agg l[k].cells,rfl,?_,rfl,h⟩;rw[X.avs_eq];simp[o]
def Yg{l:List S}{k:Nat}(n:k<(S.avs l).length)(h:K (l[k]'(by rw[S.avs_len]at n;exact n)).cells):IdxK (S.avs l) 13 k K:=by
 rw[S.avs_len]at n;refine⟨k,.agg l[k].cells,rfl,?_,rfl,h⟩;rw[S.avs_eq];simp[n]
theorem RetK.tt{H:Heap}{b:Bool}(h:b=true):RetK H (.p .tt) (fun r=>r=.bool b):=⟨_,.p (Sub.tt h),rfl⟩
theorem RetK.ff{H:Heap}{b:Bool}(h:b=false):RetK H (.p .ff) (fun r=>r=.bool b):=⟨_,.p (Sub.ff h),rfl⟩
theorem RetK.bool{H:Heap}{a b:Bool}(h:a=b):RetK H (.p (.bool a)) (fun r=>r=.bool b):=⟨_,.p (Sub.bool h),rfl⟩
theorem RetK.int{H:Heap}{k:IntKind}{m n:Int}(h:m=n):RetK H (.p (.int k m)) (fun r=>r=.int k n):=⟨_,.p (Sub.int h),rfl⟩
theorem RetK.p{H:Heap}{a b:AV}(h:a=b):RetK H (.p a) (fun r=>r=b):=⟨_,.p (Sub.of_eq h),rfl⟩
def QD{α:Type}{l:List α}(h:j<l.length):l.drop j=l[j]::l.drop (j+1):=by simp
def HA{α:Type}{l:List α}{p:α->Bool}(k:j<l.length)(h:p l[j]=true):(l.drop (j+1)).all p=(l.drop j).all p:=by
 rw[QD k,all_cons,h,z5h]
def V9{α:Type}{l:List α}{p:α->Bool}(k:j<l.length)(h:p l[j]=false):(l.drop j).all p=false:=by
 rw[QD k,all_cons,h,Bool.false_and]
def HC{α:Type}{l:List α}{p:α->Bool}(h:l.length<=j):(l.drop j).all p=true:=by
 rw[x9v h];rfl
def Vq{α:Type}{l:List α}{p:α->Bool}(k:j<l.length)(h:p l[j]=false):(l.drop (j+1)).any p=(l.drop j).any p:=by
 rw[QD k,any_cons,h,Bool.false_or]
def Yp{α:Type}{l:List α}{p:α->Bool}(k:j<l.length)(h:p l[j]=true):(l.drop j).any p=true:=by
 rw[QD k,any_cons,h,Bool.true_or]
def DL{α:Type}{l:List α}{p:α->Bool}(h:l.length<=j):(l.drop j).any p=false:=by
 rw[x9v h];rfl
def q5h{α β:Type}{l:List α}{g:α->β}(h:j<l.length):(l.take (j+1)).map g=(l.take j).map g++[g l[j]]:=by
 rw[x8c h,x8i];rfl
def idxF{α:Type}(p:α->Bool)(l:List α):Int:=bif l.any p then(l.findIdx p:Nat)else -1
def q1i{α:Type}{l:List α}{p:α->Bool}(k:j<l.length)(h:p l[j]=false):(l.drop j).findIdx p=(l.drop (j+1)).findIdx p+1:=by
 rw[QD k,List.findIdx_cons,h,x9p]
def x1y{α:Type}{l:List α}{p:α->Bool}(k:j<l.length)(h:p l[j]=true):(l.drop j).findIdx p=0:=by
 rw[QD k,List.findIdx_cons,h,x9y]
def Jm{α:Type}{p:α->Bool}{l:List α}:decide (idxF p l≥0)=l.any p:=by
 unfold idxF;cases l.any p<;>simp
def Us{α:Type}{p:α->Bool}{l:List α}(k:j<l.length)(h:p l[j]=true)(n:(l.drop j).any p=l.any p)(o:l.findIdx p=j+(l.drop j).findIdx p):idxF p l=j:=by
 unfold idxF;rw[<-n,Yp k h,x9y,o,x1y k h];rfl
def Bl{α:Type}{p:α->Bool}{l:List α}(h:l.any p=false):idxF p l = -1:=by
 unfold idxF;rw[h];rfl
def ZW{P:Program}{T:Tab}{id:Nat}{K:St->Prop}{s:St}(l:St)(h:DrawK P T N info id ops (fun s=>Ry info id s fun y=>Le N y l) s)(u:Ry info id l K):
  DrawK P T N info id ops (fun s=>Ry info id s K) s:=by
 refine⟨⟨fun σ β a w x=>Code.wp_mono (fun e q w' k=>?_) (h.ok.ok σ β a w x)⟩⟩;obtain⟨σ',β',s',k,o,v⟩:=k;cases e<;>simp only at k⊢;obtain⟨z,r,t⟩:=Wp (N:=N) k;obtain⟨σ2,β2,p,n⟩:=(t.trans r) σ' β' q w' o;exact⟨σ2,β2,l,u,p,v.trans n⟩
def Ct{P:Program}{T:Tab}{id:Nat}{K:St->Prop}{s:St}(hT:TabOK P T)(l:P.follows .mixedOrders=true)(k:(bif Bj ops.size ops.toList then bif ble (info.sched id).len ops.size then VY ops [] (info.sched id)else false else false)=true)(h:drW P T N ops (info.sched id) s K):DrawK P T N info id ops K s:=DrawK.of hT l _ k h
def bD{p:Prop}[Decidable p]{A B:Prop}(h:p->A)(k:¬p->B):Br (decide p) A B:=x0n h k
def bE{p:Prop}[Decidable p]{A B:Prop}(h:p->A)(k:¬p->B):Br (!decide p) B A:=q7j h k
def bB{A B:Prop}(h:b=true->A)(k:b=false->B):Br b A B:=⟨h,k⟩
def bN{A B:Prop}(h:b=true->B)(k:b=false->A):Br (!b) A B:=Br.n h k
def iM{n:Nat}{K:Prop}(h:n<=9223372036854775807->K):n<=9223372036854775807->K:=h
def wI{n:Int}{K:Int->Prop}(l:K n)(h : -9223372036854775808<=n:=by omega)(k:n<=9223372036854775807:=by omega):Wr .i64 n K:=Wr.i64 h k l
def aD{a b c:Prop}(h:c)(k:a:=by decide)(l:b:=by decide):(a/\b)/\c:=⟨⟨k,l⟩,h⟩
def aR{a b c d:Prop}(h:d)(k:a:=by exact rfl)(l:b:=by exact rfl)(n:c:=by decide):(a/\b/\c)/\d:=⟨⟨k,l,n⟩,h⟩
def bP{es:List AV}{sz:Nat}{out:List LV}{k l:Prop}(n:k)(h:∀x∈es,x.cells.length=sz:=by intro x h;rcases x8l.1 h with rfl;rfl)(o:out=(es.flatMap AV.cells).map .p:=by exact rfl):BsK es sz out k l:=.pure h o n
def iA{α:Type}{f:α->AV}{l:List α}{sz k:Nat}(h:∀n:k<l.length,K (f l[k]).cells)(n:k<(l.map f).length:=by omega)(o:∀x,(f x).cells.length=sz:=by intro _;rfl):IdxK (l.map f) sz k K:=IdxK.map n o (h (by simpa using n))
def dA{id:Nat}{K:St->Prop}{s:St}(h:drW prog tab N ops (info.sched id) s K)(k:(bif Bj ops.size ops.toList then bif ble (info.sched id).len ops.size then VY ops [] (info.sched id)else false else false)=true:=by kernel_rfl):DrawK prog tab N info id ops K s:=Ct XD mixed k h
def cP{P:Program}{g:FuncId}{args:List LV}{k:Option Nat}{s:St}{K:St->Prop}{avs:List AV}{c:AV}(l:SpecP P g avs fun r=>r=c)(h:setD N s.sl k (.p c) fun sl=>K ⟨sl,s.H⟩)(ha:ArgP args avs:=by(repeat (refine ArgP.cons ?_ ?_;first|exact Sub.refl _|exact Sub.tt rfl|exact Sub.ff rfl|exact Sub.int (by omega)));exact ArgP.nil):CallK P N g args k s K:=CallK.pure l ha fun _ e=>e▸h
def lE{s:St}{h:List (Nat×LV)}{H':Heap}(hnd:(H'.map (·.1)).Nodup:=by simp)(hsl:WkS [] s.sl h:=by(repeat (refine WkS.cons ?_ ?_;exact Wk.refl _));exact WkS.nil)(hH:WkH [] s.H H':=by(repeat refine WkH.cons rfl (CWk.refl _) ?_);exact WkH.nil):Le N s ⟨h,H'⟩:=Le.mk [] (by simp) (by simp) hnd hsl hH
def sH(info:Info){f:FuncId}(o:prog.funcs[f]?=some fn)(n:fn.body=some c)(l:∀(vals:Array Value)(w:World),(callFunc f vals).run prog w=.ok (.enter f vals) w){args:List LV}{H:Heap}{R:LV->Heap->Prop}(h:W prog tab fn.ntmps info c (x3k tab fn.results R) ⟨Qh args 0,H⟩)(k:args.length<=fn.ntmps:=by exact z4k rfl):SpecH prog f args H R:=SpecH.body info XD o n l k h
class Ask (P:Prop) (S Q:outParam Prop):Prop where
 h:Q->S->P
inductive AkA(a:Prop):Prop
 |mk (h:a)
inductive AkT:Prop
 |mk
inductive AkW:IntKind->Int->Prop
 |mk {n:Int} (h1 : -9223372036854775808<=n) (h2:n<=9223372036854775807):AkW .i64 n
inductive AkI{α:Type}(f:α->AV)(l:List α)(sz k:Nat):Prop
 |mk (hk:k<(l.map f).length) (hs:∀x,(f x).cells.length=sz)
inductive AkB(es:List AV)(sz:Nat)(out:List LV):Prop
 |mk (hx:∀x∈es,x.cells.length=sz) (ho:out=(es.flatMap AV.cells).map .p)
inductive AkL(k n:Nat):Prop
 |mk (h:k<n)
instance askA {a b:Prop}:Ask (a/\b) (AkA a) b:=⟨fun h s=>⟨match s with |.mk h=>h,h⟩⟩
instance askT {n:Nat} {K:Prop}:Ask (n<=9223372036854775807->K) AkT (n<=9223372036854775807->K):=⟨fun h _=>h⟩
instance askM {n:Nat} {K:Prop}:Ask (n<=maxLen->K) AkT (n<=9223372036854775807->K):=⟨fun h _=>h⟩
instance askW {k:IntKind} {n:Int} {K:Int->Prop}:Ask (Wr k n K) (AkW k n) (K n):=⟨fun h s=>by cases s with|mk h1 h2=>exact Wr.i64 h1 h2 h⟩
instance askI {α:Type} {f:α->AV} {l:List α} {sz k:Nat} {K:List AV->Prop}:Ask (IdxK (l.map f) sz k K) (AkI f l sz k) (∀hk:k<l.length,K (f l[k]).cells):=⟨fun h s=>by cases s with|mk hk hs=>exact iA h hk hs⟩
instance askX {l:List X} {sz k:Nat} {K:List AV->Prop}:Ask (IdxK (X.avs l) sz k K) (AkL k (X.avs l).length/\sz=4) (∀hk:k<(X.avs l).length,K (l[k]'(by rw[X.avs_len]at hk;exact hk)).cells):=⟨fun h s=>by cases s.1 with|mk hk=>rw[s.2];exact IdxK.xs hk (h hk)⟩
instance askS {l:List S} {sz k:Nat} {K:List AV->Prop}:Ask (IdxK (S.avs l) sz k K) (AkL k (S.avs l).length/\sz=13) (∀hk:k<(S.avs l).length,K (l[k]'(by rw[S.avs_len]at hk;exact hk)).cells):=⟨fun h s=>by cases s.1 with|mk hk=>rw[s.2];exact Yg hk (h hk)⟩
instance askC {s:List UInt8} {k:Nat} {K:UInt8->Prop}:Ask (ByteK s k K) (AkL k s.length) (∀hk:k<s.length,K s[k]):=⟨fun h q=>by cases q with|mk hk=>exact ByteK.at hk (h hk)⟩
instance askB {es:List AV} {sz:Nat} {out:List LV} {Kp Ko:Prop}:Ask (BsK es sz out Kp Ko) (AkB es sz out) Kp:=⟨fun h s=>by cases s with|mk hx ho=>exact .pure hx ho h⟩
def gX{P S Q:Prop}[c:Ask P S Q](h:Q)(s:S:=by first|exact AkA.mk rfl|exact AkT.mk|exact AkW.mk (by omega) (by omega)|exact AkI.mk (by omega) (fun _=>rfl)|exact⟨AkL.mk (by omega),rfl⟩|exact AkL.mk (by omega)|exact AkB.mk (by intro x k;rcases x8l.1 k with rfl;rfl) rfl|exact AkA.mk ⟨by decide,by decide⟩|exact AkA.mk ⟨rfl,rfl,by decide⟩):P:=c.h h s
class Bra (P:Prop) (p q A B:outParam Prop):Prop where
 h:(p->A)->(q->B)->P
instance braD {p:Prop} [Decidable p] {A B:Prop}:Bra (Br (decide p) A B) p (¬p) A B:=⟨bD⟩
instance braE {p:Prop} [Decidable p] {A B:Prop}:Bra (Br (!decide p) B A) p (¬p) A B:=⟨bE⟩
instance (priority:=10) braB {b:Bool} {A B:Prop}:Bra (Br b A B) (b=true) (b=false) A B:=⟨bB⟩
instance (priority:=20) braN {b:Bool} {A B:Prop}:Bra (Br (!b) B A) (b=true) (b=false) A B:=⟨bN⟩
def lI{K:Exit->St->Prop}{s:St}(I:ι->St)(φ:ι->Prop)(μ:ι->Nat)(h:ι)(l:φ h)(step:∀i,φ i->W prog tab N info c (fun e s'=>match e with |.normal=>∃j,φ j/\μ j<μ i/\Le N s' (I j) |e=>K e s') (I i))(k:Le N s (I h):=by exact Le.of_eq rfl):LoopK prog tab N info c K s:=LoopK.inv XD I φ μ h k l step
def nX{φ P Q:ι->Prop}(j:ι)(h:φ j)(k:P j:=by first|omega|(simp only;omega))(l:Q j:=by exact Le.of_eq rfl):∃j,φ j/\P j/\Q j:=⟨j,h,k,l⟩
def iT{es:List AV}{sz k:Nat}{n:Int}(l:es[k]?=some e)(h:K e.cells)(o:n=k:=by first|exact rfl|omega)(p:e.cells.length=sz:=by exact rfl):IdxK es sz n K:=⟨k,e,o,l,p,h⟩
def iO{len:Nat}{n:Int}{K:Nat->Prop}(i:Nat)(h:K i)(l:n=i:=by first|exact rfl|omega)(k:i<len:=by first|omega|(simp;done)|(simp;omega)):IdxL len n K:=.mk i l k h
def lO{es:List AV}{sz off:Nat}(k:es[m]?=some e)(h:K (e.cells.drop 0))(l:off=m*sz+0:=by omega):LdOwn es sz off K:=.mk m 0 e l k h
def sO{es:List AV}{sz off:Nat}{vs:List AV}(h:AV)(n:es[m]?=some e)(l:K (es.set m h))(p:off=m*sz+0:=by omega)(o:0+vs.length<=sz:=by exact x9z _)(k:h.cells=e.cells.take 0++vs++e.cells.drop (0+vs.length):=by exact rfl):StOwn es sz off vs K:=.mk m 0 e h p n o k l
def pA(k w:Nat){es xs:List AV}{n sz bytes:Nat}{K:Prop}(s:n=es.length)(q:K)(l:m=xs.length:=by exact rfl)(p:xs.length=k:=by exact rfl)(t:bytes=w:=by exact rfl)(r:(n+k)*w<=140737488355328:=by omega)(h:n+k<=9223372036854775807:=by omega)(o:∀x∈xs,x.cells.length=sz/\x.cells.all AV.one=true:=by(intro x o;rcases x8l.1 o with rfl;exact⟨rfl,rfl⟩)):AppK es xs n m sz bytes K:=.mk s l (by rw[l,p,t];exact r) (by rw[l,p];exact h) o q
def pS{es:List AV}{n:Nat}{K:Prop}{s:Str}(h:K)(k:n=es.length:=by simp)(o:es.length<=8796093022000:=by(simp;omega)):AppK es [.str s] n 1 1 16 K:=
 .mk k rfl (by omega) (by simp only[maxLen];omega) (fun x l=>by rcases x8l.1 l with rfl;exact⟨rfl,rfl⟩) h
def pI{es:List AV}{n:Nat}{K:Prop}{s:Int}(h:K)(k:n=es.length:=by simp)(o:es.length<=8796093022000:=by(simp;omega)):AppK es [.int .i64 s] n 1 1 8 K:=
 .mk k rfl (by omega) (by simp only[maxLen];omega) (fun x l=>by rcases x8l.1 l with rfl;exact⟨rfl,rfl⟩) h
def x6i{a b:List AV}(h:SubL a b:=by(repeat' (first|exact SubL.nil|refine SubL.cons ?_ ?_|exact Sub.refl _|exact Sub.nils|exact Sub.ff rfl))):SubL a b:=h
def goF{P:Program}{f:FuncId}(n:P.funcs[f]?=some fn)(h:(fn.name == "runtime.NumGoroutine")=false)(l:fn.body=some c)(args:Array Value)(w:World):
  (callFunc f args).run P w=.ok (.enter f args) w:=by
 have k:fn.name ≠ "runtime.NumGoroutine" :=by simpa using h
 simp[callFunc,n,k,l]
def sC(info:Info){f:FuncId}(n:prog.funcs[f]?=some fn){args:List AV}{R:AV->Prop}(h:W prog tab fn.ntmps info c (x6b tab fn.results R) ⟨Ni args 0,[]⟩)(l:fn.body=some c:=by exact rfl)(o:(fn.name == "runtime.NumGoroutine")=false:=by kernel_rfl)(k:args.length<=fn.ntmps:=by exact z4k rfl):SpecP prog f args R:=SpecP.body info XD n l (goF n o l) k h
def sK(info:Info){f:FuncId}(n:prog.funcs[f]?=some fn){args:List LV}{H:Heap}{R:LV->Heap->Prop}(h:W prog tab fn.ntmps info c (x3k tab fn.results R) ⟨Qh args 0,H⟩)(l:fn.body=some c:=by exact rfl)(o:(fn.name == "runtime.NumGoroutine")=false:=by kernel_rfl)(k:args.length<=fn.ntmps:=by exact z4k rfl):SpecH prog f args H R:=SpecH.body info XD n l (goF n o l) k h
def lJ{K:Exit->St->Prop}{s:St}(I:ι->St)(φ:ι->Prop)(μ:ι->Nat)(h:ι)(k:Le N s (I h))(l:φ h)(step:∀i,φ i->W prog tab N info c (fun e s'=>match e with |.normal=>∃j,φ j/\μ j<μ i/\Le N s' (I j) |e=>K e s') (I i)):LoopK prog tab N info c K s:=LoopK.inv XD I φ μ h k l step
def lM{s:St}{l:List (Nat×LV)}{H':Heap}(new:List (Nat×Chunk))(k:∀c∈new,c.2.new0=true/\ZS c.1 s=true:=by(simp[Chunk.new0];first|rfl|exact⟨rfl,rfl⟩|exact⟨rfl,rfl,rfl⟩))(h:(new.map (·.1)).Nodup:=by simp)(hnd:(H'.map (·.1)).Nodup:=by simp)(hsl:WkS new s.sl l:=by(repeat' (first|exact WkS.nil|refine WkS.cons ?_ ?_|exact Wk.refl _|exact Wk.nil x8p)))(hH:WkH new s.H H':=by(repeat' (first|exact WkH.nil|refine WkH.cons rfl (CWk.refl _) ?_|refine WkH.new x8p ?_))):Le N s ⟨l,H'⟩:=Le.mk new k h hnd hsl hH
abbrev aP (f:FuncId) (args:List AV) (c:AV):Prop:=SpecP prog f args fun r=>r=c
abbrev aH (f:FuncId) (args:List LV) (H:Heap) (l:LV) (H1:Heap):Prop:=SpecH prog f args H fun r H'=>r=l/\H'=H1
def JN(c:UInt8):Bool:=decide (97<=(c.toNat:Int))&&decide ((c.toNat:Int)<=122)
def LX(c:UInt8):Bool:=decide (48<=(c.toNat:Int))&&decide ((c.toNat:Int)<=57)
def q2t(c:UInt8):Bool:=JN c||LX c
def Fb(c:UInt8):aP 152 [.int .u8 c.toNat] (.bool (JN c)):=by
 refine sC Nw func152 ?_;conv=>whnf
 repeat' (apply bD<;>intro _<;>first|omega|conv=>whnf)
 .exact RetK.bool (by simp_all[JN];try omega)
 .exact RetK.ff (by simp_all[JN];try omega)
def IY(c:UInt8):aP 202 [.int .u8 c.toNat] (.bool (LX c)):=by
 refine sC RG func202 ?_;conv=>whnf
 repeat' (apply bD<;>intro _<;>first|omega|conv=>whnf)
 .exact RetK.bool (by simp_all[LX];try omega)
 .exact RetK.ff (by simp_all[LX];try omega)
def KG(s:Str)(i:Nat):Nat:=i+((s.drop i).takeWhile q2t).length
def PN{s:Str}(h:i<s.length)(k:q2t s[i]=true):KG s (i+1)=KG s i:=by
 unfold KG;rw[QD h,List.takeWhile_cons,if_pos k];simp only[x9s];omega
def X6{s:Str}(h:∀(k:i<s.length),q2t s[i]=false):KG s i=i:=by
 unfold KG;by_cases k:i<s.length
 .rw [QD k,List.takeWhile_cons,if_neg (by simp[h k])];rfl
 .rw [x9v (by omega)];rfl
def q8s(s:Str)(i:Nat)(k:i<=s.length):aP 153 [.str s,.int .i64 i] (.int .i64 (KG s i)):=by
 refine sC E8 func153 ?_;conv=>whnf
 refine lI (fun j:Nat=>⟨[(0,.p (.str s)),(1,.j j)],[]⟩) (fun j=>j<=s.length/\KG s j=KG s i) (fun j=>s.length-j) i ⟨k,rfl⟩ ?_;rintro j ⟨l,h⟩;conv=>whnf
 repeat' ((first|(refine gX ?_;intros)|refine cP (Fb _) ?_|refine cP (IY _) ?_|((first|apply bD|apply bB)<;>intro _<;>try omega))<;>conv=>whnf)
 .exact nX (j+1) ⟨by omega,by rw[PN (by omega) (by simp_all[q2t])];exact h⟩
 .exact nX (j+1) ⟨by omega,by rw[PN (by omega) (by simp_all[q2t])];exact h⟩
 .exact RetK.int (by rw[<-h,X6 fun _=>by simp_all[q2t]])
 .exact RetK.int (by rw[<-h,X6 fun _=>by omega])
def Vd(s:Str):Bool:=decide (s=[103,108,111,98,97,108])||decide (s=[112,114,111,99])||decide (s=[118,97,114])||decide (s=[114,101,102])||decide (s=[105,102])||decide (s=[101,108,115,101])||decide (s=[119,104,105,108,101])||decide (s=[98,114,101,97,107])||decide (s=[99,111,110,116,105,110,117,101])||decide (s=[114,101,116,117,114,110])||decide (s=[103,111,116,111])||decide (s=[114,101,97,100])||decide (s=[112,114,105,110,116])
def q3u(s:Str):aP 154 [.str s] (.bool (Vd s)):=by
 refine sC Ci func154 ?_;conv=>whnf
 repeat' (apply bB<;>intro _<;>conv=>whnf)
 all_goals first
  |exact RetK.tt (by simp_all[Vd])
  |exact RetK.ff (by simp_all[Vd])
def isName(s:Str):Bool:=if h:1<=s.length/\s.length<=8 then JN (s[0]'(by omega))&&decide (KG s 0=s.length) && !Vd s else false
def X5(s:Str):aP 89 [.str s] (.bool (isName s)):=by
 refine sC Ce func89 ?_;conv=>whnf
 repeat' ((first|(refine iM fun _=>?_)|refine cP (Fb _) ?_|refine cP (q8s _ 0 (x8m _)) ?_|refine cP (q3u _) ?_|refine ByteK.at (k:=0) (by omega) ?_|((first|apply bD|apply bN)<;>intro _<;>try omega))<;>conv=>whnf)
 .exact RetK.ff (by unfold isName;rw[dif_neg (by omega)])
 .exact RetK.ff (by unfold isName;rw[dif_neg (by omega)])
 .exact RetK.bool (by unfold isName;rw[dif_pos (by omega)];simp_all;omega)
 .exact RetK.ff (by unfold isName;rw[dif_pos (by omega)];simp_all;omega)
 .exact RetK.ff (by unfold isName;rw[dif_pos (by omega)];simp_all)
def namesB(l:List Str):Bool:=l.all isName
def Wm(l:List Str):aP 88 [eStrs l] (.bool (namesB l)):=by
 refine sC Nh func88 ?_;conv=>whnf
 refine iM fun _=>?_;conv=>whnf
 refine lI (fun j:Nat=>⟨[(5,.p (eStrs l)),(6,.p (.int .i64 (l.map AV.str).length)),(7,.j j)],[]⟩) (fun j=>j<=l.length/\(l.drop j).all isName=namesB l) (fun j=>l.length-j) 0 ⟨x8m _,rfl⟩ ?_;rintro j ⟨k,h⟩;have n:(l.map AV.str).length=l.length:=x8g _;conv=>whnf
 repeat' ((first|refine cP (X5 _) ?_|(refine gX ?_;intros)|((first|apply bD|apply bN)<;>intro _<;>try omega))<;>conv=>whnf)
 .exact nX (j+1) ⟨by omega,by rw[HA (by omega) (by assumption)];exact h⟩
 .exact RetK.ff (by rw[<-h,V9 (by omega) (by assumption)])
 .exact RetK.tt (by rw[<-h,HC (by omega)])
def Uv(op:Int):Int:=if op=1\/op=2 then 0 else if op=3\/op=4 then 1 else if 5<=op/\op<=17 then 2 else -1
def OA(op:Int):aP 270 [.int .i64 op] (.int .i64 (Uv op)):=by
 refine sC RN func270 ?_;conv=>whnf
 repeat' (apply bD<;>intro _<;>first|omega|conv=>whnf)
 all_goals exact RetK.int (by unfold Uv;(repeat' split)<;>omega)
def UK:Nat->X->Bool
 |0,_=>false
 |n+1,x=>decide ((x.kids.length:Int)=Uv x.op)&&(if x.op=1 then decide (0<=x.n)&&(x.name==[])else if x.op=2 then decide (x.n=0)&&isName x.name else decide (x.n=0)&&(x.name==[])&&x.kids.all (UK n))
def OC:∀(n:Nat)(_:n<=1000)(x:X),aP 250 [.agg x.cells,.int .i64 n] (.bool (UK n x)):=by
 intro n;induction n with
 | zero=>
   intro _ x;refine sC Yw func250 ?_;conv=>whnf
   repeat' ((first|refine dA ?_|(apply bD<;>intro _<;>try omega))<;>conv=>whnf)
   exact RetK.ff rfl
 | succ n l=>
   intro r x;refine sC Yw func250 ?_;conv=>whnf
   repeat' ((first|(refine iM fun _=>?_)|refine cP (OA _) ?_|refine cP (X5 _) ?_|refine dA ?_|((first|apply bD|apply bE|apply bN)<;>intro _<;>try omega))<;>conv=>whnf)
   all_goals try (have q:((X.avs x.kids).length:Int)=x.kids.length:=by rw[X.avs_len])
   .exact RetK.bool (by simp_all[UK])
   .exact RetK.ff (by simp_all[UK];try omega)
   .exact RetK.bool (by simp_all[UK])
   .exact RetK.ff (by simp_all[UK];try omega)
   .have k:UK (n+1) x=x.kids.all (UK n):=by simp_all[UK]
    rw[k];refine lI (fun j:Nat=>⟨[(1,.j (n+1:Nat)),(49,.p (.sl (X.avs x.kids))),(50,.p (.int .i64 (X.avs x.kids).length)),(51,.j j)],[]⟩) (fun j=>j<=x.kids.length/\(x.kids.drop j).all (UK n)=x.kids.all (UK n)) (fun j=>x.kids.length-j) 0 ⟨x8m _,rfl⟩ ?_;rintro j ⟨o,h⟩;conv=>whnf
    repeat' ((first|(refine gX ?_;intros)|refine cP (l (by omega) _) ?_ (ha:=.cons (Sub.refl _) (.cons (Sub.int (by omega)) .nil))|((first|apply bD|apply bN)<;>intro _<;>try omega))<;>conv=>whnf)
    .exact nX (j+1) ⟨by omega,by rw[HA (by omega) (by assumption)];exact h⟩
    .exact RetK.ff (by rw[<-h,V9 (by omega) (by assumption)])
    .exact RetK.tt (by rw[<-h,HC (by omega)])
   .exact RetK.ff (by simp_all[UK];try omega)
   .exact RetK.ff (by simp_all[UK];try omega)
   .exact RetK.ff (by simp_all[UK];try omega)
def IB(x:X):Bool:=UK 20 x
def PQ(x:X):aP 207 [.agg x.cells] (.bool (IB x)):=by
 refine sC H3 func207 ?_;conv=>whnf
 repeat' (refine cP (OC 20 (by omega) _) ?_;conv=>whnf)
 exact RetK.p rfl
def noneB(x:X):Bool:=decide (x.op=0)&&decide (x.n=0)&&(x.name==[])&&((x.kids.length:Int)==0)
def OE(x:X):aP 249 [.agg x.cells] (.bool (noneB x)):=by
 refine sC RM func249 ?_;conv=>whnf
 repeat' ((first|(refine iM fun _=>?_)|((first|apply bD|apply bB)<;>intro _<;>try omega))<;>conv=>whnf)
 all_goals have h:((X.avs x.kids).length:Int)=x.kids.length:=by rw[X.avs_len]
 all_goals first
  |exact RetK.ff (by simp_all[noneB])
  |exact RetK.bool (by simp_all[noneB])
def JG(s:Str)(h:Bool):Bool:=bif h then isName s else s==[]
def Dy(s:Str)(h:Bool):aP 203 [.str s,.bool h] (.bool (JG s h)):=by
 refine sC Ng func203 ?_;conv=>whnf
 repeat' ((first|refine cP (X5 _) ?_|((first|apply bN|apply bB)<;>intro _<;>try omega))<;>conv=>whnf)
 all_goals first
  |exact RetK.tt (by simp_all[JG])
  |exact RetK.ff (by simp_all[JG])
  |exact RetK.bool (by simp_all[JG])
def FA(x:X)(h:Bool):Bool:=bif h then IB x else noneB x
def Dj(x:X)(h:Bool):aP 204 [.agg x.cells,.bool h] (.bool (FA x h)):=by
 refine sC Nf func204 ?_;conv=>whnf
 repeat' ((first|refine cP (PQ _) ?_|refine cP (OE _) ?_|((first|apply bN|apply bB)<;>intro _<;>try omega))<;>conv=>whnf)
 all_goals first
  |exact RetK.tt (by simp_all[FA])
  |exact RetK.ff (by simp_all[FA])
  |exact RetK.bool (by simp_all[FA])
def X2(a:Arg):Bool:=JG a.name a.ref&&FA a.x (!a.ref)
def TK(l:List Arg):aP 205 [q1c l] (.bool (l.all X2)):=by
 refine sC De func205 ?_;conv=>whnf
 refine iM fun _=>?_;conv=>whnf
 refine lI (fun j:Nat=>⟨[(5,.p (q1c l)),(6,.p (.int .i64 (l.map fun a=>AV.agg a.cells).length)),(7,.j j)],[]⟩) (fun j=>j<=l.length/\(l.drop j).all X2=l.all X2) (fun j=>l.length-j) 0 ⟨x8m _,rfl⟩ ?_;rintro j ⟨k,h⟩;have n:(l.map fun a=>AV.agg a.cells).length=l.length:=x8g _;conv=>whnf
 repeat' ((first|refine cP (Dy _ _) ?_|refine cP (Dj _ _) ?_|(refine gX ?_;intros)|((first|apply bD|apply bN)<;>intro _<;>try omega))<;>conv=>whnf)
 .exact nX (j+1) ⟨by omega,by rw[HA (by omega) (by simp_all[X2])];exact h⟩
 .exact RetK.ff (by rw[<-h,V9 (by omega) (by simp_all[X2])])
 .exact RetK.ff (by rw[<-h,V9 (by omega) (by simp_all[X2])])
 .exact RetK.tt (by rw[<-h,HC (by omega)])
structure Flds where
 name:Bool
 C:Bool
 x:Bool
 has:Bool
 M:Bool
 V:Bool
def Qi(k:Int)(has:Bool)(h:Bool):Option Flds:=
 if k=1 then some ⟨true,false,true,has,false,false⟩
 else if k=2 then some ⟨true,false,false,has,false,false⟩
 else if k=10 then some ⟨true,false,false,has,false,false⟩
 else if k=3 then some ⟨false,false,true,has,false,false⟩
 else if k=4 then some ⟨!h,true,false,has,false,false⟩
 else if k=5 then some ⟨false,false,true,has,true,true⟩
 else if k=6 then some ⟨false,false,true,has,true,false⟩
 else if k=9 then some ⟨false,false,has,false,false,false⟩
 else if k=7 then some ⟨false,false,false,has,false,false⟩
 else if k=8 then some ⟨false,false,false,has,false,false⟩
 else none
def VV(s:S):Bool:=
 match Qi s.kind s.has (s.name==[])with
 |none=>false
 |some f=> !(f.has||(!f.M&&decide (0<s.M.length))||(!f.V&&decide (0<s.V.length))||(!decide (s.kind=4)&&decide (0<s.args.length)))&&JG s.name f.name&&JG s.C f.C&&FA s.x f.x&&s.args.all X2
def F9{s:S}{f:Flds}(h:Qi s.kind s.has (s.name==[])=some f):VV s=(!(f.has||(!f.M&&decide (0<s.M.length))||(!f.V&&decide (0<s.V.length))||(!decide (s.kind=4)&&decide (0<s.args.length)))&&JG s.name f.name&&JG s.C f.C&&FA s.x f.x&&s.args.all X2):=by
 unfold VV;rw[h]
def TJ(s:S):aP 155 [.agg s.cells] (.bool (VV s)):=by
 refine sC Dc func155 ?_;conv=>whnf
 repeat' ((first|(refine iM fun _=>?_)|refine cP (Dy _ _) ?_|refine cP (Dj _ _) ?_|refine cP (TK _) ?_|refine dA ?_|((first|apply bD|apply bE|apply bN|apply bB)<;>intro _<;>try omega))<;>conv=>whnf)
 all_goals first
  |exact RetK.ff (by simp_all[VV,Qi,S.avs_len])
  |exact RetK.bool (by simp_all[VV,Qi,S.avs_len])
  |exact RetK.ff (by simp_all[VV,Qi,S.avs_len];omega)
mutual
def D3(nest seen:Int):S->Option Int
 | .mk id kind Z name C x has args M V=>
   if seen+1>200 then none else if id≠seen+1 then none else
   bif namesB Z then bif VV (.mk id kind Z name C x has args M V)then
    match YE (nest+1) (seen+1) M with
    |some m=>YE (nest+1) m V
    |none=>none
   else none else none
def YE(nest seen:Int):List S->Option Int
 |[]=>some seen
 | s::r=>if nest>12 then none else match D3 nest seen s with
   |some m=>YE nest m r
   |none=>none
end
def Oj(nest seen:Int)(s:S):D3 nest seen s=if seen+1>200 then none else if s.id≠seen+1 then none else
  bif namesB s.Z then bif VV s then
   match YE (nest+1) (seen+1) s.M with
   |some m=>YE (nest+1) m s.V
   |none=>none
  else none else none:=by
 cases s;rw[D3];rfl
mutual
theorem q9y(nest seen:Int):∀(s:S){m:Int},D3 nest seen s=some m->seen<m/\m<=200
 | .mk id kind Z name C x has args M V,m,h=>by
   simp only[D3]at h;split at h
   ·cases h
   split at h
   ·cases h
   cases hn:namesB Z<;>rw[hn]at h
   ·cases h
   cases hf:VV (.mk id kind Z name C x has args M V)<;>rw[hf]at h
   ·cases h
   simp only[x9y]at h;split at h
   ·rename_i m1 h1;have h2:=Kn (nest+1) (seen+1) M (by omega) h1;have h3:=Kn (nest+1) m1 V h2.2 h;omega
   ·cases h
theorem Kn(nest seen:Int):∀(l:List S){m:Int},seen<=200->YE nest seen l=some m->seen<=m/\m<=200
 | [],m,h0,h=>by
   simp only[YE]at h;cases h;omega
 | s::r,m,h0,h=>by
   simp only[YE]at h;split at h
   ·cases h
   split at h
   ·rename_i m1 h1;have h2:=q9y nest seen s h1;have h3:=Kn nest m1 r h2.2 h;omega
   ·cases h
end
def Tc(T:Nat)(nest seen:Int)(l:List S)(r:LV)(H:Heap):Prop:=
 match YE nest seen l with
 |some m=>r=.p .tt/\H=[(1000,.obj T [.p (.int .i64 m)])]
 |none=>r=.p .ff/\∃m,H=[(1000,.obj T [.p (.int .i64 m)])]
def D7{m:Int}{l:List S}(h:YE nest seen l=some m):RetHK [(1000,.obj T [.p (.int .i64 m)])] (.p .tt) (Tc T nest seen l):=
 ⟨.p .tt,.refl _,by unfold Tc;rw[h];exact⟨rfl,rfl⟩⟩
def Wu{m:Int}{l:List S}(h:YE nest seen l=none):RetHK [(1000,.obj T [.p (.int .i64 m)])] (.p .ff) (Tc T nest seen l):=
 ⟨.p .ff,.refl _,by unfold Tc;rw[h];exact⟨rfl,_,rfl⟩⟩
def Km{l:List S}{Q:LV->Heap->Prop}(q:seen<=200)(n:∀m,YE nest seen l=some m->seen<=m->m<=200->Q (.p .tt) [(1000,.obj T [.p (.int .i64 m)])])(o:YE nest seen l=none->∀m,Q (.p .ff) [(1000,.obj T [.p (.int .i64 m)])]):∀l' H',Tc T nest seen l l' H'->Q l' H':=by
 intro l' H' h;unfold Tc at h;cases k:YE nest seen l with
 | some m=>
   rw[k]at h;obtain⟨rfl,rfl⟩:=h;have:=Kn nest seen l q k;exact n m k this.1 this.2
 | none=>
   rw[k]at h;obtain⟨rfl,m,rfl⟩:=h;exact o k m
def Lt{l:List S}(h:nest>12)(k:0<l.length):YE nest seen l=none:=by
 cases l with
 |nil=>cases k
 |cons s r=>simp only[YE];rw[if_pos h]
def Oy{l:List S}(h:¬nest>12)(k:j<l.length):YE nest seen (l.drop j)=match D3 nest seen l[j]with
  |some m=>YE nest m (l.drop (j+1))
  |none=>none:=by
 rw[QD k,YE,if_neg h]
def OI:∀(d n:Nat)(_:n+d=14)(l:List S)(seen:Int)(_:0<=seen)(_:seen<=200),
  SpecH prog 90 [.ptr 1000 0,.p (eSs l),.j n] [(1000,.obj 157 [.p (.int .i64 seen)])] (Tc 157 n seen l):=by
 intro d;induction d with
 | zero=>
   intro n v l seen o q;refine sK KC func90 ?_;conv=>whnf
   repeat' ((first|(refine iM fun _=>?_)|(apply bD<;>intro _<;>try omega))<;>conv=>whnf)
   .exact Wu (Lt (by omega) (by rw[S.avs_len]at*;omega))
   .have u:=S.avs_len l;obtain rfl:l=[]:=z0n (by omega);refine lI (fun _:Unit=>⟨[(0,.ptr 1000 0),(2,.j n),(16,.p (eSs [])),(17,.p (.int .i64 (S.avs []).length)),(18,.j 0)],[(1000,.obj 157 [.p (.int .i64 seen)])]⟩) (fun _=>True) (fun _=>0) () trivial ?_;intro _ _;conv=>whnf
    repeat' (apply bD<;>intro _<;>first|omega|conv=>whnf)
    exact D7 rfl
 | succ d w=>
   intro n v l seen o q;refine sK KC func90 ?_;have u:=S.avs_len l;conv=>whnf
   repeat' ((first|(refine iM fun _=>?_)|(apply bD<;>intro _<;>try omega))<;>conv=>whnf)
   .exact Wu (Lt (by omega) (by omega))
   all_goals
    refine lI (fun i:Nat×Int=>⟨[(0,.ptr 1000 0),(2,.j n),(16,.p (eSs l)),(17,.p (.int .i64 (S.avs l).length)),(18,.j i.1)],[(1000,.obj 157 [.p (.int .i64 i.2)])]⟩) (fun i=>i.1<=l.length/\0<=i.2/\i.2<=200/\YE n i.2 (l.drop i.1)=YE n seen l) (fun i=>l.length-i.1) (0,seen) ⟨x8m _,o,q,rfl⟩ ?_;rintro⟨j,m⟩ ⟨r,s,t,k⟩;simp only at r s t k⊢;conv=>whnf
    repeat' ((first|refine cP (Wm _) ?_|refine cP (TJ _) ?_|refine dA ?_|(refine gX ?_;intros)|((first|apply bD|apply bE|apply bN)<;>intro _<;>try omega)|(refine CallK.heap [(1000,1000)] 0 (by repeat' (first|exact z1y|refine x9d ?_ ?_|exact x9j _|exact z3x Sub.nils|exact z3x (Sub.tt rfl)|exact z3x (Sub.ff rfl)|exact z3x (Sub.int (by omega)))) (by refine x9b (j:=1000) rfl rfl ?_ ?_;exact CSub.refl _;exact z0r) (w (n+1) (by omega) _ _ (by omega) (by omega)) rfl rfl (Km (by omega) (fun _ _ _ _=>?_) (fun _ _=>?_))))<;>conv=>whnf)
    all_goals try (have h:=Oy (seen:=m) (l:=l) (j:=j) (nest:=(n:Int)) (by omega) (by omega);rw[Oj,show(n:Int)+1=((n+1:Nat):Int)from rfl]at h)
    all_goals first
     |exact D7 (by rw[<-k,x9v (by omega)];simp only[YE])
     |exact Wu (by rw[<-k,h];clear k h;first|rw[if_pos (by omega:m+1>200)]|(rw[if_neg (by omega:¬m+1>200)];simp[*,-Int.natCast_add]))
     |exact⟨(j+1,_),⟨by simp only;omega,by simp only;omega,by simp only;omega,by rw[<-k,h];clear k h;first|rw[if_pos (by omega:m+1>200)]|(rw[if_neg (by omega:¬m+1>200)];simp[*,-Int.natCast_add])⟩,by simp only;omega,Le.of_eq rfl⟩
def GN(f:Pr):Bool:=decide (f.B.length<=8)&&decide (f.zd.length<=16)&&isName f.name&&namesB f.zd&&namesB f.fin&&f.B.all fun a=>isName a.name
def ZQ(seen:Int):List Pr->Option Int
 |[]=>some seen
 | f::r=>bif GN f then match YE 1 seen f.body with
    |some m=>ZQ m r
    |none=>none
   else none
def KT(p:Pg):Bool:=decide (p.F.length<=16)&&decide (p.A.length<=16)&&namesB p.F&&(ZQ 0 p.A).isSome
def K8{l:List Pr}(h:j<l.length):ZQ seen (l.drop j)=bif GN l[j]then match YE 1 seen l[j].body with
   |some m=>ZQ m (l.drop (j+1))
   |none=>none
  else none:=by
 rw[QD h,ZQ]
def KH{f:Pr}:GN f=true↔f.B.length<=8/\f.zd.length<=16/\isName f.name=true/\namesB f.zd=true/\namesB f.fin=true/\(f.B.all fun a=>isName a.name)=true:=by
 simp only[GN,x9w,z0w,and_assoc]
def K6{l:List Pr}(k:j<l.length)(h:¬(l[j].B.length<=8/\l[j].zd.length<=16/\isName l[j].name=true/\namesB l[j].zd=true/\namesB l[j].fin=true/\(l[j].B.all fun a=>isName a.name)=true)):(ZQ seen (l.drop j)).isSome=false:=by
 rw[K8 k];have:GN l[j]=false:=by rw[z4e];intro n;exact h (KH.1 n)
 rw[this];rfl
def Cg(p:Pg):aP 58 [.agg p.cells] (.bool (KT p)):=by
 refine sC CQ func58 ?_;conv=>whnf
 repeat' ((first|(refine gX ?_;intros)|refine cP (Wm _) ?_|((first|apply bD|apply bN)<;>intro _<;>try omega))<;>conv=>whnf)
 all_goals try have y:(p.F.map AV.str).length=p.F.length:=x8g _
 all_goals try have z:(p.A.map fun f=>AV.agg f.cells).length=p.A.length:=x8g _
 .exact RetK.ff (by unfold KT;simp;omega)
 .exact RetK.ff (by unfold KT;simp;omega)
 .have u:KT p=(ZQ 0 p.A).isSome:=by unfold KT;simp[*];omega
  rw[u];refine lI (fun i:Nat×Int=>⟨[(3,.ptr 0 0),(27,.p (.sl (p.A.map fun f=>AV.agg f.cells))),(28,.p (.int .i64 (p.A.map fun f=>AV.agg f.cells).length)),(29,.j i.1)],[(0,.obj 157 [.p (.int .i64 i.2)])]⟩) (fun i=>i.1<=p.A.length/\0<=i.2/\i.2<=200/\ZQ i.2 (p.A.drop i.1)=ZQ 0 p.A) (fun i=>p.A.length-i.1) (0,0) ⟨x8m _,by decide,by decide,rfl⟩ ?_;rintro⟨j,m⟩ ⟨v,w,x,o⟩;simp only at v w x o⊢;conv=>whnf
  repeat' ((first|(refine gX ?_;intros)|refine cP (Wm _) ?_|refine cP (X5 _) ?_|((first|apply bD|apply bN)<;>intro _<;>try omega))<;>conv=>whnf)
  all_goals try have d:((p.A[j]'(by omega)).B.map fun a=>AV.agg a.cells).length=(p.A[j]'(by omega)).B.length:=x8g _
  all_goals try have g:((p.A[j]'(by omega)).zd.map AV.str).length=(p.A[j]'(by omega)).zd.length:=x8g _
  rotate_left 2
  .have s:j<p.A.length:=by omega
   refine lI (fun i:Nat=>⟨[(3,.ptr 0 0),(5,.p (.ip p.A[j].cells)),(27,.p (.sl (p.A.map fun f=>AV.agg f.cells))),(28,.p (.int .i64 (p.A.map fun f=>AV.agg f.cells).length)),(29,.j j),(62,.p (.sl (p.A[j].B.map fun a=>AV.agg a.cells))),(63,.p (.int .i64 (p.A[j].B.map fun a=>AV.agg a.cells).length)),(64,.j i)],[(0,.obj 157 [.p (.int .i64 m)])]⟩) (fun i=>i<=p.A[j].B.length/\((p.A[j].B.drop i).all fun a=>isName a.name)=p.A[j].B.all fun a=>isName a.name) (fun i=>p.A[j].B.length-i) 0 ⟨x8m _,rfl⟩ ?_;rintro i ⟨D,r⟩;conv=>whnf
   repeat' ((first|refine cP (X5 _) ?_|(refine gX ?_;intros)|((first|apply bD|apply bN)<;>intro _<;>try omega)|(refine CallK.heap [(1000,0)] 0 (by repeat' (first|exact z1y|refine x9d ?_ ?_|exact x9j _|exact z3x Sub.nils|exact z3x (Sub.tt rfl)|exact z3x (Sub.ff rfl)|exact z3x (Sub.int (by omega)))) (by refine x9b (j:=0) rfl rfl ?_ ?_;exact CSub.refl _;exact z0r) (OI 13 1 rfl _ _ (by omega) (by omega)) rfl rfl (Km (by omega) (fun _ _ _ _=>?_) (fun _ _=>?_))))<;>conv=>whnf)
   .exact nX (i+1) ⟨by omega,by rw[<-r,HA (p:=fun a:Param=>isName a.name) (by omega) (by assumption)]⟩
   .exact RetK.ff (by
     rw[<-o];refine K6 s fun h=>?_;have:=V9 (p:=fun a:Param=>isName a.name) (l:=p.A[j].B) (j:=i) (by omega) (by assumption);rw[r,h.2.2.2.2.2]at this;cases this)
   all_goals
    have q:(p.A[j].B.all fun a=>isName a.name)=true:=by rw[<-r,HC (by omega)]
    have C:GN p.A[j]=true:=KH.2 ⟨by omega,by omega,by assumption,by assumption,by assumption,q⟩;have n:=K8 (seen:=m) s;rw[C,x9y]at n
   .rename_i t k _ _;replace k:YE 1 m p.A[j].body=some t:=k;rw[k]at n;exact nX (j+1,t) ⟨by simp only;omega,by simp only;omega,by simp only;omega,by rw[<-o,n]⟩
   .rename_i k _;replace k:YE 1 m p.A[j].body=none:=k;rw[k]at n;exact RetK.ff (by rw[<-o,n];rfl)
  all_goals first
   |exact RetK.tt (by rw[<-o,x9v (by omega)];rfl)
   |exact RetK.ff (by rw[<-o];exact K6 (by omega) fun h=>by omega)
   |exact RetK.ff (by rw[<-o];exact K6 (by omega) fun h=>by simp_all)
 .exact RetK.ff (by unfold KT;simp[*])
def WM(l:List Str)(v:Str):aP 91 [eStrs l,.str v] (.int .i64 (idxF (fun s=>v==s) l)):=by
 refine sC JV func91 ?_;conv=>whnf
 refine iM fun _=>?_;have o:(l.map AV.str).length=l.length:=x8g _;conv=>whnf
 refine lI (fun j:Nat=>⟨[(0,.p (eStrs l)),(1,.p (.str v)),(7,.p (.int .i64 (l.map AV.str).length)),(8,.j j)],[]⟩) (fun j=>j<=l.length/\(l.drop j).any (fun s=>v==s)=l.any (fun s=>v==s)/\l.findIdx (fun s=>v==s)=j+(l.drop j).findIdx (fun s=>v==s)) (fun j=>l.length-j) 0 ⟨x8m _,rfl,by simp⟩ ?_;rintro j ⟨n,h,k⟩;conv=>whnf
 repeat' ((first|(refine gX ?_;intros)|((first|apply bD|apply bB)<;>intro _<;>try omega))<;>conv=>whnf)
 .exact RetK.int (Us (p:=fun s=>v==s) (by omega) (by assumption) h k).symm
 .exact nX (j+1) ⟨by omega,by rw[<-h,Vq (p:=fun s=>v==s) (by omega) (by assumption)],by rw[k,q1i (p:=fun s=>v==s) (by omega) (by assumption)];omega⟩
 .exact RetK.int (by rw[Bl];rw[<-h,DL (by omega)])
def QZ(l:List Str)(v:Str):aP 85 [eStrs l,.str v] (.bool (l.any fun s=>v==s)):=by
 refine sC UO func85 ?_;conv=>whnf
 repeat' (refine cP (WM _ _) ?_;conv=>whnf)
 exact RetK.bool Jm
def UY(l:List Str):Bool:=(List.range l.length).any fun i=>(l.take i).any fun s=>l[i]?.getD []==s
def LK(l:List Str):aP 92 [eStrs l] (.bool (UY l)):=by
 refine sC Dl func92 ?_;conv=>whnf
 refine iM fun _=>?_;have q:(l.map AV.str).length=l.length:=x8g _;conv=>whnf
 refine lI (fun j:Nat=>⟨[(0,.p (eStrs l)),(5,.p (eStrs l)),(6,.p (.int .i64 (l.map AV.str).length)),(7,.j j)],[]⟩) (fun j=>j<=l.length/\((List.range l.length).drop j).any (fun i=>(l.take i).any fun s=>l[i]?.getD []==s)=UY l) (fun j=>l.length-j) 0 ⟨x8m _,rfl⟩ ?_;rintro j ⟨o,h⟩;conv=>whnf
 repeat' ((first|(refine iA fun _=>?_)|refine wI ?_|refine x9g (fun e n=>by obtain⟨x,_,rfl⟩:=x8s.1 n;rfl) (z4b 0 j rfl rfl (by omega) (by omega) ?_)|refine cP (QZ (l.take j) (l[j]'(by omega))) ?_ (ha:=.cons (Sub.of_eq (by simp[eStrs,map_take])) (.cons (Sub.refl _) .nil))|((first|apply bD|apply bB)<;>intro _<;>try omega))<;>conv=>whnf)
 all_goals try have k:(List.range l.length)[j]'(by simp;omega)=j:=by simp
 all_goals try have e:l[j]?.getD []=l[j]'(by omega):=by rw[x8h (by omega)];rfl
 .exact RetK.tt (by rw[<-h,Yp (p:=fun i=>(l.take i).any fun s=>l[i]?.getD []==s) (by simp;omega) (by rw[k,e];assumption)])
 .exact nX (j+1) ⟨by omega,by rw[<-h,Vq (p:=fun i=>(l.take i).any fun s=>l[i]?.getD []==s) (by simp;omega) (by rw[k,e];assumption)]⟩
 .exact RetK.ff (by rw[<-h,DL (by simp;omega)])
def Tm(f:Pr):List Str:=f.B.map Param.name++f.zd
def Of(f:Pr)(k:f.B.length<=1000)(l:f.zd.length<=1000):aP 93 [.agg f.cells] (eStrs (Tm f)):=by
 refine sC RH func93 ?_;conv=>whnf
 refine iM fun _=>?_;have o:(f.B.map fun a=>AV.agg a.cells).length=f.B.length:=x8g _;conv=>whnf
 refine lJ (fun j:Nat=>⟨[(1,.p (.ip f.cells)),(3,.hd 0 0 j),(7,.p (.sl (f.B.map fun a=>AV.agg a.cells))),(8,.p (.int .i64 (f.B.map fun a=>AV.agg a.cells).length)),(9,.j j)],[(0,.own 9 1 ((f.B.take j).map fun a=>AV.str a.name))]⟩) (fun j=>j<=f.B.length) (fun j=>f.B.length-j) 0 (lM [(0,.own 9 1 [])]) (x8m _) ?_;intro j n;conv=>whnf
 repeat' ((first|(refine gX ?_;intros)|refine pA 1 16 (by simp;omega) ?_|refine AppK.mk (by simp;omega) rfl (by rw[x8g];show(j+f.zd.length)*16<=140737488355328;omega) (by rw[x8g];show j+f.zd.length<=9223372036854775807;omega) (fun x h=>by obtain⟨y,_,rfl⟩:=x8s.1 h;exact⟨rfl,rfl⟩) ?_|(apply bD<;>intro _<;>try omega))<;>conv=>whnf)
 .exact ⟨j+1,by omega,by omega,Le.of_eq (by rw[q5h (by omega)];rfl)⟩
 .refine ⟨_,.hd rfl (by simp;omega),?_⟩;rw[x9q (by omega)];simp[eStrs,Tm]
mutual
def WS:S->Nat
 |.mk _ _ _ _ _ _ _ _ M V=>1+QY M+QY V
def QY:List S->Nat
 |[]=>0
 |s::r=>WS s+QY r
end
def VA(s:S):WS s=1+QY s.M+QY s.V:=by
 cases s;rw[WS];rfl
def Qn{l:List S}(h:j<l.length):QY (l.drop j)=WS l[j]+QY (l.drop (j+1)):=by
 rw[QD h,QY]
def S7{l:List S}(h:l.length<=j):QY (l.drop j)=0:=by
 rw[x9v h,QY]
def I7:∀(n:Nat)(_:n<=100000)(s:S)(_:WS s<=n),aP 151 [.agg s.cells] (.int .i64 (WS s)):=by
 intro n;induction n with
 |zero=>intro _ s h;rw[VA]at h;omega
 | succ n w=>
   intro g s h;have A:=VA s;have d:=S.avs_len s.M;have f:=S.avs_len s.V;refine sC RY func151 ?_;conv=>whnf
   repeat' ((refine iM fun _=>?_)<;>conv=>whnf)
   refine lI (fun i:Nat×Nat=>⟨[(1,.p (.ip s.cells)),(3,.j i.2),(9,.p (eSs s.M)),(10,.p (.int .i64 (S.avs s.M).length)),(11,.j i.1)],[]⟩) (fun i=>i.1<=s.M.length/\1<=i.2/\i.2+QY (s.M.drop i.1)=1+QY s.M) (fun i=>s.M.length-i.1) (0,1) ⟨x8m _,x9z _,rfl⟩ ?_;rintro⟨j,a⟩ ⟨x,r,q⟩;simp only at x q r⊢;have o:∀u:j<s.M.length,QY (s.M.drop j)=WS s.M[j]+QY (s.M.drop (j+1)):=fun u=>Qn u;conv=>whnf
   repeat' ((first|(refine gX ?_;intros)|(refine cP (w (by omega) (s.M[j]'(by omega)) (by have:=o (by omega);omega)) ?_ (ha:=.cons (Sub.refl _) .nil);have o:=o (by omega))|(apply bD<;>intro _<;>try omega))<;>conv=>whnf)
   .exact nX (j+1,a+WS s.M[j]) ⟨by simp only;omega,by simp only;omega,by simp only;omega⟩
   .have ha:a=1+QY s.M:=by rw[S7 (by omega)]at q;omega
    refine lI (fun i:Nat×Nat=>⟨[(3,.j i.2),(21,.p (eSs s.V)),(22,.p (.int .i64 (S.avs s.V).length)),(23,.j i.1)],[]⟩) (fun i=>i.1<=s.V.length/\1<=i.2/\i.2+QY (s.V.drop i.1)=WS s) (fun i=>s.V.length-i.1) (0,a) ⟨x8m _,r,by simp only[List.drop_zero];omega⟩ ?_;rintro⟨k,b⟩ ⟨y,z,t⟩;simp only at y z t⊢;have l:∀v:k<s.V.length,QY (s.V.drop k)=WS s.V[k]+QY (s.V.drop (k+1)):=fun v=>Qn v;conv=>whnf
    repeat' ((first|(refine gX ?_;intros)|(refine cP (w (by omega) (s.V[k]'(by omega)) (by have:=l (by omega);omega)) ?_ (ha:=.cons (Sub.refl _) .nil);have l:=l (by omega))|(apply bD<;>intro _<;>try omega))<;>conv=>whnf)
    .exact nX (k+1,b+WS s.V[k]) ⟨by simp only;omega,by simp only;omega,by simp only;omega⟩
    .exact RetK.int (by rw[S7 (by omega)]at t;omega)
structure Item where
 s:S
 C:Int
 up:Int
 next:Int
 loop:Int
def Item.cells(i:Item):List AV:=i.s.cells++[.int .i64 i.C,.int .i64 i.up,.int .i64 i.next,.int .i64 i.loop]
mutual
def Y3(C up nx loop:Int)(acc:List Item):S->List Item
 | .mk id kind Z name pr x has args M V=>
   XB C (acc.length+1) (if kind=6 then acc.length+1 else nx) (if kind=6 then acc.length+1 else loop)
    (XB C (acc.length+1) (if kind=6 then acc.length+1 else nx) (if kind=6 then acc.length+1 else loop) (acc++[⟨.mk id kind Z name pr x has args M V,C,up,nx,loop⟩]) M) V
def XB(C up nx loop:Int)(acc:List Item):List S->List Item
 |[]=>acc
 |t::r=>XB C up nx loop (Y3 C up (if r.isEmpty then nx else acc.length+1+WS t) loop acc t) r
end
def BL(C l nx k:Int)(h:List Item)(t:S):Y3 C l nx k h t=XB C (h.length+1) (if t.kind=6 then h.length+1 else nx) (if t.kind=6 then h.length+1 else k)
   (XB C (h.length+1) (if t.kind=6 then h.length+1 else nx) (if t.kind=6 then h.length+1 else k) (h++[⟨t,C,l,nx,k⟩]) t.M) t.V:=by
 cases t;rw[Y3];rfl
mutual
theorem ZG(C up nx loop:Int)(acc:List Item):∀t:S,(Y3 C up nx loop acc t).length=acc.length+WS t
 | .mk id kind Z name pr x has args M V=>by
   rw[Y3,WS,XY _ _ _ _ _ V,XY _ _ _ _ _ M];simp;omega
theorem XY(C up nx loop:Int)(acc:List Item):∀l:List S,(XB C up nx loop acc l).length=acc.length+QY l
 |[]=>by rw[XB,QY];rfl
 | t::r=>by
   rw[XB,QY,XY _ _ _ _ _ r,ZG _ _ _ _ _ t];omega
end
def UV{C o nx k:Int}{n:List Item}{l:List S}(q:j<l.length):
  XB C o nx k n (l.drop j)=XB C o nx k (Y3 C o (if j+1<l.length then n.length+1+WS l[j]else nx) k n l[j]) (l.drop (j+1)):=by
 rw[QD q,XB];congr 2;by_cases h:j+1<l.length
 .rw [if_pos h,if_neg];simp only[List.isEmpty_iff];intro p;have:=z0o List.length p;simp at this;omega
 .rw [if_neg h,if_pos];rw[x9v (by omega)];rfl
def Om(o tI l:Nat)(n pr:AV)(L:List Item)(k h:List Int):Heap:=
 [(1000,.obj o [.p n,.p pr,.hd 2000 0 L.length,.hd 2001 0 k.length,.hd 2002 0 h.length]),(2000,.own tI 17 (L.map fun i=>.agg i.cells)),(2001,.own l 1 (k.map (.int .i64))),(2002,.own l 1 (h.map (.int .i64)))]
def X0:X:=.mk 0 0 [] []
def S0:S:=.mk 0 0 [] [] [] X0 false [] [] []
theorem LSub.agg{cs l:List AV}(h:SubL cs l):LSub (.p (.agg cs)) (.p (.agg l)):=.p (Sub.agg h)
def Sk:∀(n:Nat)(_:n<=1000)(l:List S)(_:QY l<n)(u:List Item)(_:u.length+QY l<=1000)(a:Item)(r pr:AV)(t s:List Int),
  aH 87 [.ptr 1000 0,.p (eSs l),.p (.agg a.cells)] (Om 130 154 3 r pr u t s) (.p (.tup [])) (Om 130 154 3 r pr (XB a.C a.up a.next a.loop u l) t s):=by
 intro n;induction n with
 |zero=>intro _ l h;omega
 | succ n v=>
   intro E l D u z a r pr t s;have A:=S.avs_len l;refine sK Vo func87 ?_;conv=>whnf
   repeat' ((refine iM fun _=>?_)<;>conv=>whnf)
   refine lI (fun i:Nat×List Item=>⟨[(0,.ptr 1000 0),(1,.p (eSs l)),(5,.p (.ip a.cells)),(11,.p (eSs l)),(12,.p (.int .i64 (S.avs l).length)),(13,.j i.1)],Om 130 154 3 r pr i.2 t s⟩) (fun i=>i.1<=l.length/\u.length<=i.2.length/\i.2.length+QY (l.drop i.1)=u.length+QY l/\XB a.C a.up a.next a.loop i.2 (l.drop i.1)=XB a.C a.up a.next a.loop u l) (fun i=>l.length-i.1) (0,u) ⟨x8m _,x9z _,rfl,rfl⟩ ?_;rintro⟨j,b⟩ ⟨d,g,f,y⟩;simp only at d f y g⊢;have q:∀k:j<l.length,QY (l.drop j)=WS l[j]+QY (l.drop (j+1)):=fun k=>Qn k;conv=>whnf
   repeat' ((first|(refine gX ?_;intros)|refine dA ?_|refine cP (I7 1000 (by omega) (l[j]'(by omega)) (by have:=q (by omega);omega)) ?_ (ha:=.cons (Sub.refl _) .nil)|refine Wr.i64 (by have:=q (by omega);omega) (by have:=q (by omega);omega) ?_|refine AppK.mk (by simp) rfl (by show(b.length+1)*240<=140737488355328;have:=q (by omega);omega) (by show b.length+1<=9223372036854775807;have:=q (by omega);omega) (fun x B=>by rcases x8l.1 B with rfl;exact⟨rfl,rfl⟩) ?_|(apply bD<;>intro _<;>try omega)|refine x9g ?_ ?_)<;>conv=>whnf)
   .have k:j<l.length:=by omega
    have q:=q k;have w:=VA l[j];refine cJ rH0 0 (v (by omega) l[j].M (by omega) (b++[⟨l[j]'k,a.C,a.up,(b.length+1+WS (l[j]'k):Int),a.loop⟩]) (by rw[x8d];simp only[x9h];omega) ⟨S0,a.C,b.length+1,(b.length+1:Int),(b.length+1:Int)⟩ r pr t s) ?_ (ha:=(by refine x9d (x9j _) (x9d (x9j _) (x9d (LSub.agg ?_) z1y));repeat' (first|exact SubL.nil|refine SubL.cons ?_ ?_|exact Sub.refl _|exact Sub.nils|exact Sub.ff rfl))) (hH:=by exact x9b (j:=1000) rfl rfl (CSub.of_eq (by rw[x8d];first|done|rfl)) (x9b (j:=2000) rfl rfl (CSub.of_eq (by rw[x8i];first|done|rfl)) (x9b (j:=2001) rfl rfl (CSub.refl _) (x9b (j:=2002) rfl rfl (CSub.refl _) z0r))));rintro l' H' ⟨rfl,rfl⟩;conv=>whnf
    refine cJ rH0 0 (v (by omega) l[j].V (by omega) (XB a.C (b.length+1) (b.length+1:Int) (b.length+1:Int) (b++[⟨l[j]'k,a.C,a.up,(b.length+1+WS (l[j]'k):Int),a.loop⟩]) (l[j]'k).M) (by rw[XY,x8d];simp only[x9h];omega) ⟨S0,a.C,b.length+1,(b.length+1:Int),(b.length+1:Int)⟩ r pr t s) ?_ (ha:=(by refine x9d (x9j _) (x9d (x9j _) (x9d (LSub.agg ?_) z1y));repeat' (first|exact SubL.nil|refine SubL.cons ?_ ?_|exact Sub.refl _|exact Sub.nils|exact Sub.ff rfl))) (hH:=by exact x9b (j:=1000) rfl rfl (CSub.refl _) (x9b (j:=2000) rfl rfl (CSub.refl _) (x9b (j:=2001) rfl rfl (CSub.refl _) (x9b (j:=2002) rfl rfl (CSub.refl _) z0r))));rintro l' H' ⟨rfl,rfl⟩;conv=>whnf
    refine wI ?_;conv=>whnf
    have o:Y3 a.C a.up (b.length+1+WS (l[j]'k):Int) a.loop b l[j]=XB a.C (b.length+1) (b.length+1:Int) (b.length+1:Int) (XB a.C (b.length+1) (b.length+1:Int) (b.length+1:Int) (b++[⟨l[j]'k,a.C,a.up,(b.length+1+WS (l[j]'k):Int),a.loop⟩]) (l[j]'k).M) l[j].V:=by
     rw[BL,if_pos (by assumption),if_pos (by assumption)]
    exact⟨(j+1,Y3 a.C a.up (b.length+1+WS (l[j]'k):Int) a.loop b l[j]),⟨by simp only;omega,by simp only;rw[ZG];omega,by simp only;rw[ZG];omega,by simp only;rw[<-y,UV k,if_pos (by omega)]⟩,by simp only;omega,Le.of_eq (by simp only;rw[o];rfl)⟩
   .have k:j<l.length:=by omega
    have q:=q k;have w:=VA l[j];refine cJ rH0 0 (v (by omega) l[j].M (by omega) (b++[⟨l[j]'k,a.C,a.up,(b.length+1+WS (l[j]'k):Int),a.loop⟩]) (by rw[x8d];simp only[x9h];omega) ⟨S0,a.C,b.length+1,(b.length+1+WS (l[j]'k):Int),a.loop⟩ r pr t s) ?_ (ha:=(by refine x9d (x9j _) (x9d (x9j _) (x9d (LSub.agg ?_) z1y));repeat' (first|exact SubL.nil|refine SubL.cons ?_ ?_|exact Sub.refl _|exact Sub.nils|exact Sub.ff rfl))) (hH:=by exact x9b (j:=1000) rfl rfl (CSub.of_eq (by rw[x8d];first|done|rfl)) (x9b (j:=2000) rfl rfl (CSub.of_eq (by rw[x8i];first|done|rfl)) (x9b (j:=2001) rfl rfl (CSub.refl _) (x9b (j:=2002) rfl rfl (CSub.refl _) z0r))));rintro l' H' ⟨rfl,rfl⟩;conv=>whnf
    refine cJ rH0 0 (v (by omega) l[j].V (by omega) (XB a.C (b.length+1) (b.length+1+WS (l[j]'k):Int) a.loop (b++[⟨l[j]'k,a.C,a.up,(b.length+1+WS (l[j]'k):Int),a.loop⟩]) (l[j]'k).M) (by rw[XY,x8d];simp only[x9h];omega) ⟨S0,a.C,b.length+1,(b.length+1+WS (l[j]'k):Int),a.loop⟩ r pr t s) ?_ (ha:=(by refine x9d (x9j _) (x9d (x9j _) (x9d (LSub.agg ?_) z1y));repeat' (first|exact SubL.nil|refine SubL.cons ?_ ?_|exact Sub.refl _|exact Sub.nils|exact Sub.ff rfl))) (hH:=by exact x9b (j:=1000) rfl rfl (CSub.refl _) (x9b (j:=2000) rfl rfl (CSub.refl _) (x9b (j:=2001) rfl rfl (CSub.refl _) (x9b (j:=2002) rfl rfl (CSub.refl _) z0r))));rintro l' H' ⟨rfl,rfl⟩;conv=>whnf
    refine wI ?_;conv=>whnf
    have o:Y3 a.C a.up (b.length+1+WS (l[j]'k):Int) a.loop b l[j]=XB a.C (b.length+1) (b.length+1+WS (l[j]'k):Int) a.loop (XB a.C (b.length+1) (b.length+1+WS (l[j]'k):Int) a.loop (b++[⟨l[j]'k,a.C,a.up,(b.length+1+WS (l[j]'k):Int),a.loop⟩]) (l[j]'k).M) l[j].V:=by
     rw[BL,if_neg (by assumption),if_neg (by assumption)]
    exact⟨(j+1,Y3 a.C a.up (b.length+1+WS (l[j]'k):Int) a.loop b l[j]),⟨by simp only;omega,by simp only;rw[ZG];omega,by simp only;rw[ZG];omega,by simp only;rw[<-y,UV k,if_pos (by omega)]⟩,by simp only;omega,Le.of_eq (by simp only;rw[o];rfl)⟩
   .have k:j<l.length:=by omega
    have q:=q k;have w:=VA l[j];refine cJ rH0 0 (v (by omega) l[j].M (by omega) (b++[⟨l[j]'k,a.C,a.up,(b.length+1+WS (l[j]'k):Int),a.loop⟩]) (by rw[x8d];simp only[x9h];omega) ⟨S0,a.C,b.length+1,(b.length+1:Int),(b.length+1:Int)⟩ r pr t s) ?_ (ha:=(by refine x9d (x9j _) (x9d (x9j _) (x9d (LSub.agg ?_) z1y));repeat' (first|exact SubL.nil|refine SubL.cons ?_ ?_|exact Sub.refl _|exact Sub.nils|exact Sub.ff rfl))) (hH:=by exact x9b (j:=1000) rfl rfl (CSub.of_eq (by rw[x8d];first|done|rfl)) (x9b (j:=2000) rfl rfl (CSub.of_eq (by rw[x8i];first|done|rfl)) (x9b (j:=2001) rfl rfl (CSub.refl _) (x9b (j:=2002) rfl rfl (CSub.refl _) z0r))));rintro l' H' ⟨rfl,rfl⟩;conv=>whnf
    refine cJ rH0 0 (v (by omega) l[j].V (by omega) (XB a.C (b.length+1) (b.length+1:Int) (b.length+1:Int) (b++[⟨l[j]'k,a.C,a.up,(b.length+1+WS (l[j]'k):Int),a.loop⟩]) (l[j]'k).M) (by rw[XY,x8d];simp only[x9h];omega) ⟨S0,a.C,b.length+1,(b.length+1:Int),(b.length+1:Int)⟩ r pr t s) ?_ (ha:=(by refine x9d (x9j _) (x9d (x9j _) (x9d (LSub.agg ?_) z1y));repeat' (first|exact SubL.nil|refine SubL.cons ?_ ?_|exact Sub.refl _|exact Sub.nils|exact Sub.ff rfl))) (hH:=by exact x9b (j:=1000) rfl rfl (CSub.refl _) (x9b (j:=2000) rfl rfl (CSub.refl _) (x9b (j:=2001) rfl rfl (CSub.refl _) (x9b (j:=2002) rfl rfl (CSub.refl _) z0r))));rintro l' H' ⟨rfl,rfl⟩;conv=>whnf
    refine wI ?_;conv=>whnf
    have o:Y3 a.C a.up (b.length+1+WS (l[j]'k):Int) a.loop b l[j]=XB a.C (b.length+1) (b.length+1:Int) (b.length+1:Int) (XB a.C (b.length+1) (b.length+1:Int) (b.length+1:Int) (b++[⟨l[j]'k,a.C,a.up,(b.length+1+WS (l[j]'k):Int),a.loop⟩]) (l[j]'k).M) l[j].V:=by
     rw[BL,if_pos (by assumption),if_pos (by assumption)]
    exact⟨(j+1,Y3 a.C a.up (b.length+1+WS (l[j]'k):Int) a.loop b l[j]),⟨by simp only;omega,by simp only;rw[ZG];omega,by simp only;rw[ZG];omega,by simp only;rw[<-y,UV k,if_pos (by omega)]⟩,by simp only;omega,Le.of_eq (by simp only;rw[o];rfl)⟩
   .have k:j<l.length:=by omega
    have q:=q k;have w:=VA l[j];refine cJ rH0 0 (v (by omega) l[j].M (by omega) (b++[⟨l[j]'k,a.C,a.up,(b.length+1+WS (l[j]'k):Int),a.loop⟩]) (by rw[x8d];simp only[x9h];omega) ⟨S0,a.C,b.length+1,(b.length+1+WS (l[j]'k):Int),a.loop⟩ r pr t s) ?_ (ha:=(by refine x9d (x9j _) (x9d (x9j _) (x9d (LSub.agg ?_) z1y));repeat' (first|exact SubL.nil|refine SubL.cons ?_ ?_|exact Sub.refl _|exact Sub.nils|exact Sub.ff rfl))) (hH:=by exact x9b (j:=1000) rfl rfl (CSub.of_eq (by rw[x8d];first|done|rfl)) (x9b (j:=2000) rfl rfl (CSub.of_eq (by rw[x8i];first|done|rfl)) (x9b (j:=2001) rfl rfl (CSub.refl _) (x9b (j:=2002) rfl rfl (CSub.refl _) z0r))));rintro l' H' ⟨rfl,rfl⟩;conv=>whnf
    refine cJ rH0 0 (v (by omega) l[j].V (by omega) (XB a.C (b.length+1) (b.length+1+WS (l[j]'k):Int) a.loop (b++[⟨l[j]'k,a.C,a.up,(b.length+1+WS (l[j]'k):Int),a.loop⟩]) (l[j]'k).M) (by rw[XY,x8d];simp only[x9h];omega) ⟨S0,a.C,b.length+1,(b.length+1+WS (l[j]'k):Int),a.loop⟩ r pr t s) ?_ (ha:=(by refine x9d (x9j _) (x9d (x9j _) (x9d (LSub.agg ?_) z1y));repeat' (first|exact SubL.nil|refine SubL.cons ?_ ?_|exact Sub.refl _|exact Sub.nils|exact Sub.ff rfl))) (hH:=by exact x9b (j:=1000) rfl rfl (CSub.refl _) (x9b (j:=2000) rfl rfl (CSub.refl _) (x9b (j:=2001) rfl rfl (CSub.refl _) (x9b (j:=2002) rfl rfl (CSub.refl _) z0r))));rintro l' H' ⟨rfl,rfl⟩;conv=>whnf
    refine wI ?_;conv=>whnf
    have o:Y3 a.C a.up (b.length+1+WS (l[j]'k):Int) a.loop b l[j]=XB a.C (b.length+1) (b.length+1+WS (l[j]'k):Int) a.loop (XB a.C (b.length+1) (b.length+1+WS (l[j]'k):Int) a.loop (b++[⟨l[j]'k,a.C,a.up,(b.length+1+WS (l[j]'k):Int),a.loop⟩]) (l[j]'k).M) l[j].V:=by
     rw[BL,if_neg (by assumption),if_neg (by assumption)]
    exact⟨(j+1,Y3 a.C a.up (b.length+1+WS (l[j]'k):Int) a.loop b l[j]),⟨by simp only;omega,by simp only;rw[ZG];omega,by simp only;rw[ZG];omega,by simp only;rw[<-y,UV k,if_pos (by omega)]⟩,by simp only;omega,Le.of_eq (by simp only;rw[o];rfl)⟩
   .have k:j<l.length:=by omega
    have q:=q k;have w:=VA l[j];refine cJ rH0 0 (v (by omega) l[j].M (by omega) (b++[⟨l[j]'k,a.C,a.up,a.next,a.loop⟩]) (by rw[x8d];simp only[x9h];omega) ⟨S0,a.C,b.length+1,(b.length+1:Int),(b.length+1:Int)⟩ r pr t s) ?_ (ha:=(by refine x9d (x9j _) (x9d (x9j _) (x9d (LSub.agg ?_) z1y));repeat' (first|exact SubL.nil|refine SubL.cons ?_ ?_|exact Sub.refl _|exact Sub.nils|exact Sub.ff rfl))) (hH:=by exact x9b (j:=1000) rfl rfl (CSub.of_eq (by rw[x8d];first|done|rfl)) (x9b (j:=2000) rfl rfl (CSub.of_eq (by rw[x8i];first|done|rfl)) (x9b (j:=2001) rfl rfl (CSub.refl _) (x9b (j:=2002) rfl rfl (CSub.refl _) z0r))));rintro l' H' ⟨rfl,rfl⟩;conv=>whnf
    refine cJ rH0 0 (v (by omega) l[j].V (by omega) (XB a.C (b.length+1) (b.length+1:Int) (b.length+1:Int) (b++[⟨l[j]'k,a.C,a.up,a.next,a.loop⟩]) (l[j]'k).M) (by rw[XY,x8d];simp only[x9h];omega) ⟨S0,a.C,b.length+1,(b.length+1:Int),(b.length+1:Int)⟩ r pr t s) ?_ (ha:=(by refine x9d (x9j _) (x9d (x9j _) (x9d (LSub.agg ?_) z1y));repeat' (first|exact SubL.nil|refine SubL.cons ?_ ?_|exact Sub.refl _|exact Sub.nils|exact Sub.ff rfl))) (hH:=by exact x9b (j:=1000) rfl rfl (CSub.refl _) (x9b (j:=2000) rfl rfl (CSub.refl _) (x9b (j:=2001) rfl rfl (CSub.refl _) (x9b (j:=2002) rfl rfl (CSub.refl _) z0r))));rintro l' H' ⟨rfl,rfl⟩;conv=>whnf
    refine wI ?_;conv=>whnf
    have o:Y3 a.C a.up a.next a.loop b l[j]=XB a.C (b.length+1) (b.length+1:Int) (b.length+1:Int) (XB a.C (b.length+1) (b.length+1:Int) (b.length+1:Int) (b++[⟨l[j]'k,a.C,a.up,a.next,a.loop⟩]) (l[j]'k).M) l[j].V:=by
     rw[BL,if_pos (by assumption),if_pos (by assumption)]
    exact⟨(j+1,Y3 a.C a.up a.next a.loop b l[j]),⟨by simp only;omega,by simp only;rw[ZG];omega,by simp only;rw[ZG];omega,by simp only;rw[<-y,UV k,if_neg (by omega)]⟩,by simp only;omega,Le.of_eq (by simp only;rw[o];rfl)⟩
   .have k:j<l.length:=by omega
    have q:=q k;have w:=VA l[j];refine cJ rH0 0 (v (by omega) l[j].M (by omega) (b++[⟨l[j]'k,a.C,a.up,a.next,a.loop⟩]) (by rw[x8d];simp only[x9h];omega) ⟨S0,a.C,b.length+1,a.next,a.loop⟩ r pr t s) ?_ (ha:=(by refine x9d (x9j _) (x9d (x9j _) (x9d (LSub.agg ?_) z1y));repeat' (first|exact SubL.nil|refine SubL.cons ?_ ?_|exact Sub.refl _|exact Sub.nils|exact Sub.ff rfl))) (hH:=by exact x9b (j:=1000) rfl rfl (CSub.of_eq (by rw[x8d];first|done|rfl)) (x9b (j:=2000) rfl rfl (CSub.of_eq (by rw[x8i];first|done|rfl)) (x9b (j:=2001) rfl rfl (CSub.refl _) (x9b (j:=2002) rfl rfl (CSub.refl _) z0r))));rintro l' H' ⟨rfl,rfl⟩;conv=>whnf
    refine cJ rH0 0 (v (by omega) l[j].V (by omega) (XB a.C (b.length+1) a.next a.loop (b++[⟨l[j]'k,a.C,a.up,a.next,a.loop⟩]) (l[j]'k).M) (by rw[XY,x8d];simp only[x9h];omega) ⟨S0,a.C,b.length+1,a.next,a.loop⟩ r pr t s) ?_ (ha:=(by refine x9d (x9j _) (x9d (x9j _) (x9d (LSub.agg ?_) z1y));repeat' (first|exact SubL.nil|refine SubL.cons ?_ ?_|exact Sub.refl _|exact Sub.nils|exact Sub.ff rfl))) (hH:=by exact x9b (j:=1000) rfl rfl (CSub.refl _) (x9b (j:=2000) rfl rfl (CSub.refl _) (x9b (j:=2001) rfl rfl (CSub.refl _) (x9b (j:=2002) rfl rfl (CSub.refl _) z0r))));rintro l' H' ⟨rfl,rfl⟩;conv=>whnf
    refine wI ?_;conv=>whnf
    have o:Y3 a.C a.up a.next a.loop b l[j]=XB a.C (b.length+1) a.next a.loop (XB a.C (b.length+1) a.next a.loop (b++[⟨l[j]'k,a.C,a.up,a.next,a.loop⟩]) (l[j]'k).M) l[j].V:=by
     rw[BL,if_neg (by assumption),if_neg (by assumption)]
    exact⟨(j+1,Y3 a.C a.up a.next a.loop b l[j]),⟨by simp only;omega,by simp only;rw[ZG];omega,by simp only;rw[ZG];omega,by simp only;rw[<-y,UV k,if_neg (by omega)]⟩,by simp only;omega,Le.of_eq (by simp only;rw[o];rfl)⟩
   .have k:j<l.length:=by omega
    have q:=q k;have w:=VA l[j];refine cJ rH0 0 (v (by omega) l[j].M (by omega) (b++[⟨l[j]'k,a.C,a.up,a.next,a.loop⟩]) (by rw[x8d];simp only[x9h];omega) ⟨S0,a.C,b.length+1,(b.length+1:Int),(b.length+1:Int)⟩ r pr t s) ?_ (ha:=(by refine x9d (x9j _) (x9d (x9j _) (x9d (LSub.agg ?_) z1y));repeat' (first|exact SubL.nil|refine SubL.cons ?_ ?_|exact Sub.refl _|exact Sub.nils|exact Sub.ff rfl))) (hH:=by exact x9b (j:=1000) rfl rfl (CSub.of_eq (by rw[x8d];first|done|rfl)) (x9b (j:=2000) rfl rfl (CSub.of_eq (by rw[x8i];first|done|rfl)) (x9b (j:=2001) rfl rfl (CSub.refl _) (x9b (j:=2002) rfl rfl (CSub.refl _) z0r))));rintro l' H' ⟨rfl,rfl⟩;conv=>whnf
    refine cJ rH0 0 (v (by omega) l[j].V (by omega) (XB a.C (b.length+1) (b.length+1:Int) (b.length+1:Int) (b++[⟨l[j]'k,a.C,a.up,a.next,a.loop⟩]) (l[j]'k).M) (by rw[XY,x8d];simp only[x9h];omega) ⟨S0,a.C,b.length+1,(b.length+1:Int),(b.length+1:Int)⟩ r pr t s) ?_ (ha:=(by refine x9d (x9j _) (x9d (x9j _) (x9d (LSub.agg ?_) z1y));repeat' (first|exact SubL.nil|refine SubL.cons ?_ ?_|exact Sub.refl _|exact Sub.nils|exact Sub.ff rfl))) (hH:=by exact x9b (j:=1000) rfl rfl (CSub.refl _) (x9b (j:=2000) rfl rfl (CSub.refl _) (x9b (j:=2001) rfl rfl (CSub.refl _) (x9b (j:=2002) rfl rfl (CSub.refl _) z0r))));rintro l' H' ⟨rfl,rfl⟩;conv=>whnf
    refine wI ?_;conv=>whnf
    have o:Y3 a.C a.up a.next a.loop b l[j]=XB a.C (b.length+1) (b.length+1:Int) (b.length+1:Int) (XB a.C (b.length+1) (b.length+1:Int) (b.length+1:Int) (b++[⟨l[j]'k,a.C,a.up,a.next,a.loop⟩]) (l[j]'k).M) l[j].V:=by
     rw[BL,if_pos (by assumption),if_pos (by assumption)]
    exact⟨(j+1,Y3 a.C a.up a.next a.loop b l[j]),⟨by simp only;omega,by simp only;rw[ZG];omega,by simp only;rw[ZG];omega,by simp only;rw[<-y,UV k,if_neg (by omega)]⟩,by simp only;omega,Le.of_eq (by simp only;rw[o];rfl)⟩
   .have k:j<l.length:=by omega
    have q:=q k;have w:=VA l[j];refine cJ rH0 0 (v (by omega) l[j].M (by omega) (b++[⟨l[j]'k,a.C,a.up,a.next,a.loop⟩]) (by rw[x8d];simp only[x9h];omega) ⟨S0,a.C,b.length+1,a.next,a.loop⟩ r pr t s) ?_ (ha:=(by refine x9d (x9j _) (x9d (x9j _) (x9d (LSub.agg ?_) z1y));repeat' (first|exact SubL.nil|refine SubL.cons ?_ ?_|exact Sub.refl _|exact Sub.nils|exact Sub.ff rfl))) (hH:=by exact x9b (j:=1000) rfl rfl (CSub.of_eq (by rw[x8d];first|done|rfl)) (x9b (j:=2000) rfl rfl (CSub.of_eq (by rw[x8i];first|done|rfl)) (x9b (j:=2001) rfl rfl (CSub.refl _) (x9b (j:=2002) rfl rfl (CSub.refl _) z0r))));rintro l' H' ⟨rfl,rfl⟩;conv=>whnf
    refine cJ rH0 0 (v (by omega) l[j].V (by omega) (XB a.C (b.length+1) a.next a.loop (b++[⟨l[j]'k,a.C,a.up,a.next,a.loop⟩]) (l[j]'k).M) (by rw[XY,x8d];simp only[x9h];omega) ⟨S0,a.C,b.length+1,a.next,a.loop⟩ r pr t s) ?_ (ha:=(by refine x9d (x9j _) (x9d (x9j _) (x9d (LSub.agg ?_) z1y));repeat' (first|exact SubL.nil|refine SubL.cons ?_ ?_|exact Sub.refl _|exact Sub.nils|exact Sub.ff rfl))) (hH:=by exact x9b (j:=1000) rfl rfl (CSub.refl _) (x9b (j:=2000) rfl rfl (CSub.refl _) (x9b (j:=2001) rfl rfl (CSub.refl _) (x9b (j:=2002) rfl rfl (CSub.refl _) z0r))));rintro l' H' ⟨rfl,rfl⟩;conv=>whnf
    refine wI ?_;conv=>whnf
    have o:Y3 a.C a.up a.next a.loop b l[j]=XB a.C (b.length+1) a.next a.loop (XB a.C (b.length+1) a.next a.loop (b++[⟨l[j]'k,a.C,a.up,a.next,a.loop⟩]) (l[j]'k).M) l[j].V:=by
     rw[BL,if_neg (by assumption),if_neg (by assumption)]
    exact⟨(j+1,Y3 a.C a.up a.next a.loop b l[j]),⟨by simp only;omega,by simp only;rw[ZG];omega,by simp only;rw[ZG];omega,by simp only;rw[<-y,UV k,if_neg (by omega)]⟩,by simp only;omega,Le.of_eq (by simp only;rw[o];rfl)⟩
   .refine ⟨_,.refl _,rfl,?_⟩;rw[x9v (by omega),XB]at y;rw[<-y];rfl
structure Sheet where
 p:Pg
 l:List Item
 lo:List Int
 hi:List Int
def Sheet.cells(s:Sheet):List AV:=s.p.cells++[.sl (s.l.map fun i=>.agg i.cells),QE s.lo,QE s.hi]
def cntP:List Pr->Nat
 |[]=>0
 |f::r=>QY f.body+cntP r
def J2{l:List Pr}(h:j<l.length):cntP (l.drop j)=QY l[j].body+cntP (l.drop (j+1)):=by
 rw[QD h,cntP]
def Gc(i:Nat)(h:List Item)(l k:List Int):List Pr->List Item×List Int×List Int
 |[]=>(h,l,k)
 |f::r=>Gc (i+1) (XB i 0 (-1) 0 h f.body) (l++[(h.length:Int)+1]) (k++[((XB i 0 (-1) 0 h f.body).length:Int)+1]) r
def sheetOf(p:Pg):Sheet:=⟨p,(Gc 0 [] [] [] p.A).1,(Gc 0 [] [] [] p.A).2.1,(Gc 0 [] [] [] p.A).2.2⟩
def L8{h:List Item}{n k:List Int}{l:List Pr}(o:j<l.length):
  Gc i h n k (l.drop j)=Gc (i+1) (XB i 0 (-1) 0 h l[j].body) (n++[(h.length:Int)+1]) (k++[((XB i 0 (-1) 0 h l[j].body).length:Int)+1]) (l.drop (j+1)):=by
 rw[QD o,Gc]
def x1r(n tI l:Nat)(p:Pg)(L:List Item)(k h:List Int):Heap:=
 [(0,.obj n [.p (eStrs p.F),.p (.sl (p.A.map fun f=>.agg f.cells)),.hd 1 0 L.length,.hd 2 0 k.length,.hd 3 0 h.length]),(1,.own tI 17 (L.map fun i=>.agg i.cells)),(2,.own l 1 (k.map (.int .i64))),(3,.own l 1 (h.map (.int .i64)))]
def JP(p:Pg)(G:p.A.length<=1000)(v:cntP p.A<=999):aP 53 [.agg p.cells] (.ip (sheetOf p).cells):=by
 refine sC Cc func53 ?_;conv=>whnf
 repeat' ((refine gX ?_;intros)<;>conv=>whnf)
 have E:(p.A.map fun f=>AV.agg f.cells).length=p.A.length:=x8g _;refine lJ (fun i:Nat×List Item×List Int×List Int=>⟨[(3,.ptr 0 0),(10,.p (.sl (p.A.map fun f=>AV.agg f.cells))),(11,.p (.int .i64 (p.A.map fun f=>AV.agg f.cells).length)),(12,.j i.1)],x1r 130 154 3 p i.2.1 i.2.2.1 i.2.2.2⟩) (fun i=>i.1<=p.A.length/\i.2.1.length+cntP (p.A.drop i.1)=cntP p.A/\i.2.2.1.length=i.1/\i.2.2.2.length=i.1/\Gc i.1 i.2.1 i.2.2.1 i.2.2.2 (p.A.drop i.1)=Gc 0 [] [] [] p.A) (fun i=>p.A.length-i.1) (0,[],[],[]) (lM [(1,.own 154 17 []),(2,.own 3 1 []),(3,.own 3 1 [])] (hnd:=by simp[x1r]) (hH:=.cons rfl (.obj (.r (.r (.cons (.nil x8p) (.cons (.nil (x8b _ x8p)) (.cons (.nil (x8b _ (x8b _ x8p))) .nil)))))) (.new x8p (.new (x8b _ x8p) (.new (x8b _ (x8b _ x8p)) .nil))))) ⟨x8m _,by simp,rfl,rfl,rfl⟩ ?_;rintro⟨j,b,k,h⟩ ⟨y,z,s,t,n⟩;simp only at y z s t n⊢;conv=>whnf
 repeat' ((first|(refine gX ?_;intros)|refine dA ?_|refine pA 1 8 (by simp) ?_|(apply bD<;>intro _<;>try omega)|refine x9g ?_ ?_)<;>conv=>whnf)
 .have o:j<p.A.length:=by omega
  have u:=J2 o;refine cJ [(1000,0),(2000,1),(2001,2),(2002,3)] 0 (Sk 1000 (by omega) p.A[j].body (by omega) b (by omega) ⟨S0,j,0,-1,0⟩ _ _ (k++[(b.length:Int)+1]) h) ?_ (ha:=(by refine x9d (x9j _) (x9d (x9j _) (x9d (LSub.agg ?_) z1y));repeat' (first|exact SubL.nil|refine SubL.cons ?_ ?_|exact Sub.refl _|exact Sub.nils|exact Sub.ff rfl))) (hH:=by exact x9b (j:=0) rfl rfl (CSub.of_eq (by rw[x8d];first|done|rfl)) (x9b (j:=1) rfl rfl (CSub.refl _) (x9b (j:=2) rfl rfl (CSub.of_eq (by rw[x8i];first|done|rfl)) (x9b (j:=3) rfl rfl (CSub.refl _) z0r))));rintro l' H' ⟨rfl,rfl⟩;conv=>whnf
  have q:=XY j 0 (-1) 0 b p.A[j].body;repeat' ((first|(refine gX ?_;intros)|refine dA ?_|refine pA 1 8 (by simp) ?_|refine Wr.i64 (by rw[XY];omega) (by rw[XY];omega) ?_|refine x9g ?_ ?_)<;>conv=>whnf)
  all_goals exact⟨(j+1,XB j 0 (-1) 0 b p.A[j].body,k++[(b.length:Int)+1],h++[((XB j 0 (-1) 0 b p.A[j].body).length:Int)+1]),⟨by simp only;omega,by simp only;omega,by simp[s],by simp[t],by simp only;rw[<-n,L8 o]⟩,by simp only;omega,Le.of_eq (by simp only[x1r,x8d,x8i];rfl)⟩
 .have o:j<p.A.length:=by omega
  have u:=J2 o;refine cJ [(1000,0),(2000,1),(2001,2),(2002,3)] 0 (Sk 1000 (by omega) p.A[j].body (by omega) b (by omega) ⟨S0,j,0,-1,0⟩ _ _ (k++[(b.length:Int)+1]) h) ?_ (ha:=(by refine x9d (x9j _) (x9d (x9j _) (x9d (LSub.agg ?_) z1y));repeat' (first|exact SubL.nil|refine SubL.cons ?_ ?_|exact Sub.refl _|exact Sub.nils|exact Sub.ff rfl))) (hH:=by exact x9b (j:=0) rfl rfl (CSub.of_eq (by rw[x8d];first|done|rfl)) (x9b (j:=1) rfl rfl (CSub.refl _) (x9b (j:=2) rfl rfl (CSub.of_eq (by rw[x8i];first|done|rfl)) (x9b (j:=3) rfl rfl (CSub.refl _) z0r))));rintro l' H' ⟨rfl,rfl⟩;conv=>whnf
  have q:=XY j 0 (-1) 0 b p.A[j].body;repeat' ((first|(refine gX ?_;intros)|refine dA ?_|refine pA 1 8 (by simp) ?_|refine Wr.i64 (by rw[XY];omega) (by rw[XY];omega) ?_|refine x9g ?_ ?_)<;>conv=>whnf)
  all_goals exact⟨(j+1,XB j 0 (-1) 0 b p.A[j].body,k++[(b.length:Int)+1],h++[((XB j 0 (-1) 0 b p.A[j].body).length:Int)+1]),⟨by simp only;omega,by simp only;omega,by simp[s],by simp[t],by simp only;rw[<-n,L8 o]⟩,by simp only;omega,Le.of_eq (by simp only[x1r,x8d,x8i];rfl)⟩
 .have C:p.A.drop j=[]:=x9v (by omega);rw[C,Gc]at n;refine⟨.ip (sheetOf p).cells,?_,rfl⟩;have e:(sheetOf p).cells=[eStrs p.F,.sl (p.A.map fun f=>.agg f.cells),.sl (b.map fun i=>.agg i.cells),QE k,QE h]:=by
   unfold sheetOf;rw[<-n];rfl
  rw[e];have B:∀H:Heap,getH H 1=some (.own 154 17 (b.map fun i=>.agg i.cells))->getH H 2=some (.own 3 1 (k.map (.int .i64)))->getH H 3=some (.own 3 1 (h.map (.int .i64)))->
    FrzL H [.p (eStrs p.F),.p (.sl (p.A.map fun f=>.agg f.cells)),.hd 1 0 b.length,.hd 2 0 k.length,.hd 3 0 h.length] [eStrs p.F,.sl (p.A.map fun f=>.agg f.cells),.sl (b.map fun i=>.agg i.cells),QE k,QE h]:=fun H g1 w x=>
   .cons (.p (Sub.refl _)) (.cons (.p (Sub.refl _)) (.cons (.hd g1 (by simp)) (.cons (.hd w (by simp)) (.cons (.hd x (by simp)) .nil))))
  refine Frz.ptr (off:=0) rfl rfl fun m l c D v=>?_;obtain⟨l',a,d⟩:=(B (x1r 130 154 3 p b k h) rfl rfl rfl).get.2 m c v;have g:=a.symm.trans D;cases g;exact d
theorem IdxK.at{es:List AV}{sz k:Nat}{n:Int}(o:n=k)(l:es[k]?=some e)(q:e.cells.length=sz)(h:K e.cells):IdxK es sz n K:=⟨k,e,o,l,q,h⟩
def UM{l:List Int}{k:Nat}{n:Int}(h:l[k]?=some n):(l.map (AV.int .i64))[k]?=some (.int .i64 n):=by simp[h]
def ZE(l:List Item):AV:=.sl (l.map fun i=>.agg i.cells)
def Qe(s:Sheet)(i k h:Nat)(n:s.lo[i]?=some ((k:Int)+1))(o:s.hi[i]?=some ((h:Int)+1))(q:k<=h)(r:h<=s.l.length)(u:s.l.length<=1000):aP 96 [.ip s.cells,.int .i64 i] (ZE ((s.l.take h).drop k)):=by
 refine sC Y8 func96 ?_;conv=>whnf
 repeat' ((first|refine dA ?_|refine wI ?_|refine IdxK.at rfl (UM n) rfl ?_|refine IdxK.at rfl (UM o) rfl ?_|refine x9g (fun e t=>by obtain⟨x,_,rfl⟩:=x8s.1 t;rfl) (z4b k h (by simp) (by simp) q (by simpa using r) ?_))<;>conv=>whnf)
 exact RetK.p (by simp[ZE,map_take,List.map_drop])
def U8(s:Sheet)(i h k:Nat)(l:s.lo[i]?=some ((h:Int)+1))(n:s.hi[i]?=some ((k:Int)+1)):aP 182 [.ip s.cells,.int .i64 i] (.int .i64 (if h<k then(h:Int)+1 else -1)):=by
 refine sC Q0 func182 ?_;conv=>whnf
 repeat' ((first|refine dA ?_|refine IdxK.at rfl (UM l) rfl ?_|refine IdxK.at rfl (UM n) rfl ?_|(apply bD<;>intro _<;>try omega))<;>conv=>whnf)
 .exact RetK.int (by rw[if_pos (by omega)])
 .exact RetK.int (by rw[if_neg (by omega)])
def YH(l:List Str)(g:Nat)(c:AV)(p:Str->Bool)(n:∀s,aP g [.str s,c] (.bool (p s))):aP 156 [eStrs l,.fn g [c]] (.int .i64 (idxF p l)):=by
 refine sC ZY func156 ?_;conv=>whnf
 refine iM fun _=>?_;have q:(l.map AV.str).length=l.length:=x8g _;conv=>whnf
 refine lI (fun j:Nat=>⟨[(0,.p (eStrs l)),(1,.p (.fn g [c])),(7,.p (.int .i64 (l.map AV.str).length)),(8,.j j)],[]⟩) (fun j=>j<=l.length/\(l.drop j).any p=l.any p/\l.findIdx p=j+(l.drop j).findIdx p) (fun j=>l.length-j) 0 ⟨x8m _,rfl,by simp⟩ ?_;rintro j ⟨o,h,k⟩;conv=>whnf
 repeat' ((first|(refine gX ?_;intros)|refine cP (n _) ?_|((first|apply bD|apply bB)<;>intro _<;>try omega))<;>conv=>whnf)
 .exact RetK.int (Us (p:=p) (by omega) (by assumption) h k).symm
 .exact nX (j+1) ⟨by omega,by rw[<-h,Vq (p:=p) (by omega) (by assumption)],by rw[k,q1i (p:=p) (by omega) (by assumption)];omega⟩
 .exact RetK.int (by rw[Bl];rw[<-h,DL (by omega)])
def UH(l:List Str)(g:Nat)(c:AV)(p:Str->Bool)(h:∀s,aP g [.str s,c] (.bool (p s))):aP 94 [eStrs l,.fn g [c]] (.bool (l.any p)):=by
 refine sC VG func94 ?_;conv=>whnf
 repeat' (refine cP (YH _ _ _ p h) ?_;conv=>whnf)
 exact RetK.bool Jm
def ZX(l:List Pr)(g:Nat)(c:AV)(p:Pr->Bool)(n:∀s:Pr,aP g [.agg s.cells,c] (.bool (p s))):aP 111 [.sl (l.map fun f=>.agg f.cells),.fn g [c]] (.int .i64 (idxF p l)):=by
 refine sC VZ func111 ?_;conv=>whnf
 refine iM fun _=>?_;have q:(l.map fun f=>AV.agg f.cells).length=l.length:=x8g _;conv=>whnf
 refine lI (fun j:Nat=>⟨[(0,.p (.sl (l.map fun f=>.agg f.cells))),(1,.p (.fn g [c])),(7,.p (.int .i64 (l.map fun f=>AV.agg f.cells).length)),(8,.j j)],[]⟩) (fun j=>j<=l.length/\(l.drop j).any p=l.any p/\l.findIdx p=j+(l.drop j).findIdx p) (fun j=>l.length-j) 0 ⟨x8m _,rfl,by simp⟩ ?_;rintro j ⟨o,h,k⟩;conv=>whnf
 repeat' ((first|(refine gX ?_;intros)|refine cP (n _) ?_|((first|apply bD|apply bB)<;>intro _<;>try omega))<;>conv=>whnf)
 .exact RetK.int (Us (p:=p) (by omega) (by assumption) h k).symm
 .exact nX (j+1) ⟨by omega,by rw[<-h,Vq (p:=p) (by omega) (by assumption)],by rw[k,q1i (p:=p) (by omega) (by assumption)];omega⟩
 .exact RetK.int (by rw[Bl];rw[<-h,DL (by omega)])
def WI(l:List Pr)(g:Nat)(c:AV)(p:Pr->Bool)(h:∀s:Pr,aP g [.agg s.cells,c] (.bool (p s))):aP 82 [.sl (l.map fun f=>.agg f.cells),.fn g [c]] (.bool (l.any p)):=by
 refine sC WG func82 ?_;conv=>whnf
 repeat' (refine cP (ZX _ _ _ p h) ?_;conv=>whnf)
 exact RetK.bool Jm
def Ph(p:Pg)(n:Str):aP 95 [.str n,.ip p.cells] (.bool (p.F.any fun s=>n==s)):=by
 refine sC Yq func95 ?_;conv=>whnf
 repeat' (refine cP (QZ _ _) ?_;conv=>whnf)
 exact RetK.p rfl
def Zo(n:Str)(f:Pr):aP 112 [.agg f.cells,.ip [.str n]] (.bool (f.name==n)):=by
 refine sC NC func112 ?_;conv=>whnf
 skip
 exact RetK.p rfl
def Pl(n:Str)(f:Pr):aP 83 [.agg f.cells,.ip [.str n]] (.bool (f.name==n)):=by
 refine sC Yz func83 ?_;conv=>whnf
 skip
 exact RetK.p rfl
def XI(s:Sheet)(n:Str):aP 65 [.ip s.cells,.str n] (.int .i64 (idxF (fun f=>f.name==n) s.p.A)):=by
 refine sC Zx func65 ?_;conv=>whnf
 repeat' ((refine cP (ZX _ _ _ (fun f=>f.name==n) (fun f=>Zo n f)) ?_)<;>conv=>whnf)
 exact RetK.p rfl
end Go.Ab
