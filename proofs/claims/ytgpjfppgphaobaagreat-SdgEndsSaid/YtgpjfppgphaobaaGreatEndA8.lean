/- Small laws for the scripts. Conditions: none. -/
import Derived.Test.YtgpjfppgphaobaaGreatEndA7
set_option linter.all false
set_option maxRecDepth 100000
set_option maxHeartbeats 16000000
open List (all_cons any_cons map_take)
open Nat (ble)
namespace Go.Ab
open Go.Proofs.Tryz
open Go.Proofs
variable {ι:Type}{K:List AV->Prop}{N T i j m:Nat}{b:Bool}{c:Code}{e:AV}{fn:Func}{info:Info}{nest seen:Int}{ops:Array Oper}
def q6k{p:Prop}[Decidable p]{A B:Prop}(h:p->A)(k:¬p->B):Br (decide p) A B:=⟨fun e=>h (by simpa using e),fun e=>k (by simpa using e)⟩
def q3w{p:Prop}[Decidable p]{A B:Prop}(h:p->A)(k:¬p->B):Br (!decide p) B A:=⟨fun e=>k (by simpa using e),fun e=>h (by simpa using e)⟩
theorem Br.n{A B:Prop}(h:b=true->B)(l:b=false->A):Br (!b) A B:=⟨fun e=>l (by simpa using e),fun e=>h (by simpa using e)⟩
theorem ByteK.at{s:List UInt8}{k:Nat}{K:UInt8->Prop}(l:k<s.length)(h:K s[k]):ByteK s k K:=⟨k,s[k],rfl,by simp,h⟩
theorem X.avs_len(l:List X):(X.avs l).length=l.length:=by rw[X.avs_eq];simp
theorem S.avs_len(l:List S):(S.avs l).length=l.length:=by rw[S.avs_eq];simp
theorem IdxK.map{α:Type}{f:α->AV}{l:List α}{sz k:Nat}(o:k<(l.map f).length)(q:∀x,(f x).cells.length=sz)(h:K (f (l[k]'(by simpa using o))).cells):IdxK (l.map f) sz k K:=
 ⟨k,f (l[k]'(by simpa using o)),rfl,by simp at o;simp[o],q _,h⟩
theorem IdxK.xs{l:List X}{k:Nat}(o:k<(X.avs l).length)(h:K (l[k]'(by rw[X.avs_len]at o;exact o)).cells):IdxK (X.avs l) 4 k K:=by
 rw[X.avs_len]at o;refine⟨k,.agg l[k].cells,rfl,?_,rfl,h⟩;rw[X.avs_eq];simp[o]
def Hk{l:List S}{k:Nat}(n:k<(S.avs l).length)(h:K (l[k]'(by rw[S.avs_len]at n;exact n)).cells):IdxK (S.avs l) 13 k K:=by
 rw[S.avs_len]at n;refine⟨k,.agg l[k].cells,rfl,?_,rfl,h⟩;rw[S.avs_eq];simp[n]
theorem RetK.tt{H:Heap}{b:Bool}(h:b=true):RetK H (.p .tt) (fun r=>r=.bool b):=⟨_,.p (Sub.tt h),rfl⟩
theorem RetK.ff{H:Heap}{b:Bool}(h:b=false):RetK H (.p .ff) (fun r=>r=.bool b):=⟨_,.p (Sub.ff h),rfl⟩
theorem RetK.bool{H:Heap}{a b:Bool}(h:a=b):RetK H (.p (.bool a)) (fun r=>r=.bool b):=⟨_,.p (Sub.bool h),rfl⟩
theorem RetK.int{H:Heap}{k:IntKind}{m n:Int}(h:m=n):RetK H (.p (.int k m)) (fun r=>r=.int k n):=⟨_,.p (Sub.int h),rfl⟩
theorem RetK.p{H:Heap}{a b:AV}(h:a=b):RetK H (.p a) (fun r=>r=b):=⟨_,.p (Sub.of_eq h),rfl⟩
def QM{α:Type}{l:List α}(h:j<l.length):l.drop j=l[j]::l.drop (j+1):=by simp
def Vm{α:Type}{l:List α}{p:α->Bool}(k:j<l.length)(h:p l[j]=true):(l.drop (j+1)).all p=(l.drop j).all p:=by
 rw[QM k,all_cons,h,Bool.true_and]
def Kx{α:Type}{l:List α}{p:α->Bool}(k:j<l.length)(h:p l[j]=false):(l.drop j).all p=false:=by
 rw[QM k,all_cons,h,Bool.false_and]
def Vn{α:Type}{l:List α}{p:α->Bool}(h:l.length<=j):(l.drop j).all p=true:=by
 rw[x4l h];rfl
def Bz{α:Type}{l:List α}{p:α->Bool}(k:j<l.length)(h:p l[j]=false):(l.drop (j+1)).any p=(l.drop j).any p:=by
 rw[QM k,any_cons,h,Bool.false_or]
def Ce{α:Type}{l:List α}{p:α->Bool}(k:j<l.length)(h:p l[j]=true):(l.drop j).any p=true:=by
 rw[QM k,any_cons,h,Bool.true_or]
def Vr{α:Type}{l:List α}{p:α->Bool}(h:l.length<=j):(l.drop j).any p=false:=by
 rw[x4l h];rfl
def q1z{α β:Type}{l:List α}{g:α->β}(h:j<l.length):(l.take (j+1)).map g=(l.take j).map g++[g l[j]]:=by
 rw[x4k h,x4d];rfl
def idxF{α:Type}(p:α->Bool)(l:List α):Int:=bif l.any p then(l.findIdx p:Nat)else -1
def IC{α:Type}{l:List α}{p:α->Bool}(k:j<l.length)(h:p l[j]=false):(l.drop j).findIdx p=(l.drop (j+1)).findIdx p+1:=by
 rw[QM k,List.findIdx_cons,h,x5q]
def q6i{α:Type}{l:List α}{p:α->Bool}(k:j<l.length)(h:p l[j]=true):(l.drop j).findIdx p=0:=by
 rw[QM k,List.findIdx_cons,h,x4s]
def Uc{α:Type}{p:α->Bool}{l:List α}:decide (idxF p l≥0)=l.any p:=by
 unfold idxF;cases l.any p<;>simp
def Wl{α:Type}{p:α->Bool}{l:List α}(k:j<l.length)(h:p l[j]=true)(n:(l.drop j).any p=l.any p)(o:l.findIdx p=j+(l.drop j).findIdx p):idxF p l=j:=by
 unfold idxF;rw[<-n,Ce k h,x4s,o,q6i k h];rfl
def Fx{α:Type}{p:α->Bool}{l:List α}(h:l.any p=false):idxF p l = -1:=by
 unfold idxF;rw[h];rfl
def ZF{P:Program}{T:Tab}{id:Nat}{K:St->Prop}{s:St}(l:St)(h:DrawK P T N info id ops (fun s=>Nn info id s fun y=>Le N y l) s)(u:Nn info id l K):
  DrawK P T N info id ops (fun s=>Nn info id s K) s:=by
 refine⟨⟨fun σ β a w x=>Code.wp_mono (fun e q w' k=>?_) (h.ok.ok σ β a w x)⟩⟩;obtain⟨σ',β',s',k,o,v⟩:=k;cases e<;>simp only at k⊢;obtain⟨z,r,t⟩:=Z1 (N:=N) k;obtain⟨σ2,β2,p,n⟩:=(t.trans r) σ' β' q w' o;exact⟨σ2,β2,l,u,p,v.trans n⟩
def TG{P:Program}{T:Tab}{id:Nat}{K:St->Prop}{s:St}(hT:TabOK P T)(l:P.follows .mixedOrders=true)(k:(bif Ha ops.size ops.toList then bif ble (info.sched id).len ops.size then VX ops [] (info.sched id)else false else false)=true)(h:drW P T N ops (info.sched id) s K):DrawK P T N info id ops K s:=DrawK.of hT l _ k h
def bD{p:Prop}[Decidable p]{A B:Prop}(h:p->A)(k:¬p->B):Br (decide p) A B:=q6k h k
def bE{p:Prop}[Decidable p]{A B:Prop}(h:p->A)(k:¬p->B):Br (!decide p) B A:=q3w h k
def bB{A B:Prop}(h:b=true->A)(k:b=false->B):Br b A B:=⟨h,k⟩
def bN{A B:Prop}(h:b=true->B)(k:b=false->A):Br (!b) A B:=Br.n h k
def iM{n:Nat}{K:Prop}(h:n<=9223372036854775807->K):n<=9223372036854775807->K:=h
def wI{n:Int}{K:Int->Prop}(l:K n)(h : -9223372036854775808<=n:=by omega)(k:n<=9223372036854775807:=by omega):Wr .i64 n K:=Wr.i64 h k l
def aD{a b c:Prop}(h:c)(k:a:=by decide)(l:b:=by decide):(a/\b)/\c:=⟨⟨k,l⟩,h⟩
def aR{a b c d:Prop}(h:d)(k:a:=by exact rfl)(l:b:=by exact rfl)(n:c:=by decide):(a/\b/\c)/\d:=⟨⟨k,l,n⟩,h⟩
def bP{es:List AV}{sz:Nat}{out:List LV}{k l:Prop}(n:k)(h:∀x∈es,x.cells.length=sz:=by intro x h;rcases x4w.1 h with rfl;rfl)(o:out=(es.flatMap AV.cells).map .p:=by exact rfl):BsK es sz out k l:=.pure h o n
def iA{α:Type}{f:α->AV}{l:List α}{sz k:Nat}(h:∀n:k<l.length,K (f l[k]).cells)(n:k<(l.map f).length:=by omega)(o:∀x,(f x).cells.length=sz:=by intro _;rfl):IdxK (l.map f) sz k K:=IdxK.map n o (h (by simpa using n))
def dA{id:Nat}{K:St->Prop}{s:St}(h:drW prog tab N ops (info.sched id) s K)(k:(bif Ha ops.size ops.toList then bif ble (info.sched id).len ops.size then VX ops [] (info.sched id)else false else false)=true:=by kernel_rfl):DrawK prog tab N info id ops K s:=TG XM mixed k h
def cP{P:Program}{g:FuncId}{args:List LV}{k:Option Nat}{s:St}{K:St->Prop}{avs:List AV}{c:AV}(l:SpecP P g avs fun r=>r=c)(h:setD N s.sl k (.p c) fun sl=>K ⟨sl,s.H⟩)(ha:ArgP args avs:=by(repeat (refine ArgP.cons ?_ ?_;first|exact Sub.refl _|exact Sub.tt rfl|exact Sub.ff rfl|exact Sub.int (by omega)));exact ArgP.nil):CallK P N g args k s K:=CallK.pure l ha fun _ e=>e▸h
def lE{s:St}{h:List (Nat×LV)}{H':Heap}(hnd:(H'.map (·.1)).Nodup:=by simp)(hsl:WkS [] s.sl h:=by(repeat (refine WkS.cons ?_ ?_;exact Wk.refl _));exact WkS.nil)(hH:WkH [] s.H H':=by(repeat refine WkH.cons rfl (CWk.refl _) ?_);exact WkH.nil):Le N s ⟨h,H'⟩:=Le.mk [] (by simp) (by simp) hnd hsl hH
def sH(info:Info){f:FuncId}(o:prog.funcs[f]?=some fn)(n:fn.body=some c)(l:∀(vals:Array Value)(w:World),(callFunc f vals).run prog w=.ok (.enter f vals) w){args:List LV}{H:Heap}{R:LV->Heap->Prop}(h:W prog tab fn.ntmps info c (q9z tab fn.results R) ⟨MT args 0,H⟩)(k:args.length<=fn.ntmps:=by exact x9m rfl):SpecH prog f args H R:=SpecH.body info XM o n l k h
class Ask (P:Prop) (S Q:outParam Prop):Prop where
 h:Q->S->P
inductive AkA(a:Prop):Prop
 |mk (h:a)
inductive AkT:Prop
 |mk
inductive AkW:IntKind->Int->Prop
 |mk {n:Int} (h1 : -9223372036854775808<=n) (h2:n<=9223372036854775807):AkW .i64 n
inductive AkI{α:Type}(f:α->AV)(l:List α)(sz k:Nat):Prop
 |mk (hk:k<(l.map f).length) (hs:∀x,(f x).cells.length=sz)
inductive AkB(es:List AV)(sz:Nat)(out:List LV):Prop
 |mk (hx:∀x∈es,x.cells.length=sz) (ho:out=(es.flatMap AV.cells).map .p)
inductive AkL(k n:Nat):Prop
 |mk (h:k<n)
instance askA {a b:Prop}:Ask (a/\b) (AkA a) b:=⟨fun h s=>⟨match s with |.mk h=>h,h⟩⟩
instance askT {n:Nat} {K:Prop}:Ask (n<=9223372036854775807->K) AkT (n<=9223372036854775807->K):=⟨fun h _=>h⟩
instance askM {n:Nat} {K:Prop}:Ask (n<=maxLen->K) AkT (n<=9223372036854775807->K):=⟨fun h _=>h⟩
instance askW {k:IntKind} {n:Int} {K:Int->Prop}:Ask (Wr k n K) (AkW k n) (K n):=⟨fun h s=>by cases s with|mk h1 h2=>exact Wr.i64 h1 h2 h⟩
instance askI {α:Type} {f:α->AV} {l:List α} {sz k:Nat} {K:List AV->Prop}:Ask (IdxK (l.map f) sz k K) (AkI f l sz k) (∀hk:k<l.length,K (f l[k]).cells):=⟨fun h s=>by cases s with|mk hk hs=>exact iA h hk hs⟩
instance askX {l:List X} {sz k:Nat} {K:List AV->Prop}:Ask (IdxK (X.avs l) sz k K) (AkL k (X.avs l).length/\sz=4) (∀hk:k<(X.avs l).length,K (l[k]'(by rw[X.avs_len]at hk;exact hk)).cells):=⟨fun h s=>by cases s.1 with|mk hk=>rw[s.2];exact IdxK.xs hk (h hk)⟩
instance askS {l:List S} {sz k:Nat} {K:List AV->Prop}:Ask (IdxK (S.avs l) sz k K) (AkL k (S.avs l).length/\sz=13) (∀hk:k<(S.avs l).length,K (l[k]'(by rw[S.avs_len]at hk;exact hk)).cells):=⟨fun h s=>by cases s.1 with|mk hk=>rw[s.2];exact Hk hk (h hk)⟩
instance askC {s:List UInt8} {k:Nat} {K:UInt8->Prop}:Ask (ByteK s k K) (AkL k s.length) (∀hk:k<s.length,K s[k]):=⟨fun h q=>by cases q with|mk hk=>exact ByteK.at hk (h hk)⟩
instance askB {es:List AV} {sz:Nat} {out:List LV} {Kp Ko:Prop}:Ask (BsK es sz out Kp Ko) (AkB es sz out) Kp:=⟨fun h s=>by cases s with|mk hx ho=>exact .pure hx ho h⟩
def gX{P S Q:Prop}[c:Ask P S Q](h:Q)(s:S:=by first|exact AkA.mk rfl|exact AkT.mk|exact AkW.mk (by omega) (by omega)|exact AkI.mk (by omega) (fun _=>rfl)|exact⟨AkL.mk (by omega),rfl⟩|exact AkL.mk (by omega)|exact AkB.mk (by intro x k;rcases x4w.1 k with rfl;rfl) rfl|exact AkA.mk ⟨by decide,by decide⟩|exact AkA.mk ⟨rfl,rfl,by decide⟩):P:=c.h h s
class Bra (P:Prop) (p q A B:outParam Prop):Prop where
 h:(p->A)->(q->B)->P
instance braD {p:Prop} [Decidable p] {A B:Prop}:Bra (Br (decide p) A B) p (¬p) A B:=⟨bD⟩
instance braE {p:Prop} [Decidable p] {A B:Prop}:Bra (Br (!decide p) B A) p (¬p) A B:=⟨bE⟩
instance (priority:=10) braB {b:Bool} {A B:Prop}:Bra (Br b A B) (b=true) (b=false) A B:=⟨bB⟩
instance (priority:=20) braN {b:Bool} {A B:Prop}:Bra (Br (!b) B A) (b=true) (b=false) A B:=⟨bN⟩
def lI{K:Exit->St->Prop}{s:St}(I:ι->St)(φ:ι->Prop)(μ:ι->Nat)(h:ι)(l:φ h)(step:∀i,φ i->W prog tab N info c (fun e s'=>match e with |.normal=>∃j,φ j/\μ j<μ i/\Le N s' (I j) |e=>K e s') (I i))(k:Le N s (I h):=by exact Le.of_eq rfl):LoopK prog tab N info c K s:=LoopK.inv XM I φ μ h k l step
def nX{φ P Q:ι->Prop}(j:ι)(h:φ j)(k:P j:=by first|omega|(simp only;omega))(l:Q j:=by exact Le.of_eq rfl):∃j,φ j/\P j/\Q j:=⟨j,h,k,l⟩
def iT{es:List AV}{sz k:Nat}{n:Int}(l:es[k]?=some e)(h:K e.cells)(o:n=k:=by first|exact rfl|omega)(p:e.cells.length=sz:=by exact rfl):IdxK es sz n K:=⟨k,e,o,l,p,h⟩
def iO{len:Nat}{n:Int}{K:Nat->Prop}(i:Nat)(h:K i)(l:n=i:=by first|exact rfl|omega)(k:i<len:=by first|omega|(simp;done)|(simp;omega)):IdxL len n K:=.mk i l k h
def lO{es:List AV}{sz off:Nat}(k:es[m]?=some e)(h:K (e.cells.drop 0))(l:off=m*sz+0:=by omega):LdOwn es sz off K:=.mk m 0 e l k h
def sO{es:List AV}{sz off:Nat}{vs:List AV}(h:AV)(n:es[m]?=some e)(l:K (es.set m h))(p:off=m*sz+0:=by omega)(o:0+vs.length<=sz:=by exact x4m _)(k:h.cells=e.cells.take 0++vs++e.cells.drop (0+vs.length):=by exact rfl):StOwn es sz off vs K:=.mk m 0 e h p n o k l
def pA(k w:Nat){es xs:List AV}{n sz bytes:Nat}{K:Prop}(s:n=es.length)(q:K)(l:m=xs.length:=by exact rfl)(p:xs.length=k:=by exact rfl)(t:bytes=w:=by exact rfl)(r:(n+k)*w<=140737488355328:=by omega)(h:n+k<=9223372036854775807:=by omega)(o:∀x∈xs,x.cells.length=sz/\x.cells.all AV.one=true:=by(intro x o;rcases x4w.1 o with rfl;exact⟨rfl,rfl⟩)):AppK es xs n m sz bytes K:=.mk s l (by rw[l,p,t];exact r) (by rw[l,p];exact h) o q
def pS{es:List AV}{n:Nat}{K:Prop}{s:Str}(h:K)(k:n=es.length:=by simp)(o:es.length<=8796093022000:=by(simp;omega)):AppK es [.str s] n 1 1 16 K:=
 .mk k rfl (by omega) (by simp only[maxLen];omega) (fun x l=>by rcases x4w.1 l with rfl;exact⟨rfl,rfl⟩) h
def pI{es:List AV}{n:Nat}{K:Prop}{s:Int}(h:K)(k:n=es.length:=by simp)(o:es.length<=8796093022000:=by(simp;omega)):AppK es [.int .i64 s] n 1 1 8 K:=
 .mk k rfl (by omega) (by simp only[maxLen];omega) (fun x l=>by rcases x4w.1 l with rfl;exact⟨rfl,rfl⟩) h
def x2t{a b:List AV}(h:SubL a b:=by(repeat' (first|exact SubL.nil|refine SubL.cons ?_ ?_|exact Sub.refl _|exact Sub.nils|exact Sub.ff rfl))):SubL a b:=h
def goF{P:Program}{f:FuncId}(n:P.funcs[f]?=some fn)(h:(fn.name == "runtime.NumGoroutine")=false)(l:fn.body=some c)(args:Array Value)(w:World):
  (callFunc f args).run P w=.ok (.enter f args) w:=by
 have k:fn.name ≠ "runtime.NumGoroutine" :=by simpa using h
 simp[callFunc,n,k,l]
def sC(info:Info){f:FuncId}(n:prog.funcs[f]?=some fn){args:List AV}{R:AV->Prop}(h:W prog tab fn.ntmps info c (x2u tab fn.results R) ⟨Bw args 0,[]⟩)(l:fn.body=some c:=by exact rfl)(o:(fn.name == "runtime.NumGoroutine")=false:=by kernel_rfl)(k:args.length<=fn.ntmps:=by exact x9m rfl):SpecP prog f args R:=SpecP.body info XM n l (goF n o l) k h
def sK(info:Info){f:FuncId}(n:prog.funcs[f]?=some fn){args:List LV}{H:Heap}{R:LV->Heap->Prop}(h:W prog tab fn.ntmps info c (q9z tab fn.results R) ⟨MT args 0,H⟩)(l:fn.body=some c:=by exact rfl)(o:(fn.name == "runtime.NumGoroutine")=false:=by kernel_rfl)(k:args.length<=fn.ntmps:=by exact x9m rfl):SpecH prog f args H R:=SpecH.body info XM n l (goF n o l) k h
def lJ{K:Exit->St->Prop}{s:St}(I:ι->St)(φ:ι->Prop)(μ:ι->Nat)(h:ι)(k:Le N s (I h))(l:φ h)(step:∀i,φ i->W prog tab N info c (fun e s'=>match e with |.normal=>∃j,φ j/\μ j<μ i/\Le N s' (I j) |e=>K e s') (I i)):LoopK prog tab N info c K s:=LoopK.inv XM I φ μ h k l step
def lM{s:St}{l:List (Nat×LV)}{H':Heap}(new:List (Nat×Chunk))(k:∀c∈new,c.2.new0=true/\WY c.1 s=true:=by(simp[Chunk.new0];first|rfl|exact⟨rfl,rfl⟩|exact⟨rfl,rfl,rfl⟩))(h:(new.map (·.1)).Nodup:=by simp)(hnd:(H'.map (·.1)).Nodup:=by simp)(hsl:WkS new s.sl l:=by(repeat' (first|exact WkS.nil|refine WkS.cons ?_ ?_|exact Wk.refl _|exact Wk.nil x4z)))(hH:WkH new s.H H':=by(repeat' (first|exact WkH.nil|refine WkH.cons rfl (CWk.refl _) ?_|refine WkH.new x4z ?_))):Le N s ⟨l,H'⟩:=Le.mk new k h hnd hsl hH
abbrev aP (f:FuncId) (args:List AV) (c:AV):Prop:=SpecP prog f args fun r=>r=c
abbrev aH (f:FuncId) (args:List LV) (H:Heap) (l:LV) (H1:Heap):Prop:=SpecH prog f args H fun r H'=>r=l/\H'=H1
def LB(c:UInt8):Bool:=decide (97<=(c.toNat:Int))&&decide ((c.toNat:Int)<=122)
def Fz(c:UInt8):Bool:=decide (48<=(c.toNat:Int))&&decide ((c.toNat:Int)<=57)
def q6u(c:UInt8):Bool:=LB c||Fz c
def G2(c:UInt8):aP 152 [.int .u8 c.toNat] (.bool (LB c)):=by
 refine sC Dt func152 ?_;conv=>whnf
 repeat' (apply bD<;>intro _<;>first|omega|conv=>whnf)
 .exact RetK.bool (by simp_all[LB];try omega)
 .exact RetK.ff (by simp_all[LB];try omega)
def Ae(c:UInt8):aP 202 [.int .u8 c.toNat] (.bool (Fz c)):=by
 refine sC My func202 ?_;conv=>whnf
 repeat' (apply bD<;>intro _<;>first|omega|conv=>whnf)
 .exact RetK.bool (by simp_all[Fz];try omega)
 .exact RetK.ff (by simp_all[Fz];try omega)
def LM(s:Str)(i:Nat):Nat:=i+((s.drop i).takeWhile q6u).length
def G3{s:Str}(h:i<s.length)(k:q6u s[i]=true):LM s (i+1)=LM s i:=by
 unfold LM;rw[QM h,List.takeWhile_cons,if_pos k];simp only[x5g];omega
def Pv{s:Str}(h:∀(k:i<s.length),q6u s[i]=false):LM s i=i:=by
 unfold LM;by_cases k:i<s.length
 .rw [QM k,List.takeWhile_cons,if_neg (by simp[h k])];rfl
 .rw [x4l (by omega)];rfl
def q4d(s:Str)(i:Nat)(k:i<=s.length):aP 153 [.str s,.int .i64 i] (.int .i64 (LM s i)):=by
 refine sC Cv func153 ?_;conv=>whnf
 refine lI (fun j:Nat=>⟨[(0,.p (.str s)),(1,.j j)],[]⟩) (fun j=>j<=s.length/\LM s j=LM s i) (fun j=>s.length-j) i ⟨k,rfl⟩ ?_;rintro j ⟨l,h⟩;conv=>whnf
 repeat' ((first|(refine gX ?_;intros)|refine cP (G2 _) ?_|refine cP (Ae _) ?_|((first|apply bD|apply bB)<;>intro _<;>try omega))<;>conv=>whnf)
 .exact nX (j+1) ⟨by omega,by rw[G3 (by omega) (by simp_all[q6u])];exact h⟩
 .exact nX (j+1) ⟨by omega,by rw[G3 (by omega) (by simp_all[q6u])];exact h⟩
 .exact RetK.int (by rw[<-h,Pv fun _=>by simp_all[q6u]])
 .exact RetK.int (by rw[<-h,Pv fun _=>by omega])
def RN(s:Str):Bool:=decide (s=[103,108,111,98,97,108])||decide (s=[112,114,111,99])||decide (s=[118,97,114])||decide (s=[114,101,102])||decide (s=[105,102])||decide (s=[101,108,115,101])||decide (s=[119,104,105,108,101])||decide (s=[98,114,101,97,107])||decide (s=[99,111,110,116,105,110,117,101])||decide (s=[114,101,116,117,114,110])||decide (s=[103,111,116,111])||decide (s=[114,101,97,100])||decide (s=[112,114,105,110,116])
def Oc(s:Str):aP 154 [.str s] (.bool (RN s)):=by
 refine sC TB func154 ?_;conv=>whnf
 repeat' (apply bB<;>intro _<;>conv=>whnf)
 all_goals first
  |exact RetK.tt (by simp_all[RN])
  |exact RetK.ff (by simp_all[RN])
def isName(s:Str):Bool:=if h:1<=s.length/\s.length<=8 then LB (s[0]'(by omega))&&decide (LM s 0=s.length) && !RN s else false
def LN(s:Str):aP 89 [.str s] (.bool (isName s)):=by
 refine sC TD func89 ?_;conv=>whnf
 repeat' ((first|(refine iM fun _=>?_)|refine cP (G2 _) ?_|refine cP (q4d _ 0 (x4j _)) ?_|refine cP (Oc _) ?_|refine ByteK.at (k:=0) (by omega) ?_|((first|apply bD|apply bN)<;>intro _<;>try omega))<;>conv=>whnf)
 .exact RetK.ff (by unfold isName;rw[dif_neg (by omega)])
 .exact RetK.ff (by unfold isName;rw[dif_neg (by omega)])
 .exact RetK.bool (by unfold isName;rw[dif_pos (by omega)];simp_all;omega)
 .exact RetK.ff (by unfold isName;rw[dif_pos (by omega)];simp_all;omega)
 .exact RetK.ff (by unfold isName;rw[dif_pos (by omega)];simp_all)
def namesB(l:List Str):Bool:=l.all isName
def Z3(l:List Str):aP 88 [eStrs l] (.bool (namesB l)):=by
 refine sC B0 func88 ?_;conv=>whnf
 refine iM fun _=>?_;conv=>whnf
 refine lI (fun j:Nat=>⟨[(5,.p (eStrs l)),(6,.p (.int .i64 (l.map AV.str).length)),(7,.j j)],[]⟩) (fun j=>j<=l.length/\(l.drop j).all isName=namesB l) (fun j=>l.length-j) 0 ⟨x4j _,rfl⟩ ?_;rintro j ⟨k,h⟩;have n:(l.map AV.str).length=l.length:=x3a _;conv=>whnf
 repeat' ((first|refine cP (LN _) ?_|(refine gX ?_;intros)|((first|apply bD|apply bN)<;>intro _<;>try omega))<;>conv=>whnf)
 .exact nX (j+1) ⟨by omega,by rw[Vm (by omega) (by assumption)];exact h⟩
 .exact RetK.ff (by rw[<-h,Kx (by omega) (by assumption)])
 .exact RetK.tt (by rw[<-h,Vn (by omega)])
def Jo(op:Int):Int:=if op=1\/op=2 then 0 else if op=3\/op=4 then 1 else if 5<=op/\op<=17 then 2 else -1
def ER(op:Int):aP 270 [.int .i64 op] (.int .i64 (Jo op)):=by
 refine sC Md func270 ?_;conv=>whnf
 repeat' (apply bD<;>intro _<;>first|omega|conv=>whnf)
 all_goals exact RetK.int (by unfold Jo;(repeat' split)<;>omega)
def YQ:Nat->X->Bool
 |0,_=>false
 |n+1,x=>decide ((x.kids.length:Int)=Jo x.op)&&(if x.op=1 then decide (0<=x.n)&&(x.name==[])else if x.op=2 then decide (x.n=0)&&isName x.name else decide (x.n=0)&&(x.name==[])&&x.kids.all (YQ n))
def EL:∀(n:Nat)(_:n<=1000)(x:X),aP 250 [.agg x.cells,.int .i64 n] (.bool (YQ n x)):=by
 intro n;induction n with
 | zero=>
   intro _ x;refine sC Vv func250 ?_;conv=>whnf
   repeat' ((first|refine dA ?_|(apply bD<;>intro _<;>try omega))<;>conv=>whnf)
   exact RetK.ff rfl
 | succ n l=>
   intro r x;refine sC Vv func250 ?_;conv=>whnf
   repeat' ((first|(refine iM fun _=>?_)|refine cP (ER _) ?_|refine cP (LN _) ?_|refine dA ?_|((first|apply bD|apply bE|apply bN)<;>intro _<;>try omega))<;>conv=>whnf)
   all_goals try (have q:((X.avs x.kids).length:Int)=x.kids.length:=by rw[X.avs_len])
   .exact RetK.bool (by simp_all[YQ])
   .exact RetK.ff (by simp_all[YQ];try omega)
   .exact RetK.bool (by simp_all[YQ])
   .exact RetK.ff (by simp_all[YQ];try omega)
   .have k:YQ (n+1) x=x.kids.all (YQ n):=by simp_all[YQ]
    rw[k];refine lI (fun j:Nat=>⟨[(1,.j (n+1:Nat)),(49,.p (.sl (X.avs x.kids))),(50,.p (.int .i64 (X.avs x.kids).length)),(51,.j j)],[]⟩) (fun j=>j<=x.kids.length/\(x.kids.drop j).all (YQ n)=x.kids.all (YQ n)) (fun j=>x.kids.length-j) 0 ⟨x4j _,rfl⟩ ?_;rintro j ⟨o,h⟩;conv=>whnf
    repeat' ((first|(refine gX ?_;intros)|refine cP (l (by omega) _) ?_ (ha:=.cons (Sub.refl _) (.cons (Sub.int (by omega)) .nil))|((first|apply bD|apply bN)<;>intro _<;>try omega))<;>conv=>whnf)
    .exact nX (j+1) ⟨by omega,by rw[Vm (by omega) (by assumption)];exact h⟩
    .exact RetK.ff (by rw[<-h,Kx (by omega) (by assumption)])
    .exact RetK.tt (by rw[<-h,Vn (by omega)])
   .exact RetK.ff (by simp_all[YQ];try omega)
   .exact RetK.ff (by simp_all[YQ];try omega)
   .exact RetK.ff (by simp_all[YQ];try omega)
def Ij(x:X):Bool:=YQ 20 x
def BX(x:X):aP 207 [.agg x.cells] (.bool (Ij x)):=by
 refine sC Jb func207 ?_;conv=>whnf
 repeat' (refine cP (EL 20 (by omega) _) ?_;conv=>whnf)
 exact RetK.p rfl
def noneB(x:X):Bool:=decide (x.op=0)&&decide (x.n=0)&&(x.name==[])&&((x.kids.length:Int)==0)
def ET(x:X):aP 249 [.agg x.cells] (.bool (noneB x)):=by
 refine sC Mb func249 ?_;conv=>whnf
 repeat' ((first|(refine iM fun _=>?_)|((first|apply bD|apply bB)<;>intro _<;>try omega))<;>conv=>whnf)
 all_goals have h:((X.avs x.kids).length:Int)=x.kids.length:=by rw[X.avs_len]
 all_goals first
  |exact RetK.ff (by simp_all[noneB])
  |exact RetK.bool (by simp_all[noneB])
def HC(s:Str)(h:Bool):Bool:=bif h then isName s else s==[]
def Gl(s:Str)(h:Bool):aP 203 [.str s,.bool h] (.bool (HC s h)):=by
 refine sC Do func203 ?_;conv=>whnf
 repeat' ((first|refine cP (LN _) ?_|((first|apply bN|apply bB)<;>intro _<;>try omega))<;>conv=>whnf)
 all_goals first
  |exact RetK.tt (by simp_all[HC])
  |exact RetK.ff (by simp_all[HC])
  |exact RetK.bool (by simp_all[HC])
def PM(x:X)(h:Bool):Bool:=bif h then Ij x else noneB x
def Gr(x:X)(h:Bool):aP 204 [.agg x.cells,.bool h] (.bool (PM x h)):=by
 refine sC B1 func204 ?_;conv=>whnf
 repeat' ((first|refine cP (BX _) ?_|refine cP (ET _) ?_|((first|apply bN|apply bB)<;>intro _<;>try omega))<;>conv=>whnf)
 all_goals first
  |exact RetK.tt (by simp_all[PM])
  |exact RetK.ff (by simp_all[PM])
  |exact RetK.bool (by simp_all[PM])
def Us(a:Arg):Bool:=HC a.name a.ref&&PM a.x (!a.ref)
def R4(l:List Arg):aP 205 [IL l] (.bool (l.all Us)):=by
 refine sC Hw func205 ?_;conv=>whnf
 refine iM fun _=>?_;conv=>whnf
 refine lI (fun j:Nat=>⟨[(5,.p (IL l)),(6,.p (.int .i64 (l.map fun a=>AV.agg a.cells).length)),(7,.j j)],[]⟩) (fun j=>j<=l.length/\(l.drop j).all Us=l.all Us) (fun j=>l.length-j) 0 ⟨x4j _,rfl⟩ ?_;rintro j ⟨k,h⟩;have n:(l.map fun a=>AV.agg a.cells).length=l.length:=x3a _;conv=>whnf
 repeat' ((first|refine cP (Gl _ _) ?_|refine cP (Gr _ _) ?_|(refine gX ?_;intros)|((first|apply bD|apply bN)<;>intro _<;>try omega))<;>conv=>whnf)
 .exact nX (j+1) ⟨by omega,by rw[Vm (by omega) (by simp_all[Us])];exact h⟩
 .exact RetK.ff (by rw[<-h,Kx (by omega) (by simp_all[Us])])
 .exact RetK.ff (by rw[<-h,Kx (by omega) (by simp_all[Us])])
 .exact RetK.tt (by rw[<-h,Vn (by omega)])
structure Flds where
 name:Bool
 C:Bool
 x:Bool
 has:Bool
 V:Bool
 Z:Bool
def Zd(k:Int)(has:Bool)(h:Bool):Option Flds:=
 if k=1 then some ⟨true,false,true,has,false,false⟩
 else if k=2 then some ⟨true,false,false,has,false,false⟩
 else if k=10 then some ⟨true,false,false,has,false,false⟩
 else if k=3 then some ⟨false,false,true,has,false,false⟩
 else if k=4 then some ⟨!h,true,false,has,false,false⟩
 else if k=5 then some ⟨false,false,true,has,true,true⟩
 else if k=6 then some ⟨false,false,true,has,true,false⟩
 else if k=9 then some ⟨false,false,has,false,false,false⟩
 else if k=7 then some ⟨false,false,false,has,false,false⟩
 else if k=8 then some ⟨false,false,false,has,false,false⟩
 else none
def UH(s:S):Bool:=
 match Zd s.kind s.has (s.name==[])with
 |none=>false
 |some f=> !(f.has||(!f.V&&decide (0<s.V.length))||(!f.Z&&decide (0<s.Z.length))||(!decide (s.kind=4)&&decide (0<s.args.length)))&&HC s.name f.name&&HC s.C f.C&&PM s.x f.x&&s.args.all Us
def Sx{s:S}{f:Flds}(h:Zd s.kind s.has (s.name==[])=some f):UH s=(!(f.has||(!f.V&&decide (0<s.V.length))||(!f.Z&&decide (0<s.Z.length))||(!decide (s.kind=4)&&decide (0<s.args.length)))&&HC s.name f.name&&HC s.C f.C&&PM s.x f.x&&s.args.all Us):=by
 unfold UH;rw[h]
def R3(s:S):aP 155 [.agg s.cells] (.bool (UH s)):=by
 refine sC Hx func155 ?_;conv=>whnf
 repeat' ((first|(refine iM fun _=>?_)|refine cP (Gl _ _) ?_|refine cP (Gr _ _) ?_|refine cP (R4 _) ?_|refine dA ?_|((first|apply bD|apply bE|apply bN|apply bB)<;>intro _<;>try omega))<;>conv=>whnf)
 all_goals first
  |exact RetK.ff (by simp_all[UH,Zd,S.avs_len])
  |exact RetK.bool (by simp_all[UH,Zd,S.avs_len])
  |exact RetK.ff (by simp_all[UH,Zd,S.avs_len];omega)
mutual
def N9(nest seen:Int):S->Option Int
 | .mk id kind Y name C x has args V Z=>
   if seen+1>200 then none else if id≠seen+1 then none else
   bif namesB Y then bif UH (.mk id kind Y name C x has args V Z)then
    match JA (nest+1) (seen+1) V with
    |some m=>JA (nest+1) m Z
    |none=>none
   else none else none
def JA(nest seen:Int):List S->Option Int
 |[]=>some seen
 | s::r=>if nest>12 then none else match N9 nest seen s with
   |some m=>JA nest m r
   |none=>none
end
def E9(nest seen:Int)(s:S):N9 nest seen s=if seen+1>200 then none else if s.id≠seen+1 then none else
  bif namesB s.Y then bif UH s then
   match JA (nest+1) (seen+1) s.V with
   |some m=>JA (nest+1) m s.Z
   |none=>none
  else none else none:=by
 cases s;rw[N9];rfl
mutual
theorem q4o(nest seen:Int):∀(s:S){m:Int},N9 nest seen s=some m->seen<m/\m<=200
 | .mk id kind Y name C x has args V Z,m,h=>by
   simp only[N9]at h;split at h
   ·cases h
   split at h
   ·cases h
   cases hn:namesB Y<;>rw[hn]at h
   ·cases h
   cases hf:UH (.mk id kind Y name C x has args V Z)<;>rw[hf]at h
   ·cases h
   simp only[x4s]at h;split at h
   ·rename_i m1 h1;have h2:=Yb (nest+1) (seen+1) V (by omega) h1;have h3:=Yb (nest+1) m1 Z h2.2 h;omega
   ·cases h
theorem Yb(nest seen:Int):∀(l:List S){m:Int},seen<=200->JA nest seen l=some m->seen<=m/\m<=200
 | [],m,h0,h=>by
   simp only[JA]at h;cases h;omega
 | s::r,m,h0,h=>by
   simp only[JA]at h;split at h
   ·cases h
   split at h
   ·rename_i m1 h1;have h2:=q4o nest seen s h1;have h3:=Yb nest m1 r h2.2 h;omega
   ·cases h
end
def Lp(T:Nat)(nest seen:Int)(l:List S)(r:LV)(H:Heap):Prop:=
 match JA nest seen l with
 |some m=>r=.p .tt/\H=[(1000,.obj T [.p (.int .i64 m)])]
 |none=>r=.p .ff/\∃m,H=[(1000,.obj T [.p (.int .i64 m)])]
def Gh{m:Int}{l:List S}(h:JA nest seen l=some m):RetHK [(1000,.obj T [.p (.int .i64 m)])] (.p .tt) (Lp T nest seen l):=
 ⟨.p .tt,.refl _,by unfold Lp;rw[h];exact⟨rfl,rfl⟩⟩
def Xt{m:Int}{l:List S}(h:JA nest seen l=none):RetHK [(1000,.obj T [.p (.int .i64 m)])] (.p .ff) (Lp T nest seen l):=
 ⟨.p .ff,.refl _,by unfold Lp;rw[h];exact⟨rfl,_,rfl⟩⟩
def Yp{l:List S}{Q:LV->Heap->Prop}(q:seen<=200)(n:∀m,JA nest seen l=some m->seen<=m->m<=200->Q (.p .tt) [(1000,.obj T [.p (.int .i64 m)])])(o:JA nest seen l=none->∀m,Q (.p .ff) [(1000,.obj T [.p (.int .i64 m)])]):∀l' H',Lp T nest seen l l' H'->Q l' H':=by
 intro l' H' h;unfold Lp at h;cases k:JA nest seen l with
 | some m=>
   rw[k]at h;obtain⟨rfl,rfl⟩:=h;have:=Yb nest seen l q k;exact n m k this.1 this.2
 | none=>
   rw[k]at h;obtain⟨rfl,m,rfl⟩:=h;exact o k m
def N8{l:List S}(h:nest>12)(k:0<l.length):JA nest seen l=none:=by
 cases l with
 |nil=>cases k
 |cons s r=>simp only[JA];rw[if_pos h]
def E8{l:List S}(h:¬nest>12)(k:j<l.length):JA nest seen (l.drop j)=match N9 nest seen l[j]with
  |some m=>JA nest m (l.drop (j+1))
  |none=>none:=by
 rw[QM k,JA,if_neg h]
def ES:∀(d n:Nat)(_:n+d=14)(l:List S)(seen:Int)(_:0<=seen)(_:seen<=200),
  SpecH prog 90 [.ptr 1000 0,.p (eSs l),.j n] [(1000,.obj 157 [.p (.int .i64 seen)])] (Lp 157 n seen l):=by
 intro d;induction d with
 | zero=>
   intro n v l seen o q;refine sK JO func90 ?_;conv=>whnf
   repeat' ((first|(refine iM fun _=>?_)|(apply bD<;>intro _<;>try omega))<;>conv=>whnf)
   .exact Xt (N8 (by omega) (by rw[S.avs_len]at*;omega))
   .have u:=S.avs_len l;obtain rfl:l=[]:=x6k (by omega);refine lI (fun _:Unit=>⟨[(0,.ptr 1000 0),(2,.j n),(16,.p (eSs [])),(17,.p (.int .i64 (S.avs []).length)),(18,.j 0)],[(1000,.obj 157 [.p (.int .i64 seen)])]⟩) (fun _=>True) (fun _=>0) () trivial ?_;intro _ _;conv=>whnf
    repeat' (apply bD<;>intro _<;>first|omega|conv=>whnf)
    exact Gh rfl
 | succ d w=>
   intro n v l seen o q;refine sK JO func90 ?_;have u:=S.avs_len l;conv=>whnf
   repeat' ((first|(refine iM fun _=>?_)|(apply bD<;>intro _<;>try omega))<;>conv=>whnf)
   .exact Xt (N8 (by omega) (by omega))
   all_goals
    refine lI (fun i:Nat×Int=>⟨[(0,.ptr 1000 0),(2,.j n),(16,.p (eSs l)),(17,.p (.int .i64 (S.avs l).length)),(18,.j i.1)],[(1000,.obj 157 [.p (.int .i64 i.2)])]⟩) (fun i=>i.1<=l.length/\0<=i.2/\i.2<=200/\JA n i.2 (l.drop i.1)=JA n seen l) (fun i=>l.length-i.1) (0,seen) ⟨x4j _,o,q,rfl⟩ ?_;rintro⟨j,m⟩ ⟨r,s,t,k⟩;simp only at r s t k⊢;conv=>whnf
    repeat' ((first|refine cP (Z3 _) ?_|refine cP (R3 _) ?_|refine dA ?_|(refine gX ?_;intros)|((first|apply bD|apply bE|apply bN)<;>intro _<;>try omega)|(refine CallK.heap [(1000,1000)] 0 (by repeat' (first|exact x6e|refine x5w ?_ ?_|exact x4c _|exact x9x Sub.nils|exact x9x (Sub.tt rfl)|exact x9x (Sub.ff rfl)|exact x9x (Sub.int (by omega)))) (by refine x5x (j:=1000) rfl rfl ?_ ?_;exact CSub.refl _;exact x6z) (w (n+1) (by omega) _ _ (by omega) (by omega)) rfl rfl (Yp (by omega) (fun _ _ _ _=>?_) (fun _ _=>?_))))<;>conv=>whnf)
    all_goals try (have h:=E8 (seen:=m) (l:=l) (j:=j) (nest:=(n:Int)) (by omega) (by omega);rw[E9,show(n:Int)+1=((n+1:Nat):Int)from rfl]at h)
    all_goals first
     |exact Gh (by rw[<-k,x4l (by omega)];simp only[JA])
     |exact Xt (by rw[<-k,h];clear k h;first|rw[if_pos (by omega:m+1>200)]|(rw[if_neg (by omega:¬m+1>200)];simp[*,-Int.natCast_add]))
     |exact⟨(j+1,_),⟨by simp only;omega,by simp only;omega,by simp only;omega,by rw[<-k,h];clear k h;first|rw[if_pos (by omega:m+1>200)]|(rw[if_neg (by omega:¬m+1>200)];simp[*,-Int.natCast_add])⟩,by simp only;omega,Le.of_eq rfl⟩
def PK(f:Pr):Bool:=decide (f.B.length<=8)&&decide (f.zd.length<=16)&&isName f.name&&namesB f.zd&&namesB f.fin&&f.B.all fun a=>isName a.name
def ZW(seen:Int):List Pr->Option Int
 |[]=>some seen
 | f::r=>bif PK f then match JA 1 seen f.body with
    |some m=>ZW m r
    |none=>none
   else none
def BC(p:Pg):Bool:=decide (p.F.length<=16)&&decide (p.A.length<=16)&&namesB p.F&&(ZW 0 p.A).isSome
def Yx{l:List Pr}(h:j<l.length):ZW seen (l.drop j)=bif PK l[j]then match JA 1 seen l[j].body with
   |some m=>ZW m (l.drop (j+1))
   |none=>none
  else none:=by
 rw[QM h,ZW]
def GH{f:Pr}:PK f=true↔f.B.length<=8/\f.zd.length<=16/\isName f.name=true/\namesB f.zd=true/\namesB f.fin=true/\(f.B.all fun a=>isName a.name)=true:=by
 simp only[PK,x4n,x5k,and_assoc]
def Y9{l:List Pr}(k:j<l.length)(h:¬(l[j].B.length<=8/\l[j].zd.length<=16/\isName l[j].name=true/\namesB l[j].zd=true/\namesB l[j].fin=true/\(l[j].B.all fun a=>isName a.name)=true)):(ZW seen (l.drop j)).isSome=false:=by
 rw[Yx k];have:PK l[j]=false:=by rw[z0w];intro n;exact h (GH.1 n)
 rw[this];rfl
def TX(p:Pg):aP 58 [.agg p.cells] (.bool (BC p)):=by
 refine sC TM func58 ?_;conv=>whnf
 repeat' ((first|(refine gX ?_;intros)|refine cP (Z3 _) ?_|((first|apply bD|apply bN)<;>intro _<;>try omega))<;>conv=>whnf)
 all_goals try have y:(p.F.map AV.str).length=p.F.length:=x3a _
 all_goals try have z:(p.A.map fun f=>AV.agg f.cells).length=p.A.length:=x3a _
 .exact RetK.ff (by unfold BC;simp;omega)
 .exact RetK.ff (by unfold BC;simp;omega)
 .have u:BC p=(ZW 0 p.A).isSome:=by unfold BC;simp[*];omega
  rw[u];refine lI (fun i:Nat×Int=>⟨[(3,.ptr 0 0),(27,.p (.sl (p.A.map fun f=>AV.agg f.cells))),(28,.p (.int .i64 (p.A.map fun f=>AV.agg f.cells).length)),(29,.j i.1)],[(0,.obj 157 [.p (.int .i64 i.2)])]⟩) (fun i=>i.1<=p.A.length/\0<=i.2/\i.2<=200/\ZW i.2 (p.A.drop i.1)=ZW 0 p.A) (fun i=>p.A.length-i.1) (0,0) ⟨x4j _,by decide,by decide,rfl⟩ ?_;rintro⟨j,m⟩ ⟨v,w,x,o⟩;simp only at v w x o⊢;conv=>whnf
  repeat' ((first|(refine gX ?_;intros)|refine cP (Z3 _) ?_|refine cP (LN _) ?_|((first|apply bD|apply bN)<;>intro _<;>try omega))<;>conv=>whnf)
  all_goals try have d:((p.A[j]'(by omega)).B.map fun a=>AV.agg a.cells).length=(p.A[j]'(by omega)).B.length:=x3a _
  all_goals try have g:((p.A[j]'(by omega)).zd.map AV.str).length=(p.A[j]'(by omega)).zd.length:=x3a _
  rotate_left 2
  .have s:j<p.A.length:=by omega
   refine lI (fun i:Nat=>⟨[(3,.ptr 0 0),(5,.p (.ip p.A[j].cells)),(27,.p (.sl (p.A.map fun f=>AV.agg f.cells))),(28,.p (.int .i64 (p.A.map fun f=>AV.agg f.cells).length)),(29,.j j),(62,.p (.sl (p.A[j].B.map fun a=>AV.agg a.cells))),(63,.p (.int .i64 (p.A[j].B.map fun a=>AV.agg a.cells).length)),(64,.j i)],[(0,.obj 157 [.p (.int .i64 m)])]⟩) (fun i=>i<=p.A[j].B.length/\((p.A[j].B.drop i).all fun a=>isName a.name)=p.A[j].B.all fun a=>isName a.name) (fun i=>p.A[j].B.length-i) 0 ⟨x4j _,rfl⟩ ?_;rintro i ⟨D,r⟩;conv=>whnf
   repeat' ((first|refine cP (LN _) ?_|(refine gX ?_;intros)|((first|apply bD|apply bN)<;>intro _<;>try omega)|(refine CallK.heap [(1000,0)] 0 (by repeat' (first|exact x6e|refine x5w ?_ ?_|exact x4c _|exact x9x Sub.nils|exact x9x (Sub.tt rfl)|exact x9x (Sub.ff rfl)|exact x9x (Sub.int (by omega)))) (by refine x5x (j:=0) rfl rfl ?_ ?_;exact CSub.refl _;exact x6z) (ES 13 1 rfl _ _ (by omega) (by omega)) rfl rfl (Yp (by omega) (fun _ _ _ _=>?_) (fun _ _=>?_))))<;>conv=>whnf)
   .exact nX (i+1) ⟨by omega,by rw[<-r,Vm (p:=fun a:Param=>isName a.name) (by omega) (by assumption)]⟩
   .exact RetK.ff (by
     rw[<-o];refine Y9 s fun h=>?_;have:=Kx (p:=fun a:Param=>isName a.name) (l:=p.A[j].B) (j:=i) (by omega) (by assumption);rw[r,h.2.2.2.2.2]at this;cases this)
   all_goals
    have q:(p.A[j].B.all fun a=>isName a.name)=true:=by rw[<-r,Vn (by omega)]
    have C:PK p.A[j]=true:=GH.2 ⟨by omega,by omega,by assumption,by assumption,by assumption,q⟩;have n:=Yx (seen:=m) s;rw[C,x4s]at n
   .rename_i t k _ _;replace k:JA 1 m p.A[j].body=some t:=k;rw[k]at n;exact nX (j+1,t) ⟨by simp only;omega,by simp only;omega,by simp only;omega,by rw[<-o,n]⟩
   .rename_i k _;replace k:JA 1 m p.A[j].body=none:=k;rw[k]at n;exact RetK.ff (by rw[<-o,n];rfl)
  all_goals first
   |exact RetK.tt (by rw[<-o,x4l (by omega)];rfl)
   |exact RetK.ff (by rw[<-o];exact Y9 (by omega) fun h=>by omega)
   |exact RetK.ff (by rw[<-o];exact Y9 (by omega) fun h=>by simp_all)
 .exact RetK.ff (by unfold BC;simp[*])
def WM(l:List Str)(v:Str):aP 91 [eStrs l,.str v] (.int .i64 (idxF (fun s=>v==s) l)):=by
 refine sC YE func91 ?_;conv=>whnf
 refine iM fun _=>?_;have o:(l.map AV.str).length=l.length:=x3a _;conv=>whnf
 refine lI (fun j:Nat=>⟨[(0,.p (eStrs l)),(1,.p (.str v)),(7,.p (.int .i64 (l.map AV.str).length)),(8,.j j)],[]⟩) (fun j=>j<=l.length/\(l.drop j).any (fun s=>v==s)=l.any (fun s=>v==s)/\l.findIdx (fun s=>v==s)=j+(l.drop j).findIdx (fun s=>v==s)) (fun j=>l.length-j) 0 ⟨x4j _,rfl,by simp⟩ ?_;rintro j ⟨n,h,k⟩;conv=>whnf
 repeat' ((first|(refine gX ?_;intros)|((first|apply bD|apply bB)<;>intro _<;>try omega))<;>conv=>whnf)
 .exact RetK.int (Wl (p:=fun s=>v==s) (by omega) (by assumption) h k).symm
 .exact nX (j+1) ⟨by omega,by rw[<-h,Bz (p:=fun s=>v==s) (by omega) (by assumption)],by rw[k,IC (p:=fun s=>v==s) (by omega) (by assumption)];omega⟩
 .exact RetK.int (by rw[Fx];rw[<-h,Vr (by omega)])
def QZ(l:List Str)(v:Str):aP 85 [eStrs l,.str v] (.bool (l.any fun s=>v==s)):=by
 refine sC UR func85 ?_;conv=>whnf
 repeat' (refine cP (WM _ _) ?_;conv=>whnf)
 exact RetK.bool Uc
def UQ(l:List Str):Bool:=(List.range l.length).any fun i=>(l.take i).any fun s=>l[i]?.getD []==s
def NN(l:List Str):aP 92 [eStrs l] (.bool (UQ l)):=by
 refine sC H7 func92 ?_;conv=>whnf
 refine iM fun _=>?_;have q:(l.map AV.str).length=l.length:=x3a _;conv=>whnf
 refine lI (fun j:Nat=>⟨[(0,.p (eStrs l)),(5,.p (eStrs l)),(6,.p (.int .i64 (l.map AV.str).length)),(7,.j j)],[]⟩) (fun j=>j<=l.length/\((List.range l.length).drop j).any (fun i=>(l.take i).any fun s=>l[i]?.getD []==s)=UQ l) (fun j=>l.length-j) 0 ⟨x4j _,rfl⟩ ?_;rintro j ⟨o,h⟩;conv=>whnf
 repeat' ((first|(refine iA fun _=>?_)|refine wI ?_|refine x4e (fun e n=>by obtain⟨x,_,rfl⟩:=x4y.1 n;rfl) (x9r 0 j rfl rfl (by omega) (by omega) ?_)|refine cP (QZ (l.take j) (l[j]'(by omega))) ?_ (ha:=.cons (Sub.of_eq (by simp[eStrs,map_take])) (.cons (Sub.refl _) .nil))|((first|apply bD|apply bB)<;>intro _<;>try omega))<;>conv=>whnf)
 all_goals try have k:(List.range l.length)[j]'(by simp;omega)=j:=by simp
 all_goals try have e:l[j]?.getD []=l[j]'(by omega):=by rw[x3e (by omega)];rfl
 .exact RetK.tt (by rw[<-h,Ce (p:=fun i=>(l.take i).any fun s=>l[i]?.getD []==s) (by simp;omega) (by rw[k,e];assumption)])
 .exact nX (j+1) ⟨by omega,by rw[<-h,Bz (p:=fun i=>(l.take i).any fun s=>l[i]?.getD []==s) (by simp;omega) (by rw[k,e];assumption)]⟩
 .exact RetK.ff (by rw[<-h,Vr (by simp;omega)])
def Lg(f:Pr):List Str:=f.B.map Param.name++f.zd
def Ev(f:Pr)(k:f.B.length<=1000)(l:f.zd.length<=1000):aP 93 [.agg f.cells] (eStrs (Lg f)):=by
 refine sC Mk func93 ?_;conv=>whnf
 refine iM fun _=>?_;have o:(f.B.map fun a=>AV.agg a.cells).length=f.B.length:=x3a _;conv=>whnf
 refine lJ (fun j:Nat=>⟨[(1,.p (.ip f.cells)),(3,.hd 0 0 j),(7,.p (.sl (f.B.map fun a=>AV.agg a.cells))),(8,.p (.int .i64 (f.B.map fun a=>AV.agg a.cells).length)),(9,.j j)],[(0,.own 9 1 ((f.B.take j).map fun a=>AV.str a.name))]⟩) (fun j=>j<=f.B.length) (fun j=>f.B.length-j) 0 (lM [(0,.own 9 1 [])]) (x4j _) ?_;intro j n;conv=>whnf
 repeat' ((first|(refine gX ?_;intros)|refine pA 1 16 (by simp;omega) ?_|refine AppK.mk (by simp;omega) rfl (by rw[x3a];show(j+f.zd.length)*16<=140737488355328;omega) (by rw[x3a];show j+f.zd.length<=9223372036854775807;omega) (fun x h=>by obtain⟨y,_,rfl⟩:=x4y.1 h;exact⟨rfl,rfl⟩) ?_|(apply bD<;>intro _<;>try omega))<;>conv=>whnf)
 .exact ⟨j+1,by omega,by omega,Le.of_eq (by rw[q1z (by omega)];rfl)⟩
 .refine ⟨_,.hd rfl (by simp;omega),?_⟩;rw[x4b (by omega)];simp[eStrs,Lg]
mutual
def UZ:S->Nat
 |.mk _ _ _ _ _ _ _ _ V Z=>1+QJ V+QJ Z
def QJ:List S->Nat
 |[]=>0
 |s::r=>UZ s+QJ r
end
def UK(s:S):UZ s=1+QJ s.V+QJ s.Z:=by
 cases s;rw[UZ];rfl
def MI{l:List S}(h:j<l.length):QJ (l.drop j)=UZ l[j]+QJ (l.drop (j+1)):=by
 rw[QM h,QJ]
def Rn{l:List S}(h:l.length<=j):QJ (l.drop j)=0:=by
 rw[x4l h,QJ]
def A0:∀(n:Nat)(_:n<=100000)(s:S)(_:UZ s<=n),aP 151 [.agg s.cells] (.int .i64 (UZ s)):=by
 intro n;induction n with
 |zero=>intro _ s h;rw[UK]at h;omega
 | succ n w=>
   intro g s h;have A:=UK s;have d:=S.avs_len s.V;have f:=S.avs_len s.Z;refine sC Mw func151 ?_;conv=>whnf
   repeat' ((refine iM fun _=>?_)<;>conv=>whnf)
   refine lI (fun i:Nat×Nat=>⟨[(1,.p (.ip s.cells)),(3,.j i.2),(9,.p (eSs s.V)),(10,.p (.int .i64 (S.avs s.V).length)),(11,.j i.1)],[]⟩) (fun i=>i.1<=s.V.length/\1<=i.2/\i.2+QJ (s.V.drop i.1)=1+QJ s.V) (fun i=>s.V.length-i.1) (0,1) ⟨x4j _,x4m _,rfl⟩ ?_;rintro⟨j,a⟩ ⟨x,r,q⟩;simp only at x q r⊢;have o:∀u:j<s.V.length,QJ (s.V.drop j)=UZ s.V[j]+QJ (s.V.drop (j+1)):=fun u=>MI u;conv=>whnf
   repeat' ((first|(refine gX ?_;intros)|(refine cP (w (by omega) (s.V[j]'(by omega)) (by have:=o (by omega);omega)) ?_ (ha:=.cons (Sub.refl _) .nil);have o:=o (by omega))|(apply bD<;>intro _<;>try omega))<;>conv=>whnf)
   .exact nX (j+1,a+UZ s.V[j]) ⟨by simp only;omega,by simp only;omega,by simp only;omega⟩
   .have ha:a=1+QJ s.V:=by rw[Rn (by omega)]at q;omega
    refine lI (fun i:Nat×Nat=>⟨[(3,.j i.2),(21,.p (eSs s.Z)),(22,.p (.int .i64 (S.avs s.Z).length)),(23,.j i.1)],[]⟩) (fun i=>i.1<=s.Z.length/\1<=i.2/\i.2+QJ (s.Z.drop i.1)=UZ s) (fun i=>s.Z.length-i.1) (0,a) ⟨x4j _,r,by simp only[List.drop_zero];omega⟩ ?_;rintro⟨k,b⟩ ⟨y,z,t⟩;simp only at y z t⊢;have l:∀v:k<s.Z.length,QJ (s.Z.drop k)=UZ s.Z[k]+QJ (s.Z.drop (k+1)):=fun v=>MI v;conv=>whnf
    repeat' ((first|(refine gX ?_;intros)|(refine cP (w (by omega) (s.Z[k]'(by omega)) (by have:=l (by omega);omega)) ?_ (ha:=.cons (Sub.refl _) .nil);have l:=l (by omega))|(apply bD<;>intro _<;>try omega))<;>conv=>whnf)
    .exact nX (k+1,b+UZ s.Z[k]) ⟨by simp only;omega,by simp only;omega,by simp only;omega⟩
    .exact RetK.int (by rw[Rn (by omega)]at t;omega)
structure Item where
 s:S
 C:Int
 up:Int
 next:Int
 loop:Int
def Item.cells(i:Item):List AV:=i.s.cells++[.int .i64 i.C,.int .i64 i.up,.int .i64 i.next,.int .i64 i.loop]
mutual
def V1(C up nx loop:Int)(acc:List Item):S->List Item
 | .mk id kind Y name pr x has args V Z=>
   XD C (acc.length+1) (if kind=6 then acc.length+1 else nx) (if kind=6 then acc.length+1 else loop)
    (XD C (acc.length+1) (if kind=6 then acc.length+1 else nx) (if kind=6 then acc.length+1 else loop) (acc++[⟨.mk id kind Y name pr x has args V Z,C,up,nx,loop⟩]) V) Z
def XD(C up nx loop:Int)(acc:List Item):List S->List Item
 |[]=>acc
 |t::r=>XD C up nx loop (V1 C up (if r.isEmpty then nx else acc.length+1+UZ t) loop acc t) r
end
def DR(C l nx k:Int)(h:List Item)(t:S):V1 C l nx k h t=XD C (h.length+1) (if t.kind=6 then h.length+1 else nx) (if t.kind=6 then h.length+1 else k)
   (XD C (h.length+1) (if t.kind=6 then h.length+1 else nx) (if t.kind=6 then h.length+1 else k) (h++[⟨t,C,l,nx,k⟩]) t.V) t.Z:=by
 cases t;rw[V1];rfl
mutual
theorem ZV(C up nx loop:Int)(acc:List Item):∀t:S,(V1 C up nx loop acc t).length=acc.length+UZ t
 | .mk id kind Y name pr x has args V Z=>by
   rw[V1,UZ,XU _ _ _ _ _ Z,XU _ _ _ _ _ V];simp;omega
theorem XU(C up nx loop:Int)(acc:List Item):∀l:List S,(XD C up nx loop acc l).length=acc.length+QJ l
 |[]=>by rw[XD,QJ];rfl
 | t::r=>by
   rw[XD,QJ,XU _ _ _ _ _ r,ZV _ _ _ _ _ t];omega
end
def VI{C o nx k:Int}{n:List Item}{l:List S}(q:j<l.length):
  XD C o nx k n (l.drop j)=XD C o nx k (V1 C o (if j+1<l.length then n.length+1+UZ l[j]else nx) k n l[j]) (l.drop (j+1)):=by
 rw[QM q,XD];congr 2;by_cases h:j+1<l.length
 .rw [if_pos h,if_neg];simp only[List.isEmpty_iff];intro p;have:=x6h List.length p;simp at this;omega
 .rw [if_neg h,if_pos];rw[x4l (by omega)];rfl
def Ek(o tI l:Nat)(n pr:AV)(L:List Item)(k h:List Int):Heap:=
 [(1000,.obj o [.p n,.p pr,.hd 2000 0 L.length,.hd 2001 0 k.length,.hd 2002 0 h.length]),(2000,.own tI 17 (L.map fun i=>.agg i.cells)),(2001,.own l 1 (k.map (.int .i64))),(2002,.own l 1 (h.map (.int .i64)))]
def X0:X:=.mk 0 0 [] []
def S0:S:=.mk 0 0 [] [] [] X0 false [] [] []
theorem LSub.agg{cs l:List AV}(h:SubL cs l):LSub (.p (.agg cs)) (.p (.agg l)):=.p (Sub.agg h)
def RQ:∀(n:Nat)(_:n<=1000)(l:List S)(_:QJ l<n)(u:List Item)(_:u.length+QJ l<=1000)(a:Item)(r pr:AV)(t s:List Int),
  aH 87 [.ptr 1000 0,.p (eSs l),.p (.agg a.cells)] (Ek 130 154 3 r pr u t s) (.p (.tup [])) (Ek 130 154 3 r pr (XD a.C a.up a.next a.loop u l) t s):=by
 intro n;induction n with
 |zero=>intro _ l h;omega
 | succ n v=>
   intro E l D u z a r pr t s;have A:=S.avs_len l;refine sK Zo func87 ?_;conv=>whnf
   repeat' ((refine iM fun _=>?_)<;>conv=>whnf)
   refine lI (fun i:Nat×List Item=>⟨[(0,.ptr 1000 0),(1,.p (eSs l)),(5,.p (.ip a.cells)),(11,.p (eSs l)),(12,.p (.int .i64 (S.avs l).length)),(13,.j i.1)],Ek 130 154 3 r pr i.2 t s⟩) (fun i=>i.1<=l.length/\u.length<=i.2.length/\i.2.length+QJ (l.drop i.1)=u.length+QJ l/\XD a.C a.up a.next a.loop i.2 (l.drop i.1)=XD a.C a.up a.next a.loop u l) (fun i=>l.length-i.1) (0,u) ⟨x4j _,x4m _,rfl,rfl⟩ ?_;rintro⟨j,b⟩ ⟨d,g,f,y⟩;simp only at d f y g⊢;have q:∀k:j<l.length,QJ (l.drop j)=UZ l[j]+QJ (l.drop (j+1)):=fun k=>MI k;conv=>whnf
   repeat' ((first|(refine gX ?_;intros)|refine dA ?_|refine cP (A0 1000 (by omega) (l[j]'(by omega)) (by have:=q (by omega);omega)) ?_ (ha:=.cons (Sub.refl _) .nil)|refine Wr.i64 (by have:=q (by omega);omega) (by have:=q (by omega);omega) ?_|refine AppK.mk (by simp) rfl (by show(b.length+1)*240<=140737488355328;have:=q (by omega);omega) (by show b.length+1<=9223372036854775807;have:=q (by omega);omega) (fun x B=>by rcases x4w.1 B with rfl;exact⟨rfl,rfl⟩) ?_|(apply bD<;>intro _<;>try omega)|refine x4e ?_ ?_)<;>conv=>whnf)
   .have k:j<l.length:=by omega
    have q:=q k;have w:=UK l[j];refine cJ rH0 0 (v (by omega) l[j].V (by omega) (b++[⟨l[j]'k,a.C,a.up,(b.length+1+UZ (l[j]'k):Int),a.loop⟩]) (by rw[x3o];simp only[x4i];omega) ⟨S0,a.C,b.length+1,(b.length+1:Int),(b.length+1:Int)⟩ r pr t s) ?_ (ha:=(by refine x5w (x4c _) (x5w (x4c _) (x5w (LSub.agg ?_) x6e));repeat' (first|exact SubL.nil|refine SubL.cons ?_ ?_|exact Sub.refl _|exact Sub.nils|exact Sub.ff rfl))) (hH:=by exact x5x (j:=1000) rfl rfl (CSub.of_eq (by rw[x3o];first|done|rfl)) (x5x (j:=2000) rfl rfl (CSub.of_eq (by rw[x4d];first|done|rfl)) (x5x (j:=2001) rfl rfl (CSub.refl _) (x5x (j:=2002) rfl rfl (CSub.refl _) x6z))));rintro l' H' ⟨rfl,rfl⟩;conv=>whnf
    refine cJ rH0 0 (v (by omega) l[j].Z (by omega) (XD a.C (b.length+1) (b.length+1:Int) (b.length+1:Int) (b++[⟨l[j]'k,a.C,a.up,(b.length+1+UZ (l[j]'k):Int),a.loop⟩]) (l[j]'k).V) (by rw[XU,x3o];simp only[x4i];omega) ⟨S0,a.C,b.length+1,(b.length+1:Int),(b.length+1:Int)⟩ r pr t s) ?_ (ha:=(by refine x5w (x4c _) (x5w (x4c _) (x5w (LSub.agg ?_) x6e));repeat' (first|exact SubL.nil|refine SubL.cons ?_ ?_|exact Sub.refl _|exact Sub.nils|exact Sub.ff rfl))) (hH:=by exact x5x (j:=1000) rfl rfl (CSub.refl _) (x5x (j:=2000) rfl rfl (CSub.refl _) (x5x (j:=2001) rfl rfl (CSub.refl _) (x5x (j:=2002) rfl rfl (CSub.refl _) x6z))));rintro l' H' ⟨rfl,rfl⟩;conv=>whnf
    refine wI ?_;conv=>whnf
    have o:V1 a.C a.up (b.length+1+UZ (l[j]'k):Int) a.loop b l[j]=XD a.C (b.length+1) (b.length+1:Int) (b.length+1:Int) (XD a.C (b.length+1) (b.length+1:Int) (b.length+1:Int) (b++[⟨l[j]'k,a.C,a.up,(b.length+1+UZ (l[j]'k):Int),a.loop⟩]) (l[j]'k).V) l[j].Z:=by
     rw[DR,if_pos (by assumption),if_pos (by assumption)]
    exact⟨(j+1,V1 a.C a.up (b.length+1+UZ (l[j]'k):Int) a.loop b l[j]),⟨by simp only;omega,by simp only;rw[ZV];omega,by simp only;rw[ZV];omega,by simp only;rw[<-y,VI k,if_pos (by omega)]⟩,by simp only;omega,Le.of_eq (by simp only;rw[o];rfl)⟩
   .have k:j<l.length:=by omega
    have q:=q k;have w:=UK l[j];refine cJ rH0 0 (v (by omega) l[j].V (by omega) (b++[⟨l[j]'k,a.C,a.up,(b.length+1+UZ (l[j]'k):Int),a.loop⟩]) (by rw[x3o];simp only[x4i];omega) ⟨S0,a.C,b.length+1,(b.length+1+UZ (l[j]'k):Int),a.loop⟩ r pr t s) ?_ (ha:=(by refine x5w (x4c _) (x5w (x4c _) (x5w (LSub.agg ?_) x6e));repeat' (first|exact SubL.nil|refine SubL.cons ?_ ?_|exact Sub.refl _|exact Sub.nils|exact Sub.ff rfl))) (hH:=by exact x5x (j:=1000) rfl rfl (CSub.of_eq (by rw[x3o];first|done|rfl)) (x5x (j:=2000) rfl rfl (CSub.of_eq (by rw[x4d];first|done|rfl)) (x5x (j:=2001) rfl rfl (CSub.refl _) (x5x (j:=2002) rfl rfl (CSub.refl _) x6z))));rintro l' H' ⟨rfl,rfl⟩;conv=>whnf
    refine cJ rH0 0 (v (by omega) l[j].Z (by omega) (XD a.C (b.length+1) (b.length+1+UZ (l[j]'k):Int) a.loop (b++[⟨l[j]'k,a.C,a.up,(b.length+1+UZ (l[j]'k):Int),a.loop⟩]) (l[j]'k).V) (by rw[XU,x3o];simp only[x4i];omega) ⟨S0,a.C,b.length+1,(b.length+1+UZ (l[j]'k):Int),a.loop⟩ r pr t s) ?_ (ha:=(by refine x5w (x4c _) (x5w (x4c _) (x5w (LSub.agg ?_) x6e));repeat' (first|exact SubL.nil|refine SubL.cons ?_ ?_|exact Sub.refl _|exact Sub.nils|exact Sub.ff rfl))) (hH:=by exact x5x (j:=1000) rfl rfl (CSub.refl _) (x5x (j:=2000) rfl rfl (CSub.refl _) (x5x (j:=2001) rfl rfl (CSub.refl _) (x5x (j:=2002) rfl rfl (CSub.refl _) x6z))));rintro l' H' ⟨rfl,rfl⟩;conv=>whnf
    refine wI ?_;conv=>whnf
    have o:V1 a.C a.up (b.length+1+UZ (l[j]'k):Int) a.loop b l[j]=XD a.C (b.length+1) (b.length+1+UZ (l[j]'k):Int) a.loop (XD a.C (b.length+1) (b.length+1+UZ (l[j]'k):Int) a.loop (b++[⟨l[j]'k,a.C,a.up,(b.length+1+UZ (l[j]'k):Int),a.loop⟩]) (l[j]'k).V) l[j].Z:=by
     rw[DR,if_neg (by assumption),if_neg (by assumption)]
    exact⟨(j+1,V1 a.C a.up (b.length+1+UZ (l[j]'k):Int) a.loop b l[j]),⟨by simp only;omega,by simp only;rw[ZV];omega,by simp only;rw[ZV];omega,by simp only;rw[<-y,VI k,if_pos (by omega)]⟩,by simp only;omega,Le.of_eq (by simp only;rw[o];rfl)⟩
   .have k:j<l.length:=by omega
    have q:=q k;have w:=UK l[j];refine cJ rH0 0 (v (by omega) l[j].V (by omega) (b++[⟨l[j]'k,a.C,a.up,(b.length+1+UZ (l[j]'k):Int),a.loop⟩]) (by rw[x3o];simp only[x4i];omega) ⟨S0,a.C,b.length+1,(b.length+1:Int),(b.length+1:Int)⟩ r pr t s) ?_ (ha:=(by refine x5w (x4c _) (x5w (x4c _) (x5w (LSub.agg ?_) x6e));repeat' (first|exact SubL.nil|refine SubL.cons ?_ ?_|exact Sub.refl _|exact Sub.nils|exact Sub.ff rfl))) (hH:=by exact x5x (j:=1000) rfl rfl (CSub.of_eq (by rw[x3o];first|done|rfl)) (x5x (j:=2000) rfl rfl (CSub.of_eq (by rw[x4d];first|done|rfl)) (x5x (j:=2001) rfl rfl (CSub.refl _) (x5x (j:=2002) rfl rfl (CSub.refl _) x6z))));rintro l' H' ⟨rfl,rfl⟩;conv=>whnf
    refine cJ rH0 0 (v (by omega) l[j].Z (by omega) (XD a.C (b.length+1) (b.length+1:Int) (b.length+1:Int) (b++[⟨l[j]'k,a.C,a.up,(b.length+1+UZ (l[j]'k):Int),a.loop⟩]) (l[j]'k).V) (by rw[XU,x3o];simp only[x4i];omega) ⟨S0,a.C,b.length+1,(b.length+1:Int),(b.length+1:Int)⟩ r pr t s) ?_ (ha:=(by refine x5w (x4c _) (x5w (x4c _) (x5w (LSub.agg ?_) x6e));repeat' (first|exact SubL.nil|refine SubL.cons ?_ ?_|exact Sub.refl _|exact Sub.nils|exact Sub.ff rfl))) (hH:=by exact x5x (j:=1000) rfl rfl (CSub.refl _) (x5x (j:=2000) rfl rfl (CSub.refl _) (x5x (j:=2001) rfl rfl (CSub.refl _) (x5x (j:=2002) rfl rfl (CSub.refl _) x6z))));rintro l' H' ⟨rfl,rfl⟩;conv=>whnf
    refine wI ?_;conv=>whnf
    have o:V1 a.C a.up (b.length+1+UZ (l[j]'k):Int) a.loop b l[j]=XD a.C (b.length+1) (b.length+1:Int) (b.length+1:Int) (XD a.C (b.length+1) (b.length+1:Int) (b.length+1:Int) (b++[⟨l[j]'k,a.C,a.up,(b.length+1+UZ (l[j]'k):Int),a.loop⟩]) (l[j]'k).V) l[j].Z:=by
     rw[DR,if_pos (by assumption),if_pos (by assumption)]
    exact⟨(j+1,V1 a.C a.up (b.length+1+UZ (l[j]'k):Int) a.loop b l[j]),⟨by simp only;omega,by simp only;rw[ZV];omega,by simp only;rw[ZV];omega,by simp only;rw[<-y,VI k,if_pos (by omega)]⟩,by simp only;omega,Le.of_eq (by simp only;rw[o];rfl)⟩
   .have k:j<l.length:=by omega
    have q:=q k;have w:=UK l[j];refine cJ rH0 0 (v (by omega) l[j].V (by omega) (b++[⟨l[j]'k,a.C,a.up,(b.length+1+UZ (l[j]'k):Int),a.loop⟩]) (by rw[x3o];simp only[x4i];omega) ⟨S0,a.C,b.length+1,(b.length+1+UZ (l[j]'k):Int),a.loop⟩ r pr t s) ?_ (ha:=(by refine x5w (x4c _) (x5w (x4c _) (x5w (LSub.agg ?_) x6e));repeat' (first|exact SubL.nil|refine SubL.cons ?_ ?_|exact Sub.refl _|exact Sub.nils|exact Sub.ff rfl))) (hH:=by exact x5x (j:=1000) rfl rfl (CSub.of_eq (by rw[x3o];first|done|rfl)) (x5x (j:=2000) rfl rfl (CSub.of_eq (by rw[x4d];first|done|rfl)) (x5x (j:=2001) rfl rfl (CSub.refl _) (x5x (j:=2002) rfl rfl (CSub.refl _) x6z))));rintro l' H' ⟨rfl,rfl⟩;conv=>whnf
    refine cJ rH0 0 (v (by omega) l[j].Z (by omega) (XD a.C (b.length+1) (b.length+1+UZ (l[j]'k):Int) a.loop (b++[⟨l[j]'k,a.C,a.up,(b.length+1+UZ (l[j]'k):Int),a.loop⟩]) (l[j]'k).V) (by rw[XU,x3o];simp only[x4i];omega) ⟨S0,a.C,b.length+1,(b.length+1+UZ (l[j]'k):Int),a.loop⟩ r pr t s) ?_ (ha:=(by refine x5w (x4c _) (x5w (x4c _) (x5w (LSub.agg ?_) x6e));repeat' (first|exact SubL.nil|refine SubL.cons ?_ ?_|exact Sub.refl _|exact Sub.nils|exact Sub.ff rfl))) (hH:=by exact x5x (j:=1000) rfl rfl (CSub.refl _) (x5x (j:=2000) rfl rfl (CSub.refl _) (x5x (j:=2001) rfl rfl (CSub.refl _) (x5x (j:=2002) rfl rfl (CSub.refl _) x6z))));rintro l' H' ⟨rfl,rfl⟩;conv=>whnf
    refine wI ?_;conv=>whnf
    have o:V1 a.C a.up (b.length+1+UZ (l[j]'k):Int) a.loop b l[j]=XD a.C (b.length+1) (b.length+1+UZ (l[j]'k):Int) a.loop (XD a.C (b.length+1) (b.length+1+UZ (l[j]'k):Int) a.loop (b++[⟨l[j]'k,a.C,a.up,(b.length+1+UZ (l[j]'k):Int),a.loop⟩]) (l[j]'k).V) l[j].Z:=by
     rw[DR,if_neg (by assumption),if_neg (by assumption)]
    exact⟨(j+1,V1 a.C a.up (b.length+1+UZ (l[j]'k):Int) a.loop b l[j]),⟨by simp only;omega,by simp only;rw[ZV];omega,by simp only;rw[ZV];omega,by simp only;rw[<-y,VI k,if_pos (by omega)]⟩,by simp only;omega,Le.of_eq (by simp only;rw[o];rfl)⟩
   .have k:j<l.length:=by omega
    have q:=q k;have w:=UK l[j];refine cJ rH0 0 (v (by omega) l[j].V (by omega) (b++[⟨l[j]'k,a.C,a.up,a.next,a.loop⟩]) (by rw[x3o];simp only[x4i];omega) ⟨S0,a.C,b.length+1,(b.length+1:Int),(b.length+1:Int)⟩ r pr t s) ?_ (ha:=(by refine x5w (x4c _) (x5w (x4c _) (x5w (LSub.agg ?_) x6e));repeat' (first|exact SubL.nil|refine SubL.cons ?_ ?_|exact Sub.refl _|exact Sub.nils|exact Sub.ff rfl))) (hH:=by exact x5x (j:=1000) rfl rfl (CSub.of_eq (by rw[x3o];first|done|rfl)) (x5x (j:=2000) rfl rfl (CSub.of_eq (by rw[x4d];first|done|rfl)) (x5x (j:=2001) rfl rfl (CSub.refl _) (x5x (j:=2002) rfl rfl (CSub.refl _) x6z))));rintro l' H' ⟨rfl,rfl⟩;conv=>whnf
    refine cJ rH0 0 (v (by omega) l[j].Z (by omega) (XD a.C (b.length+1) (b.length+1:Int) (b.length+1:Int) (b++[⟨l[j]'k,a.C,a.up,a.next,a.loop⟩]) (l[j]'k).V) (by rw[XU,x3o];simp only[x4i];omega) ⟨S0,a.C,b.length+1,(b.length+1:Int),(b.length+1:Int)⟩ r pr t s) ?_ (ha:=(by refine x5w (x4c _) (x5w (x4c _) (x5w (LSub.agg ?_) x6e));repeat' (first|exact SubL.nil|refine SubL.cons ?_ ?_|exact Sub.refl _|exact Sub.nils|exact Sub.ff rfl))) (hH:=by exact x5x (j:=1000) rfl rfl (CSub.refl _) (x5x (j:=2000) rfl rfl (CSub.refl _) (x5x (j:=2001) rfl rfl (CSub.refl _) (x5x (j:=2002) rfl rfl (CSub.refl _) x6z))));rintro l' H' ⟨rfl,rfl⟩;conv=>whnf
    refine wI ?_;conv=>whnf
    have o:V1 a.C a.up a.next a.loop b l[j]=XD a.C (b.length+1) (b.length+1:Int) (b.length+1:Int) (XD a.C (b.length+1) (b.length+1:Int) (b.length+1:Int) (b++[⟨l[j]'k,a.C,a.up,a.next,a.loop⟩]) (l[j]'k).V) l[j].Z:=by
     rw[DR,if_pos (by assumption),if_pos (by assumption)]
    exact⟨(j+1,V1 a.C a.up a.next a.loop b l[j]),⟨by simp only;omega,by simp only;rw[ZV];omega,by simp only;rw[ZV];omega,by simp only;rw[<-y,VI k,if_neg (by omega)]⟩,by simp only;omega,Le.of_eq (by simp only;rw[o];rfl)⟩
   .have k:j<l.length:=by omega
    have q:=q k;have w:=UK l[j];refine cJ rH0 0 (v (by omega) l[j].V (by omega) (b++[⟨l[j]'k,a.C,a.up,a.next,a.loop⟩]) (by rw[x3o];simp only[x4i];omega) ⟨S0,a.C,b.length+1,a.next,a.loop⟩ r pr t s) ?_ (ha:=(by refine x5w (x4c _) (x5w (x4c _) (x5w (LSub.agg ?_) x6e));repeat' (first|exact SubL.nil|refine SubL.cons ?_ ?_|exact Sub.refl _|exact Sub.nils|exact Sub.ff rfl))) (hH:=by exact x5x (j:=1000) rfl rfl (CSub.of_eq (by rw[x3o];first|done|rfl)) (x5x (j:=2000) rfl rfl (CSub.of_eq (by rw[x4d];first|done|rfl)) (x5x (j:=2001) rfl rfl (CSub.refl _) (x5x (j:=2002) rfl rfl (CSub.refl _) x6z))));rintro l' H' ⟨rfl,rfl⟩;conv=>whnf
    refine cJ rH0 0 (v (by omega) l[j].Z (by omega) (XD a.C (b.length+1) a.next a.loop (b++[⟨l[j]'k,a.C,a.up,a.next,a.loop⟩]) (l[j]'k).V) (by rw[XU,x3o];simp only[x4i];omega) ⟨S0,a.C,b.length+1,a.next,a.loop⟩ r pr t s) ?_ (ha:=(by refine x5w (x4c _) (x5w (x4c _) (x5w (LSub.agg ?_) x6e));repeat' (first|exact SubL.nil|refine SubL.cons ?_ ?_|exact Sub.refl _|exact Sub.nils|exact Sub.ff rfl))) (hH:=by exact x5x (j:=1000) rfl rfl (CSub.refl _) (x5x (j:=2000) rfl rfl (CSub.refl _) (x5x (j:=2001) rfl rfl (CSub.refl _) (x5x (j:=2002) rfl rfl (CSub.refl _) x6z))));rintro l' H' ⟨rfl,rfl⟩;conv=>whnf
    refine wI ?_;conv=>whnf
    have o:V1 a.C a.up a.next a.loop b l[j]=XD a.C (b.length+1) a.next a.loop (XD a.C (b.length+1) a.next a.loop (b++[⟨l[j]'k,a.C,a.up,a.next,a.loop⟩]) (l[j]'k).V) l[j].Z:=by
     rw[DR,if_neg (by assumption),if_neg (by assumption)]
    exact⟨(j+1,V1 a.C a.up a.next a.loop b l[j]),⟨by simp only;omega,by simp only;rw[ZV];omega,by simp only;rw[ZV];omega,by simp only;rw[<-y,VI k,if_neg (by omega)]⟩,by simp only;omega,Le.of_eq (by simp only;rw[o];rfl)⟩
   .have k:j<l.length:=by omega
    have q:=q k;have w:=UK l[j];refine cJ rH0 0 (v (by omega) l[j].V (by omega) (b++[⟨l[j]'k,a.C,a.up,a.next,a.loop⟩]) (by rw[x3o];simp only[x4i];omega) ⟨S0,a.C,b.length+1,(b.length+1:Int),(b.length+1:Int)⟩ r pr t s) ?_ (ha:=(by refine x5w (x4c _) (x5w (x4c _) (x5w (LSub.agg ?_) x6e));repeat' (first|exact SubL.nil|refine SubL.cons ?_ ?_|exact Sub.refl _|exact Sub.nils|exact Sub.ff rfl))) (hH:=by exact x5x (j:=1000) rfl rfl (CSub.of_eq (by rw[x3o];first|done|rfl)) (x5x (j:=2000) rfl rfl (CSub.of_eq (by rw[x4d];first|done|rfl)) (x5x (j:=2001) rfl rfl (CSub.refl _) (x5x (j:=2002) rfl rfl (CSub.refl _) x6z))));rintro l' H' ⟨rfl,rfl⟩;conv=>whnf
    refine cJ rH0 0 (v (by omega) l[j].Z (by omega) (XD a.C (b.length+1) (b.length+1:Int) (b.length+1:Int) (b++[⟨l[j]'k,a.C,a.up,a.next,a.loop⟩]) (l[j]'k).V) (by rw[XU,x3o];simp only[x4i];omega) ⟨S0,a.C,b.length+1,(b.length+1:Int),(b.length+1:Int)⟩ r pr t s) ?_ (ha:=(by refine x5w (x4c _) (x5w (x4c _) (x5w (LSub.agg ?_) x6e));repeat' (first|exact SubL.nil|refine SubL.cons ?_ ?_|exact Sub.refl _|exact Sub.nils|exact Sub.ff rfl))) (hH:=by exact x5x (j:=1000) rfl rfl (CSub.refl _) (x5x (j:=2000) rfl rfl (CSub.refl _) (x5x (j:=2001) rfl rfl (CSub.refl _) (x5x (j:=2002) rfl rfl (CSub.refl _) x6z))));rintro l' H' ⟨rfl,rfl⟩;conv=>whnf
    refine wI ?_;conv=>whnf
    have o:V1 a.C a.up a.next a.loop b l[j]=XD a.C (b.length+1) (b.length+1:Int) (b.length+1:Int) (XD a.C (b.length+1) (b.length+1:Int) (b.length+1:Int) (b++[⟨l[j]'k,a.C,a.up,a.next,a.loop⟩]) (l[j]'k).V) l[j].Z:=by
     rw[DR,if_pos (by assumption),if_pos (by assumption)]
    exact⟨(j+1,V1 a.C a.up a.next a.loop b l[j]),⟨by simp only;omega,by simp only;rw[ZV];omega,by simp only;rw[ZV];omega,by simp only;rw[<-y,VI k,if_neg (by omega)]⟩,by simp only;omega,Le.of_eq (by simp only;rw[o];rfl)⟩
   .have k:j<l.length:=by omega
    have q:=q k;have w:=UK l[j];refine cJ rH0 0 (v (by omega) l[j].V (by omega) (b++[⟨l[j]'k,a.C,a.up,a.next,a.loop⟩]) (by rw[x3o];simp only[x4i];omega) ⟨S0,a.C,b.length+1,a.next,a.loop⟩ r pr t s) ?_ (ha:=(by refine x5w (x4c _) (x5w (x4c _) (x5w (LSub.agg ?_) x6e));repeat' (first|exact SubL.nil|refine SubL.cons ?_ ?_|exact Sub.refl _|exact Sub.nils|exact Sub.ff rfl))) (hH:=by exact x5x (j:=1000) rfl rfl (CSub.of_eq (by rw[x3o];first|done|rfl)) (x5x (j:=2000) rfl rfl (CSub.of_eq (by rw[x4d];first|done|rfl)) (x5x (j:=2001) rfl rfl (CSub.refl _) (x5x (j:=2002) rfl rfl (CSub.refl _) x6z))));rintro l' H' ⟨rfl,rfl⟩;conv=>whnf
    refine cJ rH0 0 (v (by omega) l[j].Z (by omega) (XD a.C (b.length+1) a.next a.loop (b++[⟨l[j]'k,a.C,a.up,a.next,a.loop⟩]) (l[j]'k).V) (by rw[XU,x3o];simp only[x4i];omega) ⟨S0,a.C,b.length+1,a.next,a.loop⟩ r pr t s) ?_ (ha:=(by refine x5w (x4c _) (x5w (x4c _) (x5w (LSub.agg ?_) x6e));repeat' (first|exact SubL.nil|refine SubL.cons ?_ ?_|exact Sub.refl _|exact Sub.nils|exact Sub.ff rfl))) (hH:=by exact x5x (j:=1000) rfl rfl (CSub.refl _) (x5x (j:=2000) rfl rfl (CSub.refl _) (x5x (j:=2001) rfl rfl (CSub.refl _) (x5x (j:=2002) rfl rfl (CSub.refl _) x6z))));rintro l' H' ⟨rfl,rfl⟩;conv=>whnf
    refine wI ?_;conv=>whnf
    have o:V1 a.C a.up a.next a.loop b l[j]=XD a.C (b.length+1) a.next a.loop (XD a.C (b.length+1) a.next a.loop (b++[⟨l[j]'k,a.C,a.up,a.next,a.loop⟩]) (l[j]'k).V) l[j].Z:=by
     rw[DR,if_neg (by assumption),if_neg (by assumption)]
    exact⟨(j+1,V1 a.C a.up a.next a.loop b l[j]),⟨by simp only;omega,by simp only;rw[ZV];omega,by simp only;rw[ZV];omega,by simp only;rw[<-y,VI k,if_neg (by omega)]⟩,by simp only;omega,Le.of_eq (by simp only;rw[o];rfl)⟩
   .refine ⟨_,.refl _,rfl,?_⟩;rw[x4l (by omega),XD]at y;rw[<-y];rfl
structure Sheet where
 p:Pg
 l:List Item
 lo:List Int
 hi:List Int
def Sheet.cells(s:Sheet):List AV:=s.p.cells++[.sl (s.l.map fun i=>.agg i.cells),XQ s.lo,XQ s.hi]
def cntP:List Pr->Nat
 |[]=>0
 |f::r=>QJ f.body+cntP r
def U6{l:List Pr}(h:j<l.length):cntP (l.drop j)=QJ l[j].body+cntP (l.drop (j+1)):=by
 rw[QM h,cntP]
def Jk(i:Nat)(h:List Item)(l k:List Int):List Pr->List Item×List Int×List Int
 |[]=>(h,l,k)
 |f::r=>Jk (i+1) (XD i 0 (-1) 0 h f.body) (l++[(h.length:Int)+1]) (k++[((XD i 0 (-1) 0 h f.body).length:Int)+1]) r
def sheetOf(p:Pg):Sheet:=⟨p,(Jk 0 [] [] [] p.A).1,(Jk 0 [] [] [] p.A).2.1,(Jk 0 [] [] [] p.A).2.2⟩
def Pf{h:List Item}{n k:List Int}{l:List Pr}(o:j<l.length):
  Jk i h n k (l.drop j)=Jk (i+1) (XD i 0 (-1) 0 h l[j].body) (n++[(h.length:Int)+1]) (k++[((XD i 0 (-1) 0 h l[j].body).length:Int)+1]) (l.drop (j+1)):=by
 rw[QM o,Jk]
def q7p(n tI l:Nat)(p:Pg)(L:List Item)(k h:List Int):Heap:=
 [(0,.obj n [.p (eStrs p.F),.p (.sl (p.A.map fun f=>.agg f.cells)),.hd 1 0 L.length,.hd 2 0 k.length,.hd 3 0 h.length]),(1,.own tI 17 (L.map fun i=>.agg i.cells)),(2,.own l 1 (k.map (.int .i64))),(3,.own l 1 (h.map (.int .i64)))]
def BN(p:Pg)(G:p.A.length<=1000)(v:cntP p.A<=999):aP 53 [.agg p.cells] (.ip (sheetOf p).cells):=by
 refine sC TH func53 ?_;conv=>whnf
 repeat' ((refine gX ?_;intros)<;>conv=>whnf)
 have E:(p.A.map fun f=>AV.agg f.cells).length=p.A.length:=x3a _;refine lJ (fun i:Nat×List Item×List Int×List Int=>⟨[(3,.ptr 0 0),(10,.p (.sl (p.A.map fun f=>AV.agg f.cells))),(11,.p (.int .i64 (p.A.map fun f=>AV.agg f.cells).length)),(12,.j i.1)],q7p 130 154 3 p i.2.1 i.2.2.1 i.2.2.2⟩) (fun i=>i.1<=p.A.length/\i.2.1.length+cntP (p.A.drop i.1)=cntP p.A/\i.2.2.1.length=i.1/\i.2.2.2.length=i.1/\Jk i.1 i.2.1 i.2.2.1 i.2.2.2 (p.A.drop i.1)=Jk 0 [] [] [] p.A) (fun i=>p.A.length-i.1) (0,[],[],[]) (lM [(1,.own 154 17 []),(2,.own 3 1 []),(3,.own 3 1 [])] (hnd:=by simp[q7p]) (hH:=.cons rfl (.obj (.r (.r (.cons (.nil x4z) (.cons (.nil (x4x _ x4z)) (.cons (.nil (x4x _ (x4x _ x4z))) .nil)))))) (.new x4z (.new (x4x _ x4z) (.new (x4x _ (x4x _ x4z)) .nil))))) ⟨x4j _,by simp,rfl,rfl,rfl⟩ ?_;rintro⟨j,b,k,h⟩ ⟨y,z,s,t,n⟩;simp only at y z s t n⊢;conv=>whnf
 repeat' ((first|(refine gX ?_;intros)|refine dA ?_|refine pA 1 8 (by simp) ?_|(apply bD<;>intro _<;>try omega)|refine x4e ?_ ?_)<;>conv=>whnf)
 .have o:j<p.A.length:=by omega
  have u:=U6 o;refine cJ [(1000,0),(2000,1),(2001,2),(2002,3)] 0 (RQ 1000 (by omega) p.A[j].body (by omega) b (by omega) ⟨S0,j,0,-1,0⟩ _ _ (k++[(b.length:Int)+1]) h) ?_ (ha:=(by refine x5w (x4c _) (x5w (x4c _) (x5w (LSub.agg ?_) x6e));repeat' (first|exact SubL.nil|refine SubL.cons ?_ ?_|exact Sub.refl _|exact Sub.nils|exact Sub.ff rfl))) (hH:=by exact x5x (j:=0) rfl rfl (CSub.of_eq (by rw[x3o];first|done|rfl)) (x5x (j:=1) rfl rfl (CSub.refl _) (x5x (j:=2) rfl rfl (CSub.of_eq (by rw[x4d];first|done|rfl)) (x5x (j:=3) rfl rfl (CSub.refl _) x6z))));rintro l' H' ⟨rfl,rfl⟩;conv=>whnf
  have q:=XU j 0 (-1) 0 b p.A[j].body;repeat' ((first|(refine gX ?_;intros)|refine dA ?_|refine pA 1 8 (by simp) ?_|refine Wr.i64 (by rw[XU];omega) (by rw[XU];omega) ?_|refine x4e ?_ ?_)<;>conv=>whnf)
  all_goals exact⟨(j+1,XD j 0 (-1) 0 b p.A[j].body,k++[(b.length:Int)+1],h++[((XD j 0 (-1) 0 b p.A[j].body).length:Int)+1]),⟨by simp only;omega,by simp only;omega,by simp[s],by simp[t],by simp only;rw[<-n,Pf o]⟩,by simp only;omega,Le.of_eq (by simp only[q7p,x3o,x4d];rfl)⟩
 .have o:j<p.A.length:=by omega
  have u:=U6 o;refine cJ [(1000,0),(2000,1),(2001,2),(2002,3)] 0 (RQ 1000 (by omega) p.A[j].body (by omega) b (by omega) ⟨S0,j,0,-1,0⟩ _ _ (k++[(b.length:Int)+1]) h) ?_ (ha:=(by refine x5w (x4c _) (x5w (x4c _) (x5w (LSub.agg ?_) x6e));repeat' (first|exact SubL.nil|refine SubL.cons ?_ ?_|exact Sub.refl _|exact Sub.nils|exact Sub.ff rfl))) (hH:=by exact x5x (j:=0) rfl rfl (CSub.of_eq (by rw[x3o];first|done|rfl)) (x5x (j:=1) rfl rfl (CSub.refl _) (x5x (j:=2) rfl rfl (CSub.of_eq (by rw[x4d];first|done|rfl)) (x5x (j:=3) rfl rfl (CSub.refl _) x6z))));rintro l' H' ⟨rfl,rfl⟩;conv=>whnf
  have q:=XU j 0 (-1) 0 b p.A[j].body;repeat' ((first|(refine gX ?_;intros)|refine dA ?_|refine pA 1 8 (by simp) ?_|refine Wr.i64 (by rw[XU];omega) (by rw[XU];omega) ?_|refine x4e ?_ ?_)<;>conv=>whnf)
  all_goals exact⟨(j+1,XD j 0 (-1) 0 b p.A[j].body,k++[(b.length:Int)+1],h++[((XD j 0 (-1) 0 b p.A[j].body).length:Int)+1]),⟨by simp only;omega,by simp only;omega,by simp[s],by simp[t],by simp only;rw[<-n,Pf o]⟩,by simp only;omega,Le.of_eq (by simp only[q7p,x3o,x4d];rfl)⟩
 .have C:p.A.drop j=[]:=x4l (by omega);rw[C,Jk]at n;refine⟨.ip (sheetOf p).cells,?_,rfl⟩;have e:(sheetOf p).cells=[eStrs p.F,.sl (p.A.map fun f=>.agg f.cells),.sl (b.map fun i=>.agg i.cells),XQ k,XQ h]:=by
   unfold sheetOf;rw[<-n];rfl
  rw[e];have B:∀H:Heap,getH H 1=some (.own 154 17 (b.map fun i=>.agg i.cells))->getH H 2=some (.own 3 1 (k.map (.int .i64)))->getH H 3=some (.own 3 1 (h.map (.int .i64)))->
    FrzL H [.p (eStrs p.F),.p (.sl (p.A.map fun f=>.agg f.cells)),.hd 1 0 b.length,.hd 2 0 k.length,.hd 3 0 h.length] [eStrs p.F,.sl (p.A.map fun f=>.agg f.cells),.sl (b.map fun i=>.agg i.cells),XQ k,XQ h]:=fun H g1 w x=>
   .cons (.p (Sub.refl _)) (.cons (.p (Sub.refl _)) (.cons (.hd g1 (by simp)) (.cons (.hd w (by simp)) (.cons (.hd x (by simp)) .nil))))
  refine Frz.ptr (off:=0) rfl rfl fun m l c D v=>?_;obtain⟨l',a,d⟩:=(B (q7p 130 154 3 p b k h) rfl rfl rfl).get.2 m c v;have g:=a.symm.trans D;cases g;exact d
theorem IdxK.at{es:List AV}{sz k:Nat}{n:Int}(o:n=k)(l:es[k]?=some e)(q:e.cells.length=sz)(h:K e.cells):IdxK es sz n K:=⟨k,e,o,l,q,h⟩
def UG{l:List Int}{k:Nat}{n:Int}(h:l[k]?=some n):(l.map (AV.int .i64))[k]?=some (.int .i64 n):=by simp[h]
def ZE(l:List Item):AV:=.sl (l.map fun i=>.agg i.cells)
def LK(s:Sheet)(i k h:Nat)(n:s.lo[i]?=some ((k:Int)+1))(o:s.hi[i]?=some ((h:Int)+1))(q:k<=h)(r:h<=s.l.length)(u:s.l.length<=1000):aP 96 [.ip s.cells,.int .i64 i] (ZE ((s.l.take h).drop k)):=by
 refine sC V8 func96 ?_;conv=>whnf
 repeat' ((first|refine dA ?_|refine wI ?_|refine IdxK.at rfl (UG n) rfl ?_|refine IdxK.at rfl (UG o) rfl ?_|refine x4e (fun e t=>by obtain⟨x,_,rfl⟩:=x4y.1 t;rfl) (x9r k h (by simp) (by simp) q (by simpa using r) ?_))<;>conv=>whnf)
 exact RetK.p (by simp[ZE,map_take,List.map_drop])
def W8(s:Sheet)(i h k:Nat)(l:s.lo[i]?=some ((h:Int)+1))(n:s.hi[i]?=some ((k:Int)+1)):aP 182 [.ip s.cells,.int .i64 i] (.int .i64 (if h<k then(h:Int)+1 else -1)):=by
 refine sC MV func182 ?_;conv=>whnf
 repeat' ((first|refine dA ?_|refine IdxK.at rfl (UG l) rfl ?_|refine IdxK.at rfl (UG n) rfl ?_|(apply bD<;>intro _<;>try omega))<;>conv=>whnf)
 .exact RetK.int (by rw[if_pos (by omega)])
 .exact RetK.int (by rw[if_neg (by omega)])
def YJ(l:List Str)(g:Nat)(c:AV)(p:Str->Bool)(n:∀s,aP g [.str s,c] (.bool (p s))):aP 156 [eStrs l,.fn g [c]] (.int .i64 (idxF p l)):=by
 refine sC ZX func156 ?_;conv=>whnf
 refine iM fun _=>?_;have q:(l.map AV.str).length=l.length:=x3a _;conv=>whnf
 refine lI (fun j:Nat=>⟨[(0,.p (eStrs l)),(1,.p (.fn g [c])),(7,.p (.int .i64 (l.map AV.str).length)),(8,.j j)],[]⟩) (fun j=>j<=l.length/\(l.drop j).any p=l.any p/\l.findIdx p=j+(l.drop j).findIdx p) (fun j=>l.length-j) 0 ⟨x4j _,rfl,by simp⟩ ?_;rintro j ⟨o,h,k⟩;conv=>whnf
 repeat' ((first|(refine gX ?_;intros)|refine cP (n _) ?_|((first|apply bD|apply bB)<;>intro _<;>try omega))<;>conv=>whnf)
 .exact RetK.int (Wl (p:=p) (by omega) (by assumption) h k).symm
 .exact nX (j+1) ⟨by omega,by rw[<-h,Bz (p:=p) (by omega) (by assumption)],by rw[k,IC (p:=p) (by omega) (by assumption)];omega⟩
 .exact RetK.int (by rw[Fx];rw[<-h,Vr (by omega)])
def UV(l:List Str)(g:Nat)(c:AV)(p:Str->Bool)(h:∀s,aP g [.str s,c] (.bool (p s))):aP 94 [eStrs l,.fn g [c]] (.bool (l.any p)):=by
 refine sC VV func94 ?_;conv=>whnf
 repeat' (refine cP (YJ _ _ _ p h) ?_;conv=>whnf)
 exact RetK.bool Uc
def XE(l:List Pr)(g:Nat)(c:AV)(p:Pr->Bool)(n:∀s:Pr,aP g [.agg s.cells,c] (.bool (p s))):aP 111 [.sl (l.map fun f=>.agg f.cells),.fn g [c]] (.int .i64 (idxF p l)):=by
 refine sC WE func111 ?_;conv=>whnf
 refine iM fun _=>?_;have q:(l.map fun f=>AV.agg f.cells).length=l.length:=x3a _;conv=>whnf
 refine lI (fun j:Nat=>⟨[(0,.p (.sl (l.map fun f=>.agg f.cells))),(1,.p (.fn g [c])),(7,.p (.int .i64 (l.map fun f=>AV.agg f.cells).length)),(8,.j j)],[]⟩) (fun j=>j<=l.length/\(l.drop j).any p=l.any p/\l.findIdx p=j+(l.drop j).findIdx p) (fun j=>l.length-j) 0 ⟨x4j _,rfl,by simp⟩ ?_;rintro j ⟨o,h,k⟩;conv=>whnf
 repeat' ((first|(refine gX ?_;intros)|refine cP (n _) ?_|((first|apply bD|apply bB)<;>intro _<;>try omega))<;>conv=>whnf)
 .exact RetK.int (Wl (p:=p) (by omega) (by assumption) h k).symm
 .exact nX (j+1) ⟨by omega,by rw[<-h,Bz (p:=p) (by omega) (by assumption)],by rw[k,IC (p:=p) (by omega) (by assumption)];omega⟩
 .exact RetK.int (by rw[Fx];rw[<-h,Vr (by omega)])
def WS(l:List Pr)(g:Nat)(c:AV)(p:Pr->Bool)(h:∀s:Pr,aP g [.agg s.cells,c] (.bool (p s))):aP 82 [.sl (l.map fun f=>.agg f.cells),.fn g [c]] (.bool (l.any p)):=by
 refine sC WJ func82 ?_;conv=>whnf
 repeat' (refine cP (XE _ _ _ p h) ?_;conv=>whnf)
 exact RetK.bool Uc
def D2(p:Pg)(n:Str):aP 95 [.str n,.ip p.cells] (.bool (p.F.any fun s=>n==s)):=by
 refine sC Vq func95 ?_;conv=>whnf
 repeat' (refine cP (QZ _ _) ?_;conv=>whnf)
 exact RetK.p rfl
def Xw(n:Str)(f:Pr):aP 112 [.agg f.cells,.ip [.str n]] (.bool (f.name==n)):=by
 refine sC PR func112 ?_;conv=>whnf
 skip
 exact RetK.p rfl
def D9(n:Str)(f:Pr):aP 83 [.agg f.cells,.ip [.str n]] (.bool (f.name==n)):=by
 refine sC Vw func83 ?_;conv=>whnf
 skip
 exact RetK.p rfl
def ZD(s:Sheet)(n:Str):aP 65 [.ip s.cells,.str n] (.int .i64 (idxF (fun f=>f.name==n) s.p.A)):=by
 refine sC Ql func65 ?_;conv=>whnf
 repeat' ((refine cP (XE _ _ _ (fun f=>f.name==n) (fun f=>Xw n f)) ?_)<;>conv=>whnf)
 exact RetK.p rfl
end Go.Ab
