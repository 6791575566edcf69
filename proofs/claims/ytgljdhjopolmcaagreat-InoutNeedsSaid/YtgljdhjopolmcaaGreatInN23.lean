/- LAW: run goes from place to place; what a machine is on its way. -/
import Derived.Test.YtgljdhjopolmcaaGreatInN22
set_option linter.all false
set_option maxRecDepth 100000
set_option maxHeartbeats 16000000
open Nat (succ_pos)
namespace Go.Ab
open Go.Proofs.Tryz
open Go.Proofs
variable {M':Mc}{fuel:Int}
inductive Cf
 |next (a:Int) (M:Mc)
 |back (gave:Int) (M:Mc)
 |fin (M:Mc)
def XY(M:Mc):Fm:=M.stack.getLast?.getD ⟨0,[],[],0⟩
def Xj(r:Int×Mc):Cf:=if r.2.fin=0 then .next r.1 r.2 else .fin r.2
def PF(r:Int×Mc):Cf:=if r.2.fin=0 then .back r.1 r.2 else .fin r.2
def QL(M:Mc):Mc:={M with steps:=M.steps+1}
def KJ(p:Pg)(t:S):Nat:=(idxF (fun g=>g.name==t.D) p.A).toNat
def stI(p:Pg)(tape watch:List Int)(M:Mc)(it:Item):Cf:=
 if it.s.kind=4 then Xj (YJ p watch M (XY M) it.s (KJ p it.s) (prA p (KJ p it.s)))
 else if it.s.kind=9 then PF (J5 watch M (XY M) it.s)
 else Xj (doM p tape watch M (XY M) (prA p (XY M).D) it)
def ZO(p:Pg)(h:Int)(M:Mc):Cf:=
 if(XY M).call=0 then .fin (endM (popM M M.stack.dropLast) 1)
 else match(sheetOf p).l[((XY M).call-1).toNat]?with
 |none=>.fin M
 |some it=>.next it.next (if it.s.name=[]then popM M M.stack.dropLast else setM (popM M M.stack.dropLast) (varM (XY (popM M M.stack.dropLast)) it.s.name) h)
def goC(p:Pg)(tape watch:List Int)(fuel:Int):Cf->Cf
 | .next a M=>if a = -1 then .back 0 M else if M.steps=fuel then .fin (endM M 2)else match(sheetOf p).l[(a-1).toNat]?with
   |none=>.fin M
   |some it=>stI p tape watch (QL M) it
 |.back g M=>ZO p g M
 |.fin M=>.fin M
def HQ(p:Pg)(tape watch:List Int)(fuel:Int):Nat->Cf->Cf
 |0,c=>c
 |n+1,c=>goC p tape watch fuel (HQ p tape watch fuel n c)
structure FrameOk(p:Pg)(M:Mc)(f:Fm):Prop where
 pr:∃g,p.A[f.D]?=some g/\f.names=varsS p g
 len:f.E.length=f.names.length
 rng:∀v∈f.E,v<M.mem.length
inductive Chain(p:Pg):List Fm->Prop
 |one {f:Fm} (h:f.call=0):Chain p [f]
 |push {l:List Fm} {g f:Fm} {q:Pr} {it:Item} (hl:Chain p (l++[g])) (h1:1<=f.call) (hle:f.call<=100000) (hit:(sheetOf p).l[(f.call-1).toNat]?=some it) (hk:it.s.kind=4) (hp:p.A[g.D]?=some q) (hi:it∈itsOf p g.D q) (hid:it.s.id=f.call):Chain p (l++[g]++[f])
structure Good(p:Pg)(M:Mc)(b:Int):Prop where
 ch:Chain p M.stack
 fr:∀f∈M.stack,FrameOk p M f
 gl:p.B.length<=M.mem.length
 sl:M.stack.length<=101
 fin:M.fin=0
 r0:0<=M.reads
 rd:M.reads<=b
 tr:(M.trace.length:Int)<=b
 ou:(M.out.length:Int)<=b
def AtOk(p:Pg)(a:Int)(k:Nat):Prop:=a = -1\/∃g it,p.A[k]?=some g/\1<=a/\(sheetOf p).l[(a-1).toNat]?=some it/\it∈itsOf p k g/\it.s.id=a
def MF(p:Pg)(fuel:Int):Cf->Prop
 |.next a M=>Good p M M.steps/\0<=M.steps/\M.steps<=fuel/\AtOk p a (XY M).D
 |.back _ M=>Good p M M.steps/\0<=M.steps/\M.steps<=fuel
 |.fin _=>True
def cfμ(fuel:Int):Cf->Nat
 |.next _ M=>6*(fuel-M.steps).toNat+2*M.stack.length+2
 |.back _ M=>6*(fuel-M.steps).toNat+2*M.stack.length+1
 |.fin _=>0
theorem Chain.ne{p:Pg}{l:List Fm}(h:Chain p l):∃st f,l=st++[f]:=by
 cases h with
 |one h=>exact⟨[],_,rfl⟩
 |push=>exact⟨_,_,rfl⟩
def ZG{M:Mc}{st:List Fm}{f:Fm}(h:M.stack=st++[f]):XY M=f:=by
 unfold XY;rw[h,List.getLast?_concat];rfl
theorem Good.top{p:Pg}{M:Mc}{b:Int}(h:Good p M b):∃st,M.stack=st++[XY M]:=by
 obtain⟨st,f,e⟩:=h.ch.ne;exact⟨st,by rw[ZG e];exact e⟩
def Rj{M:Mc}(h:M'.stack=M.stack):XY M'=XY M:=by unfold XY;rw[h]
def Ii{p:Pg}(hc:QP p=true){k:Nat}{g:Pr}(h:p.A[k]?=some g):(varsS p g).length<=100:=by
 have i:=(XQ hc).1;have j:=(ZA (QU hc).1).pr g (x9y h);unfold varsS Vs;simp only[x8m,x8b];omega
theorem Good.okM{p:Pg}{M:Mc}{b:Int}(hc:QP p=true)(h:Good p M b){bs:List Nat}(m:bs.length=M.mem.length):OkM p bs M:=
 ⟨m,fun f i=>⟨(h.fr f i).len,(h.fr f i).rng⟩,h.gl,z1q h.sl (by decide),fun f i=>by
   obtain⟨g,j,l⟩:=(h.fr f i).pr;have:=Ii hc j;rw[l];omega⟩
theorem Good.same{p:Pg}{M:Mc}{b i:Int}(h:Good p M b)(l:M'.stack=M.stack)(m:M.mem.length<=M'.mem.length)(u:M'.fin=0)(o:0<=M'.reads)(q:M'.reads<=i)(r:(M'.trace.length:Int)<=i)(t:(M'.out.length:Int)<=i):Good p M' i:=
 ⟨by rw[l];exact h.ch,fun f j=>by
   rw[l]at j;exact⟨(h.fr f j).pr,(h.fr f j).len,fun v w=>z2j ((h.fr f j).rng v w) m⟩,z1q h.gl m,by rw[l];exact h.sl,u,o,q,r,t⟩
def XD(w:List Int)(M:Mc)(id:Int)(v:List Int):(QJ w M id v).stack=M.stack/\(QJ w M id v).mem=M.mem/\(QJ w M id v).fin=M.fin/\(QJ w M id v).steps=M.steps/\(QJ w M id v).reads=M.reads/\(QJ w M id v).out=M.out/\(QJ w M id v).trace.length<=M.trace.length+1:=by
 refine⟨Bm,LF,?_,?_,?_,q4b,q0a⟩<;>(unfold QJ;cases w.any fun x=>decide (id=x)<;>rfl)
theorem Good.event{p:Pg}{M:Mc}{b:Int}(h:Good p M b)(w:List Int)(id:Int)(v:List Int):Good p (QJ w M id v) (b+1):=by
 obtain⟨j,l,m,q,i,o,r⟩:=XD w M id v;have:=h.tr;have:=h.ou;have:=h.rd;exact h.same j (by rw[l];exact x9h _) (m.trans h.fin) (by rw[i];exact h.r0) (by rw[i];omega) (by omega) (by rw[o];omega)
section
variable {p:Pg}
theorem AtOk.of(hc:QP p=true){k:Nat}{g:Pr}(i:p.A[k]?=some g){a:Int}(h:okI (offN p.A k) (offN p.A k+cntL g.body) a):AtOk p a k:=by
 rcases h with h|⟨m,o⟩
 .exact .inl h
 .obtain ⟨it,j,l⟩:=W1 i (k:=(a-1).toNat) (by omega) (by omega);have q:=Cu hc i (by omega) (by omega) j;exact .inr ⟨g,it,i,by omega,j,l,by omega⟩
def MZ(hc:QP p=true){k:Nat}{g:Pr}(m:p.A[k]?=some g){t:S}(q:t∈flL g.body){n:Str}(o:n∈ZU t):n∈varsS p g:=by
 have i:=UN (QU hc).2.1 (x9y m) q;unfold knownB at i;rw[x9g]at i;have j:=z0p.1 i.1 n o;have l:GY p g n≠0:=by simpa using j
 unfold varsS;rcases q1i l with h|h
 .exact x9e _ h
 .exact z0w _ h
def P2{l:List Str}{n:Str}(h:n∈l):0<=idxF (fun y=>n==y) l:=by
 unfold idxF;have:l.any (fun y=>n==y)=true:=z0g.2 ⟨n,h,by simp⟩;rw[this,x9z];omega
def SN{t:S}(h:t.kind≠10)(i:t.name≠[]):t.name∈ZU t:=by
 unfold ZU HI;have:(decide (t.kind≠10) && !(t.name==[]))=true:=by simp[h,i]
 rw[this];simp
def RE{t:S}{a:Arg}(ha:a∈t.args)(h:a.ref=true):a.name∈ZU t:=by
 unfold ZU;refine z0w _ (z0j.2 ⟨a,ha,?_⟩);unfold JX;rw[h];simp
def q3s{f:Fm}(j:f.E.length=f.names.length){n:Str}(h:n∈f.names):varM f n∈f.E:=by
 have i:=Vf (P2 h);unfold varM;rw[x8n,x8p (by omega)];exact x9w _
end
theorem PH{f:Fm}:∀(l:List Arg)(ps:List Nat)(M:Mc),(∀a∈l,a.ref=true->varM f a.name<M.mem.length)->(∀v∈ps,v<M.mem.length)->
  (argsM f l ps M).2.1.stack=M.stack/\M.mem.length<=(argsM f l ps M).2.1.mem.length/\(argsM f l ps M).2.1.steps=M.steps/\(argsM f l ps M).2.1.reads=M.reads/\(argsM f l ps M).2.1.out=M.out/\(argsM f l ps M).2.1.trace=M.trace/\
  ((argsM f l ps M).2.2=true->(argsM f l ps M).2.1.fin=M.fin/\(argsM f l ps M).1.length=ps.length+l.length/\∀v∈(argsM f l ps M).1,v<(argsM f l ps M).2.1.mem.length)/\((argsM f l ps M).2.2=false->(argsM f l ps M).2.1.fin=4)
 |[],ps,M,_,hp=>⟨rfl,x9h _,rfl,rfl,rfl,rfl,fun _=>⟨rfl,rfl,hp⟩,(fun h=>(by cases h))⟩
 | a::r,ps,M,ha,hp=>by
   rw[argsM];cases c:a.ref with
   | true=>
     rw[x9z];obtain⟨n,o,q,s,t,u,w,y⟩:=PH r (ps++[varM f a.name]) M (fun b z=>ha b (x8r _ z)) fun v i=>by
      rcases x8e.1 i with i|i
      .exact hp v i
      .rw [x9q.1 i];exact ha a x8l c
     refine⟨n,o,q,s,t,u,fun h=>?_,y⟩;obtain⟨g1,k,m⟩:=w h;exact⟨g1,by rw[k,x8m,x9f,x9f,z1p];omega,m⟩
   | false=>
     rw[x9k];cases d:(QD M f a.x).2 with
     |false=>exact⟨rfl,x9h _,rfl,rfl,rfl,rfl,(fun h=>(by cases h)),fun _=>rfl⟩
     | true=>
       rw[x9z];have j:({M with mem:=M.mem++[(QD M f a.x).1]}:Mc).mem.length=M.mem.length+1:=by simp
       obtain⟨n,o,q,s,t,u,w,y⟩:=PH (f:=f) r (ps++[M.mem.length]) {M with mem:=M.mem++[(QD M f a.x).1]} (fun b z h=>by
         have:=ha b (x8r _ z) h;rw[j];omega) fun v i=>by
        rw[j];rcases x8e.1 i with i|i
        .have:=hp v i;omega
        .rw [x9q.1 i];omega
       rw[j]at o;refine⟨n,by omega,q,s,t,u,fun h=>?_,y⟩;obtain⟨g1,k,m⟩:=w h;exact⟨g1,by rw[k,x8m,x9f,x9f,z1p];omega,m⟩
section
variable {p:Pg}(hc:QP p=true)
include hc
def U9{M:Mc}{b:Int}(k:Good p M b){g:Pr}(l:p.A[(XY M).D]?=some g){t:S}(r:t∈flL g.body){n:Str}(o:n∈ZU t):0<=idxF (fun y=>n==y) (XY M).names/\varM (XY M) n<M.mem.length:=by
 obtain⟨st,q⟩:=k.top;have i:=k.fr (XY M) (by rw[q];exact z0w _ (x9q.2 rfl));obtain⟨s,j,m⟩:=i.pr;rw[l]at j;cases j;have h:=MZ hc l r o;rw[<-m]at h;exact⟨P2 h,i.rng _ (q3s i.len h)⟩
def Mk{k:Nat}{g:Pr}(n:p.A[k]?=some g){t:S}(o:t∈flL g.body)(l:t.kind=4):idxF (fun g=>g.name==t.D) p.A=(KJ p t:Nat)/\p.A[KJ p t]?=some (prA p (KJ p t))/\(prA p (KJ p t)).C.length=t.args.length:=by
 obtain⟨i,j,h,_,_,m⟩:=KX hc (z0j.2 ⟨g,x9y n,o⟩) l;have e:KJ p t=i:=by
  unfold KJ;show(caI p t).toNat=i;rw[h];rfl
 refine⟨by rw[e];exact h,by rw[e];exact Y3 j,?_⟩;rw[e];have:=z0l List.length m;simpa using this
theorem IB{M:Mc}{b:Int}(j:∀f∈M.stack,FrameOk p M f)(n:p.B.length<=M.mem.length)(m:M.fin=0)(s:0<=M.reads)(t:M.reads<=b)(u:(M.trace.length:Int)<=b)(q:(M.out.length:Int)<=b)(hsl:M.stack.length<=100){k:Nat}{g:Pr}(w:p.A[k]?=some g){ps:List Nat}(x:ps.length=g.C.length)(r:∀v∈ps,v<M.mem.length){call:Int}(o:Chain p (M.stack++[⟨k,varsS p g,List.range p.B.length++ps++List.range' M.mem.length g.E.length,call⟩])):Good p (KV p k g ps call M) b/\AtOk p (Qn p k g) (XY (KV p k g ps call M)).D/\(KV p k g ps call M).stack.length=M.stack.length+1:=by
 have l:(KV p k g ps call M).mem.length=M.mem.length+g.E.length:=by unfold KV;simp
 refine⟨⟨o,fun f i=>?_,by rw[l];have:=n;omega,by unfold KV;simp;omega,m,s,t,u,q⟩,?_,by unfold KV;simp⟩
 ·rcases x8e.1 i with i|i
  ·exact⟨(j f i).pr,(j f i).len,fun v h=>by have:=(j f i).rng v h;rw[l];omega⟩
  ·rw[x9q.1 i];refine⟨⟨g,w,rfl⟩,?_,fun v h=>?_⟩
   ·show(List.range p.B.length++ps++List.range' M.mem.length g.E.length).length=(varsS p g).length;unfold varsS Vs;simp only[x8m,z2q,List.length_range',x8b];omega
   ·have h:v∈List.range p.B.length++ps++List.range' M.mem.length g.E.length:=h;rw[l];rcases x8e.1 h with h|h
    ·rcases x8e.1 h with h|h
     ·have:=z1i.1 h;have:=n;omega
     ·have:=r v h;omega
    ·have:=List.mem_range'_1.1 h;omega
 ·rw[ZG (M:=KV p k g ps call M) (st:=M.stack) rfl];refine AtOk.of hc w ?_;unfold Qn;split
  ·exact .inr ⟨by omega,by omega⟩
  ·exact .inl rfl
theorem q5o(watch:List Int){M:Mc}{b:Int}(j:Good p M b){g:Pr}(l:p.A[(XY M).D]?=some g){it:Item}(x:it∈itsOf p (XY M).D g)(F:it.s.kind=4){r:Int×Mc}(y:r=YJ p watch M (XY M) it.s (KJ p it.s) (prA p (KJ p it.s))):
  r.2.steps=M.steps/\(r.2.fin=0->Good p r.2 (b+1)/\AtOk p r.1 (XY r.2).D/\r.2.stack.length=M.stack.length+1):=by
 subst y;have z:=YP x;obtain⟨_,P,Q⟩:=Mk hc l z F;obtain⟨st,m⟩:=j.top;obtain⟨o,d,q,t,e,B,C,E⟩:=PH (f:=XY M) it.s.args [] M (fun a ha y=>(U9 hc j l z (RE ha y)).2) (fun v c=>by cases c);unfold YJ;generalize argsM (XY M) it.s.args [] M=ar at*
 obtain⟨ps,n,R⟩:=ar;simp only at o d q t e B C E⊢;cases R with
 | false=>
   refine⟨q,fun h=>?_⟩;have h:n.fin=0:=h;have:=E rfl;omega
 | true=>
   obtain⟨G,H,I⟩:=C rfl;rw[x9z];split
   ·refine⟨q,fun h=>?_⟩;have h:(5:Int)=0:=h;cases h
   ·rename_i hsl;have w:Good p n b:=j.same o d (G.trans j.fin) (by rw[t];exact j.r0) (by rw[t];exact j.rd) (by rw[B];exact j.tr) (by rw[e];exact j.ou);have i:=w.event watch it.s.id [];obtain⟨u,J,T,K,U,V,Y⟩:=XD watch n it.s.id [];have N:=ZS (QU hc).1 l z;have L:=(XQ hc).2.2;have O:=((QY p).2.2.2.2 _ _ l).2.2.1;have k:=IB hc i.fr i.gl i.fin i.r0 i.rd i.tr i.ou (by rw[u];omega) P (ps:=ps) (by rw[H,Q];simp) (fun v c=>by rw[J];exact I v c) (call:=it.s.id) (by
     rw[u,o,m];exact .push (it:=it) (m▸j.ch) (by show 1<=it.s.id;omega) (by show it.s.id<=100000;omega) (q1r hc l x) F l x rfl)
    refine⟨?_,fun _=>⟨k.1,k.2.1,?_⟩⟩
    ·show(QJ watch n it.s.id []).steps=M.steps;rw[K,q]
    ·rw[<-o,<-u];exact k.2.2
omit hc in
def Cz(watch:List Int){M:Mc}{b:Int}(j:Good p M b)(t:S){r:Int×Mc}(k:r=J5 watch M (XY M) t):r.2.steps=M.steps/\(r.2.fin=0->Good p r.2 (b+1)/\r.2.stack=M.stack):=by
 subst k;have i:=fun v=>XD watch M t.id v;unfold J5;cases t.has with
 |false=>exact⟨(i []).2.2.2.1,fun _=>⟨j.event watch t.id [],(i []).1⟩⟩
 | true=>
   rw[x9z];cases l:(QD M (XY M) t.x).2 with
   | false=>
     refine⟨rfl,fun h=>?_⟩;have h:(4:Int)=0:=h;cases h
   |true=>exact⟨(i _).2.2.2.1,fun _=>⟨j.event watch t.id _,(i _).1⟩⟩
omit hc in
theorem T7(tape watch:List Int){M:Mc}{f:Fm}{g:Pr}{it:Item}(y:it.s.kind≠4)(u:it.s.kind≠9){r:Int×Mc}(v:r=doM p tape watch M f g it)(i:r.2.fin=0):r.1∈UU (sheetOf p) g it:=by
 subst v;unfold doM at i⊢;unfold UU;by_cases q:it.s.kind=7
 ·simp[q]
 by_cases t:it.s.kind=8
 ·simp[t]
 by_cases j:it.s.kind=10
 ·simp[j]
 simp only[if_neg q,if_neg t,if_neg j,if_neg u]at i⊢;by_cases o:it.s.kind=2
 ·have k:¬it.s.kind=5:=by omega
  have l:¬it.s.kind=6:=by omega
  simp only[if_pos o,if_neg k,if_neg l]at i⊢;split at i
  ·have i:(3:Int)=0:=i;cases i
  ·rename_i h;rw[if_neg h];exact x8l
 simp only[if_neg o]at i⊢;cases w:(QD M f it.s.x).2 with
 | false=>
   rw[w]at i;have i:(4:Int)=0:=i;cases i
 | true=>
   clear i;simp only[x9z];by_cases k:it.s.kind=5
   ·have m:¬it.s.kind=1:=by omega
    have n:¬it.s.kind=3:=by omega
    simp only[if_neg m,if_neg n,if_pos k];split<;>simp
   by_cases l:it.s.kind=6
   ·have m:¬it.s.kind=1:=by omega
    have n:¬it.s.kind=3:=by omega
    simp only[if_neg m,if_neg n,if_neg k,if_pos l];split<;>simp
   simp only[if_neg k,if_neg l];split
   ·exact x8l
   split
   ·exact x8l
   ·exact x8l
theorem q0p(tape watch:List Int){M:Mc}{b:Int}(j:Good p M b){g:Pr}(I:p.A[(XY M).D]?=some g){it:Item}(O:it∈itsOf p (XY M).D g)(L:it.s.kind≠4)(N:it.s.kind≠9){r:Int×Mc}(J:r=doM p tape watch M (XY M) g it):
  r.2.steps=M.steps/\(r.2.fin=0->Good p r.2 (b+1)/\AtOk p r.1 (XY M).D/\r.2.stack=M.stack):=by
 have t:=T7 (p:=p) tape watch (M:=M) (f:=XY M) (g:=g) L N J;have q:r.2.fin=0->AtOk p r.1 (XY M).D:=fun m=>AtOk.of hc I ((PN hc I).2.1 _ (R5 O (t m))).2
 suffices h:r.2.steps=M.steps/\(r.2.fin=0->Good p r.2 (b+1)/\r.2.stack=M.stack)from⟨h.1,fun m=>⟨(h.2 m).1,q m,(h.2 m).2⟩⟩
 clear t q;subst J;have c:=fun v=>XD watch M it.s.id v;have key:∀(a:Int) v,(QJ watch M it.s.id v).steps=M.steps/\((QJ watch M it.s.id v).fin=0->Good p (QJ watch M it.s.id v) (b+1)/\(QJ watch M it.s.id v).stack=M.stack):=fun _ v=>⟨(c v).2.2.2.1,fun _=>⟨j.event watch it.s.id v,(c v).1⟩⟩;unfold doM;by_cases z:it.s.kind=7
 ·rw[if_pos z];exact key 0 []
 by_cases C:it.s.kind=8
 ·rw[if_neg z,if_pos C];exact key 0 []
 by_cases o:it.s.kind=10
 ·rw[if_neg z,if_neg C,if_pos o];exact key 0 []
 rw[if_neg z,if_neg C,if_neg o];by_cases F:it.s.kind=2
 ·rw[if_pos F];split
  ·refine⟨rfl,fun h=>?_⟩;have h:(3:Int)=0:=h;cases h
  ·generalize varM (XY M) it.s.name=v;generalize tape.getD M.reads.toNat 0=n;obtain⟨k,d,e,l,u,w,y⟩:=XD watch (setM {M with reads:=M.reads+1} v n) it.s.id [n];refine⟨l,fun _=>⟨j.same k (by rw[d];unfold setM;simp) (e.trans j.fin) ?_ ?_ ?_ ?_,k⟩⟩
   ·rw[u];have:=j.r0;show 0<=M.reads+1;omega
   ·rw[u];have:=j.rd;show M.reads+1<=b+1;omega
   ·have:=j.tr;have y:(QJ watch (setM {M with reads:=M.reads+1} v n) it.s.id [n]).trace.length<=M.trace.length+1:=y;have K:((QJ watch (setM {M with reads:=M.reads+1} v n) it.s.id [n]).trace.length:Int)<=b+1:=by omega
    exact K
   ·rw[w];have:=j.ou;show(M.out.length:Int)<=b+1;omega
 rw[if_neg F];cases P:(QD M (XY M) it.s.x).2 with
 | false=>
   refine⟨rfl,fun h=>?_⟩;have h:(4:Int)=0:=h;cases h
 | true=>
   rw[x9z];generalize(QD M (XY M) it.s.x).1=n;by_cases E:it.s.kind=1
   ·rw[if_pos E];obtain⟨k,d,e,l,u,w,y⟩:=c [n];have i:=j.event watch it.s.id [n];exact⟨l,fun _=>⟨i.same rfl (by unfold setM;simp) i.fin i.r0 i.rd i.tr i.ou,k⟩⟩
   rw[if_neg E];by_cases G:it.s.kind=3
   ·rw[if_pos G];obtain⟨k,d,e,l,u,w,y⟩:=c [n];have i:=j.event watch it.s.id [n];refine⟨l,fun _=>⟨i.same rfl (x9h _) i.fin i.r0 i.rd i.tr ?_,k⟩⟩;show(((QJ watch M it.s.id [n]).out++[n]).length:Int)<=b+1;rw[w,x8m];have:=j.ou;simp only[x9f,z1p];omega
   rw[if_neg G];by_cases B:it.s.kind=5
   ·rw[if_pos B];exact key 0 [n]
   by_cases H:it.s.kind=6
   ·rw[if_neg B,if_pos H];exact key 0 [n]
   rw[if_neg B,if_neg H];exact key 0 [n]
theorem Sw{M:Mc}{b:Int}(k:Good p M b){st:List Fm}(o:M.stack=st++[XY M])(i:Int):(XY M).call<=100000/\
  ((∃M',ZO p i M=.fin M'/\CloseP p M st (XY M) i (-1) M'/\M'.fin=1)\/
  ∃a M',ZO p i M=.next a M'/\CloseP p M st (XY M) i a M'/\Good p M' b/\AtOk p a (XY M').D/\M'.stack.length+1=M.stack.length/\M'.steps=M.steps):=by
 have B:M.stack.dropLast=st:=by rw[o,z3b]
 have t:=k.ch;rw[o]at t;generalize I:XY M=F at*
 unfold ZO;rw[B,I];generalize E:st++[F]=L at t;cases t with
 | one h=>
   rename_i f;obtain⟨rfl,r⟩:=z2k (show st++[F]=[]++[f]from E) rfl;have r:F=f:=by simpa using r
   subst r;rw[if_pos h];exact⟨by omega,.inl ⟨_,rfl,.done h,rfl⟩⟩
 | push K C d u O A G J=>
   rename_i l g f q it;obtain⟨rfl,r⟩:=z2k E rfl;have r:F=f:=by simpa using r
   subst r;have c:g∈M.stack:=by rw[o];simp
   have z:=k.fr g c;refine⟨d,.inr ?_⟩;rw[if_neg (by omega),u];have m:XY (popM M (l++[g]))=g:=ZG (st:=l) rfl;have x:AtOk p it.next g.D:=AtOk.of hc A (Qr G).1;have j:Good p (popM M (l++[g])) b:=⟨K,fun f y=>⟨(k.fr f (by rw[o];exact x9e _ y)).pr,(k.fr f (by rw[o];exact x9e _ y)).len,(k.fr f (by rw[o];exact x9e _ y)).rng⟩,k.gl,by
    have h:=k.sl;rw[o,x8m]at h;show(l++[g]).length<=101;omega,k.fin,k.r0,k.rd,k.tr,k.ou⟩
   have n:(popM M (l++[g])).stack.length+1=M.stack.length:=by
    rw[o,x8m];rfl
   by_cases v:it.s.name=[]
   ·refine⟨it.next,_,rfl,?_,?_⟩
    ·rw[if_pos v];exact .drop C u v
    ·rw[if_pos v];exact⟨j,by rw[m];exact x,n,rfl⟩
   ·obtain⟨P,H,N⟩:=z.pr;rw[A]at H;cases H;have w:=MZ hc A (YP G) (SN (by omega) v);rw[<-N]at w;refine⟨it.next,_,rfl,?_,?_⟩
    ·rw[if_neg v,m];exact .keep C u v rfl (P2 w)
    ·rw[if_neg v];refine⟨j.same rfl (by unfold setM;simp) j.fin j.r0 j.rd j.tr j.ou,?_,n,rfl⟩;have e:XY (setM (popM M (l++[g])) (varM (XY (popM M (l++[g]))) it.s.name) i)=g:=(Rj (M:=popM M (l++[g])) rfl).trans m;rw[e];exact x
end
def mainN(p:Pg):Nat:=(idxF (fun f=>f.name==mainS) p.A).toNat
def M00(p:Pg):Mc:=⟨[],List.replicate p.B.length 0,0,0,0,[],[]⟩
def JC(p:Pg):Cf:=.next (Qn p (mainN p) (prA p (mainN p))) (KV p (mainN p) (prA p (mainN p)) [] 0 (M00 p))
def D1{p:Pg}(hc:QP p=true):idxF (fun f=>f.name==mainS) p.A=(mainN p:Nat)/\p.A[mainN p]?=some (prA p (mainN p))/\(prA p (mainN p)).C=[]:=by
 obtain⟨k,f,h,_,j,m⟩:=SP hc;obtain⟨r,i,l,_,_,o⟩:=Vd (p:=p) (n:=mainS) (x8c.2 ⟨f,x9y h,j⟩);obtain⟨rfl,q⟩:=DN hc h (x8p i) (j.trans o.symm);have e:mainN p=k:=by unfold mainN;rw[l];rfl
 rw[e,WQ h];exact⟨l,h,m⟩
def Ch{p:Pg}(hc:QP p=true)(i:0<=fuel):MF p fuel (JC p):=by
 obtain⟨n,j,k⟩:=D1 hc;have h:=IB hc (M:=M00 p) (b:=0) (fun f l=>by cases l) (by simp[M00]) rfl (z0i _) (z0i _) (z0i _) (z0i _) (x8i _) j (ps:=[]) (by rw[k];rfl) (fun v m=>by cases m) (call:=0) (.one rfl);exact⟨h.1,z0i _,i,h.2.1⟩
def UB(p:Pg)(tape watch:List Int)(fuel:Int)(n:Nat)(c:Cf):HQ p tape watch fuel (n+1) c=goC p tape watch fuel (HQ p tape watch fuel n c):=rfl
def SV(p:Pg)(tape watch:List Int)(fuel:Int)(c:Cf){n m:Nat}{M:Mc}(h:HQ p tape watch fuel n c=.fin M)(o:HQ p tape watch fuel m c=.fin M'):M=M':=by
 have key:∀k,HQ p tape watch fuel (n+k) c=.fin M:=fun k=>by
  induction k with
  |zero=>exact h
  |succ k j=>rw[<-z1j,UB,j];rfl
 have i:∀k,HQ p tape watch fuel (m+k) c=.fin M':=fun k=>by
  induction k with
  |zero=>exact o
  |succ k j=>rw[<-z1j,UB,j];rfl
 have q:=key m;have l:=i n;rw[z4j m n,q]at l;cases l;rfl
def Jy:Info:={keep:=fun i=>VF [(27,[8,9]),(26,[2,8,10,11,12,13,126]),(25,[2,8,10,11,12,13]),(24,[2,8,10,11,12,13,117]),(20,[2,8,10,11,12,13]),(23,[2,8,10,11,12,13,111]),(22,[2,8,10,11,12,13]),(18,[2,8,10,11,12,13]),(21,[2,8,10,11,12,13,100]),(19,[2,8,10,11,12,13,90,94]),(17,[2,8,10,11,12,13,90]),(16,[2,8,10,11,12,13]),(15,[2,8,10,11,12,13]),(14,[2,8,10,11,12,13]),(13,[2,8,10,11,12,13,63]),(12,[2,8,10,11,12,13]),(11,[2,8,10,11,12,13,56]),(10,[2,8,10,11,12,13]),(9,[2,8,10,11,12]),(8,[2,8,10,11]),(7,[2,8,10,34,35]),(6,[2,8,10,34,35]),(5,[2,8,10,34,35,36]),(4,[2,8,10,34,35]),(3,[2,4,8,10]),(2,[8,9]),(1,[1,2,3,4,8,24]),(0,[1,2,3,4,8])] i,sched:=I_run_Of.sched,frz:=I_run_Of.frz}
def q4v:Code->Code
 | .seq a b=>match a with
   |.scope c=>c
   |_=>q4v b
 |.scope c=>c
 |c=>c
noncomputable def x1a:Code:=q4v (Tryz.f21.body.getD .skip)
noncomputable def q2i(l:Nat):Code:=(findLabel x1a l).getD .skip
def x1e{P:Program}{N:Nat}{K:Exit->St->Prop}{s:St}(h:ScopeK P tab N Jy x1a K s):ScopeK P tab N Jy x1a K s:=h
def rO:Chunk:=.obj 46 [.p (.int .i64 0),.p (.int .i64 0),.p (.int .i64 0),.p .nils,.p .nils]
def rM(p:Pg)(tape watch:List Int)(v:Nat)(M:Mc):Chunk:=.obj 113 [.p (.ip (sheetOf p).cells),.hd 2 0 p.B.length,.p (XZ tape),.p (XZ watch),.hd 3 0 M.stack.length,.hd 4 0 v,.p (.int .i64 M.fin),.p (.int .i64 M.steps),.p (.int .i64 M.reads),.hd 5 0 M.out.length,.hd 6 0 M.trace.length]
def rH(p:Pg)(tape watch:List Int)(bs:List Nat)(vs:List Int)(M:Mc)(it:Item):Heap:=[(0,rM p tape watch vs.length M),(2,.own 114 1 (YS bs (List.range p.B.length))),(3,.own 171 1 (M.stack.map (fmA bs))),(4,.own 2 1 (vs.map (.int .i64))),
 (5,.own 2 1 (M.out.map (.int .i64))),(6,.own 183 2 (M.trace.map evA)),(2500,.ext (.cells 2 (ZI bs M.mem))),(1,rO),(7,.obj 116 (it.cells.map .p))]
def q1j(l r:List (Nat×LV))(i:Nat):getS l i=getS (l++r) i\/getS l i=.p .any:=by
 induction l with
 |nil=>exact .inr rfl
 | cons x l h=>
   obtain⟨j,v⟩:=x;show(bif j==i then v else getS l i)=(bif j==i then v else getS (l++r) i)\/(bif j==i then v else getS l i)=.p .any;cases j==i
   .exact h
   .exact .inl rfl
def KQ{N:Nat}(l r:List (Nat×LV)){H:Heap}:Le N ⟨l++r,H⟩ ⟨l,H⟩:=Jp (q1j l r) (z3o _)
def AJ(p:Pg)(tape watch:List Int)(fuel h i:Int)(bs:List Nat)(vs:List Int)(M:Mc)(it:Item):St:=⟨[(2,.j fuel),(8,.ptr 1 0),(10,.ptr 0 0),(11,.ptr 7 0),(12,.j h),(13,.j i)],rH p tape watch bs vs M it⟩
structure RIx where
 c:Cf
 gv:Int
 at_:Int
 bs:List Nat
 vs:List Int
 it:Item
def RIx.st(p:Pg)(tape watch:List Int)(fuel:Int)(i:RIx):St:=match i.c with
 |.next a M=>AJ p tape watch fuel i.gv a i.bs i.vs M i.it
 |.back g M=>AJ p tape watch fuel g i.at_ i.bs i.vs M i.it
 |.fin M=>AJ p tape watch fuel i.gv i.at_ i.bs i.vs M i.it
def RIx.lab(i:RIx):Nat:=match i.c with
 |.next _ _=>1
 |.back _ _=>0
 |.fin _=>2
def RIx.bok(i:RIx):Prop:=match i.c with
 |.next _ M=>i.bs.length=M.mem.length
 |.back _ M=>i.bs.length=M.mem.length
 |.fin _=>True
def Kgo(p:Pg)(tape watch:List Int)(fuel:Int)(c:Cf)(K:Exit->St->Prop):Prop:=∀(i:RIx)(s':St),i.c=goC p tape watch fuel c->i.bok->Le Tryz.f21.ntmps s' (i.st p tape watch fuel)->K (.goto i.lab) s'
def Rp{p:Pg}(hc:QP p=true){k:Nat}{g:Pr}(h:p.A[k]?=some g):aP 106 [.agg p.cells,.str g.name] (eStrs (varsS p g)):=by
 have n:=(XQ hc).1;have o:=(ZA (QU hc).1).pr g (x9y h);exact Aa p (QU hc).1 k g h (fun j m l i=>(DN hc l h i).1) (by omega) (by omega) (by omega)
def q9r{p:Pg}{tape watch:List Int}{M:Mc}{f:Fm}{g:Pr}{it:Item}:(doM p tape watch M f g it).2.mem.length=M.mem.length:=by
 have h:∀(M:Mc) v,(QJ watch M it.s.id v).mem=M.mem:=fun M v=>LF;unfold doM;split
 .show (QJ watch M it.s.id []).mem.length=_;rw[h]
 split
 .show (QJ watch M it.s.id []).mem.length=_;rw[h]
 split
 .show (QJ watch M it.s.id []).mem.length=_;rw[h]
 split
 .split
  .rfl
  .show (QJ watch _ it.s.id _).mem.length=_;rw[h];simp[setM]
 cases(QD M f it.s.x).2 with
 |false=>rfl
 | true=>
   rw[x9z];split
   .show ((QJ watch M it.s.id _).mem.set _ _).length=_;rw[z0h,h]
   split
   .show (QJ watch M it.s.id _).mem.length=_;rw[h]
   split
   .show (QJ watch M it.s.id _).mem.length=_;rw[h]
   split
   .show (QJ watch M it.s.id _).mem.length=_;rw[h]
   .show (QJ watch M it.s.id _).mem.length=_;rw[h]
def R3(p:Pg)(hc:QP p=true)(tape watch:List Int)(htp:tape.length<=10000000)(fuel:Int)(hfu:fuel<=1000000)(n:Int)(bs:List Nat)(vs:List Int)(u:Item)(a:Int)(M:Mc)(hG:MF p fuel (.next a M))(E:bs.length=M.mem.length)(K:Exit->St->Prop)(k:Kgo p tape watch fuel (.next a M) K):
  W prog tab Tryz.f21.ntmps Jy (q2i 1) K (AJ p tape watch fuel n a bs vs M u):=by
 obtain⟨m,hs0,hs1,Y⟩:=hG;have hOk:=m.okM hc E;obtain⟨st,hst⟩:=m.top;have hcn:=(XQ hc).2.2;have hgc:=(XQ hc).1;have hll:=(QY p).2.2.2.1;have htr:=m.tr;have Z:=m.ou;have hrd:=m.rd;have P:=m.r0;have L:=m.fin;have Q:=m.sl;unfold Kgo at k;simp only[goC]at k;by_cases ha:a = -1
 .rw [if_pos ha]at k;conv=>whnf
  repeat' (apply bD<;>intro _<;>first|omega|conv=>whnf)
  all_goals first
   |(exfalso;omega)
   |exact k ⟨.back 0 M,0,a,bs,vs,u⟩ _ rfl E (Le.of_eq rfl)
   |exact k ⟨.back 0 M,0,a,bs,vs,u⟩ _ rfl E (KQ (RIx.st p tape watch fuel ⟨.back 0 M,0,a,bs,vs,u⟩).sl [_])
 rw[if_neg ha]at k;by_cases F:M.steps=fuel
 .rw [if_pos F]at k;conv=>whnf
  repeat' ((first|refine x9p rfl ?_|(apply bD<;>intro _<;>try omega))<;>conv=>whnf)
  all_goals first
   |(exfalso;omega)
   |exact k ⟨.fin (endM M 2),n,a,bs,vs,u⟩ _ rfl trivial (Le.of_eq rfl)
   |exact k ⟨.fin (endM M 2),n,a,bs,vs,u⟩ _ rfl trivial (KQ (RIx.st p tape watch fuel ⟨.fin (endM M 2),n,a,bs,vs,u⟩).sl [_])
 rw[if_neg F]at k;rcases Y with h|⟨g,it,hg,h1,I,hi,hid⟩
 .exact absurd h ha
 rw[I]at k;simp only at k;have y:((sheetOf p).l.map fun i=>AV.agg i.cells)[(a-1).toNat]?=some (.agg it.cells):=by rw[x9x,I];rfl
 have hlt:(a-1).toNat<(sheetOf p).l.length:=(x8t.1 I).1;have G:Good p (QL M) M.steps:=m.same rfl (x9h _) L P hrd htr Z;have c:OkM p bs (QL M):=G.okM hc E;have f:(QL M).stack=st++[XY (QL M)]:=hst;have J:(QL M).stack.length<=101:=Q;have B:(QL M).trace.length<=10000000:=by show M.trace.length<=_;omega
 have O:(QL M).out.length<=10000000:=by show M.out.length<=_;omega
 have z:p.A[(XY (QL M)).D]?=some g:=hg;have T:=YP hi;have N:it∈itsOf p (XY (QL M)).D g:=hi;unfold stI at k;by_cases U:it.s.kind=4
 .rw [if_pos U]at k;obtain⟨k1,k2,k3⟩:=Mk hc hg T U;have hpar:=Vm hc (KJ p it.s);have hmf:=(ZA (QU hc).1).pr _ (x9y k2);have t:=Yf p tape watch bs vs (QL M) st (XY (QL M)) f c J B it.s (by omega) (fun b E R=>(U9 hc G z T (RE E R)).1) (KJ p it.s) (prA p (KJ p it.s)) k2 k1 (Rp hc k2) (by omega) (by omega);generalize R:YJ p watch (QL M) (XY (QL M)) it.s (KJ p it.s) (prA p (KJ p it.s))=r at*
  obtain⟨v,M'⟩:=r;unfold Xj at k;simp only at k t;by_cases C:M'.fin=0
  .rw [if_pos C]at k;conv=>whnf
   repeat' ((first|refine x9p rfl ?_|refine wI ?_|refine iT y ?_|(apply bD<;>intro _<;>try omega)|(refine cJ rH3 0 t ?_;rintro l' H' ⟨o,j,rfl,rfl,q⟩))<;>conv=>whnf)
   all_goals first
    |(exfalso;omega)
    |exact k ⟨.next v M',n,0,o,j,it⟩ _ rfl (by assumption) (Le.of_eq rfl)
    |exact k ⟨.next v M',n,0,o,j,it⟩ _ rfl (by assumption) (KQ (RIx.st p tape watch fuel ⟨.next v M',n,0,o,j,it⟩).sl [_])
  .rw [if_neg C]at k;conv=>whnf
   repeat' ((first|refine x9p rfl ?_|refine wI ?_|refine iT y ?_|(apply bD<;>intro _<;>try omega)|(refine cJ rH3 0 t ?_;rintro l' H' ⟨o,j,rfl,rfl,q⟩))<;>conv=>whnf)
   all_goals first
    |(exfalso;omega)
    |exact k ⟨.fin M',n,v,o,j,it⟩ _ rfl trivial (Le.of_eq rfl)
    |exact k ⟨.fin M',n,v,o,j,it⟩ _ rfl trivial (KQ (RIx.st p tape watch fuel ⟨.fin M',n,v,o,j,it⟩).sl [_])
 rw[if_neg U]at k;by_cases h9:it.s.kind=9
 .rw [if_pos h9]at k;have e:=U0 p tape watch bs vs (QL M) st (XY (QL M)) f c B it.s;have d:(J5 watch (QL M) (XY (QL M)) it.s).2.fin=0->(J5 watch (QL M) (XY (QL M)) it.s).2.mem=(QL M).mem:=fun _=>by
   unfold J5;cases it.s.has with
   |false=>exact LF
   | true=>cases hw:(QD (QL M) (XY (QL M)) it.s.x).2 with
     |false=>rfl
     |true=>exact LF
  generalize R:J5 watch (QL M) (XY (QL M)) it.s=r at*
  obtain⟨w,M'⟩:=r;unfold PF at k;simp only at k e d;by_cases C:M'.fin=0
  .rw [if_pos C]at k;have q:bs.length=M'.mem.length:=by rw[d C];exact E
   conv=>whnf
   repeat' ((first|refine x9p rfl ?_|refine wI ?_|refine iT y ?_|(apply bD<;>intro _<;>try omega)|(refine cJ rH3 0 e ?_;rintro l' H' ⟨j,rfl,rfl⟩))<;>conv=>whnf)
   all_goals first
    |(exfalso;omega)
    |exact k ⟨.back w M',0,a,bs,j,it⟩ _ rfl q (Le.of_eq rfl)
    |exact k ⟨.back w M',0,a,bs,j,it⟩ _ rfl q (KQ (RIx.st p tape watch fuel ⟨.back w M',0,a,bs,j,it⟩).sl [_])
  .rw [if_neg C]at k;conv=>whnf
   repeat' ((first|refine x9p rfl ?_|refine wI ?_|refine iT y ?_|(apply bD<;>intro _<;>try omega)|(refine cJ rH3 0 e ?_;rintro l' H' ⟨j,rfl,rfl⟩))<;>conv=>whnf)
   all_goals first
    |(exfalso;omega)
    |exact k ⟨.fin M',w,a,bs,j,it⟩ _ rfl trivial (Le.of_eq rfl)
    |exact k ⟨.fin M',w,a,bs,j,it⟩ _ rfl trivial (KQ (RIx.st p tape watch fuel ⟨.fin M',w,a,bs,j,it⟩).sl [_])
 rw[if_neg h9]at k;have hpA:=WQ z;rw[hpA]at k;have V:DoOk p (XY (QL M)) g it:=⟨fun h7=>by
   have hl:=(PN hc z).1 it N h7;exact⟨hl.1,by omega,_,x8p (by omega)⟩,⟨_,MX _ _ _ _ _ _ it N,z⟩,fun h12=>by
   have hO:=Bu hc z T;have hn:=HC (hO.name (by omega));exact(U9 hc G z T (SN (by omega) (by simpa using hn))).1⟩
 have H:=Hl p (by omega) tape watch htp bs vs (QL M) st (XY (QL M)) f c B O P (by show M.reads<=_;omega) g it V;have d:(doM p tape watch (QL M) (XY (QL M)) g it).2.mem.length=(QL M).mem.length:=q9r;generalize R:doM p tape watch (QL M) (XY (QL M)) g it=r at*
 obtain⟨v,M'⟩:=r;unfold Xj at k;simp only at k H d;by_cases C:M'.fin=0
 .rw [if_pos C]at k;have q:bs.length=M'.mem.length:=by rw[d];exact E
  conv=>whnf
  repeat' ((first|refine x9p rfl ?_|refine wI ?_|refine iT y ?_|(apply bD<;>intro _<;>try omega)|(refine cJ rH3 0 H ?_;rintro l' H' ⟨j,rfl,rfl⟩))<;>conv=>whnf)
  all_goals first
   |(exfalso;omega)
   |exact k ⟨.next v M',n,0,bs,j,it⟩ _ rfl q (Le.of_eq rfl)
   |exact k ⟨.next v M',n,0,bs,j,it⟩ _ rfl q (KQ (RIx.st p tape watch fuel ⟨.next v M',n,0,bs,j,it⟩).sl [_])
 .rw [if_neg C]at k;conv=>whnf
  repeat' ((first|refine x9p rfl ?_|refine wI ?_|refine iT y ?_|(apply bD<;>intro _<;>try omega)|(refine cJ rH3 0 H ?_;rintro l' H' ⟨j,rfl,rfl⟩))<;>conv=>whnf)
  all_goals first
   |(exfalso;omega)
   |exact k ⟨.fin M',n,v,bs,j,it⟩ _ rfl trivial (Le.of_eq rfl)
   |exact k ⟨.fin M',n,v,bs,j,it⟩ _ rfl trivial (KQ (RIx.st p tape watch fuel ⟨.fin M',n,v,bs,j,it⟩).sl [_])
def Bi{p:Pg}(hc:QP p=true)(tape watch:List Int){c:Cf}(h:MF p fuel c)(F:∀M,c ≠ .fin M):MF p fuel (goC p tape watch fuel c)/\cfμ fuel (goC p tape watch fuel c)<cfμ fuel c:=by
 cases c with
 |fin M=>exact absurd rfl (F M)
 | back g M=>
   obtain⟨j,b,d⟩:=h;obtain⟨st,z⟩:=j.top;obtain⟨_,⟨M',e,_,_⟩|⟨a,M',e,_,x,o,E,k⟩⟩:=Sw hc j z g
   .show MF p fuel (ZO p g M)/\cfμ fuel (ZO p g M)<_;rw[e];exact⟨trivial,succ_pos _⟩
   .show MF p fuel (ZO p g M)/\cfμ fuel (ZO p g M)<_;rw[e];refine⟨⟨by rw[k];exact x,by omega,by omega,o⟩,?_⟩;show 6*(fuel-M'.steps).toNat+2*M'.stack.length+2<6*(fuel-M.steps).toNat+2*M.stack.length+1;rw[k];omega
 | next a M=>
   obtain⟨j,b,d,o⟩:=h;simp only[goC];by_cases ha:a = -1
   .rw [if_pos ha];exact⟨⟨j,b,d⟩,by show _+1<_+2;omega⟩
   rw[if_neg ha];by_cases f:M.steps=fuel
   .rw [if_pos f];exact⟨trivial,succ_pos _⟩
   rw[if_neg f];rcases o with h|⟨g,it,B,_,y,C,_⟩
   .exact absurd h ha
   rw[y];simp only;have n:Good p (QL M) M.steps:=j.same rfl (x9h _) j.fin j.r0 j.rd j.tr j.ou;have key:∀(r:Int×Mc),r.2.steps=(QL M).steps->(r.2.fin=0->Good p r.2 (M.steps+1)/\AtOk p r.1 (XY r.2).D/\r.2.stack.length<=M.stack.length+1)->MF p fuel (Xj r)/\cfμ fuel (Xj r)<cfμ fuel (.next a M):=fun r k G=>by
    have k:r.2.steps=M.steps+1:=k;unfold Xj;by_cases m:r.2.fin=0
    .rw [if_pos m];obtain⟨t,i,J⟩:=G m;refine⟨⟨by rw[k];exact t,by omega,by omega,i⟩,?_⟩;show 6*(fuel-r.2.steps).toNat+2*r.2.stack.length+2<6*(fuel-M.steps).toNat+2*M.stack.length+2;omega
    .rw [if_neg m];exact⟨trivial,succ_pos _⟩
   unfold stI;have q:p.A[(XY (QL M)).D]?=some g:=B;have u:it∈itsOf p (XY (QL M)).D g:=C;by_cases v:it.s.kind=4
   .rw [if_pos v];obtain⟨t,i⟩:=q5o hc watch n q u v rfl;exact key _ t fun l=>⟨(i l).1,(i l).2.1,Nat.le_of_eq (i l).2.2⟩
   rw[if_neg v];by_cases w:it.s.kind=9
   .rw [if_pos w];obtain⟨t,i⟩:=Cz watch n it.s rfl;generalize J5 watch (QL M) (XY (QL M)) it.s=r at*
    have k:r.2.steps=M.steps+1:=t;unfold PF;by_cases m:r.2.fin=0
    .rw [if_pos m];obtain⟨H,I⟩:=i m;have E:r.2.stack.length=M.stack.length:=by rw[I];rfl
     refine⟨⟨by rw[k];exact H,by omega,by omega⟩,?_⟩;show 6*(fuel-r.2.steps).toNat+2*r.2.stack.length+1<6*(fuel-M.steps).toNat+2*M.stack.length+2;omega
    .rw [if_neg m];exact⟨trivial,succ_pos _⟩
   rw[if_neg w,WQ q];obtain⟨t,i⟩:=q0p hc tape watch n q u v w rfl;refine key _ t fun l=>⟨(i l).1,?_,?_⟩
   .rw [Rj (i l).2.2];exact(i l).2.1
   .rw [(i l).2.2];exact Nat.le_succ _
def Md{p:Pg}{M:Mc}{st:List Fm}{f:Fm}{g a:Int}(h:CloseP p M st f g a M'):M'.stack=st:=by
 cases h<;>rfl
def CI{p:Pg}{M:Mc}{st:List Fm}{f:Fm}{g a:Int}(h:CloseP p M st f g a M'):M'.mem.length=M.mem.length:=by
 cases h<;>first|rfl|simp[setM,popM]
def Fw(p:Pg)(tape watch:List Int)(bs:List Nat)(vs:List Int)(M:Mc)(st:List Fm)(f:Fm)(r:M.stack=st++[f])(n:OkM p bs M)(k:f.call<=100000)(h:Int)(i:Int)(M':Mc)(m:CloseP p M st f h i M'):
  aH 55 [.ptr 1000 0,.j h] (mH p tape watch bs vs M) (.p (.int .i64 i)) (mH p tape watch bs vs M'):=
 (Vo p tape watch bs vs M st f r n k h i M' m).post fun l H' ⟨es,o,q,hH⟩=>⟨mH p tape watch bs vs M',⟨q,rfl⟩,by
   subst hH;have e:M'.stack=st:=Md m;refine Le.cut ?_;show CutH (mHs p tape watch bs vs M' es) (mHs p tape watch bs vs M' (M'.stack.map (fmA bs)));rw[e];exact .same (.same (.cut o (.same (.same (.same (.same .nil))))))⟩
def q6d(bs:List Nat)(M:Mc):St:=⟨[(8,.ptr 1 0),(9,.j 0)],[(5,.own 2 1 (M.out.map (.int .i64))),(6,.own 183 2 (M.trace.map evA)),(2500,.ext (.cells 2 (ZI bs M.mem))),
 (1,.obj 46 [.p (.int .i64 M.fin),.j M.steps,.j M.reads,.hd 5 0 M.out.length,.hd 6 0 M.trace.length])]⟩
def IL(p:Pg)(hc:QP p=true)(tape watch:List Int)(fuel:Int)(z:fuel<=1000000)(g:Int)(bs:List Nat)(vs:List Int)(h:Item)(t:Int)(M:Mc)(x:MF p fuel (.back g M))(w:bs.length=M.mem.length)(K:Exit->St->Prop)(l:Kgo p tape watch fuel (.back g M) K)(s:∀(M':Mc),goC p tape watch fuel (.back g M)=.fin M'->K .ret (q6d bs M')):
  W prog tab Tryz.f21.ntmps Jy (q2i 0) K (AJ p tape watch fuel g t bs vs M h):=by
 obtain⟨i,b,c⟩:=x;have m:=i.okM hc w;obtain⟨st,k⟩:=i.top;unfold Kgo at l;simp only[goC]at l s;obtain⟨o,⟨M',e,r,q⟩|⟨a,M',e,r,u,y,d,f⟩⟩:=Sw hc i k g
 .have j:=Fw p tape watch bs vs M st (XY M) k m o g (-1) M' r;have v:=s M' e;clear s l;conv=>whnf
  repeat' ((first|refine x9p rfl ?_|(apply bD<;>intro _<;>try omega)|(refine cH rH3 0 j ?_))<;>conv=>whnf)
  all_goals first
   |(exfalso;omega)
   |exact v
 .have j:=Fw p tape watch bs vs M st (XY M) k m o g a M' r;have n:bs.length=M'.mem.length:=by rw[CI r];exact w
  have q:=u.fin;rw[e]at l;clear s;conv=>whnf
  repeat' ((first|(apply bD<;>intro _<;>try omega)|(refine cH rH3 0 j ?_))<;>conv=>whnf)
  all_goals first
   |(exfalso;omega)
   |exact l ⟨.next a M',g,0,bs,vs,h⟩ _ rfl n (Le.of_eq rfl)
   |exact l ⟨.next a M',g,0,bs,vs,h⟩ _ rfl n (KQ (RIx.st p tape watch fuel ⟨.next a M',g,0,bs,vs,h⟩).sl [_])
def q2l(p:Pg)(tape watch:List Int)(fuel j h:Int)(bs:List Nat)(vs:List Int)(i:Item)(M:Mc)(K:Exit->St->Prop)(k:K .ret (q6d bs M)):
  W prog tab Tryz.f21.ntmps Jy (q2i 2) K (AJ p tape watch fuel j h bs vs M i):=by
 conv=>whnf
 repeat' (refine x9p rfl ?_;conv=>whnf)
 all_goals first
  |exact k
def q2t{bs:List Nat}{n:Nat}(h:bs.length=n):YS bs (List.range n)=bs.map cpA:=by
 have:=C6 (bs:=[]) (nb:=bs);rw[z1g,z1p,h,<-List.range_eq_range']at this;exact this
def Ep{bs:List Nat}{n:Nat}(h:bs.length=n):ZI bs (List.replicate n 0)=bs.map fun b=>(b,.int .i64 0):=by
 have:=Mf (bs:=[]) (mem:=[]) (nb:=bs) rfl;rw[h]at this;exact this
def x6i:Item:=⟨⟨0,0,[],[],[],⟨0,0,[],[]⟩,false,[],[],[]⟩,0,0,0,0⟩
def gSt(p:Pg)(tape watch:List Int)(fuel:Int)(j:Nat)(bs:List Nat):St:=⟨[(2,.j fuel),(8,.ptr 1 0),(10,.ptr 0 0),(34,.p (.int .i64 (p.B.map AV.str).length)),(35,.j j)],
 [(2500,.ext (.cells 2 (bs.map fun b=>(b,.int .i64 0)))),(0,.obj 113 [.p (.ip (sheetOf p).cells),.hd 2 0 j,.p (XZ tape),.p (XZ watch),.hd 3 0 0,.hd 4 0 0,.j 0,.j 0,.j 0,.hd 5 0 0,.hd 6 0 0]),(2,.own 114 1 (bs.map cpA)),(3,.own 171 1 []),(4,.own 2 1 []),(5,.own 2 1 []),(6,.own 183 2 []),(1,rO)]⟩
structure GIx where
 j:Nat
 bs:List Nat
def eR(p:Pg)(k:Nat)(g:Pr):Int->Int->Prop:=stR ((QQ p k g).real.filter (Lf p (endsR p)))
inductive Pos:List Fm->Int->Nat->Int->Prop
 |top {st:List Fm} {f:Fm} {x:Int}:Pos (st++[f]) x f.D x
 |low {st:List Fm} {f:Fm} {x:Int} {k:Nat} {y:Int} (h:Pos st f.call k y):Pos (st++[f]) x k y
theorem Pos.inv{st:List Fm}{f:Fm}{x:Int}{k:Nat}{y:Int}(h:Pos (st++[f]) x k y):(k=f.D/\y=x)\/Pos st f.call k y:=by
 generalize j:st++[f]=l at h;cases h with
 | top=>
   obtain⟨_,i⟩:=z2k j rfl;cases i;exact .inl ⟨rfl,rfl⟩
 | low h=>
   obtain⟨rfl,i⟩:=z2k j rfl;cases i;exact .inr h
def EvP(p:Pg)(P:Nat->Int->Prop)(e:Int×List Int):Prop:=∃k g t,p.A[k]?=some g/\t∈flL g.body/\t.id=e.1/\Rch (eR p k g) 0 e.1/\(Rch (eR p k g) e.1 (-1)\/∃y,P k y/\Rch (eR p k g) e.1 y)
structure InvM(p:Pg)(M:Mc)(x:Int):Prop where
 pos:∀k y,Pos M.stack x k y->∃g,p.A[k]?=some g/\Rch (eR p k g) 0 y
 ev:∀e∈M.trace,EvP p (Pos M.stack x) e
 fr:∀f∈M.stack,(f.call=0/\f.D=mainN p)\/(f.call≠0/\∃g it,p.A[f.D]?=some g/\(sheetOf p).l[(f.call-1).toNat]?=some it/\g.name=it.s.D)
def closedE(p:Pg)(e:Int×List Int):Prop:=∃k g t,p.A[k]?=some g/\t∈flL g.body/\t.id=e.1/\Rch (eR p k g) 0 e.1/\Rch (eR p k g) e.1 (-1)
def liveE(p:Pg)(e:Int×List Int):Prop:=∃k g t,p.A[k]?=some g/\t∈flL g.body/\t.id=e.1/\Rch (eR p k g) 0 e.1
structure InvF(p:Pg)(M:Mc):Prop where
 live:∀e∈M.trace,liveE p e
 done:M.fin=1->mainS∈endsR p/\∀e∈M.trace,closedE p e
def OL(p:Pg):Cf->Prop
 |.next a M=>InvM p M a
 |.back _ M=>InvM p M (-1)
 |.fin M=>InvF p M
theorem InvM.fin{p:Pg}{M:Mc}{x:Int}(h:InvM p M x)(r:M'.trace=M.trace)(q:M'.fin≠1):InvF p M':=
 ⟨fun e o=>by
   obtain⟨k,g,t,i,j,l,m,_⟩:=h.ev e (r▸o);exact⟨k,g,t,i,j,l,m⟩,fun h=>absurd h q⟩
def K5{w:List Int}{M:Mc}{id:Int}{v:List Int}{e:Int×List Int}(h:e∈(QJ w M id v).trace):e∈M.trace\/e.1=id:=by
 unfold QJ at h;cases i:w.any (fun x=>decide (id=x))<;>rw[i]at h
 .exact .inl h
 .rcases x8e.1 h with h|h
  .exact .inl h
  .rw [x9q.1 h];exact .inr rfl
section
variable {p:Pg}(hc:QP p=true)
include hc
def q6b{k:Nat}{g:Pr}(l:p.A[k]?=some g){it:Item}(j:it∈itsOf p k g){b:Int}(n:b∈UU (sheetOf p) g it)(h:it.s.kind=4->it.s.D∈endsR p):eR p k g it.s.id b:=by
 refine⟨⟨it.s.id,b,1⟩,z0u.2 ⟨((VN hc l).2 _).2 (R5 j n),?_⟩,rfl,rfl⟩;unfold Lf;rw[z3x];refine .inr ?_;show(match OA p it.s.id with|some s=>_|none=>_)=true;rw[TH hc l (YP j)];show(!(decide (it.s.kind=4) && !((endsR p).any fun x=>it.s.D==x)))=true;by_cases i:it.s.kind=4
 .have m:((endsR p).any fun x=>it.s.D==x)=true:=z0g.2 ⟨_,h i,by simp⟩;rw[m];simp
 .simp [i]
def Sj{k:Nat}{g:Pr}(h:p.A[k]?=some g):eR p k g 0 (Qn p k g):=by
 refine⟨⟨0,x3i p k g,1⟩,z0u.2 ⟨((VN hc h).2 _).2 (by unfold QK x3i;exact x8l),?_⟩,rfl,rfl⟩;unfold Lf;simp
def x0u{k:Nat}{g:Pr}(i:p.A[k]?=some g)(h:Rch (eR p k g) 0 (-1)):g.name∈endsR p:=(q0t hc i).2 h
omit hc in
theorem InvM.on{M M':Mc}{a b:Int}{st:List Fm}{f:Fm}(h:InvM p M a)(m:M.stack=st++[f])(i:M'.stack=M.stack){g:Pr}(r:p.A[f.D]?=some g){it:Item}(G:it∈itsOf p f.D g)(q:it.s.id=a)(w:eR p f.D g a b)(H:∀e∈M'.trace,e∈M.trace\/e.1=it.s.id):InvM p M' b:=by
 have z:Rch (eR p f.D g) 0 a:=by
  obtain⟨x,o,v⟩:=h.pos f.D a (by rw[m];exact .top);rw[r]at o;cases o;exact v
 refine⟨fun k y u=>?_,fun e l=>?_,fun B F=>h.fr B (i▸F)⟩
 .rw [i,m]at u;rcases u.inv with⟨rfl,rfl⟩|u
  .exact ⟨g,r,.tail z w⟩
  .exact h.pos k y (by rw[m];exact .low u)
 .rcases H e l with l|l
  .obtain ⟨k,x,t,o,v,C,E,j⟩:=h.ev e l;refine⟨k,x,t,o,v,C,E,?_⟩;rcases j with j|⟨y,j,c⟩
   .exact .inl j
   .rw [m]at j;rcases j.inv with⟨rfl,rfl⟩|j
    .rw [r]at o;cases o;exact .inr ⟨b,by rw[i,m];exact .top,.tail c w⟩
    .exact .inr ⟨y,by rw[i,m];exact .low j,c⟩
  .rw [q]at l;exact⟨f.D,g,it.s,r,YP G,by rw[l,q],by rw[l];exact z,.inr ⟨b,by rw[i,m];exact .top,by rw[l];exact .tail .refl w⟩⟩
theorem InvM.push{M:Mc}{a:Int}{st:List Fm}{f n:Fm}(h:InvM p M a)(C:M.stack=st++[f])(m:M'.stack=M.stack++[n])(z:n.call=a){g:Pr}(v:p.A[f.D]?=some g){it:Item}(x:it∈itsOf p f.D g)(j:it.s.id=a){q:Pr}(c:p.A[n.D]?=some q)(b:q.name=it.s.D)(L:∀e∈M'.trace,e∈M.trace\/e.1=it.s.id):InvM p M' (Qn p n.D q):=by
 have F:Rch (eR p f.D g) 0 a:=by
  obtain⟨B,u,w⟩:=h.pos f.D a (by rw[C];exact .top);rw[v]at u;cases u;exact w
 have r:∀k y,Pos M.stack a k y->Pos M'.stack (Qn p n.D q) k y:=fun k y l=>by
  rw[m];exact .low (by rw[z];exact l)
 refine⟨fun k y l=>?_,fun e i=>?_,fun E o=>?_⟩
 ·rw[m]at l;rcases l.inv with⟨rfl,rfl⟩|l
  ·exact⟨q,c,.tail .refl (Sj hc c)⟩
  ·rw[z]at l;exact h.pos k y l
 ·rcases L e i with i|i
  ·obtain⟨k,B,t,u,w,G,H,I⟩:=h.ev e i;exact⟨k,B,t,u,w,G,H,I.imp id fun⟨y,J,K⟩=>⟨y,r _ _ J,K⟩⟩
  ·rw[j]at i;exact⟨f.D,g,it.s,v,YP x,by rw[i,j],by rw[i];exact F,.inr ⟨a,r _ _ (by rw[C];exact .top),by rw[i];exact .refl⟩⟩
 ·rw[m]at o;rcases x8e.1 o with o|o
  ·exact h.fr E o
  ·rw[x9q.1 o];have:=ZS (QU hc).1 v (YP x);refine .inr ⟨by omega,q,it,c,?_,b⟩;rw[z,<-j];exact q1r hc v x
def I7:OL p (JC p):=by
 obtain⟨q,i,r⟩:=D1 hc;have m:(KV p (mainN p) (prA p (mainN p)) [] 0 (M00 p)).stack=[]++[⟨mainN p,varsS p (prA p (mainN p)),List.range p.B.length++[]++List.range' (M00 p).mem.length (prA p (mainN p)).E.length,0⟩]:=rfl;refine InvM.mk (fun k y h=>?_) (fun e n=>(by cases n)) (fun f j=>?_)
 .rw [m]at h;rcases h.inv with⟨rfl,rfl⟩|h
  .exact ⟨_,i,.tail .refl (Sj hc i)⟩
  .generalize o:([]:List Fm)=l at h;cases h<;>simp at o
 .rw [m]at j;rw[x9q.1 j];exact .inl ⟨rfl,rfl⟩
def Lb:(prA p (mainN p)).name=mainS:=by
 obtain⟨q,r,_⟩:=D1 hc;obtain⟨k,f,i,_,j,_⟩:=SP hc;obtain⟨o,h,l,_,_,m⟩:=Vd (p:=p) (n:=mainS) (x8c.2 ⟨f,x9y i,j⟩);have e:mainN p=o:=by unfold mainN;rw[l];rfl
 rw[e,WQ (x8p h)];exact m
omit hc in
def x3d(tape watch:List Int){M:Mc}{f:Fm}{g:Pr}{it:Item}{r:Int×Mc}(w:r=doM p tape watch M f g it)(i:M.fin=0):(∀e∈r.2.trace,e∈M.trace\/e.1=it.s.id)/\(r.2.fin≠0->r.2.trace=M.trace/\r.2.fin≠1):=by
 subst w;have key:∀(k j:Mc)(v:List Int),k.trace=M.trace->k.fin=0->j.trace=(QJ watch k it.s.id v).trace->j.fin=(QJ watch k it.s.id v).fin->(∀e∈j.trace,e∈M.trace\/e.1=it.s.id)/\(j.fin≠0->j.trace=M.trace/\j.fin≠1):=fun k j v o q t u=>by
  refine⟨fun e m=>?_,fun h=>?_⟩
  .rw [t]at m;rcases K5 m with h|h
   .exact .inl (o▸h)
   .exact .inr h
  .rw [u,(XD watch k it.s.id v).2.2.1,q]at h;exact absurd rfl h
 have l:∀c:Int,c≠1->(∀e∈(endM M c).trace,e∈M.trace\/e.1=it.s.id)/\((endM M c).fin≠0->(endM M c).trace=M.trace/\(endM M c).fin≠1):=fun c hc=>⟨fun e m=>.inl m,fun _=>⟨rfl,hc⟩⟩;unfold doM;split
 .exact key M _ [] rfl i rfl rfl
 split
 .exact key M _ [] rfl i rfl rfl
 split
 .exact key M _ [] rfl i rfl rfl
 split
 .split
  .exact l 3 (by decide)
  .exact key (setM {M with reads:=M.reads+1} (varM f it.s.name) (tape.getD M.reads.toNat 0)) _ [tape.getD M.reads.toNat 0] rfl i rfl rfl
 cases(QD M f it.s.x).2 with
 |false=>exact l 4 (by decide)
 | true=>
   rw[x9z];generalize(QD M f it.s.x).1=n;split
   .exact key M _ [n] rfl i rfl rfl
   split
   .exact key M _ [n] rfl i rfl rfl
   split
   .exact key M _ [n] rfl i rfl rfl
   split
   .exact key M _ [n] rfl i rfl rfl
   .exact key M _ [n] rfl i rfl rfl
theorem q1p{M:Mc}{b:Int}(Q:Good p M b)(h:InvM p M (-1))(x:Int):OL p (ZO p x M):=by
 obtain⟨st,n⟩:=Q.top;have O:M.stack.dropLast=st:=by rw[n,z3b]
 have r:=Q.ch;rw[n]at r;have a:=h.fr (XY M) (by rw[n];simp);obtain⟨q',m,z⟩:=h.pos _ _ (by rw[n];exact .top);have u:=x0u hc m z;generalize hF:XY M=F at*
 unfold ZO;rw[O,hF];generalize R:st++[F]=L at r;cases r with
 | one I=>
   rename_i f;obtain⟨rfl,o⟩:=z2k (show st++[F]=[]++[f]from R) rfl;have o:F=f:=by simpa using o
   subst o;rw[if_pos I];refine InvF.mk (fun e w=>?_) fun _=>⟨?_,fun e w=>?_⟩
   ·obtain⟨k,g,t,v,d,A,B,_⟩:=h.ev e w;exact⟨k,g,t,v,d,A,B⟩
   ·rcases a with⟨_,hm⟩|⟨K,_⟩
    ·rw[hm,(D1 hc).2.1]at m;cases m;rw[Lb hc]at u;exact u
    ·exact absurd I K
   ·obtain⟨k,g,t,v,d,A,B,i⟩:=h.ev e w;refine⟨k,g,t,v,d,A,B,?_⟩;rcases i with i|⟨y,i,C⟩
    ·exact i
    ·rw[n]at i;rcases i.inv with⟨_,rfl⟩|i
     ·exact C
     ·generalize U:([]:List Fm)=l at i;cases i<;>simp at U
 | push U h1 hle c hk H hi J=>
   rename_i l g f q it;obtain⟨rfl,o⟩:=z2k R rfl;have o:F=f:=by simpa using o
   subst o;rw[if_neg (by omega),c];have N:it.s.D∈endsR p:=by
    rcases a with⟨I,_⟩|⟨_,P,it',V,Y,v3⟩
    ·omega
    ·rw[c]at Y;cases Y;rw[m]at V;cases V;rw[<-v3];exact u
   have j:eR p g.D q F.call it.next:=by
    rw[<-J];refine q6b hc H hi ?_ fun _=>N;unfold UU;rw[if_neg (by omega),if_neg (by omega),if_neg (by omega),if_neg (by omega),if_neg (by omega),if_neg (by omega)];exact x8l
   have key:∀M':Mc,M'.stack=l++[g]->M'.trace=M.trace->InvM p M' it.next:=fun M' E e2=>by
    refine⟨fun k y G=>?_,fun e w=>?_,fun f' T=>h.fr f' (by rw[n];rw[E]at T;exact x9e _ T)⟩
    ·rw[E]at G;rcases G.inv with⟨rfl,rfl⟩|G
     ·obtain⟨q2,Z,w2⟩:=h.pos g.D F.call (by rw[n];exact .low .top);rw[H]at Z;cases Z;exact⟨q,H,.tail w2 j⟩
     ·exact h.pos k y (by rw[n];exact .low (.low G))
    ·rw[e2]at w;obtain⟨k,P,t,v,d,A,B,i⟩:=h.ev e w;refine⟨k,P,t,v,d,A,B,?_⟩;rcases i with i|⟨y,i,C⟩
     ·exact .inl i
     ·rw[n]at i;rcases i.inv with⟨_,rfl⟩|i
      ·exact .inl C
      ·rcases i.inv with⟨rfl,rfl⟩|i
       ·rw[H]at v;cases v;exact .inr ⟨it.next,by rw[E];exact .top,.tail C j⟩
       ·exact .inr ⟨y,by rw[E];exact .low i,C⟩
   show InvM p (if it.s.name=[]then _ else _) it.next;split
   ·exact key _ rfl rfl
   ·exact key _ rfl rfl
omit hc in
def x1s(watch:List Int){M:Mc}{f:Fm}{t:S}{r:Int×Mc}(k:r=J5 watch M f t)(j:M.fin=0):(∀e∈r.2.trace,e∈M.trace\/e.1=t.id)/\(r.2.fin≠0->r.2.trace=M.trace/\r.2.fin≠1):=by
 subst k;have key:∀v,(∀e∈(QJ watch M t.id v).trace,e∈M.trace\/e.1=t.id)/\((QJ watch M t.id v).fin≠0->(QJ watch M t.id v).trace=M.trace/\(QJ watch M t.id v).fin≠1):=fun v=>⟨fun e i=>K5 i,fun h=>by
  rw[(XD watch M t.id v).2.2.1,j]at h;exact absurd rfl h⟩
 unfold J5;cases t.has with
 |false=>exact key []
 | true=>
   rw[x9z];cases(QD M f t.x).2 with
   |false=>exact⟨fun e i=>.inl i,fun _=>⟨rfl,by show(4:Int)≠1;decide⟩⟩
   |true=>exact key _
theorem q1n(watch:List Int){M:Mc}{b:Int}(m:Good p M b){g:Pr}(k:p.A[(XY M).D]?=some g){it:Item}(c:it∈itsOf p (XY M).D g)(z:it.s.kind=4)(h:InvM p M it.s.id):OL p (Xj (YJ p watch M (XY M) it.s (KJ p it.s) (prA p (KJ p it.s)))):=by
 have t:=YP c;obtain⟨T,N,U⟩:=Mk hc k t z;obtain⟨st,r⟩:=m.top;have q:(prA p (KJ p it.s)).name=it.s.D:=by
  obtain⟨d,_,P,_,Q,_⟩:=KX hc (z0j.2 ⟨g,x9y k,t⟩) z;have e:KJ p it.s=d:=by
   unfold KJ;show(caI p it.s).toNat=d;rw[P];rfl
  rw[e];exact Q
 obtain⟨u,C,F,G,H,j,w,x⟩:=PH (f:=XY M) it.s.args [] M (fun a ha K=>(U9 hc m k t (RE ha K)).2) (fun v L=>by cases L);unfold YJ;generalize argsM (XY M) it.s.args [] M=ar at*
 obtain⟨ps,i,O⟩:=ar;simp only at u C F G H j w x⊢;unfold Xj;cases O with
 | false=>
   have R:i.fin=4:=x rfl;rw[x9k,if_neg (by show ¬i.fin=0;omega)];exact h.fin j (by show i.fin≠1;omega)
 | true=>
   obtain⟨I,_,_⟩:=w rfl;rw[x9z];split
   ·exact h.fin (M':=endM i 5) j (by show(5:Int)≠1;decide)
   ·have y:=XD watch i it.s.id [];have J:(KV p (KJ p it.s) (prA p (KJ p it.s)) ps it.s.id (QJ watch i it.s.id [])).fin=0:=by
     show(QJ watch i it.s.id []).fin=0;rw[y.2.2.1,I];exact m.fin
    rw[if_pos J];refine InvM.push hc (n:=⟨KJ p it.s,varsS p (prA p (KJ p it.s)),List.range p.B.length++ps++List.range' (QJ watch i it.s.id []).mem.length (prA p (KJ p it.s)).E.length,it.s.id⟩) h r ?_ rfl k c rfl N q ?_
    ·show(QJ watch i it.s.id []).stack++_=M.stack++_;rw[y.1,u]
    ·intro e o;have o:e∈(QJ watch i it.s.id []).trace:=o;rcases K5 o with l|l
     ·exact .inl (j▸l)
     ·exact .inr l
theorem x0c(tape watch:List Int){c:Cf}(e:MF p fuel c)(h:OL p c):OL p (goC p tape watch fuel c):=by
 cases c with
 |fin M=>exact h
 |back g M=>exact q1p hc e.1 h g
 | next a M=>
   obtain⟨i,H,I,w⟩:=e;have h:InvM p M a:=h;simp only[goC];by_cases ha:a = -1
   ·rw[if_pos ha];show InvM p M (-1);rw[<-ha];exact h
   rw[if_neg ha];by_cases B:M.steps=fuel
   ·rw[if_pos B];exact h.fin (M':=endM M 2) rfl (by show(2:Int)≠1;decide)
   rw[if_neg B];rcases w with C|⟨g,it,E,_,z,F,y⟩
   ·exact absurd C ha
   rw[z];simp only;have n:Good p (QL M) M.steps:=i.same rfl (x9h _) i.fin i.r0 i.rd i.tr i.ou;have j:p.A[(XY (QL M)).D]?=some g:=E;have k:it∈itsOf p (XY (QL M)).D g:=F;have m:InvM p (QL M) it.s.id:=by
    rw[y];exact⟨h.pos,h.ev,h.fr⟩
   obtain⟨st,u⟩:=n.top;unfold stI;by_cases o:it.s.kind=4
   ·rw[if_pos o];exact q1n hc watch n j k o m
   rw[if_neg o];by_cases q:it.s.kind=9
   ·rw[if_pos q];obtain⟨G,b⟩:=Cz watch n it.s rfl;obtain⟨d,v⟩:=x1s watch (M:=QL M) (f:=XY (QL M)) (t:=it.s) rfl i.fin;generalize J5 watch (QL M) (XY (QL M)) it.s=r at*
    unfold PF;by_cases l:r.2.fin=0
    ·rw[if_pos l];refine m.on u (b l).2 j k rfl (q6b hc j k ?_ fun h=>absurd h o) d;unfold UU;rw[if_neg (by omega),if_neg (by omega),if_neg (by omega),if_neg (by omega),if_pos q];exact x8l
    ·rw[if_neg l];exact m.fin (v l).1 (v l).2
   rw[if_neg q,WQ j];obtain⟨G,b⟩:=q0p hc tape watch n j k o q rfl;obtain⟨d,v⟩:=x3d (M:=QL M) (f:=XY (QL M)) (g:=g) (it:=it) tape watch rfl i.fin;have x:=T7 (p:=p) tape watch (M:=QL M) (f:=XY (QL M)) (g:=g) o q rfl;generalize doM p tape watch (QL M) (XY (QL M)) g it=r at*
   unfold Xj;by_cases l:r.2.fin=0
   ·rw[if_pos l];exact m.on u (b l).2.2 j k rfl (q6b hc j k (x l) fun h=>absurd h o) d
   ·rw[if_neg l];exact m.fin (v l).1 (v l).2
theorem O6(tape watch:List Int)(j:0<=fuel)(n:Nat):MF p fuel (HQ p tape watch fuel n (JC p))/\OL p (HQ p tape watch fuel n (JC p)):=by
 induction n with
 |zero=>exact⟨Ch hc j,I7 hc⟩
 | succ n i=>
   rw[UB];refine⟨?_,x0c hc tape watch i.1 i.2⟩;generalize HQ p tape watch fuel n (JC p)=c at*
   cases c with
   |fin M=>exact trivial
   |next a M=>exact(Bi hc tape watch i.1 (fun _ h=>by cases h)).1
   |back g M=>exact(Bi hc tape watch i.1 (fun _ h=>by cases h)).1
end
def x6s{p:Pg}{k:Nat}{g:Pr}{a b:Int}(h:Rch (eR p k g) a b):Rch (wR p k g) a b:=h.mono fun _ _ ⟨s,l,i,j⟩=>⟨s,(z0u.1 l).1,i,j⟩
structure KpF(p:Pg)(c:Nat)(fr:Fm):Prop where
 nm:∀(i:Nat)(n:Str),fr.names[i]?=some n->fr.E[i]?=some c->outB p (prA p fr.D) n=true/\n∉(bookOf p).M.getD fr.D []
 gl:∀i,i<p.B.length->fr.E[i]?=some i
def N7{f:Fm}(o:f.E.length=f.names.length){n:Str}(h:n∈f.names):∃i:Nat,f.names[i]?=some n/\f.E[i]?=some (varM f n):=by
 have j:=Vf (P2 h);refine⟨(idxF (fun y=>n==y) f.names).toNat,?_,?_⟩
 .have k:f.names.any (fun y=>n==y)=true:=z0g.2 ⟨n,h,by simp⟩;have l:(idxF (fun y=>n==y) f.names).toNat=f.names.findIdx (fun y=>n==y):=by
   unfold idxF;rw[k,x9z];rfl
  rw[l]at j⊢;have m:=z4x (w:=j);rw[x8p j];congr 1;exact(by simpa using m:n=_).symm
 .unfold varM;rw[x8n,x8p (by omega)];rfl
theorem KM{f:Fm}:∀(l:List Arg)(ps:List Nat)(M:Mc),(argsM f l ps M).2.2=true->(argsM f l ps M).1.length=ps.length+l.length/\(∀j,j<ps.length->(argsM f l ps M).1[j]?=ps[j]?)/\
  (∀(j:Nat)(a:Arg)(v:Nat),l[j]?=some a->(argsM f l ps M).1[ps.length+j]?=some v->(a.ref=true/\v=varM f a.name)\/(a.ref=false/\M.mem.length<=v))/\∀c,c<M.mem.length->(argsM f l ps M).2.1.mem[c]?=M.mem[c]?
 |[],ps,M,_=>⟨rfl,fun _ _=>rfl,fun j a v h=>by simp at h,fun _ _=>rfl⟩
 | a::r,ps,M,h=>by
   rw[argsM]at h⊢;cases s:a.ref with
   | true=>
     rw[s,x9z]at h;rw[x9z];obtain⟨o,i,m,q⟩:=KM r _ M h;rw[x8m]at o i m;simp only[x9f,z1p]at o i m⊢;refine⟨by omega,fun j u=>by rw[i j (by omega),x9d u],fun j b v n k=>?_,q⟩;cases j with
     | zero=>
       cases n;rw[z2o,i ps.length (by omega),x9n (x9h _),z3n]at k;cases k;exact .inl ⟨s,rfl⟩
     |succ j=>exact m j b v (by simpa using n) (by rw[<-k];congr 1;omega)
   | false=>
     rw[s,x9k]at h;rw[x9k];cases w:(QD M f a.x).2 with
     |false=>rw[w]at h;cases h
     | true=>
       rw[w,x9z]at h;rw[x9z];obtain⟨o,i,m,q⟩:=KM r _ _ h;simp only[x8m,x9f,z1p]at o i m q⊢;refine⟨by omega,fun j u=>by rw[i j (by omega),x9d u],fun j b v n k=>?_,fun c hc=>by rw[q c (by omega)];exact x9d hc⟩;cases j with
       | zero=>
         cases n;rw[z2o,i ps.length (by omega),x9n (x9h _),z3n]at k;cases k;exact .inr ⟨s,x9h _⟩
       | succ j=>
         rcases m j b v (by simpa using n) (by rw[<-k];congr 1;omega)with t|t
         .exact .inl t
         .exact .inr ⟨t.1,by omega⟩
section
variable {p:Pg}(hc:QP p=true)
include hc
def x0o{h:Fm}{c:Nat}(r:KpF p c h)(u:h.E.length=h.names.length){g:Pr}(m:p.A[h.D]?=some g){t:S}(w:t∈flL g.body)(j:Rch (eR p h.D g) 0 t.id){n:Str}(v:n∈h.names)(s:n∈FM (bkO p (bookOf p).M) t):varM h n≠c:=fun e=>by
 obtain⟨i,o,k⟩:=N7 u v;rw[e]at k;obtain⟨l,q⟩:=r.nm i n o k;rw[WQ m]at l;exact q (IN hc (KL hc).fixO m w (x6s j) s l)
omit hc in
theorem Ij{k:Nat}{g:Pr}(w:p.A[k]?=some g){c m0:Nat}(z:c<m0){ps:List Nat}(y:ps.length=g.C.length){call:Int}(u:∀n,p.B[c]?=some n->n∉(bookOf p).M.getD k [])(v:∀(j:Nat)(x:Param),g.C[j]?=some x->ps[j]?=some c->x.ref=true/\x.name∉(bookOf p).M.getD k []):KpF p c ⟨k,varsS p g,List.range p.B.length++ps++List.range' m0 g.E.length,call⟩:=by
 refine⟨fun i n h l=>?_,fun i t=>?_⟩
 ·have h:(p.B++(g.C.map Param.name++g.E))[i]?=some n:=h;have l:(List.range p.B.length++ps++List.range' m0 g.E.length)[i]?=some c:=l;show outB p (prA p k) n=true/\n∉(bookOf p).M.getD k [];rw[WQ w];rcases x8o i p.B.length with m|m
  ·rw[x9d m]at h;rw[x9l,x9d (by simpa using m),z1h m]at l;cases l;exact⟨Pj.2 (.inl (.inr (x9y h))),u n h⟩
  ·rw [x9n m]at h;rw[x9l,x9n (by simpa using m),z2q]at l;rcases x8o (i-p.B.length) ps.length with q|q
   ·rw[x9d q]at l;rw[x9d (by rw[x8b];omega),x9x]at h;cases o:g.C[i-p.B.length]?with
    |none=>rw[o]at h;cases h
    | some x=>
      rw[o]at h;have h:x.name=n:=z0y h;subst h;obtain⟨r,s⟩:=v _ x o l;refine⟨Pj.2 (.inr ?_),s⟩;have e:x=⟨x.name,true⟩:=by cases x;simp only at r⊢;rw[r]
      rw[<-e];exact x9y o
   ·exfalso;rw[x9n q]at l;obtain⟨r,s⟩:=x8t.1 l;rw[List.getElem_range']at s;omega
 ·show(List.range p.B.length++ps++List.range' m0 g.E.length)[i]?=some i;rw[x9l,x9d (by simpa using t),z1h t]
theorem q7v{k:Fm}{c:Nat}(d:KpF p c k)(V:k.E.length=k.names.length){g:Pr}(r:p.A[k.D]?=some g)(s:k.names=varsS p g){t:S}(w:t∈flL g.body)(a:t.kind=4)(e:Rch (eR p k.D g) 0 t.id){M:Mc}(Y:c<M.mem.length)(G:(argsM k t.args [] M).2.2=true){m0:Nat}(hm0:M.mem.length<=m0){call:Int}:
  KpF p c ⟨KJ p t,varsS p (prA p (KJ p t)),List.range p.B.length++(argsM k t.args [] M).1++List.range' m0 (prA p (KJ p t)).E.length,call⟩:=by
 obtain⟨k0,k1,k2⟩:=Mk hc r w a;obtain⟨Q,_,R,_⟩:=KM t.args [] M G;have I:t∈WI p:=z0j.2 ⟨g,x9y r,w⟩;obtain⟨O,u1,P,u3,_,u5⟩:=KX hc I a;have K:KJ p t=O:=by
  unfold KJ;show(caI p t).toNat=O;rw[P];rfl
 have q:∀n,n∈Mj p t (prA p (KJ p t)) ((bookOf p).M.getD (KJ p t) [])->n∈FM (bkO p (bookOf p).M) t:=fun n h=>by
  unfold FM;rw[if_neg (by omega),if_neg (by omega),if_neg (by omega),if_pos a];show n∈Mj p t (caP p t) (caO (bkO p (bookOf p).M) t);rw[Sx,P,u3];rw[K]at h;exact h
 have key:∀n,outB p (prA p k.D) n=true->n∉(bookOf p).M.getD k.D []->n∉Mj p t (prA p (KJ p t)) ((bookOf p).M.getD (KJ p t) []):=fun n L T U=>by
  rw[WQ r]at L;exact T (IN hc (KL hc).fixO r w (x6s e) (q n U) L)
 refine Ij k1 (by omega) (by rw[Q,k2];simp) (fun n f o=>?_) fun j x J hv=>?_
 ·obtain⟨N,m⟩:=x8t.1 f;have u:k.names[c]?=some n:=by
   rw[s];show(p.B++_)[c]?=some n;rw[x9d N,f]
  obtain⟨b,v⟩:=d.nm c n u (d.gl c N);refine key n b v ?_;unfold Mj;exact z0w _ (z0u.2 ⟨o,Zz.2 (.inr (x9y f))⟩)
 ·obtain⟨Z,_⟩:=x8t.1 J;have l:j<t.args.length:=by omega
  have H:x.ref=t.args[j].ref:=by
   have m:((prA p (KJ p t)).C.map Param.ref)[j]?=(t.args.map Arg.ref)[j]?:=by rw[K,u5]
   rw[x9x,J,x9x,x8p l]at m;exact z0y m
  rcases R j t.args[j] c (x8p l) (by simpa using hv)with⟨m,u⟩|⟨_,u⟩
  ·refine⟨H.trans m,fun o=>?_⟩;have F:t.args[j].name∈k.names:=by
    rw[s];exact MZ hc r w (RE (x9w l) m)
   obtain⟨i,b,v⟩:=N7 V F;rw[<-u]at v;obtain⟨y,z⟩:=d.nm i _ b v;refine key _ y z ?_;unfold Mj;refine x9e _ (z0w _ (MJ.2 ⟨(t.args[j],x),?_,⟨m,o⟩,rfl⟩));have hz:(t.args.zip (prA p (KJ p t)).C)[j]?=some (t.args[j],x):=by
    rw[List.getElem?_zip_eq_some];exact⟨x8p l,J⟩
   rw[x9u (by rw[List.length_zip];omega)];exact x9y hz
  ·omega
end
end Go.Ab
