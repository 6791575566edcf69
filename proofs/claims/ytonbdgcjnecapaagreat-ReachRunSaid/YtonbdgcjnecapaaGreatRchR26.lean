/- LAW: run goes from place to place; what a machine is on its way. -/
import Derived.Test.YtonbdgcjnecapaaGreatRchR11
import Derived.Test.YtonbdgcjnecapaaGreatRchR18
import Derived.Test.YtonbdgcjnecapaaGreatRchR22
import Derived.Test.YtonbdgcjnecapaaGreatRchR23
import Derived.Test.YtonbdgcjnecapaaGreatRchR24
import Derived.Test.YtonbdgcjnecapaaGreatRchR25
set_option linter.all false
set_option maxRecDepth 100000
set_option maxHeartbeats 16000000
open List (length)
namespace Go.Ab
open Go.Proofs.Tryz
open Go.Proofs
variable {M':Mc}{fuel:Int}{r:Int×Mc}
inductive Cf
 |next (a:Int) (M:Mc)
 |back (gave:Int) (M:Mc)
 |fin (M:Mc)
def ZV(M:Mc):Fm:=M.stack.getLast?.getD ⟨0,[],[],0⟩
def AP(r:Int×Mc):Cf:=if r.2.fin=0 then .next r.1 r.2 else .fin r.2
def Pw(r:Int×Mc):Cf:=if r.2.fin=0 then .back r.1 r.2 else .fin r.2
def WW(M:Mc):Mc:={M with steps:=M.steps+1}
def Wy(p:Pg)(t:S):Nat:=(idxF (fun g=>g.name==t.D) p.A).toNat
def stI(p:Pg)(tape watch:List Int)(M:Mc)(it:Item):Cf:=
 if it.s.kind=4 then AP (FY p watch M (ZV M) it.s (Wy p it.s) (prA p (Wy p it.s)))
 else if it.s.kind=9 then Pw (Mq watch M (ZV M) it.s)
 else AP (doM p tape watch M (ZV M) (prA p (ZV M).D) it)
def HR(p:Pg)(h:Int)(M:Mc):Cf:=
 if(ZV M).call=0 then .fin (endM (popM M M.stack.dropLast) 1)
 else match(sheetOf p).l[((ZV M).call-1).toNat]?with
 |none=>.fin M
 |some it=>.next it.next (if it.s.name=[]then popM M M.stack.dropLast else setM (popM M M.stack.dropLast) (varM (ZV (popM M M.stack.dropLast)) it.s.name) h)
def goC(p:Pg)(tape watch:List Int)(fuel:Int):Cf->Cf
 | .next a M=>if a = -1 then .back 0 M else if M.steps=fuel then .fin (endM M 2)else match(sheetOf p).l[(a-1).toNat]?with
   |none=>.fin M
   |some it=>stI p tape watch (WW M) it
 |.back g M=>HR p g M
 |.fin M=>.fin M
def LS(p:Pg)(tape watch:List Int)(fuel:Int):Nat->Cf->Cf
 |0,c=>c
 |n+1,c=>goC p tape watch fuel (LS p tape watch fuel n c)
structure FrameOk(p:Pg)(M:Mc)(f:Fm):Prop where
 pr:∃g,p.A[f.D]?=some g/\f.names=varsS p g
 len:f.F.length=f.names.length
 rng:∀v∈f.F,v<M.mem.length
inductive Chain(p:Pg):List Fm->Prop
 |one {f:Fm} (h:f.call=0):Chain p [f]
 |push {l:List Fm} {g f:Fm} {q:Pr} {it:Item} (hl:Chain p (l++[g])) (h1:1<=f.call) (hle:f.call<=100000) (hit:(sheetOf p).l[(f.call-1).toNat]?=some it) (hk:it.s.kind=4) (hp:p.A[g.D]?=some q) (hi:it∈itsOf p g.D q) (hid:it.s.id=f.call):Chain p (l++[g]++[f])
structure Good(p:Pg)(M:Mc)(b:Int):Prop where
 ch:Chain p M.stack
 fr:∀f∈M.stack,FrameOk p M f
 gl:p.B.length<=M.mem.length
 sl:M.stack.length<=101
 fin:M.fin=0
 r0:0<=M.reads
 rd:M.reads<=b
 tr:(M.trace.length:Int)<=b
 ou:(M.out.length:Int)<=b
def AtOk(p:Pg)(a:Int)(k:Nat):Prop:=a = -1\/∃g it,p.A[k]?=some g/\1<=a/\(sheetOf p).l[(a-1).toNat]?=some it/\it∈itsOf p k g/\it.s.id=a
def Qn(p:Pg)(fuel:Int):Cf->Prop
 |.next a M=>Good p M M.steps/\0<=M.steps/\M.steps<=fuel/\AtOk p a (ZV M).D
 |.back _ M=>Good p M M.steps/\0<=M.steps/\M.steps<=fuel
 |.fin _=>True
def cfμ(fuel:Int):Cf->Nat
 |.next _ M=>6*(fuel-M.steps).toNat+2*M.stack.length+2
 |.back _ M=>6*(fuel-M.steps).toNat+2*M.stack.length+1
 |.fin _=>0
theorem Chain.ne{p:Pg}{l:List Fm}(h:Chain p l):∃st f,l=st++[f]:=by
 cases h with
 |one h=>exact⟨[],_,rfl⟩
 |push=>exact⟨_,_,rfl⟩
def Vb{M:Mc}{st:List Fm}{f:Fm}(h:M.stack=st++[f]):ZV M=f:=by
 unfold ZV;rw[h,List.getLast?_concat];rfl
theorem Good.top{p:Pg}{M:Mc}{b:Int}(h:Good p M b):∃st,M.stack=st++[ZV M]:=by
 obtain⟨st,f,e⟩:=h.ch.ne;exact⟨st,by rw[Vb e];exact e⟩
def Ml{M:Mc}(h:M'.stack=M.stack):ZV M'=ZV M:=by unfold ZV;rw[h]
def Eg{p:Pg}(hc:chkB p=true){k:Nat}{g:Pr}(h:p.A[k]?=some g):(varsS p g).length<=100:=by
 have i:=(XQ hc).1;have j:=(JB (QY hc).1).pr g (x7t h);unfold varsS Qb;simp only[x7u,x7z];omega
theorem Good.okM{p:Pg}{M:Mc}{b:Int}(hc:chkB p=true)(h:Good p M b){bs:List Nat}(m:bs.length=M.mem.length):OkM p bs M:=
 ⟨m,fun f i=>⟨(h.fr f i).len,(h.fr f i).rng⟩,h.gl,x8m h.sl (by decide),fun f i=>by
   obtain⟨g,j,l⟩:=(h.fr f i).pr;have:=Eg hc j;rw[l];omega⟩
theorem Good.same{p:Pg}{M:Mc}{b i:Int}(h:Good p M b)(l:M'.stack=M.stack)(m:M.mem.length<=M'.mem.length)(y:M'.fin=0)(o:0<=M'.reads)(t:M'.reads<=i)(w:(M'.trace.length:Int)<=i)(x:(M'.out.length:Int)<=i):Good p M' i:=
 ⟨by rw[l];exact h.ch,fun f j=>by
   rw[l]at j;exact⟨(h.fr f j).pr,(h.fr f j).len,fun v z=>z0e ((h.fr f j).rng v z) m⟩,x8m h.gl m,by rw[l];exact h.sl,y,o,t,w,x⟩
def YX(w:List Int)(M:Mc)(id:Int)(v:List Int):(QH w M id v).stack=M.stack/\(QH w M id v).mem=M.mem/\(QH w M id v).fin=M.fin/\(QH w M id v).steps=M.steps/\(QH w M id v).reads=M.reads/\(QH w M id v).out=M.out/\(QH w M id v).trace.length<=M.trace.length+1:=by
 refine⟨Fh,G0,?_,?_,?_,q2c,Ol⟩<;>(unfold QH;cases w.any fun x=>decide (id=x)<;>rfl)
theorem Good.event{p:Pg}{M:Mc}{b:Int}(h:Good p M b)(w:List Int)(id:Int)(v:List Int):Good p (QH w M id v) (b+1):=by
 obtain⟨j,e2,l,o,i,m,t⟩:=YX w M id v;have:=h.tr;have:=h.ou;have:=h.rd;exact h.same j (by rw[e2];exact x7s _) (l.trans h.fin) (by rw[i];exact h.r0) (by rw[i];omega) (by omega) (by rw[m];omega)
section
variable {p:Pg}
theorem AtOk.of(hc:chkB p=true){k:Nat}{g:Pr}(i:p.A[k]?=some g){a:Int}(h:okI (QP p.A k) (QP p.A k+cntL g.body) a):AtOk p a k:=by
 rcases h with h|⟨m,o⟩
 .exact .inl h
 .obtain ⟨it,j,l⟩:=GD i (k:=(a-1).toNat) (by omega) (by omega);have t:=Dn hc i (by omega) (by omega) j;exact .inr ⟨g,it,i,by omega,j,l,by omega⟩
def Td(hc:chkB p=true){k:Nat}{g:Pr}(m:p.A[k]?=some g){t:S}(s:t∈flL g.body){n:Str}(o:n∈XF t):n∈varsS p g:=by
 have i:=VA (QY hc).2.1 (x7t m) s;unfold knownB at i;rw[x7i]at i;have j:=x8a.1 i.1 n o;have l:FK p g n≠0:=by simpa using j
 unfold varsS;rcases D2 l with h|h
 .exact x8t _ h
 .exact x8s _ h
def R9{l:List Str}{n:Str}(h:n∈l):0<=idxF (fun y=>n==y) l:=by
 unfold idxF;have:l.any (fun y=>n==y)=true:=x8e.2 ⟨n,h,by simp⟩;rw[this,x7c];omega
def q3h{t:S}(h:t.kind≠10)(i:t.name≠[]):t.name∈XF t:=by
 unfold XF KU;have:(decide (t.kind≠10) && !(t.name==[]))=true:=by simp[h,i]
 rw[this];simp
def q4b{t:S}{a:Arg}(ha:a∈t.args)(h:a.ref=true):a.name∈XF t:=by
 unfold XF;refine x8s _ (x8h.2 ⟨a,ha,?_⟩);unfold JP;rw[h];simp
def q2k{f:Fm}(j:f.F.length=f.names.length){n:Str}(h:n∈f.names):varM f n∈f.F:=by
 have i:=Y9 (R9 h);unfold varM;rw[x7w,x7x (by omega)];exact x7l _
end
theorem Fq{f:Fm}:∀(l:List Arg)(ps:List Nat)(M:Mc),(∀a∈l,a.ref=true->varM f a.name<M.mem.length)->(∀v∈ps,v<M.mem.length)->
  (argsM f l ps M).2.1.stack=M.stack/\M.mem.length<=(argsM f l ps M).2.1.mem.length/\(argsM f l ps M).2.1.steps=M.steps/\(argsM f l ps M).2.1.reads=M.reads/\(argsM f l ps M).2.1.out=M.out/\(argsM f l ps M).2.1.trace=M.trace/\
  ((argsM f l ps M).2.2=true->(argsM f l ps M).2.1.fin=M.fin/\(argsM f l ps M).1.length=ps.length+l.length/\∀v∈(argsM f l ps M).1,v<(argsM f l ps M).2.1.mem.length)/\((argsM f l ps M).2.2=false->(argsM f l ps M).2.1.fin=4)
 |[],ps,M,_,hp=>⟨rfl,x7s _,rfl,rfl,rfl,rfl,fun _=>⟨rfl,rfl,hp⟩,(fun h=>(by cases h))⟩
 | a::r,ps,M,ha,hp=>by
   rw[argsM];cases e:a.ref with
   | true=>
     rw[x7c];obtain⟨n,o,s,t,w,y,z,c⟩:=Fq r (ps++[varM f a.name]) M (fun b d=>ha b (x7j _ d)) fun v i=>by
      rcases x7b.1 i with i|i
      .exact hp v i
      .rw [x7y.1 i];exact ha a x7v e
     refine⟨n,o,s,t,w,y,fun h=>?_,c⟩;obtain⟨g1,k,m⟩:=z h;exact⟨g1,by rw[k,x7u,x8j,x8j,z0p];omega,m⟩
   | false=>
     rw[x7o];cases A:(QE M f a.x).2 with
     |false=>exact⟨rfl,x7s _,rfl,rfl,rfl,rfl,(fun h=>(by cases h)),fun _=>rfl⟩
     | true=>
       rw[x7c];have j:({M with mem:=M.mem++[(QE M f a.x).1]}:Mc).mem.length=M.mem.length+1:=by simp
       obtain⟨n,o,s,t,w,y,z,c⟩:=Fq (f:=f) r (ps++[M.mem.length]) {M with mem:=M.mem++[(QE M f a.x).1]} (fun b d h=>by
         have:=ha b (x7j _ d) h;rw[j];omega) fun v i=>by
        rw[j];rcases x7b.1 i with i|i
        .have:=hp v i;omega
        .rw [x7y.1 i];omega
       rw[j]at o;refine⟨n,by omega,s,t,w,y,fun h=>?_,c⟩;obtain⟨g1,k,m⟩:=z h;exact⟨g1,by rw[k,x7u,x8j,x8j,z0p];omega,m⟩
section
variable {p:Pg}(hc:chkB p=true)
include hc
def B0{M:Mc}{b:Int}(k:Good p M b){g:Pr}(l:p.A[(ZV M).D]?=some g){t:S}(v:t∈flL g.body){n:Str}(o:n∈XF t):0<=idxF (fun y=>n==y) (ZV M).names/\varM (ZV M) n<M.mem.length:=by
 obtain⟨st,s⟩:=k.top;have i:=k.fr (ZV M) (by rw[s];exact x8s _ (x7y.2 rfl));obtain⟨w,j,m⟩:=i.pr;rw[l]at j;cases j;have h:=Td hc l v o;rw[<-m]at h;exact⟨R9 h,i.rng _ (q2k i.len h)⟩
def A4{k:Nat}{g:Pr}(n:p.A[k]?=some g){t:S}(o:t∈flL g.body)(l:t.kind=4):idxF (fun g=>g.name==t.D) p.A=(Wy p t:Nat)/\p.A[Wy p t]?=some (prA p (Wy p t))/\(prA p (Wy p t)).C.length=t.args.length:=by
 obtain⟨i,j,h,_,_,m⟩:=LZ hc (x8h.2 ⟨g,x7t n,o⟩) l;have e:Wy p t=i:=by
  unfold Wy;show(caI p t).toNat=i;rw[h];rfl
 refine⟨by rw[e];exact h,by rw[e];exact W2 j,?_⟩;rw[e];have:=x9l length m;simpa using this
theorem Eo{M:Mc}{b:Int}(j:∀f∈M.stack,FrameOk p M f)(n:p.B.length<=M.mem.length)(m:M.fin=0)(w:0<=M.reads)(x:M.reads<=b)(y:(M.trace.length:Int)<=b)(s:(M.out.length:Int)<=b)(c:M.stack.length<=100){k:Nat}{g:Pr}(z:p.A[k]?=some g){ps:List Nat}(a:ps.length=g.C.length)(t:∀v∈ps,v<M.mem.length){call:Int}(o:Chain p (M.stack++[⟨k,varsS p g,List.range p.B.length++ps++List.range' M.mem.length g.F.length,call⟩])):Good p (GK p k g ps call M) b/\AtOk p (Wh p k g) (ZV (GK p k g ps call M)).D/\(GK p k g ps call M).stack.length=M.stack.length+1:=by
 have l:(GK p k g ps call M).mem.length=M.mem.length+g.F.length:=by unfold GK;simp
 refine⟨⟨o,fun f i=>?_,by rw[l];have:=n;omega,by unfold GK;simp;omega,m,w,x,y,s⟩,?_,by unfold GK;simp⟩
 ·rcases x7b.1 i with i|i
  ·exact⟨(j f i).pr,(j f i).len,fun v h=>by have:=(j f i).rng v h;rw[l];omega⟩
  ·rw[x7y.1 i];refine⟨⟨g,z,rfl⟩,?_,fun v h=>?_⟩
   ·show(List.range p.B.length++ps++List.range' M.mem.length g.F.length).length=(varsS p g).length;unfold varsS Qb;simp only[x7u,x9t,List.length_range',x7z];omega
   ·have h:v∈List.range p.B.length++ps++List.range' M.mem.length g.F.length:=h;rw[l];rcases x7b.1 h with h|h
    ·rcases x7b.1 h with h|h
     ·have:=x8n.1 h;have:=n;omega
     ·have:=t v h;omega
    ·have:=List.mem_range'_1.1 h;omega
 ·rw[Vb (M:=GK p k g ps call M) (st:=M.stack) rfl];refine AtOk.of hc z ?_;unfold Wh;split
  ·exact .inr ⟨by omega,by omega⟩
  ·exact .inl rfl
theorem q4n(watch:List Int){M:Mc}{b:Int}(j:Good p M b){g:Pr}(l:p.A[(ZV M).D]?=some g){it:Item}(z:it∈itsOf p (ZV M).D g)(H:it.s.kind=4)(c:r=FY p watch M (ZV M) it.s (Wy p it.s) (prA p (Wy p it.s))):
  r.2.steps=M.steps/\(r.2.fin=0->Good p r.2 (b+1)/\AtOk p r.1 (ZV r.2).D/\r.2.stack.length=M.stack.length+1):=by
 subst c;have d:=KM z;obtain⟨_,R,T⟩:=A4 hc l d H;obtain⟨st,m⟩:=j.top;obtain⟨o,B,t,w,C,E,F,G⟩:=Fq (f:=ZV M) it.s.args [] M (fun a ha c=>(B0 hc j l d (q4b ha c)).2) (fun v e=>by cases e);unfold FY;generalize argsM (ZV M) it.s.args [] M=ar at*
 obtain⟨ps,n,U⟩:=ar;simp only at o B t w C E F G⊢;cases U with
 | false=>
   refine⟨t,fun h=>?_⟩;have h:n.fin=0:=h;have:=G rfl;omega
 | true=>
   obtain⟨I,J,K⟩:=F rfl;rw[x7c];split
   ·refine⟨t,fun h=>?_⟩;have h:(5:Int)=0:=h;cases h
   ·rename_i Q;have y:Good p n b:=j.same o B (I.trans j.fin) (by rw[w];exact j.r0) (by rw[w];exact j.rd) (by rw[E];exact j.tr) (by rw[C];exact j.ou);have i:=y.event watch it.s.id [];obtain⟨x,e2,V,L,Y,Z,e7⟩:=YX watch n it.s.id [];have O:=ZS (QY hc).1 l d;have N:=(XQ hc).2.2;have P:=((QU p).2.2.2.2 _ _ l).2.2.1;have k:=Eo hc i.fr i.gl i.fin i.r0 i.rd i.tr i.ou (by rw[x];omega) R (ps:=ps) (by rw[J,T];simp) (fun v e=>by rw[e2];exact K v e) (call:=it.s.id) (by
     rw[x,o,m];exact .push (it:=it) (m▸j.ch) (by show 1<=it.s.id;omega) (by show it.s.id<=100000;omega) (q5i hc l z) H l z rfl)
    refine⟨?_,fun _=>⟨k.1,k.2.1,?_⟩⟩
    ·show(QH watch n it.s.id []).steps=M.steps;rw[L,t]
    ·rw[<-o,<-x];exact k.2.2
omit hc in
def EP(watch:List Int){M:Mc}{b:Int}(j:Good p M b)(t:S){r:Int×Mc}(k:r=Mq watch M (ZV M) t):r.2.steps=M.steps/\(r.2.fin=0->Good p r.2 (b+1)/\r.2.stack=M.stack):=by
 subst k;have i:=fun v=>YX watch M t.id v;unfold Mq;cases t.has with
 |false=>exact⟨(i []).2.2.2.1,fun _=>⟨j.event watch t.id [],(i []).1⟩⟩
 | true=>
   rw[x7c];cases l:(QE M (ZV M) t.x).2 with
   | false=>
     refine⟨rfl,fun h=>?_⟩;have h:(4:Int)=0:=h;cases h
   |true=>exact⟨(i _).2.2.2.1,fun _=>⟨j.event watch t.id _,(i _).1⟩⟩
omit hc in
theorem R0(tape watch:List Int){M:Mc}{f:Fm}{g:Pr}{it:Item}(a:it.s.kind≠4)(w:it.s.kind≠9){r:Int×Mc}(y:r=doM p tape watch M f g it)(i:r.2.fin=0):r.1∈VR (sheetOf p) g it:=by
 subst y;unfold doM at i⊢;unfold VR;by_cases t:it.s.kind=7
 ·simp[t]
 by_cases v:it.s.kind=8
 ·simp[v]
 by_cases j:it.s.kind=10
 ·simp[j]
 simp only[if_neg t,if_neg v,if_neg j,if_neg w]at i⊢;by_cases o:it.s.kind=2
 ·have k:¬it.s.kind=5:=by omega
  have l:¬it.s.kind=6:=by omega
  simp only[if_pos o,if_neg k,if_neg l]at i⊢;split at i
  ·have i:(3:Int)=0:=i;cases i
  ·rename_i h;rw[if_neg h];exact x7v
 simp only[if_neg o]at i⊢;cases z:(QE M f it.s.x).2 with
 | false=>
   rw[z]at i;have i:(4:Int)=0:=i;cases i
 | true=>
   clear i;simp only[x7c];by_cases k:it.s.kind=5
   ·have m:¬it.s.kind=1:=by omega
    have n:¬it.s.kind=3:=by omega
    simp only[if_neg m,if_neg n,if_pos k];split<;>simp
   by_cases l:it.s.kind=6
   ·have m:¬it.s.kind=1:=by omega
    have n:¬it.s.kind=3:=by omega
    simp only[if_neg m,if_neg n,if_neg k,if_pos l];split<;>simp
   simp only[if_neg k,if_neg l];split
   ·exact x7v
   split
   ·exact x7v
   ·exact x7v
theorem q5q(tape watch:List Int){M:Mc}{b:Int}(j:Good p M b){g:Pr}(J:p.A[(ZV M).D]?=some g){it:Item}(P:it∈itsOf p (ZV M).D g)(N:it.s.kind≠4)(O:it.s.kind≠9)(K:r=doM p tape watch M (ZV M) g it):
  r.2.steps=M.steps/\(r.2.fin=0->Good p r.2 (b+1)/\AtOk p r.1 (ZV M).D/\r.2.stack=M.stack):=by
 have w:=R0 (p:=p) tape watch (M:=M) (f:=ZV M) (g:=g) N O K;have t:r.2.fin=0->AtOk p r.1 (ZV M).D:=fun m=>AtOk.of hc J ((NK hc J).2.1 _ (EG P (w m))).2
 suffices h:r.2.steps=M.steps/\(r.2.fin=0->Good p r.2 (b+1)/\r.2.stack=M.stack)from⟨h.1,fun m=>⟨(h.2 m).1,t m,(h.2 m).2⟩⟩
 clear w t;subst K;have e:=fun v=>YX watch M it.s.id v;have key:∀(a:Int) v,(QH watch M it.s.id v).steps=M.steps/\((QH watch M it.s.id v).fin=0->Good p (QH watch M it.s.id v) (b+1)/\(QH watch M it.s.id v).stack=M.stack):=fun _ v=>⟨(e v).2.2.2.1,fun _=>⟨j.event watch it.s.id v,(e v).1⟩⟩;unfold doM;by_cases d:it.s.kind=7
 ·rw[if_pos d];exact key 0 []
 by_cases E:it.s.kind=8
 ·rw[if_neg d,if_pos E];exact key 0 []
 by_cases o:it.s.kind=10
 ·rw[if_neg d,if_neg E,if_pos o];exact key 0 []
 rw[if_neg d,if_neg E,if_neg o];by_cases G:it.s.kind=2
 ·rw[if_pos G];split
  ·refine⟨rfl,fun h=>?_⟩;have h:(3:Int)=0:=h;cases h
  ·generalize varM (ZV M) it.s.name=v;generalize tape.getD M.reads.toNat 0=n;obtain⟨k,e2,B,l,y,z,c⟩:=YX watch (setM {M with reads:=M.reads+1} v n) it.s.id [n];refine⟨l,fun _=>⟨j.same k (by rw[e2];unfold setM;simp) (B.trans j.fin) ?_ ?_ ?_ ?_,k⟩⟩
   ·rw[y];have:=j.r0;show 0<=M.reads+1;omega
   ·rw[y];have:=j.rd;show M.reads+1<=b+1;omega
   ·have:=j.tr;have c:(QH watch (setM {M with reads:=M.reads+1} v n) it.s.id [n]).trace.length<=M.trace.length+1:=c;have L:((QH watch (setM {M with reads:=M.reads+1} v n) it.s.id [n]).trace.length:Int)<=b+1:=by omega
    exact L
   ·rw[z];have:=j.ou;show(M.out.length:Int)<=b+1;omega
 rw[if_neg G];cases Q:(QE M (ZV M) it.s.x).2 with
 | false=>
   refine⟨rfl,fun h=>?_⟩;have h:(4:Int)=0:=h;cases h
 | true=>
   rw[x7c];generalize(QE M (ZV M) it.s.x).1=n;by_cases F:it.s.kind=1
   ·rw[if_pos F];obtain⟨k,e2,B,l,y,z,c⟩:=e [n];have i:=j.event watch it.s.id [n];exact⟨l,fun _=>⟨i.same rfl (by unfold setM;simp) i.fin i.r0 i.rd i.tr i.ou,k⟩⟩
   rw[if_neg F];by_cases H:it.s.kind=3
   ·rw[if_pos H];obtain⟨k,e2,B,l,y,z,c⟩:=e [n];have i:=j.event watch it.s.id [n];refine⟨l,fun _=>⟨i.same rfl (x7s _) i.fin i.r0 i.rd i.tr ?_,k⟩⟩;show(((QH watch M it.s.id [n]).out++[n]).length:Int)<=b+1;rw[z,x7u];have:=j.ou;simp only[x8j,z0p];omega
   rw[if_neg H];by_cases C:it.s.kind=5
   ·rw[if_pos C];exact key 0 [n]
   by_cases I:it.s.kind=6
   ·rw[if_neg C,if_pos I];exact key 0 [n]
   rw[if_neg C,if_neg I];exact key 0 [n]
theorem RA{M:Mc}{b:Int}(k:Good p M b){st:List Fm}(o:M.stack=st++[ZV M])(i:Int):(ZV M).call<=100000/\
  ((∃M',HR p i M=.fin M'/\CloseP p M st (ZV M) i (-1) M'/\M'.fin=1)\/
  ∃a M',HR p i M=.next a M'/\CloseP p M st (ZV M) i a M'/\Good p M' b/\AtOk p a (ZV M').D/\M'.stack.length+1=M.stack.length/\M'.steps=M.steps):=by
 have C:M.stack.dropLast=st:=by rw[o,List.dropLast_concat]
 have v:=k.ch;rw[o]at v;generalize J:ZV M=F at*
 unfold HR;rw[C,J];generalize G:st++[F]=L at v;cases v with
 | one h=>
   rename_i f;obtain⟨rfl,t⟩:=z2n (show st++[F]=[]++[f]from G) rfl;have t:F=f:=by simpa using t
   subst t;rw[if_pos h];exact⟨by omega,.inl ⟨_,rfl,.done h,rfl⟩⟩
 | push N E B w P hp H K=>
   rename_i l g f q it;obtain⟨rfl,t⟩:=z2n G rfl;have t:F=f:=by simpa using t
   subst t;have A:g∈M.stack:=by rw[o];simp
   have d:=k.fr g A;refine⟨B,.inr ?_⟩;rw[if_neg (by omega),w];have m:ZV (popM M (l++[g]))=g:=Vb (st:=l) rfl;have z:AtOk p it.next g.D:=AtOk.of hc hp (Xb H).1;have j:Good p (popM M (l++[g])) b:=⟨N,fun f c=>⟨(k.fr f (by rw[o];exact x8t _ c)).pr,(k.fr f (by rw[o];exact x8t _ c)).len,(k.fr f (by rw[o];exact x8t _ c)).rng⟩,k.gl,by
    have h:=k.sl;rw[o,x7u]at h;show(l++[g]).length<=101;omega,k.fin,k.r0,k.rd,k.tr,k.ou⟩
   have n:(popM M (l++[g])).stack.length+1=M.stack.length:=by
    rw[o,x7u];rfl
   by_cases x:it.s.name=[]
   ·refine⟨it.next,_,rfl,?_,?_⟩
    ·rw[if_pos x];exact .drop E w x
    ·rw[if_pos x];exact⟨j,by rw[m];exact z,n,rfl⟩
   ·obtain⟨Q,I,O⟩:=d.pr;rw[hp]at I;cases I;have y:=Td hc hp (KM H) (q3h (by omega) x);rw[<-O]at y;refine⟨it.next,_,rfl,?_,?_⟩
    ·rw[if_neg x,m];exact .keep E w x rfl (R9 y)
    ·rw[if_neg x];refine⟨j.same rfl (by unfold setM;simp) j.fin j.r0 j.rd j.tr j.ou,?_,n,rfl⟩;have e:ZV (setM (popM M (l++[g])) (varM (ZV (popM M (l++[g]))) it.s.name) i)=g:=(Ml (M:=popM M (l++[g])) rfl).trans m;rw[e];exact z
end
def mainN(p:Pg):Nat:=(idxF (fun f=>f.name==mainS) p.A).toNat
def M00(p:Pg):Mc:=⟨[],List.replicate p.B.length 0,0,0,0,[],[]⟩
def GP(p:Pg):Cf:=.next (Wh p (mainN p) (prA p (mainN p))) (GK p (mainN p) (prA p (mainN p)) [] 0 (M00 p))
def Gh{p:Pg}(hc:chkB p=true):idxF (fun f=>f.name==mainS) p.A=(mainN p:Nat)/\p.A[mainN p]?=some (prA p (mainN p))/\(prA p (mainN p)).C=[]:=by
 obtain⟨k,f,h,_,j,m⟩:=D6 hc;obtain⟨t,i,l,_,_,o⟩:=Yq (p:=p) (n:=mainS) (x7d.2 ⟨f,x7t h,j⟩);obtain⟨rfl,s⟩:=Vu hc h (x7x i) (j.trans o.symm);have e:mainN p=k:=by unfold mainN;rw[l];rfl
 rw[e,UU h];exact⟨l,h,m⟩
def TE{p:Pg}(hc:chkB p=true)(i:0<=fuel):Qn p fuel (GP p):=by
 obtain⟨n,j,k⟩:=Gh hc;have h:=Eo hc (M:=M00 p) (b:=0) (fun f l=>by cases l) (by simp[M00]) rfl (z2l _) (z2l _) (z2l _) (z2l _) (x7p _) j (ps:=[]) (by rw[k];rfl) (fun v m=>by cases m) (call:=0) (.one rfl);exact⟨h.1,z2l _,i,h.2.1⟩
def DV(p:Pg)(tape watch:List Int)(fuel:Int)(n:Nat)(c:Cf):LS p tape watch fuel (n+1) c=goC p tape watch fuel (LS p tape watch fuel n c):=rfl
def Vr:Info:={keep:=fun i=>UI [(27,[8,9]),(26,[2,8,10,11,12,13,126]),(25,[2,8,10,11,12,13]),(24,[2,8,10,11,12,13,117]),(20,[2,8,10,11,12,13]),(23,[2,8,10,11,12,13,111]),(22,[2,8,10,11,12,13]),(18,[2,8,10,11,12,13]),(21,[2,8,10,11,12,13,100]),(19,[2,8,10,11,12,13,90,94]),(17,[2,8,10,11,12,13,90]),(16,[2,8,10,11,12,13]),(15,[2,8,10,11,12,13]),(14,[2,8,10,11,12,13]),(13,[2,8,10,11,12,13,63]),(12,[2,8,10,11,12,13]),(11,[2,8,10,11,12,13,56]),(10,[2,8,10,11,12,13]),(9,[2,8,10,11,12]),(8,[2,8,10,11]),(7,[2,8,10,34,35]),(6,[2,8,10,34,35]),(5,[2,8,10,34,35,36]),(4,[2,8,10,34,35]),(3,[2,4,8,10]),(2,[8,9]),(1,[1,2,3,4,8,24]),(0,[1,2,3,4,8])] i,sched:=I_run_Of.sched,frz:=I_run_Of.frz}
def q2m:Code->Code
 | .seq a b=>match a with
   |.scope c=>c
   |_=>q2m b
 |.scope c=>c
 |c=>c
noncomputable def q8f:Code:=q2m (Tryz.f38.body.getD .skip)
noncomputable def EB(l:Nat):Code:=(findLabel q8f l).getD .skip
def q3s{P:Program}{N:Nat}{K:Exit->St->Prop}{s:St}(h:ScopeK P tab N Vr q8f K s):ScopeK P tab N Vr q8f K s:=h
def rO:Chunk:=.obj 65 [.p (.int .i64 0),.p (.int .i64 0),.p (.int .i64 0),.p .nils,.p .nils]
def rM(p:Pg)(tape watch:List Int)(v:Nat)(M:Mc):Chunk:=.obj 145 [.p (.ip (sheetOf p).cells),.hd 2 0 p.B.length,.p (QB tape),.p (QB watch),.hd 3 0 M.stack.length,.hd 4 0 v,.p (.int .i64 M.fin),.p (.int .i64 M.steps),.p (.int .i64 M.reads),.hd 5 0 M.out.length,.hd 6 0 M.trace.length]
def rH(p:Pg)(tape watch:List Int)(bs:List Nat)(vs:List Int)(M:Mc)(it:Item):Heap:=[(0,rM p tape watch vs.length M),(2,.own 146 1 (UO bs (List.range p.B.length))),(3,.own 194 1 (M.stack.map (fmA bs))),(4,.own 2 1 (vs.map (.int .i64))),
 (5,.own 2 1 (M.out.map (.int .i64))),(6,.own 76 2 (M.trace.map evA)),(2500,.ext (.cells 2 (ZP bs M.mem))),(1,rO),(7,.obj 130 (it.cells.map .p))]
def OZ(l r:List (Nat×LV))(i:Nat):getS l i=getS (l++r) i\/getS l i=.p .any:=by
 induction l with
 |nil=>exact .inr rfl
 | cons x l h=>
   obtain⟨j,v⟩:=x;show(bif j==i then v else getS l i)=(bif j==i then v else getS (l++r) i)\/(bif j==i then v else getS l i)=.p .any;cases j==i
   .exact h
   .exact .inl rfl
def JW{N:Nat}(l r:List (Nat×LV)){H:Heap}:Le N ⟨l++r,H⟩ ⟨l,H⟩:=P1 (OZ l r) (z2e _)
def Cl(p:Pg)(tape watch:List Int)(fuel h at_:Int)(bs:List Nat)(vs:List Int)(M:Mc)(it:Item):St:=⟨[(2,.j fuel),(8,.ptr 1 0),(10,.ptr 0 0),(11,.ptr 7 0),(12,.j h),(13,.j at_)],rH p tape watch bs vs M it⟩
structure RIx where
 c:Cf
 gv:Int
 at_:Int
 bs:List Nat
 vs:List Int
 it:Item
def RIx.st(p:Pg)(tape watch:List Int)(fuel:Int)(i:RIx):St:=match i.c with
 |.next a M=>Cl p tape watch fuel i.gv a i.bs i.vs M i.it
 |.back g M=>Cl p tape watch fuel g i.at_ i.bs i.vs M i.it
 |.fin M=>Cl p tape watch fuel i.gv i.at_ i.bs i.vs M i.it
def RIx.lab(i:RIx):Nat:=match i.c with
 |.next _ _=>1
 |.back _ _=>0
 |.fin _=>2
def RIx.bok(i:RIx):Prop:=match i.c with
 |.next _ M=>i.bs.length=M.mem.length
 |.back _ M=>i.bs.length=M.mem.length
 |.fin _=>True
def Kgo(p:Pg)(tape watch:List Int)(fuel:Int)(c:Cf)(K:Exit->St->Prop):Prop:=∀(i:RIx)(s':St),i.c=goC p tape watch fuel c->i.bok->Le Tryz.f38.ntmps s' (i.st p tape watch fuel)->K (.goto i.lab) s'
def Mo{p:Pg}(hc:chkB p=true){k:Nat}{g:Pr}(h:p.A[k]?=some g):SpecP prog 135 [.agg p.cells,.str g.name] (fun r=>r=eStrs (varsS p g)):=by
 have n:=(XQ hc).1;have o:=(JB (QY hc).1).pr g (x7t h);exact Cj p (QY hc).1 k g h (fun j m l i=>(Vu hc l h i).1) (by omega) (by omega) (by omega)
def q9q{p:Pg}{tape watch:List Int}{M:Mc}{f:Fm}{g:Pr}{it:Item}:(doM p tape watch M f g it).2.mem.length=M.mem.length:=by
 have h:∀(M:Mc) v,(QH watch M it.s.id v).mem=M.mem:=fun M v=>G0;unfold doM;split
 .show (QH watch M it.s.id []).mem.length=_;rw[h]
 split
 .show (QH watch M it.s.id []).mem.length=_;rw[h]
 split
 .show (QH watch M it.s.id []).mem.length=_;rw[h]
 split
 .split
  .rfl
  .show (QH watch _ it.s.id _).mem.length=_;rw[h];simp[setM]
 cases(QE M f it.s.x).2 with
 |false=>rfl
 | true=>
   rw[x7c];split
   .show ((QH watch M it.s.id _).mem.set _ _).length=_;rw[x9d,h]
   split
   .show (QH watch M it.s.id _).mem.length=_;rw[h]
   split
   .show (QH watch M it.s.id _).mem.length=_;rw[h]
   split
   .show (QH watch M it.s.id _).mem.length=_;rw[h]
   .show (QH watch M it.s.id _).mem.length=_;rw[h]
def M6(p:Pg)(hc:chkB p=true)(tape watch:List Int)(htp:tape.length<=10000000)(fuel:Int)(hfu:fuel<=1000000)(o:Int)(bs:List Nat)(vs:List Int)(y:Item)(a:Int)(M:Mc)(hG:Qn p fuel (.next a M))(H:bs.length=M.mem.length)(K:Exit->St->Prop)(m:Kgo p tape watch fuel (.next a M) K):
  W prog tab Tryz.f38.ntmps Vr (EB 1) K (Cl p tape watch fuel o a bs vs M y):=by
 obtain⟨n,hs0,hs1,hat⟩:=hG;have hOk:=n.okM hc H;obtain⟨st,hst⟩:=n.top;have hcn:=(XQ hc).2.2;have hgc:=(XQ hc).1;have hll:=(QU p).2.2.2.1;have htr:=n.tr;have hou:=n.ou;have hrd:=n.rd;have T:=n.r0;have P:=n.fin;have U:=n.sl;unfold Kgo at m;simp only[goC]at m;by_cases ha:a = -1
 .rw [if_pos ha]at m;conv=>whnf
  repeat' (apply bD<;>intro _<;>first|omega|conv=>whnf)
  all_goals first
   |(exfalso;omega)
   |exact m ⟨.back 0 M,0,a,bs,vs,y⟩ _ rfl H (Le.of_eq rfl)
   |exact m ⟨.back 0 M,0,a,bs,vs,y⟩ _ rfl H (JW (RIx.st p tape watch fuel ⟨.back 0 M,0,a,bs,vs,y⟩).sl [_])
 rw[if_neg ha]at m;by_cases I:M.steps=fuel
 .rw [if_pos I]at m;conv=>whnf
  repeat' (first|(refine x7g rfl ?_;conv=>whnf)|(apply bD<;>intro _<;>first|omega|conv=>whnf))
  all_goals first
   |(exfalso;omega)
   |exact m ⟨.fin (endM M 2),o,a,bs,vs,y⟩ _ rfl trivial (Le.of_eq rfl)
   |exact m ⟨.fin (endM M 2),o,a,bs,vs,y⟩ _ rfl trivial (JW (RIx.st p tape watch fuel ⟨.fin (endM M 2),o,a,bs,vs,y⟩).sl [_])
 rw[if_neg I]at m;rcases hat with h|⟨g,it,hg,h1,N,hi,hid⟩
 .exact absurd h ha
 rw[N]at m;simp only at m;have d:((sheetOf p).l.map fun i=>AV.agg i.cells)[(a-1).toNat]?=some (.agg it.cells):=by rw[x7k,N];rfl
 have hlt:(a-1).toNat<(sheetOf p).l.length:=(x7h.1 N).1;have J:Good p (WW M) M.steps:=n.same rfl (x7s _) P T hrd htr hou;have f:OkM p bs (WW M):=J.okM hc H;have E:(WW M).stack=st++[ZV (WW M)]:=hst;have O:(WW M).stack.length<=101:=U;have F:(WW M).trace.length<=10000000:=by show M.trace.length<=_;omega
 have R:(WW M).out.length<=10000000:=by show M.out.length<=_;omega
 have e:p.A[(ZV (WW M)).D]?=some g:=hg;have Y:=KM hi;have Q:it∈itsOf p (ZV (WW M)).D g:=hi;unfold stI at m;by_cases Z:it.s.kind=4
 .rw [if_pos Z]at m;obtain⟨k1,k2,k3⟩:=A4 hc hg Y Z;have hpar:=Xr hc (Wy p it.s);have hmf:=(JB (QY hc).1).pr _ (x7t k2);have w:=Wl p tape watch bs vs (WW M) st (ZV (WW M)) E f O F it.s (by omega) (fun b H V=>(B0 hc J e Y (q4b H V)).1) (Wy p it.s) (prA p (Wy p it.s)) k2 k1 (Mo hc k2) (by omega) (by omega);generalize V:FY p watch (WW M) (ZV (WW M)) it.s (Wy p it.s) (prA p (Wy p it.s))=r at*
  obtain⟨z,M'⟩:=r;unfold AP at m;simp only at m w;by_cases G:M'.fin=0
  .rw [if_pos G]at m;conv=>whnf
   repeat' (first|((first|refine x7g rfl ?_|refine wI ?_|(refine IdxK.at (k:=(a-1).toNat) (by omega) d rfl ?_));conv=>whnf)|(apply bD<;>intro _<;>first|omega|conv=>whnf)|(refine cJ rH3 0 w ?_;rintro l' H' ⟨t,j,rfl,rfl,v⟩;conv=>whnf))
   all_goals first
    |(exfalso;omega)
    |exact m ⟨.next z M',o,0,t,j,it⟩ _ rfl (by assumption) (Le.of_eq rfl)
    |exact m ⟨.next z M',o,0,t,j,it⟩ _ rfl (by assumption) (JW (RIx.st p tape watch fuel ⟨.next z M',o,0,t,j,it⟩).sl [_])
  .rw [if_neg G]at m;conv=>whnf
   repeat' (first|((first|refine x7g rfl ?_|refine wI ?_|(refine IdxK.at (k:=(a-1).toNat) (by omega) d rfl ?_));conv=>whnf)|(apply bD<;>intro _<;>first|omega|conv=>whnf)|(refine cJ rH3 0 w ?_;rintro l' H' ⟨t,j,rfl,rfl,v⟩;conv=>whnf))
   all_goals first
    |(exfalso;omega)
    |exact m ⟨.fin M',o,z,t,j,it⟩ _ rfl trivial (Le.of_eq rfl)
    |exact m ⟨.fin M',o,z,t,j,it⟩ _ rfl trivial (JW (RIx.st p tape watch fuel ⟨.fin M',o,z,t,j,it⟩).sl [_])
 rw[if_neg Z]at m;by_cases h9:it.s.kind=9
 .rw [if_pos h9]at m;have C:=Z4 p tape watch bs vs (WW M) st (ZV (WW M)) E f F it.s;have B:(Mq watch (WW M) (ZV (WW M)) it.s).2.fin=0->(Mq watch (WW M) (ZV (WW M)) it.s).2.mem=(WW M).mem:=fun _=>by
   unfold Mq;cases it.s.has with
   |false=>exact G0
   | true=>cases hw:(QE (WW M) (ZV (WW M)) it.s.x).2 with
     |false=>rfl
     |true=>exact G0
  generalize V:Mq watch (WW M) (ZV (WW M)) it.s=r at*
  obtain⟨c,M'⟩:=r;unfold Pw at m;simp only at m C B;by_cases G:M'.fin=0
  .rw [if_pos G]at m;have v:bs.length=M'.mem.length:=by rw[B G];exact H
   conv=>whnf
   repeat' (first|((first|refine x7g rfl ?_|refine wI ?_|(refine IdxK.at (k:=(a-1).toNat) (by omega) d rfl ?_));conv=>whnf)|(apply bD<;>intro _<;>first|omega|conv=>whnf)|(refine cJ rH3 0 C ?_;rintro l' H' ⟨j,rfl,rfl⟩;conv=>whnf))
   all_goals first
    |(exfalso;omega)
    |exact m ⟨.back c M',0,a,bs,j,it⟩ _ rfl v (Le.of_eq rfl)
    |exact m ⟨.back c M',0,a,bs,j,it⟩ _ rfl v (JW (RIx.st p tape watch fuel ⟨.back c M',0,a,bs,j,it⟩).sl [_])
  .rw [if_neg G]at m;conv=>whnf
   repeat' (first|((first|refine x7g rfl ?_|refine wI ?_|(refine IdxK.at (k:=(a-1).toNat) (by omega) d rfl ?_));conv=>whnf)|(apply bD<;>intro _<;>first|omega|conv=>whnf)|(refine cJ rH3 0 C ?_;rintro l' H' ⟨j,rfl,rfl⟩;conv=>whnf))
   all_goals first
    |(exfalso;omega)
    |exact m ⟨.fin M',c,a,bs,j,it⟩ _ rfl trivial (Le.of_eq rfl)
    |exact m ⟨.fin M',c,a,bs,j,it⟩ _ rfl trivial (JW (RIx.st p tape watch fuel ⟨.fin M',c,a,bs,j,it⟩).sl [_])
 rw[if_neg h9]at m;have hpA:=UU e;rw[hpA]at m;have hDo:DoOk p (ZV (WW M)) g it:=⟨fun h7=>by
   have hl:=(NK hc e).1 it Q h7;exact⟨hl.1,by omega,_,x7x (by omega)⟩,⟨_,HJ _ _ _ _ _ _ it Q,e⟩,fun h12=>by
   have hO:=RR hc e Y;have hn:=SD (hO.name (by omega));exact(B0 hc J e Y (q3h (by omega) (by simpa using hn))).1⟩
 have L:=K8 p (by omega) tape watch htp bs vs (WW M) st (ZV (WW M)) E f F R T (by show M.reads<=_;omega) g it hDo;have B:(doM p tape watch (WW M) (ZV (WW M)) g it).2.mem.length=(WW M).mem.length:=q9q;generalize V:doM p tape watch (WW M) (ZV (WW M)) g it=r at*
 obtain⟨z,M'⟩:=r;unfold AP at m;simp only at m L B;by_cases G:M'.fin=0
 .rw [if_pos G]at m;have v:bs.length=M'.mem.length:=by rw[B];exact H
  conv=>whnf
  repeat' (first|((first|refine x7g rfl ?_|refine wI ?_|(refine IdxK.at (k:=(a-1).toNat) (by omega) d rfl ?_));conv=>whnf)|(apply bD<;>intro _<;>first|omega|conv=>whnf)|(refine cJ rH3 0 L ?_;rintro l' H' ⟨j,rfl,rfl⟩;conv=>whnf))
  all_goals first
   |(exfalso;omega)
   |exact m ⟨.next z M',o,0,bs,j,it⟩ _ rfl v (Le.of_eq rfl)
   |exact m ⟨.next z M',o,0,bs,j,it⟩ _ rfl v (JW (RIx.st p tape watch fuel ⟨.next z M',o,0,bs,j,it⟩).sl [_])
 .rw [if_neg G]at m;conv=>whnf
  repeat' (first|((first|refine x7g rfl ?_|refine wI ?_|(refine IdxK.at (k:=(a-1).toNat) (by omega) d rfl ?_));conv=>whnf)|(apply bD<;>intro _<;>first|omega|conv=>whnf)|(refine cJ rH3 0 L ?_;rintro l' H' ⟨j,rfl,rfl⟩;conv=>whnf))
  all_goals first
   |(exfalso;omega)
   |exact m ⟨.fin M',o,z,bs,j,it⟩ _ rfl trivial (Le.of_eq rfl)
   |exact m ⟨.fin M',o,z,bs,j,it⟩ _ rfl trivial (JW (RIx.st p tape watch fuel ⟨.fin M',o,z,bs,j,it⟩).sl [_])
def Ft{p:Pg}(hc:chkB p=true)(tape watch:List Int){c:Cf}(h:Qn p fuel c)(H:∀M,c ≠ .fin M):Qn p fuel (goC p tape watch fuel c)/\cfμ fuel (goC p tape watch fuel c)<cfμ fuel c:=by
 cases c with
 |fin M=>exact absurd rfl (H M)
 | back g M=>
   obtain⟨j,f,B⟩:=h;obtain⟨st,d⟩:=j.top;obtain⟨_,⟨M',e,_,_⟩|⟨a,M',e,_,z,o,G,k⟩⟩:=RA hc j d g
   .show Qn p fuel (HR p g M)/\cfμ fuel (HR p g M)<_;rw[e];exact⟨trivial,z3e _⟩
   .show Qn p fuel (HR p g M)/\cfμ fuel (HR p g M)<_;rw[e];refine⟨⟨by rw[k];exact z,by omega,by omega,o⟩,?_⟩;show 6*(fuel-M'.steps).toNat+2*M'.stack.length+2<6*(fuel-M.steps).toNat+2*M.stack.length+1;rw[k];omega
 | next a M=>
   obtain⟨j,f,B,o⟩:=h;simp only[goC];by_cases ha:a = -1
   .rw [if_pos ha];exact⟨⟨j,f,B⟩,by show _+1<_+2;omega⟩
   rw[if_neg ha];by_cases C:M.steps=fuel
   .rw [if_pos C];exact⟨trivial,z3e _⟩
   rw[if_neg C];rcases o with h|⟨g,it,E,_,b,F,_⟩
   .exact absurd h ha
   rw[b];simp only;have n:Good p (WW M) M.steps:=j.same rfl (x7s _) j.fin j.r0 j.rd j.tr j.ou;have key:∀(r:Int×Mc),r.2.steps=(WW M).steps->(r.2.fin=0->Good p r.2 (M.steps+1)/\AtOk p r.1 (ZV r.2).D/\r.2.stack.length<=M.stack.length+1)->Qn p fuel (AP r)/\cfμ fuel (AP r)<cfμ fuel (.next a M):=fun r k I=>by
    have k:r.2.steps=M.steps+1:=k;unfold AP;by_cases m:r.2.fin=0
    .rw [if_pos m];obtain⟨v,i,L⟩:=I m;refine⟨⟨by rw[k];exact v,by omega,by omega,i⟩,?_⟩;show 6*(fuel-r.2.steps).toNat+2*r.2.stack.length+2<6*(fuel-M.steps).toNat+2*M.stack.length+2;omega
    .rw [if_neg m];exact⟨trivial,z3e _⟩
   unfold stI;have t:p.A[(ZV (WW M)).D]?=some g:=E;have w:it∈itsOf p (ZV (WW M)).D g:=F;by_cases x:it.s.kind=4
   .rw [if_pos x];obtain⟨v,i⟩:=q4n hc watch n t w x rfl;exact key _ v fun l=>⟨(i l).1,(i l).2.1,Nat.le_of_eq (i l).2.2⟩
   rw[if_neg x];by_cases y:it.s.kind=9
   .rw [if_pos y];obtain⟨v,i⟩:=EP watch n it.s rfl;generalize Mq watch (WW M) (ZV (WW M)) it.s=r at*
    have k:r.2.steps=M.steps+1:=v;unfold Pw;by_cases m:r.2.fin=0
    .rw [if_pos m];obtain⟨J,K⟩:=i m;have G:r.2.stack.length=M.stack.length:=by rw[K];rfl
     refine⟨⟨by rw[k];exact J,by omega,by omega⟩,?_⟩;show 6*(fuel-r.2.steps).toNat+2*r.2.stack.length+1<6*(fuel-M.steps).toNat+2*M.stack.length+2;omega
    .rw [if_neg m];exact⟨trivial,z3e _⟩
   rw[if_neg y,UU t];obtain⟨v,i⟩:=q5q hc tape watch n t w x y rfl;refine key _ v fun l=>⟨(i l).1,?_,?_⟩
   .rw [Ml (i l).2.2];exact(i l).2.1
   .rw [(i l).2.2];exact z4v _
def Pk{p:Pg}{M:Mc}{st:List Fm}{f:Fm}{g a:Int}(h:CloseP p M st f g a M'):M'.stack=st:=by
 cases h<;>rfl
def So{p:Pg}{M:Mc}{st:List Fm}{f:Fm}{g a:Int}(h:CloseP p M st f g a M'):M'.mem.length=M.mem.length:=by
 cases h<;>first|rfl|simp[setM,popM]
def Kt(p:Pg)(tape watch:List Int)(bs:List Nat)(vs:List Int)(M:Mc)(st:List Fm)(f:Fm)(s:M.stack=st++[f])(m:OkM p bs M)(i:f.call<=100000)(h:Int)(at_:Int)(M':Mc)(k:CloseP p M st f h at_ M'):
  SpecH prog 80 [.ptr 1000 0,.j h] (mH p tape watch bs vs M) (fun r H=>r=.p (.int .i64 at_)/\H=mH p tape watch bs vs M'):=
 (Z3 p tape watch bs vs M st f s m i h at_ M' k).post fun l H' ⟨es,n,o,hH⟩=>⟨mH p tape watch bs vs M',⟨o,rfl⟩,by
   subst hH;have e:M'.stack=st:=Pk k;refine Le.cut ?_;show CutH (mHs p tape watch bs vs M' es) (mHs p tape watch bs vs M' (M'.stack.map (fmA bs)));rw[e];exact .same (.same (.cut n (.same (.same (.same (.same .nil))))))⟩
def q9w(bs:List Nat)(M:Mc):St:=⟨[(8,.ptr 1 0),(9,.j 0)],[(5,.own 2 1 (M.out.map (.int .i64))),(6,.own 76 2 (M.trace.map evA)),(2500,.ext (.cells 2 (ZP bs M.mem))),
 (1,.obj 65 [.p (.int .i64 M.fin),.j M.steps,.j M.reads,.hd 5 0 M.out.length,.hd 6 0 M.trace.length])]⟩
def q8h(M:Mc):AV:=.agg [.int .i64 M.fin,.int .i64 M.steps,.int .i64 M.reads,QB M.out,.sl (M.trace.map evA)]
def x5u(p:Pg)(tape watch:List Int)(fuel:Int)(r:AV):Prop:=∃n M,LS p tape watch fuel n (GP p)=.fin M/\r=.tup [q8h M,.int .i64 0]
def EV(p:Pg)(hc:chkB p=true)(tape watch:List Int)(fuel:Int)(c:fuel<=1000000)(g:Int)(bs:List Nat)(vs:List Int)(h:Item)(at_:Int)(M:Mc)(z:Qn p fuel (.back g M))(y:bs.length=M.mem.length)(K:Exit->St->Prop)(l:Kgo p tape watch fuel (.back g M) K)(v:∀(M':Mc),goC p tape watch fuel (.back g M)=.fin M'->K .ret (q9w bs M')):
  W prog tab Tryz.f38.ntmps Vr (EB 0) K (Cl p tape watch fuel g at_ bs vs M h):=by
 obtain⟨i,d,f⟩:=z;have m:=i.okM hc y;obtain⟨st,k⟩:=i.top;unfold Kgo at l;simp only[goC]at l v;obtain⟨o,⟨M',e,t,s⟩|⟨a,M',e,t,w,b,A,B⟩⟩:=RA hc i k g
 .have j:=Kt p tape watch bs vs M st (ZV M) k m o g (-1) M' t;have x:=v M' e;clear v l;conv=>whnf
  repeat' (first|(refine x7g rfl ?_;conv=>whnf)|(apply bD<;>intro _<;>first|omega|conv=>whnf)|(refine cH rH3 0 j ?_;conv=>whnf))
  all_goals first
   |(exfalso;omega)
   |exact x
 .have j:=Kt p tape watch bs vs M st (ZV M) k m o g a M' t;have n:bs.length=M'.mem.length:=by rw[So t];exact y
  have s:=w.fin;rw[e]at l;clear v;conv=>whnf
  repeat' (first|(apply bD<;>intro _<;>first|omega|conv=>whnf)|(refine cH rH3 0 j ?_;conv=>whnf))
  all_goals first
   |(exfalso;omega)
   |exact l ⟨.next a M',g,0,bs,vs,h⟩ _ rfl n (Le.of_eq rfl)
   |exact l ⟨.next a M',g,0,bs,vs,h⟩ _ rfl n (JW (RIx.st p tape watch fuel ⟨.next a M',g,0,bs,vs,h⟩).sl [_])
def q0s(p:Pg)(tape watch:List Int)(fuel i at_:Int)(bs:List Nat)(vs:List Int)(h:Item)(M:Mc)(K:Exit->St->Prop)(j:K .ret (q9w bs M)):
  W prog tab Tryz.f38.ntmps Vr (EB 2) K (Cl p tape watch fuel i at_ bs vs M h):=by
 conv=>whnf
 repeat' (refine x7g rfl ?_;conv=>whnf)
 all_goals first
  |exact j
def q1q{bs:List Nat}{n:Nat}(h:bs.length=n):UO bs (List.range n)=bs.map cpA:=by
 have:=TK (bs:=[]) (nb:=bs);rw[z0i,z0p,h,<-List.range_eq_range']at this;exact this
def A8{bs:List Nat}{n:Nat}(h:bs.length=n):ZP bs (List.replicate n 0)=bs.map fun b=>(b,.int .i64 0):=by
 have:=Pj (bs:=[]) (mem:=[]) (nb:=bs) rfl;rw[h]at this;exact this
def x5d:Item:=⟨⟨0,0,[],[],[],⟨0,0,[],[]⟩,false,[],[],[]⟩,0,0,0,0⟩
def eR(p:Pg)(k:Nat)(g:Pr):Int->Int->Prop:=stR ((newWay p k g).real.filter (Nd p (endsR p)))
inductive Pos:List Fm->Int->Nat->Int->Prop
 |top {st:List Fm} {f:Fm} {x:Int}:Pos (st++[f]) x f.D x
 |low {st:List Fm} {f:Fm} {x:Int} {k:Nat} {y:Int} (h:Pos st f.call k y):Pos (st++[f]) x k y
theorem Pos.inv{st:List Fm}{f:Fm}{x:Int}{k:Nat}{y:Int}(h:Pos (st++[f]) x k y):(k=f.D/\y=x)\/Pos st f.call k y:=by
 generalize j:st++[f]=l at h;cases h with
 | top=>
   obtain⟨_,i⟩:=z2n j rfl;cases i;exact .inl ⟨rfl,rfl⟩
 | low h=>
   obtain⟨rfl,i⟩:=z2n j rfl;cases i;exact .inr h
def EvP(p:Pg)(P:Nat->Int->Prop)(e:Int×List Int):Prop:=∃k g t,p.A[k]?=some g/\t∈flL g.body/\t.id=e.1/\Rch (eR p k g) 0 e.1/\(Rch (eR p k g) e.1 (-1)\/∃y,P k y/\Rch (eR p k g) e.1 y)
structure InvM(p:Pg)(M:Mc)(x:Int):Prop where
 pos:∀k y,Pos M.stack x k y->∃g,p.A[k]?=some g/\Rch (eR p k g) 0 y
 ev:∀e∈M.trace,EvP p (Pos M.stack x) e
 fr:∀f∈M.stack,(f.call=0/\f.D=mainN p)\/(f.call≠0/\∃g it,p.A[f.D]?=some g/\(sheetOf p).l[(f.call-1).toNat]?=some it/\g.name=it.s.D)
def closedE(p:Pg)(e:Int×List Int):Prop:=∃k g t,p.A[k]?=some g/\t∈flL g.body/\t.id=e.1/\Rch (eR p k g) 0 e.1/\Rch (eR p k g) e.1 (-1)
def liveE(p:Pg)(e:Int×List Int):Prop:=∃k g t,p.A[k]?=some g/\t∈flL g.body/\t.id=e.1/\Rch (eR p k g) 0 e.1
structure InvF(p:Pg)(M:Mc):Prop where
 live:∀e∈M.trace,liveE p e
 done:M.fin=1->mainS∈endsR p/\∀e∈M.trace,closedE p e
def q8y(p:Pg):Cf->Prop
 |.next a M=>InvM p M a
 |.back _ M=>InvM p M (-1)
 |.fin M=>InvF p M
theorem InvM.fin{p:Pg}{M:Mc}{x:Int}(h:InvM p M x)(w:M'.trace=M.trace)(v:M'.fin≠1):InvF p M':=
 ⟨fun e o=>by
   obtain⟨k,g,t,i,j,l,m,_⟩:=h.ev e (w▸o);exact⟨k,g,t,i,j,l,m⟩,fun h=>absurd h v⟩
def Uh{w:List Int}{M:Mc}{id:Int}{v:List Int}{e:Int×List Int}(h:e∈(QH w M id v).trace):e∈M.trace\/e.1=id:=by
 unfold QH at h;cases i:w.any (fun x=>decide (id=x))<;>rw[i]at h
 .exact .inl h
 .rcases x7b.1 h with h|h
  .exact .inl h
  .rw [x7y.1 h];exact .inr rfl
section
variable {p:Pg}(hc:chkB p=true)
include hc
def q5z{k:Nat}{g:Pr}(l:p.A[k]?=some g){it:Item}(j:it∈itsOf p k g){b:Int}(n:b∈VR (sheetOf p) g it)(h:it.s.kind=4->it.s.D∈endsR p):eR p k g it.s.id b:=by
 refine⟨⟨it.s.id,b,1⟩,x8d.2 ⟨((YY hc l).2 _).2 (EG j n),?_⟩,rfl,rfl⟩;unfold Nd;rw[z1y];refine .inr ?_;show(match IT p it.s.id with|some s=>_|none=>_)=true;rw[RQ hc l (KM j)];show(!(decide (it.s.kind=4) && !((endsR p).any fun x=>it.s.D==x)))=true;by_cases i:it.s.kind=4
 .have m:((endsR p).any fun x=>it.s.D==x)=true:=x8e.2 ⟨_,h i,by simp⟩;rw[m];simp
 .simp [i]
def T1{k:Nat}{g:Pr}(h:p.A[k]?=some g):eR p k g 0 (Wh p k g):=by
 refine⟨⟨0,q9f p k g,1⟩,x8d.2 ⟨((YY hc h).2 _).2 (by unfold QF q9f;exact x7v),?_⟩,rfl,rfl⟩;unfold Nd;simp
def q9y{k:Nat}{g:Pr}(i:p.A[k]?=some g)(h:Rch (eR p k g) 0 (-1)):g.name∈endsR p:=(Om hc i).2 h
omit hc in
theorem InvM.on{M M':Mc}{a b:Int}{st:List Fm}{f:Fm}(h:InvM p M a)(m:M.stack=st++[f])(i:M'.stack=M.stack){g:Pr}(w:p.A[f.D]?=some g){it:Item}(I:it∈itsOf p f.D g)(v:it.s.id=a)(z:eR p f.D g a b)(J:∀e∈M'.trace,e∈M.trace\/e.1=it.s.id):InvM p M' b:=by
 have B:Rch (eR p f.D g) 0 a:=by
  obtain⟨c,o,x⟩:=h.pos f.D a (by rw[m];exact .top);rw[w]at o;cases o;exact x
 refine⟨fun k y hp=>?_,fun e l=>?_,fun E H=>h.fr E (i▸H)⟩
 .rw [i,m]at hp;rcases hp.inv with⟨rfl,rfl⟩|hp
  .exact ⟨g,w,.tail B z⟩
  .exact h.pos k y (by rw[m];exact .low hp)
 .rcases J e l with l|l
  .obtain ⟨k,c,t,o,x,F,G,j⟩:=h.ev e l;refine⟨k,c,t,o,x,F,G,?_⟩;rcases j with j|⟨y,j,C⟩
   .exact .inl j
   .rw [m]at j;rcases j.inv with⟨rfl,rfl⟩|j
    .rw [w]at o;cases o;exact .inr ⟨b,by rw[i,m];exact .top,.tail C z⟩
    .exact .inr ⟨y,by rw[i,m];exact .low j,C⟩
  .rw [v]at l;exact⟨f.D,g,it.s,w,KM I,by rw[l,v],by rw[l];exact B,.inr ⟨b,by rw[i,m];exact .top,by rw[l];exact .tail .refl z⟩⟩
theorem InvM.push{M:Mc}{a:Int}{st:List Fm}{f n:Fm}(h:InvM p M a)(E:M.stack=st++[f])(l:M'.stack=M.stack++[n])(b:n.call=a){g:Pr}(w:p.A[f.D]?=some g){it:Item}(z:it∈itsOf p f.D g)(j:it.s.id=a){q:Pr}(B:p.A[n.D]?=some q)(c:q.name=it.s.D)(N:∀e∈M'.trace,e∈M.trace\/e.1=it.s.id):InvM p M' (Wh p n.D q):=by
 have G:Rch (eR p f.D g) 0 a:=by
  obtain⟨C,v,x⟩:=h.pos f.D a (by rw[E];exact .top);rw[w]at v;cases v;exact x
 have o:∀k y,Pos M.stack a k y->Pos M'.stack (Wh p n.D q) k y:=fun k y hp=>by
  rw[l];exact .low (by rw[b];exact hp)
 refine⟨fun k y hp=>?_,fun e i=>?_,fun F m=>?_⟩
 ·rw[l]at hp;rcases hp.inv with⟨rfl,rfl⟩|hp
  ·exact⟨q,B,.tail .refl (T1 hc B)⟩
  ·rw[b]at hp;exact h.pos k y hp
 ·rcases N e i with i|i
  ·obtain⟨k,C,t,v,x,H,I,J⟩:=h.ev e i;exact⟨k,C,t,v,x,H,I,J.imp id fun⟨y,K,L⟩=>⟨y,o _ _ K,L⟩⟩
  ·rw[j]at i;exact⟨f.D,g,it.s,w,KM z,by rw[i,j],by rw[i];exact G,.inr ⟨a,o _ _ (by rw[E];exact .top),by rw[i];exact .refl⟩⟩
 ·rw[l]at m;rcases x7b.1 m with m|m
  ·exact h.fr F m
  ·rw[x7y.1 m];have:=ZS (QY hc).1 w (KM z);refine .inr ⟨by omega,q,it,B,?_,c⟩;rw[b,<-j];exact q5i hc w z
def AC:q8y p (GP p):=by
 obtain⟨o,h,s⟩:=Gh hc;have j:(GK p (mainN p) (prA p (mainN p)) [] 0 (M00 p)).stack=[]++[⟨mainN p,varsS p (prA p (mainN p)),List.range p.B.length++[]++List.range' (M00 p).mem.length (prA p (mainN p)).F.length,0⟩]:=rfl;refine InvM.mk (fun k y hp=>?_) (fun e m=>(by cases m)) (fun f i=>?_)
 .rw [j]at hp;rcases hp.inv with⟨rfl,rfl⟩|hp
  .exact ⟨_,h,.tail .refl (T1 hc h)⟩
  .generalize n:([]:List Fm)=l at hp;cases hp<;>simp at n
 .rw [j]at i;rw[x7y.1 i];exact .inl ⟨rfl,rfl⟩
def Ey:(prA p (mainN p)).name=mainS:=by
 obtain⟨s,t,_⟩:=Gh hc;obtain⟨k,f,i,_,j,_⟩:=D6 hc;obtain⟨o,h,l,_,_,m⟩:=Yq (p:=p) (n:=mainS) (x7d.2 ⟨f,x7t i,j⟩);have e:mainN p=o:=by unfold mainN;rw[l];rfl
 rw[e,UU (x7x h)];exact m
omit hc in
def q9x(tape watch:List Int){M:Mc}{f:Fm}{g:Pr}{it:Item}{r:Int×Mc}(z:r=doM p tape watch M f g it)(i:M.fin=0):(∀e∈r.2.trace,e∈M.trace\/e.1=it.s.id)/\(r.2.fin≠0->r.2.trace=M.trace/\r.2.fin≠1):=by
 subst z;have key:∀(k j:Mc)(v:List Int),k.trace=M.trace->k.fin=0->j.trace=(QH watch k it.s.id v).trace->j.fin=(QH watch k it.s.id v).fin->(∀e∈j.trace,e∈M.trace\/e.1=it.s.id)/\(j.fin≠0->j.trace=M.trace/\j.fin≠1):=fun k j v o t w y=>by
  refine⟨fun e m=>?_,fun h=>?_⟩
  .rw [w]at m;rcases Uh m with h|h
   .exact .inl (o▸h)
   .exact .inr h
  .rw [y,(YX watch k it.s.id v).2.2.1,t]at h;exact absurd rfl h
 have l:∀c:Int,c≠1->(∀e∈(endM M c).trace,e∈M.trace\/e.1=it.s.id)/\((endM M c).fin≠0->(endM M c).trace=M.trace/\(endM M c).fin≠1):=fun c hc=>⟨fun e m=>.inl m,fun _=>⟨rfl,hc⟩⟩;unfold doM;split
 .exact key M _ [] rfl i rfl rfl
 split
 .exact key M _ [] rfl i rfl rfl
 split
 .exact key M _ [] rfl i rfl rfl
 split
 .split
  .exact l 3 (by decide)
  .exact key (setM {M with reads:=M.reads+1} (varM f it.s.name) (tape.getD M.reads.toNat 0)) _ [tape.getD M.reads.toNat 0] rfl i rfl rfl
 cases(QE M f it.s.x).2 with
 |false=>exact l 4 (by decide)
 | true=>
   rw[x7c];generalize(QE M f it.s.x).1=n;split
   .exact key M _ [n] rfl i rfl rfl
   split
   .exact key M _ [n] rfl i rfl rfl
   split
   .exact key M _ [n] rfl i rfl rfl
   split
   .exact key M _ [n] rfl i rfl rfl
   .exact key M _ [n] rfl i rfl rfl
theorem OP{M:Mc}{b:Int}(R:Good p M b)(h:InvM p M (-1))(a:Int):q8y p (HR p a M):=by
 obtain⟨st,n⟩:=R.top;have P:M.stack.dropLast=st:=by rw[n,List.dropLast_concat]
 have v:=R.ch;rw[n]at v;have d:=h.fr (ZV M) (by rw[n];simp);obtain⟨q',m,c⟩:=h.pos _ _ (by rw[n];exact .top);have w:=q9y hc m c;generalize hF:ZV M=F at*
 unfold HR;rw[P,hF];generalize T:st++[F]=L at v;cases v with
 | one J=>
   rename_i f;obtain⟨rfl,o⟩:=z2n (show st++[F]=[]++[f]from T) rfl;have o:F=f:=by simpa using o
   subst o;rw[if_pos J];refine InvF.mk (fun e z=>?_) fun _=>⟨?_,fun e z=>?_⟩
   ·obtain⟨k,g,t,x,B,C,E,_⟩:=h.ev e z;exact⟨k,g,t,x,B,C,E⟩
   ·rcases d with⟨_,hm⟩|⟨N,_⟩
    ·rw[hm,(Gh hc).2.1]at m;cases m;rw[Ey hc]at w;exact w
    ·exact absurd J N
   ·obtain⟨k,g,t,x,B,C,E,i⟩:=h.ev e z;refine⟨k,g,t,x,B,C,E,?_⟩;rcases i with i|⟨y,i,G⟩
    ·exact i
    ·rw[n]at i;rcases i.inv with⟨_,rfl⟩|i
     ·exact G
     ·generalize V:([]:List Fm)=l at i;cases i<;>simp at V
 | push V h1 hle A hk hp hi K=>
   rename_i l g f q it;obtain⟨rfl,o⟩:=z2n T rfl;have o:F=f:=by simpa using o
   subst o;rw[if_neg (by omega),A];have O:it.s.D∈endsR p:=by
    rcases d with⟨J,_⟩|⟨_,Q,it',Y,Z,v3⟩
    ·omega
    ·rw[A]at Z;cases Z;rw[m]at Y;cases Y;rw[<-v3];exact w
   have j:eR p g.D q F.call it.next:=by
    rw[<-K];refine q5z hc hp hi ?_ fun _=>O;unfold VR;rw[if_neg (by omega),if_neg (by omega),if_neg (by omega),if_neg (by omega),if_neg (by omega),if_neg (by omega)];exact x7v
   have key:∀M':Mc,M'.stack=l++[g]->M'.trace=M.trace->InvM p M' it.next:=fun M' H e2=>by
    refine⟨fun k y I=>?_,fun e z=>?_,fun f' U=>h.fr f' (by rw[n];rw[H]at U;exact x8t _ U)⟩
    ·rw[H]at I;rcases I.inv with⟨rfl,rfl⟩|I
     ·obtain⟨q2,w1,w2⟩:=h.pos g.D F.call (by rw[n];exact .low .top);rw[hp]at w1;cases w1;exact⟨q,hp,.tail w2 j⟩
     ·exact h.pos k y (by rw[n];exact .low (.low I))
    ·rw[e2]at z;obtain⟨k,Q,t,x,B,C,E,i⟩:=h.ev e z;refine⟨k,Q,t,x,B,C,E,?_⟩;rcases i with i|⟨y,i,G⟩
     ·exact .inl i
     ·rw[n]at i;rcases i.inv with⟨_,rfl⟩|i
      ·exact .inl G
      ·rcases i.inv with⟨rfl,rfl⟩|i
       ·rw[hp]at x;cases x;exact .inr ⟨it.next,by rw[H];exact .top,.tail G j⟩
       ·exact .inr ⟨y,by rw[H];exact .low i,G⟩
   show InvM p (if it.s.name=[]then _ else _) it.next;split
   ·exact key _ rfl rfl
   ·exact key _ rfl rfl
omit hc in
def q3t(watch:List Int){M:Mc}{f:Fm}{t:S}{r:Int×Mc}(k:r=Mq watch M f t)(j:M.fin=0):(∀e∈r.2.trace,e∈M.trace\/e.1=t.id)/\(r.2.fin≠0->r.2.trace=M.trace/\r.2.fin≠1):=by
 subst k;have key:∀v,(∀e∈(QH watch M t.id v).trace,e∈M.trace\/e.1=t.id)/\((QH watch M t.id v).fin≠0->(QH watch M t.id v).trace=M.trace/\(QH watch M t.id v).fin≠1):=fun v=>⟨fun e i=>Uh i,fun h=>by
  rw[(YX watch M t.id v).2.2.1,j]at h;exact absurd rfl h⟩
 unfold Mq;cases t.has with
 |false=>exact key []
 | true=>
   rw[x7c];cases(QE M f t.x).2 with
   |false=>exact⟨fun e i=>.inl i,fun _=>⟨rfl,by show(4:Int)≠1;decide⟩⟩
   |true=>exact key _
theorem ON(watch:List Int){M:Mc}{b:Int}(m:Good p M b){g:Pr}(k:p.A[(ZV M).D]?=some g){it:Item}(E:it∈itsOf p (ZV M).D g)(C:it.s.kind=4)(h:InvM p M it.s.id):q8y p (AP (FY p watch M (ZV M) it.s (Wy p it.s) (prA p (Wy p it.s)))):=by
 have x:=KM E;obtain⟨Y,Q,Z⟩:=A4 hc k x C;obtain⟨st,w⟩:=m.top;have t:(prA p (Wy p it.s)).name=it.s.D:=by
  obtain⟨G,_,T,_,U,_⟩:=LZ hc (x8h.2 ⟨g,x7t k,x⟩) C;have e:Wy p it.s=G:=by
   unfold Wy;show(caI p it.s).toNat=G;rw[T];rfl
  rw[e];exact U
 obtain⟨y,H,I,J,K,j,z,c⟩:=Fq (f:=ZV M) it.s.args [] M (fun a ha O=>(B0 hc m k x (q4b ha O)).2) (fun v P=>by cases P);unfold FY;generalize argsM (ZV M) it.s.args [] M=ar at*
 obtain⟨ps,i,R⟩:=ar;simp only at y H I J K j z c⊢;unfold AP;cases R with
 | false=>
   have V:i.fin=4:=c rfl;rw[x7o,if_neg (by show ¬i.fin=0;omega)];exact h.fin j (by show i.fin≠1;omega)
 | true=>
   obtain⟨L,_,_⟩:=z rfl;rw[x7c];split
   ·exact h.fin (M':=endM i 5) j (by show(5:Int)≠1;decide)
   ·have d:=YX watch i it.s.id [];have N:(GK p (Wy p it.s) (prA p (Wy p it.s)) ps it.s.id (QH watch i it.s.id [])).fin=0:=by
     show(QH watch i it.s.id []).fin=0;rw[d.2.2.1,L];exact m.fin
    rw[if_pos N];refine InvM.push hc (n:=⟨Wy p it.s,varsS p (prA p (Wy p it.s)),List.range p.B.length++ps++List.range' (QH watch i it.s.id []).mem.length (prA p (Wy p it.s)).F.length,it.s.id⟩) h w ?_ rfl k E rfl Q t ?_
    ·show(QH watch i it.s.id []).stack++_=M.stack++_;rw[d.1,y]
    ·intro e o;have o:e∈(QH watch i it.s.id []).trace:=o;rcases Uh o with l|l
     ·exact .inl (j▸l)
     ·exact .inr l
theorem q9a(tape watch:List Int){c:Cf}(C:Qn p fuel c)(h:q8y p c):q8y p (goC p tape watch fuel c):=by
 cases c with
 |fin M=>exact h
 |back g M=>exact OP hc C.1 h g
 | next a M=>
   obtain⟨i,J,K,y⟩:=C;have h:InvM p M a:=h;simp only[goC];by_cases ha:a = -1
   ·rw[if_pos ha];show InvM p M (-1);rw[<-ha];exact h
   rw[if_neg ha];by_cases E:M.steps=fuel
   ·rw[if_pos E];exact h.fin (M':=endM M 2) rfl (by show(2:Int)≠1;decide)
   rw[if_neg E];rcases y with F|⟨g,it,G,_,d,H,b⟩
   ·exact absurd F ha
   rw[d];simp only;have n:Good p (WW M) M.steps:=i.same rfl (x7s _) i.fin i.r0 i.rd i.tr i.ou;have j:p.A[(ZV (WW M)).D]?=some g:=G;have k:it∈itsOf p (ZV (WW M)).D g:=H;have m:InvM p (WW M) it.s.id:=by
    rw[b];exact⟨h.pos,h.ev,h.fr⟩
   obtain⟨st,w⟩:=n.top;unfold stI;by_cases o:it.s.kind=4
   ·rw[if_pos o];exact ON hc watch n j k o m
   rw[if_neg o];by_cases v:it.s.kind=9
   ·rw[if_pos v];obtain⟨I,e⟩:=EP watch n it.s rfl;obtain⟨B,x⟩:=q3t watch (M:=WW M) (f:=ZV (WW M)) (t:=it.s) rfl i.fin;generalize Mq watch (WW M) (ZV (WW M)) it.s=r at*
    unfold Pw;by_cases l:r.2.fin=0
    ·rw[if_pos l];refine m.on w (e l).2 j k rfl (q5z hc j k ?_ fun h=>absurd h o) B;unfold VR;rw[if_neg (by omega),if_neg (by omega),if_neg (by omega),if_neg (by omega),if_pos v];exact x7v
    ·rw[if_neg l];exact m.fin (x l).1 (x l).2
   rw[if_neg v,UU j];obtain⟨I,e⟩:=q5q hc tape watch n j k o v rfl;obtain⟨B,x⟩:=q9x (M:=WW M) (f:=ZV (WW M)) (g:=g) (it:=it) tape watch rfl i.fin;have z:=R0 (p:=p) tape watch (M:=WW M) (f:=ZV (WW M)) (g:=g) o v rfl;generalize doM p tape watch (WW M) (ZV (WW M)) g it=r at*
   unfold AP;by_cases l:r.2.fin=0
   ·rw[if_pos l];exact m.on w (e l).2.2 j k rfl (q5z hc j k (z l) fun h=>absurd h o) B
   ·rw[if_neg l];exact m.fin (x l).1 (x l).2
theorem ES(tape watch:List Int)(j:0<=fuel)(n:Nat):Qn p fuel (LS p tape watch fuel n (GP p))/\q8y p (LS p tape watch fuel n (GP p)):=by
 induction n with
 |zero=>exact⟨TE hc j,AC hc⟩
 | succ n i=>
   rw[DV];refine⟨?_,q9a hc tape watch i.1 i.2⟩;generalize LS p tape watch fuel n (GP p)=c at*
   cases c with
   |fin M=>exact trivial
   |next a M=>exact(Ft hc tape watch i.1 (fun _ h=>by cases h)).1
   |back g M=>exact(Ft hc tape watch i.1 (fun _ h=>by cases h)).1
def q1d(tape watch:List Int)(i:0<=fuel){n:Nat}{M:Mc}(h:LS p tape watch fuel n (GP p)=.fin M):InvF p M:=by
 have:=(ES hc tape watch i n).2;rw[h]at this;exact this
end
def pathL(R:Int->Int->Prop):Int->List Int->Prop
 |_,[]=>True
 |a,b::r=>R a b/\pathL R b r
def lastD(a:Int)(l:List Int):Int:=l.getLast?.getD a
def Gy(a b:Int)(l:List Int):lastD a (l++[b])=b:=by
 unfold lastD;rw[List.getLast?_concat];rfl
def Gu(a c:Int)(r:List Int):lastD a (c::r)=lastD c r:=by
 unfold lastD;rw[List.getLast?_cons];rfl
theorem Z0{R:Int->Int->Prop}{b:Int}:∀(l:List Int)(a:Int),pathL R a (l++[b])↔pathL R a l/\R (lastD a l) b
 | [],a=>by
   show(R a b/\True)↔(True/\R a b);exact And.comm
 | c::r,a=>by
   rw[List.cons_append,pathL,pathL,Z0 r c,Gu,and_assoc]
theorem J1{R:Int->Int->Prop}{m:List Int}:∀(l:List Int)(a:Int),pathL R a (l++m)->pathL R a l
 |[],_,_=>trivial
 |c::r,a,h=>⟨h.1,J1 r c h.2⟩
def Dw{R:Int->Int->Prop}{a:Int}{l:List Int}(h:pathL R a l){j:Nat}(i:j<l.length):R (lastD a (l.take j)) l[j]:=by
 rw[<-z2z (j+1) l]at h;have h:=J1 _ _ h;rw[x7r i]at h;exact((Z0 _ _).1 h).2
structure PathM(R:Int->Int->Prop)(M:Mc)(x:Int):Prop where
 one:∃f,M.stack=[f]
 path:pathL R 0 (M.trace.map Prod.fst)
 last:R (lastD 0 (M.trace.map Prod.fst)) x
structure PathF(R:Int->Int->Prop)(M:Mc):Prop where
 path:pathL R 0 (M.trace.map Prod.fst)
 done:M.fin=1->R (lastD 0 (M.trace.map Prod.fst)) (-1)
def II(R:Int->Int->Prop):Cf->Prop
 |.next a M=>PathM R M a
 |.back _ M=>PathM R M (-1)
 |.fin M=>PathF R M
theorem PathM.on{R:Int->Int->Prop}{M:Mc}{a b:Int}(h:PathM R M a)(l:M'.stack=M.stack)(i:∃v,M'.trace=M.trace++[(a,v)])(j:R a b):PathM R M' b:=by
 obtain⟨v,i⟩:=i;have e:M'.trace.map Prod.fst=M.trace.map Prod.fst++[a]:=by rw[i,x7n];rfl
 refine⟨by rw[l];exact h.one,?_,?_⟩
 .rw [e];exact(Z0 _ _).2 ⟨h.path,h.last⟩
 .rw [e,Gy];exact j
theorem PathM.fin{R:Int->Int->Prop}{M:Mc}{a:Int}(h:PathM R M a)(j:M'.trace=M.trace)(i:M'.fin≠1):PathF R M':=
 ⟨by rw[j];exact h.path,fun h=>absurd h i⟩
def q5w{w:List Int}{M:Mc}{id:Int}{v:List Int}(h:(w.any fun x=>decide (id=x))=true):(QH w M id v).trace=M.trace++[(id,v)]:=by
 unfold QH;rw[h];rfl
def x2u{p:Pg}(tape watch:List Int){M:Mc}{f:Fm}{g:Pr}{it:Item}(o:r=doM p tape watch M f g it)(t:(watch.any fun x=>decide (it.s.id=x))=true):r.2.fin=0->∃v,r.2.trace=M.trace++[(it.s.id,v)]:=by
 subst o;have key:∀(k j:Mc)(v:List Int),k.trace=M.trace->j.trace=(QH watch k it.s.id v).trace->j.fin=0->∃v,j.trace=M.trace++[(it.s.id,v)]:=fun k j v l m _=>⟨v,by rw[m,q5w t,l]⟩;have i:∀c:Int,c≠0->(endM M c).fin=0->∃v,(endM M c).trace=M.trace++[(it.s.id,v)]:=fun c hc h=>absurd h hc;unfold doM;split
 .exact key M _ [] rfl rfl
 split
 .exact key M _ [] rfl rfl
 split
 .exact key M _ [] rfl rfl
 split
 .split
  .exact i 3 (by decide)
  .exact key (setM {M with reads:=M.reads+1} (varM f it.s.name) (tape.getD M.reads.toNat 0)) _ [tape.getD M.reads.toNat 0] rfl rfl
 cases(QE M f it.s.x).2 with
 |false=>exact i 4 (by decide)
 | true=>
   rw[x7c];generalize(QE M f it.s.x).1=n;split
   .exact key M _ [n] rfl rfl
   split
   .exact key M _ [n] rfl rfl
   split
   .exact key M _ [n] rfl rfl
   split
   .exact key M _ [n] rfl rfl
   .exact key M _ [n] rfl rfl
def x0c(watch:List Int){M:Mc}{f:Fm}{t:S}(j:r=Mq watch M f t)(i:(watch.any fun x=>decide (t.id=x))=true):r.2.fin=0->∃v,r.2.trace=M.trace++[(t.id,v)]:=by
 subst j;unfold Mq;cases t.has with
 |false=>exact fun _=>⟨[],q5w i⟩
 | true=>
   rw[x7c];cases(QE M f t.x).2 with
   |false=>exact fun h=>absurd h (by show ¬(4:Int)=0;decide)
   |true=>exact fun _=>⟨_,q5w i⟩
def x6e{p:Pg}(hc:chkB p=true){k:Nat}{g:Pr}(j:p.A[k]?=some g){it:Item}(i:it∈itsOf p k g){b:Int}(h:b∈VR (sheetOf p) g it):wR p k g it.s.id b:=
 ⟨⟨it.s.id,b,1⟩,((YY hc j).2 _).2 (EG i h),rfl,rfl⟩
def q7o{p:Pg}(hc:chkB p=true){k:Nat}{g:Pr}(h:p.A[k]?=some g):wR p k g 0 (Wh p k g):=
 ⟨⟨0,q9f p k g,1⟩,((YY hc h).2 _).2 (by unfold QF q9f;exact x7v),rfl,rfl⟩
def q3n{q:Pg}{g i:Pr}{k:Nat}(hp:q.A=[g])(h:q.A[k]?=some i):k=0/\i=g:=by
 rw[hp]at h
 match k,h with
 |0,h=>exact⟨rfl,by simpa using h.symm⟩
 |k+1,h=>simp at h
def q5l{q:Pg}(n:KR q=true){k:Nat}{g:Pr}(m:q.A[k]?=some g){it:Item}(l:it∈itsOf q k g):((Xf q 0).any fun x=>decide (it.s.id=x))=true:=by
 rw[x8e];refine⟨it.s.id,?_,by simp⟩;have h:it.s∈(allR q).map RI.s:=by
  rw[CE n];exact x8h.2 ⟨g,x7t m,KM l⟩
 obtain⟨x,i,j⟩:=x7d.1 h;unfold Xf;exact x7d.2 ⟨x,x8d.2 ⟨i,rfl⟩,by rw[j]⟩
section
variable {q:Pg}(hc:chkB q=true){g:Pr}(hp:q.A=[g])(hno : ∀ u∈flL g.body,u.kind≠4)
include hc hp hno
theorem q6r(tape:List Int){c:Cf}(K:Qn q fuel c)(h:II (wR q 0 g) c):II (wR q 0 g) (goC q tape (Xf q 0) fuel c):=by
 cases c with
 |fin M=>exact h
 | back R M=>
   have h:PathM (wR q 0 g) M (-1):=h;obtain⟨f,P⟩:=h.one;have m:=K.1.ch;rw[P]at m;have y:f.call=0:=by
    generalize N:[f]=L at m;cases m with
    | one y=>
      cases N;exact y
    | push=>
      have:=x9l length N;simp at this
   show II _ (HR q R M);unfold HR;rw[if_pos (by rw[Vb (st:=[]) P];exact y)];exact⟨h.path,fun _=>h.last⟩
 | next a M=>
   obtain⟨i,y,Z,B⟩:=K;have h:PathM (wR q 0 g) M a:=h;simp only[goC];by_cases ha:a = -1
   ·rw[if_pos ha];show PathM _ M (-1);rw[<-ha];exact h
   rw[if_neg ha];by_cases O:M.steps=fuel
   ·rw[if_pos O];exact h.fin (M':=endM M 2) rfl (by show(2:Int)≠1;decide)
   rw[if_neg O];rcases B with T|⟨k,it,z,_,G,d,F⟩
   ·exact absurd T ha
   rw[G];simp only;obtain⟨H,rfl⟩:=q3n hp z;have o:Good q (WW M) M.steps:=i.same rfl (x7s _) i.fin i.r0 i.rd i.tr i.ou;have w:q.A[(ZV (WW M)).D]?=some k:=z;have E:it∈itsOf q (ZV (WW M)).D k:=d;have l:PathM (wR q 0 k) (WW M) it.s.id:=by
    rw[F];exact⟨h.one,h.path,h.last⟩
   have e:=hno it.s (KM d);have Q:=q5l (QY hc).1 z d;have v:∀b,b∈VR (sheetOf q) k it->wR q 0 k it.s.id b:=fun b U=>by
    have:=x6e hc z d U
    rwa[H]at this
   unfold stI;rw[if_neg e];by_cases n:it.s.kind=9
   ·rw[if_pos n];obtain⟨V,I⟩:=EP (Xf q 0) o it.s rfl;obtain⟨Y,x⟩:=q3t (Xf q 0) (M:=WW M) (f:=ZV (WW M)) (t:=it.s) rfl i.fin;have J:=x0c (Xf q 0) (M:=WW M) (f:=ZV (WW M)) (t:=it.s) rfl Q;generalize Mq (Xf q 0) (WW M) (ZV (WW M)) it.s=r at*
    unfold Pw;by_cases j:r.2.fin=0
    ·rw[if_pos j];refine PathM.on (M':=r.2) l (I j).2 (J j) (v _ ?_);unfold VR;rw[if_neg (by omega),if_neg (by omega),if_neg (by omega),if_neg (by omega),if_pos n];exact x7v
    ·rw[if_neg j];exact l.fin (x j).1 (x j).2
   rw[if_neg n,UU w];obtain⟨V,I⟩:=q5q hc tape (Xf q 0) o w E e n rfl;obtain⟨Y,x⟩:=q9x (p:=q) (M:=WW M) (f:=ZV (WW M)) (g:=k) (it:=it) tape (Xf q 0) rfl i.fin;have J:=x2u (p:=q) tape (Xf q 0) (M:=WW M) (f:=ZV (WW M)) (g:=k) (it:=it) rfl Q;have C:=R0 (p:=q) tape (Xf q 0) (M:=WW M) (f:=ZV (WW M)) (g:=k) e n rfl;generalize doM q tape (Xf q 0) (WW M) (ZV (WW M)) k it=r at*
   unfold AP;by_cases j:r.2.fin=0
   ·rw[if_pos j];exact PathM.on (M':=r.2) l (I j).2.2 (J j) (v _ (C j))
   ·rw[if_neg j];exact l.fin (x j).1 (x j).2
def q0a(tape:List Int)(h:0<=fuel)(n:Nat):II (wR q 0 g) (LS q tape (Xf q 0) fuel n (GP q)):=by
 induction n with
 | zero=>
   show PathM _ _ _;obtain⟨m,i,o⟩:=Gh hc;obtain⟨j,k⟩:=q3n hp i;refine⟨⟨_,rfl⟩,trivial,?_⟩;show wR q 0 g 0 (Wh q (mainN q) (prA q (mainN q)));rw[k,j];exact q7o hc (by rw[hp];rfl)
 | succ n l=>
   rw[DV];exact q6r hc hp hno tape (ES hc tape (Xf q 0) h n).1 l
def EU(tape:List Int)(i:0<=fuel){n:Nat}{M:Mc}(h:LS q tape (Xf q 0) fuel n (GP q)=.fin M):PathF (wR q 0 g) M:=by
 have:=q0a hc hp hno tape i n;rw[h]at this;exact this
end
def MW(p:Pg)(k:Fit p)(h:Int):SpecP prog 20 [.agg p.cells,.int .i64 h] (fun r=>r=.bool (Hq p h)):=by
 refine sB FN func20 rfl call20 ?_;conv=>whnf
 have i:=Uu p k;unfold Hq;cases hc:chkB p with
 | false=>
   rw[hc]at i;repeat' (first|(refine cP i ?_;conv=>whnf)|(apply bB<;>intro _<;>conv=>whnf))
   all_goals first
    |contradiction
    |exact RetK.ff rfl
 | true=>
   rw[hc]at i;have j:=(XQ hc).2.2;have hT:=Hh p (by omega);repeat' (first|((first|refine cP i ?_|refine cP hT ?_);conv=>whnf)|(apply bB<;>intro _<;>conv=>whnf))
   all_goals first
    |contradiction
    |exact RetK.bool rfl
def SS(p:Pg)(n v:Str):Int:=bif KR p then(match p.A.find? fun f=>f.name==n with|some f=>FK p f v|none=>0)else 0
def Cy(p:Pg)(n v:Str):SpecP prog 34 [.agg p.cells,.str n,.str v] (fun r=>r=.int .i64 (SS p n v)):=by
 refine sB Bn func34 rfl call34 ?_;conv=>whnf
 have i:=Vp p;have s:(p.A.map fun f=>AV.agg f.cells).length=p.A.length:=x7z _;unfold SS;cases m:KR p with
 | false=>
   rw[m]at i;repeat' (first|((first|(refine iM fun _=>?_)|refine cP i ?_);conv=>whnf)|(apply bN<;>intro _<;>conv=>whnf))
   all_goals first
    |contradiction
    |exact RetK.int rfl
 | true =>
   rw[m]at i;repeat' (first|((first|(refine iM fun _=>?_)|refine cP i ?_);conv=>whnf)|(apply bN<;>intro _<;>conv=>whnf))
   all_goals try contradiction
   refine LoopK.inv QV (fun j:Nat=>⟨[(1,.p (.str n)),(2,.p (.str v)),(3,.p (.ip p.cells)),(13,.p (.sl (p.A.map fun f=>.agg f.cells))),(14,.p (.int .i64 (p.A.map fun f=>AV.agg f.cells).length)),(15,.j j)],[]⟩) (fun j=>j<=p.A.length/\(p.A.drop j).find? (fun f=>f.name==n)=p.A.find? fun f=>f.name==n) (fun j=>p.A.length-j) 0 (Le.of_eq rfl) ⟨x7p _,rfl⟩ ?_;rintro j ⟨t,h⟩;rcases x7m j p.A.length with k|k
   .rw [QG k,z2y]at h;have o:=H7 p p.A[j] v;conv=>whnf
    repeat' (first|((first|refine x7g rfl ?_|(refine iA fun _=>?_)|refine wI ?_|refine cP o ?_);conv=>whnf)|(apply bD<;>intro _<;>first|omega|conv=>whnf)|(apply bB<;>intro _<;>conv=>whnf))
    all_goals first
     | (have l:(p.A[j].name==n)=true:=by assumption
        rw[l]at h;exact RetK.int (by rw[<-h];rfl))
     | (have l:(p.A[j].name==n)=false:=by assumption
        rw[l]at h;exact⟨j+1,⟨k,h⟩,by omega,Le.of_eq rfl⟩)
   .rw [x7e k,List.find?_nil]at h;conv=>whnf
    repeat' (apply bD<;>intro _<;>first|omega|conv=>whnf)
    all_goals first
     |contradiction
     |exact RetK.int (by rw[<-h];rfl)
instance:DecidableEq Fl:=fun a b=>decidable_of_iff (a.src=b.src/\a.dst=b.dst/\a.var=b.var) (by cases a;cases b;simp)
end Go.Ab
