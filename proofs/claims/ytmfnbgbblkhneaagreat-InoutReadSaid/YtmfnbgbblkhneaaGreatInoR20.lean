/- LAW: run goes from place to place; what a machine is on its way. -/
import Derived.Test.YtmfnbgbblkhneaaGreatInoR12
import Derived.Test.YtmfnbgbblkhneaaGreatInoR13
import Derived.Test.YtmfnbgbblkhneaaGreatInoR18
import Derived.Test.YtmfnbgbblkhneaaGreatInoR19
set_option linter.unusedSimpArgs false
set_option linter.unusedVariables false
set_option maxRecDepth 100000
set_option maxHeartbeats 16000000
open Nat (succ_pos)
namespace Go.Ab
open Go.Proofs.Tryz
open Go.Proofs
variable {H:Heap}{M':Mc}{fuel:Int}
inductive Cf
 |next (a:Int) (M:Mc)
 |back (gave:Int) (M:Mc)
 |fin (M:Mc)
def XT(M:Mc):Fm:=M.stack.getLast?.getD ⟨0,[],[],0⟩
def La(r:Int×Mc):Cf:=if r.2.fin=0 then .next r.1 r.2 else .fin r.2
def Gp(r:Int×Mc):Cf:=if r.2.fin=0 then .back r.1 r.2 else .fin r.2
def ZG(M:Mc):Mc:={M with steps:=M.steps+1}
def PR(p:Pg)(t:S):Nat:=(idxF (fun g=>g.name==t.proc) p.procs).toNat
def stI(p:Pg)(tape watch:List Int)(M:Mc)(it:Item):Cf:=
 if it.s.kind=4 then La (KS p watch M (XT M) it.s (PR p it.s) (prA p (PR p it.s)))
 else if it.s.kind=9 then Gp (Jo watch M (XT M) it.s)
 else La (doM p tape watch M (XT M) (prA p (XT M).proc) it)
def GP(p:Pg)(gave:Int)(M:Mc):Cf:=
 if(XT M).call=0 then .fin (endM (popM M M.stack.dropLast) 1)
 else match(sheetOf p).l[((XT M).call-1).toNat]?with
 |none=>.fin M
 |some it=>.next it.next (if it.s.name=[]then popM M M.stack.dropLast else setM (popM M M.stack.dropLast) (varM (XT (popM M M.stack.dropLast)) it.s.name) gave)
def goC(p:Pg)(tape watch:List Int)(fuel:Int):Cf->Cf
 | .next a M=>if a = -1 then .back 0 M else if M.steps=fuel then .fin (endM M 2)else match(sheetOf p).l[(a-1).toNat]?with
   |none=>.fin M
   |some it=>stI p tape watch (ZG M) it
 |.back g M=>GP p g M
 |.fin M=>.fin M
def HW(p:Pg)(tape watch:List Int)(fuel:Int):Nat->Cf->Cf
 |0,c=>c
 |n+1,c=>goC p tape watch fuel (HW p tape watch fuel n c)
structure FrameOk(p:Pg)(M:Mc)(f:Fm):Prop where
 pr:∃g,p.procs[f.proc]?=some g/\f.names=varsS p g
 len:f.vars.length=f.names.length
 rng:∀v∈f.vars,v<M.mem.length
inductive Chain(p:Pg):List Fm->Prop
 |one {f:Fm} (h:f.call=0):Chain p [f]
 |push {l:List Fm} {g f:Fm} {q:Pr} {it:Item} (hl:Chain p (l++[g])) (h1:1<=f.call) (hle:f.call<=100000) (hit:(sheetOf p).l[(f.call-1).toNat]?=some it) (hk:it.s.kind=4) (hp:p.procs[g.proc]?=some q) (hi:it∈itsOf p g.proc q) (hid:it.s.id=f.call):Chain p (l++[g]++[f])
structure Good(p:Pg)(M:Mc)(b:Int):Prop where
 ch:Chain p M.stack
 fr:∀f∈M.stack,FrameOk p M f
 gl:p.globals.length<=M.mem.length
 sl:M.stack.length<=101
 fin:M.fin=0
 r0:0<=M.reads
 rd:M.reads<=b
 tr:(M.trace.length:Int)<=b
 ou:(M.out.length:Int)<=b
def AtOk(p:Pg)(a:Int)(k:Nat):Prop:=a = -1\/∃g it,p.procs[k]?=some g/\1<=a/\(sheetOf p).l[(a-1).toNat]?=some it/\it∈itsOf p k g/\it.s.id=a
def MF(p:Pg)(fuel:Int):Cf->Prop
 |.next a M=>Good p M M.steps/\0<=M.steps/\M.steps<=fuel/\AtOk p a (XT M).proc
 |.back _ M=>Good p M M.steps/\0<=M.steps/\M.steps<=fuel
 |.fin _=>True
def cfμ(fuel:Int):Cf->Nat
 |.next _ M=>6*(fuel-M.steps).toNat+2*M.stack.length+2
 |.back _ M=>6*(fuel-M.steps).toNat+2*M.stack.length+1
 |.fin _=>0
theorem Chain.ne{p:Pg}{l:List Fm}(h:Chain p l):∃st f,l=st++[f]:=by
 cases h with
 |one h=>exact⟨[],_,rfl⟩
 |push=>exact⟨_,_,rfl⟩
theorem Ku{M:Mc}{st:List Fm}{f:Fm}(h:M.stack=st++[f]):XT M=f:=by
 unfold XT;rw[h,List.getLast?_concat];rfl
theorem Good.top{p:Pg}{M:Mc}{b:Int}(h:Good p M b):∃st,M.stack=st++[XT M]:=by
 obtain⟨st,f,e⟩:=h.ch.ne;exact⟨st,by rw[Ku e];exact e⟩
theorem Fg{M:Mc}(h:M'.stack=M.stack):XT M'=XT M:=by unfold XT;rw[h]
theorem Tg{p:Pg}(hc:XX p=true){k:Nat}{g:Pr}(hk:p.procs[k]?=some g):(varsS p g).length<=100:=by
 have h1:=(XS hc).1;have h2:=(NF (QD hc).1).pr g (q4n hk);unfold varsS Wd;simp only[q3m,q3f];omega
theorem Good.okM{p:Pg}{M:Mc}{b:Int}(hc:XX p=true)(h:Good p M b){bs:List Nat}(hb:bs.length=M.mem.length):OkM p bs M:=
 ⟨hb,fun f hf=>⟨(h.fr f hf).len,(h.fr f hf).rng⟩,h.gl,q5p h.sl (by decide),fun f hf=>by
   obtain⟨g,h1,h2⟩:=(h.fr f hf).pr;have:=Tg hc h1;rw[h2];omega⟩
theorem Good.same{p:Pg}{M:Mc}{b b':Int}(h:Good p M b)(hs:M'.stack=M.stack)(hm:M.mem.length<=M'.mem.length)(hf:M'.fin=0)(h0:0<=M'.reads)(h1:M'.reads<=b')(h2:(M'.trace.length:Int)<=b')(h3:(M'.out.length:Int)<=b'):Good p M' b':=
 ⟨by rw[hs];exact h.ch,fun f hq=>by
   rw[hs]at hq;exact⟨(h.fr f hq).pr,(h.fr f hq).len,fun v hv=>q6a ((h.fr f hq).rng v hv) hm⟩,q5p h.gl hm,by rw[hs];exact h.sl,hf,h0,h1,h2,h3⟩
theorem ZT(w:List Int)(M:Mc)(id:Int)(v:List Int):(QJ w M id v).stack=M.stack/\(QJ w M id v).mem=M.mem/\(QJ w M id v).fin=M.fin/\(QJ w M id v).steps=M.steps/\(QJ w M id v).reads=M.reads/\(QJ w M id v).out=M.out/\(QJ w M id v).trace.length<=M.trace.length+1:=by
 refine⟨J8,Ux,?_,?_,?_,Ak,ST⟩<;>(unfold QJ;cases w.any fun x=>decide (id=x)<;>rfl)
theorem Good.event{p:Pg}{M:Mc}{b:Int}(h:Good p M b)(w:List Int)(id:Int)(v:List Int):Good p (QJ w M id v) (b+1):=by
 obtain⟨e1,e2,e3,e4,e5,e6,e7⟩:=ZT w M id v;have:=h.tr;have:=h.ou;have:=h.rd;exact h.same e1 (by rw[e2];exact q4h _) (e3.trans h.fin) (by rw[e5];exact h.r0) (by rw[e5];omega) (by omega) (by rw[e6];omega)
section
variable {p:Pg}
theorem AtOk.of(hc:XX p=true){k:Nat}{g:Pr}(hk:p.procs[k]?=some g){a:Int}(h:okI (QL p.procs k) (QL p.procs k+cntL g.body) a):AtOk p a k:=by
 rcases h with h|⟨h1,h2⟩
 ·exact .inl h
 ·obtain⟨it,h3,h4⟩:=NA hk (k:=(a-1).toNat) (by omega) (by omega);have h5:=Nj hc hk (by omega) (by omega) h3;exact .inr ⟨g,it,hk,by omega,h3,h4,by omega⟩
theorem Pa(hc:XX p=true){k:Nat}{g:Pr}(hk:p.procs[k]?=some g){t:S}(ht:t∈flL g.body){n:Str}(hn:n∈XM t):n∈varsS p g:=by
 have h1:=YB (QD hc).2.1 (q4n hk) ht;unfold YG at h1;rw[q4k]at h1;have h2:=q5k.1 h1.1 n hn;have h3:X9 p g n≠0:=by simpa using h2
 unfold varsS;rcases Pc h3 with h|h
 ·exact q4i _ h
 ·exact q5y _ h
theorem Do{l:List Str}{n:Str}(h:n∈l):0<=idxF (fun y=>n==y) l:=by
 unfold idxF;have:l.any (fun y=>n==y)=true:=q5l.2 ⟨n,h,by simp⟩;rw[this,q4v];omega
theorem As{t:S}(h1:t.kind≠10)(h2:t.name≠[]):t.name∈XM t:=by
 unfold XM HI;have:(decide (t.kind≠10) && !(t.name==[]))=true:=by simp[h1,h2]
 rw[this];simp
theorem SF{t:S}{a:Arg}(ha:a∈t.args)(hr:a.ref=true):a.name∈XM t:=by
 unfold XM;refine q5y _ (q5g.2 ⟨a,ha,?_⟩);unfold YO;rw[hr];simp
theorem A3{f:Fm}(hl:f.vars.length=f.names.length){n:Str}(h:n∈f.names):varM f n∈f.vars:=by
 have h1:=Zi (Do h);unfold varM;rw[q3p,q3b (by omega)];exact q4u _
end
theorem Zv{f:Fm}:∀(l:List Arg)(ps:List Nat)(M:Mc),(∀a∈l,a.ref=true->varM f a.name<M.mem.length)->(∀v∈ps,v<M.mem.length)->
  (argsM f l ps M).2.1.stack=M.stack/\M.mem.length<=(argsM f l ps M).2.1.mem.length/\(argsM f l ps M).2.1.steps=M.steps/\(argsM f l ps M).2.1.reads=M.reads/\(argsM f l ps M).2.1.out=M.out/\(argsM f l ps M).2.1.trace=M.trace/\
  ((argsM f l ps M).2.2=true->(argsM f l ps M).2.1.fin=M.fin/\(argsM f l ps M).1.length=ps.length+l.length/\∀v∈(argsM f l ps M).1,v<(argsM f l ps M).2.1.mem.length)/\((argsM f l ps M).2.2=false->(argsM f l ps M).2.1.fin=4)
 |[],ps,M,_,hp=>⟨rfl,q4h _,rfl,rfl,rfl,rfl,fun _=>⟨rfl,rfl,hp⟩,(fun h=>(by cases h))⟩
 | a::r,ps,M,ha,hp=>by
   rw[argsM];cases hr:a.ref with
   | true=>
     rw[q4v];obtain⟨h1,h2,h3,h4,h5,h6,h7,h8⟩:=Zv r (ps++[varM f a.name]) M (fun b hb=>ha b (q3n _ hb)) fun v hv=>by
      rcases q3a.1 hv with hv|hv
      ·exact hp v hv
      ·rw[q3r.1 hv];exact ha a q3d hr
     refine⟨h1,h2,h3,h4,h5,h6,fun h=>?_,h8⟩;obtain⟨g1,g2,g3⟩:=h7 h;exact⟨g1,by rw[g2,q3m,q4m,q4m,q6m];omega,g3⟩
   | false=>
     rw[q4f];cases hw:(QA M f a.x).2 with
     |false=>exact⟨rfl,q4h _,rfl,rfl,rfl,rfl,(fun h=>(by cases h)),fun _=>rfl⟩
     | true=>
       rw[q4v];have hml:({M with mem:=M.mem++[(QA M f a.x).1]}:Mc).mem.length=M.mem.length+1:=by simp
       obtain⟨h1,h2,h3,h4,h5,h6,h7,h8⟩:=Zv (f:=f) r (ps++[M.mem.length]) {M with mem:=M.mem++[(QA M f a.x).1]} (fun b hb h=>by
         have:=ha b (q3n _ hb) h;rw[hml];omega) fun v hv=>by
        rw[hml];rcases q3a.1 hv with hv|hv
        ·have:=hp v hv;omega
        ·rw[q3r.1 hv];omega
       rw[hml]at h2;refine⟨h1,by omega,h3,h4,h5,h6,fun h=>?_,h8⟩;obtain⟨g1,g2,g3⟩:=h7 h;exact⟨g1,by rw[g2,q3m,q4m,q4m,q6m];omega,g3⟩
section
variable {p:Pg}(hc:XX p=true)
include hc
theorem V5{M:Mc}{b:Int}(hG:Good p M b){g:Pr}(hk:p.procs[(XT M).proc]?=some g){t:S}(ht:t∈flL g.body){n:Str}(hn:n∈XM t):0<=idxF (fun y=>n==y) (XT M).names/\varM (XT M) n<M.mem.length:=by
 obtain⟨st,hs⟩:=hG.top;have hF:=hG.fr (XT M) (by rw[hs];exact q5y _ (q3r.2 rfl));obtain⟨g',h1,h2⟩:=hF.pr;rw[hk]at h1;cases h1;have h3:=Pa hc hk ht hn;rw[<-h2]at h3;exact⟨Do h3,hF.rng _ (A3 hF.len h3)⟩
theorem Rp{k:Nat}{g:Pr}(hk:p.procs[k]?=some g){t:S}(ht:t∈flL g.body)(h4:t.kind=4):idxF (fun g=>g.name==t.proc) p.procs=(PR p t:Nat)/\p.procs[PR p t]?=some (prA p (PR p t))/\(prA p (PR p t)).params.length=t.args.length:=by
 obtain⟨k',h1,h2,_,_,h5⟩:=PS hc (q5g.2 ⟨g,q4n hk,ht⟩) h4;have e:PR p t=k':=by
  unfold PR;show(caI p t).toNat=k';rw[h2];rfl
 refine⟨by rw[e];exact h2,by rw[e];exact N9 h1,?_⟩;rw[e];have:=q5i List.length h5;simpa using this
theorem TQ{M:Mc}{b:Int}(hfr:∀f∈M.stack,FrameOk p M f)(hgl:p.globals.length<=M.mem.length)(hfin:M.fin=0)(hr0:0<=M.reads)(hrd:M.reads<=b)(htr:(M.trace.length:Int)<=b)(hou:(M.out.length:Int)<=b)(hsl:M.stack.length<=100){k:Nat}{g:Pr}(hk:p.procs[k]?=some g){ps:List Nat}(hpl:ps.length=g.params.length)(hpr:∀v∈ps,v<M.mem.length){call:Int}(hch:Chain p (M.stack++[⟨k,varsS p g,List.range p.globals.length++ps++List.range' M.mem.length g.vars.length,call⟩])):Good p (KV p k g ps call M) b/\AtOk p (Vh p k g) (XT (KV p k g ps call M)).proc/\(KV p k g ps call M).stack.length=M.stack.length+1:=by
 have hml:(KV p k g ps call M).mem.length=M.mem.length+g.vars.length:=by unfold KV;simp
 refine⟨⟨hch,fun f hf=>?_,by rw[hml];have:=hgl;omega,by unfold KV;simp;omega,hfin,hr0,hrd,htr,hou⟩,?_,by unfold KV;simp⟩
 ·rcases q3a.1 hf with hf|hf
  ·exact⟨(hfr f hf).pr,(hfr f hf).len,fun v hv=>by have:=(hfr f hf).rng v hv;rw[hml];omega⟩
  ·rw[q3r.1 hf];refine⟨⟨g,hk,rfl⟩,?_,fun v hv=>?_⟩
   ·show(List.range p.globals.length++ps++List.range' M.mem.length g.vars.length).length=(varsS p g).length;unfold varsS Wd;simp only[q3m,q7q,List.length_range',q3f];omega
   ·have hv:v∈List.range p.globals.length++ps++List.range' M.mem.length g.vars.length:=hv;rw[hml];rcases q3a.1 hv with hv|hv
    ·rcases q3a.1 hv with hv|hv
     ·have:=q6r.1 hv;have:=hgl;omega
     ·have:=hpr v hv;omega
    ·have:=List.mem_range'_1.1 hv;omega
 ·rw[Ku (M:=KV p k g ps call M) (st:=M.stack) rfl];refine AtOk.of hc hk ?_;unfold Vh;split
  ·exact .inr ⟨by omega,by omega⟩
  ·exact .inl rfl
theorem AA(watch:List Int){M:Mc}{b:Int}(hG:Good p M b){g:Pr}(hk:p.procs[(XT M).proc]?=some g){it:Item}(hi:it∈itsOf p (XT M).proc g)(h4:it.s.kind=4){r:Int×Mc}(hr:r=KS p watch M (XT M) it.s (PR p it.s) (prA p (PR p it.s))):
  r.2.steps=M.steps/\(r.2.fin=0->Good p r.2 (b+1)/\AtOk p r.1 (XT r.2).proc/\r.2.stack.length=M.stack.length+1):=by
 subst hr;have ht:=KQ hi;obtain⟨_,k1,k2⟩:=Rp hc hk ht h4;obtain⟨st,hst⟩:=hG.top;obtain⟨a1,a2,a3,a4,a5,a6,a7,a8⟩:=Zv (f:=XT M) it.s.args [] M (fun a ha hr=>(V5 hc hG hk ht (SF ha hr)).2) (fun v hv=>by cases hv);unfold KS;generalize argsM (XT M) it.s.args [] M=ar at*
 obtain⟨ps,M1,ok⟩:=ar;simp only at a1 a2 a3 a4 a5 a6 a7 a8⊢;cases ok with
 | false=>
   refine⟨a3,fun h=>?_⟩;have h:M1.fin=0:=h;have:=a8 rfl;omega
 | true=>
   obtain⟨b1,b2,b3⟩:=a7 rfl;rw[q4v];split
   ·refine⟨a3,fun h=>?_⟩;have h:(5:Int)=0:=h;cases h
   ·rename_i hsl;have hG1:Good p M1 b:=hG.same a1 a2 (b1.trans hG.fin) (by rw[a4];exact hG.r0) (by rw[a4];exact hG.rd) (by rw[a6];exact hG.tr) (by rw[a5];exact hG.ou);have hG2:=hG1.event watch it.s.id [];obtain⟨e1,e2,e3,e4,e5,e6,e7⟩:=ZT watch M1 it.s.id [];have hid:=VK (QD hc).1 hk ht;have hcn:=(XS hc).2.2;have hle:=((QU p).2.2.2.2 _ _ hk).2.2.1;have hop:=TQ hc hG2.fr hG2.gl hG2.fin hG2.r0 hG2.rd hG2.tr hG2.ou (by rw[e1];omega) k1 (ps:=ps) (by rw[b2,k2];simp) (fun v hv=>by rw[e2];exact b3 v hv) (call:=it.s.id) (by
     rw[e1,a1,hst];exact .push (it:=it) (hst▸hG.ch) (by show 1<=it.s.id;omega) (by show it.s.id<=100000;omega) (IZ hc hk hi) h4 hk hi rfl)
    refine⟨?_,fun _=>⟨hop.1,hop.2.1,?_⟩⟩
    ·show(QJ watch M1 it.s.id []).steps=M.steps;rw[e4,a3]
    ·rw[<-a1,<-e1];exact hop.2.2
omit hc in
theorem TG(watch:List Int){M:Mc}{b:Int}(hG:Good p M b)(t:S){r:Int×Mc}(hr:r=Jo watch M (XT M) t):r.2.steps=M.steps/\(r.2.fin=0->Good p r.2 (b+1)/\r.2.stack=M.stack):=by
 subst hr;have he:=fun v=>ZT watch M t.id v;unfold Jo;cases t.has with
 |false=>exact⟨(he []).2.2.2.1,fun _=>⟨hG.event watch t.id [],(he []).1⟩⟩
 | true=>
   rw[q4v];cases hw:(QA M (XT M) t.x).2 with
   | false=>
     refine⟨rfl,fun h=>?_⟩;have h:(4:Int)=0:=h;cases h
   |true=>exact⟨(he _).2.2.2.1,fun _=>⟨hG.event watch t.id _,(he _).1⟩⟩
omit hc in
theorem RZ(tape watch:List Int){M:Mc}{f:Fm}{g:Pr}{it:Item}(h4:it.s.kind≠4)(h9:it.s.kind≠9){r:Int×Mc}(hr:r=doM p tape watch M f g it)(h0:r.2.fin=0):r.1∈UJ (sheetOf p) g it:=by
 subst hr;unfold doM at h0⊢;unfold UJ;by_cases h7:it.s.kind=7
 ·simp[h7]
 by_cases h8:it.s.kind=8
 ·simp[h8]
 by_cases h10:it.s.kind=10
 ·simp[h10]
 simp only[if_neg h7,if_neg h8,if_neg h10,if_neg h9]at h0⊢;by_cases h2:it.s.kind=2
 ·have h5:¬it.s.kind=5:=by omega
  have h6:¬it.s.kind=6:=by omega
  simp only[if_pos h2,if_neg h5,if_neg h6]at h0⊢;split at h0
  ·have h0:(3:Int)=0:=h0;cases h0
  ·rename_i h;rw[if_neg h];exact q3d
 simp only[if_neg h2]at h0⊢;cases hw:(QA M f it.s.x).2 with
 | false=>
   rw[hw]at h0;have h0:(4:Int)=0:=h0;cases h0
 | true=>
   clear h0;simp only[q4v];by_cases h5:it.s.kind=5
   ·have h1:¬it.s.kind=1:=by omega
    have h3:¬it.s.kind=3:=by omega
    simp only[if_neg h1,if_neg h3,if_pos h5];split<;>simp
   by_cases h6:it.s.kind=6
   ·have h1:¬it.s.kind=1:=by omega
    have h3:¬it.s.kind=3:=by omega
    simp only[if_neg h1,if_neg h3,if_neg h5,if_pos h6];split<;>simp
   simp only[if_neg h5,if_neg h6];split
   ·exact q3d
   split
   ·exact q3d
   ·exact q3d
theorem E0(tape watch:List Int){M:Mc}{b:Int}(hG:Good p M b){g:Pr}(hk:p.procs[(XT M).proc]?=some g){it:Item}(hi:it∈itsOf p (XT M).proc g)(h4:it.s.kind≠4)(h9:it.s.kind≠9){r:Int×Mc}(hr:r=doM p tape watch M (XT M) g it):
  r.2.steps=M.steps/\(r.2.fin=0->Good p r.2 (b+1)/\AtOk p r.1 (XT M).proc/\r.2.stack=M.stack):=by
 have hgo:=RZ (p:=p) tape watch (M:=M) (f:=XT M) (g:=g) h4 h9 hr;have hat:r.2.fin=0->AtOk p r.1 (XT M).proc:=fun h0=>AtOk.of hc hk ((BU hc hk).2.1 _ (AQ hi (hgo h0))).2
 suffices h:r.2.steps=M.steps/\(r.2.fin=0->Good p r.2 (b+1)/\r.2.stack=M.stack)from⟨h.1,fun h0=>⟨(h.2 h0).1,hat h0,(h.2 h0).2⟩⟩
 clear hgo hat;subst hr;have he:=fun v=>ZT watch M it.s.id v;have key:∀(a:Int) v,(QJ watch M it.s.id v).steps=M.steps/\((QJ watch M it.s.id v).fin=0->Good p (QJ watch M it.s.id v) (b+1)/\(QJ watch M it.s.id v).stack=M.stack):=fun _ v=>⟨(he v).2.2.2.1,fun _=>⟨hG.event watch it.s.id v,(he v).1⟩⟩;unfold doM;by_cases h7:it.s.kind=7
 ·rw[if_pos h7];exact key 0 []
 by_cases h8:it.s.kind=8
 ·rw[if_neg h7,if_pos h8];exact key 0 []
 by_cases h10:it.s.kind=10
 ·rw[if_neg h7,if_neg h8,if_pos h10];exact key 0 []
 rw[if_neg h7,if_neg h8,if_neg h10];by_cases h2:it.s.kind=2
 ·rw[if_pos h2];split
  ·refine⟨rfl,fun h=>?_⟩;have h:(3:Int)=0:=h;cases h
  ·generalize varM (XT M) it.s.name=v;generalize tape.getD M.reads.toNat 0=n;obtain⟨e1,e2,e3,e4,e5,e6,e7⟩:=ZT watch (setM {M with reads:=M.reads+1} v n) it.s.id [n];refine⟨e4,fun _=>⟨hG.same e1 (by rw[e2];unfold setM;simp) (e3.trans hG.fin) ?_ ?_ ?_ ?_,e1⟩⟩
   ·rw[e5];have:=hG.r0;show 0<=M.reads+1;omega
   ·rw[e5];have:=hG.rd;show M.reads+1<=b+1;omega
   ·have:=hG.tr;have e7:(QJ watch (setM {M with reads:=M.reads+1} v n) it.s.id [n]).trace.length<=M.trace.length+1:=e7;have e9:((QJ watch (setM {M with reads:=M.reads+1} v n) it.s.id [n]).trace.length:Int)<=b+1:=by omega
    exact e9
   ·rw[e6];have:=hG.ou;show(M.out.length:Int)<=b+1;omega
 rw[if_neg h2];cases hw:(QA M (XT M) it.s.x).2 with
 | false=>
   refine⟨rfl,fun h=>?_⟩;have h:(4:Int)=0:=h;cases h
 | true=>
   rw[q4v];generalize(QA M (XT M) it.s.x).1=n;by_cases h1:it.s.kind=1
   ·rw[if_pos h1];obtain⟨e1,e2,e3,e4,e5,e6,e7⟩:=he [n];have hG1:=hG.event watch it.s.id [n];exact⟨e4,fun _=>⟨hG1.same rfl (by unfold setM;simp) hG1.fin hG1.r0 hG1.rd hG1.tr hG1.ou,e1⟩⟩
   rw[if_neg h1];by_cases h3:it.s.kind=3
   ·rw[if_pos h3];obtain⟨e1,e2,e3,e4,e5,e6,e7⟩:=he [n];have hG1:=hG.event watch it.s.id [n];refine⟨e4,fun _=>⟨hG1.same rfl (q4h _) hG1.fin hG1.r0 hG1.rd hG1.tr ?_,e1⟩⟩;show(((QJ watch M it.s.id [n]).out++[n]).length:Int)<=b+1;rw[e6,q3m];have:=hG.ou;simp only[q4m,q6m];omega
   rw[if_neg h3];by_cases h5:it.s.kind=5
   ·rw[if_pos h5];exact key 0 [n]
   by_cases h6:it.s.kind=6
   ·rw[if_neg h5,if_pos h6];exact key 0 [n]
   rw[if_neg h5,if_neg h6];exact key 0 [n]
theorem P5{M:Mc}{b:Int}(hG:Good p M b){st:List Fm}(hs:M.stack=st++[XT M])(gave:Int):(XT M).call<=100000/\
  ((∃M',GP p gave M=.fin M'/\CloseP p M st (XT M) gave (-1) M'/\M'.fin=1)\/
  ∃a M',GP p gave M=.next a M'/\CloseP p M st (XT M) gave a M'/\Good p M' b/\AtOk p a (XT M').proc/\M'.stack.length+1=M.stack.length/\M'.steps=M.steps):=by
 have hst:M.stack.dropLast=st:=by rw[hs,List.dropLast_concat]
 have hch:=hG.ch;rw[hs]at hch;generalize hF:XT M=F at*
 unfold GP;rw[hst,hF];generalize hL:st++[F]=L at hch;cases hch with
 | one h=>
   rename_i f;obtain⟨rfl,h2⟩:=q7r (show st++[F]=[]++[f]from hL) rfl;have h2:F=f:=by simpa using h2
   subst h2;rw[if_pos h];exact⟨by omega,.inl ⟨_,rfl,.done h,rfl⟩⟩
 | push hl h1 hle hit hk hp hi hid=>
   rename_i l g f q it;obtain⟨rfl,h2⟩:=q7r hL rfl;have h2:F=f:=by simpa using h2
   subst h2;have hgm:g∈M.stack:=by rw[hs];simp
   have hgF:=hG.fr g hgm;refine⟨hle,.inr ?_⟩;rw[if_neg (by omega),hit];have htop:XT (popM M (l++[g]))=g:=Ku (st:=l) rfl;have hnx:AtOk p it.next g.proc:=AtOk.of hc hp (LD hi).1;have hG1:Good p (popM M (l++[g])) b:=⟨hl,fun f hf=>⟨(hG.fr f (by rw[hs];exact q4i _ hf)).pr,(hG.fr f (by rw[hs];exact q4i _ hf)).len,(hG.fr f (by rw[hs];exact q4i _ hf)).rng⟩,hG.gl,by
    have h:=hG.sl;rw[hs,q3m]at h;show(l++[g]).length<=101;omega,hG.fin,hG.r0,hG.rd,hG.tr,hG.ou⟩
   have hlen:(popM M (l++[g])).stack.length+1=M.stack.length:=by
    rw[hs,q3m];rfl
   by_cases hn:it.s.name=[]
   ·refine⟨it.next,_,rfl,?_,?_⟩
    ·rw[if_pos hn];exact .drop h1 hit hn
    ·rw[if_pos hn];exact⟨hG1,by rw[htop];exact hnx,hlen,rfl⟩
   ·obtain⟨q',u1,u2⟩:=hgF.pr;rw[hp]at u1;cases u1;have hin:=Pa hc hp (KQ hi) (As (by omega) hn);rw[<-u2]at hin;refine⟨it.next,_,rfl,?_,?_⟩
    ·rw[if_neg hn,htop];exact .keep h1 hit hn rfl (Do hin)
    ·rw[if_neg hn];refine⟨hG1.same rfl (by unfold setM;simp) hG1.fin hG1.r0 hG1.rd hG1.tr hG1.ou,?_,hlen,rfl⟩;have e:XT (setM (popM M (l++[g])) (varM (XT (popM M (l++[g]))) it.s.name) gave)=g:=(Fg (M:=popM M (l++[g])) rfl).trans htop;rw[e];exact hnx
end
def mainN(p:Pg):Nat:=(idxF (fun f=>f.name==mainS) p.procs).toNat
def M00(p:Pg):Mc:=⟨[],List.replicate p.globals.length 0,0,0,0,[],[]⟩
def JW(p:Pg):Cf:=.next (Vh p (mainN p) (prA p (mainN p))) (KV p (mainN p) (prA p (mainN p)) [] 0 (M00 p))
theorem Ud{p:Pg}(hc:XX p=true):idxF (fun f=>f.name==mainS) p.procs=(mainN p:Nat)/\p.procs[mainN p]?=some (prA p (mainN p))/\(prA p (mainN p)).params=[]:=by
 obtain⟨k,f,h1,_,h3,h4⟩:=N0 hc;obtain⟨k',hk',h5,_,_,h6⟩:=Jj (p:=p) (n:=mainS) (q3s.2 ⟨f,q4n h1,h3⟩);obtain⟨rfl,h7⟩:=Xm hc h1 (q3b hk') (h3.trans h6.symm);have e:mainN p=k:=by unfold mainN;rw[h5];rfl
 rw[e,UT h1];exact⟨h5,h1,h4⟩
theorem Nf{p:Pg}(hc:XX p=true)(h0:0<=fuel):MF p fuel (JW p):=by
 obtain⟨h1,h2,h3⟩:=Ud hc;have h:=TQ hc (M:=M00 p) (b:=0) (fun f hf=>by cases hf) (by simp[M00]) rfl (q8k _) (q8k _) (q8k _) (q8k _) (q3o _) h2 (ps:=[]) (by rw[h3];rfl) (fun v hv=>by cases hv) (call:=0) (.one rfl);exact⟨h.1,q8k _,h0,h.2.1⟩
theorem UK(p:Pg)(tape watch:List Int)(fuel:Int)(n:Nat)(c:Cf):HW p tape watch fuel (n+1) c=goC p tape watch fuel (HW p tape watch fuel n c):=rfl
theorem Cq(p:Pg)(tape watch:List Int)(fuel:Int)(c:Cf){n m:Nat}{M:Mc}(h:HW p tape watch fuel n c=.fin M)(h':HW p tape watch fuel m c=.fin M'):M=M':=by
 have key:∀k,HW p tape watch fuel (n+k) c=.fin M:=fun k=>by
  induction k with
  |zero=>exact h
  |succ k ih=>rw[<-q5e,UK,ih];rfl
 have key':∀k,HW p tape watch fuel (m+k) c=.fin M':=fun k=>by
  induction k with
  |zero=>exact h'
  |succ k ih=>rw[<-q5e,UK,ih];rfl
 have h1:=key m;have h2:=key' n;rw[q7o m n,h1]at h2;cases h2;rfl
def Xi:Info:={keep:=fun i=>QP [(27,[8,9]),(26,[2,8,10,11,12,13,126]),(25,[2,8,10,11,12,13]),(24,[2,8,10,11,12,13,117]),(20,[2,8,10,11,12,13]),(23,[2,8,10,11,12,13,111]),(22,[2,8,10,11,12,13]),(18,[2,8,10,11,12,13]),(21,[2,8,10,11,12,13,100]),(19,[2,8,10,11,12,13,90,94]),(17,[2,8,10,11,12,13,90]),(16,[2,8,10,11,12,13]),(15,[2,8,10,11,12,13]),(14,[2,8,10,11,12,13]),(13,[2,8,10,11,12,13,63]),(12,[2,8,10,11,12,13]),(11,[2,8,10,11,12,13,56]),(10,[2,8,10,11,12,13]),(9,[2,8,10,11,12]),(8,[2,8,10,11]),(7,[2,8,10,34,35]),(6,[2,8,10,34,35]),(5,[2,8,10,34,35,36]),(4,[2,8,10,34,35]),(3,[2,4,8,10]),(2,[8,9]),(1,[1,2,3,4,8,24]),(0,[1,2,3,4,8])] i,sched:=I_run_Of.sched,frz:=I_run_Of.frz}
def A9:Code->Code
 | .seq a b=>match a with
   |.scope c=>c
   |_=>A9 b
 |.scope c=>c
 |c=>c
noncomputable def EE:Code:=A9 (Tryz.f37.body.getD .skip)
noncomputable def TK(l:Nat):Code:=(findLabel EE l).getD .skip
theorem AW{P:Program}{N:Nat}{K:Exit->St->Prop}{s:St}(h:ScopeK P tab N Xi EE K s):ScopeK P tab N Xi EE K s:=h
def rO:Chunk:=.obj 72 [.p (.int .i64 0),.p (.int .i64 0),.p (.int .i64 0),.p .nils,.p .nils]
def rM(p:Pg)(tape watch:List Int)(v:Nat)(M:Mc):Chunk:=.obj 129 [.p (.ip (sheetOf p).cells),.hd 2 0 p.globals.length,.p (XU tape),.p (XU watch),.hd 3 0 M.stack.length,.hd 4 0 v,.p (.int .i64 M.fin),.p (.int .i64 M.steps),.p (.int .i64 M.reads),.hd 5 0 M.out.length,.hd 6 0 M.trace.length]
def rH(p:Pg)(tape watch:List Int)(bs:List Nat)(vs:List Int)(M:Mc)(it:Item):Heap:=[(0,rM p tape watch vs.length M),(2,.own 130 1 (UV bs (List.range p.globals.length))),(3,.own 174 1 (M.stack.map (fmA bs))),(4,.own 2 1 (vs.map (.int .i64))),
 (5,.own 2 1 (M.out.map (.int .i64))),(6,.own 78 2 (M.trace.map evA)),(2500,.ext (.cells 2 (ZH bs M.mem))),(1,rO),(7,.obj 106 (it.cells.map .p))]
theorem SO(l r:List (Nat×LV))(i:Nat):getS l i=getS (l++r) i\/getS l i=.p .any:=by
 induction l with
 |nil=>exact .inr rfl
 | cons x l ih=>
   obtain⟨j,v⟩:=x;show(bif j==i then v else getS l i)=(bif j==i then v else getS (l++r) i)\/(bif j==i then v else getS l i)=.p .any;cases j==i
   ·exact ih
   ·exact .inl rfl
theorem UI{N:Nat}(l r:List (Nat×LV)):Le N ⟨l++r,H⟩ ⟨l,H⟩:=Gy (SO l r) (q7a _)
def Lf(p:Pg)(tape watch:List Int)(fuel gave at_:Int)(bs:List Nat)(vs:List Int)(M:Mc)(it:Item):St:=⟨[(2,.p (.int .i64 fuel)),(8,.ptr 1 0),(10,.ptr 0 0),(11,.ptr 7 0),(12,.p (.int .i64 gave)),(13,.p (.int .i64 at_))],rH p tape watch bs vs M it⟩
structure RIx where
 c:Cf
 gv:Int
 at_:Int
 bs:List Nat
 vs:List Int
 it:Item
def RIx.st(p:Pg)(tape watch:List Int)(fuel:Int)(i:RIx):St:=match i.c with
 |.next a M=>Lf p tape watch fuel i.gv a i.bs i.vs M i.it
 |.back g M=>Lf p tape watch fuel g i.at_ i.bs i.vs M i.it
 |.fin M=>Lf p tape watch fuel i.gv i.at_ i.bs i.vs M i.it
def RIx.lab(i:RIx):Nat:=match i.c with
 |.next _ _=>1
 |.back _ _=>0
 |.fin _=>2
def RIx.bok(i:RIx):Prop:=match i.c with
 |.next _ M=>i.bs.length=M.mem.length
 |.back _ M=>i.bs.length=M.mem.length
 |.fin _=>True
def Kgo(p:Pg)(tape watch:List Int)(fuel:Int)(c:Cf)(K:Exit->St->Prop):Prop:=∀(i:RIx)(s':St),i.c=goC p tape watch fuel c->i.bok->Le Tryz.f37.ntmps s' (i.st p tape watch fuel)->K (.goto i.lab) s'
theorem Fl{p:Pg}(hc:XX p=true){k:Nat}{g:Pr}(hk:p.procs[k]?=some g):SpecP prog 117 [.agg p.cells,.str g.name] (fun r=>r=eStrs (varsS p g)):=by
 have h1:=(XS hc).1;have h2:=(NF (QD hc).1).pr g (q4n hk);exact Lz p (QD hc).1 k g hk (fun j g' hj he=>(Xm hc hj hk he).1) (by omega) (by omega) (by omega)
theorem Iy{p:Pg}{tape watch:List Int}{M:Mc}{f:Fm}{g:Pr}{it:Item}:(doM p tape watch M f g it).2.mem.length=M.mem.length:=by
 have he:∀(M:Mc) v,(QJ watch M it.s.id v).mem=M.mem:=fun M v=>Ux;unfold doM;split
 ·show(QJ watch M it.s.id []).mem.length=_;rw[he]
 split
 ·show(QJ watch M it.s.id []).mem.length=_;rw[he]
 split
 ·show(QJ watch M it.s.id []).mem.length=_;rw[he]
 split
 ·split
  ·rfl
  ·show(QJ watch _ it.s.id _).mem.length=_;rw[he];simp[setM]
 cases(QA M f it.s.x).2 with
 |false=>rfl
 | true=>
   rw[q4v];split
   ·show((QJ watch M it.s.id _).mem.set _ _).length=_;rw[q5s,he]
   split
   ·show(QJ watch M it.s.id _).mem.length=_;rw[he]
   split
   ·show(QJ watch M it.s.id _).mem.length=_;rw[he]
   split
   ·show(QJ watch M it.s.id _).mem.length=_;rw[he]
   ·show(QJ watch M it.s.id _).mem.length=_;rw[he]
theorem F7(p:Pg)(hc:XX p=true)(tape watch:List Int)(htp:tape.length<=10000000)(fuel:Int)(hfu:fuel<=1000000)(gv:Int)(bs:List Nat)(vs:List Int)(it0:Item)(a:Int)(M:Mc)(hG:MF p fuel (.next a M))(hb:bs.length=M.mem.length)(K:Exit->St->Prop)(hK:Kgo p tape watch fuel (.next a M) K):
  W prog tab Tryz.f37.ntmps Xi (TK 1) K (Lf p tape watch fuel gv a bs vs M it0):=by
 obtain⟨hGd,hs0,hs1,hat⟩:=hG;have hOk:=hGd.okM hc hb;obtain⟨st,hst⟩:=hGd.top;have hcn:=(XS hc).2.2;have hgc:=(XS hc).1;have hll:=(QU p).2.2.2.1;have htr:=hGd.tr;have hou:=hGd.ou;have hrd:=hGd.rd;have hr0:=hGd.r0;have hfin:=hGd.fin;have hslk:=hGd.sl;unfold Kgo at hK;simp only[goC]at hK;by_cases ha:a = -1
 ·rw[if_pos ha]at hK;conv=>whnf
  repeat' (first|((first|(refine iM fun _=>?_)|refine dA ?_|refine q3l rfl ?_|refine aD ?_|refine aR ?_|refine bP ?_|(refine iA fun _=>?_)|refine IdxK.xs (by omega) ?_|refine QN (by omega) ?_|(refine ByteK.at (by omega) ?_)|refine wI ?_);conv=>whnf)|(apply bD<;>intro _<;>first|omega|conv=>whnf)|(apply bE<;>intro _<;>first|omega|conv=>whnf)|(apply bN<;>intro _<;>conv=>whnf)|(apply bB<;>intro _<;>conv=>whnf))
  all_goals first
   |(exfalso;omega)
   |exact hK ⟨.back 0 M,0,a,bs,vs,it0⟩ _ rfl hb (Le.of_eq rfl)
   |exact hK ⟨.back 0 M,0,a,bs,vs,it0⟩ _ rfl hb (UI (RIx.st p tape watch fuel ⟨.back 0 M,0,a,bs,vs,it0⟩).sl [_])
 rw[if_neg ha]at hK;by_cases hst2:M.steps=fuel
 ·rw[if_pos hst2]at hK;conv=>whnf
  repeat' (first|((first|(refine iM fun _=>?_)|refine dA ?_|refine q3l rfl ?_|refine aD ?_|refine aR ?_|refine bP ?_|(refine iA fun _=>?_)|refine IdxK.xs (by omega) ?_|refine QN (by omega) ?_|(refine ByteK.at (by omega) ?_)|refine wI ?_);conv=>whnf)|(apply bD<;>intro _<;>first|omega|conv=>whnf)|(apply bE<;>intro _<;>first|omega|conv=>whnf)|(apply bN<;>intro _<;>conv=>whnf)|(apply bB<;>intro _<;>conv=>whnf))
  all_goals first
   |(exfalso;omega)
   |exact hK ⟨.fin (endM M 2),gv,a,bs,vs,it0⟩ _ rfl trivial (Le.of_eq rfl)
   |exact hK ⟨.fin (endM M 2),gv,a,bs,vs,it0⟩ _ rfl trivial (UI (RIx.st p tape watch fuel ⟨.fin (endM M 2),gv,a,bs,vs,it0⟩).sl [_])
 rw[if_neg hst2]at hK;rcases hat with h|⟨g,it,hg,h1,hit,hi,hid⟩
 ·exact absurd h ha
 rw[hit]at hK;simp only at hK;have hgl:((sheetOf p).l.map fun i=>AV.agg i.cells)[(a-1).toNat]?=some (.agg it.cells):=by rw[q4x,hit];rfl
 have hlt:(a-1).toNat<(sheetOf p).l.length:=(q3c.1 hit).1;have hG1:Good p (ZG M) M.steps:=hGd.same rfl (q4h _) hfin hr0 hrd htr hou;have hOk1:OkM p bs (ZG M):=hG1.okM hc hb;have hst1:(ZG M).stack=st++[XT (ZG M)]:=hst;have hslk1:(ZG M).stack.length<=101:=hslk;have htr1:(ZG M).trace.length<=10000000:=by show M.trace.length<=_;omega
 have hou1:(ZG M).out.length<=10000000:=by show M.out.length<=_;omega
 have hk1:p.procs[(XT (ZG M)).proc]?=some g:=hg;have ht:=KQ hi;have hi1:it∈itsOf p (XT (ZG M)).proc g:=hi;unfold stI at hK;by_cases h4:it.s.kind=4
 ·rw[if_pos h4]at hK;obtain⟨k1,k2,k3⟩:=Rp hc hg ht h4;have hpar:=LM hc (PR p it.s);have hmf:=(NF (QD hc).1).pr _ (q4n k2);have hcall:=Xx p tape watch bs vs (ZG M) st (XT (ZG M)) hst1 hOk1 hslk1 htr1 it.s (by omega) (fun b hb hr=>(V5 hc hG1 hk1 ht (SF hb hr)).1) (PR p it.s) (prA p (PR p it.s)) k2 k1 (Fl hc k2) (by omega) (by omega);generalize hr:KS p watch (ZG M) (XT (ZG M)) it.s (PR p it.s) (prA p (PR p it.s))=r at*
  obtain⟨a',M'⟩:=r;unfold La at hK;simp only at hK hcall;by_cases h0:M'.fin=0
  ·rw[if_pos h0]at hK;conv=>whnf
   repeat' (first|((first|(refine iM fun _=>?_)|refine dA ?_|refine q3l rfl ?_|refine aD ?_|refine aR ?_|refine bP ?_|(refine iA fun _=>?_)|refine IdxK.xs (by omega) ?_|refine QN (by omega) ?_|(refine ByteK.at (by omega) ?_)|refine wI ?_|(refine IdxK.at (k:=(a-1).toNat) (by omega) hgl rfl ?_));conv=>whnf)|(apply bD<;>intro _<;>first|omega|conv=>whnf)|(apply bE<;>intro _<;>first|omega|conv=>whnf)|(apply bN<;>intro _<;>conv=>whnf)|(apply bB<;>intro _<;>conv=>whnf)|(refine CallK.heap [(1000,0),(1001,2),(2001,3),(2002,4),(2003,5),(2004,6),(2500,2500)] 0 (by repeat' (first|exact q4d|refine q3i ?_ ?_|exact q3e _|exact q4q Sub.nils|exact q4q (Sub.tt rfl)|exact q4q (Sub.ff rfl)|exact q4q (Sub.int (by omega)))) (by refine q3h (j:=0) rfl rfl ?_ ?_;exact CSub.refl _;refine q3h (j:=2) rfl rfl ?_ ?_;exact CSub.refl _;refine q3h (j:=3) rfl rfl ?_ ?_;exact CSub.refl _;refine q3h (j:=4) rfl rfl ?_ ?_;exact CSub.refl _;refine q3h (j:=5) rfl rfl ?_ ?_;exact CSub.refl _;refine q3h (j:=6) rfl rfl ?_ ?_;exact CSub.refl _;refine q3h (j:=2500) rfl rfl ?_ ?_;exact CSub.refl _;exact q4b) hcall rfl rfl ?_;rintro l' H' ⟨bs',vs',rfl,rfl,hb'⟩;conv=>whnf))
   all_goals first
    |(exfalso;omega)
    |exact hK ⟨.next a' M',gv,0,bs',vs',it⟩ _ rfl (by assumption) (Le.of_eq rfl)
    |exact hK ⟨.next a' M',gv,0,bs',vs',it⟩ _ rfl (by assumption) (UI (RIx.st p tape watch fuel ⟨.next a' M',gv,0,bs',vs',it⟩).sl [_])
  ·rw[if_neg h0]at hK;conv=>whnf
   repeat' (first|((first|(refine iM fun _=>?_)|refine dA ?_|refine q3l rfl ?_|refine aD ?_|refine aR ?_|refine bP ?_|(refine iA fun _=>?_)|refine IdxK.xs (by omega) ?_|refine QN (by omega) ?_|(refine ByteK.at (by omega) ?_)|refine wI ?_|(refine IdxK.at (k:=(a-1).toNat) (by omega) hgl rfl ?_));conv=>whnf)|(apply bD<;>intro _<;>first|omega|conv=>whnf)|(apply bE<;>intro _<;>first|omega|conv=>whnf)|(apply bN<;>intro _<;>conv=>whnf)|(apply bB<;>intro _<;>conv=>whnf)|(refine CallK.heap [(1000,0),(1001,2),(2001,3),(2002,4),(2003,5),(2004,6),(2500,2500)] 0 (by repeat' (first|exact q4d|refine q3i ?_ ?_|exact q3e _|exact q4q Sub.nils|exact q4q (Sub.tt rfl)|exact q4q (Sub.ff rfl)|exact q4q (Sub.int (by omega)))) (by refine q3h (j:=0) rfl rfl ?_ ?_;exact CSub.refl _;refine q3h (j:=2) rfl rfl ?_ ?_;exact CSub.refl _;refine q3h (j:=3) rfl rfl ?_ ?_;exact CSub.refl _;refine q3h (j:=4) rfl rfl ?_ ?_;exact CSub.refl _;refine q3h (j:=5) rfl rfl ?_ ?_;exact CSub.refl _;refine q3h (j:=6) rfl rfl ?_ ?_;exact CSub.refl _;refine q3h (j:=2500) rfl rfl ?_ ?_;exact CSub.refl _;exact q4b) hcall rfl rfl ?_;rintro l' H' ⟨bs',vs',rfl,rfl,hb'⟩;conv=>whnf))
   all_goals first
    |(exfalso;omega)
    |exact hK ⟨.fin M',gv,a',bs',vs',it⟩ _ rfl trivial (Le.of_eq rfl)
    |exact hK ⟨.fin M',gv,a',bs',vs',it⟩ _ rfl trivial (UI (RIx.st p tape watch fuel ⟨.fin M',gv,a',bs',vs',it⟩).sl [_])
 rw[if_neg h4]at hK;by_cases h9:it.s.kind=9
 ·rw [if_pos h9]at hK;have hret:=LI p tape watch bs vs (ZG M) st (XT (ZG M)) hst1 hOk1 htr1 it.s;have hml:(Jo watch (ZG M) (XT (ZG M)) it.s).2.fin=0->(Jo watch (ZG M) (XT (ZG M)) it.s).2.mem=(ZG M).mem:=fun _=>by
   unfold Jo;cases it.s.has with
   |false=>exact Ux
   | true=>cases hw:(QA (ZG M) (XT (ZG M)) it.s.x).2 with
     |false=>rfl
     |true=>exact Ux
  generalize hr:Jo watch (ZG M) (XT (ZG M)) it.s=r at*
  obtain⟨gv',M'⟩:=r;unfold Gp at hK;simp only at hK hret hml;by_cases h0:M'.fin=0
  ·rw[if_pos h0]at hK;have hb':bs.length=M'.mem.length:=by rw[hml h0];exact hb
   conv=>whnf
   repeat' (first|((first|(refine iM fun _=>?_)|refine dA ?_|refine q3l rfl ?_|refine aD ?_|refine aR ?_|refine bP ?_|(refine iA fun _=>?_)|refine IdxK.xs (by omega) ?_|refine QN (by omega) ?_|(refine ByteK.at (by omega) ?_)|refine wI ?_|(refine IdxK.at (k:=(a-1).toNat) (by omega) hgl rfl ?_));conv=>whnf)|(apply bD<;>intro _<;>first|omega|conv=>whnf)|(apply bE<;>intro _<;>first|omega|conv=>whnf)|(apply bN<;>intro _<;>conv=>whnf)|(apply bB<;>intro _<;>conv=>whnf)|(refine CallK.heap [(1000,0),(1001,2),(2001,3),(2002,4),(2003,5),(2004,6),(2500,2500)] 0 (by repeat' (first|exact q4d|refine q3i ?_ ?_|exact q3e _|exact q4q Sub.nils|exact q4q (Sub.tt rfl)|exact q4q (Sub.ff rfl)|exact q4q (Sub.int (by omega)))) (by refine q3h (j:=0) rfl rfl ?_ ?_;exact CSub.refl _;refine q3h (j:=2) rfl rfl ?_ ?_;exact CSub.refl _;refine q3h (j:=3) rfl rfl ?_ ?_;exact CSub.refl _;refine q3h (j:=4) rfl rfl ?_ ?_;exact CSub.refl _;refine q3h (j:=5) rfl rfl ?_ ?_;exact CSub.refl _;refine q3h (j:=6) rfl rfl ?_ ?_;exact CSub.refl _;refine q3h (j:=2500) rfl rfl ?_ ?_;exact CSub.refl _;exact q4b) hret rfl rfl ?_;rintro l' H' ⟨vs',rfl,rfl⟩;conv=>whnf))
   all_goals first
    |(exfalso;omega)
    |exact hK ⟨.back gv' M',0,a,bs,vs',it⟩ _ rfl hb' (Le.of_eq rfl)
    |exact hK ⟨.back gv' M',0,a,bs,vs',it⟩ _ rfl hb' (UI (RIx.st p tape watch fuel ⟨.back gv' M',0,a,bs,vs',it⟩).sl [_])
  ·rw[if_neg h0]at hK;conv=>whnf
   repeat' (first|((first|(refine iM fun _=>?_)|refine dA ?_|refine q3l rfl ?_|refine aD ?_|refine aR ?_|refine bP ?_|(refine iA fun _=>?_)|refine IdxK.xs (by omega) ?_|refine QN (by omega) ?_|(refine ByteK.at (by omega) ?_)|refine wI ?_|(refine IdxK.at (k:=(a-1).toNat) (by omega) hgl rfl ?_));conv=>whnf)|(apply bD<;>intro _<;>first|omega|conv=>whnf)|(apply bE<;>intro _<;>first|omega|conv=>whnf)|(apply bN<;>intro _<;>conv=>whnf)|(apply bB<;>intro _<;>conv=>whnf)|(refine CallK.heap [(1000,0),(1001,2),(2001,3),(2002,4),(2003,5),(2004,6),(2500,2500)] 0 (by repeat' (first|exact q4d|refine q3i ?_ ?_|exact q3e _|exact q4q Sub.nils|exact q4q (Sub.tt rfl)|exact q4q (Sub.ff rfl)|exact q4q (Sub.int (by omega)))) (by refine q3h (j:=0) rfl rfl ?_ ?_;exact CSub.refl _;refine q3h (j:=2) rfl rfl ?_ ?_;exact CSub.refl _;refine q3h (j:=3) rfl rfl ?_ ?_;exact CSub.refl _;refine q3h (j:=4) rfl rfl ?_ ?_;exact CSub.refl _;refine q3h (j:=5) rfl rfl ?_ ?_;exact CSub.refl _;refine q3h (j:=6) rfl rfl ?_ ?_;exact CSub.refl _;refine q3h (j:=2500) rfl rfl ?_ ?_;exact CSub.refl _;exact q4b) hret rfl rfl ?_;rintro l' H' ⟨vs',rfl,rfl⟩;conv=>whnf))
   all_goals first
    |(exfalso;omega)
    |exact hK ⟨.fin M',gv',a,bs,vs',it⟩ _ rfl trivial (Le.of_eq rfl)
    |exact hK ⟨.fin M',gv',a,bs,vs',it⟩ _ rfl trivial (UI (RIx.st p tape watch fuel ⟨.fin M',gv',a,bs,vs',it⟩).sl [_])
 rw[if_neg h9]at hK;have hpA:=UT hk1;rw[hpA]at hK;have hDo:DoOk p (XT (ZG M)) g it:=⟨fun h7=>by
   have hl:=(BU hc hk1).1 it hi1 h7;exact⟨hl.1,by omega,_,q3b (by omega)⟩,⟨_,FE _ _ _ _ _ _ it hi1,hk1⟩,fun h12=>by
   have hO:=P2 hc hk1 ht;have hn:=Mt (hO.name (by omega));exact(V5 hc hG1 hk1 ht (As (by omega) (by simpa using hn))).1⟩
 have hdo:=Vt p (by omega) tape watch htp bs vs (ZG M) st (XT (ZG M)) hst1 hOk1 htr1 hou1 hr0 (by show M.reads<=_;omega) g it hDo;have hml:(doM p tape watch (ZG M) (XT (ZG M)) g it).2.mem.length=(ZG M).mem.length:=Iy;generalize hr:doM p tape watch (ZG M) (XT (ZG M)) g it=r at*
 obtain⟨a',M'⟩:=r;unfold La at hK;simp only at hK hdo hml;by_cases h0:M'.fin=0
 ·rw[if_pos h0]at hK;have hb':bs.length=M'.mem.length:=by rw[hml];exact hb
  conv=>whnf
  repeat' (first|((first|(refine iM fun _=>?_)|refine dA ?_|refine q3l rfl ?_|refine aD ?_|refine aR ?_|refine bP ?_|(refine iA fun _=>?_)|refine IdxK.xs (by omega) ?_|refine QN (by omega) ?_|(refine ByteK.at (by omega) ?_)|refine wI ?_|(refine IdxK.at (k:=(a-1).toNat) (by omega) hgl rfl ?_));conv=>whnf)|(apply bD<;>intro _<;>first|omega|conv=>whnf)|(apply bE<;>intro _<;>first|omega|conv=>whnf)|(apply bN<;>intro _<;>conv=>whnf)|(apply bB<;>intro _<;>conv=>whnf)|(refine CallK.heap [(1000,0),(1001,2),(2001,3),(2002,4),(2003,5),(2004,6),(2500,2500)] 0 (by repeat' (first|exact q4d|refine q3i ?_ ?_|exact q3e _|exact q4q Sub.nils|exact q4q (Sub.tt rfl)|exact q4q (Sub.ff rfl)|exact q4q (Sub.int (by omega)))) (by refine q3h (j:=0) rfl rfl ?_ ?_;exact CSub.refl _;refine q3h (j:=2) rfl rfl ?_ ?_;exact CSub.refl _;refine q3h (j:=3) rfl rfl ?_ ?_;exact CSub.refl _;refine q3h (j:=4) rfl rfl ?_ ?_;exact CSub.refl _;refine q3h (j:=5) rfl rfl ?_ ?_;exact CSub.refl _;refine q3h (j:=6) rfl rfl ?_ ?_;exact CSub.refl _;refine q3h (j:=2500) rfl rfl ?_ ?_;exact CSub.refl _;exact q4b) hdo rfl rfl ?_;rintro l' H' ⟨vs',rfl,rfl⟩;conv=>whnf))
  all_goals first
   |(exfalso;omega)
   |exact hK ⟨.next a' M',gv,0,bs,vs',it⟩ _ rfl hb' (Le.of_eq rfl)
   |exact hK ⟨.next a' M',gv,0,bs,vs',it⟩ _ rfl hb' (UI (RIx.st p tape watch fuel ⟨.next a' M',gv,0,bs,vs',it⟩).sl [_])
 ·rw[if_neg h0]at hK;conv=>whnf
  repeat' (first|((first|(refine iM fun _=>?_)|refine dA ?_|refine q3l rfl ?_|refine aD ?_|refine aR ?_|refine bP ?_|(refine iA fun _=>?_)|refine IdxK.xs (by omega) ?_|refine QN (by omega) ?_|(refine ByteK.at (by omega) ?_)|refine wI ?_|(refine IdxK.at (k:=(a-1).toNat) (by omega) hgl rfl ?_));conv=>whnf)|(apply bD<;>intro _<;>first|omega|conv=>whnf)|(apply bE<;>intro _<;>first|omega|conv=>whnf)|(apply bN<;>intro _<;>conv=>whnf)|(apply bB<;>intro _<;>conv=>whnf)|(refine CallK.heap [(1000,0),(1001,2),(2001,3),(2002,4),(2003,5),(2004,6),(2500,2500)] 0 (by repeat' (first|exact q4d|refine q3i ?_ ?_|exact q3e _|exact q4q Sub.nils|exact q4q (Sub.tt rfl)|exact q4q (Sub.ff rfl)|exact q4q (Sub.int (by omega)))) (by refine q3h (j:=0) rfl rfl ?_ ?_;exact CSub.refl _;refine q3h (j:=2) rfl rfl ?_ ?_;exact CSub.refl _;refine q3h (j:=3) rfl rfl ?_ ?_;exact CSub.refl _;refine q3h (j:=4) rfl rfl ?_ ?_;exact CSub.refl _;refine q3h (j:=5) rfl rfl ?_ ?_;exact CSub.refl _;refine q3h (j:=6) rfl rfl ?_ ?_;exact CSub.refl _;refine q3h (j:=2500) rfl rfl ?_ ?_;exact CSub.refl _;exact q4b) hdo rfl rfl ?_;rintro l' H' ⟨vs',rfl,rfl⟩;conv=>whnf))
  all_goals first
   |(exfalso;omega)
   |exact hK ⟨.fin M',gv,a',bs,vs',it⟩ _ rfl trivial (Le.of_eq rfl)
   |exact hK ⟨.fin M',gv,a',bs,vs',it⟩ _ rfl trivial (UI (RIx.st p tape watch fuel ⟨.fin M',gv,a',bs,vs',it⟩).sl [_])
theorem Jw{p:Pg}(hc:XX p=true)(tape watch:List Int){c:Cf}(h:MF p fuel c)(hn:∀M,c ≠ .fin M):MF p fuel (goC p tape watch fuel c)/\cfμ fuel (goC p tape watch fuel c)<cfμ fuel c:=by
 cases c with
 |fin M=>exact absurd rfl (hn M)
 | back g M=>
   obtain⟨hG,h0,h1⟩:=h;obtain⟨st,hst⟩:=hG.top;obtain⟨_,⟨M',e,_,_⟩|⟨a,M',e,_,hG',hat,hl,hs⟩⟩:=P5 hc hG hst g
   ·show MF p fuel (GP p g M)/\cfμ fuel (GP p g M)<_;rw[e];exact⟨trivial,succ_pos _⟩
   ·show MF p fuel (GP p g M)/\cfμ fuel (GP p g M)<_;rw[e];refine⟨⟨by rw[hs];exact hG',by omega,by omega,hat⟩,?_⟩;show 6*(fuel-M'.steps).toNat+2*M'.stack.length+2<6*(fuel-M.steps).toNat+2*M.stack.length+1;rw[hs];omega
 | next a M=>
   obtain⟨hG,h0,h1,hat⟩:=h;simp only[goC];by_cases ha:a = -1
   ·rw[if_pos ha];exact⟨⟨hG,h0,h1⟩,by show _+1<_+2;omega⟩
   rw[if_neg ha];by_cases hf:M.steps=fuel
   ·rw[if_pos hf];exact⟨trivial,succ_pos _⟩
   rw[if_neg hf];rcases hat with h|⟨g,it,hg,_,hit,hi,_⟩
   ·exact absurd h ha
   rw[hit];simp only;have hG1:Good p (ZG M) M.steps:=hG.same rfl (q4h _) hG.fin hG.r0 hG.rd hG.tr hG.ou;have key:∀(r:Int×Mc),r.2.steps=(ZG M).steps->(r.2.fin=0->Good p r.2 (M.steps+1)/\AtOk p r.1 (XT r.2).proc/\r.2.stack.length<=M.stack.length+1)->MF p fuel (La r)/\cfμ fuel (La r)<cfμ fuel (.next a M):=fun r hs hr=>by
    have hs:r.2.steps=M.steps+1:=hs;unfold La;by_cases h2:r.2.fin=0
    ·rw[if_pos h2];obtain⟨u1,u2,u3⟩:=hr h2;refine⟨⟨by rw[hs];exact u1,by omega,by omega,u2⟩,?_⟩;show 6*(fuel-r.2.steps).toNat+2*r.2.stack.length+2<6*(fuel-M.steps).toNat+2*M.stack.length+2;omega
    ·rw[if_neg h2];exact⟨trivial,succ_pos _⟩
   unfold stI;have hk1:p.procs[(XT (ZG M)).proc]?=some g:=hg;have hi1:it∈itsOf p (XT (ZG M)).proc g:=hi;by_cases h4:it.s.kind=4
   ·rw[if_pos h4];obtain⟨u1,u2⟩:=AA hc watch hG1 hk1 hi1 h4 rfl;exact key _ u1 fun hz=>⟨(u2 hz).1,(u2 hz).2.1,Nat.le_of_eq (u2 hz).2.2⟩
   rw[if_neg h4];by_cases h9:it.s.kind=9
   ·rw[if_pos h9];obtain⟨u1,u2⟩:=TG watch hG1 it.s rfl;generalize Jo watch (ZG M) (XT (ZG M)) it.s=r at*
    have hs:r.2.steps=M.steps+1:=u1;unfold Gp;by_cases h2:r.2.fin=0
    ·rw[if_pos h2];obtain⟨v1,v2⟩:=u2 h2;have hl:r.2.stack.length=M.stack.length:=by rw[v2];rfl
     refine⟨⟨by rw[hs];exact v1,by omega,by omega⟩,?_⟩;show 6*(fuel-r.2.steps).toNat+2*r.2.stack.length+1<6*(fuel-M.steps).toNat+2*M.stack.length+2;omega
    ·rw[if_neg h2];exact⟨trivial,succ_pos _⟩
   rw[if_neg h9,UT hk1];obtain⟨u1,u2⟩:=E0 hc tape watch hG1 hk1 hi1 h4 h9 rfl;refine key _ u1 fun hz=>⟨(u2 hz).1,?_,?_⟩
   ·rw[Fg (u2 hz).2.2];exact(u2 hz).2.1
   ·rw[(u2 hz).2.2];exact Nat.le_succ _
theorem Gt{p:Pg}{M:Mc}{st:List Fm}{f:Fm}{g a:Int}(h:CloseP p M st f g a M'):M'.stack=st:=by
 cases h<;>rfl
theorem Mg{p:Pg}{M:Mc}{st:List Fm}{f:Fm}{g a:Int}(h:CloseP p M st f g a M'):M'.mem.length=M.mem.length:=by
 cases h<;>first|rfl|simp[setM,popM]
theorem U6(p:Pg)(tape watch:List Int)(bs:List Nat)(vs:List Int)(M:Mc)(st:List Fm)(f:Fm)(hs:M.stack=st++[f])(hM:OkM p bs M)(hfc:f.call<=100000)(gave:Int)(at_:Int)(M':Mc)(hC:CloseP p M st f gave at_ M'):
  SpecH prog 72 [.ptr 1000 0,.p (.int .i64 gave)] (mH p tape watch bs vs M) (fun r H=>r=.p (.int .i64 at_)/\H=mH p tape watch bs vs M'):=
 (LE p tape watch bs vs M st f hs hM hfc gave at_ M' hC).post fun l H' ⟨es,he,hl,hH⟩=>⟨mH p tape watch bs vs M',⟨hl,rfl⟩,by
   subst hH;have e:M'.stack=st:=Gt hC;refine Le.cut ?_;show CutH (mHs p tape watch bs vs M' es) (mHs p tape watch bs vs M' (M'.stack.map (fmA bs)));rw[e];exact .same (.same (.cut he (.same (.same (.same (.same .nil))))))⟩
def Ip(bs:List Nat)(M:Mc):St:=⟨[(8,.ptr 1 0),(9,.p (.int .i64 0))],[(5,.own 2 1 (M.out.map (.int .i64))),(6,.own 78 2 (M.trace.map evA)),(2500,.ext (.cells 2 (ZH bs M.mem))),
 (1,.obj 72 [.p (.int .i64 M.fin),.p (.int .i64 M.steps),.p (.int .i64 M.reads),.hd 5 0 M.out.length,.hd 6 0 M.trace.length])]⟩
def EA(M:Mc):AV:=.agg [.int .i64 M.fin,.int .i64 M.steps,.int .i64 M.reads,XU M.out,.sl (M.trace.map evA)]
def Of(p:Pg)(tape watch:List Int)(fuel:Int)(r:AV):Prop:=∃n M,HW p tape watch fuel n (JW p)=.fin M/\r=.tup [EA M,.int .i64 0]
theorem TZ(p:Pg)(hc:XX p=true)(tape watch:List Int)(fuel:Int)(hfu:fuel<=1000000)(g:Int)(bs:List Nat)(vs:List Int)(it0:Item)(at_:Int)(M:Mc)(hG:MF p fuel (.back g M))(hb:bs.length=M.mem.length)(K:Exit->St->Prop)(hK:Kgo p tape watch fuel (.back g M) K)(hR:∀(M':Mc),goC p tape watch fuel (.back g M)=.fin M'->K .ret (Ip bs M')):
  W prog tab Tryz.f37.ntmps Xi (TK 0) K (Lf p tape watch fuel g at_ bs vs M it0):=by
 obtain⟨hGd,hs0,hs1⟩:=hG;have hOk:=hGd.okM hc hb;obtain⟨st,hst⟩:=hGd.top;unfold Kgo at hK;simp only[goC]at hK hR;obtain⟨hfc,⟨M',e,hC,hfin⟩|⟨a,M',e,hC,hG',hat,hl,hs⟩⟩:=P5 hc hGd hst g
 ·have hcl:=U6 p tape watch bs vs M st (XT M) hst hOk hfc g (-1) M' hC;have hR1:=hR M' e;clear hR hK;conv=>whnf
  repeat' (first|((first|(refine iM fun _=>?_)|refine dA ?_|refine q3l rfl ?_|refine aD ?_|refine aR ?_|refine bP ?_|(refine iA fun _=>?_)|refine IdxK.xs (by omega) ?_|refine QN (by omega) ?_|(refine ByteK.at (by omega) ?_)|refine wI ?_);conv=>whnf)|(apply bD<;>intro _<;>first|omega|conv=>whnf)|(apply bE<;>intro _<;>first|omega|conv=>whnf)|(apply bN<;>intro _<;>conv=>whnf)|(apply bB<;>intro _<;>conv=>whnf)|(refine CallK.heap [(1000,0),(1001,2),(2001,3),(2002,4),(2003,5),(2004,6),(2500,2500)] 0 (by repeat' (first|exact q4d|refine q3i ?_ ?_|exact q3e _|exact q4q Sub.nils|exact q4q (Sub.tt rfl)|exact q4q (Sub.ff rfl)|exact q4q (Sub.int (by omega)))) (by refine q3h (j:=0) rfl rfl ?_ ?_;exact CSub.refl _;refine q3h (j:=2) rfl rfl ?_ ?_;exact CSub.refl _;refine q3h (j:=3) rfl rfl ?_ ?_;exact CSub.refl _;refine q3h (j:=4) rfl rfl ?_ ?_;exact CSub.refl _;refine q3h (j:=5) rfl rfl ?_ ?_;exact CSub.refl _;refine q3h (j:=6) rfl rfl ?_ ?_;exact CSub.refl _;refine q3h (j:=2500) rfl rfl ?_ ?_;exact CSub.refl _;exact q4b) hcl rfl rfl ?_;rintro l' H' ⟨rfl,rfl⟩;conv=>whnf))
  all_goals first
   |(exfalso;omega)
   |exact hR1
 ·have hcl:=U6 p tape watch bs vs M st (XT M) hst hOk hfc g a M' hC;have hb':bs.length=M'.mem.length:=by rw[Mg hC];exact hb
  have hfin:=hG'.fin;rw[e]at hK;clear hR;conv=>whnf
  repeat' (first|((first|(refine iM fun _=>?_)|refine dA ?_|refine q3l rfl ?_|refine aD ?_|refine aR ?_|refine bP ?_|(refine iA fun _=>?_)|refine IdxK.xs (by omega) ?_|refine QN (by omega) ?_|(refine ByteK.at (by omega) ?_)|refine wI ?_);conv=>whnf)|(apply bD<;>intro _<;>first|omega|conv=>whnf)|(apply bE<;>intro _<;>first|omega|conv=>whnf)|(apply bN<;>intro _<;>conv=>whnf)|(apply bB<;>intro _<;>conv=>whnf)|(refine CallK.heap [(1000,0),(1001,2),(2001,3),(2002,4),(2003,5),(2004,6),(2500,2500)] 0 (by repeat' (first|exact q4d|refine q3i ?_ ?_|exact q3e _|exact q4q Sub.nils|exact q4q (Sub.tt rfl)|exact q4q (Sub.ff rfl)|exact q4q (Sub.int (by omega)))) (by refine q3h (j:=0) rfl rfl ?_ ?_;exact CSub.refl _;refine q3h (j:=2) rfl rfl ?_ ?_;exact CSub.refl _;refine q3h (j:=3) rfl rfl ?_ ?_;exact CSub.refl _;refine q3h (j:=4) rfl rfl ?_ ?_;exact CSub.refl _;refine q3h (j:=5) rfl rfl ?_ ?_;exact CSub.refl _;refine q3h (j:=6) rfl rfl ?_ ?_;exact CSub.refl _;refine q3h (j:=2500) rfl rfl ?_ ?_;exact CSub.refl _;exact q4b) hcl rfl rfl ?_;rintro l' H' ⟨rfl,rfl⟩;conv=>whnf))
  all_goals first
   |(exfalso;omega)
   |exact hK ⟨.next a M',g,0,bs,vs,it0⟩ _ rfl hb' (Le.of_eq rfl)
   |exact hK ⟨.next a M',g,0,bs,vs,it0⟩ _ rfl hb' (UI (RIx.st p tape watch fuel ⟨.next a M',g,0,bs,vs,it0⟩).sl [_])
theorem Ci(p:Pg)(tape watch:List Int)(fuel gv at_:Int)(bs:List Nat)(vs:List Int)(it0:Item)(M:Mc)(K:Exit->St->Prop)(hR:K .ret (Ip bs M)):
  W prog tab Tryz.f37.ntmps Xi (TK 2) K (Lf p tape watch fuel gv at_ bs vs M it0):=by
 conv=>whnf
 repeat' (first|((first|(refine iM fun _=>?_)|refine dA ?_|refine q3l rfl ?_|refine aD ?_|refine aR ?_|refine bP ?_|(refine iA fun _=>?_)|refine IdxK.xs (by omega) ?_|refine QN (by omega) ?_|(refine ByteK.at (by omega) ?_)|refine wI ?_);conv=>whnf)|(apply bD<;>intro _<;>first|omega|conv=>whnf)|(apply bE<;>intro _<;>first|omega|conv=>whnf)|(apply bN<;>intro _<;>conv=>whnf)|(apply bB<;>intro _<;>conv=>whnf))
 all_goals first
  |exact hR
theorem CQ{bs:List Nat}{n:Nat}(h:bs.length=n):UV bs (List.range n)=bs.map cpA:=by
 have:=Nq (bs:=[]) (nb:=bs);rw[q7w,q6m,h,<-List.range_eq_range']at this;exact this
theorem Rr{bs:List Nat}{n:Nat}(h:bs.length=n):ZH bs (List.replicate n 0)=bs.map fun b=>(b,.int .i64 0):=by
 have:=Gr (bs:=[]) (mem:=[]) (nb:=bs) rfl;rw[h]at this;exact this
def q1c:Item:=⟨⟨0,0,[],[],[],⟨0,0,[],[]⟩,false,[],[],[]⟩,0,0,0,0⟩
def Mz:Mc:=⟨[],[],0,0,0,[],[]⟩
theorem q3g:Sub (.agg [.int .i64 0,.int .i64 0,.int .i64 0,.nils,.nils]) (EA Mz):=
 Sub.agg (.cons (Sub.refl _) (.cons (Sub.refl _) (.cons (Sub.refl _) (.cons Sub.nils (.cons Sub.nils .nil)))))
theorem q3k{k:Int}{R:AV->Prop}(hR:R (.tup [EA Mz,.int .i64 k])):RetK H (.p (.tup [.agg [.int .i64 0,.int .i64 0,.int .i64 0,.nils,.nils],.int .i64 k])) R:=
 ⟨_,.p (Sub.tup (.cons q3g (.cons (Sub.refl _) .nil))),hR⟩
theorem Aj{M:Mc}{R:AV->Prop}{e5 e6:TypeId}(h5:getH H 5=some (.own e5 1 (M.out.map (.int .i64))))(h6:getH H 6=some (.own e6 2 (M.trace.map evA)))(hR:R (.tup [EA M,.int .i64 0])):
  RetK H (.tup [.agg [.p (.int .i64 M.fin),.p (.int .i64 M.steps),.p (.int .i64 M.reads),.hd 5 0 M.out.length,.hd 6 0 M.trace.length],.p (.int .i64 0)]) R:=
 ⟨_,.tup (cs:=[EA M,.int .i64 0]) rfl (fun j l c hj hc=>by
   match j,hj,hc with
   | 0,hj,hc=>
     cases hj;cases hc;refine .agg rfl fun j l c hj hc=>?_
     match j,hj,hc with
     |0,hj,hc=>cases hj;cases hc;exact .p (Sub.refl _)
     |1,hj,hc=>cases hj;cases hc;exact .p (Sub.refl _)
     |2,hj,hc=>cases hj;cases hc;exact .p (Sub.refl _)
     |3,hj,hc=>cases hj;cases hc;exact .hd h5 (by rw[q3f])
     |4,hj,hc=>cases hj;cases hc;exact .hd h6 (by rw[q3f])
     |j+5,hj,_=>cases hj
   |1,hj,hc=>cases hj;cases hc;exact .p (Sub.refl _)
   |j+2,hj,_=>cases hj),hR⟩
def gSt(p:Pg)(tape watch:List Int)(fuel:Int)(j:Nat)(bs:List Nat):St:=⟨[(2,.p (.int .i64 fuel)),(8,.ptr 1 0),(10,.ptr 0 0),(34,.p (.int .i64 (p.globals.map AV.str).length)),(35,.p (.int .i64 j))],
 [(2500,.ext (.cells 2 (bs.map fun b=>(b,.int .i64 0)))),(0,.obj 129 [.p (.ip (sheetOf p).cells),.hd 2 0 j,.p (XU tape),.p (XU watch),.hd 3 0 0,.hd 4 0 0,.p (.int .i64 0),.p (.int .i64 0),.p (.int .i64 0),.hd 5 0 0,.hd 6 0 0]),(2,.own 130 1 (bs.map cpA)),(3,.own 174 1 []),(4,.own 2 1 []),(5,.own 2 1 []),(6,.own 78 2 []),(1,rO)]⟩
structure GIx where
 j:Nat
 bs:List Nat
theorem AZ(p:Pg)(hf:Fit p)(tape watch:List Int)(htp:tape.length<=10000000)(fuel:Int):SpecP prog 37 [.agg p.cells,XU tape,.int .i64 fuel,XU watch] (fun r=>(XX p=true/\0<=fuel/\fuel<=1000000->Of p tape watch fuel r)/\(¬(XX p=true/\0<=fuel/\fuel<=1000000)->r=.tup [EA Mz,.int .i64 1])):=by
 refine sB Xi func37 rfl call37 ?_;conv=>whnf
 have hC:=Zk p hf;by_cases hok:XX p=true/\0<=fuel/\fuel<=1000000
 ·obtain⟨hc,hf0,hf1⟩:=hok;rw[hc]at hC;obtain⟨hg,hpl,hcn⟩:=XS hc;have hFl:=KI p (by omega) (by omega);have hPr:=XN (sheetOf p) mainS;obtain⟨m1,m2,m3⟩:=Ud hc;have hst0:=Nf hc hf0;rw[show(sheetOf p).p=p from(QU p).1,m1]at hPr;have hmf:=(NF (QD hc).1).pr _ (q4n m2);have hgm:(p.globals.map AV.str).length=p.globals.length:=q3f _;repeat' (first|((first|(refine iM fun _=>?_)|refine dA ?_|refine q3l rfl ?_|refine aD ?_|refine aR ?_|refine bP ?_|(refine iA fun _=>?_)|refine IdxK.xs (by omega) ?_|refine QN (by omega) ?_|(refine ByteK.at (by omega) ?_)|refine wI ?_);conv=>whnf)|(apply bD<;>intro _<;>first|omega|conv=>whnf)|(apply bE<;>intro _<;>first|omega|conv=>whnf)|(apply bN<;>intro _<;>conv=>whnf)|(apply bB<;>intro _<;>conv=>whnf))
  refine AW ?_;refine ScopeK.inv QY (c:=EE) (RIx.st p tape watch fuel) RIx.lab (fun i=>MF p fuel i.c/\i.bok/\∃n,HW p tape watch fuel n (JW p)=i.c) (fun i=>cfμ fuel i.c) TK ?_ ?_ ?_
  ·rintro⟨c,gv,at_,bs,vs,it⟩ _;cases c<;>rfl
  ·refine(show ∀(K:Exit->St->Prop),(∀l s',(∃i:RIx,i.lab=l/\(MF p fuel i.c/\i.bok/\∃n,HW p tape watch fuel n (JW p)=i.c)/\Le Tryz.f37.ntmps s' (i.st p tape watch fuel))->K (.goto l) s')->W prog tab Tryz.f37.ntmps Xi EE K _ from ?_) _ (fun _ _ h=>h);intro K hK;conv=>whnf
   repeat' (first|((first|(refine iM fun _=>?_)|refine dA ?_|refine q3l rfl ?_|refine aD ?_|refine aR ?_|refine bP ?_|(refine iA fun _=>?_)|refine IdxK.xs (by omega) ?_|refine QN (by omega) ?_|(refine ByteK.at (by omega) ?_)|refine wI ?_|refine cP hC ?_|refine cP hFl ?_);conv=>whnf)|(apply bD<;>intro _<;>first|omega|conv=>whnf)|(apply bE<;>intro _<;>first|omega|conv=>whnf)|(apply bN<;>intro _<;>conv=>whnf)|(apply bB<;>intro _<;>conv=>whnf)|(refine q3l ?_ ?_<;>conv=>whnf))
   all_goals try (exfalso;omega)
   all_goals try contradiction
   refine LoopK.inv QY (fun i:GIx=>gSt p tape watch fuel i.j i.bs) (fun i=>i.j<=p.globals.length/\i.bs.length=i.j) (fun i=>p.globals.length-i.j) ⟨0,[]⟩ ?_ ⟨q3o _,rfl⟩ ?_
   ·refine Le.trans (Le.mk (H':=(gSt p tape watch fuel 0 []).H.tail) [(2,.own 130 1 []),(3,.own 174 1 []),(4,.own 2 1 []),(5,.own 2 1 []),(6,.own 78 2 [])] (by intro c hc;simp only[q3t,List.not_mem_nil,or_false]at hc;rcases hc with rfl|rfl|rfl|rfl|rfl<;>exact⟨rfl,rfl⟩) (by decide) (by show(List.map _ _).Nodup;simp[gSt]) (sl':=(gSt p tape watch fuel 0 []).sl)
     (.r (.r (.r (.r (.r .nil)))))
     (.cons rfl (.obj (.r (.cons (.nil (.head _)) (.r (.r (.cons (.nil (.tail _ (.head _))) (.cons (.nil (.tail _ (.tail _ (.head _)))) (.r (.r (.r (.cons (.nil (.tail _ (.tail _ (.tail _ (.head _))))) (.cons (.nil (.tail _ (.tail _ (.tail _ (.tail _ (.head _)))))) .nil)))))))))))) (.new (by simp) (.new (by simp) (.new (by simp) (.new (by simp) (.new (by simp) (.cons rfl (.refl _) .nil)))))))) (R6 2500 2 (by rfl) (by decide))
   rintro⟨j,bs⟩ ⟨h1,h2⟩;simp only at h1 h2⊢;have hbl:(bs.map cpA).length=bs.length:=q3f _;rcases q4w j p.globals.length with hj|hj
   ·unfold gSt;conv=>whnf
    repeat' (first|((first|(refine iM fun _=>?_)|refine dA ?_|refine q3l rfl ?_|refine aD ?_|refine aR ?_|refine bP ?_|(refine iA fun _=>?_)|refine IdxK.xs (by omega) ?_|refine QN (by omega) ?_|(refine ByteK.at (by omega) ?_)|refine wI ?_|refine q6g (n:=j) (by omega) rfl (by show(j+1)*8<=140737488355328;omega) (by show j+1<=9223372036854775807;omega) (fun x hx=>by rcases q3r.1 hx with rfl;exact⟨rfl,rfl⟩) ?_);conv=>whnf)|(apply bD<;>intro _<;>first|omega|conv=>whnf)|(apply bE<;>intro _<;>first|omega|conv=>whnf)|(apply bN<;>intro _<;>conv=>whnf)|(apply bB<;>intro _<;>conv=>whnf)|(refine MT QY 7 2500 ?_;conv=>whnf)|(refine⟨⟨rfl,rfl⟩,fun b hb=>?_⟩;conv=>whnf))
    all_goals first
     |(exfalso;omega)
     |exact⟨⟨j+1,bs++[b]⟩,⟨hj,by simp[h2]⟩,by simp only;omega,Le.of_eq (by simp only[q4z];rfl)⟩
   ·obtain rfl:j=p.globals.length:=by omega
    have hM0:OkM p bs (M00 p):=⟨by simp[M00,h2],(fun f hf=>by cases hf),by simp[M00],q3o _,fun f hf=>by cases hf⟩;have hopen:=GC p tape watch bs [] (M00 p) hM0 (q3o _) (mainN p) (prA p (mainN p)) m2 (Fl hc m2) (by omega) (by omega) [] (q3o _) (fun v hv=>by cases hv) 0;have hq:mHq p tape watch bs [] (M00 p) (UV bs [])=[(1000,.obj 129 [.p (.ip (sheetOf p).cells),.hd 1001 0 p.globals.length,.p (XU tape),.p (XU watch),.hd 2001 0 0,.hd 2002 0 0,.p (.int .i64 0),.p (.int .i64 0),.p (.int .i64 0),.hd 2003 0 0,.hd 2004 0 0]),(1001,.own 130 1 (bs.map cpA)),(2001,.own 174 1 []),(2002,.own 2 1 []),
      (2003,.own 2 1 []),(2004,.own 78 2 []),(2500,.ext (.cells 2 (bs.map fun b=>(b,.int .i64 0)))),(2005,.own 130 1 [])]:=by
     unfold mHq mH mO M00;simp only;rw[CQ h2,Rr h2];rfl
    rw[hq]at hopen;unfold gSt;conv=>whnf
    repeat' (first|((first|(refine iM fun _=>?_)|refine dA ?_|refine q3l rfl ?_|refine aD ?_|refine aR ?_|refine bP ?_|(refine iA fun _=>?_)|refine IdxK.xs (by omega) ?_|refine QN (by omega) ?_|(refine ByteK.at (by omega) ?_)|refine wI ?_|refine cP hPr ?_);conv=>whnf)|(apply bD<;>intro _<;>first|omega|conv=>whnf)|(apply bE<;>intro _<;>first|omega|conv=>whnf)|(apply bN<;>intro _<;>conv=>whnf)|(apply bB<;>intro _<;>conv=>whnf))
    all_goals try (exfalso;omega)
    refine CallK.le ?_;refine CallK.nil 8 130 1 rfl (.cons rfl (.cons rfl (.row (.cons rfl .nil)))) ?_;refine CallK.heap [(1000,0),(1001,2),(2001,3),(2002,4),(2003,5),(2004,6),(2500,2500),(2005,8)] 0 (q3i (q3e _) (q3i (q3e _) (q3i (q3e _) (q3i (q3e _) q4d)))) (by refine q3h (j:=0) rfl rfl ?_ ?_;exact CSub.refl _;refine q3h (j:=2) rfl rfl ?_ ?_;exact CSub.refl _;refine q3h (j:=3) rfl rfl ?_ ?_;exact CSub.refl _;refine q3h (j:=4) rfl rfl ?_ ?_;exact CSub.refl _;refine q3h (j:=5) rfl rfl ?_ ?_;exact CSub.refl _;refine q3h (j:=6) rfl rfl ?_ ?_;exact CSub.refl _;refine q3h (j:=2500) rfl rfl ?_ ?_;exact CSub.refl _;refine q3h (j:=8) rfl rfl ?_ ?_;exact CSub.refl _;exact q4b) hopen rfl rfl ?_;rintro l' H' ⟨nb,rfl,rfl,hnb⟩;conv=>whnf
    have hbl2:(bs++nb).length=(KV p (mainN p) (prA p (mainN p)) [] 0 (M00 p)).mem.length:=by
     unfold KV M00;simp only[q3m,q5d];omega
    refine⟨⟨[(2,.p (.int .i64 fuel)),(8,.ptr 1 0),(10,.ptr 0 0),(11,.ptr 7 0),(12,.p (.int .i64 0)),(54,.p (.int .i64 (Vh p (mainN p) (prA p (mainN p)))))],rH p tape watch (bs++nb) [] (KV p (mainN p) (prA p (mainN p)) [] 0 (M00 p)) q1c⟩,?_,?_⟩
    ·have hp:=F7 p hc tape watch htp fuel hf1 0 (bs++nb) [] q1c _ _ hst0 hbl2 K (fun i s' h1 h2 h3=>hK i.lab s' ⟨i,rfl,⟨h1▸(Jw hc tape watch hst0 (fun _ h=>by cases h)).1,h2,1,h1.symm⟩,h3⟩);conv=>whnf
     conv at hp=>whnf
     exact hp
    ·exact Le.mk [] (by simp) (by simp) (by show(List.map _ _).Nodup;simp[rH]) (.r (.r (.r (.r (.r (.r .nil))))))
      (.cons rfl (.refl _) (.cons rfl (.refl _) (.cons rfl (.refl _) (.cons rfl (.refl _) (.cons rfl (.refl _) (.cons rfl (.refl _) (.cons rfl (.refl _) (.cons rfl (.refl _) (.cons rfl (.obj (.r (.r (.cons (.p Sub.nils) (.r (.r (.r (.r (.r (.cons (.p Sub.nils) (.cons (.p (Sub.ff rfl)) (.cons (.p Sub.nils) (.cons (.p Sub.nils) (.cons (.p Sub.nils) (.r (.r (.r (.r .nil)))))))))))))))))) .nil)))))))))
  ·rintro⟨c,gv,at_,bs,vs,it⟩ ⟨hG,hb,n,hn⟩;have hgo:=Jw hc tape watch (p:=p) (fuel:=fuel) (c:=c) hG;cases c with
   | next a M=>
     refine F7 p hc tape watch htp fuel hf1 gv bs vs it a M hG hb _ fun i s' h1 h2 h3=>?_;obtain⟨u1,u2⟩:=hgo (fun _ h=>by cases h);exact⟨i,rfl,⟨h1▸u1,h2,n+1,by rw[UK,hn,h1]⟩,h1▸u2,h3⟩
   | back g M=>
     refine TZ p hc tape watch fuel hf1 g bs vs it at_ M hG hb _ (fun i s' h1 h2 h3=>?_) fun M' h1=>?_
     ·obtain⟨u1,u2⟩:=hgo (fun _ h=>by cases h);exact⟨i,rfl,⟨h1▸u1,h2,n+1,by rw[UK,hn,h1]⟩,h1▸u2,h3⟩
     ·exact Aj rfl rfl ⟨fun _=>⟨n+1,M',by rw[UK,hn,h1],rfl⟩,fun h=>absurd ⟨hc,hf0,hf1⟩ h⟩
   | fin M=>
     refine Ci p tape watch fuel gv at_ bs vs it M _ ?_;exact Aj rfl rfl ⟨fun _=>⟨n,M,hn,rfl⟩,fun h=>absurd ⟨hc,hf0,hf1⟩ h⟩
 ·skip
  repeat' (first|((first|(refine iM fun _=>?_)|refine dA ?_|refine q3l rfl ?_|refine aD ?_|refine aR ?_|refine bP ?_|(refine iA fun _=>?_)|refine IdxK.xs (by omega) ?_|refine QN (by omega) ?_|(refine ByteK.at (by omega) ?_)|refine wI ?_);conv=>whnf)|(apply bD<;>intro _<;>first|omega|conv=>whnf)|(apply bE<;>intro _<;>first|omega|conv=>whnf)|(apply bN<;>intro _<;>conv=>whnf)|(apply bB<;>intro _<;>conv=>whnf))
  refine AW ?_;refine ScopeK.inv QY (c:=EE) (fun i:Nat=>⟨[],[]⟩) (fun i=>0) (fun _=>False) (fun i=>0) TK (fun _ h=>h.elim) ?_ (fun _ h=>h.elim);cases hc:XX p;all_goals
   rw[hc]at hC hok;conv=>whnf
   repeat' (first|((first|(refine iM fun _=>?_)|refine dA ?_|refine q3l rfl ?_|refine aD ?_|refine aR ?_|refine bP ?_|(refine iA fun _=>?_)|refine IdxK.xs (by omega) ?_|refine QN (by omega) ?_|(refine ByteK.at (by omega) ?_)|refine wI ?_|refine cP hC ?_);conv=>whnf)|(apply bD<;>intro _<;>first|omega|conv=>whnf)|(apply bE<;>intro _<;>first|omega|conv=>whnf)|(apply bN<;>intro _<;>conv=>whnf)|(apply bB<;>intro _<;>conv=>whnf))
   all_goals first
    |contradiction
    |exact q3k ⟨fun h=>absurd h hok,fun _=>rfl⟩
    |exact absurd ⟨rfl,by omega,by omega⟩ hok
def eR(p:Pg)(k:Nat)(g:Pr):Int->Int->Prop:=stR ((QQ p k g).real.filter (Hp p (endsR p)))
inductive Pos:List Fm->Int->Nat->Int->Prop
 |top {st:List Fm} {f:Fm} {x:Int}:Pos (st++[f]) x f.proc x
 |low {st:List Fm} {f:Fm} {x:Int} {k:Nat} {y:Int} (h:Pos st f.call k y):Pos (st++[f]) x k y
theorem Pos.inv{st:List Fm}{f:Fm}{x:Int}{k:Nat}{y:Int}(h:Pos (st++[f]) x k y):(k=f.proc/\y=x)\/Pos st f.call k y:=by
 generalize hl:st++[f]=l at h;cases h with
 | top=>
   obtain⟨_,h2⟩:=q7r hl rfl;cases h2;exact .inl ⟨rfl,rfl⟩
 | low h=>
   obtain⟨rfl,h2⟩:=q7r hl rfl;cases h2;exact .inr h
def EvP(p:Pg)(P:Nat->Int->Prop)(e:Int×List Int):Prop:=∃k g t,p.procs[k]?=some g/\t∈flL g.body/\t.id=e.1/\Rch (eR p k g) 0 e.1/\(Rch (eR p k g) e.1 (-1)\/∃y,P k y/\Rch (eR p k g) e.1 y)
structure InvM(p:Pg)(M:Mc)(x:Int):Prop where
 pos:∀k y,Pos M.stack x k y->∃g,p.procs[k]?=some g/\Rch (eR p k g) 0 y
 ev:∀e∈M.trace,EvP p (Pos M.stack x) e
 fr:∀f∈M.stack,(f.call=0/\f.proc=mainN p)\/(f.call≠0/\∃g it,p.procs[f.proc]?=some g/\(sheetOf p).l[(f.call-1).toNat]?=some it/\g.name=it.s.proc)
def closedE(p:Pg)(e:Int×List Int):Prop:=∃k g t,p.procs[k]?=some g/\t∈flL g.body/\t.id=e.1/\Rch (eR p k g) 0 e.1/\Rch (eR p k g) e.1 (-1)
def liveE(p:Pg)(e:Int×List Int):Prop:=∃k g t,p.procs[k]?=some g/\t∈flL g.body/\t.id=e.1/\Rch (eR p k g) 0 e.1
structure InvF(p:Pg)(M:Mc):Prop where
 live:∀e∈M.trace,liveE p e
 done:M.fin=1->mainS∈endsR p/\∀e∈M.trace,closedE p e
def AM(p:Pg):Cf->Prop
 |.next a M=>InvM p M a
 |.back _ M=>InvM p M (-1)
 |.fin M=>InvF p M
theorem InvM.fin{p:Pg}{M:Mc}{x:Int}(h:InvM p M x)(ht:M'.trace=M.trace)(hf:M'.fin≠1):InvF p M':=
 ⟨fun e he=>by
   obtain⟨k,g,t,h1,h2,h3,h4,_⟩:=h.ev e (ht▸he);exact⟨k,g,t,h1,h2,h3,h4⟩,fun h=>absurd h hf⟩
theorem Zd{w:List Int}{M:Mc}{id:Int}{v:List Int}{e:Int×List Int}(h:e∈(QJ w M id v).trace):e∈M.trace\/e.1=id:=by
 unfold QJ at h;cases hw:w.any (fun x=>decide (id=x))<;>rw[hw]at h
 ·exact .inl h
 ·rcases q3a.1 h with h|h
  ·exact .inl h
  ·rw[q3r.1 h];exact .inr rfl
section
variable {p:Pg}(hc:XX p=true)
include hc
theorem E4{k:Nat}{g:Pr}(hk:p.procs[k]?=some g){it:Item}(hi:it∈itsOf p k g){b:Int}(hb:b∈UJ (sheetOf p) g it)(hcall:it.s.kind=4->it.s.proc∈endsR p):eR p k g it.s.id b:=by
 refine⟨⟨it.s.id,b,1⟩,q5q.2 ⟨((KJ hc hk).2 _).2 (AQ hi hb),?_⟩,rfl,rfl⟩;unfold Hp;rw[q8w];refine .inr ?_;show(match Si p it.s.id with|some s=>_|none=>_)=true;rw[Bg hc hk (KQ hi)];show(!(decide (it.s.kind=4) && !((endsR p).any fun x=>it.s.proc==x)))=true;by_cases h4:it.s.kind=4
 ·have h5:((endsR p).any fun x=>it.s.proc==x)=true:=q5l.2 ⟨_,hcall h4,by simp⟩;rw[h5];simp
 ·simp[h4]
theorem Pq{k:Nat}{g:Pr}(hk:p.procs[k]?=some g):eR p k g 0 (Vh p k g):=by
 refine⟨⟨0,OV p k g,1⟩,q5q.2 ⟨((KJ hc hk).2 _).2 (by unfold QK OV;exact q3d),?_⟩,rfl,rfl⟩;unfold Hp;simp
theorem Im{k:Nat}{g:Pr}(hk:p.procs[k]?=some g)(h:Rch (eR p k g) 0 (-1)):g.name∈endsR p:=(SR hc hk).2 h
omit hc in
theorem InvM.on{M M':Mc}{a b:Int}{st:List Fm}{f:Fm}(h:InvM p M a)(hs:M.stack=st++[f])(hs':M'.stack=M.stack){g:Pr}(hk:p.procs[f.proc]?=some g){it:Item}(hi:it∈itsOf p f.proc g)(hid:it.s.id=a)(hb:eR p f.proc g a b)(ht:∀e∈M'.trace,e∈M.trace\/e.1=it.s.id):InvM p M' b:=by
 have h0:Rch (eR p f.proc g) 0 a:=by
  obtain⟨g',h1,h2⟩:=h.pos f.proc a (by rw[hs];exact .top);rw[hk]at h1;cases h1;exact h2
 refine⟨fun k y hp=>?_,fun e he=>?_,fun f' hf=>h.fr f' (hs'▸hf)⟩
 ·rw[hs',hs]at hp;rcases hp.inv with⟨rfl,rfl⟩|hp
  ·exact⟨g,hk,.tail h0 hb⟩
  ·exact h.pos k y (by rw[hs];exact .low hp)
 ·rcases ht e he with he|he
  ·obtain⟨k,g',t,h1,h2,h3,h4,h5⟩:=h.ev e he;refine⟨k,g',t,h1,h2,h3,h4,?_⟩;rcases h5 with h5|⟨y,h5,h6⟩
   ·exact .inl h5
   ·rw[hs]at h5;rcases h5.inv with⟨rfl,rfl⟩|h5
    ·rw[hk]at h1;cases h1;exact .inr ⟨b,by rw[hs',hs];exact .top,.tail h6 hb⟩
    ·exact .inr ⟨y,by rw[hs',hs];exact .low h5,h6⟩
  ·rw[hid]at he;exact⟨f.proc,g,it.s,hk,KQ hi,by rw[he,hid],by rw[he];exact h0,.inr ⟨b,by rw[hs',hs];exact .top,by rw[he];exact .tail .refl hb⟩⟩
theorem InvM.push{M:Mc}{a:Int}{st:List Fm}{f n:Fm}(h:InvM p M a)(hs:M.stack=st++[f])(hs':M'.stack=M.stack++[n])(hn:n.call=a){g:Pr}(hk:p.procs[f.proc]?=some g){it:Item}(hi:it∈itsOf p f.proc g)(hid:it.s.id=a){q:Pr}(hq:p.procs[n.proc]?=some q)(hnm:q.name=it.s.proc)(ht:∀e∈M'.trace,e∈M.trace\/e.1=it.s.id):InvM p M' (Vh p n.proc q):=by
 have h0:Rch (eR p f.proc g) 0 a:=by
  obtain⟨g',h1,h2⟩:=h.pos f.proc a (by rw[hs];exact .top);rw[hk]at h1;cases h1;exact h2
 have hup:∀k y,Pos M.stack a k y->Pos M'.stack (Vh p n.proc q) k y:=fun k y hp=>by
  rw[hs'];exact .low (by rw[hn];exact hp)
 refine⟨fun k y hp=>?_,fun e he=>?_,fun f' hf=>?_⟩
 ·rw[hs']at hp;rcases hp.inv with⟨rfl,rfl⟩|hp
  ·exact⟨q,hq,.tail .refl (Pq hc hq)⟩
  ·rw[hn]at hp;exact h.pos k y hp
 ·rcases ht e he with he|he
  ·obtain⟨k,g',t,h1,h2,h3,h4,h5⟩:=h.ev e he;exact⟨k,g',t,h1,h2,h3,h4,h5.imp id fun⟨y,h6,h7⟩=>⟨y,hup _ _ h6,h7⟩⟩
  ·rw[hid]at he;exact⟨f.proc,g,it.s,hk,KQ hi,by rw[he,hid],by rw[he];exact h0,.inr ⟨a,hup _ _ (by rw[hs];exact .top),by rw[he];exact .refl⟩⟩
 ·rw[hs']at hf;rcases q3a.1 hf with hf|hf
  ·exact h.fr f' hf
  ·rw[q3r.1 hf];have:=VK (QD hc).1 hk (KQ hi);refine .inr ⟨by omega,q,it,hq,?_,hnm⟩;rw[hn,<-hid];exact IZ hc hk hi
theorem T3:AM p (JW p):=by
 obtain⟨h1,h2,h3⟩:=Ud hc;have hs:(KV p (mainN p) (prA p (mainN p)) [] 0 (M00 p)).stack=[]++[⟨mainN p,varsS p (prA p (mainN p)),List.range p.globals.length++[]++List.range' (M00 p).mem.length (prA p (mainN p)).vars.length,0⟩]:=rfl;refine InvM.mk (fun k y hp=>?_) (fun e he=>(by cases he)) (fun f hf=>?_)
 ·rw[hs]at hp;rcases hp.inv with⟨rfl,rfl⟩|hp
  ·exact⟨_,h2,.tail .refl (Pq hc h2)⟩
  ·generalize hl:([]:List Fm)=l at hp;cases hp<;>simp at hl
 ·rw[hs]at hf;rw[q3r.1 hf];exact .inl ⟨rfl,rfl⟩
theorem Hm:(prA p (mainN p)).name=mainS:=by
 obtain⟨h1,h2,_⟩:=Ud hc;obtain⟨k,f,h3,_,h5,_⟩:=N0 hc;obtain⟨k',hk',h6,_,_,h7⟩:=Jj (p:=p) (n:=mainS) (q3s.2 ⟨f,q4n h3,h5⟩);have e:mainN p=k':=by unfold mainN;rw[h6];rfl
 rw[e,UT (q3b hk')];exact h7
omit hc in
theorem OX(tape watch:List Int){M:Mc}{f:Fm}{g:Pr}{it:Item}{r:Int×Mc}(hr:r=doM p tape watch M f g it)(h0:M.fin=0):(∀e∈r.2.trace,e∈M.trace\/e.1=it.s.id)/\(r.2.fin≠0->r.2.trace=M.trace/\r.2.fin≠1):=by
 subst hr;have key:∀(M1 M2:Mc)(v:List Int),M1.trace=M.trace->M1.fin=0->M2.trace=(QJ watch M1 it.s.id v).trace->M2.fin=(QJ watch M1 it.s.id v).fin->(∀e∈M2.trace,e∈M.trace\/e.1=it.s.id)/\(M2.fin≠0->M2.trace=M.trace/\M2.fin≠1):=fun M1 M2 v h1 h2 h3 h4=>by
  refine⟨fun e he=>?_,fun h=>?_⟩
  ·rw[h3]at he;rcases Zd he with h|h
   ·exact .inl (h1▸h)
   ·exact .inr h
  ·rw[h4,(ZT watch M1 it.s.id v).2.2.1,h2]at h;exact absurd rfl h
 have bad:∀c:Int,c≠1->(∀e∈(endM M c).trace,e∈M.trace\/e.1=it.s.id)/\((endM M c).fin≠0->(endM M c).trace=M.trace/\(endM M c).fin≠1):=fun c hc=>⟨fun e he=>.inl he,fun _=>⟨rfl,hc⟩⟩;unfold doM;split
 ·exact key M _ [] rfl h0 rfl rfl
 split
 ·exact key M _ [] rfl h0 rfl rfl
 split
 ·exact key M _ [] rfl h0 rfl rfl
 split
 ·split
  ·exact bad 3 (by decide)
  ·exact key (setM {M with reads:=M.reads+1} (varM f it.s.name) (tape.getD M.reads.toNat 0)) _ [tape.getD M.reads.toNat 0] rfl h0 rfl rfl
 cases(QA M f it.s.x).2 with
 |false=>exact bad 4 (by decide)
 | true=>
   rw[q4v];generalize(QA M f it.s.x).1=n;split
   ·exact key M _ [n] rfl h0 rfl rfl
   split
   ·exact key M _ [n] rfl h0 rfl rfl
   split
   ·exact key M _ [n] rfl h0 rfl rfl
   split
   ·exact key M _ [n] rfl h0 rfl rfl
   ·exact key M _ [n] rfl h0 rfl rfl
theorem C7{M:Mc}{b:Int}(hG:Good p M b)(h:InvM p M (-1))(gave:Int):AM p (GP p gave M):=by
 obtain⟨st,hs⟩:=hG.top;have hst:M.stack.dropLast=st:=by rw[hs,List.dropLast_concat]
 have hch:=hG.ch;rw[hs]at hch;have hfr:=h.fr (XT M) (by rw[hs];simp);obtain⟨q',hq',hend⟩:=h.pos _ _ (by rw[hs];exact .top);have hen:=Im hc hq' hend;generalize hF:XT M=F at*
 unfold GP;rw[hst,hF];generalize hL:st++[F]=L at hch;cases hch with
 | one h0=>
   rename_i f;obtain⟨rfl,h2⟩:=q7r (show st++[F]=[]++[f]from hL) rfl;have h2:F=f:=by simpa using h2
   subst h2;rw[if_pos h0];refine InvF.mk (fun e he=>?_) fun _=>⟨?_,fun e he=>?_⟩
   ·obtain⟨k,g,t,u1,u2,u3,u4,_⟩:=h.ev e he;exact⟨k,g,t,u1,u2,u3,u4⟩
   ·rcases hfr with⟨_,hm⟩|⟨hne,_⟩
    ·rw[hm,(Ud hc).2.1]at hq';cases hq';rw[Hm hc]at hen;exact hen
    ·exact absurd h0 hne
   ·obtain⟨k,g,t,u1,u2,u3,u4,u5⟩:=h.ev e he;refine⟨k,g,t,u1,u2,u3,u4,?_⟩;rcases u5 with u5|⟨y,u5,u6⟩
    ·exact u5
    ·rw[hs]at u5;rcases u5.inv with⟨_,rfl⟩|u5
     ·exact u6
     ·generalize hl:([]:List Fm)=l at u5;cases u5<;>simp at hl
 | push hl h1 hle hit hk hp hi hid=>
   rename_i l g f q it;obtain⟨rfl,h2⟩:=q7r hL rfl;have h2:F=f:=by simpa using h2
   subst h2;rw[if_neg (by omega),hit];have hpr:it.s.proc∈endsR p:=by
    rcases hfr with⟨h0,_⟩|⟨_,g',it',v1,v2,v3⟩
    ·omega
    ·rw[hit]at v2;cases v2;rw[hq']at v1;cases v1;rw[<-v3];exact hen
   have hstep:eR p g.proc q F.call it.next:=by
    rw[<-hid];refine E4 hc hp hi ?_ fun _=>hpr;unfold UJ;rw[if_neg (by omega),if_neg (by omega),if_neg (by omega),if_neg (by omega),if_neg (by omega),if_neg (by omega)];exact q3d
   have key:∀M':Mc,M'.stack=l++[g]->M'.trace=M.trace->InvM p M' it.next:=fun M' e1 e2=>by
    refine⟨fun k y hP=>?_,fun e he=>?_,fun f' hf=>h.fr f' (by rw[hs];rw[e1]at hf;exact q4i _ hf)⟩
    ·rw[e1]at hP;rcases hP.inv with⟨rfl,rfl⟩|hP
     ·obtain⟨q2,w1,w2⟩:=h.pos g.proc F.call (by rw[hs];exact .low .top);rw[hp]at w1;cases w1;exact⟨q,hp,.tail w2 hstep⟩
     ·exact h.pos k y (by rw[hs];exact .low (.low hP))
    ·rw[e2]at he;obtain⟨k,g',t,u1,u2,u3,u4,u5⟩:=h.ev e he;refine⟨k,g',t,u1,u2,u3,u4,?_⟩;rcases u5 with u5|⟨y,u5,u6⟩
     ·exact .inl u5
     ·rw[hs]at u5;rcases u5.inv with⟨_,rfl⟩|u5
      ·exact .inl u6
      ·rcases u5.inv with⟨rfl,rfl⟩|u5
       ·rw[hp]at u1;cases u1;exact .inr ⟨it.next,by rw[e1];exact .top,.tail u6 hstep⟩
       ·exact .inr ⟨y,by rw[e1];exact .low u5,u6⟩
   show InvM p (if it.s.name=[]then _ else _) it.next;split
   ·exact key _ rfl rfl
   ·exact key _ rfl rfl
omit hc in
theorem IC(watch:List Int){M:Mc}{f:Fm}{t:S}{r:Int×Mc}(hr:r=Jo watch M f t)(h0:M.fin=0):(∀e∈r.2.trace,e∈M.trace\/e.1=t.id)/\(r.2.fin≠0->r.2.trace=M.trace/\r.2.fin≠1):=by
 subst hr;have key:∀v,(∀e∈(QJ watch M t.id v).trace,e∈M.trace\/e.1=t.id)/\((QJ watch M t.id v).fin≠0->(QJ watch M t.id v).trace=M.trace/\(QJ watch M t.id v).fin≠1):=fun v=>⟨fun e he=>Zd he,fun h=>by
  rw[(ZT watch M t.id v).2.2.1,h0]at h;exact absurd rfl h⟩
 unfold Jo;cases t.has with
 |false=>exact key []
 | true=>
   rw[q4v];cases(QA M f t.x).2 with
   |false=>exact⟨fun e he=>.inl he,fun _=>⟨rfl,by show(4:Int)≠1;decide⟩⟩
   |true=>exact key _
theorem C8(watch:List Int){M:Mc}{b:Int}(hG:Good p M b){g:Pr}(hk:p.procs[(XT M).proc]?=some g){it:Item}(hi:it∈itsOf p (XT M).proc g)(h4:it.s.kind=4)(h:InvM p M it.s.id):AM p (La (KS p watch M (XT M) it.s (PR p it.s) (prA p (PR p it.s)))):=by
 have ht:=KQ hi;obtain⟨k0,k1,k2⟩:=Rp hc hk ht h4;obtain⟨st,hst⟩:=hG.top;have hnm:(prA p (PR p it.s)).name=it.s.proc:=by
  obtain⟨k',_,u2,_,u4,_⟩:=PS hc (q5g.2 ⟨g,q4n hk,ht⟩) h4;have e:PR p it.s=k':=by
   unfold PR;show(caI p it.s).toNat=k';rw[u2];rfl
  rw[e];exact u4
 obtain⟨a1,a2,a3,a4,a5,a6,a7,a8⟩:=Zv (f:=XT M) it.s.args [] M (fun a ha hr=>(V5 hc hG hk ht (SF ha hr)).2) (fun v hv=>by cases hv);unfold KS;generalize argsM (XT M) it.s.args [] M=ar at*
 obtain⟨ps,M1,ok⟩:=ar;simp only at a1 a2 a3 a4 a5 a6 a7 a8⊢;unfold La;cases ok with
 | false=>
   have h8:M1.fin=4:=a8 rfl;rw[q4f,if_neg (by show ¬M1.fin=0;omega)];exact h.fin a6 (by show M1.fin≠1;omega)
 | true=>
   obtain⟨b1,_,_⟩:=a7 rfl;rw[q4v];split
   ·exact h.fin (M':=endM M1 5) a6 (by show(5:Int)≠1;decide)
   ·have e1:=ZT watch M1 it.s.id [];have h0:(KV p (PR p it.s) (prA p (PR p it.s)) ps it.s.id (QJ watch M1 it.s.id [])).fin=0:=by
     show(QJ watch M1 it.s.id []).fin=0;rw[e1.2.2.1,b1];exact hG.fin
    rw[if_pos h0];refine InvM.push hc (n:=⟨PR p it.s,varsS p (prA p (PR p it.s)),List.range p.globals.length++ps++List.range' (QJ watch M1 it.s.id []).mem.length (prA p (PR p it.s)).vars.length,it.s.id⟩) h hst ?_ rfl hk hi rfl k1 hnm ?_
    ·show(QJ watch M1 it.s.id []).stack++_=M.stack++_;rw[e1.1,a1]
    ·intro e he;have he:e∈(QJ watch M1 it.s.id []).trace:=he;rcases Zd he with h5|h5
     ·exact .inl (a6▸h5)
     ·exact .inr h5
theorem IX(tape watch:List Int){c:Cf}(hG:MF p fuel c)(h:AM p c):AM p (goC p tape watch fuel c):=by
 cases c with
 |fin M=>exact h
 |back g M=>exact C7 hc hG.1 h g
 | next a M=>
   obtain⟨hGd,h0,h1,hat⟩:=hG;have h:InvM p M a:=h;simp only[goC];by_cases ha:a = -1
   ·rw[if_pos ha];show InvM p M (-1);rw[<-ha];exact h
   rw[if_neg ha];by_cases hf:M.steps=fuel
   ·rw[if_pos hf];exact h.fin (M':=endM M 2) rfl (by show(2:Int)≠1;decide)
   rw[if_neg hf];rcases hat with h2|⟨g,it,hg,_,hit,hi,hid⟩
   ·exact absurd h2 ha
   rw[hit];simp only;have hG1:Good p (ZG M) M.steps:=hGd.same rfl (q4h _) hGd.fin hGd.r0 hGd.rd hGd.tr hGd.ou;have hk1:p.procs[(XT (ZG M)).proc]?=some g:=hg;have hi1:it∈itsOf p (XT (ZG M)).proc g:=hi;have hI1:InvM p (ZG M) it.s.id:=by
    rw[hid];exact⟨h.pos,h.ev,h.fr⟩
   obtain⟨st,hst⟩:=hG1.top;unfold stI;by_cases h4:it.s.kind=4
   ·rw[if_pos h4];exact C8 hc watch hG1 hk1 hi1 h4 hI1
   rw[if_neg h4];by_cases h9:it.s.kind=9
   ·rw[if_pos h9];obtain⟨u1,u2⟩:=TG watch hG1 it.s rfl;obtain⟨v1,v2⟩:=IC watch (M:=ZG M) (f:=XT (ZG M)) (t:=it.s) rfl hGd.fin;generalize Jo watch (ZG M) (XT (ZG M)) it.s=r at*
    unfold Gp;by_cases hz:r.2.fin=0
    ·rw[if_pos hz];refine hI1.on hst (u2 hz).2 hk1 hi1 rfl (E4 hc hk1 hi1 ?_ fun h=>absurd h h4) v1;unfold UJ;rw[if_neg (by omega),if_neg (by omega),if_neg (by omega),if_neg (by omega),if_pos h9];exact q3d
    ·rw[if_neg hz];exact hI1.fin (v2 hz).1 (v2 hz).2
   rw[if_neg h9,UT hk1];obtain⟨u1,u2⟩:=E0 hc tape watch hG1 hk1 hi1 h4 h9 rfl;obtain⟨v1,v2⟩:=OX (M:=ZG M) (f:=XT (ZG M)) (g:=g) (it:=it) tape watch rfl hGd.fin;have hgo:=RZ (p:=p) tape watch (M:=ZG M) (f:=XT (ZG M)) (g:=g) h4 h9 rfl;generalize doM p tape watch (ZG M) (XT (ZG M)) g it=r at*
   unfold La;by_cases hz:r.2.fin=0
   ·rw[if_pos hz];exact hI1.on hst (u2 hz).2.2 hk1 hi1 rfl (E4 hc hk1 hi1 (hgo hz) fun h=>absurd h h4) v1
   ·rw[if_neg hz];exact hI1.fin (v2 hz).1 (v2 hz).2
theorem EX(tape watch:List Int)(h0:0<=fuel)(n:Nat):MF p fuel (HW p tape watch fuel n (JW p))/\AM p (HW p tape watch fuel n (JW p)):=by
 induction n with
 |zero=>exact⟨Nf hc h0,T3 hc⟩
 | succ n ih=>
   rw[UK];refine⟨?_,IX hc tape watch ih.1 ih.2⟩;generalize HW p tape watch fuel n (JW p)=c at*
   cases c with
   |fin M=>exact trivial
   |next a M=>exact(Jw hc tape watch ih.1 (fun _ h=>by cases h)).1
   |back g M=>exact(Jw hc tape watch ih.1 (fun _ h=>by cases h)).1
end
section
variable {F:List (List Str)->List (List Str)}{n:Nat}{L O:List (List Str)}
end
section
variable {p:Pg}
end
section
variable {p:Pg}{j:Nat}{f:Pr}
end
end Go.Ab
