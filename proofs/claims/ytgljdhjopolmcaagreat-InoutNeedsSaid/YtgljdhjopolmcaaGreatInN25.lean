/- LAW: two runs of such a program, with another number for a global that is not needed. -/
import Derived.Test.YtgljdhjopolmcaaGreatInN24
set_option linter.all false
set_option maxRecDepth 100000
set_option maxHeartbeats 16000000
namespace Go.Ab
open Go.Proofs.Tryz
open Go.Proofs
variable {H:Heap}{fuel:Int}{tape:List Int}
def IV{n v:Str}(h:v∈QN (nmX n)):v=n:=by
 unfold QN at h;cases i:J0 (nmX n)with
 | false=>
   rw[i]at h;cases h
 | true=>
   rw[i,x9z]at h;unfold nmX at h;rw[Wn,YF]at h;simpa using h
def cfM:Cf->Mc
 |.next _ M=>M
 |.back _ M=>M
 |.fin M=>M
def q4s{r:Int×Mc}:cfM (Xj r)=r.2:=by unfold Xj;split<;>rfl
def q0g{r:Int×Mc}:cfM (PF r)=r.2:=by unfold PF;split<;>rfl
theorem V3{f:Fm}:∀(l:List Arg)(ps:List Nat)(M:Mc),(argsM f l ps M).2.1.reads=M.reads
 |[],ps,M=>rfl
 | a::r,ps,M=>by
   rw[argsM];cases a.ref with
   |true=>exact V3 r _ M
   | false=>
     rw[x9k];cases(QD M f a.x).2 with
     |false=>rfl
     | true=>
       rw[x9z];exact V3 r _ _
def q0n{p:Pg}{M:Mc}{f:Fm}{g:Pr}{it:Item}:M.reads<=(doM p tape [] M f g it).2.reads:=by
 unfold doM;split
 .exact z0i _
 split
 .exact z0i _
 split
 .exact z0i _
 split
 .split
  .exact z0i _
  .show M.reads<=M.reads+1;omega
 generalize QD M f it.s.x=wm;obtain⟨i,h⟩:=wm;cases h with
 |false=>exact z0i _
 | true=>
   rw[x9z];split
   .exact z0i _
   split
   .exact z0i _
   split
   .exact z0i _
   split
   .exact z0i _
   .exact z0i _
def Ba{p:Pg}(c:Cf):(cfM c).reads<=(cfM (goC p tape [] fuel c)).reads:=by
 cases c with
 |fin M=>exact z0i _
 | back g M=>
   show M.reads<=(cfM (ZO p g M)).reads;unfold ZO;split
   .exact z0i _
   .split
    .exact z0i _
    .unfold cfM;simp only;split<;>exact z0i _
 | next a M=>
   simp only[goC];split
   .exact z0i _
   split
   .exact z0i _
   split
   .exact z0i _
   .rename_i it _;unfold stI;split
    .rw [q4s];unfold YJ;have h:=V3 (f:=XY (QL M)) it.s.args [] (QL M);generalize argsM (XY (QL M)) it.s.args [] (QL M)=ar at*
     obtain⟨ps,i,j⟩:=ar;have h:i.reads=M.reads:=h;show M.reads<=_;rw[<-h];cases j with
     |false=>exact z0i _
     | true=>
       rw[x9z];split<;>exact z0i _
    split
    .rw [q0g];unfold J5;show M.reads<=_;cases it.s.has with
     |false=>exact z0i _
     | true=>
       rw[x9z];cases(QD (QL M) (XY (QL M)) it.s.x).2<;>exact z0i _
    .rw [q4s];exact q0n (M:=QL M)
def q6r{p:Pg}{h:List Int}(c:Cf)(j:h.length=tape.length)(i:h.getD (cfM c).reads.toNat 0=tape.getD (cfM c).reads.toNat 0):goC p h [] fuel c=goC p tape [] fuel c:=by
 cases c with
 |fin M=>rfl
 |back g M=>rfl
 | next a M=>
   have i:h.getD (QL M).reads.toNat 0=tape.getD (QL M).reads.toNat 0:=i;have key:∀it,stI p h [] (QL M) it=stI p tape [] (QL M) it:=fun it=>by
    unfold stI doM;rw[j,i]
   simp only[goC,key]
section
variable {p:Pg}{f:Pr}
def q0c(hnd:(baseD p f).names.Nodup){c:Nat}(m:c<manyD p f+1){n:Str}(h:(baseD p f).names[c]?=some n){M:Mc}:q0s M (baseD p f) n=M.mem.getD c 0:=by
 obtain⟨j,o⟩:=PD hnd h;have i:=Ym (p:=p) (f:=f) c m;have l:=(x8t.1 i).1;unfold q0s Us;rw[j,if_pos ⟨by omega,by rw[x8b];omega⟩,z1r,x8n,x9x,i];rfl
def Ga(p:Pg)(f:Pr)(t:Nat):Str:=(zrS::(zvL f++p.B)).getD t []
def Gc(p:Pg)(f:Pr)(t:Nat):Nat:=if t=0 then p.B.length else tlC p f (t-1)
def On{t:Nat}(h:t<manyD p f+1):(baseD p f).names[Gc p f t]?=some (Ga p f t)/\Gc p f t<manyD p f+1:=by
 unfold Gc Ga;cases t with
 | zero=>
   rw[if_pos rfl];exact⟨TO,by unfold manyD;omega⟩
 | succ t=>
   rw[if_neg (by omega),Nat.add_sub_cancel];refine⟨Ol (by omega),?_⟩;unfold tlC;unfold manyD at*
   split<;>omega
variable (hp:QP p=true)(hq:QP (drvP p f)=true)
include hp hq
theorem x0m{i:Nat}{a:Int}{M:Mc}(c:M.stack=[baseD p f])(ha:a=offD p f+i+1)(b:M.reads=i)(t:M.fin=0)(q:i<manyD p f):
  goC (drvP p f) tape [] fuel (.next a M)=if M.steps=fuel then .fin (endM M 2)else if(tape.length:Int)<=i then .fin (endM (QL M) 3)else .next (offD p f+(i+1:Nat)+1) (setM {QL M with reads:=(i:Int)+1} (rdC p i) (tape.getD i 0)):=by
 obtain⟨m,r⟩:=KZ (f:=f) hp;have hnd:=PB hq r;obtain⟨it,u,d,l,w,e,g,B,C,x⟩:=GD hp hq r (EZ (p:=p) (f:=f) q);simp only[goC];rw[if_neg (by omega)];by_cases hf:M.steps=fuel
 ·rw[if_pos hf,if_pos hf]
 rw[if_neg hf,if_neg hf,show(a-1).toNat=offN (drvP p f).A (mainN p)+i by rw[ha];unfold offD;omega,u];simp only;have l:it.s.kind=2:=l;unfold stI;rw[if_neg (by omega),if_neg (by omega)];have h:XY (QL M)=baseD p f:=ZG (M:=QL M) (st:=[]) c;rw[h];unfold doM;rw[if_neg (by omega),if_neg (by omega),if_neg (by omega),if_pos l];have n:(QL M).reads=i:=b;have o:varM (baseD p f) it.s.name=rdC p i:=by
  rw[w];exact(PD hnd (II q)).2
 rw[n];by_cases j:(tape.length:Int)<=i
 ·rw[if_pos j,if_pos j];unfold Xj;rw[if_neg (by show ¬(3:Int)=0;decide)]
 ·rw[if_neg j,if_neg j,o,z1r];unfold Xj;rw[if_pos (by show M.fin=0;exact t)];have D:=DX (p:=p) (f:=f);have z:it.next=offD p f+(i+1:Nat)+1:=by
   rw[x,if_neg (by omega)];unfold offD;omega
  show Cf.next it.next _=_;rw[z];rfl
theorem x0l{t:Nat}{a:Int}{M:Mc}(d:M.stack=[baseD p f])(ha:a=offD p f+(manyD p f+1+t:Nat)+1)(r:M.fin=0)(q:t<manyD p f+1):
  goC (drvP p f) tape [] fuel (.next a M)=if M.steps=fuel then .fin (endM M 2)else bif J0 (nmX (Ga p f t))then .next (if manyD p f+1+t+1=2*manyD p f+2 then -1 else offD p f+(manyD p f+1+t+1:Nat)+1) {QL M with out:=M.out++[M.mem.getD (Gc p f t) 0]}else .fin (endM (QL M) 4):=by
 obtain⟨m,o⟩:=KZ (f:=f) hp;have hnd:=PB hq o;obtain⟨it,u,C,i,D,j,E,F,G,w⟩:=GD hp hq o (Mm (p:=p) (f:=f) q);simp only[goC];rw[if_neg (by omega)];by_cases hf:M.steps=fuel
 ·rw[if_pos hf,if_pos hf]
 rw[if_neg hf,if_neg hf,show(a-1).toNat=offN (drvP p f).A (mainN p)+(manyD p f+1+t) by rw[ha];unfold offD;omega,u];simp only;have i:it.s.kind=3:=i;have j:it.s.x=nmX (Ga p f t):=j;unfold stI;rw[if_neg (by omega),if_neg (by omega)];have h:XY (QL M)=baseD p f:=ZG (M:=QL M) (st:=[]) d;rw[h];unfold doM;rw[if_neg (by omega),if_neg (by omega),if_neg (by omega),if_neg (by omega),j];obtain⟨g,B⟩:=On (p:=p) (f:=f) q;have z:q0s (QL M) (baseD p f) (Ga p f t)=M.mem.getD (Gc p f t) 0:=q0c hnd B g;have e:(QD (QL M) (baseD p f) (nmX (Ga p f t))).2=J0 (nmX (Ga p f t)):=by
  unfold QD evX;cases J0 (nmX (Ga p f t))<;>rfl
 have hv:=Cc (M:=QL M) (f:=baseD p f) (n:=Ga p f t);rw[e]at hv⊢;cases l:J0 (nmX (Ga p f t))with
 | false=>
   rw[x9k,x9k];unfold Xj;rw[if_neg (by show ¬(4:Int)=0;decide)]
 | true=>
   rw[x9z,x9z,if_neg (by omega),if_pos i,hv l,z];unfold Xj;rw[if_pos (by show M.fin=0;exact r)];have b:=DX (p:=p) (f:=f);have c:it.next=if manyD p f+1+t+1=2*manyD p f+2 then(-1:Int)else(offD p f:Int)+(manyD p f+1+t+1:Nat)+1:=by
    rw[w,b];unfold offD;split<;>omega
   show Cf.next it.next _=_;rw[c];rfl
end
def tlM(k:Nat)(y:Int)(q s:Nat)(M:Mc):Mc:={wt k y M with out:=if q<s then M.out.set (M.out.length-s+q) y else M.out}
section
variable (p:Pg)(f:Pr)(v:Str)(k kf:Nat)(y:Int)
structure NdE(M M':Mc):Prop where
 fin:M'.fin=M.fin
 steps:M'.steps=M.steps
 reads:M'.reads=M.reads
 trace:M'.trace=M.trace
 out:M.fin=1->M'.out=M.out\/(v∉(bookOf p).M.getD kf []/\M'.out=M.out.set (M.out.length-p.B.length+k) y)
inductive NdK:Cf->Cf->Prop
 |rd {i:Nat} {a:Int} {M:Mc} (hs:M.stack=[baseD p f]) (ha:a=offD p f+i+1) (hi:i<=manyD p f) (hr:M.reads=i) (hm:M.mem.length=manyD p f+1):NdK (.next a M) (.next a (if i<=k then M else wt k y M))
 |same {c:Cf} (hr:(manyD p f:Int)<=(cfM c).reads):NdK c c
 |call {a:Int} {M:Mc} {up:List Fm} (hr:(manyD p f:Int)<=M.reads) (hs:M.stack=baseD p f::up) (hu:FlU p f v k kf up a) (hk:k<M.mem.length):NdK (.next a M) (.next a (wt k y M))
 |back {g:Int} {M:Mc} {up:List Fm} (hr:(manyD p f:Int)<=M.reads) (hs:M.stack=baseD p f::up) (hu:FlU p f v k kf up (-1)) (hk:k<M.mem.length):NdK (.back g M) (.back g (wt k y M))
 |tell {t:Nat} {a:Int} {M:Mc} (ho:v∉(bookOf p).M.getD kf []) (hs:M.stack=[baseD p f]) (ht:t<manyD p f+1) (ha:a=offD p f+(manyD p f+1+t:Nat)+1) (hk:k<M.mem.length) (hl:t-1<=M.out.length):NdK (.next a M) (.next a (tlM k y (f.C.length+k) (t-1) M))
 |done {M:Mc} (ho:v∉(bookOf p).M.getD kf []) (hs:M.stack=[baseD p f]) (hl:manyD p f<=M.out.length):NdK (.next (-1) M) (.next (-1) (tlM k y (f.C.length+k) (manyD p f) M))
 |told {M:Mc} (ho:v∉(bookOf p).M.getD kf []) (hs:M.stack=[baseD p f]) (hl:manyD p f<=M.out.length):NdK (.back 0 M) (.back 0 (tlM k y (f.C.length+k) (manyD p f) M))
 |fin {M M':Mc} (h:NdE p v k kf y M M'):NdK (.fin M) (.fin M')
end
section
variable {p:Pg}{f:Pr}{v:Str}{k kf:Nat}{y:Int}
theorem NdE.wt{M:Mc}(h:M.fin≠1):NdE p v k kf y M (wt k y M):=⟨rfl,rfl,rfl,rfl,fun e=>absurd e h⟩
theorem NdE.tl{M:Mc}{q s:Nat}(h:M.fin≠1):NdE p v k kf y M (tlM k y q s M):=⟨rfl,rfl,rfl,rfl,fun e=>absurd e h⟩
variable (hp:QP p=true)(hq:QP (drvP p f)=true)(hf:p.A[kf]? = some f)(hfm:f.name≠mainS)(hv:p.B[k]? = some v){tape:List Int}(hkt:k<tape.length)
def SR{c:Cf}(q:KpR (drvP p f) p.B.length 0 (baseD p f) (offD p f+manyD p f+1) c)(u:∀it,(sheetOf (drvP p f)).l[((offD p f:Int)+manyD p f+1-1).toNat]?=some it->it.next=offD p f+(manyD p f+1+0:Nat)+1)(o:NdF p f v k kf (baseD p f) c)(r:(manyD p f:Int)<=(cfM c).reads):NdK p f v k kf y c (cwt k y c):=by
 cases c with
 | next a M=>
   obtain⟨m,s⟩:=o;rcases s with⟨up,h,j⟩|⟨h,j⟩
   .exact .call r h j m
   .rcases q with q|⟨_,_,it,i,n⟩
    .obtain ⟨up,i,⟨f1,n,_⟩,_⟩:=q.st;rw[h]at i;obtain⟨_,i⟩:=z1f i;rw[<-i]at n;cases n
    .exact NdK.tell (t:=0) j h (Nat.succ_pos _) (n.trans (u it i)) m (x8i _)
 | back g M=>
   obtain⟨m,up,h,j⟩:=o;exact .back r h j m
 |fin M=>exact .fin (.wt o)
include hp hq hv hkt
theorem x4y{i:Nat}{a:Int}{M:Mc}(t:M.fin=0)(s:M.stack=[baseD p f])(ha:a=offD p f+i+1)(o:i<manyD p f)(u:M.reads=i)(d:M.mem.length=manyD p f+1):
  NdK p f v k kf y (goC (drvP p f) tape [] fuel (.next a M)) (goC (drvP p f) (tape.set k y) [] fuel (.next a (if i<=k then M else wt k y M))):=by
 have q:=(x8t.1 hv).1;have w:=x0m hp hq (tape:=tape) (fuel:=fuel) s ha u t o;have x:∀M',M'.stack=M.stack->M'.reads=M.reads->M'.fin=M.fin->M'.steps=M.steps->goC (drvP p f) (tape.set k y) [] fuel (.next a M')=if M.steps=fuel then .fin (endM M' 2)else if(tape.length:Int)<=i then .fin (endM (QL M') 3)else .next (offD p f+(i+1:Nat)+1) (setM {QL M' with reads:=(i:Int)+1} (rdC p i) ((tape.set k y).getD i 0)):=fun M' g1 z b c=>by
  rw[x0m hp hq (tape:=tape.set k y) (fuel:=fuel) (M:=M') (g1.trans s) ha (z.trans u) (b.trans t) o,z0h,c]
 rw[w,x _ (by split<;>rfl) (by split<;>rfl) (by split<;>rfl) (by split<;>rfl)];by_cases j:M.steps=fuel
 ·rw[if_pos j,if_pos j];split
  ·exact .fin ⟨rfl,rfl,rfl,rfl,fun _=>.inl rfl⟩
  ·exact .fin ⟨rfl,rfl,rfl,rfl,fun _=>.inl rfl⟩
 rw[if_neg j,if_neg j];by_cases n:(tape.length:Int)<=i
 ·rw[if_pos n,if_pos n];split
  ·exact .fin ⟨rfl,rfl,rfl,rfl,fun _=>.inl rfl⟩
  ·exact .fin ⟨rfl,rfl,rfl,rfl,fun _=>.inl rfl⟩
 rw [if_neg n,if_neg n];have key:setM {QL (if i<=k then M else wt k y M)with reads:=(i:Int)+1} (rdC p i) ((tape.set k y).getD i 0)=if i+1<=k then setM {QL M with reads:=(i:Int)+1} (rdC p i) (tape.getD i 0)else wt k y (setM {QL M with reads:=(i:Int)+1} (rdC p i) (tape.getD i 0)):=by
  by_cases l:i=k
  ·subst l;have e:rdC p i=i:=if_pos q;rw[if_pos (x9h _),if_neg (by omega),e,x8n,z1m hkt,z1k];unfold setM wt;simp only;rw[List.set_set]
  ·have e:(tape.set k y).getD i 0=tape.getD i 0:=by
    rw[x8n,z0c (fun h=>l h.symm),<-x8n]
   rw[e];by_cases m:i<=k
   ·rw[if_pos m,if_pos (by omega)]
   ·rw[if_neg m,if_neg (by omega)];have r:rdC p i≠k:=by
     unfold rdC;split<;>omega
    exact Rc (M:={QL M with reads:=(i:Int)+1}) r
 rw[key];exact .rd s rfl o (by show(i:Int)+1=_;omega) (by show(M.mem.set _ _).length=_;rw[z0h];exact d)
omit hkt in
theorem x4j{fuel:Int}{t:Nat}{a:Int}{M:Mc}(s:M.fin=0)(z:v∉(bookOf p).M.getD kf [])(n:M.stack=[baseD p f])(b:t<manyD p f+1)(ha:a=offD p f+(manyD p f+1+t:Nat)+1)(w:k<M.mem.length)(D:t-1<=M.out.length):
  NdK p f v k kf y (goC (drvP p f) tape [] fuel (.next a M)) (goC (drvP p f) (tape.set k y) [] fuel (.next a (tlM k y (f.C.length+k) (t-1) M))):=by
 have g:=(x8t.1 hv).1;rw[x0l hp hq (tape:=tape) (fuel:=fuel) n ha s b,x0l hp hq (tape:=tape.set k y) (fuel:=fuel) (M:=tlM k y (f.C.length+k) (t-1) M) n ha s b];have q:(tlM k y (f.C.length+k) (t-1) M).steps=M.steps:=rfl;rw[q];by_cases h:M.steps=fuel
 ·rw[if_pos h,if_pos h];exact .fin (.tl (M:=endM M 2) (by show(2:Int)≠1;decide))
 rw[if_neg h,if_neg h];cases J0 (nmX (Ga p f t))with
 | false=>
   rw[x9k,x9k];exact .fin (.tl (M:=endM (QL M) 4) (by show(4:Int)≠1;decide))
 | true=>
   rw [x9z,x9z];generalize B:M.mem.getD (Gc p f t) 0=x;have d:({QL (tlM k y (f.C.length+k) (t-1) M)with out:=(tlM k y (f.C.length+k) (t-1) M).out++[(tlM k y (f.C.length+k) (t-1) M).mem.getD (Gc p f t) 0]}:Mc)=tlM k y (f.C.length+k) t {QL M with out:=M.out++[x]}:=by
    have r:(tlM k y (f.C.length+k) (t-1) M).mem=M.mem.set k y:=rfl;have A:(tlM k y (f.C.length+k) (t-1) M).out=if f.C.length+k<t-1 then M.out.set (M.out.length-(t-1)+(f.C.length+k)) y else M.out:=rfl;have l:(M.out++[x]).length=M.out.length+1:=by simp
    have m:(if f.C.length+k<t-1 then M.out.set (M.out.length-(t-1)+(f.C.length+k)) y else M.out)++[(M.mem.set k y).getD (Gc p f t) 0]=if f.C.length+k<t then(M.out++[x]).set ((M.out++[x]).length-t+(f.C.length+k)) y else M.out++[x]:=by
     rw[l];by_cases j:Gc p f t=k
     ·have c:t=f.C.length+k+1:=by
       unfold Gc tlC at j;split at j
       ·omega
       ·split at j<;>omega
      rw[j,x8n,z1m w,z1k,if_neg (by omega),if_pos (by omega),show M.out.length+1-t+(f.C.length+k)=M.out.length by omega,z4c _ _ (x9h _),z3n];rfl
     ·have c:t≠f.C.length+k+1:=fun e=>j (by
       unfold Gc tlC;rw[if_neg (by omega),if_neg (by omega)];omega)
      rw[x8n,z0c (fun e=>j e.symm),<-x8n,B];by_cases u:f.C.length+k<t-1
      ·rw[if_pos u,if_pos (by omega),show M.out.length+1-t+(f.C.length+k)=M.out.length-(t-1)+(f.C.length+k) by omega,List.set_append_left _ _ (by omega)]
      ·rw[if_neg u,if_neg (by omega)]
    unfold tlM;rw[r]at*
    show({stack:=M.stack,mem:=M.mem.set k y,fin:=M.fin,steps:=M.steps+1,reads:=M.reads,out:=_,trace:=M.trace}:Mc)={stack:=M.stack,mem:=M.mem.set k y,fin:=M.fin,steps:=M.steps+1,reads:=M.reads,out:=_,trace:=M.trace};exact z0l (fun o=>({stack:=M.stack,mem:=M.mem.set k y,fin:=M.fin,steps:=M.steps+1,reads:=M.reads,out:=o,trace:=M.trace}:Mc)) m
   rw[d];by_cases i:manyD p f+1+t+1=2*manyD p f+2
   ·rw[if_pos i];obtain rfl:t=manyD p f:=by omega
    exact .done z n (by show manyD p f<=(M.out++[x]).length;simp;omega)
   ·rw[if_neg i];exact NdK.tell (t:=t+1) (M:={QL M with out:=M.out++[x]}) z n (by omega) rfl w (by show t+1-1<=(M.out++[x]).length;simp;omega)
end
section
variable {p:Pg}{f:Pr}{v:Str}{k kf:Nat}{y:Int}
variable (hp:QP p=true)(hq:QP (drvP p f)=true)(hf:p.A[kf]? = some f)(hfm:f.name≠mainS)(hv:p.B[k]? = some v)(hno:v∉(bookOf p).ins.getD kf []){tape:List Int}(hkt:k<tape.length)
theorem NdE.refl{M:Mc}:NdE p v k kf y M M:=⟨rfl,rfl,rfl,rfl,fun _=>.inl rfl⟩
include hp hq hf hfm hv hno
theorem q7d{a:Int}{M:Mc}(h0:M.fin=0)(hs:M.stack=[baseD p f])(ha:a=offD p f+manyD p f+1)(hr:M.reads=manyD p f)(G:M.mem.length=manyD p f+1):
  NdK p f v k kf y (goC (drvP p f) tape [] fuel (.next a M)) (goC (drvP p f) (tape.set k y) [] fuel (.next a (wt k y M))):=by
 obtain⟨m,hm⟩:=KZ (f:=f) hp;have hnd:=PB hq hm;obtain⟨it,h1,h2,K,h4,h5,Q,L,h8,h9⟩:=GD hp hq hm (Zv (p:=p) (f:=f));obtain⟨n,F,V⟩:=q9i hp hf hfm;have Z:=(x8t.1 hv).1;have I:(baseD p f).names[k]?=some v:=by
  show(p.B++_)[k]?=some v;rw[x9d Z];exact hv
 have R:(baseD p f).E.length=(baseD p f).names.length:=by
  show(List.range p.B.length++[]++List.range' p.B.length (zrS::zvL f).length).length=(p.B++(zrS::zvL f)).length;simp
 have hbn:(baseD p f).names.length=manyD p f+1:=by
  show(p.B++(zrS::zvL f)).length=_;rw[x8m,x9f,JM];rfl
 have hV:∀i:Nat,(baseD p f).E[i]?=some k->(baseD p f).names[i]?=some v:=fun i U=>by
  have l:=(x8t.1 U).1;rw[Ym i (by omega)]at U;rw[z0y U];exact I
 simp only[goC];have g:¬a = -1:=by omega
 rw[if_neg g,if_neg g];have P:(wt k y M).steps=M.steps:=rfl;rw[P];by_cases r:M.steps=fuel
 ·rw[if_pos r,if_pos r];exact .fin (.wt (M:=endM M 2) (by show(2:Int)≠1;decide))
 rw[if_neg r,if_neg r,show(a-1).toNat=offN (drvP p f).A (mainN p)+manyD p f by rw[ha];unfold offD;omega,h1];simp only;have K:it.s.kind=4:=K;have L:it.s.args=UH f.C:=L;have Q:it.s.D=f.name:=Q;unfold stI;rw[if_pos K,if_pos K,ON,Ca];have J:XY (QL M)=baseD p f:=ZG (M:=QL M) (st:=[]) hs;have T:KJ (drvP p f) it.s=kf:=by
  unfold KJ;rw[Q,V];rfl
 have o:∀(j:Nat)(b:Arg),(UH f.C)[j]?=some b->j<f.C.length/\(b.ref=true->varM (baseD p f) b.name=p.B.length+1+j)/\(b.ref=false->v∉QN b.x):=fun j b q=>by
  obtain⟨h,_⟩:=x8t.1 q;rw[Z7]at h;rw[RO (x8p h)]at q;have q:=z0y q;rw[<-q];unfold CL;split
  ·exact⟨h,fun _=>(PD hnd (Nu h)).2,fun e=>by cases e⟩
  ·refine⟨h,fun e=>(by cases e),fun _ c=>?_⟩;have e:=IV c;have l:=Nu (p:=p) (f:=f) h;rw[<-e]at l;obtain⟨N,O⟩:=x8t.1 l;obtain⟨b1,b2⟩:=x8t.1 I;have:=(z4a hnd).1 (O.trans b2.symm);omega
 have hkm:k<(QL M).mem.length:=by
  show k<M.mem.length;unfold manyD at G;omega
 rw[J,T,WQ F,Eh R hV hkm (fun b q w=>by
  rw[L]at q;obtain⟨j,z,rfl⟩:=z0v.1 q;exact(o j _ (x8p z)).2.2 w),Bc]
 obtain⟨N,O,a3,a4,a5,a6,a7,a8⟩:=PH (f:=baseD p f) (UH f.C) [] (QL M) (fun b q w=>by
  obtain⟨j,z,rfl⟩:=z0v.1 q;obtain⟨l,u,_⟩:=o j _ (x8p z);rw[u w];show _<M.mem.length;rw[G];unfold manyD;omega) (fun v hv=>by cases hv)
 have d:=KM (f:=baseD p f) (UH f.C) [] (QL M);unfold YJ;rw[L];generalize argsM (baseD p f) (UH f.C) [] (QL M)=ar at*
 obtain⟨ps,t,ok⟩:=ar;simp only at N O a3 a4 a5 a6 a7 a8 d⊢;unfold Xj;cases ok with
 | false=>
   have l:t.fin=4:=a8 rfl;rw[x9k,if_neg (by show ¬t.fin=0;omega)];exact .fin (.wt (by show t.fin≠1;omega))
 | true=>
   rw[x9z];obtain⟨c1,c2,c3,c4⟩:=d rfl;split
   ·rw[if_neg (by show ¬(5:Int)=0;decide)];exact .fin (.wt (by show(5:Int)≠1;decide))
   ·rw[if_pos (by show t.fin=0;rw[(a7 rfl).1];exact h0)];refine .call (up:=[⟨kf,varsS (drvP p f) ⟨f.name,f.C,f.E,nmL n f.body,f.fin⟩,List.range p.B.length++ps++List.range' t.mem.length f.E.length,it.s.id⟩]) ?_ ?_ (.one rfl (EM hp hq hv hf hfm F hno ?_ ?_ ?_)) ?_
    ·show _<=t.reads;rw[a4];show _<=M.reads;omega
    ·show t.stack++_=_;rw[N];show M.stack++_=_;rw[hs];rfl
    ·rw[c1];simp[Z7]
    ·intro c;obtain⟨j,z,Y⟩:=z0v.1 c;have h:j<(UH f.C).length:=by
      rw[c1]at z;simpa using z
     obtain⟨l,u,_⟩:=o j _ (x8p h);rcases c3 j (UH f.C)[j] k (x8p h) (by
      have e:([]:List Nat).length+j=j:=by simp
      rw[e,x8p z,Y])with⟨r1,r2⟩|⟨_,r2⟩
     ·rw[u r1]at r2;omega
     ·omega
    ·omega
    ·show k<(t.mem++_).length;rw[x8m];omega
include hkt
theorem q7b{c c':Cf}(t:MF (drvP p f) fuel c)(T:OL (drvP p f) c)(J:PhK p f p.B.length 0 tape c)(h:NdK p f v k kf y c c'):NdK p f v k kf y (goC (drvP p f) tape [] fuel c) (goC (drvP p f) (tape.set k y) [] fuel c'):=by
 obtain⟨m,hm⟩:=KZ (f:=f) hp;have hnd:=PB hq hm;obtain⟨it,h1,h2,h3,h4,h5,h6,h7,h8,h9⟩:=GD hp hq hm (Zv (p:=p) (f:=f));have hkl:=(x8t.1 hv).1;have hmd:manyD p f=p.B.length+f.C.length:=rfl;have d:((offD p f:Int)+manyD p f+1-1).toNat=offN (drvP p f).A (mainN p)+manyD p f:=by unfold offD;omega
 have E:∀n:Int,(manyD p f:Int)<=n->(tape.set k y).getD n.toNat 0=tape.getD n.toNat 0:=fun n hn=>by
  rw[x8n,z0c (by omega),<-x8n]
 have D:(tape.set k y).length=tape.length:=z0h;have O:∀o,(sheetOf (drvP p f)).l[((offD p f:Int)+manyD p f+1-1).toNat]?=some o->o.next=offD p f+(manyD p f+1+0:Nat)+1:=fun o j=>by
  rw[d,h1]at j;cases j;have L:=DX (p:=p) (f:=f);rw[h9,if_neg (by omega)];unfold offD;omega
 cases h with
 | rd q ha hi x N=>
   rename_i i a M;rcases x8o i (manyD p f)with Y|hge
   ·exact x4y hp hq hv hkt t.1.fin q ha Y x N
   ·obtain rfl:i=manyD p f:=by omega
    rw[if_neg (by omega)];exact q7d hp hq hf hfm hv hno t.1.fin q ha x N
 | same x=>
   rw[q6r c D (E _ x)];exact .same (Int.le_trans x (Ba c))
 | call x q Q K=>
   rename_i a M up;have z:=Q.ne;have U:KpM (drvP p f) p.B.length 0 (baseD p f) (offD p f+manyD p f+1) M:=by
    rcases J with⟨i,h⟩|⟨_,h⟩|⟨i,h⟩
    ·have:=h.st;rw[q]at this;exact absurd (z1f this).2 z
    ·exact h
    ·have:=h.st;rw[q]at this;exact absurd (z1f this).2 z
   have G:=x0i hq tape [] t T U;have u:=Int.le_trans x (Ba (p:=drvP p f) (tape:=tape) (fuel:=fuel) (.next a M));rcases x4u hp hq hv (w:=[]) t T K q Q (y:=y) D (E _ x)with e|⟨e,V⟩
   ·rw[e];exact .same u
   ·rw[e];exact SR G O V u
 | back x q Q K=>
   rename_i g M up;have z:=Q.ne;have U:KpM (drvP p f) p.B.length 0 (baseD p f) (offD p f+manyD p f+1) M:=by
    rcases J with⟨_,h⟩|h
    ·exact h
    ·have:=h.st;rw[q]at this;exact absurd (z1f this).2 z
   have G:=Iy hq t.1 T U g;have u:=Int.le_trans x (Ba (p:=drvP p f) (tape:=tape) (fuel:=fuel) (.back g M));have hz:∀o,(sheetOf (drvP p f)).l[((up.headD (baseD p f)).call-1).toNat]?=some o->o.s.name≠[]->varM (baseD p f) o.s.name≠k:=fun o j _=>by
    obtain⟨up',R,⟨f1,Z,e3⟩,_⟩:=U.st;rw[q]at R;have R:=(z1f R).2;subst R;have e4:up.headD (baseD p f)=f1:=by
     cases up with
     |nil=>cases Z
     |cons b r=>exact z0y Z
    rw[e4,e3,d,h1]at j;cases j;rw[h4];show varM (baseD p f) zrS≠k;rw[(PD hnd TO).2];omega
   show NdK p f v k kf y (ZO (drvP p f) g M) (ZO (drvP p f) g (wt k y M));rcases q7f hp hq hv t.1 T K q Q (y:=y) hz g with e|⟨e,V⟩
   ·rw[e];exact .same u
   ·rw[e];exact SR G O V u
 |tell P q ht ha K L=>exact x4j hp hq hv t.1.fin P q ht ha K L
 | done P q L=>
   simp only[goC,if_true];exact .told P q L
 | told P q L=>
   rename_i M;show NdK p f v k kf y (ZO (drvP p f) 0 M) (ZO (drvP p f) 0 (tlM k y (f.C.length+k) (manyD p f) M));unfold ZO;have F:XY M=baseD p f:=ZG (st:=[]) q;have I:XY (tlM k y (f.C.length+k) (manyD p f) M)=baseD p f:=F;rw[F,I,if_pos (show(baseD p f).call=0 from rfl),if_pos (show(baseD p f).call=0 from rfl)];refine .fin ⟨rfl,rfl,rfl,rfl,fun _=>.inr ⟨P,?_⟩⟩;show(if f.C.length+k<manyD p f then M.out.set (M.out.length-manyD p f+(f.C.length+k)) y else M.out)=M.out.set (M.out.length-p.B.length+k) y;rw[if_pos (by omega),show M.out.length-manyD p f+(f.C.length+k)=M.out.length-p.B.length+k by omega]
 |fin h=>exact .fin h
theorem x1z(m:0<=fuel)(n:Nat):NdK p f v k kf y (HQ (drvP p f) tape [] fuel n (JC (drvP p f))) (HQ (drvP p f) (tape.set k y) [] fuel n (JC (drvP p f))):=by
 induction n with
 | zero=>
   have l:=C2 (p:=p) (f:=f) (tape:=tape) hp;have h:=NdK.rd (p:=p) (f:=f) (v:=v) (k:=k) (kf:=kf) (y:=y) l.st l.at_ l.le l.rd l.ml;rw[if_pos (x8i _)]at h;exact h
 | succ n t=>
   rw[UB,UB];obtain⟨q,r⟩:=O6 hq tape [] m n;have s:=C1 hp hq hf hfm (c:=p.B.length) (w:=0) (tape:=tape) (by unfold manyD;omega) ⟨fun _=>rfl,fun i _ h=>absurd h IE⟩ (fun n o=>by rw[z0x (x9h _)]at o;cases o) (fun j x _ h=>by omega) [] m n;exact q7b hp hq hf hfm hv hno hkt q r s t
def IQ(m:0<=fuel){n o:Nat}{M M':Mc}(h:HQ (drvP p f) tape [] fuel n (JC (drvP p f))=.fin M)(j:HQ (drvP p f) (tape.set k y) [] fuel o (JC (drvP p f))=.fin M'):NdE p v k kf y M M':=by
 have i:=x1z hp hq hf hfm hv hno (y:=y) hkt m n;rw[h]at i;generalize l:HQ (drvP p f) (tape.set k y) [] fuel n (JC (drvP p f))=c at i;cases i with
 | same _=>
   rw[SV _ _ _ _ _ j l];exact .refl
 | fin h=>
   rw[SV _ _ _ _ _ j l];exact h
end
theorem SpecH.le{P:Program}{f:FuncId}{args:List LV}{R R':LV->Heap->Prop}(h:SpecH P f args H R)(A:∀l H',R l H'->∃x t,Le 1 ⟨[(0,l)],H'⟩ ⟨[(0,x)],t⟩/\R' x t):SpecH P f args H R':=by
 refine⟨h.go,fun σ β w r c e g=>(h.ok σ β w r c e g).mono fun E w' D=>?_⟩;obtain⟨l,u,σ',β',H',B,C,q,o,j⟩:=D;obtain⟨x,t,b,z⟩:=A l H' C;obtain⟨σ2,β2,m,a⟩:=b σ' β' {tmps:=#[u],defers:=[]} w' ⟨rfl,rfl,fun i=>by
  match i with
  |0=>simpa[getS]using q
  |i+1=>exact .p (by simpa[getS]using Rep.any _),o⟩
 exact⟨x,u,σ2,β2,t,B,z,by simpa[getS]using m.G 0,m.heap,j.trans a⟩
def x2o(M:Mc):LV:=.tup [.agg [.p (.int .i64 M.fin),.p (.int .i64 M.steps),.p (.int .i64 M.reads),.hd 5 0 M.out.length,.hd 6 0 M.trace.length],.p (.int .i64 0)]
def q8y(p:Pg)(hf:Fit p)(o:QP p=true)(tape watch:List Int)(A:tape.length<=10000000)(fuel:Int)(J:0<=fuel)(w:fuel<=1000000):SpecH prog 21 [.p (.agg p.cells),.p (XZ tape),.j fuel,.p (XZ watch)] [] (fun l H=>∃n M bs,HQ p tape watch fuel n (JC p)=.fin M/\l=x2o M/\H=(q6d bs M).H):=by
 refine sK Jy func21 ?_;conv=>whnf
 have P:=Jo p hf;rw[o]at P;obtain⟨hg,hpl,U⟩:=XQ o;have E:=DY p (by omega) (by omega);have z:=XE (sheetOf p) mainS;obtain⟨m1,L,m3⟩:=D1 o;have t:=Ch o J;rw[show(sheetOf p).p=p from(QY p).1,m1]at z;have Y:=(ZA (QU o).1).pr _ (x9y L);have V:(p.B.map AV.str).length=p.B.length:=x8b _;repeat' ((first|(refine gX ?_;intros)|refine dA ?_|((first|apply bD|apply bE|apply bN|apply bB)<;>intro _<;>try omega))<;>conv=>whnf)
 refine x1e ?_;refine ScopeK.inv ZP (c:=x1a) (RIx.st p tape watch fuel) RIx.lab (fun i=>MF p fuel i.c/\i.bok/\∃n,HQ p tape watch fuel n (JC p)=i.c) (fun i=>cfμ fuel i.c) q2i ?_ ?_ ?_
 .rintro ⟨c,D,u,bs,vs,it⟩ _;cases c<;>rfl
 .refine (show ∀(K:Exit->St->Prop),(∀l s',(∃i:RIx,i.lab=l/\(MF p fuel i.c/\i.bok/\∃n,HQ p tape watch fuel n (JC p)=i.c)/\Le Tryz.f21.ntmps s' (i.st p tape watch fuel))->K (.goto l) s')->W prog tab Tryz.f21.ntmps Jy x1a K _ from ?_) _ (fun _ _ h=>h);intro K R;conv=>whnf
  repeat' ((first|(refine gX ?_;intros)|refine dA ?_|refine cP P ?_|refine cP E ?_|((first|apply bD|apply bE|apply bN|apply bB)<;>intro _<;>try omega)|refine x9p ?_ ?_)<;>conv=>whnf)
  all_goals try (exfalso;omega)
  all_goals try contradiction
  refine LoopK.inv ZP (fun i:GIx=>gSt p tape watch fuel i.j i.bs) (fun i=>i.j<=p.B.length/\i.bs.length=i.j) (fun i=>p.B.length-i.j) ⟨0,[]⟩ ?_ ⟨x8i _,rfl⟩ ?_
  .refine Le.trans (Le.mk (H':=(gSt p tape watch fuel 0 []).H.tail) [(2,.own 114 1 []),(3,.own 171 1 []),(4,.own 2 1 []),(5,.own 2 1 []),(6,.own 183 2 [])] (by intro c o;simp only[x8s,z4y,or_false]at o;rcases o with rfl|rfl|rfl|rfl|rfl<;>exact⟨rfl,rfl⟩) (by decide) (by show(List.map _ _).Nodup;simp[gSt]) (sl':=(gSt p tape watch fuel 0 []).sl)
    (.r (.r (.r (.r (.r .nil)))))
    (.cons rfl (.obj (.r (.cons (.nil (.head _)) (.r (.r (.cons (.nil (.tail _ (.head _))) (.cons (.nil (.tail _ (.tail _ (.head _)))) (.r (.r (.r (.cons (.nil (.tail _ (.tail _ (.tail _ (.head _))))) (.cons (.nil (.tail _ (.tail _ (.tail _ (.tail _ (.head _)))))) .nil)))))))))))) (.new (by simp) (.new (by simp) (.new (by simp) (.new (by simp) (.new (by simp) (.cons rfl (.refl _) .nil)))))))) (E0 2500 2 (by rfl) (by decide))
  rintro⟨j,bs⟩ ⟨m,q⟩;simp only at m q⊢;have T:(bs.map cpA).length=bs.length:=x8b _;rcases x8o j p.B.length with Q|Q
  .unfold gSt;conv=>whnf
   repeat' ((first|(refine gX ?_;intros)|refine dA ?_|refine pA (n:=j) 1 8 (by omega) ?_|refine V1 ZP 7 2500 ?_|(refine⟨⟨rfl,rfl⟩,fun b I=>?_⟩)|((first|apply bD|apply bE|apply bN|apply bB)<;>intro _<;>try omega))<;>conv=>whnf)
   all_goals first
    |(exfalso;omega)
    |exact⟨⟨j+1,bs++[b]⟩,⟨Q,by simp[q]⟩,by simp only;omega,Le.of_eq (by simp only[x8a];rfl)⟩
  .obtain rfl:j=p.B.length:=by omega
   have G:OkM p bs (M00 p):=⟨by simp[M00,q],(fun f hf=>by cases hf),by simp[M00],x8i _,fun f hf=>by cases hf⟩;have s:=BY p tape watch bs [] (M00 p) G (x8i _) (mainN p) (prA p (mainN p)) L (Rp o L) (by omega) (by omega) [] (x8i _) (fun v hv=>by cases hv) 0;have hq:mHq p tape watch bs [] (M00 p) (YS bs [])=[(1000,.obj 113 [.p (.ip (sheetOf p).cells),.hd 1001 0 p.B.length,.p (XZ tape),.p (XZ watch),.hd 2001 0 0,.hd 2002 0 0,.j 0,.j 0,.j 0,.hd 2003 0 0,.hd 2004 0 0]),(1001,.own 114 1 (bs.map cpA)),(2001,.own 171 1 []),(2002,.own 2 1 []),
     (2003,.own 2 1 []),(2004,.own 183 2 []),(2500,.ext (.cells 2 (bs.map fun b=>(b,.int .i64 0)))),(2005,.own 114 1 [])]:=by
    unfold mHq mH mO M00;simp only;rw[q2t q,Ep q];rfl
   rw[hq]at s;unfold gSt;conv=>whnf
   repeat' ((first|(refine gX ?_;intros)|refine dA ?_|refine cP z ?_|((first|apply bD|apply bE|apply bN|apply bB)<;>intro _<;>try omega))<;>conv=>whnf)
   all_goals try (exfalso;omega)
   refine CallK.le ?_;refine CallK.nil 8 114 1 rfl (.cons rfl (.cons rfl (.row (.cons rfl .nil)))) ?_;refine cJ [(1000,0),(1001,2),(2001,3),(2002,4),(2003,5),(2004,6),(2500,2500),(2005,8)] 0 s ?_;rintro l' H' ⟨nb,rfl,rfl,Z⟩;conv=>whnf
   have d:(bs++nb).length=(KV p (mainN p) (prA p (mainN p)) [] 0 (M00 p)).mem.length:=by
    unfold KV M00;simp only[x8m,z0b];omega
   refine⟨⟨[(2,.j fuel),(8,.ptr 1 0),(10,.ptr 0 0),(11,.ptr 7 0),(12,.j 0),(54,.j (Qn p (mainN p) (prA p (mainN p))))],rH p tape watch (bs++nb) [] (KV p (mainN p) (prA p (mainN p)) [] 0 (M00 p)) x6i⟩,?_,?_⟩
   .have hp:=R3 p o tape watch A fuel w 0 (bs++nb) [] x6i _ _ t d K (fun i s' m q x=>R i.lab s' ⟨i,rfl,⟨m▸(Bi o tape watch t (fun _ h=>by cases h)).1,q,1,m.symm⟩,x⟩);conv=>whnf
    conv at hp=>whnf
    exact hp
   .exact lE (hnd:=by show(List.map _ _).Nodup;simp[rH]) (hH:=.cons rfl (.refl _) (.cons rfl (.refl _) (.cons rfl (.refl _) (.cons rfl (.refl _) (.cons rfl (.refl _) (.cons rfl (.refl _) (.cons rfl (.refl _) (.cons rfl (.refl _) (.cons rfl (.obj (.r (.r (.cons (.p Sub.nils) (.r (.r (.r (.r (.r (.cons (.p Sub.nils) (.cons (.p (Sub.ff rfl)) (.cons (.p Sub.nils) (.cons (.p Sub.nils) (.cons (.p Sub.nils) (.r (.r (.r (.r .nil)))))))))))))))))) .nil)))))))))
 .rintro ⟨c,D,u,bs,vs,it⟩ ⟨F,I,n,C⟩;have e:=Bi o tape watch (p:=p) (fuel:=fuel) (c:=c) F;cases c with
  | next a M=>
    refine R3 p o tape watch A fuel w D bs vs it a M F I _ fun i s' m q x=>?_;obtain⟨N,O⟩:=e (fun _ h=>by cases h);exact⟨i,rfl,⟨m▸N,q,n+1,by rw[UB,C,m]⟩,m▸O,x⟩
  | back g M=>
    refine IL p o tape watch fuel w g bs vs it u M F I _ (fun i s' m q x=>?_) fun M' m=>?_
    .obtain ⟨N,O⟩:=e (fun _ h=>by cases h);exact⟨i,rfl,⟨m▸N,q,n+1,by rw[UB,C,m]⟩,m▸O,x⟩
    .exact z0f _ (x9b _) ⟨_,_,_,by rw[UB,C,m],rfl,rfl⟩
  | fin M=>
    refine q2l p tape watch fuel D u bs vs it M _ ?_;exact z0f _ (x9b _) ⟨_,_,_,C,rfl,rfl⟩
def O5(p:Pg)(hf:Fit p)(q:QP p=true)(tape watch:List Int)(o:tape.length<=10000000)(fuel:Int)(i:0<=fuel)(m:fuel<=1000000):SpecH prog 21 [.p (.agg p.cells),.p (XZ tape),.j fuel,.p (XZ watch)] [] (fun l H=>∃M,(∃n,HQ p tape watch fuel n (JC p)=.fin M)/\l=x2o M/\H=[(5,.own 2 1 (M.out.map (.int .i64))),(6,.own 183 2 (M.trace.map evA))]):=by
 refine SpecH.le (q8y p hf q tape watch o fuel i m) ?_;rintro _ _ ⟨n,M,bs,h,rfl,rfl⟩;exact⟨x2o M,_,lE,M,⟨n,h⟩,rfl,rfl⟩
def JA(l:List Int):aP 114 [XZ l,XZ l] .tt:=by
 refine sC BB func114 ?_;conv=>whnf
 have m:(l.map (AV.int .i64)).length=l.length:=x8b _;repeat' ((first|(refine gX ?_;intros)|refine dA ?_|((first|apply bD|apply bE|apply bN|apply bB)<;>intro _<;>try omega))<;>conv=>whnf)
 all_goals try (exfalso;omega)
 refine lI (fun j:Nat=>⟨[(0,.p (XZ l)),(1,.p (XZ l)),(12,.p (.int .i64 (l.map (AV.int .i64)).length)),(13,.j j)],[]⟩) (fun j=>j<=l.length) (fun j=>l.length-j) 0 (x8i _) ?_;intro j i;rcases x8o j l.length with h|h
 .conv=>whnf
  repeat' ((first|(refine gX ?_;intros)|refine dA ?_|((first|apply bD|apply bE|apply bN|apply bB)<;>intro _<;>try omega))<;>conv=>whnf)
  all_goals first
   |contradiction
   |(exfalso;simp_all;done)
   |exact nX (j+1) h
 .conv=>whnf
  repeat' ((first|(refine gX ?_;intros)|refine dA ?_|((first|apply bD|apply bE|apply bN|apply bB)<;>intro _<;>try omega))<;>conv=>whnf)
  exact⟨_,.p (Sub.refl _),rfl⟩
def NN(l:List (Int×List Int)):aP 57 [.sl (l.map evA),.sl (l.map evA)] .tt:=by
 refine sC FT func57 ?_;conv=>whnf
 have n:(l.map evA).length=l.length:=x8b _;repeat' ((first|(refine gX ?_;intros)|refine dA ?_|((first|apply bD|apply bE|apply bN|apply bB)<;>intro _<;>try omega))<;>conv=>whnf)
 all_goals try (exfalso;omega)
 refine lI (fun j:Nat=>⟨[(0,.p (.sl (l.map evA))),(1,.p (.sl (l.map evA))),(12,.p (.int .i64 (l.map evA).length)),(13,.j j)],[]⟩) (fun j=>j<=l.length) (fun j=>l.length-j) 0 (x8i _) ?_;intro j m;rcases x8o j l.length with h|h
 .have i:=JA l[j].2;conv=>whnf
  repeat' ((first|(refine gX ?_;intros)|refine dA ?_|refine cP i ?_|((first|apply bD|apply bE|apply bN|apply bB)<;>intro _<;>try omega))<;>conv=>whnf)
  all_goals first
   |contradiction
   |(exfalso;simp_all;done)
   |exact nX (j+1) h
 .conv=>whnf
  repeat' ((first|(refine gX ?_;intros)|refine dA ?_|((first|apply bD|apply bE|apply bN|apply bB)<;>intro _<;>try omega))<;>conv=>whnf)
  exact⟨_,.p (Sub.refl _),rfl⟩
def X8(a b c:Int)(o:List Int)(T:AV):aP 56 [.agg [.int .i64 a,.int .i64 b,.int .i64 c,XZ o,T],.agg [.int .i64 a,.int .i64 b,.int .i64 c,XZ o,T]] .tt:=by
 refine sC BE func56 ?_;conv=>whnf
 have h:=JA o;repeat' ((first|(refine gX ?_;intros)|refine dA ?_|refine cP h ?_|((first|apply bD|apply bE|apply bN|apply bB)<;>intro _<;>try omega))<;>conv=>whnf)
 all_goals first
  |contradiction
  |(exfalso;simp_all;done)
  |exact⟨_,.p (Sub.refl _),rfl⟩
def KO(a b c:Int)(o:List Int)(l:List (Int×List Int)):aP 23 [.agg [.int .i64 a,.int .i64 b,.int .i64 c,XZ o,.sl (l.map evA)],.agg [.int .i64 a,.int .i64 b,.int .i64 c,XZ o,.sl (l.map evA)]] .tt:=by
 refine sC BI func23 ?_;conv=>whnf
 have h:=NN l;have i:=X8 a b c o (.sl (l.map evA));repeat' ((first|(refine gX ?_;intros)|refine dA ?_|refine cP i ?_|refine cP h ?_|((first|apply bD|apply bE|apply bN|apply bB)<;>intro _<;>try omega))<;>conv=>whnf)
 all_goals first
  |contradiction
  |(exfalso;simp_all;done)
  |exact⟨_,.p (Sub.refl _),rfl⟩
def IM{β:Lab}{j:Heap}(h:H.Perm j):owns β H=owns β j:=
 funext fun b=>propext ⟨fun⟨k,i,r⟩=>⟨k,(h.map _).mem_iff.1 i,r⟩,fun⟨k,i,r⟩=>⟨k,(h.map _).mem_iff.2 i,r⟩⟩
def RZ{P:Program}{N:Nat}{g:FuncId}{args:List LV}{j:Option Nat}{s:St}{K:St->Prop}(o:Heap)(hp:s.H.Perm o)(h:CallK P N g args j ⟨s.sl,o⟩ K):CallK P N g args j s K:=by
 refine⟨fun σ β a w i n d hv=>?_⟩;have m:Rel N σ β ⟨s.sl,o⟩ a w:=⟨i.size,i.defers,i.G,⟨i.heap.mem,fun k c z=>i.heap.chunks k c (hp.mem_iff.2 z),(hp.map _).nodup_iff.1 i.heap.nodup,fun k q=>i.heap.apart k ((hp.map _).mem_iff.2 q),fun k q A r=>i.heap.inj k ((hp.map _).mem_iff.2 q) A ((hp.map _).mem_iff.2 r)⟩⟩;obtain⟨B,C⟩:=h.ok σ β a w m n d hv;have e:=IM (β:=β) hp;exact⟨B,C.mono fun D w' ⟨u,σ',β',s',b,x,t,l⟩=>⟨u,σ',β',s',b,x,t,⟨l.le,by rw[e];exact l.O,by rw[e];exact l.mem,by rw[e];exact l.own,l.pin⟩⟩⟩
def tH(tape:List Int)(i:Nat)(h:Int):Heap:=[(0,.own 2 1 ((tape.map (AV.int .i64)).set i (.int .i64 h)))]
theorem x1o{sl:List (Nat×LV)}:∀{sl0:List (Nat×LV)},(∀x∈sl0,getS sl x.1=x.2)->∀i,getS sl0 i=getS sl i\/getS sl0 i=.p .any
 |[],_,_=>.inr rfl
 | (j,v)::r,h,i=>by
   simp only[getS];by_cases e:j=i
   .subst e;rw[z0d,x9z];exact .inl (h _ x8l).symm
   .rw [show(j==i)=false by simp[e],x9k];exact x1o (fun x l=>h x (x8r _ l)) i
def nH(M:Mc):Heap:=[(1,.obj 46 [.p (.int .i64 M.fin),.p (.int .i64 M.steps),.p (.int .i64 M.reads),.hd 15 0 M.out.length,.hd 16 0 M.trace.length]),(15,.own 2 1 (M.out.map (.int .i64))),(16,.own 183 2 (M.trace.map evA))]
def Bl{a b c:Int}{q r s u:Nat}{o:List Int}{t:List (Int×List Int)}{w x:TypeId}(z:getH H q=some (.own w 1 (o.map (.int .i64))))(d:getH H r=some (.own x 2 (t.map evA)))(m:s=o.length)(n:u=t.length):
  Frz H (.agg [.p (.int .i64 a),.p (.int .i64 b),.p (.int .i64 c),.hd q 0 s,.hd r 0 u]) (.agg [.int .i64 a,.int .i64 b,.int .i64 c,XZ o,.sl (t.map evA)]):=
 .agg rfl fun j l c h i=>by
  match j,h,i with
  |0,h,i=>cases h;cases i;exact .p (Sub.refl _)
  |1,h,i=>cases h;cases i;exact .p (Sub.refl _)
  |2,h,i=>cases h;cases i;exact .p (Sub.refl _)
  |3,h,i=>cases h;cases i;exact .hd z (by rw[x8b];exact m)
  |4,h,i=>cases h;cases i;exact .hd d (by rw[x8b];exact n)
  |j+5,h,_=>cases h
def FK(p:Pg)(n k:Int)(tape:List Int)(fuel i:Int):aP 4 [.agg p.cells,.int .i64 n,.int .i64 k,XZ tape,.int .i64 fuel,.int .i64 i] .tt:=by
 refine sC GV func4 ?_;conv=>whnf
 cases w:q4p p with
 | false=>
   have hno:¬gPg p<=20000:=by unfold q4p at w;simpa using w
   repeat' ((first|(refine gX ?_;intros)|refine cP (XS _) ?_|refine dA ?_|refine cP XX ?_|((first|apply bD|apply bE|apply bN|apply bB)<;>intro _<;>try omega))<;>conv=>whnf)
   all_goals first
    |exact⟨_,.p (Sub.refl _),rfl⟩
    |(exfalso;simp_all;done)
 | true =>
   have hf:Fit p:=x0j w;have F:gPg p<=20000:=by unfold q4p at w;simpa using w
   have K:=X7 p hf 60;have htm:(tape.map (AV.int .i64)).length=tape.length:=x8b _;have hgm:(p.B.map AV.str).length=p.B.length:=x8b _;by_cases O:Dg p 60=true/\0<=fuel/\fuel<=300/\tape.length<=100/\1<=p.B.length
   .obtain ⟨hs,u,hf1,htl,hg1⟩:=O;rw[hs]at K;have g:=Oz hs;have hgl:=(XQ g).1;have P:=Xz p n (ED g);obtain⟨kf,f,N,hn,hw⟩:=IC g n;rw[<-hn]at P;have V:=BG k (p.B.map AV.str).length (by omega);obtain⟨hk0,hk1⟩:=J1 (n:=k) (k:=(p.B.map AV.str).length) (by omega);obtain⟨j,hkk⟩ : ∃j:Nat,Ri k (p.B.map AV.str).length=j:=⟨_,(z2h hk0).symm⟩;rw[hkk]at V hk0 hk1;by_cases hm:f.name=mainS
    .have G:=HU p;rw[hm]at P;repeat' ((first|(refine gX ?_;intros)|refine cP (XS _) ?_|refine dA ?_|refine cP XX ?_|refine cP K ?_|refine cP P ?_|refine cP G ?_|refine cP V ?_|((first|apply bD|apply bE|apply bN|apply bB)<;>intro _<;>try omega))<;>conv=>whnf)
     all_goals first
      |contradiction
      |(exfalso;omega)
      |exact⟨_,.p (Sub.refl _),rfl⟩
    have Y:=EW g N F;have G:=LG p hf g F kf f N hm;have hI:=Ly p hf f.name;have hO:=Fc p hf f.name;have Z:j<p.B.length:=by omega
    have hgv:(p.B.map AV.str)[j]?=some (.str p.B[j]):=by rw[x9x,x8p Z];rfl
    have A:=QE (I6 p f.name) p.B[j];have D:=QE (outsN p f.name) p.B[j];cases hq:QP (drvP p f)with
    | false=>
      rw[hq]at G;repeat' ((first|(refine gX ?_;intros)|refine cP (XS _) ?_|refine dA ?_|refine cP XX ?_|refine cP K ?_|refine cP P ?_|refine cP G ?_|refine cP V ?_|((first|apply bD|apply bE|apply bN|apply bB)<;>intro _<;>try omega))<;>conv=>whnf)
      all_goals first
       |contradiction
       |(exfalso;omega)
       |exact⟨_,.p (Sub.refl _),rfl⟩
    | true =>
      rw[hq]at G;cases L:inS (I6 p f.name) p.B[j]with
      | true=>
        rw[L]at A;repeat' ((first|(refine gX ?_;intros)|refine cP (XS _) ?_|refine dA ?_|refine cP XX ?_|refine cP K ?_|refine cP P ?_|refine cP G ?_|refine cP V ?_|refine cP hI ?_|refine cP A ?_|((first|apply bD|apply bE|apply bN|apply bB)<;>intro _<;>try omega))<;>conv=>whnf)
        all_goals first
         |contradiction
         |(exfalso;omega)
         |exact⟨_,.p (Sub.refl _),rfl⟩
      | false=>
        rw[L]at A;have z:p.B[j]?=some p.B[j]:=x8p Z;have hno:p.B[j]∉(bookOf p).ins.getD kf []:=fun hh=>by
         rw[<-(TQ g N).2.2,<-VV,L]at hh;cases hh
        have hR1:=O5 (drvP p f) Y hq tape [] (by omega) fuel u (by omega);have hR2:=O5 (drvP p f) Y hq (tape.set j i) [] (by rw[z0h];omega) fuel u (by omega);repeat' ((first|(refine iM fun _=>?_)|refine cP (XS _) ?_|refine dA ?_|refine x9p rfl ?_|refine aD ?_|refine aR ?_|(refine iA fun _=>?_)|refine IdxK.xs (by omega) ?_|refine RR (by omega) ?_|refine ByteK.at (by omega) ?_|refine wI ?_|refine cP XX ?_|refine cP K ?_|refine cP P ?_|refine cP G ?_|refine cP V ?_|refine cP hI ?_|refine cP A ?_|refine z4w (fun x Q=>absurd Q z4y) rfl ?_|(refine z5w rfl rfl (by show(0+(tape.map (AV.int .i64)).length)*8<=140737488355328;omega) (by show 0+(tape.map (AV.int .i64)).length<=9223372036854775807;omega) (fun x Q=>by obtain⟨y,_,rfl⟩:=x8c.1 Q;exact⟨rfl,rfl⟩) ?_)|refine iO j ?_|refine z3h j 0 (.int .i64 (tape.getD j 0)) (.int .i64 i) (by show(0+j)*1=j*1+0;omega) (Tm (by omega)) (x9h 1) rfl ?_|((first|apply bD|apply bE|apply bN|apply bB)<;>intro _<;>try omega)|(refine cJ [] 10 hR1 ?_ (hH:=z1x);rintro l' H' ⟨M,⟨m,d⟩,rfl,rfl⟩)|fail)<;>conv=>whnf)
        all_goals try contradiction
        all_goals try (exfalso;omega)
        all_goals try exact⟨_,.p (Sub.refl _),rfl⟩
        all_goals
         refine RZ (tH tape j i++nH M) (List.perm_append_comm (l₁:=nH M) (l₂:=tH tape j i)) ?_;refine Jz (avs:=[.agg (drvP p f).cells,.sl ((tape.map (AV.int .i64)).set j (.int .i64 i)),.int .i64 fuel,.nils]) (tH tape j i) (nH M)
          [(2,.p (.int .i64 j)),(3,.p (XZ tape)),(5,.p (.int .i64 i)),(6,.p (.ip p.cells)),(13,.p (.str f.name)),(17,.ptr 1 0)] rfl (.cons (.p (Sub.refl _)) (.cons (.hd rfl (by simp)) (.cons (.p (Sub.refl _)) (.cons (.p (Sub.refl _)) .nil)))) (x1o fun x Q=>?_) ?_
         .simp only[x8s,z4y,or_false]at Q;rcases Q with rfl|rfl|rfl|rfl|rfl|rfl<;>rfl
         refine cJ [] 20 hR2 ?_ (ha:=(x9t (x9b _) (x9t (z2v (Sub.of_eq (by unfold XZ;rw[z0o]))) (x9t (x9b _) (x9t (z2v Sub.nils) z1w))))) (hH:=z1x);rintro l' H' ⟨M',⟨m',q⟩,rfl,rfl⟩;have hE:=IQ g hq N hm z hno (y:=i) (by omega) u d q;have E:=fun U=>SY g hq N hm u d U;have J:=fun U=>SY g hq N hm u q U;clear d q;obtain⟨s1,m1,fin,steps,reads,out,trace⟩:=M;obtain⟨s2,m2,T,s,r,l,t⟩:=M';obtain⟨e1,e2,e3,e4,R⟩:=hE;simp only at e1 e2 e3 e4 R E J;subst e1 e2 e3 e4;unfold nH x2o;simp only;by_cases U:T=1;rotate_left
         .conv=>whnf
          repeat' ((first|(refine gX ?_;intros)|refine dA ?_|((first|apply bD|apply bE|apply bN|apply bB)<;>intro _<;>try omega))<;>conv=>whnf)
          all_goals first
           |contradiction
           |(exfalso;omega)
           |exact⟨_,.p (RT (z0d _)),rfl⟩
         subst U;cases o:inS (outsN p f.name) p.B[j]with
         | true=>
           rw[o]at D;obtain rfl:l=out:=by
            rcases R rfl with e|⟨e,_⟩
            .exact e
            .exact absurd (VV.1 o) (by rw[(TQ g N).2.1];exact e)
           have I:=KO 1 s r l t;conv=>whnf
           repeat' ((first|(refine gX ?_;intros)|refine dA ?_|refine cP hO ?_|refine cP D ?_|(refine QH I (.cons (Bl rfl rfl rfl rfl) (.cons (Bl rfl rfl rfl rfl) .nil)) (by rintro _ rfl;rfl) ?_;rintro _ rfl)|((first|apply bD|apply bE|apply bN|apply bB)<;>intro _<;>try omega))<;>conv=>whnf)
           all_goals first
            |contradiction
            |(exfalso;omega)
            |exact⟨_,.p (Sub.refl _),rfl⟩
         | false=>
           rw[o]at D;have c:p.B[j]∉outsN p f.name:=fun h=>by
            rw[VV.2 h]at o;cases o
           have g1:=(E rfl).gl j _ z c;have g2:=(J rfl).gl j _ z c;have hou:=(E rfl).ou;have b:l.length=out.length:=by
            rcases R rfl with e|⟨_,e⟩
            .rw [e]
            .rw [e,z0h]
           have hmd:manyD p f=p.B.length+f.C.length:=rfl;obtain⟨a,ha⟩ : ∃a,a=out.length-p.B.length+j:=⟨_,rfl⟩;rw[show out.length-manyD p f+(f.C.length+j)=a by omega]at g1;have hgo:(tape.set j i).getD j 0=i:=by rw[x8n,z1m (by omega),z1k]
           rw[b,show out.length-manyD p f+(f.C.length+j)=a by omega,hgo]at g2;have hz:l.set a 0=out.set a 0:=by
            rcases R rfl with e|⟨_,e⟩
            .rw [e]
            .rw [e,<-ha,List.set_set]
           have hal:a<out.length:=by omega
           have L1:(out.map (AV.int .i64))[a]?=some (.int .i64 (tape.getD j 0)):=by rw[Tm hal,g1]
           have L2:(l.map (AV.int .i64))[a]?=some (.int .i64 i):=by rw[Tm (by omega),g2]
           have I:=KO 1 s r (out.set a 0) t;have hom:(out.map (AV.int .i64)).length=out.length:=x8b _;have hom':(l.map (AV.int .i64)).length=out.length:=(x8b _).trans b;have hGo:p.B.length<=out.length:=by omega
           clear R E J hou;conv=>whnf
           repeat' ((first|(refine gX ?_;intros)|refine DrawK.of (id:=22) ZP mixed (.cons 0 true (.cons 1 true (.cons 2 true (.cons 6 true (.cons 3 false (.cons 5 false (.fork 4 (.cons 7 true (.cons 8 true (.cons 9 true .nil))) 7 (.cons 4 true (.cons 8 true (.cons 9 true .nil)))))))))) (by kernel_rfl) ?_|refine dA ?_|refine cP hO ?_|refine cP D ?_|refine iO a ?_|refine z4b a 0 (.int .i64 (tape.getD j 0)) (by show(0+a)*1=a*1+0;omega) L1 ?_|refine z4b a 0 (.int .i64 i) (by show(0+a)*1=a*1+0;omega) L2 ?_|refine z3h a 0 (.int .i64 (tape.getD j 0)) (.int .i64 0) (by show(0+a)*1=a*1+0;omega) L1 (x9h 1) rfl ?_|refine z3h a 0 (.int .i64 i) (.int .i64 0) (by show(0+a)*1=a*1+0;omega) L2 (x9h 1) rfl ?_|(refine QH I (.cons (Bl (by rw[z0o];rfl) rfl (by simp) rfl) (.cons (Bl (by rw[<-hz,z0o];rfl) rfl (by simp[b]) rfl) .nil)) (by rintro _ rfl;rfl) ?_;rintro _ rfl)|((first|apply bD|apply bE|apply bN|apply bB)<;>intro _<;>try omega)|refine x9p ?_ ?_)<;>conv=>whnf)
           all_goals first
            |contradiction
            |(exfalso;omega)
            |exact⟨_,.p (Sub.refl _),rfl⟩
            |(rename_i ha;exact absurd (x4x tape rfl _) ha)
   .cases hs:Dg p 60;all_goals
     rw[hs]at K O;repeat' ((first|(refine gX ?_;intros)|refine cP (XS _) ?_|refine dA ?_|refine cP XX ?_|refine cP K ?_|((first|apply bD|apply bE|apply bN|apply bB)<;>intro _<;>try omega))<;>conv=>whnf)
     all_goals first
      |contradiction
      |exact⟨_,.p (Sub.refl _),rfl⟩
      |exact absurd ⟨rfl,by omega,by omega,by omega,by omega⟩ O
end Go.Ab
