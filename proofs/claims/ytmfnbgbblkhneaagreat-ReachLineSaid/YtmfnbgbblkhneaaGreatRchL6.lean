/- Contracts of functions that are handed memory of the caller's own ('SpecH'): proved by their text, used at a call under other labels. Conditions: the table of types is the program's own. -/
import Derived.Test.YtmfnbgbblkhneaaGreatRchL5
set_option linter.unusedSimpArgs false
set_option linter.unusedVariables false
set_option maxRecDepth 100000
set_option maxHeartbeats 16000000
open Nat (blt)
namespace Go.Ab
variable {K:St->Prop}{e2 sz:Nat}{hole:List Nat}{rows:List (List AV)}{s:St}{v:Value}
inductive LSub:LV->LV->Prop
 |refl (l:LV):LSub l l
 |of_eq {l l':LV} (h:l=l'):LSub l l'
 |p {a b:AV} (h:Sub a b):LSub (.p a) (.p b)
theorem LSub.rep{l l':LV}(h:LSub l l'){σ:Mem}{β:Lab}(hr:RepL σ β l v):RepL σ β l' v:=by
 cases h with
 |refl=>exact hr
 |of_eq h=>exact h▸hr
 | p h=>cases hr with
   |p hr=>exact .p (h _ _ hr)
structure SpecH(P:Program)(f:FuncId)(args:List LV)(H:Heap)(R:LV->Heap->Prop):Prop where
 go:∀(vals:Array Value)(w:World),(callFunc f vals).run P w=.ok (.enter f vals) w
 ok:∀(σ:Mem)(β:Lab)(w:World)(vals:Array Value),vals.size=args.length->(∀(j:Nat)(l:LV),args[j]?=some l->RepL σ β l (vals.getD j undef))->HRel σ β H w->
  Calls P f vals w fun e w'=>∃l u σ' β' H',e=.returned u/\R l H'/\RepL σ' β' l u/\HRel σ' β' H' w'/\Later σ β H w σ' β' H' w'
inductive RetHK(H:Heap)(l:LV)(R:LV->Heap->Prop):Prop
 |mk (l':LV) (h:LSub l l') (hR:R l' H)
def x1q(T:Tab)(rs:Array ResultVar)(R:LV->Heap->Prop):Exit->St->Prop
 |.ret,s |.normal,s=>E0 T s rs.toList fun vs=>YF (Dx vs) fun l=>RetHK s.H l R
 |_,_=>False
def Zs:List LV->Nat->List (Nat×LV)
 |[],_=>[]
 |l::r,i=>(i,l)::Zs r (i+1)
theorem N4:∀(args:List LV)(k i:Nat),getS (Zs args k) i=if k<=i then(args[i-k]?).getD (.p .any)else .p .any
 |[],k,i=>by simp[Zs,getS]
 | a::r,k,i=>by
   simp only[Zs,getS,Xd,N4 r];by_cases h:k=i
   ·subst h;simp
   ·rw[if_neg h];by_cases h1:k<=i
    ·rw[if_pos h1,if_pos (by omega)];rw[show i-k=(i-(k+1))+1 by omega];simp
    ·rw[if_neg h1,if_neg (by omega)]
theorem SpecH.body{P:Program}{T:Tab}(info:Info)(hT:TabOK P T){f:FuncId}{fn:Func}{c:Code}(hf:P.funcs[f]?=some fn)(hb:fn.body=some c)(hgo:∀(vals:Array Value)(w:World),(callFunc f vals).run P w=.ok (.enter f vals) w){args:List LV}{H:Heap}(hlen:args.length<=fn.ntmps){R:LV->Heap->Prop}(h:W P T fn.ntmps info c (x1q T fn.results R) ⟨Zs args 0,H⟩):SpecH P f args H R:=by
 refine⟨hgo,fun σ β w vals h1 h2 h3=>calls_of_wp hf hb ?_⟩;have hrel:Rel fn.ntmps σ β ⟨Zs args 0,H⟩ {tmps:=vals++Array.replicate (fn.ntmps-vals.size) undef,defers:=[]} w:=by
  refine⟨by simp;omega,rfl,fun i=>?_,h3⟩;show RepL σ _ (getS (Zs args 0) i) _;rw[N4,if_pos (x3z i)];cases hi:args[i-0]?with
  |none=>exact .p (.any _)
  | some c=>
    simp only[Nat.sub_zero]at hi;have hlt:i<vals.size:=by rw[h1];exact(x2o.1 hi).1
    have:=h2 i c hi;have he:(vals++Array.replicate (fn.ntmps-vals.size) undef).getD i undef=vals.getD i undef:=by simp[x9z,hlt]
    show RepL σ _ c ((vals++Array.replicate (fn.ntmps-vals.size) undef).getD i undef);rw[he];exact this
 refine wp_mono ((KT hT c _ _ h).ok σ β _ w hrel) fun e a' w' ⟨σ',β',s',hK,hr',hl⟩=>?_;have fin:E0 T s' fn.results.toList (fun vs=>YF (Dx vs) fun l=>RetHK s'.H l R)->a'.defers=[]/\∃v,(results fn a'.tmps).run P w'=.ok v w'/\∃l u σ' β' H',Ending.returned v=Ending.returned u/\R l H'/\RepL σ' β' l u/\HRel σ' β' H' w'/\Later σ β H w σ' β' H' w':=fun hres=>by
  obtain⟨ls,u,hR,hrep,hrun⟩:=Cv hT hr' hres;rw[XW]at hR;obtain⟨l',hs,hR⟩:=hR;exact⟨hr'.defers,u,hrun,l',u,σ',β',s'.H,rfl,hR,hs.rep hrep,hr'.heap,hl⟩
 cases e with
 |normal=>exact fin hK
 |ret=>exact fin hK
 |_=>exact hK.elim
def lkp:List (Nat×Nat)->Nat->Option Nat
 |[],_=>none
 |(a,b)::r,k=>bif a==k then some b else lkp r k
theorem Lc:∀{l:List (Nat×Nat)}{a b:Nat},lkp l a=some b->(a,b)∈l
 |[],_,_,h=>by cases h
 | (x,y)::r,a,b,h=>by
   simp only[lkp]at h;by_cases hx:x=a
   ·subst hx;simp at h;subst h;exact x2r
   ·have:(x==a)=false:=by simp[hx]
    rw[this,x3t]at h;exact x2c _ (Lc h)
theorem T2:∀{l:List (Nat×Nat)}{a b:Nat},(l.map (·.1)).Nodup->(a,b)∈l->lkp l a=some b
 |[],_,_,_,h=>by cases h
 | (x,y)::r,a,b,hn,h=>by
   simp only[x3l,x4r]at hn;simp only[lkp];rcases x2i.1 h with h|h
   ·cases h;simp
   ·have hx:x≠a:=fun e=>hn.1 (e▸x3q.2 ⟨_,h,rfl⟩);have:(x==a)=false:=by simp[hx]
    rw[this,x3t];exact T2 hn.2 h
def LV.ren(g:Nat->Option Nat):LV->LV
 |.p a=>.p a
 | .ptr k o=>match g k with
   |some j=>.ptr j o
   |none=>.p .any
 | .hd k o n=>match g k with
   |some j=>.hd j o n
   |none=>.p .any
 |.agg ls=>.agg (rens g ls)
 |.tup ls=>.tup (rens g ls)
 | .ext k d=>match g k with
   |some j=>.ext j d
   |none=>.p .any
where rens (g:Nat->Option Nat):List LV->List LV
 |[]=>[]
 |l::r=>LV.ren g l::rens g r
theorem R9(g:Nat->Option Nat):∀ls:List LV,LV.ren.rens g ls=ls.map (LV.ren g)
 |[]=>rfl
 |l::r=>by rw[LV.ren.rens,R9 g r];rfl
theorem RepL.ren{σ:Mem}{β γ:Lab}{g:Nat->Option Nat}(hg:∀k j,g k=some j->γ j=β k){l:LV}{v:Value}(h:RepL σ β l v):RepL σ γ (l.ren g) v:=by
 induction h with
 |p h=>exact .p h
 | ptr k off i hk=>
   unfold LV.ren;cases hj:g k with
   |none=>exact .p (.any _)
   |some j=>exact .ptr j off i ((hg k j hj).trans hk)
 | hdn k hk=>
   unfold LV.ren;cases hj:g k with
   |none=>exact .p (.any _)
   |some j=>exact .hdn j ((hg k j hj).trans hk)
 | hd k off len i o hk hl ho=>
   unfold LV.ren;cases hj:g k with
   |none=>exact .p (.any _)
   |some j=>exact .hd j off len i o ((hg k j hj).trans hk) hl ho
 | ext k d i v hk hd=>
   unfold LV.ren;cases hj:g k with
   |none=>exact .p (.any _)
   |some j=>exact .ext j d i v ((hg k j hj).trans hk) hd
 | agg ls vs u hn hc hrr ih=>
   unfold LV.ren;rw[R9];refine .agg _ vs u (by simpa using hn) (fun j l hj=>?_) fun j l hj=>?_;all_goals
    rw[x2e]at hj;cases hq:ls[j]?with
    |none=>rw[hq]at hj;cases hj
    | some l'=>
      rw[hq]at hj;cases hj;first
       |exact hc j l' hq
       |exact ih j l' hq
 | tup ls vs u hn hc hrr ih=>
   unfold LV.ren;rw[R9];refine .tup _ vs u (by simpa using hn) (fun j l hj=>?_) fun j l hj=>?_;all_goals
    rw[x2e]at hj;cases hq:ls[j]?with
    |none=>rw[hq]at hj;cases hj
    | some l'=>
      rw[hq]at hj;cases hj;first
       |exact hc j l' hq
       |exact ih j l' hq
def Chunk.ren(g:Nat->Option Nat):Chunk->Chunk
 |.obj e cs=>.obj e (cs.map (LV.ren g))
 |.own e sz es=>.own e sz es
 |.ext d=>.ext d
theorem Chunk.holds.ren{σ:Mem}{β γ:Lab}{g:Nat->Option Nat}(hg:∀k j,g k=some j->γ j=β k){c:Chunk}{w:World}{k j:Nat}(hj:g k=some j)(h:c.holds σ β w k):(c.ren g).holds σ γ w j:=by
 cases c with
 | obj e cs=>
   obtain⟨i,vs,hi,hh,hn,hc⟩:=h;refine⟨i,vs,(hg k j hj).trans hi,hh,by simpa using hn,fun m l hm=>?_⟩;rw[x2e]at hm;cases hq:cs[m]?with
   |none=>rw[hq]at hm;cases hm
   | some l'=>
     rw[hq]at hm;cases hm;obtain⟨u,h1,h2⟩:=hc m l' hq;exact⟨u,h1,h2.ren hg⟩
 | own e sz es=>
   rcases h with⟨h1,h2⟩|⟨i,vs,hi,rest⟩
   ·exact .inl ⟨(hg k j hj).trans h1,h2⟩
   ·exact .inr ⟨i,vs,(hg k j hj).trans hi,rest⟩
 | ext d=>
   show d.holds σ (γ j) w;rw[hg k j hj];exact h
theorem RepL.agree{σ τ:Mem}{β γ:Lab}(hle:σ.le τ){l:LV}(h:RepL σ β l v)(hg:∀k,l.free k=false->γ k=β k):RepL τ γ l v:=by
 have aux:∀{ls:List LV}{k:Nat}{j:Nat}{l:LV},ls[j]?=some l->l.free k=false->LV.free.freeAll k ls=false:=fun {ls k j l} hj hl=>by
  cases h:LV.free.freeAll k ls with
  |false=>rfl
  | true=>
    have:=XY h j l hj;rw[hl]at this;cases this
 induction h with
 |p h=>exact .p (h.mono hle)
 |ptr k off i hk=>exact .ptr k off i ((hg k (by simp[LV.free])).trans hk)
 |hdn k hk=>exact .hdn k ((hg k (by simp[LV.free])).trans hk)
 |hd k off len i o hk hl ho=>exact .hd k off len i o ((hg k (by simp[LV.free])).trans hk) hl ho
 |ext k d i v hk hd=>exact .ext k d i v ((hg k (by simp[LV.free])).trans hk) hd
 |agg ls vs u hn hc hrr ih=>exact .agg ls vs u hn hc fun j l hj=>ih j l hj fun k hk=>hg k (by simpa[LV.free]using aux hj hk)
 |tup ls vs u hn hc hrr ih=>exact .tup ls vs u hn hc fun j l hj=>ih j l hj fun k hk=>hg k (by simpa[LV.free]using aux hj hk)
def killAll:List Nat->LV->LV
 |[],l=>l
 |k::r,l=>killAll r (l.kill k)
theorem W7:∀(ks:List Nat)(l:LV)(k:Nat),(killAll ks l).free k=false->l.free k=false/\k∉ks
 |[],_,_,h=>⟨h,by simp⟩
 | x::r,l,k,h=>by
   obtain⟨h1,h2⟩:=W7 r (l.kill x) k h;have h3:l.free k=false/\k≠x:=by
    unfold LV.kill at h1;cases hf:l.free x with
    |false=>rw[hf]at h1;cases h1
    | true=>
      rw[hf,x3p]at h1;exact⟨h1,fun e=>by subst e;rw[hf]at h1;cases h1⟩
   exact⟨h3.1,by simp[h3.2,h2]⟩
theorem RepL.killAll{σ:Mem}{β:Lab}:∀(ks:List Nat){l:LV}{v:Value},RepL σ β l v->RepL σ β (Ab.killAll ks l) v
 |[],_,_,h=>h
 |k::r,_,_,h=>RepL.killAll r (h.kill k)
inductive ArgsH(g:Nat->Option Nat):List LV->List LV->Prop
 |nil:ArgsH g [] []
 |cons {l l0:LV} {ls ls0:List LV} (h:LSub (l.ren g) l0) (hs:ArgsH g ls ls0):ArgsH g (l::ls) (l0::ls0)
theorem ArgsH.get{g:Nat->Option Nat}{ls ls0:List LV}(h:ArgsH g ls ls0):ls.length=ls0.length/\∀(j:Nat)(l0:LV),ls0[j]?=some l0->∃l,ls[j]?=some l/\LSub (l.ren g) l0:=by
 induction h with
 |nil=>exact⟨rfl,by simp⟩
 | cons h hs ih=>
   refine⟨by simp[ih.1],fun j l0 hj=>?_⟩;cases j with
   |zero=>simp at hj;subst hj;exact⟨_,rfl,h⟩
   |succ j=>exact ih.2 j l0 (by simpa using hj)
def CSub(c c':Chunk):Prop:=∀(σ:Mem)(β:Lab)(w:World)(k:Nat),c.holds σ β w k->c'.holds σ β w k
theorem CSub.refl(c:Chunk):CSub c c:=fun _ _ _ _ h=>h
theorem CSub.of_eq{c c':Chunk}(h:c=c'):CSub c c':=h▸CSub.refl c
inductive BlksH(g:Nat->Option Nat)(H:Heap):Heap->Prop
 |nil:BlksH g H []
 |cons {k j:Nat} {c c0:Chunk} {r:Heap} (hj:g j=some k) (hg:getH H j=some c) (h:CSub (c.ren g) c0) (hr:BlksH g H r):BlksH g H ((k,c0)::r)
theorem BlksH.get{g:Nat->Option Nat}{H H0:Heap}(h:BlksH g H H0){k:Nat}{c0:Chunk}(hk:(k,c0)∈H0):∃j c,g j=some k/\(j,c)∈H/\CSub (c.ren g) c0:=by
 induction h with
 |nil=>cases hk
 | cons hj hg h hr ih=>
   rcases x2i.1 hk with he|hk
   ·cases he;exact⟨_,_,hj,QG hg,h⟩
   ·exact ih hk
def GM(H:Heap):List Nat:=H.map (·.1)
def Jh(ρ:List (Nat×Nat))(off:Nat)(H':Heap)(k:Nat):Option Nat:=
 bif YR k (GM H')then match lkp ρ k with
  |some j=>some j
  |none=>some (k+off)
 else none
def W8:List Nat->Bool
 |[]=>true
 |k::r=>bif YR k r then false else W8 r
theorem JT:∀{l:List Nat},W8 l=true->l.Nodup
 |[],_=>x8f
 | k::r,h=>by
   unfold W8 at h;cases hm:YR k r with
   |true=>rw[hm]at h;cases h
   | false=>
     rw[hm,x3t]at h;refine x4r.2 ⟨fun hk=>?_,JT h⟩;rw[HD.2 hk]at hm;cases hm
def ZD(k:Nat):Bool:=Nat.ble 1000 k&&blt k 2000
def q6f(H':Heap)(ρ:List (Nat×Nat)):List Nat:=(ρ.filter fun x=> !(ZD x.1&&YR x.1 (GM H'))).map (·.2)
def q6o(ρ:List (Nat×Nat)):Bool:=W8 (ρ.map (·.1))&&W8 (ρ.map (·.2))&&ρ.all fun x=>ZD x.1 || !ZD x.2
def AF(ρ:List (Nat×Nat))(off:Nat)(s:St)(H':Heap):Bool:=
 W8 (GM H')&&W8 ((GM H').map fun k=>(Jh ρ off H' k).getD 0)&&(GM H').all fun k=>match lkp ρ k with
  |some _=>true
  |none=>WU (k+off) s
def Yw(f:LV->LV):List (Nat×LV)->(List (Nat×LV)->Prop)->Prop
 |[],K=>K []
 |(j,l)::r,K=>YF (f l) fun l=>Yw f r fun r=>K ((j,l)::r)
theorem WK{f:LV->LV}(hf:f (.p .any)=.p .any):∀{sl:List (Nat×LV)}{K:List (Nat×LV)->Prop},Yw f sl K->∃sl',K sl'/\∀i,getS sl' i=f (getS sl i)
 |[],_,h=>⟨[],h,fun _=>hf.symm⟩
 | (j,l)::r,K,h=>by
   simp only[Yw,XW]at h;obtain⟨sl',hK,hs⟩:=WK hf h;refine⟨_,hK,fun i=>?_⟩;simp only[getS];cases j==i
   ·exact hs i
   ·rfl
def Chunk.mapL(f:LV->LV):Chunk->Chunk
 |.obj e cs=>.obj e (cs.map f)
 |.own e sz es=>.own e sz es
 |.ext d=>.ext d
def Al(f:LV->LV)(c:Chunk)(K:Chunk->Prop):Prop:=
 match c with
 |.obj e cs=>DZ (cs.map f) fun cs=>K (.obj e cs)
 |.own e sz es=>K (.own e sz es)
 |.ext d=>K (.ext d)
theorem Qv(f:LV->LV)(c:Chunk)(K:Chunk->Prop):Al f c K=K (c.mapL f):=by cases c<;>simp only[Al,Chunk.mapL,WS]
def Pi(ρ2 ks:List Nat):Heap->(Heap->Prop)->Prop
 |[],K=>K []
 |(j,c)::r,K=>bif YR j ρ2 then Pi ρ2 ks r K else Al (killAll ks) c fun c=>Pi ρ2 ks r fun r=>K ((j,c)::r)
theorem NL{ρ2 ks:List Nat}:∀{H:Heap}{K:Heap->Prop},Pi ρ2 ks H K->∃H',K H'/\(GM H').Sublist (GM H)/\∀j c',(j,c')∈H'->j∉ρ2/\∃c,(j,c)∈H/\c'=c.mapL (killAll ks)
 |[],_,h=>⟨[],h,x8o _,by simp⟩
 | (j,c)::r,K,h=>by
   simp only[Pi,Qv]at h;cases hm:YR j ρ2 with
   | true=>
     rw[hm,x3p]at h;obtain⟨H',hK,h1,h2⟩:=NL h;exact⟨H',hK,h1.cons _,fun j' c' hj=>let ⟨h3,c0,h4,h5⟩:=h2 j' c' hj;⟨h3,c0,x2c _ h4,h5⟩⟩
   | false=>
     rw[hm,x3t]at h;obtain⟨H',hK,h1,h2⟩:=NL h;refine⟨_,hK,h1.cons_cons _,fun j' c' hj=>?_⟩;rcases x2i.1 hj with he|hj
     ·cases he;refine⟨fun hj=>?_,c,x2r,rfl⟩;rw[HD.2 hj]at hm;cases hm
     ·obtain⟨h3,c0,h4,h5⟩:=h2 j' c' hj;exact⟨h3,c0,x2c _ h4,h5⟩
def OY(g:Nat->Option Nat):Heap->Heap->(Heap->Prop)->Prop
 |[],F,K=>K F
 | (k,c)::r,F,K=>match g k with
   |none=>False
   |some j=>Al (LV.ren g) c fun c=>OY g r F fun r=>K ((j,c)::r)
theorem Gs{g:Nat->Option Nat}{F:Heap}:∀{H:Heap}{K:Heap->Prop},OY g H F K->∃H',K (H'++F)/\GM H'=(GM H).map (fun k=>(g k).getD 0)/\∀j c',(j,c')∈H'->∃k c,g k=some j/\(k,c)∈H/\c'=c.ren g
 |[],_,h=>⟨[],h,rfl,by simp⟩
 | (k,c)::r,K,h=>by
   simp only[OY,Qv]at h;cases hj:g k with
   |none=>rw[hj]at h;exact h.elim
   | some j=>
     rw[hj]at h;obtain⟨H',hK,h1,h2⟩:=Gs h;refine⟨(j,c.mapL (LV.ren g))::H',hK,by simp only[GM,x3l]at h1⊢;rw[h1];simp[hj],fun j' c' hm=>?_⟩;rcases x2i.1 hm with he|hm
     ·cases he;refine⟨k,c,hj,x2r,?_⟩;cases c<;>rfl
     ·obtain⟨k',c0,h3,h4,h5⟩:=h2 j' c' hm;exact⟨k',c0,h3,x2c _ h4,h5⟩
def q5m(ρ:List (Nat×Nat))(off N:Nat)(dst:Option Nat)(s:St)(l:LV)(H':Heap)(K:St->Prop):Prop:=
 bif AF ρ off s H' then
  Pi (ρ.map (·.2)) (q6f H' ρ) s.H fun F=>OY (Jh ρ off H') H' F fun H2=>Yw (killAll (q6f H' ρ)) s.sl fun sl=>YF (l.ren (Jh ρ off H')) fun l=>setD N sl dst l fun sl=>K ⟨sl,H2⟩
 else False
theorem Yx:∀ks:List Nat,killAll ks (.p .any)=.p .any
 |[]=>rfl
 | k::r=>by
   unfold killAll;have:LV.kill k (.p .any)=.p .any:=rfl;rw[this];exact Yx r
section
variable {P:Program}{N:Nat}{f:FuncId}{args args0:List LV}{dst:Option Nat}{s:St}{K:St->Prop}{H0:Heap}{R:LV->Heap->Prop}
theorem CallK.heap(ρ:List (Nat×Nat))(off:Nat)(ha:ArgsH (lkp (ρ.map fun x=>(x.2,x.1))) args args0)(hH:BlksH (lkp (ρ.map fun x=>(x.2,x.1))) s.H H0)(hs:SpecH P f args0 H0 R)(hρ:q6o ρ=true)(hn0:W8 (GM H0)=true)(h:∀l H',R l H'->q5m ρ off N dst s l H' K):CallK P N f args dst s K:=by
 simp only[q6o,x3h]at hρ;obtain⟨⟨hρ1,hρ2⟩,hρ3⟩:=hρ;have hρ1:=JT hρ1;have hρ2:=JT hρ2;have hin:∀{j k:Nat},lkp (ρ.map fun x=>(x.2,x.1)) j=some k->(k,j)∈ρ:=fun {j k} hj=>by
  obtain⟨⟨a,b⟩,h1,h2⟩:=x3q.1 (Lc hj);cases h2;exact h1
 refine⟨fun σ β a w hr vals hn hv=>⟨hs.go vals,?_⟩⟩;let βc:Lab:=fun k=>match lkp ρ k with
  |some j=>β j
  |none=>none
 have hβ:∀{k j:Nat},(k,j)∈ρ->βc k=β j:=fun {k j} hm=>by
  show(match lkp ρ k with
   |some j=>β j
   |none=>none)=β j
  rw[T2 hρ1 hm]
 have hgc:∀j k,lkp (ρ.map fun x=>(x.2,x.1)) j=some k->βc k=β j:=fun j k hj=>hβ (hin hj);have hc0:∀k c0,(k,c0)∈H0->∃j c,(k,j)∈ρ/\(j,c)∈s.H/\c0.holds σ βc w k:=fun k c0 hk=>by
  obtain⟨j,c,h1,h2,h3⟩:=hH.get hk;exact⟨j,c,hin h1,h2,h3 _ _ _ _ ((hr.heap.chunks j c h2).ren hgc h1)⟩
 have hl0:∀k∈GM H0,∃j,(k,j)∈ρ/\j∈s.H.map (·.1):=fun k hk=>by
  obtain⟨⟨k',c0⟩,hm,rfl⟩:=x3q.1 hk;obtain⟨j,c,h1,h2,_⟩:=hc0 k' c0 hm;exact⟨j,h1,x3q.2 ⟨_,h2,rfl⟩⟩
 have hrel0:HRel σ βc H0 w:=by
  refine⟨hr.heap.mem,fun k c0 hk=>let ⟨_,_,_,_,h3⟩:=hc0 k c0 hk;h3,JT hn0,fun k hk i hi b hb=>?_,fun k hk k' hk' i i' hi hi' b hb hb'=>?_⟩
  ·obtain⟨j,h1,h2⟩:=hl0 k hk;rw[hβ h1]at hi;exact hr.heap.apart j h2 i hi b hb
  ·obtain⟨j,h1,h2⟩:=hl0 k hk;obtain⟨j',h1',h2'⟩:=hl0 k' hk';rw[hβ h1]at hi;rw[hβ h1']at hi';have:=hr.heap.inj j h2 j' h2' i i' hi hi' b hb hb';subst this;have e1:lkp (ρ.map fun x=>(x.2,x.1)) j=some k:=T2 (by simpa[Function.comp_def]using hρ2) (x3q.2 ⟨_,h1,rfl⟩);have e2:lkp (ρ.map fun x=>(x.2,x.1)) j=some k':=T2 (by simpa[Function.comp_def]using hρ2) (x3q.2 ⟨_,h1',rfl⟩);rw[e1]at e2;cases e2;rfl
 obtain⟨hlen,hget⟩:=ha.get;refine(hs.ok σ βc w vals (hn.trans hlen) (fun j l0 hj=>?_) hrel0).mono fun e w' ⟨l,u,σ',β',H',he,hR,hrep,hrel',hlat⟩=>?_
 ·obtain⟨l1,h1,h2⟩:=hget j l0 hj;exact h2.rep ((hv j l1 h1).ren hgc)
 have hback:=h l H' hR;unfold q5m at hback;cases hok:AF ρ off s H' with
 |false=>rw[hok]at hback;exact hback.elim
 | true =>
   rw [hok,x3p]at hback;simp only[AF,x3h,x4d]at hok;obtain⟨⟨_,hnd2⟩,hnew⟩:=hok;have hnd2:=JT hnd2;obtain⟨F,hback,hF1,hF2⟩:=NL hback;obtain⟨H2,hback,hH1,hH2⟩:=Gs hback;obtain⟨sl,hback,hsl⟩:=WK (Yx _) hback;rw[XW]at hback;have hg:∀{k j:Nat},Jh ρ off H' k=some j->k∈GM H'/\((k,j)∈ρ\/(j=k+off/\WU j s=true)):=fun {k j} hk=>by
    unfold Jh at hk;cases hm:YR k (GM H')with
    |false=>rw[hm]at hk;cases hk
    | true=>
      rw[hm,x3p]at hk;have hkm:=HD.1 hm;refine⟨hkm,?_⟩;have:=hnew k hkm;cases hl:lkp ρ k with
      | some j'=>
        rw[hl]at hk;cases hk;exact .inl (Lc hl)
      | none=>
        rw[hl]at hk this;cases hk;exact .inr ⟨rfl,this⟩
   have hginj:∀{k k' j:Nat},Jh ρ off H' k=some j->Jh ρ off H' k'=some j->k=k':=fun {k k' j} h1 h2=>by
    have m1:=(hg h1).1;have m2:=(hg h2).1;obtain⟨x,hx⟩:=x5s.1 m1;obtain⟨y,hy⟩:=x5s.1 m2;have hx':((GM H').map fun k=>(Jh ρ off H' k).getD 0)[x]?=some j:=by simp[hx,h1]
    have hy':((GM H').map fun k=>(Jh ρ off H' k).getD 0)[y]?=some j:=by simp[hy,h2]
    have hlt:x<((GM H').map fun k=>(Jh ρ off H' k).getD 0).length:=(x2o.1 hx').1;have hxy:=(List.getElem?_inj hlt hnd2).1 (hx'.trans hy'.symm);subst hxy;rw[hx]at hy;cases hy;rfl
   let βn:Lab:=fun j=>match(GM H').find? (fun k=>Jh ρ off H' k==some j)with
    |some k=>β' k
    |none=>β j
   have hβ1:∀k j,Jh ρ off H' k=some j->βn j=β' k:=fun k j hk=>by
    show(match(GM H').find? (fun k=>Jh ρ off H' k==some j)with
     |some k=>β' k
     |none=>β j)=β' k
    cases hf:(GM H').find? (fun k=>Jh ρ off H' k==some j)with
    | none=>
      have:=x6q.1 hf k (hg hk).1;simp[hk]at this
    | some k'=>
      have:=x6n hf;simp only[x6d]at this;rw[hginj hk this]
   have hβ2:∀j,(∀k,Jh ρ off H' k≠some j)->βn j=β j:=fun j hj=>by
    show(match(GM H').find? (fun k=>Jh ρ off H' k==some j)with
     |some k=>β' k
     |none=>β j)=β j
    cases hf:(GM H').find? (fun k=>Jh ρ off H' k==some j)with
    |none=>rfl
    | some k'=>
      have:=x6n hf;simp only[x6d]at this;exact absurd this (hj k')
   have hown0:∀b,owns βc H0 b->owns β s.H b:=by
    rintro b ⟨k,hk,i,hi,hb⟩;obtain⟨j,h1,h2⟩:=hl0 k hk;exact⟨j,h2,i,(hβ h1)▸hi,hb⟩
   have hkeep:∀j,(j∉q6f H' ρ)->(∀k,Jh ρ off H' k=some j->(k,j)∈ρ)->βn j=β j:=fun j hj hj'=>by
    by_cases hex:∃k,Jh ρ off H' k=some j
    ·obtain⟨k,hk⟩:=hex;have hm:=hj' k hk;have hp:ZD k=true:=by
      cases hp:ZD k with
      |true=>rfl
      | false=>
        exact absurd (x3q.2 ⟨(k,j),x4w.2 ⟨hm,by simp[hp]⟩,rfl⟩) hj
     simp only[ZD,x3h,x8c,blt]at hp;rw[hβ1 k j hk,hlat.pin k hp.1 (by omega),hβ hm]
    ·exact hβ2 j fun k hk=>hex ⟨k,hk⟩
   have husable:∀{k j:Nat},Jh ρ off H' k=some j->(∀c,(j,c)∉s.H)\/(k,j)∈ρ:=fun {k j} hk=>by
    rcases(hg hk).2 with h1|⟨_,h1⟩
    ·exact .inr h1
    ·exact .inl fun c hc=>((XL h1).1 j c hc).1 rfl
   have hrepC:∀{l:LV}{v:Value},RepL σ β l v->(∀k,WU k s=true->l.free k=true)->RepL σ' βn (killAll (q6f H' ρ) l) v:=fun {l v} hl hfr=>by
    refine(hl.killAll (q6f H' ρ)).agree hlat.le fun k hk=>?_;obtain⟨h1,h2⟩:=W7 _ _ _ hk;refine hkeep k h2 fun k' hk'=>?_;rcases(hg hk').2 with h3|⟨_,h3⟩
    ·exact h3
    ·rw[hfr k h3]at h1;cases h1
   have hslot:∀i,RepL σ' βn (getS sl i) (a.tmps.getD i undef):=fun i=>by
    rw[hsl];exact hrepC (hr.slots i) fun k hk=>(XL hk).2 i
   have hfrm:∀b,b<w.heap.size->¬owns βc H0 b->w'.heap[b]?=w.heap[b]?:=hlat.frm.block;have hfno:∀j∈s.H.map (·.1),j∉ρ.map (·.2)->∀i,β j=some i->∀b,i.has b->¬owns βc H0 b:=fun j hj hjr i hi b hib=>by
    rintro⟨k,hk,i0,hi0,hb⟩;obtain⟨j0,h1,h2⟩:=hl0 k hk;rw[hβ h1]at hi0;have:=hr.heap.inj j0 h2 j hj i0 i hi0 hi b hb hib;subst this;exact hjr (x3q.2 ⟨_,h1,rfl⟩)
   have hFlab:∀j∈GM F,j∉ρ.map (·.2)/\j∈s.H.map (·.1):=fun j hj=>by
    obtain⟨⟨j',c'⟩,hm,rfl⟩:=x3q.1 hj;obtain⟨h1,c,h2,_⟩:=hF2 j' c' hm;exact⟨h1,x3q.2 ⟨_,h2,rfl⟩⟩
   have hFβ:∀j∈GM F,βn j=β j:=fun j hj=>by
    obtain⟨h1,h2⟩:=hFlab j hj;refine hβ2 j fun k hk=>?_;rcases husable hk with h3|h3
    ·obtain⟨⟨j',c⟩,hm,rfl⟩:=x3q.1 h2;exact h3 c hm
    ·exact h1 (x3q.2 ⟨_,h3,rfl⟩)
   have hHlab:∀j∈GM H2,∃k,Jh ρ off H' k=some j/\k∈H'.map (·.1):=fun j hj=>by
    obtain⟨⟨j',c'⟩,hm,rfl⟩:=x3q.1 hj;obtain⟨k,c,h1,h2,_⟩:=hH2 j' c' hm;exact⟨k,h1,x3q.2 ⟨_,h2,rfl⟩⟩
   have hdisj:∀j∈GM H2,j∉GM F:=fun j hj hjF=>by
    obtain⟨k,hk,_⟩:=hHlab j hj;obtain⟨h1,h2⟩:=hFlab j hjF;rcases husable hk with h3|h3
    ·obtain⟨⟨j',c⟩,hm,rfl⟩:=x3q.1 h2;exact h3 c hm
    ·exact h1 (x3q.2 ⟨_,h3,rfl⟩)
   have hcase:∀j∈(H2++F).map (·.1),j∈GM H2\/j∈GM F:=fun j hj=>by
    rw[x3y,x3x]at hj;exact hj
   have hheap:HRel σ' βn (H2++F) w':=by
    refine⟨hrel'.mem,fun j c hj=>?_,?_,fun j hj i hi b hb=>?_,fun j hj j' hj' i i' hi hi' b hb hb'=>?_⟩
    ·rcases x3x.1 hj with hj|hj
     ·obtain⟨k,c0,h1,h2,rfl⟩:=hH2 j c hj;exact(hrel'.chunks k c0 h2).ren hβ1 h1
     ·have hjl:j∈GM F:=x3q.2 ⟨_,hj,rfl⟩;obtain⟨h1,c0,h2,rfl⟩:=hF2 j c hj;have hjs:j∈s.H.map (·.1):=x3q.2 ⟨_,h2,rfl⟩;have hh:=hr.heap.chunks j c0 h2;have hw:∀i,β j=some i->∀b,i.has b->w'.heap[b]?=w.heap[b]?:=fun i hi b hb=>hfrm _ (hr.heap.apart j hjs i hi b hb).2 (hfno j hjs h1 i hi b hb);cases c0 with
      | obj e cs=>
        obtain⟨i,vs,hi,hb,hn,hc⟩:=hh;refine⟨i,vs,(hFβ j hjl).trans hi,(hw i hi _ i.has_blk).trans hb,by simpa using hn,fun m l hm=>?_⟩;rw[x2e]at hm;cases hq:cs[m]?with
        |none=>rw[hq]at hm;cases hm
        | some l'=>
          rw[hq]at hm;cases hm;obtain⟨u,h3,h4⟩:=hc m l' hq;refine⟨u,h3,hrepC h4 fun k hk=>?_⟩;exact XY ((XL hk).1 j _ h2).2 m l' hq
      | own e sz es=>
        rcases hh with⟨h3,h4⟩|⟨i,vs,hi,h3,hb,h4,h5,h6,h7⟩
        ·exact .inl ⟨(hFβ j hjl).trans h3,h4⟩
        ·exact .inr ⟨i,vs,(hFβ j hjl).trans hi,h3,(hw i hi _ i.has_blk).trans hb,h4,h5,h6,fun m x hx=>⟨(h7 m x hx).1,fun j c hj=>let ⟨u,h8,h9⟩:=(h7 m x hx).2 j c hj;⟨u,h8,h9.mono hlat.le⟩⟩⟩
      | ext d=>
        show d.holds σ' (βn j) w';rw[hFβ j hjl];exact XC.holds.mono (d:=d) hh hlat.le hw
    ·rw[x3y];refine x4l.2 ⟨?_,hF1.nodup hr.heap.nodup,fun j hj j' hj' he=>hdisj j hj (he▸hj')⟩;show(GM H2).Nodup;rw[hH1];exact hnd2
    ·rcases hcase j hj with hj|hj
     ·obtain⟨k,hk,hkm⟩:=hHlab j hj;rw[hβ1 k j hk]at hi;exact hrel'.apart k hkm i hi b hb
     ·obtain⟨h1,h2⟩:=hFlab j hj;rw[hFβ j hj]at hi;have h3:=hr.heap.apart j h2 i hi b hb;refine⟨?_,x6a h3.2 hlat.frm.size⟩;cases hs:σ' b with
      |none=>rfl
      | some c=>
        rcases hlat.mem b h3.1 (by simp[hs])with h4|h4
        ·exact absurd h4 (hfno j h2 h1 i hi b hb)
        ·omega
    ·have mixed:∀{j j':Nat}{i i':BInfo},j∈GM H2->j'∈GM F->βn j=some i->βn j'=some i'->∀b,i.has b->¬i'.has b:=fun {j j' i i'} hj hj' hi hi' b hb hb'=>by
      obtain⟨k,hk,hkm⟩:=hHlab j hj;obtain⟨h1,h2⟩:=hFlab j' hj';rw[hβ1 k j hk]at hi;rw[hFβ j' hj']at hi';rcases hlat.own b ⟨k,hkm,i,hi,hb⟩with h3|h3
      ·exact hfno j' h2 h1 i' hi' b hb' h3
      ·have:=(hr.heap.apart j' h2 i' hi' b hb').2;omega
     rcases hcase j hj with hj|hj<;>rcases hcase j' hj' with hj'|hj'
     ·obtain⟨k,hk,hkm⟩:=hHlab j hj;obtain⟨k',hk',hkm'⟩:=hHlab j' hj';rw[hβ1 k j hk]at hi;rw[hβ1 k' j' hk']at hi';have:=hrel'.inj k hkm k' hkm' i i' hi hi' b hb hb';subst this;rw[hk]at hk';cases hk';rfl
     ·exact absurd hb' (mixed hj hj' hi hi' b hb)
     ·exact absurd hb (mixed hj' hj hi' hi b hb')
     ·rw[hFβ j hj]at hi;rw[hFβ j' hj']at hi';exact hr.heap.inj j (hFlab j hj).2 j' (hFlab j' hj').2 i i' hi hi' b hb hb'
   have hrelN:Rel N σ' βn ⟨sl,H2++F⟩ a w':=⟨hr.size,hr.defers,hslot,hheap⟩;obtain⟨sl',hK,hr''⟩:=hrelN.setD (hrep.ren hβ1) hback;refine⟨u,σ',βn,_,he,hK,hr'',hlat.le,⟨hlat.frm.os,hlat.frm.tape,hlat.frm.output,hlat.frm.drawn,hlat.frm.size,fun b hb hnb=>hlat.frm.block b hb fun ho=>hnb (hown0 b ho)⟩,fun b h0 h1=>(hlat.mem b h0 h1).imp (hown0 b) id,fun b hb=>?_,fun j h0 h1=>?_⟩
   ·obtain⟨j,hj,i,hi,hb⟩:=hb;rcases hcase j hj with hj|hj
    ·obtain⟨k,hk,hkm⟩:=hHlab j hj;rw[hβ1 k j hk]at hi;exact(hlat.own b ⟨k,hkm,i,hi,hb⟩).imp (hown0 b) id
    ·rw[hFβ j hj]at hi;exact .inl ⟨j,(hFlab j hj).2,i,hi,hb⟩
   ·by_cases hex:∃k,Jh ρ off H' k=some j
    ·obtain⟨k,hk⟩:=hex;rcases(hg hk).2 with h3|⟨_,h3⟩
     ·have h4:=x4d.1 hρ3 (k,j) h3;have hpj:ZD j=true:=by simp only[ZD,x3h,x8c,blt];omega
      replace h4:ZD k=true:=by simpa[hpj]using h4
      simp only[ZD,x3h,x8c,blt]at h4;rw[hβ1 k j hk,hlat.pin k h4.1 (by omega),hβ h3]
     ·have:=YW h3;omega
    ·exact hβ2 j fun k hk=>hex ⟨k,hk⟩
end
def LV.xfree(k:Nat):LV->Bool
 |.p _=>true
 |.ptr _ _=>true
 |.hd _ _ _=>true
 |.agg vs=>xfreeAll k vs
 |.tup vs=>xfreeAll k vs
 | .ext j d=>match d with
   |.map=>true
   |.iter=>true
   |_=> !(j==k)
where xfreeAll (k:Nat):List LV->Bool
 |[]=>true
 |v::r=>LV.xfree k v&&xfreeAll k r
theorem YY{k:Nat}:∀{vs:List LV},LV.xfree.xfreeAll k vs=true->∀(j:Nat)(l:LV),vs[j]?=some l->l.xfree k=true
 |[],_,_,_,h=>by simp at h
 | v::r,h,0,l,hj=>by
   simp only[LV.xfree.xfreeAll,x3h]at h;simp at hj;subst hj;exact h.1
 | v::r,h,j+1,l,hj=>by
   simp only[LV.xfree.xfreeAll,x3h]at h;exact YY h.2 j l (by simpa using hj)
def LV.xkill(k:Nat)(l:LV):LV:=bif l.xfree k then l else .p .any
theorem ZR(k:Nat)(l:LV):(l.xkill k).xfree k=true:=by
 unfold LV.xkill;cases h:l.xfree k
 ·rfl
 ·exact h
theorem RepL.subs{σ:Mem}{β:Lab}{l:LV}(hr:RepL σ β l v){k:Nat}{i i':BInfo}(hi:β k=some i)(hb:i'.blk=i.blk/\i'.cap=i.cap/\i'.sz=i.sz)(hf:l.xfree k=true):RepL σ (β.set k (some i')) l v:=by
 have hset:∀j,j≠k->(β.set k (some i')) j=β j:=fun j hj=>by simp[Lab.set,hj]
 have hsetk:(β.set k (some i')) k=some i':=by simp[Lab.set]
 induction hr with
 |p hr=>exact .p hr
 | ptr j off ij hk=>
   by_cases hj:j=k
   ·subst hj;rw[hi]at hk;cases hk;rw[<-hb.1];exact .ptr j off i' hsetk
   ·exact .ptr j off ij ((hset j hj).trans hk)
 | hdn j hk=>
   by_cases hj:j=k
   ·subst hj;rw[hi]at hk;cases hk
   ·exact .hdn j ((hset j hj).trans hk)
 | hd j off len ij o hk hl ho=>
   by_cases hj:j=k
   ·subst hj;rw[hi]at hk;cases hk;rw[<-hb.1,<-hb.2.1];exact .hd j off len i' o hsetk (by rw[hb.2.1];exact hl) (by rw[hb.2.1,hb.2.2];exact ho)
   ·exact .hd j off len ij o ((hset j hj).trans hk) hl ho
 |agg ls vs u hn hc _ ih=>exact .agg ls vs u hn hc (fun j l hl=>ih j l hl (YY (by simpa[LV.xfree]using hf) j l hl))
 |tup ls vs u hn hc _ ih=>exact .tup ls vs u hn hc (fun j l hl=>ih j l hl (YY (by simpa[LV.xfree]using hf) j l hl))
 | ext j d ij v hk hd=>
   by_cases hj:j=k
   ·subst hj;rw[hi]at hk;cases hk;cases d with
    |row=>simp[LV.xfree]at hf
    |rptr=>simp[LV.xfree]at hf
    |map=>exact .ext j .map i' v hsetk (by rw[show v=.map (some i.blk)from hd,<-hb.1];rfl)
    |iter=>exact .ext j .iter i' v hsetk (by rw[show v=.pointer (some ⟨i.blk,0,none⟩)from hd,<-hb.1];rfl)
   ·exact .ext j d ij v ((hset j hj).trans hk) hd
theorem RepL.xkill{σ:Mem}{β:Lab}{l:LV}{v:Value}(h:RepL σ β l v)(k:Nat):RepL σ β (l.xkill k) v:=by
 unfold LV.xkill;cases l.xfree k
 ·exact .p (.any _)
 ·exact h
theorem Chunk.holds.mapL{σ τ:Mem}{β γ:Lab}{w w':World}{j:Nat}{c:Chunk}(h:c.holds σ β w j){f:LV->LV}(hle:σ.le τ)(hf:∀l v,RepL σ β l v->RepL τ γ (f l) v)(hj:γ j=β j)(hw:∀i,β j=some i->∀b,i.has b->w'.heap[b]?=w.heap[b]?):(c.mapL f).holds τ γ w' j:=by
 cases c with
 | obj e cs=>
   obtain⟨i,vs,hi,hh,hn,hc⟩:=h;refine⟨i,vs,hj.trans hi,(hw i hi _ i.has_blk).trans hh,by simpa using hn,fun m l hm=>?_⟩;rw[x2e]at hm;cases hq:cs[m]?with
   |none=>rw[hq]at hm;cases hm
   | some l'=>
     rw[hq]at hm;cases hm;obtain⟨u,h1,h2⟩:=hc m l' hq;exact⟨u,h1,hf _ _ h2⟩
 | own e sz es=>
   rcases h with⟨h1,h2⟩|⟨i,vs,hi,h1,hh,h2,h3,h4,h5⟩
   ·exact .inl ⟨hj.trans h1,h2⟩
   ·exact .inr ⟨i,vs,hj.trans hi,h1,(hw i hi _ i.has_blk).trans hh,h2,h3,h4,fun m x hx=>⟨(h5 m x hx).1,fun n c hn=>let ⟨u,h8,h9⟩:=(h5 m x hx).2 n c hn;⟨u,h8,h9.mono hle⟩⟩⟩
 | ext d=>
   show d.holds τ (γ j) w';rw[hj];exact XC.holds.mono (d:=d) h hle hw
def Xi(k k2:Nat)(f:LV->LV)(c:Chunk):Heap->(Heap->Prop)->Prop
 |[],K=>K []
 |(j,d)::r,K=>bif j==k2 then Xi k k2 f c r K else bif j==k then Xi k k2 f c r fun r=>K ((j,c)::r)else Al f d fun d=>Xi k k2 f c r fun r=>K ((j,d)::r)
theorem WG{k k2:Nat}{f:LV->LV}{c:Chunk}:∀{H:Heap}{K:Heap->Prop},Xi k k2 f c H K->∃H',K H'/\(GM H').Sublist (GM H)/\∀j c',(j,c')∈H'->j≠k2/\((j=k/\c'=c)\/(j≠k/\∃c0,(j,c0)∈H/\c'=c0.mapL f))
 |[],_,h=>⟨[],h,x8o _,by simp⟩
 | (j,d)::r,K,h=>by
   simp only[Xi,Qv]at h;by_cases h2:j=k2
   ·subst h2;simp only[x6u,x3p]at h;obtain⟨H',hK,h3,h4⟩:=WG h;exact⟨H',hK,h3.cons _,fun j' c' hj=>let ⟨h5,h6⟩:=h4 j' c' hj;⟨h5,h6.imp id fun⟨h7,c0,h8,h9⟩=>⟨h7,c0,x2c _ h8,h9⟩⟩⟩
   ·have hb2:(j==k2)=false:=by simp[h2]
    rw[hb2,x3t]at h;by_cases h1:j=k
    ·subst h1;simp only[x6u,x3p]at h;obtain⟨H',hK,h3,h4⟩:=WG h;refine⟨_,hK,h3.cons_cons _,fun j' c' hj=>?_⟩;rcases x2i.1 hj with he|hj
     ·cases he;exact⟨h2,.inl ⟨rfl,rfl⟩⟩
     ·obtain⟨h5,h6⟩:=h4 j' c' hj;exact⟨h5,h6.imp id fun⟨h7,c0,h8,h9⟩=>⟨h7,c0,x2c _ h8,h9⟩⟩
    ·have hb1:(j==k)=false:=by simp[h1]
     rw[hb1,x3t]at h;obtain⟨H',hK,h3,h4⟩:=WG h;refine⟨_,hK,h3.cons_cons _,fun j' c' hj=>?_⟩;rcases x2i.1 hj with he|hj
     ·cases he;exact⟨h2,.inr ⟨h1,d,x2r,rfl⟩⟩
     ·obtain⟨h5,h6⟩:=h4 j' c' hj;exact⟨h5,h6.imp id fun⟨h7,c0,h8,h9⟩=>⟨h7,c0,x2c _ h8,h9⟩⟩
section
variable {P:Program}{T:Tab}{N:Nat}
theorem LH{sl:List (Nat×LV)}{H H':Heap}(k e2 sz2:Nat){e:TypeId}{es:List AV}(hg:getH H k=some (.own e 1 es))(hn:∀x∈es,x=.nils)(hpin:ZD k=false)(hsl:(sl.all fun x=>x.2.xfree k)=true)(hH:(H.all fun x=>match x.2 with |.obj _ cs=>LV.xfree.xfreeAll k cs|_=>true)=true)(hH':Xi k 1999 id (.ext (.mat e e2 sz2 (List.replicate es.length []) [])) H fun H2=>H2=H')(_:1999∉GM H):Le N ⟨sl,H⟩ ⟨sl,H'⟩:=fun σ β a w hr=>by
 obtain⟨H2,he,hsub,hmem⟩:=WG hH';rw[he]at hsub hmem;have hslF:∀i,(getS sl i).xfree k=true:=fun i=>by
  clear hr;induction sl with
  |nil=>rfl
  | cons x r ih=>
    simp only[List.all_cons,x3h]at hsl;obtain⟨j,l⟩:=x;simp only[getS];cases j==i
    ·exact ih hsl.2
    ·exact hsl.1
 have hch:=hr.heap.chunks k _ (QG hg);have hlab:∀j∈H'.map (·.1),j∈H.map (·.1):=fun j hj=>hsub.subset hj;have hnp:∀j,1000<=j->j<2000->j≠k:=fun j h0 h1 he=>by
  subst he;have:ZD j=true:=by simp only[ZD,x3h,x8c,blt];omega
  rw[this]at hpin;cases hpin
 rcases hch with⟨hb0,hes⟩|⟨i,vs,hi,hisz,hh,hvs,hle,hmax,hc⟩
 ·subst hes;refine⟨σ,β,⟨hr.size,hr.defers,hr.slots,⟨hr.heap.mem,fun j c hj=>?_,hsub.nodup hr.heap.nodup,fun j hj=>hr.heap.apart j (hlab j hj),fun j hj j' hj'=>hr.heap.inj j (hlab j hj) j' (hlab j' hj')⟩⟩,
   Mem.le_refl σ,Frm.refl _ _,fun _ h0 h1=>absurd h0 h1,fun b ⟨j,hj,r⟩=>.inl ⟨j,hlab j hj,r⟩,fun _ _ _=>rfl⟩
  obtain⟨_,⟨rfl,rfl⟩|⟨h1,c0,h2,rfl⟩⟩:=hmem j c hj
  ·exact .inl ⟨hb0,rfl⟩
  ·exact(hr.heap.chunks j c0 h2).mapL (Mem.le_refl σ) (fun _ _ h=>h) rfl (fun _ _ _ _=>rfl)
 ·let i':BInfo:=⟨i.blk,i.cap,i.sz,List.replicate es.length none,i.ok⟩;have hset:∀j,j≠k->(β.set k (some i')) j=β j:=fun j hj=>by simp[Lab.set,hj]
  have hsetk:(β.set k (some i')) k=some i':=by simp[Lab.set]
  have hhas:∀b,i'.has b->i.has b:=fun b hb=>by
   rcases hb with hb|⟨c,hb⟩
   ·exact .inl hb
   ·have:=x8s.1 hb;cases this.2
  have hwas:∀j ij,(β.set k (some i')) j=some ij->∃i0,β j=some i0/\∀b,ij.has b->i0.has b:=fun j ij hj=>by
   by_cases hjk:j=k
   ·subst hjk;rw[hsetk]at hj;cases hj;exact⟨i,hi,hhas⟩
   ·rw[hset j hjk]at hj;exact⟨ij,hj,fun _ h=>h⟩
  refine⟨σ,β.set k (some i'),⟨hr.size,hr.defers,fun j=>(hr.slots j).subs hi ⟨rfl,rfl,rfl⟩ (hslF j),⟨hr.heap.mem,fun j c hj=>?_,hsub.nodup hr.heap.nodup,fun j hj ij hij b hb=>?_,fun j hj j' hj' i1 i2 h1 h2 b hb1 hb2=>?_⟩⟩,
   Mem.le_refl σ,Frm.refl _ _,fun _ h0 h1=>absurd h0 h1,fun b ⟨j,hj,ij,hij,hb⟩=>?_,fun j h0 h1=>hset j (hnp j h0 h1)⟩
  ·obtain⟨_,⟨rfl,rfl⟩|⟨h1,c0,h2,rfl⟩⟩:=hmem j c hj
   ·refine .inr ⟨i',vs,hsetk,hisz,hh,by simpa using hvs,by simpa using hle,hmax,by simp[i'],fun a b c hs=>?_,fun a row hrow=>⟨fun h=>absurd h (by simp),fun _=>.inl ?_⟩⟩
    ·have:=x3k hs;have:=x8s.1 this;cases this.2
    ·have hlt:a<es.length:=by have:=(x2o.1 hrow).1;simpa using this
     have hx:=hn es[a] (x3w hlt);obtain⟨u,h5,h6⟩:=(hc a es[a] (by simp[hlt])).2 0 .nils (by rw[hx];rfl);rw[x3o,if_pos hlt]at hrow;cases h6;refine⟨by simp[i',hlt],by cases hrow;rfl,by simpa using h5⟩
   ·have hx:=x4d.1 hH (j,c0) h2;have hhold:=hr.heap.chunks j c0 h2;cases c0 with
    | obj e' cs=>
      obtain⟨i2,vs2,hi2,hh2,hn2,hc2⟩:=hhold;refine⟨i2,vs2,(hset j h1).trans hi2,hh2,by simpa using hn2,fun m l hm=>?_⟩;simp only[List.map_id_fun,id_eq]at hm;obtain⟨u,h5,h6⟩:=hc2 m l hm;exact⟨u,h5,h6.subs hi ⟨rfl,rfl,rfl⟩ (YY hx m l hm)⟩
    | own e' sz' es'=>
      rcases hhold with⟨h5,h6⟩|⟨i2,vs2,hi2,rest⟩
      ·exact .inl ⟨(hset j h1).trans h5,h6⟩
      ·exact .inr ⟨i2,vs2,(hset j h1).trans hi2,rest⟩
    | ext d=>
      show d.holds σ ((β.set k (some i')) j) w;rw[hset j h1];exact hhold
  ·obtain⟨i0,h3,h4⟩:=hwas j ij hij;exact hr.heap.apart j (hlab j hj) i0 h3 b (h4 b hb)
  ·obtain⟨i3,h3,h4⟩:=hwas j i1 h1;obtain⟨i5,h5,h6⟩:=hwas j' i2 h2;exact hr.heap.inj j (hlab j hj) j' (hlab j' hj') i3 i5 h3 h5 b (h4 b hb1) (h6 b hb2)
  ·obtain⟨i0,h3,h4⟩:=hwas j ij hij;exact .inl ⟨j,hlab j hj,i0,h3,h4 b hb⟩
def As(s:St)(k k2:Nat)(c:Chunk)(K:St->Prop):Prop:=
 Yw (fun l=>(l.kill k2).xkill k) s.sl fun sl=>Xi k k2 (fun l=>(l.kill k2).xkill k) c s.H fun H=>K ⟨sl,H⟩
theorem Mb{k:Nat}(h:ZD k=false):∀j,1000<=j->j<2000->j≠k:=fun j h0 h1 he=>by
 subst he;have:ZD j=true:=by simp only[ZD,x3h,x8c,blt];omega
 rw[this]at h;cases h
theorem FA(hT:TabOK P T){o:Oper}{t:TypeId}{x v:Operand}(hop:o.op=.store t x v)(hd:o.dst=none){k off k2 n:Nat}(hx:QM s.sl x=.ptr k off)(hv:QM s.sl v=.hd k2 0 n){e:Nat}(hg:getH s.H k=some (.ext (.mat e e2 sz rows hole))){es:List AV}(hg2:getH s.H k2=some (.own e2 sz es)){it:TyI}(ht:T.get t=some it)(hsz:it.size=1)(hpin:(ZD k||ZD k2)=false)(hne:k≠k2)(a:Nat)(hole':List Nat)(ho:off=a)(ha:a<rows.length)(hn:n=es.length)(hh':a∉hole'/\(∀y,y∈hole->y=a\/y∈hole')/\∀y,y∈hole'->y∈hole)(h:As s k k2 (.ext (.mat e e2 sz (rows.set a es) hole')) K):OpK P N s o K:=by
 subst ho hn;refine⟨fun σ β ac w hr Q=>?_⟩;obtain⟨sl,h,hsl⟩:=WK (by rfl) h;obtain⟨H2,hK,hsub,hmem⟩:=WG h;simp only[x6s]at hpin;have hx':=QZ hr.slots x;have hv':=QZ hr.slots v;rw[hx]at hx';rw[hv]at hv';have hk1:=QN hg;have hk2:=QN hg2;generalize hxe:ac.eval x=xv at hx';generalize hve:ac.eval v=vv at hv';cases hx' with
 |ptr _ _ i hi=>
 rcases hr.heap.chunks k _ (QG hg)with h0|⟨i',vs,hi',hisz,hh,hvs,hle,hmax,hsl',hdis,hrows⟩
 ·rw[hi]at h0;cases h0.1
 rw [hi]at hi';cases hi';have hown:∃sub:Option (Nat×Nat),vv.oneCell'=true/\(∀b c,sub=some (b,c)->∃i2,β k2=some i2/\i2.blk=b)/\
   ((sub=none/\es=[]/\vv=.slice none 0 0)\/∃b c ws,sub=some (b,c)/\vv=.slice (some ⟨b,0,none⟩) es.length c/\w.heap[b]?=some (.cells ws e2 (0,0))/\
      ws.size=c*sz/\es.length<=c/\c<=maxLen/\∀(m:Nat)(x:AV),es[m]?=some x->x.cells.length=sz/\∀(j:Nat)(c':AV),x.cells[j]?=some c'->∃u:Value,ws[m*sz+j]?=some u/\Rep σ c' u):=by
  rcases hr.heap.chunks k2 _ (QG hg2)with⟨hb0,hes⟩|⟨i2,ws,hi2,h1,h2,h3,h4,h5,h6⟩
  ·rcases hv'.hdI with⟨_,_,_,he⟩|⟨i2,_,hk,_⟩
   ·exact⟨none,by rw[he];rfl,fun b c h=>(by cases h),.inl ⟨rfl,hes,he⟩⟩
   ·rw[hb0]at hk;cases hk
  ·rcases hv'.hdI with⟨hk,_⟩|⟨i3,oo,hk,hl,ho,he⟩
   ·rw[hi2]at hk;cases hk
   ·rw[hi2]at hk;cases hk;have hoo:oo=0:=by
     rcases ho with ho|ho
     ·simpa using ho
     ·omega
    subst hoo;refine⟨some (i2.blk,i2.cap),by rw[he];rfl,fun b c h=>by cases h;exact⟨i2,hi2,rfl⟩,.inr ⟨i2.blk,i2.cap,ws,rfl,by rw[he];simp,h2,by rw[h3],h4,h5,h6⟩⟩
 obtain⟨sub,hone,hsubk,hrow⟩:=hown;have hcells:vv.cells=#[vv]:=by cases vv<;>first|rfl|simp[Value.oneCell']at hone
 have hoff:off<vs.size:=by omega
 let vs':Array Value:=(vs.toList.take off++[vv]++vs.toList.drop (off+1)).toArray;let i':BInfo:=⟨i.blk,i.cap,i.sz,i.subs.set off sub,i.ok⟩;let β':Lab:=(β.set k2 none).set k (some i');have hset:∀j,j≠k->j≠k2->β' j=β j:=fun j h1 h2=>by simp[β',Lab.set,h1,h2]
 have hsetk:β' k=some i':=by simp[β',Lab.set]
 have hsetk2:β' k2=none:=by simp[β',Lab.set,x6o hne]
 have hrun:(execOp ac.eval o).run P w=.ok .skip (w.setRow i.blk vs'):=by
  have hst:=run_storeCells_at P i.blk off e [vv] 0 vs w hh (by simp;omega) (by simpa using hone);simp only[x8u,x3a]at hst;have hsize:=(hT _ _ ht).sizeOf;simp[execOp,hop,Instr.storeAt,Instr.sureAddr,hxe,hve,storeVar,hsize,hsz,hcells,hst,vs']
 have hother:∀b,b≠i.blk->(w.setRow i.blk vs').heap[b]?=w.heap[b]?:=fun b hb=>setRow_other w i.blk b vs' hb;have hhas:∀b,i'.has b->i.has b\/∃i2,β k2=some i2/\i2.has b:=fun b hb=>by
  rcases hb with hb|⟨c,hb⟩
  ·exact .inl (.inl hb)
  ·rcases x6i hb with h1|h1
   ·exact .inl (.inr ⟨c,h1⟩)
   ·obtain⟨i2,h3,h4⟩:=hsubk b c h1.symm;exact .inr ⟨i2,h3,.inl h4⟩
 have hlab:∀j∈H2.map (·.1),j∈s.H.map (·.1)/\j≠k2:=fun j hj=>by
  refine⟨hsub.subset hj,fun he=>?_⟩;obtain⟨⟨j',c⟩,hm,rfl⟩:=x3q.1 hj;exact(hmem j' c hm).1 he
 have hwas:∀j,j≠k2->∀ij,β' j=some ij->∀b,ij.has b->(∃i0,β j=some i0/\i0.has b)\/(j=k/\∃i2,β k2=some i2/\i2.has b):=fun j hj ij hij b hb=>by
  by_cases hjk:j=k
  ·subst hjk;rw[hsetk]at hij;cases hij;rcases hhas b hb with h1|h1
   ·exact .inl ⟨i,hi,h1⟩
   ·exact .inr ⟨rfl,h1⟩
  ·rw[hset j hjk hj]at hij;exact .inl ⟨ij,hij,hb⟩
 have hlv:∀l v,RepL σ β l v->RepL σ β' ((l.kill k2).xkill k) v:=fun l v hl=>by
  have h1:=((hl.kill k2).set none (LV.kill_free k2 l)).xkill k;exact h1.subs (i:=i) (by simp[Lab.set,hne,hi]) ⟨rfl,rfl,rfl⟩ (ZR k _)
 have hheap:HRel σ β' H2 (w.setRow i.blk vs'):=by
  refine⟨fun b c hb=>?_,fun j c hj=>?_,hsub.nodup hr.heap.nodup,fun j hj ij hij b hb=>?_,fun j hj j' hj' i1 i2 h1 h2 b hb1 hb2=>?_⟩
  ·obtain⟨e',fr,h1⟩:=hr.heap.mem b c hb;exact⟨e',fr,(hother b fun he=>by rw[he,(hr.heap.apart k hk1 i hi i.blk i.has_blk).1]at hb;cases hb).trans h1⟩
  ·obtain⟨hj2,⟨rfl,rfl⟩|⟨h1,c0,h2,rfl⟩⟩:=hmem j c hj
   ·have hcell:∀p,vs'[p]?=if p=off then some vv else vs[p]?:=fun p=>by
     simp only[vs',x9v];by_cases h1:p<off
     ·rw[if_neg (by omega),x3s,x4p (by simp;omega),x4g,if_pos h1];simp
     ·by_cases h2:p=off
      ·subst h2;rw[if_pos rfl,x3s,x4u (by simp;omega)];simp only[x3m,x5b];rw[show p-min p vs.size=0 by omega];rfl
      ·rw[if_neg h2,x4u (by simp;omega)];simp only[x2s,x3m,x5b,x3a,x4c,x6g];congr 1;omega
    have hsub':∀p,(i.subs.set off sub)[p]?=if p=off then some sub else i.subs[p]?:=fun p=>by
     by_cases h2:p=off
     ·subst h2;rw[if_pos rfl,x5w (by omega)]
     ·rw[if_neg h2,x5h (x6o h2)]
    have hblk:∀b c,sub=some (b,c)->i.blk≠b/\∀a c',i.subs[a]? ≠ some (some (b,c')):=fun b c hs=>by
     obtain⟨i2,h3,h4⟩:=hsubk b c hs;refine⟨fun he=>hne (hr.heap.inj _ hk1 k2 hk2 i i2 hi h3 b (.inl he) (.inl h4)),fun a c' ha=>hne (hr.heap.inj _ hk1 k2 hk2 i i2 hi h3 b (.inr ⟨c',x3k ha⟩) (.inl h4))⟩
    refine .inr ⟨i',vs',hsetk,hisz,setRow_heap w i.blk vs _ e _ hh,?_,by simpa using hle,hmax,by simpa[i']using hsl',fun a b c hs=>?_,fun a row hra=>⟨fun hin=>?_,fun hnin=>?_⟩⟩
    ·simp only[vs',x6l,x2s,x3m,x5f,x5b,x3a];show _=i.cap;omega
    ·have hs':(i.subs.set off sub)[a]?=some (some (b,c)):=hs;rw[hsub']at hs';by_cases h2:a=off
     ·rw[if_pos h2]at hs';obtain⟨h3,h4⟩:=hblk b c (by cases hs';rfl);refine⟨h3,fun a' c' ha'=>?_⟩;have ha'':(i.subs.set off sub)[a']?=some (some (b,c')):=ha';rw[hsub']at ha'';by_cases h5:a'=off
      ·rw[h5,h2]
      ·rw[if_neg h5]at ha'';exact absurd ha'' (h4 _ _)
     ·rw[if_neg h2]at hs';refine⟨(hdis a b c hs').1,fun a' c' ha'=>?_⟩;have ha'':(i.subs.set off sub)[a']?=some (some (b,c')):=ha';rw[hsub']at ha'';by_cases h5:a'=off
      ·rw[if_pos h5]at ha'';exact absurd hs' ((hblk b c' (by cases ha'';rfl)).2 _ _)
      ·rw[if_neg h5]at ha'';exact(hdis a b c hs').2 a' c' ha''
    ·show(i.subs.set off sub)[a]?=some none;have h2:a≠off:=fun he=>hh'.1 (he▸hin);rw[hsub',if_neg h2];rw[x5h (x6o h2)]at hra;exact(hrows a row hra).1 (hh'.2.2 a hin)
    ·show((i.subs.set off sub)[a]?=some none/\row=[]/\vs'[a]?=_)\/∃b c ws,(i.subs.set off sub)[a]?=_/\_;rw[hsub',hcell];by_cases h2:a=off
     ·subst h2;rw[if_pos rfl,if_pos rfl];rw[x5w ha]at hra;cases hra;rcases hrow with⟨h3,h4,h5⟩|⟨b,c,ws,h3,h4,h5,h6⟩
      ·exact .inl ⟨by rw[h3],h4,by rw[h5]⟩
      ·refine .inr ⟨b,c,ws,by rw[h3],by rw[h4],(hother b fun he=>?_).trans h5,h6⟩;exact(hblk b c h3).1 he.symm
     ·rw[if_neg h2,if_neg h2];rw[x5h (x6o h2)]at hra;rcases(hrows a row hra).2 (fun hin=>(hh'.2.1 a hin).elim h2 hnin)with h3|⟨b,c,ws,h3,h4,h5,h6⟩
      ·exact .inl h3
      ·exact .inr ⟨b,c,ws,h3,h4,(hother b fun he=>(hdis a b c h3).1 he.symm).trans h5,h6⟩
   ·have hjl:j∈s.H.map (·.1):=x3q.2 ⟨_,h2,rfl⟩;refine(hr.heap.chunks j c0 h2).mapL (Mem.le_refl σ) hlv (hset j h1 hj2) fun ij hij b hb=>hother b fun he=>h1 ?_;exact hr.heap.inj j hjl k hk1 ij i hij hi b hb (.inl he.symm)
  ·obtain⟨h1,h2⟩:=hlab j hj;have hsz':(w.setRow i.blk vs').heap.size=w.heap.size:=by simp
   rw[hsz'];rcases hwas j h2 ij hij b hb with⟨i0,h3,h4⟩|⟨_,i0,h3,h4⟩
   ·exact hr.heap.apart j h1 i0 h3 b h4
   ·exact hr.heap.apart k2 hk2 i0 h3 b h4
  ·obtain⟨h3,h4⟩:=hlab j hj;obtain⟨h5,h6⟩:=hlab j' hj';rcases hwas j h4 i1 h1 b hb1 with⟨i3,h7,h8⟩|⟨e1,i3,h7,h8⟩<;>rcases hwas j' h6 i2 h2 b hb2 with⟨i4,h9,h10⟩|⟨e2,i4,h9,h10⟩
   ·exact hr.heap.inj j h3 j' h5 i3 i4 h7 h9 b h8 h10
   ·exact absurd (hr.heap.inj j h3 k2 hk2 i3 i4 h7 h9 b h8 h10) h4
   ·exact absurd (hr.heap.inj j' h5 k2 hk2 i4 i3 h9 h7 b h10 h8) h6
   ·rw[e1,e2]
 refine Vb hrun ⟨σ,β',⟨sl,H2⟩,hK,⟨?_,?_,?_,hheap⟩,Mem.le_refl σ,⟨rfl,rfl,rfl,x3g _,by simp,fun b _ hn=>hother b fun he=>hn ⟨k,hk1,i,hi,.inl he.symm⟩⟩,fun b h0 h1=>absurd h0 h1,fun b ⟨j,hj,ij,hij,hb⟩=>?_,fun j h0 h1=>hset j (Mb hpin.1 j h0 h1) (Mb hpin.2 j h0 h1)⟩
 ·rw[hd];exact hr.size
 ·rw[hd];exact hr.defers
 ·rw[hd];exact fun j=>by show RepL σ β' (getS sl j) _;rw[hsl];exact hlv _ _ (hr.slots j)
 ·obtain⟨h1,h2⟩:=hlab j hj;rcases hwas j h2 ij hij b hb with⟨i0,h3,h4⟩|⟨_,i0,h3,h4⟩
  ·exact .inl ⟨j,h1,i0,h3,h4⟩
  ·exact .inl ⟨k2,hk2,i0,h3,h4⟩
inductive FocA(k a k2 n:Nat):List LV->List LV->Prop
 |nil:FocA k a k2 n [] []
 |row {ls ls':List LV} (hs:FocA k a k2 n ls ls'):FocA k a k2 n (.ext k (.row a n)::ls) (.hd k2 0 n::ls')
 |cons {l:LV} {ls ls':List LV} (h1:(l.xfree k&&l.free k2)=true) (hs:FocA k a k2 n ls ls'):FocA k a k2 n (l::ls) (l::ls')
theorem FocA.get{k a k2 n:Nat}:∀{ls ls':List LV},FocA k a k2 n ls ls'->ls.length=ls'.length/\∀(j:Nat)(l':LV),ls'[j]?=some l'->∃l,ls[j]?=some l/\((l=.ext k (.row a n)/\l'=.hd k2 0 n)\/(l'=l/\l.xfree k=true/\l.free k2=true))
 |_,_,.nil=>⟨rfl,by simp⟩
 |_,_,.row hs=>⟨by simp[hs.get.1],fun j l' hj=>by
    cases j with
    |zero=>simp at hj;subst hj;exact⟨_,rfl,.inl ⟨rfl,rfl⟩⟩
    |succ j=>exact hs.get.2 j l' (by simpa using hj)⟩
 |_,_,.cons h1 hs=>⟨by simp[hs.get.1],fun j l' hj=>by
    simp only[x3h]at h1;cases j with
    |zero=>simp at hj;subst hj;exact⟨_,rfl,.inr ⟨rfl,h1⟩⟩
    |succ j=>exact hs.get.2 j l' (by simpa using hj)⟩
def KA(s:St)(k k2:Nat)(c c2:Chunk)(K:St->Prop):Prop:=
 Yw (LV.xkill k) s.sl fun sl=>Xi k k2 (LV.xkill k) c s.H fun H=>K ⟨sl,(k2,c2)::H⟩
theorem RJ{s':St}{σ:Mem}{β:Lab}{ac:Act}{w:World}(hr:Rel N σ β s ac w){k a k2:Nat}(hu:WU k2 s=true){e:Nat}(hg:getH s.H k=some (.ext (.mat e e2 sz rows hole))){row:List AV}(hrow:rows[a]?=some row)(hnh:a∉hole)(hpin:ZD k=false)(h:KA s k k2 (.ext (.mat e e2 sz rows (a::hole))) (.own e2 sz row) fun s2=>s2=s'):
  ∃β',Rel N σ β' s' ac w/\Later σ β s.H w σ β' s'.H w/\(∀l v,l.xfree k=true->l.free k2=true->RepL σ β l v->RepL σ β' l v)/\∀v,RepL σ β (.ext k (.row a row.length)) v->RepL σ β' (.hd k2 0 row.length) v:=by
 obtain⟨sl,h,hsl⟩:=WK (by rfl) h;obtain⟨H2,rfl,hsub,hmem⟩:=WG h;obtain⟨hu1,hu2⟩:=XL hu;have hu3:=YW hu;have hk1:=QN hg;have hne:k≠k2:=fun he=>(hu1 k _ (QG hg)).1 he;have hnm:k2∉s.H.map (·.1):=fun hk=>by
  obtain⟨⟨j,c⟩,hm,rfl⟩:=x3q.1 hk;exact(hu1 j c hm).1 rfl
 have hlab:∀j∈H2.map (·.1),j∈s.H.map (·.1)/\j≠k2:=fun j hj=>by
  refine⟨hsub.subset hj,fun he=>?_⟩;obtain⟨⟨j',c⟩,hm,rfl⟩:=x3q.1 hj;exact(hmem j' c hm).1 he
 rcases hr.heap.chunks k _ (QG hg)with⟨_,h0⟩|⟨i,vs,hi,hisz,hh,hvs,hle,hmax,hsl',hdis,hrows⟩
 ·subst h0;simp at hrow
 have ha:a<rows.length:=(x2o.1 hrow).1;let i':BInfo:=⟨i.blk,i.cap,i.sz,i.subs.set a none,i.ok⟩;have hrowi:∃o2:Option BInfo,(∀i2,o2=some i2->i.blk≠i2.blk/\i2.subs=[]/\∃c,i.subs[a]?=some (some (i2.blk,c)))/\(Chunk.own e2 sz row).holds σ (β.set k2 o2) w k2/\
   ∀v,RepL σ β (.ext k (.row a row.length)) v->(o2=none/\row.length=0/\v=.slice none 0 0)\/∃i2,o2=some i2/\row.length<=i2.cap/\v=.slice (some ⟨i2.blk,0,none⟩) row.length i2.cap:=by
  rcases(hrows a row hrow).2 hnh with⟨h1,h2,h3⟩|⟨b,c,ws,h1,h2,h3,h4,h5,h6,h7⟩
  ·refine⟨none,fun i2 h=>(by cases h),.inl ⟨by simp[Lab.set],h2⟩,fun v hv=>?_⟩;cases hv with
   | ext _ _ ij _ hk hd=>
     rw[hi]at hk;cases hk;rcases hd with⟨_,h4,h5⟩|⟨b,c,hb,_⟩
     ·exact .inl ⟨rfl,h4,h5⟩
     ·rw[h1]at hb;cases hb
  ·refine⟨some ⟨b,c,sz,[],h6⟩,fun i2 h=>by cases h;exact⟨(hdis a b c h1).1,rfl,c,h1⟩,.inr ⟨⟨b,c,sz,[],h6⟩,ws,by simp[Lab.set],rfl,h3,h4,h5,h6,h7⟩,fun v hv=>?_⟩;cases hv with
   | ext _ _ ij _ hk hd=>
     rw[hi]at hk;cases hk;rcases hd with⟨hb,_⟩|⟨b',c',hb,hlc,he⟩
     ·rw[h1]at hb;cases hb
     ·rw[h1]at hb;cases hb;exact .inr ⟨_,rfl,hlc,he⟩
 obtain⟨o2,ho2,hown,hrep⟩:=hrowi;let β':Lab:=(β.set k (some i')).set k2 o2;have hset:∀j,j≠k->j≠k2->β' j=β j:=fun j h1 h2=>by simp[β',Lab.set,h1,h2]
 have hsetk:β' k=some i':=by simp[β',Lab.set,hne]
 have hsetk2:β' k2=o2:=by simp[β',Lab.set]
 have hsub':∀p,(i.subs.set a none)[p]?=if p=a then some none else i.subs[p]?:=fun p=>by
  by_cases h2:p=a
  ·subst h2;rw[if_pos rfl,x5w (by omega)]
  ·rw[if_neg h2,x5h (x6o h2)]
 have hhas:∀b,i'.has b->i.has b:=fun b hb=>by
  rcases hb with hb|⟨c,hb⟩
  ·exact .inl hb
  ·rcases x6i hb with h1|h1
   ·exact .inr ⟨c,h1⟩
   ·cases h1
 have hhas2:∀i2,o2=some i2->∀b,i2.has b->i.has b/\¬i'.has b:=fun i2 h b hb=>by
  obtain⟨h1,h2,c,h3⟩:=ho2 i2 h;have he:i2.blk=b:=by
   rcases hb with hb|⟨c,hb⟩
   ·exact hb
   ·rw[h2]at hb;cases hb
  subst he;refine⟨.inr ⟨c,x3k h3⟩,fun hb'=>?_⟩;rcases hb' with hb'|⟨c',hb'⟩
  ·exact h1 hb'
  ·obtain⟨p,hp⟩:=x5s.1 hb';have hp':(i.subs.set a none)[p]?=some (some (i2.blk,c')):=hp;rw[hsub']at hp';by_cases hpa:p=a
   ·rw[if_pos hpa]at hp';cases hp'
   ·rw[if_neg hpa]at hp';exact hpa ((hdis a _ c h3).2 p c' hp')
 have hlv:∀l v,l.xfree k=true->l.free k2=true->RepL σ β l v->RepL σ β' l v:=fun l v h1 h2 hl=>(hl.subs (i':=i') hi ⟨rfl,rfl,rfl⟩ h1).set o2 h2;have hkf:∀l:LV,l.free k2=true->(l.xkill k).free k2=true:=fun l h=>by
  unfold LV.xkill;cases l.xfree k
  ·rfl
  ·exact h
 have hwas:∀j ij,β' j=some ij->(j=k\/j=k2\/j∈s.H.map (·.1))->∀b,ij.has b->∃j0 i0,j0∈s.H.map (·.1)/\β j0=some i0/\i0.has b/\(j≠k->j≠k2->j0=j)/\(j=k\/j=k2->j0=k):=fun j ij hij hj b hb=>by
  by_cases h1:j=k
  ·subst h1;rw[hsetk]at hij;cases hij;exact⟨_,i,hk1,hi,hhas b hb,fun h=>absurd rfl h,fun _=>rfl⟩
  ·by_cases h2:j=k2
   ·subst h2;rw[hsetk2]at hij;exact⟨k,i,hk1,hi,(hhas2 ij hij b hb).1,fun _ h=>absurd rfl h,fun _=>rfl⟩
   ·rw[hset j h1 h2]at hij;exact⟨j,ij,(hj.resolve_left h1).resolve_left h2,hij,hb,fun _ _=>rfl,fun h=>absurd h (by simp[h1,h2])⟩
 have hcase:∀j∈((k2,Chunk.own e2 sz row)::H2).map (·.1),j=k\/j=k2\/j∈s.H.map (·.1):=fun j hj=>by
  simp only[x3l,x2i]at hj;rcases hj with hj|hj
  ·exact .inr (.inl hj)
  ·exact .inr (.inr (hlab j hj).1)
 refine⟨β',⟨hr.size,hr.defers,fun j=>?_,⟨hr.heap.mem,fun j c hj=>?_,?_,fun j hj ij hij b hb=>?_,fun j hj j' hj' i1 i2 h1 h2 b hb1 hb2=>?_⟩⟩,⟨Mem.le_refl σ,Frm.refl _ _,fun _ h0 h1=>absurd h0 h1,fun b ⟨j,hj,ij,hij,hb⟩=>?_,fun j h0 h1=>hset j (Mb hpin j h0 h1) (by omega)⟩,hlv,fun v hv=>?_⟩
 ·show RepL σ β' (getS sl j) _;rw[hsl];exact hlv _ _ (ZR k _) (hkf _ (hu2 j)) ((hr.slots j).xkill k)
 ·rcases x2i.1 hj with he|hj
  ·cases he;rcases hown with⟨h1,h2⟩|⟨i2,ws,h1,rest⟩
   ·exact .inl ⟨by rw[hsetk2];simpa[Lab.set]using h1,h2⟩
   ·exact .inr ⟨i2,ws,by rw[hsetk2];simpa[Lab.set]using h1,rest⟩
  ·obtain⟨hj2,⟨rfl,rfl⟩|⟨h1,c0,h2,rfl⟩⟩:=hmem j c hj
   ·refine .inr ⟨i',vs,hsetk,hisz,hh,hvs,hle,hmax,by simpa[i']using hsl',fun p b c hs=>?_,fun p row' hra=>⟨fun hin=>?_,fun hnin=>?_⟩⟩
    ·have hs':(i.subs.set a none)[p]?=some (some (b,c)):=hs;rw[hsub']at hs';by_cases h2:p=a
     ·rw[if_pos h2]at hs';cases hs'
     ·rw[if_neg h2]at hs';refine⟨(hdis p b c hs').1,fun p' c' hp'=>?_⟩;have hp'':(i.subs.set a none)[p']?=some (some (b,c')):=hp';rw[hsub']at hp'';by_cases h5:p'=a
      ·rw[if_pos h5]at hp'';cases hp''
      ·rw[if_neg h5]at hp'';exact(hdis p b c hs').2 p' c' hp''
    ·show(i.subs.set a none)[p]?=some none;rw[hsub'];by_cases h2:p=a
     ·rw[if_pos h2]
     ·rw[if_neg h2];rcases x2i.1 hin with h3|h3
      ·exact absurd h3 h2
      ·exact(hrows p row' hra).1 h3
    ·have h2:p≠a:=fun he=>hnin (by rw[he];exact x2r);show((i.subs.set a none)[p]?=some none/\row'=[]/\vs[p]?=_)\/∃b c ws,(i.subs.set a none)[p]?=_/\_;rw[hsub',if_neg h2];exact(hrows p row' hra).2 fun h=>hnin (x2c _ h)
   ·have hfr:=(hu1 j c0 h2);have hhold:=hr.heap.chunks j c0 h2;cases c0 with
    | obj e' cs=>
      obtain⟨i2,vs2,hi2,hh2,hn2,hc2⟩:=hhold;refine⟨i2,vs2,(hset j h1 hj2).trans hi2,hh2,by simpa using hn2,fun m l hm=>?_⟩;rw[x2e]at hm;cases hq:cs[m]?with
      |none=>rw[hq]at hm;cases hm
      | some l'=>
        rw[hq]at hm;cases hm;obtain⟨u,h5,h6⟩:=hc2 m l' hq;exact⟨u,h5,hlv _ _ (ZR k _) (hkf _ (XY hfr.2 m l' hq)) (h6.xkill k)⟩
    | own e' sz' es'=>
      rcases hhold with⟨h5,h6⟩|⟨i2,vs2,hi2,rest⟩
      ·exact .inl ⟨(hset j h1 hj2).trans h5,h6⟩
      ·exact .inr ⟨i2,vs2,(hset j h1 hj2).trans hi2,rest⟩
    | ext d=>
      show d.holds σ (β' j) w;rw[hset j h1 hj2];exact hhold
 ·simp only[x3l,x4r];exact⟨fun hk=>(hlab k2 hk).2 rfl,hsub.nodup hr.heap.nodup⟩
 ·obtain⟨j0,i0,h1,h2,h3,_⟩:=hwas j ij hij (hcase j hj) b hb;exact hr.heap.apart j0 h1 i0 h2 b h3
 ·obtain⟨j0,i0,h3,h4,h5,h6,h7⟩:=hwas j i1 h1 (hcase j hj) b hb1;obtain⟨j1,i3,h8,h9,h10,h11,h12⟩:=hwas j' i2 h2 (hcase j' hj') b hb2;have hj01:=hr.heap.inj j0 h3 j1 h8 i0 i3 h4 h9 b h5 h10;by_cases e1:j=k<;>by_cases e2:j'=k
  ·rw[e1,e2]
  ·by_cases e3:j'=k2
   ·subst e1 e3;rw[hsetk]at h1;cases h1;rw[hsetk2]at h2;exact absurd hb1 (hhas2 i2 h2 b hb2).2
   ·have:=h7 (.inl e1);have:=h11 e2 e3;exact absurd (by omega) e2
  ·by_cases e3:j=k2
   ·subst e2 e3;rw[hsetk]at h2;cases h2;rw[hsetk2]at h1;exact absurd hb2 (hhas2 i1 h1 b hb1).2
   ·have:=h12 (.inl e2);have:=h6 e1 e3;exact absurd (by omega) e1
  ·by_cases e3:j=k2<;>by_cases e4:j'=k2
   ·rw[e3,e4]
   ·have:=h7 (.inr e3);have:=h11 e2 e4;exact absurd (by omega) e2
   ·have:=h12 (.inr e4);have:=h6 e1 e3;exact absurd (by omega) e1
   ·have:=h6 e1 e3;have:=h11 e2 e4;omega
 ·obtain⟨j0,i0,h1,h2,h3,_⟩:=hwas j ij hij (hcase j hj) b hb;exact .inl ⟨j0,h1,i0,h2,h3⟩
 ·rcases hrep v hv with⟨h1,h2,rfl⟩|⟨i2,h1,h2,rfl⟩
  ·rw[h2];exact .hdn k2 (by rw[hsetk2,h1])
  ·have:=x9s (σ:=σ) (β:=β') k2 0 row.length i2 0 (by rw[hsetk2,h1]) (by simpa using h2) (.inl (by simp));simpa using this
theorem CallK.focus{g:FuncId}{args args':List LV}{dst:Option Nat}(k a k2:Nat){e:Nat}{row:List AV}(hu:WU k2 s=true)(hg:getH s.H k=some (.ext (.mat e e2 sz rows hole)))(hrow:rows[a]?=some row)(hnh:a∉hole)(hpin:ZD k=false)(hargs:FocA k a k2 row.length args args')(h:KA s k k2 (.ext (.mat e e2 sz rows (a::hole))) (.own e2 sz row) fun s2=>CallK P N g args' dst s2 K):CallK P N g args dst s K:=by
 obtain⟨s2,h,he⟩ : ∃s2,CallK P N g args' dst s2 K/\KA s k k2 (.ext (.mat e e2 sz rows (a::hole))) (.own e2 sz row) fun s3=>s3=s2:=by
  unfold KA at h⊢;obtain⟨sl,h1,_⟩:=WK (by rfl) h;have key:∀{f:LV->LV}{l:List (Nat×LV)}{K:List (Nat×LV)->Prop},Yw f l K↔K (l.map fun x=>(x.1,f x.2)):=fun {f} l=>by
   induction l with
   |nil=>intro K;rfl
   |cons x r ih=>intro K;simp only[Yw,XW,ih,x3l]
  have key2:∀{f:LV->LV}{c:Chunk}{H:Heap},∃H',∀K:Heap->Prop,Xi k k2 f c H K↔K H':=fun {f c} H=>by
   induction H with
   |nil=>exact⟨[],fun K=>Iff.rfl⟩
   | cons x r ih=>
     obtain⟨H',hH'⟩:=ih;obtain⟨j,d⟩:=x;simp only[Xi,Qv];cases j==k2 with
     |true=>exact⟨H',fun K=>by simp only[x3p];exact hH' _⟩
     | false=>
       cases j==k with
       |true=>exact⟨(j,c)::H',fun K=>by simp only[x3p,x3t];exact hH' _⟩
       |false=>exact⟨(j,d.mapL f)::H',fun K=>by simp only[x3t];exact hH' _⟩
  rw[key]at h;simp only[key];obtain⟨H',hH'⟩:=key2 (f:=LV.xkill k) (c:=.ext (.mat e e2 sz rows (a::hole))) (H:=s.H);rw[hH']at h;exact⟨_,h,(hH' _).2 rfl⟩
 refine⟨fun σ β ac w hr vals hn hv=>?_⟩;obtain⟨β',hr',hl,hrep,hrow'⟩:=RJ hr hu hg hrow hnh hpin he;obtain⟨hlen,hget⟩:=hargs.get;obtain⟨h1,h2⟩:=h.ok σ β' ac w hr' vals (hn.trans hlen) fun j l' hj=>by
  obtain⟨l,h3,⟨rfl,rfl⟩|⟨rfl,h4,h5⟩⟩:=hget j l' hj
  ·exact hrow' _ (hv j _ h3)
  ·exact hrep _ _ h4 h5 (hv j _ h3)
 exact⟨h1,h2.mono fun e w' ⟨u,σ',β'',s',he,hK,hr'',hl'⟩=>⟨u,σ',β'',s',he,hK,hr'',hl.trans hl'⟩⟩
inductive NilA(k:Nat):List LV->List LV->Prop
 |nil:NilA k [] []
 |row {ls ls':List LV} (hs:NilA k ls ls'):NilA k (.p .nils::ls) (.hd k 0 0::ls')
 |cons {l:LV} {ls ls':List LV} (h1:l.free k=true) (hs:NilA k ls ls'):NilA k (l::ls) (l::ls')
theorem NilA.get{k:Nat}:∀{ls ls':List LV},NilA k ls ls'->ls.length=ls'.length/\∀(j:Nat)(l':LV),ls'[j]?=some l'->∃l,ls[j]?=some l/\((l=.p .nils/\l'=.hd k 0 0)\/(l'=l/\l.free k=true))
 |_,_,.nil=>⟨rfl,by simp⟩
 |_,_,.row hs=>⟨by simp[hs.get.1],fun j l' hj=>by
    cases j with
    |zero=>simp at hj;subst hj;exact⟨_,rfl,.inl ⟨rfl,rfl⟩⟩
    |succ j=>exact hs.get.2 j l' (by simpa using hj)⟩
 |_,_,.cons h1 hs=>⟨by simp[hs.get.1],fun j l' hj=>by
    cases j with
    |zero=>simp at hj;subst hj;exact⟨_,rfl,.inr ⟨rfl,h1⟩⟩
    |succ j=>exact hs.get.2 j l' (by simpa using hj)⟩
theorem CallK.nil{g:FuncId}{args args':List LV}{dst:Option Nat}(k e sz:Nat)(hu:WU k s=true)(hargs:NilA k args args')(h:CallK P N g args' dst ⟨s.sl,(k,.own e sz [])::s.H⟩ K):CallK P N g args dst s K:=by
 refine⟨fun σ β ac w hr vals hn hv=>?_⟩;obtain⟨hu1,hu2⟩:=XL hu;have hlt:=YW hu;have hset:∀j,j≠k->(β.set k none) j=β j:=fun j hj=>by simp[Lab.set,hj]
 have hsetk:(β.set k none) k=none:=by simp[Lab.set]
 have hlab:∀j∈s.H.map (·.1),j≠k:=fun j hj=>by
  obtain⟨⟨j',d⟩,hm,rfl⟩:=x3q.1 hj;exact(hu1 j' d hm).1
 have hr1:Rel N σ (β.set k none) ⟨s.sl,(k,.own e sz [])::s.H⟩ ac w:=by
  refine⟨hr.size,hr.defers,fun i=>(hr.slots i).set none (hu2 i),⟨hr.heap.mem,fun j d hd=>?_,?_,fun j hj i hi b hb=>?_,fun j hj j' hj' i i' hi hi' b hb hb'=>?_⟩⟩
  ·rcases x2i.1 hd with he|hd
   ·cases he;exact .inl ⟨hsetk,rfl⟩
   ·exact(hr.heap.chunks j d hd).set none (hu1 j d hd).1 (hu1 j d hd).2
  ·exact x4r.2 ⟨fun hk=>hlab k hk rfl,hr.heap.nodup⟩
  ·rcases x2i.1 hj with rfl|hj
   ·rw[hsetk]at hi;cases hi
   ·rw[hset j (hlab j hj)]at hi;exact hr.heap.apart j hj i hi b hb
  ·rcases x2i.1 hj with rfl|hj
   ·rw[hsetk]at hi;cases hi
   ·rcases x2i.1 hj' with rfl|hj'
    ·rw[hsetk]at hi';cases hi'
    ·rw[hset j (hlab j hj)]at hi;rw[hset j' (hlab j' hj')]at hi';exact hr.heap.inj j hj j' hj' i i' hi hi' b hb hb'
 obtain⟨hlen,hget⟩:=hargs.get;obtain⟨h1,h2⟩:=h.ok σ _ ac w hr1 vals (hn.trans hlen) fun j l' hj=>by
  obtain⟨l,h3,⟨rfl,rfl⟩|⟨rfl,h4⟩⟩:=hget j l' hj
  ·have:=hv j _ h3;cases this with
   |p hp=>rw[Rel.nils hp];exact .hdn k hsetk
  ·exact(hv j _ h3).set none h4
 have hown:∀b,owns (β.set k none) ((k,.own e sz [])::s.H) b->owns β s.H b:=fun b ⟨j,hj,i,hi,hb⟩=>by
  rcases x2i.1 hj with rfl|hj
  ·rw[hsetk]at hi;cases hi
  ·rw[hset j (hlab j hj)]at hi;exact⟨j,hj,i,hi,hb⟩
 refine⟨h1,h2.mono fun e w' ⟨u,σ',β',s',he,hK,hr',hl⟩=>⟨u,σ',β',s',he,hK,hr',hl.le,⟨hl.frm.os,hl.frm.tape,hl.frm.output,hl.frm.drawn,hl.frm.size,fun b hb hnb=>hl.frm.block b hb fun ho=>hnb (hown b ho)⟩,
  fun b h0 h1=>(hl.mem b h0 h1).imp (hown b) id,fun b hb=>(hl.own b hb).imp (hown b) id,fun j h0 h1=>(hl.pin j h0 h1).trans (hset j (by omega))⟩⟩
end
theorem x3j:type_of%@BlksH.cons:=@BlksH.cons
theorem x3d:type_of%@ArgsH.cons:=@ArgsH.cons
theorem x3n:type_of%@LSub.refl:=@LSub.refl
theorem x3e:type_of%@LSub.p:=@LSub.p
theorem x4x:type_of%@ArgsH.nil:=@ArgsH.nil
theorem x4z:type_of%@BlksH.nil:=@BlksH.nil
theorem x7j:type_of%@RetHK.mk:=@RetHK.mk
theorem x8z:type_of%@LSub.of_eq:=@LSub.of_eq
end Go.Ab
