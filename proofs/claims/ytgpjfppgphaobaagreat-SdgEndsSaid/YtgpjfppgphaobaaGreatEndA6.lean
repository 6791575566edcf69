/- Contracts of functions that are handed memory of the caller's own ('SpecH'): proved by their text, used at a call under other labels. Conditions: the table of types is the program's own. -/
import Derived.Test.YtgpjfppgphaobaaGreatEndA5
set_option linter.all false
set_option maxRecDepth 100000
set_option maxHeartbeats 16000000
open Nat (blt)
namespace Go.Ab
variable {K:St->Prop}{e2 sz:Nat}{hole:List Nat}{rows:List (List AV)}{s:St}{v:Value}
inductive LSub:LV->LV->Prop
 |refl (l:LV):LSub l l
 |of_eq {l l':LV} (h:l=l'):LSub l l'
 |p {a b:AV} (h:Sub a b):LSub (.p a) (.p b)
theorem LSub.rep{l l':LV}(h:LSub l l'){σ:Mem}{β:Lab}(i:RepL σ β l v):RepL σ β l' v:=by
 cases h with
 |refl=>exact i
 |of_eq h=>exact h▸i
 | p h=>cases i with
   |p i=>exact .p (h _ _ i)
structure SpecH(P:Program)(f:FuncId)(args:List LV)(H:Heap)(R:LV->Heap->Prop):Prop where
 go:∀(vals:Array Value)(w:World),(callFunc f vals).run P w=.ok (.enter f vals) w
 ok:∀(σ:Mem)(β:Lab)(w:World)(vals:Array Value),vals.size=args.length->(∀(j:Nat)(l:LV),args[j]?=some l->RepL σ β l (vals.getD j undef))->HRel σ β H w->
  Calls P f vals w fun e w'=>∃l u σ' β' H',e=.returned u/\R l H'/\RepL σ' β' l u/\HRel σ' β' H' w'/\Later σ β H w σ' β' H' w'
inductive RetHK(H:Heap)(l:LV)(R:LV->Heap->Prop):Prop
 |mk (l':LV) (h:LSub l l') (hR:R l' H)
def q9z(T:Tab)(h:Array ResultVar)(R:LV->Heap->Prop):Exit->St->Prop
 |.ret,s |.normal,s=>E5 T s h.toList fun vs=>JB (Fh vs) fun l=>RetHK s.H l R
 |_,_=>False
def MT:List LV->Nat->List (Nat×LV)
 |[],_=>[]
 |l::r,i=>(i,l)::MT r (i+1)
theorem Bi:∀(args:List LV)(k i:Nat),getS (MT args k) i=if k<=i then(args[i-k]?).getD (.p .any)else .p .any
 |[],k,i=>by simp[MT,getS]
 | a::r,k,i=>by
   simp only[MT,getS,X9,Bi r];by_cases h:k=i
   ·subst h;simp
   ·rw[if_neg h];by_cases j:k<=i
    ·rw[if_pos j,if_pos (by omega)];rw[show i-k=(i-(k+1))+1 by omega];simp
    ·rw[if_neg j,if_neg (by omega)]
theorem SpecH.body{P:Program}{T:Tab}(y:Info)(hT:TabOK P T){f:FuncId}{m:Func}{c:Code}(J:P.funcs[f]?=some m)(G:m.body=some c)(b:∀(j:Array Value)(w:World),(callFunc f j).run P w=.ok (.enter f j) w){args:List LV}{H:Heap}(C:args.length<=m.ntmps){R:LV->Heap->Prop}(h:W P T m.ntmps y c (q9z T m.results R) ⟨MT args 0,H⟩):SpecH P f args H R:=by
 refine⟨b,fun σ β w j D E F=>calls_of_wp J G ?_⟩;have q:Rel m.ntmps σ β ⟨MT args 0,H⟩ {tmps:=j++Array.replicate (m.ntmps-j.size) undef,defers:=[]} w:=by
  refine⟨by simp;omega,rfl,fun i=>?_,F⟩;show RepL σ _ (getS (MT args 0) i) _;rw[Bi,if_pos (x4j i)];cases g:args[i-0]?with
  |none=>exact .p (.any _)
  | some c=>
    simp only[Nat.sub_zero]at g;have A:i<j.size:=by rw[D];exact(x4u.1 g).1
    have:=E i c g;have I:(j++Array.replicate (m.ntmps-j.size) undef).getD i undef=j.getD i undef:=by simp[z0k,A]
    show RepL σ _ c ((j++Array.replicate (m.ntmps-j.size) undef).getD i undef);rw[I];exact this
 refine wp_mono ((KL hT c _ _ h).ok σ β _ w q) fun e B w' ⟨σ',β',s',a,o,L⟩=>?_;have fin:E5 T s' m.results.toList (fun vs=>JB (Fh vs) fun l=>RetHK s'.H l R)->B.defers=[]/\∃v,(results m B.tmps).run P w'=.ok v w'/\∃l u σ' β' H',Ending.returned v=Ending.returned u/\R l H'/\RepL σ' β' l u/\HRel σ' β' H' w'/\Later σ β H w σ' β' H' w':=fun t=>by
  obtain⟨ls,u,z,r,x⟩:=Cd hT o t;rw[XB]at z;obtain⟨l',M,z⟩:=z;exact⟨o.defers,u,x,l',u,σ',β',s'.H,rfl,z,M.rep r,o.heap,L⟩
 cases e with
 |normal=>exact fin a
 |ret=>exact fin a
 |_=>exact a.elim
def lkp:List (Nat×Nat)->Nat->Option Nat
 |[],_=>none
 |(a,b)::r,k=>bif a==k then some b else lkp r k
theorem Lq:∀{l:List (Nat×Nat)}{a b:Nat},lkp l a=some b->(a,b)∈l
 |[],_,_,h=>by cases h
 | (x,y)::r,a,b,h=>by
   simp only[lkp]at h;by_cases i:x=a
   .subst i;simp at h;subst h;exact x4z
   .have:(x==a)=false:=by simp[i]
    rw[this,x5q]at h;exact x4x _ (Lq h)
theorem RO:∀{l:List (Nat×Nat)}{a b:Nat},(l.map (·.1)).Nodup->(a,b)∈l->lkp l a=some b
 |[],_,_,_,h=>by cases h
 | (x,y)::r,a,b,hn,h=>by
   simp only[x4o,x6q]at hn;simp only[lkp];rcases x4v.1 h with h|h
   .cases h;simp
   .have i:x≠a:=fun e=>hn.1 (e▸x4y.2 ⟨_,h,rfl⟩);have:(x==a)=false:=by simp[i]
    rw[this,x5q];exact RO hn.2 h
def LV.ren(g:Nat->Option Nat):LV->LV
 |.p a=>.p a
 | .ptr k o=>match g k with
   |some j=>.ptr j o
   |none=>.p .any
 | .hd k o n=>match g k with
   |some j=>.hd j o n
   |none=>.p .any
 |.agg ls=>.agg (rens g ls)
 |.tup ls=>.tup (rens g ls)
 | .ext k d=>match g k with
   |some j=>.ext j d
   |none=>.p .any
where rens (g:Nat->Option Nat):List LV->List LV
 |[]=>[]
 |l::r=>LV.ren g l::rens g r
theorem Ld(g:Nat->Option Nat):∀ls:List LV,LV.ren.rens g ls=ls.map (LV.ren g)
 |[]=>rfl
 |l::r=>by rw[LV.ren.rens,Ld g r];rfl
theorem RepL.ren{σ:Mem}{β γ:Lab}{g:Nat->Option Nat}(t:∀k j,g k=some j->γ j=β k){l:LV}{v:Value}(h:RepL σ β l v):RepL σ γ (l.ren g) v:=by
 induction h with
 |p h=>exact .p h
 | ptr k off i r=>
   unfold LV.ren;cases m:g k with
   |none=>exact .p (.any _)
   |some j=>exact .ptr j off i ((t k j m).trans r)
 | hdn k r=>
   unfold LV.ren;cases m:g k with
   |none=>exact .p (.any _)
   |some j=>exact .hdn j ((t k j m).trans r)
 | hd k off len i o r a b=>
   unfold LV.ren;cases m:g k with
   |none=>exact .p (.any _)
   |some j=>exact .hd j off len i o ((t k j m).trans r) a b
 | ext k d i v r hd=>
   unfold LV.ren;cases m:g k with
   |none=>exact .p (.any _)
   |some j=>exact .ext j d i v ((t k j m).trans r) hd
 | agg ls vs u x w y z=>
   unfold LV.ren;rw[Ld];refine .agg _ vs u (by simpa using x) (fun j l m=>?_) fun j l m=>?_;all_goals
    rw[x4q]at m;cases q:ls[j]?with
    |none=>rw[q]at m;cases m
    | some l'=>
      rw[q]at m;cases m;first
       |exact w j l' q
       |exact z j l' q
 | tup ls vs u x w y z=>
   unfold LV.ren;rw[Ld];refine .tup _ vs u (by simpa using x) (fun j l m=>?_) fun j l m=>?_;all_goals
    rw[x4q]at m;cases q:ls[j]?with
    |none=>rw[q]at m;cases m
    | some l'=>
      rw[q]at m;cases m;first
       |exact w j l' q
       |exact z j l' q
def Chunk.ren(g:Nat->Option Nat):Chunk->Chunk
 |.obj e cs=>.obj e (cs.map (LV.ren g))
 |.own e sz es=>.own e sz es
 |.ext d=>.ext d
theorem Chunk.holds.ren{σ:Mem}{β γ:Lab}{g:Nat->Option Nat}(o:∀k j,g k=some j->γ j=β k){c:Chunk}{w:World}{k j:Nat}(t:g k=some j)(h:c.holds σ β w k):(c.ren g).holds σ γ w j:=by
 cases c with
 | obj e cs=>
   obtain⟨i,vs,z,A,B,b⟩:=h;refine⟨i,vs,(o k j t).trans z,A,by simpa using B,fun m l q=>?_⟩;rw[x4q]at q;cases a:cs[m]?with
   |none=>rw[a]at q;cases q
   | some l'=>
     rw[a]at q;cases q;obtain⟨u,x,y⟩:=b m l' a;exact⟨u,x,y.ren o⟩
 | own e sz es=>
   rcases h with⟨x,y⟩|⟨i,vs,z,r⟩
   .exact .inl ⟨(o k j t).trans x,y⟩
   .exact .inr ⟨i,vs,(o k j t).trans z,r⟩
 | ext d=>
   show d.holds σ (γ j) w;rw[o k j t];exact h
theorem RepL.agree{σ τ:Mem}{β γ:Lab}(y:σ.le τ){l:LV}(h:RepL σ β l v)(r:∀k,l.free k=false->γ k=β k):RepL τ γ l v:=by
 have t:∀{ls:List LV}{k:Nat}{j:Nat}{l:LV},ls[j]?=some l->l.free k=false->LV.free.freeAll k ls=false:=fun {ls k j l} q x=>by
  cases h:LV.free.freeAll k ls with
  |false=>rfl
  | true=>
    have:=XH h j l q;rw[x]at this;cases this
 induction h with
 |p h=>exact .p (h.mono y)
 |ptr k off i m=>exact .ptr k off i ((r k (by simp[LV.free])).trans m)
 |hdn k m=>exact .hdn k ((r k (by simp[LV.free])).trans m)
 |hd k off len i o m x c=>exact .hd k off len i o ((r k (by simp[LV.free])).trans m) x c
 |ext k d i v m hd=>exact .ext k d i v ((r k (by simp[LV.free])).trans m) hd
 |agg ls vs u z w a b=>exact .agg ls vs u z w fun j l q=>b j l q fun k m=>r k (by simpa[LV.free]using t q m)
 |tup ls vs u z w a b=>exact .tup ls vs u z w fun j l q=>b j l q fun k m=>r k (by simpa[LV.free]using t q m)
def killAll:List Nat->LV->LV
 |[],l=>l
 |k::r,l=>killAll r (l.kill k)
theorem Zn:∀(ks:List Nat)(l:LV)(k:Nat),(killAll ks l).free k=false->l.free k=false/\k∉ks
 |[],_,_,h=>⟨h,by simp⟩
 | x::r,l,k,h=>by
   obtain⟨i,n⟩:=Zn r (l.kill x) k h;have m:l.free k=false/\k≠x:=by
    unfold LV.kill at i;cases j:l.free x with
    |false=>rw[j]at i;cases i
    | true=>
      rw[j,x4s]at i;exact⟨i,fun e=>by subst e;rw[j]at i;cases i⟩
   exact⟨m.1,by simp[m.2,n]⟩
theorem RepL.killAll{σ:Mem}{β:Lab}:∀(ks:List Nat){l:LV}{v:Value},RepL σ β l v->RepL σ β (Ab.killAll ks l) v
 |[],_,_,h=>h
 |k::r,_,_,h=>RepL.killAll r (h.kill k)
inductive ArgsH(g:Nat->Option Nat):List LV->List LV->Prop
 |nil:ArgsH g [] []
 |cons {l l0:LV} {ls ls0:List LV} (h:LSub (l.ren g) l0) (hs:ArgsH g ls ls0):ArgsH g (l::ls) (l0::ls0)
theorem ArgsH.get{g:Nat->Option Nat}{ls i:List LV}(h:ArgsH g ls i):ls.length=i.length/\∀(j:Nat)(m:LV),i[j]?=some m->∃l,ls[j]?=some l/\LSub (l.ren g) m:=by
 induction h with
 |nil=>exact⟨rfl,by simp⟩
 | cons h r q=>
   refine⟨by simp[q.1],fun j m o=>?_⟩;cases j with
   |zero=>simp at o;subst o;exact⟨_,rfl,h⟩
   |succ j=>exact q.2 j m (by simpa using o)
def CSub(c c':Chunk):Prop:=∀(σ:Mem)(β:Lab)(w:World)(k:Nat),c.holds σ β w k->c'.holds σ β w k
theorem CSub.refl(c:Chunk):CSub c c:=fun _ _ _ _ h=>h
theorem CSub.of_eq{c c':Chunk}(h:c=c'):CSub c c':=h▸CSub.refl c
inductive BlksH(g:Nat->Option Nat)(H:Heap):Heap->Prop
 |nil:BlksH g H []
 |cons {k j:Nat} {c c0:Chunk} {r:Heap} (hj:g j=some k) (hg:getH H j=some c) (h:CSub (c.ren g) c0) (hr:BlksH g H r):BlksH g H ((k,c0)::r)
theorem BlksH.get{g:Nat->Option Nat}{H H0:Heap}(h:BlksH g H H0){k:Nat}{l:Chunk}(i:(k,l)∈H0):∃j c,g j=some k/\(j,c)∈H/\CSub (c.ren g) l:=by
 induction h with
 |nil=>cases i
 | cons q o h t r=>
   rcases x4v.1 i with m|i
   .cases m;exact⟨_,_,q,QG o,h⟩
   .exact r i
def JL(H:Heap):List Nat:=H.map (·.1)
def Jy(ρ:List (Nat×Nat))(off:Nat)(H':Heap)(k:Nat):Option Nat:=
 bif JX k (JL H')then match lkp ρ k with
  |some j=>some j
  |none=>some (k+off)
 else none
def PB:List Nat->Bool
 |[]=>true
 |k::r=>bif JX k r then false else PB r
theorem JT:∀{l:List Nat},PB l=true->l.Nodup
 |[],_=>z1w
 | k::r,h=>by
   unfold PB at h;cases i:JX k r with
   |true=>rw[i]at h;cases h
   | false=>
     rw[i,x5q]at h;refine x6q.2 ⟨fun j=>?_,JT h⟩;rw[HK.2 j]at i;cases i
def ZN(k:Nat):Bool:=Nat.ble 1000 k&&blt k 2000
def q7k(H':Heap)(ρ:List (Nat×Nat)):List Nat:=(ρ.filter fun x=> !(ZN x.1&&JX x.1 (JL H'))).map (·.2)
def OG(ρ:List (Nat×Nat)):Bool:=PB (ρ.map (·.1))&&PB (ρ.map (·.2))&&ρ.all fun x=>ZN x.1 || !ZN x.2
def AP(ρ:List (Nat×Nat))(off:Nat)(s:St)(H':Heap):Bool:=
 PB (JL H')&&PB ((JL H').map fun k=>(Jy ρ off H' k).getD 0)&&(JL H').all fun k=>match lkp ρ k with
  |some _=>true
  |none=>WY (k+off) s
def Y8(f:LV->LV):List (Nat×LV)->(List (Nat×LV)->Prop)->Prop
 |[],K=>K []
 |(j,l)::r,K=>JB (f l) fun l=>Y8 f r fun r=>K ((j,l)::r)
theorem WR{f:LV->LV}(m:f (.p .any)=.p .any):∀{sl:List (Nat×LV)}{K:List (Nat×LV)->Prop},Y8 f sl K->∃k,K k/\∀i,getS k i=f (getS sl i)
 |[],_,h=>⟨[],h,fun _=>m.symm⟩
 | (j,l)::r,K,h=>by
   simp only[Y8,XB]at h;obtain⟨k,n,o⟩:=WR m h;refine⟨_,n,fun i=>?_⟩;simp only[getS];cases j==i
   .exact o i
   .rfl
def Chunk.mapL(f:LV->LV):Chunk->Chunk
 |.obj e cs=>.obj e (cs.map f)
 |.own e sz es=>.own e sz es
 |.ext d=>.ext d
def AZ(f:LV->LV)(c:Chunk)(K:Chunk->Prop):Prop:=
 match c with
 |.obj e cs=>FI (cs.map f) fun cs=>K (.obj e cs)
 |.own e sz es=>K (.own e sz es)
 |.ext d=>K (.ext d)
def LL(f:LV->LV)(c:Chunk)(K:Chunk->Prop):AZ f c K=K (c.mapL f):=by cases c<;>simp only[AZ,Chunk.mapL,VU]
def Bs(ρ2 ks:List Nat):Heap->(Heap->Prop)->Prop
 |[],K=>K []
 |(j,c)::r,K=>bif JX j ρ2 then Bs ρ2 ks r K else AZ (killAll ks) c fun c=>Bs ρ2 ks r fun r=>K ((j,c)::r)
theorem NJ{ρ2 ks:List Nat}:∀{H:Heap}{K:Heap->Prop},Bs ρ2 ks H K->∃H',K H'/\(JL H').Sublist (JL H)/\∀j c',(j,c')∈H'->j∉ρ2/\∃c,(j,c)∈H/\c'=c.mapL (killAll ks)
 |[],_,h=>⟨[],h,z0v _,by simp⟩
 | (j,c)::r,K,h=>by
   simp only[Bs,LL]at h;cases k:JX j ρ2 with
   | true=>
     rw[k,x4s]at h;obtain⟨H',t,m,n⟩:=NJ h;exact⟨H',t,m.cons _,fun u c' i=>let ⟨o,l,p,q⟩:=n u c' i;⟨o,l,x4x _ p,q⟩⟩
   | false=>
     rw[k,x5q]at h;obtain⟨H',t,m,n⟩:=NJ h;refine⟨_,t,m.cons_cons _,fun u c' i=>?_⟩;rcases x4v.1 i with w|i
     .cases w;refine⟨fun i=>?_,c,x4z,rfl⟩;rw[HK.2 i]at k;cases k
     .obtain ⟨o,l,p,q⟩:=n u c' i;exact⟨o,l,x4x _ p,q⟩
def q0x(g:Nat->Option Nat):Heap->Heap->(Heap->Prop)->Prop
 |[],F,K=>K F
 | (k,c)::r,F,K=>match g k with
   |none=>False
   |some j=>AZ (LV.ren g) c fun c=>q0x g r F fun r=>K ((j,c)::r)
theorem Gy{g:Nat->Option Nat}{F:Heap}:∀{H:Heap}{K:Heap->Prop},q0x g H F K->∃H',K (H'++F)/\JL H'=(JL H).map (fun k=>(g k).getD 0)/\∀j c',(j,c')∈H'->∃k c,g k=some j/\(k,c)∈H/\c'=c.ren g
 |[],_,h=>⟨[],h,rfl,by simp⟩
 | (k,c)::r,K,h=>by
   simp only[q0x,LL]at h;cases i:g k with
   |none=>rw[i]at h;exact h.elim
   | some j=>
     rw[i]at h;obtain⟨H',u,m,o⟩:=Gy h;refine⟨(j,c.mapL (LV.ren g))::H',u,by simp only[JL,x4o]at m⊢;rw[m];simp[i],fun x c' l=>?_⟩;rcases x4v.1 l with w|l
     .cases w;refine⟨k,c,i,x4z,?_⟩;cases c<;>rfl
     .obtain ⟨y,n,p,q,t⟩:=o x c' l;exact⟨y,n,p,x4x _ q,t⟩
def IV(ρ:List (Nat×Nat))(off N:Nat)(dst:Option Nat)(s:St)(l:LV)(H':Heap)(K:St->Prop):Prop:=
 bif AP ρ off s H' then
  Bs (ρ.map (·.2)) (q7k H' ρ) s.H fun F=>q0x (Jy ρ off H') H' F fun h=>Y8 (killAll (q7k H' ρ)) s.sl fun sl=>JB (l.ren (Jy ρ off H')) fun l=>setD N sl dst l fun sl=>K ⟨sl,h⟩
 else False
theorem Y4:∀ks:List Nat,killAll ks (.p .any)=.p .any
 |[]=>rfl
 | k::r=>by
   unfold killAll;have:LV.kill k (.p .any)=.p .any:=rfl;rw[this];exact Y4 r
section
variable {P:Program}{N:Nat}{f:FuncId}{args args0:List LV}{dst:Option Nat}{s:St}{K:St->Prop}{H0:Heap}{R:LV->Heap->Prop}
theorem CallK.heap(ρ:List (Nat×Nat))(off:Nat)(ha:ArgsH (lkp (ρ.map fun x=>(x.2,x.1))) args args0)(hH:BlksH (lkp (ρ.map fun x=>(x.2,x.1))) s.H H0)(hs:SpecH P f args0 H0 R)(hρ:OG ρ=true)(hn0:PB (JL H0)=true)(h:∀l H',R l H'->IV ρ off N dst s l H' K):CallK P N f args dst s K:=by
 simp only[OG,x4n]at hρ;obtain⟨⟨hρ1,hρ2⟩,hρ3⟩:=hρ;have hρ1:=JT hρ1;have hρ2:=JT hρ2;have hin:∀{j k:Nat},lkp (ρ.map fun x=>(x.2,x.1)) j=some k->(k,j)∈ρ:=fun {j k} o=>by
  obtain⟨⟨a,b⟩,z,g⟩:=x4y.1 (Lq o);cases g;exact z
 refine⟨fun σ β a w hr vals hn hv=>⟨hs.go vals,?_⟩⟩;let βc:Lab:=fun k=>match lkp ρ k with
  |some j=>β j
  |none=>none
 have hβ:∀{k j:Nat},(k,j)∈ρ->βc k=β j:=fun {k j} M=>by
  show(match lkp ρ k with
   |some j=>β j
   |none=>none)=β j
  rw[RO hρ1 M]
 have hgc:∀j k,lkp (ρ.map fun x=>(x.2,x.1)) j=some k->βc k=β j:=fun j k o=>hβ (hin o);have hc0:∀k c0,(k,c0)∈H0->∃j c,(k,j)∈ρ/\(j,c)∈s.H/\c0.holds σ βc w k:=fun k c0 q=>by
  obtain⟨j,c,z,g,B⟩:=hH.get q;exact⟨j,c,hin z,g,B _ _ _ _ ((hr.heap.chunks j c g).ren hgc z)⟩
 have hl0:∀k∈JL H0,∃j,(k,j)∈ρ/\j∈s.H.map (·.1):=fun k q=>by
  obtain⟨⟨k',c0⟩,M,rfl⟩:=x4y.1 q;obtain⟨j,c,z,g,_⟩:=hc0 k' c0 M;exact⟨j,z,x4y.2 ⟨_,g,rfl⟩⟩
 have hrel0:HRel σ βc H0 w:=by
  refine⟨hr.heap.mem,fun k c0 q=>let ⟨_,_,_,_,B⟩:=hc0 k c0 q;B,JT hn0,fun k q i A b C=>?_,fun k q k' hk' i i' A L b C V=>?_⟩
  ·obtain⟨j,z,g⟩:=hl0 k q;rw[hβ z]at A;exact hr.heap.apart j g i A b C
  ·obtain⟨j,z,g⟩:=hl0 k q;obtain⟨O,h1',h2'⟩:=hl0 k' hk';rw[hβ z]at A;rw[hβ h1']at L;have:=hr.heap.inj j g O h2' i i' A L b C V;subst this;have e1:lkp (ρ.map fun x=>(x.2,x.1)) j=some k:=RO (by simpa[Function.comp_def]using hρ2) (x4y.2 ⟨_,z,rfl⟩);have e2:lkp (ρ.map fun x=>(x.2,x.1)) j=some k':=RO (by simpa[Function.comp_def]using hρ2) (x4y.2 ⟨_,h1',rfl⟩);rw[e1]at e2;cases e2;rfl
 obtain⟨hlen,hget⟩:=ha.get;refine(hs.ok σ βc w vals (hn.trans hlen) (fun j l0 o=>?_) hrel0).mono fun e w' ⟨l,u,σ',β',H',he,hR,hrep,Z,r⟩=>?_
 ·obtain⟨l1,z,g⟩:=hget j l0 o;exact g.rep ((hv j l1 z).ren hgc)
 have t:=h l H' hR;unfold IV at t;cases hok:AP ρ off s H' with
 |false=>rw[hok]at t;exact t.elim
 | true =>
   rw [hok,x4s]at t;simp only[AP,x4n,x6w]at hok;obtain⟨⟨_,hnd2⟩,hnew⟩:=hok;have hnd2:=JT hnd2;obtain⟨F,t,hF1,hF2⟩:=NJ t;obtain⟨H2,t,hH1,hH2⟩:=Gy t;obtain⟨sl,t,hsl⟩:=WR (Y4 _) t;rw[XB]at t;have hg:∀{k j:Nat},Jy ρ off H' k=some j->k∈JL H'/\((k,j)∈ρ\/(j=k+off/\WY j s=true)):=fun {k j} q=>by
    unfold Jy at q;cases M:JX k (JL H')with
    |false=>rw[M]at q;cases q
    | true=>
      rw[M,x4s]at q;have Q:=HK.1 M;refine⟨Q,?_⟩;have:=hnew k Q;cases hl:lkp ρ k with
      | some O=>
        rw[hl]at q;cases q;exact .inl (Lq hl)
      | none=>
        rw[hl]at q this;cases q;exact .inr ⟨rfl,this⟩
   have hginj:∀{k k' j:Nat},Jy ρ off H' k=some j->Jy ρ off H' k'=some j->k=k':=fun {k k' j} z g=>by
    have m1:=(hg z).1;have m2:=(hg g).1;obtain⟨x,hx⟩:=x7x.1 m1;obtain⟨y,hy⟩:=x7x.1 m2;have hx':((JL H').map fun k=>(Jy ρ off H' k).getD 0)[x]?=some j:=by simp[hx,z]
    have hy':((JL H').map fun k=>(Jy ρ off H' k).getD 0)[y]?=some j:=by simp[hy,g]
    have hlt:x<((JL H').map fun k=>(Jy ρ off H' k).getD 0).length:=(x4u.1 hx').1;have hxy:=(List.getElem?_inj hlt hnd2).1 (hx'.trans hy'.symm);subst hxy;rw[hx]at hy;cases hy;rfl
   let βn:Lab:=fun j=>match(JL H').find? (fun k=>Jy ρ off H' k==some j)with
    |some k=>β' k
    |none=>β j
   have hβ1:∀k j,Jy ρ off H' k=some j->βn j=β' k:=fun k j q=>by
    show(match(JL H').find? (fun k=>Jy ρ off H' k==some j)with
     |some k=>β' k
     |none=>β j)=β' k
    cases hf:(JL H').find? (fun k=>Jy ρ off H' k==some j)with
    | none=>
      have:=x9b.1 hf k (hg q).1;simp[q]at this
    | some k'=>
      have:=x9j hf;simp only[x8u]at this;rw[hginj q this]
   have hβ2:∀j,(∀k,Jy ρ off H' k≠some j)->βn j=β j:=fun j o=>by
    show(match(JL H').find? (fun k=>Jy ρ off H' k==some j)with
     |some k=>β' k
     |none=>β j)=β j
    cases hf:(JL H').find? (fun k=>Jy ρ off H' k==some j)with
    |none=>rfl
    | some k'=>
      have:=x9j hf;simp only[x8u]at this;exact absurd this (o k')
   have hown0:∀b,owns βc H0 b->owns β s.H b:=by
    rintro b ⟨k,q,i,A,C⟩;obtain⟨j,z,g⟩:=hl0 k q;exact⟨j,g,i,(hβ z)▸A,C⟩
   have hkeep:∀j,(j∉q7k H' ρ)->(∀k,Jy ρ off H' k=some j->(k,j)∈ρ)->βn j=β j:=fun j o I=>by
    by_cases hex:∃k,Jy ρ off H' k=some j
    ·obtain⟨k,q⟩:=hex;have M:=I k q;have hp:ZN k=true:=by
      cases hp:ZN k with
      |true=>rfl
      | false=>
        exact absurd (x4y.2 ⟨(k,j),x5h.2 ⟨M,by simp[hp]⟩,rfl⟩) o
     simp only[ZN,x4n,z0z,blt]at hp;rw[hβ1 k j q,r.pin k hp.1 (by omega),hβ M]
    ·exact hβ2 j fun k q=>hex ⟨k,q⟩
   have husable:∀{k j:Nat},Jy ρ off H' k=some j->(∀c,(j,c)∉s.H)\/(k,j)∈ρ:=fun {k j} q=>by
    rcases(hg q).2 with z|⟨_,z⟩
    ·exact .inr z
    ·exact .inl fun c hc=>((XI z).1 j c hc).1 rfl
   have hrepC:∀{l:LV}{v:Value},RepL σ β l v->(∀k,WY k s=true->l.free k=true)->RepL σ' βn (killAll (q7k H' ρ) l) v:=fun {l v} hl hfr=>by
    refine(hl.killAll (q7k H' ρ)).agree r.le fun k q=>?_;obtain⟨z,g⟩:=Zn _ _ _ q;refine hkeep k g fun k' hk'=>?_;rcases(hg hk').2 with B|⟨_,B⟩
    ·exact B
    ·rw[hfr k B]at z;cases z
   have hslot:∀i,RepL σ' βn (getS sl i) (a.tmps.getD i undef):=fun i=>by
    rw[hsl];exact hrepC (hr.E i) fun k q=>(XI q).2 i
   have hfrm:∀b,b<w.heap.size->¬owns βc H0 b->w'.heap[b]?=w.heap[b]?:=r.G.block;have hfno:∀j∈s.H.map (·.1),j∉ρ.map (·.2)->∀i,β j=some i->∀b,i.has b->¬owns βc H0 b:=fun j o hjr i A b hib=>by
    rintro⟨k,q,i0,hi0,C⟩;obtain⟨j0,z,g⟩:=hl0 k q;rw[hβ z]at hi0;have:=hr.heap.inj j0 g j o i0 i hi0 A b C hib;subst this;exact hjr (x4y.2 ⟨_,z,rfl⟩)
   have D:∀j∈JL F,j∉ρ.map (·.2)/\j∈s.H.map (·.1):=fun j o=>by
    obtain⟨⟨O,c'⟩,M,rfl⟩:=x4y.1 o;obtain⟨z,c,g,_⟩:=hF2 O c' M;exact⟨z,x4y.2 ⟨_,g,rfl⟩⟩
   have U:∀j∈JL F,βn j=β j:=fun j o=>by
    obtain⟨z,g⟩:=D j o;refine hβ2 j fun k q=>?_;rcases husable q with B|B
    ·obtain⟨⟨O,c⟩,M,rfl⟩:=x4y.1 g;exact B c M
    ·exact z (x4y.2 ⟨_,B,rfl⟩)
   have J:∀j∈JL H2,∃k,Jy ρ off H' k=some j/\k∈H'.map (·.1):=fun j o=>by
    obtain⟨⟨O,c'⟩,M,rfl⟩:=x4y.1 o;obtain⟨k,c,z,g,_⟩:=hH2 O c' M;exact⟨k,z,x4y.2 ⟨_,g,rfl⟩⟩
   have hdisj:∀j∈JL H2,j∉JL F:=fun j o hjF=>by
    obtain⟨k,q,_⟩:=J j o;obtain⟨z,g⟩:=D j hjF;rcases husable q with B|B
    ·obtain⟨⟨O,c⟩,M,rfl⟩:=x4y.1 g;exact B c M
    ·exact z (x4y.2 ⟨_,B,rfl⟩)
   have Y:∀j∈(H2++F).map (·.1),j∈JL H2\/j∈JL F:=fun j o=>by
    rw[x4d,x4g]at o;exact o
   have hheap:HRel σ' βn (H2++F) w':=by
    refine⟨Z.mem,fun j c o=>?_,?_,fun j o i A b C=>?_,fun j o O I i i' A L b C V=>?_⟩
    ·rcases x4g.1 o with o|o
     ·obtain⟨k,c0,z,g,rfl⟩:=hH2 j c o;exact(Z.chunks k c0 g).ren hβ1 z
     ·have hjl:j∈JL F:=x4y.2 ⟨_,o,rfl⟩;obtain⟨z,c0,g,rfl⟩:=hF2 j c o;have hjs:j∈s.H.map (·.1):=x4y.2 ⟨_,g,rfl⟩;have hh:=hr.heap.chunks j c0 g;have hw:∀i,β j=some i->∀b,i.has b->w'.heap[b]?=w.heap[b]?:=fun i A b C=>hfrm _ (hr.heap.apart j hjs i A b C).2 (hfno j hjs z i A b C);cases c0 with
      | obj e cs=>
        obtain⟨i,vs,A,C,hn,hc⟩:=hh;refine⟨i,vs,(U j hjl).trans A,(hw i A _ i.has_blk).trans C,by simpa using hn,fun m l M=>?_⟩;rw[x4q]at M;cases hq:cs[m]?with
        |none=>rw[hq]at M;cases M
        | some l'=>
          rw[hq]at M;cases M;obtain⟨u,B,h4⟩:=hc m l' hq;refine⟨u,B,hrepC h4 fun k q=>?_⟩;exact XH ((XI q).1 j _ g).2 m l' hq
      | own e sz es=>
        rcases hh with⟨B,h4⟩|⟨i,vs,A,B,C,h4,h5,h6,h7⟩
        ·exact .inl ⟨(U j hjl).trans B,h4⟩
        ·exact .inr ⟨i,vs,(U j hjl).trans A,B,(hw i A _ i.has_blk).trans C,h4,h5,h6,fun m x hx=>⟨(h7 m x hx).1,fun j c o=>let ⟨u,h8,h9⟩:=(h7 m x hx).2 j c o;⟨u,h8,h9.mono r.le⟩⟩⟩
      | ext d=>
        show d.holds σ' (βn j) w';rw[U j hjl];exact XC.holds.mono (d:=d) hh r.le hw
    ·rw[x4d];refine x7u.2 ⟨?_,hF1.nodup hr.heap.nodup,fun j o O I he=>hdisj j o (he▸I)⟩;show(JL H2).Nodup;rw[hH1];exact hnd2
    ·rcases Y j o with o|o
     ·obtain⟨k,q,Q⟩:=J j o;rw[hβ1 k j q]at A;exact Z.apart k Q i A b C
     ·obtain⟨z,g⟩:=D j o;rw[U j o]at A;have B:=hr.heap.apart j g i A b C;refine⟨?_,x7o B.2 r.G.size⟩;cases hs:σ' b with
      |none=>rfl
      | some c=>
        rcases r.mem b B.1 (by simp[hs])with h4|h4
        ·exact absurd h4 (hfno j g z i A b C)
        ·omega
    ·have mixed:∀{j O:Nat}{i i':BInfo},j∈JL H2->O∈JL F->βn j=some i->βn O=some i'->∀b,i.has b->¬i'.has b:=fun {j O i i'} o I A L b C V=>by
      obtain⟨k,q,Q⟩:=J j o;obtain⟨z,g⟩:=D O I;rw[hβ1 k j q]at A;rw[U O I]at L;rcases r.own b ⟨k,Q,i,A,C⟩with B|B
      ·exact hfno O g z i' L b V B
      ·have:=(hr.heap.apart O g i' L b V).2;omega
     rcases Y j o with o|o<;>rcases Y O I with I|I
     ·obtain⟨k,q,Q⟩:=J j o;obtain⟨k',hk',hkm'⟩:=J O I;rw[hβ1 k j q]at A;rw[hβ1 k' O hk']at L;have:=Z.inj k Q k' hkm' i i' A L b C V;subst this;rw[q]at hk';cases hk';rfl
     ·exact absurd V (mixed o I A L b C)
     ·exact absurd C (mixed I o L A b V)
     ·rw[U j o]at A;rw[U O I]at L;exact hr.heap.inj j (D j o).2 O (D O I).2 i i' A L b C V
   have hrelN:Rel N σ' βn ⟨sl,H2++F⟩ a w':=⟨hr.size,hr.defers,hslot,hheap⟩;obtain⟨sl',hK,hr''⟩:=hrelN.setD (hrep.ren hβ1) t;refine⟨u,σ',βn,_,he,hK,hr'',r.le,⟨r.G.os,r.G.tape,r.G.output,r.G.drawn,r.G.size,fun b C hnb=>r.G.block b C fun ho=>hnb (hown0 b ho)⟩,fun b h0 z=>(r.mem b h0 z).imp (hown0 b) id,fun b C=>?_,fun j h0 z=>?_⟩
   ·obtain⟨j,o,i,A,C⟩:=C;rcases Y j o with o|o
    ·obtain⟨k,q,Q⟩:=J j o;rw[hβ1 k j q]at A;exact(r.own b ⟨k,Q,i,A,C⟩).imp (hown0 b) id
    ·rw[U j o]at A;exact .inl ⟨j,(D j o).2,i,A,C⟩
   ·by_cases hex:∃k,Jy ρ off H' k=some j
    ·obtain⟨k,q⟩:=hex;rcases(hg q).2 with B|⟨_,B⟩
     ·have h4:=x6w.1 hρ3 (k,j) B;have hpj:ZN j=true:=by simp only[ZN,x4n,z0z,blt];omega
      replace h4:ZN k=true:=by simpa[hpj]using h4
      simp only[ZN,x4n,z0z,blt]at h4;rw[hβ1 k j q,r.pin k h4.1 (by omega),hβ B]
     ·have:=YR B;omega
    ·exact hβ2 j fun k q=>hex ⟨k,q⟩
def blE{ρ:List (Nat×Nat)}{k:Nat}{c i:Chunk}{H r:Heap}(l:lkp (ρ.map fun x=>(x.2,x.1)) ((lkp ρ k).getD 0)=some k)(j:getH H ((lkp ρ k).getD 0)=some c)(h:CSub (c.ren (lkp (ρ.map fun x=>(x.2,x.1)))) i)(m:BlksH (lkp (ρ.map fun x=>(x.2,x.1))) H r):BlksH (lkp (ρ.map fun x=>(x.2,x.1))) H ((k,i)::r):=.cons l j h m
theorem cH{P:Program}{N:Nat}{f:FuncId}{args args0:List LV}{dst:Option Nat}{s:St}{K:St->Prop}{H0 H1:Heap}{i:LV}(ρ:List (Nat×Nat))(off:Nat)(l:SpecH P f args0 H0 fun r H=>r=i/\H=H1)(h:IV ρ off N dst s i H1 K)(ha:ArgsH (lkp (ρ.map fun x=>(x.2,x.1))) args args0:=by(repeat (refine ArgsH.cons ?_ ?_;first|exact LSub.refl _|exact LSub.p Sub.nils|exact LSub.p (Sub.tt rfl)|exact LSub.p (Sub.ff rfl)|exact LSub.p (Sub.int (by omega))));exact ArgsH.nil)(hH:BlksH (lkp (ρ.map fun x=>(x.2,x.1))) s.H H0:=by(repeat (refine blE rfl rfl ?_ ?_;exact CSub.refl _));exact BlksH.nil)(k:OG ρ=true:=by exact rfl)(j:PB (JL H0)=true:=by exact rfl):CallK P N f args dst s K:=CallK.heap ρ off ha hH l k j fun _ _ e=>by rw[e.1,e.2];exact h
theorem cJ{P:Program}{N:Nat}{f:FuncId}{args args0:List LV}{dst:Option Nat}{s:St}{K:St->Prop}{H0:Heap}{R:LV->Heap->Prop}(ρ:List (Nat×Nat))(off:Nat)(k:SpecH P f args0 H0 R)(h:∀l H',R l H'->IV ρ off N dst s l H' K)(ha:ArgsH (lkp (ρ.map fun x=>(x.2,x.1))) args args0:=by(repeat (refine ArgsH.cons ?_ ?_;first|exact LSub.refl _|exact LSub.p Sub.nils|exact LSub.p (Sub.tt rfl)|exact LSub.p (Sub.ff rfl)|exact LSub.p (Sub.int (by omega))));exact ArgsH.nil)(hH:BlksH (lkp (ρ.map fun x=>(x.2,x.1))) s.H H0:=by(repeat (refine blE rfl rfl ?_ ?_;exact CSub.refl _));exact BlksH.nil)(j:OG ρ=true:=by exact rfl)(i:PB (JL H0)=true:=by exact rfl):CallK P N f args dst s K:=CallK.heap ρ off ha hH k j i h
abbrev rH0:List (Nat×Nat):=[(1000,1000),(2000,2000),(2001,2001),(2002,2002)]
abbrev rH1:List (Nat×Nat):=[(1000,0)]
abbrev rH2:List (Nat×Nat):=[(1000,0),(2000,1)]
abbrev rH3:List (Nat×Nat):=[(1000,1000),(1001,1001)]
abbrev rH4:List (Nat×Nat):=[(1000,0),(1001,1)]
abbrev rH5:List (Nat×Nat):=[(1000,1000)]
abbrev rH6:List (Nat×Nat):=[(1000,1)]
end
def LV.xfree(k:Nat):LV->Bool
 |.p _=>true
 |.ptr _ _=>true
 |.hd _ _ _=>true
 |.agg vs=>xfreeAll k vs
 |.tup vs=>xfreeAll k vs
 | .ext j d=>match d with
   |.map=>true
   |.iter=>true
   |_=> !(j==k)
where xfreeAll (k:Nat):List LV->Bool
 |[]=>true
 |v::r=>LV.xfree k v&&xfreeAll k r
theorem YT{k:Nat}:∀{vs:List LV},LV.xfree.xfreeAll k vs=true->∀(j:Nat)(l:LV),vs[j]?=some l->l.xfree k=true
 |[],_,_,_,h=>by simp at h
 | v::r,h,0,l,hj=>by
   simp only[LV.xfree.xfreeAll,x4n]at h;simp at hj;subst hj;exact h.1
 | v::r,h,j+1,l,hj=>by
   simp only[LV.xfree.xfreeAll,x4n]at h;exact YT h.2 j l (by simpa using hj)
def LV.xkill(k:Nat)(l:LV):LV:=bif l.xfree k then l else .p .any
def WX(k:Nat)(l:LV):(l.xkill k).xfree k=true:=by
 unfold LV.xkill;cases h:l.xfree k
 .rfl
 .exact h
theorem RepL.subs{σ:Mem}{β:Lab}{l:LV}(e:RepL σ β l v){k:Nat}{i i':BInfo}(a:β k=some i)(w:i'.blk=i.blk/\i'.cap=i.cap/\i'.sz=i.sz)(z:l.xfree k=true):RepL σ (β.set k (some i')) l v:=by
 have r:∀j,j≠k->(β.set k (some i')) j=β j:=fun j t=>by simp[Lab.set,t]
 have m:(β.set k (some i')) k=some i':=by simp[Lab.set]
 induction e with
 |p e=>exact .p e
 | ptr j off y q=>
   by_cases t:j=k
   .subst t;rw[a]at q;cases q;rw[<-w.1];exact .ptr j off i' m
   .exact .ptr j off y ((r j t).trans q)
 | hdn j q=>
   by_cases t:j=k
   .subst t;rw[a]at q;cases q
   .exact .hdn j ((r j t).trans q)
 | hd j off len y o q x A=>
   by_cases t:j=k
   .subst t;rw[a]at q;cases q;rw[<-w.1,<-w.2.1];exact .hd j off len i' o m (by rw[w.2.1];exact x) (by rw[w.2.1,w.2.2];exact A)
   .exact .hd j off len y o ((r j t).trans q) x A
 |agg ls vs u c b _ g=>exact .agg ls vs u c b (fun j l x=>g j l x (YT (by simpa[LV.xfree]using z) j l x))
 |tup ls vs u c b _ g=>exact .tup ls vs u c b (fun j l x=>g j l x (YT (by simpa[LV.xfree]using z) j l x))
 | ext j d y v q hd=>
   by_cases t:j=k
   .subst t;rw[a]at q;cases q;cases d with
    |row=>simp[LV.xfree]at z
    |rptr=>simp[LV.xfree]at z
    |map=>exact .ext j .map i' v m (by rw[show v=.map (some i.blk)from hd,<-w.1];rfl)
    |iter=>exact .ext j .iter i' v m (by rw[show v=.pointer (some ⟨i.blk,0,none⟩)from hd,<-w.1];rfl)
   .exact .ext j d y v ((r j t).trans q) hd
theorem RepL.xkill{σ:Mem}{β:Lab}{l:LV}{v:Value}(h:RepL σ β l v)(k:Nat):RepL σ β (l.xkill k) v:=by
 unfold LV.xkill;cases l.xfree k
 .exact .p (.any _)
 .exact h
theorem Chunk.holds.mapL{σ τ:Mem}{β γ:Lab}{w w':World}{j:Nat}{c:Chunk}(h:c.holds σ β w j){f:LV->LV}(t:σ.le τ)(H:∀l v,RepL σ β l v->RepL τ γ (f l) v)(z:γ j=β j)(B:∀i,β j=some i->∀b,i.has b->w'.heap[b]?=w.heap[b]?):(c.mapL f).holds τ γ w' j:=by
 cases c with
 | obj e cs=>
   obtain⟨i,vs,r,a,g,G⟩:=h;refine⟨i,vs,z.trans r,(B i r _ i.has_blk).trans a,by simpa using g,fun m l y=>?_⟩;rw[x4q]at y;cases A:cs[m]?with
   |none=>rw[A]at y;cases y
   | some l'=>
     rw[A]at y;cases y;obtain⟨u,o,q⟩:=G m l' A;exact⟨u,o,H _ _ q⟩
 | own e sz es=>
   rcases h with⟨o,q⟩|⟨i,vs,r,o,a,q,E,F,C⟩
   .exact .inl ⟨z.trans o,q⟩
   .exact .inr ⟨i,vs,z.trans r,o,(B i r _ i.has_blk).trans a,q,E,F,fun m x D=>⟨(C m x D).1,fun n c g=>let ⟨u,h8,h9⟩:=(C m x D).2 n c g;⟨u,h8,h9.mono t⟩⟩⟩
 | ext d=>
   show d.holds τ (γ j) w';rw[z];exact XC.holds.mono (d:=d) h t B
def Xh(k h:Nat)(f:LV->LV)(c:Chunk):Heap->(Heap->Prop)->Prop
 |[],K=>K []
 |(j,d)::r,K=>bif j==h then Xh k h f c r K else bif j==k then Xh k h f c r fun r=>K ((j,c)::r)else AZ f d fun d=>Xh k h f c r fun r=>K ((j,d)::r)
theorem WT{k z:Nat}{f:LV->LV}{c:Chunk}:∀{H:Heap}{K:Heap->Prop},Xh k z f c H K->∃H',K H'/\(JL H').Sublist (JL H)/\∀j c',(j,c')∈H'->j≠z/\((j=k/\c'=c)\/(j≠k/\∃l,(j,l)∈H/\c'=l.mapL f))
 |[],_,h=>⟨[],h,z0v _,by simp⟩
 | (j,d)::r,K,h=>by
   simp only[Xh,LL]at h;by_cases y:j=z
   .subst y;simp only[x8k,x4s]at h;obtain⟨H',w,m,n⟩:=WT h;exact⟨H',w,m.cons _,fun x c' i=>let ⟨o,p⟩:=n x c' i;⟨o,p.imp id fun⟨q,l,t,u⟩=>⟨q,l,x4x _ t,u⟩⟩⟩
   .have e:(j==z)=false:=by simp[y]
    rw[e,x5q]at h;by_cases a:j=k
    .subst a;simp only[x8k,x4s]at h;obtain⟨H',w,m,n⟩:=WT h;refine⟨_,w,m.cons_cons _,fun x c' i=>?_⟩;rcases x4v.1 i with g|i
     .cases g;exact⟨y,.inl ⟨rfl,rfl⟩⟩
     .obtain ⟨o,p⟩:=n x c' i;exact⟨o,p.imp id fun⟨q,l,t,u⟩=>⟨q,l,x4x _ t,u⟩⟩
    .have b:(j==k)=false:=by simp[a]
     rw[b,x5q]at h;obtain⟨H',w,m,n⟩:=WT h;refine⟨_,w,m.cons_cons _,fun x c' i=>?_⟩;rcases x4v.1 i with g|i
     .cases g;exact⟨y,.inr ⟨a,d,x4z,rfl⟩⟩
     .obtain ⟨o,p⟩:=n x c' i;exact⟨o,p.imp id fun⟨q,l,t,u⟩=>⟨q,l,x4x _ t,u⟩⟩
section
variable {P:Program}{T:Tab}{N:Nat}
theorem JW{sl:List (Nat×LV)}{H H':Heap}(k e2 sz2:Nat){e:TypeId}{es:List AV}(hg:getH H k=some (.own e 1 es))(hn:∀x∈es,x=.nils)(G:ZN k=false)(hsl:(sl.all fun x=>x.2.xfree k)=true)(hH:(H.all fun x=>match x.2 with |.obj _ cs=>LV.xfree.xfreeAll k cs|_=>true)=true)(hH':Xh k 1999 id (.ext (.mat e e2 sz2 (List.replicate es.length []) [])) H fun H2=>H2=H')(_:1999∉JL H):Le N ⟨sl,H⟩ ⟨sl,H'⟩:=fun σ β a w q=>by
 obtain⟨H2,he,z,A⟩:=WT hH';rw[he]at z A;have hslF:∀i,(getS sl i).xfree k=true:=fun i=>by
  clear q;induction sl with
  |nil=>rfl
  | cons x r ih=>
    simp only[List.all_cons,x4n]at hsl;obtain⟨j,l⟩:=x;simp only[getS];cases j==i
    ·exact ih hsl.2
    ·exact hsl.1
 have hch:=q.heap.chunks k _ (QG hg);have n:∀j∈H'.map (·.1),j∈H.map (·.1):=fun j o=>z.subset o;have hnp:∀j,1000<=j->j<2000->j≠k:=fun j V y he=>by
  subst he;have:ZN j=true:=by simp only[ZN,x4n,z0z,blt];omega
  rw[this]at G;cases G
 rcases hch with⟨hb0,hes⟩|⟨i,vs,hi,hisz,hh,hvs,hle,hmax,hc⟩
 ·subst hes;refine⟨σ,β,⟨q.size,q.defers,q.E,⟨q.heap.mem,fun j c o=>?_,z.nodup q.heap.nodup,fun j o=>q.heap.apart j (n j o),fun j o j' Q=>q.heap.inj j (n j o) j' (n j' Q)⟩⟩,
   Mem.le_refl σ,Frm.refl _ _,fun _ V y=>absurd V y,fun b ⟨j,o,r⟩=>.inl ⟨j,n j o,r⟩,fun _ _ _=>rfl⟩
  obtain⟨_,⟨rfl,rfl⟩|⟨y,c0,Y,rfl⟩⟩:=A j c o
  ·exact .inl ⟨hb0,rfl⟩
  ·exact(q.heap.chunks j c0 Y).mapL (Mem.le_refl σ) (fun _ _ h=>h) rfl (fun _ _ _ _=>rfl)
 ·let i':BInfo:=⟨i.blk,i.cap,i.sz,List.replicate es.length none,i.ok⟩;have p:∀j,j≠k->(β.set k (some i')) j=β j:=fun j o=>by simp[Lab.set,o]
  have C:(β.set k (some i')) k=some i':=by simp[Lab.set]
  have hhas:∀b,i'.has b->i.has b:=fun b D=>by
   rcases D with D|⟨c,D⟩
   ·exact .inl D
   ·have:=z0x.1 D;cases this.2
  have g:∀j I,(β.set k (some i')) j=some I->∃Z,β j=some Z/\∀b,I.has b->Z.has b:=fun j I o=>by
   by_cases hjk:j=k
   ·subst hjk;rw[C]at o;cases o;exact⟨i,hi,hhas⟩
   ·rw[p j hjk]at o;exact⟨I,o,fun _ h=>h⟩
  refine⟨σ,β.set k (some i'),⟨q.size,q.defers,fun j=>(q.E j).subs hi ⟨rfl,rfl,rfl⟩ (hslF j),⟨q.heap.mem,fun j c o=>?_,z.nodup q.heap.nodup,fun j o I O b D=>?_,fun j o j' Q i1 i2 y Y b hb1 hb2=>?_⟩⟩,
   Mem.le_refl σ,Frm.refl _ _,fun _ V y=>absurd V y,fun b ⟨j,o,I,O,D⟩=>?_,fun j V y=>p j (hnp j V y)⟩
  ·obtain⟨_,⟨rfl,rfl⟩|⟨y,c0,Y,rfl⟩⟩:=A j c o
   ·refine .inr ⟨i',vs,C,hisz,hh,by simpa using hvs,by simpa using hle,hmax,by simp[i'],fun a b c hs=>?_,fun a row B=>⟨fun h=>absurd h (by simp),fun _=>.inl ?_⟩⟩
    ·have:=x4p hs;have:=z0x.1 this;cases this.2
    ·have F:a<es.length:=by have:=(x4u.1 B).1;simpa using this
     have hx:=hn es[a] (x4h F);obtain⟨u,J,L⟩:=(hc a es[a] (by simp[F])).2 0 .nils (by rw[hx];rfl);rw[x5v,if_pos F]at B;cases L;refine⟨by simp[i',F],by cases B;rfl,by simpa using J⟩
   ·have hx:=x6w.1 hH (j,c0) Y;have t:=q.heap.chunks j c0 Y;cases c0 with
    | obj e' cs=>
      obtain⟨i2,U,M,hh2,hn2,hc2⟩:=t;refine⟨i2,U,(p j y).trans M,hh2,by simpa using hn2,fun m l hm=>?_⟩;simp only[List.map_id_fun,id_eq]at hm;obtain⟨u,J,L⟩:=hc2 m l hm;exact⟨u,J,L.subs hi ⟨rfl,rfl,rfl⟩ (YT hx m l hm)⟩
    | own e' sz' es'=>
      rcases t with⟨J,L⟩|⟨i2,U,M,rest⟩
      ·exact .inl ⟨(p j y).trans J,L⟩
      ·exact .inr ⟨i2,U,(p j y).trans M,rest⟩
    | ext d=>
      show d.holds σ ((β.set k (some i')) j) w;rw[p j y];exact t
  ·obtain⟨Z,h3,h4⟩:=g j I O;exact q.heap.apart j (n j o) Z h3 b (h4 b D)
  ·obtain⟨i3,h3,h4⟩:=g j i1 y;obtain⟨i5,J,L⟩:=g j' i2 Y;exact q.heap.inj j (n j o) j' (n j' Q) i3 i5 h3 J b (h4 b hb1) (L b hb2)
  ·obtain⟨Z,h3,h4⟩:=g j I O;exact .inl ⟨j,n j o,Z,h3,h4 b D⟩
def AU(s:St)(k h:Nat)(c:Chunk)(K:St->Prop):Prop:=
 Y8 (fun l=>(l.kill h).xkill k) s.sl fun sl=>Xh k h (fun l=>(l.kill h).xkill k) c s.H fun H=>K ⟨sl,H⟩
theorem Ns{k:Nat}(h:ZN k=false):∀j,1000<=j->j<2000->j≠k:=fun j l m i=>by
 subst i;have:ZN j=true:=by simp only[ZN,x4n,z0z,blt];omega
 rw[this]at h;cases h
theorem ZA(hT:TabOK P T){o:Oper}{t:TypeId}{x v:Operand}(hop:o.op=.store t x v)(hd:o.dst=none){k off C n:Nat}(hx:QD s.sl x=.ptr k off)(hv:QD s.sl v=.hd C 0 n){e:Nat}(hg:getH s.H k=some (.ext (.mat e e2 sz rows hole))){es:List AV}(hg2:getH s.H C=some (.own e2 sz es)){it:TyI}(ht:T.get t=some it)(hsz:it.size=1)(hpin:(ZN k||ZN C)=false)(hne:k≠C)(a:Nat)(L:List Nat)(ho:off=a)(ha:a<rows.length)(hn:n=es.length)(hh':a∉L/\(∀y,y∈hole->y=a\/y∈L)/\∀y,y∈L->y∈hole)(h:AU s k C (.ext (.mat e e2 sz (rows.set a es) L)) K):OpK P N s o K:=by
 subst ho hn;refine⟨fun σ β ac w M Q=>?_⟩;obtain⟨sl,h,hsl⟩:=WR (by rfl) h;obtain⟨H2,hK,hsub,hmem⟩:=WT h;simp only[x8p]at hpin;have hx':=QX M.E x;have hv':=QX M.E v;rw[hx]at hx';rw[hv]at hv';have hk1:=QP hg;have Z:=QP hg2;generalize hxe:ac.eval x=xv at hx';generalize hve:ac.eval v=vv at hv';cases hx' with
 |ptr _ _ i hi=>
 rcases M.heap.chunks k _ (QG hg)with h0|⟨i',vs,hi',hisz,hh,hvs,hle,hmax,hsl',hdis,hrows⟩
 ·rw[hi]at h0;cases h0.1
 rw [hi]at hi';cases hi';have hown:∃sub:Option (Nat×Nat),vv.oneCell'=true/\(∀b c,sub=some (b,c)->∃F,β C=some F/\F.blk=b)/\
   ((sub=none/\es=[]/\vv=.slice none 0 0)\/∃b c ws,sub=some (b,c)/\vv=.slice (some ⟨b,0,none⟩) es.length c/\w.heap[b]?=some (.cells ws e2 (0,0))/\
      ws.size=c*sz/\es.length<=c/\c<=maxLen/\∀(m:Nat)(x:AV),es[m]?=some x->x.cells.length=sz/\∀(j:Nat)(c':AV),x.cells[j]?=some c'->∃u:Value,ws[m*sz+j]?=some u/\Rep σ c' u):=by
  rcases M.heap.chunks C _ (QG hg2)with⟨hb0,hes⟩|⟨F,ws,hi2,r,q,z,A,O,h6⟩
  ·rcases hv'.hdI with⟨_,_,_,G⟩|⟨F,_,hk,_⟩
   ·exact⟨none,by rw[G];rfl,fun b c h=>(by cases h),.inl ⟨rfl,hes,G⟩⟩
   ·rw[hb0]at hk;cases hk
  ·rcases hv'.hdI with⟨hk,_⟩|⟨i3,oo,hk,hl,ho,G⟩
   ·rw[hi2]at hk;cases hk
   ·rw[hi2]at hk;cases hk;have hoo:oo=0:=by
     rcases ho with ho|ho
     ·simpa using ho
     ·omega
    subst hoo;refine⟨some (F.blk,F.cap),by rw[G];rfl,fun b c h=>by cases h;exact⟨F,hi2,rfl⟩,.inr ⟨F.blk,F.cap,ws,rfl,by rw[G];simp,q,by rw[z],A,O,h6⟩⟩
 obtain⟨sub,hone,hsubk,hrow⟩:=hown;have hcells:vv.cells=#[vv]:=by cases vv<;>first|rfl|simp[Value.oneCell']at hone
 have hoff:off<vs.size:=by omega
 let D:Array Value:=(vs.toList.take off++[vv]++vs.toList.drop (off+1)).toArray;let i':BInfo:=⟨i.blk,i.cap,i.sz,i.subs.set off sub,i.ok⟩;let β':Lab:=(β.set C none).set k (some i');have hset:∀j,j≠k->j≠C->β' j=β j:=fun j r q=>by simp[β',Lab.set,r,q]
 have hsetk:β' k=some i':=by simp[β',Lab.set]
 have hsetk2:β' C=none:=by simp[β',Lab.set,x7d hne]
 have hrun:(execOp ac.eval o).run P w=.ok .skip (w.setRow i.blk D):=by
  have hst:=run_storeCells_at P i.blk off e [vv] 0 vs w hh (by simp;omega) (by simpa using hone);simp only[x8d,x4i]at hst;have hsize:=(hT _ _ ht).sizeOf;simp[execOp,hop,Instr.storeAt,Instr.sureAddr,hxe,hve,storeVar,hsize,hsz,hcells,hst,D]
 have g:∀b,b≠i.blk->(w.setRow i.blk D).heap[b]?=w.heap[b]?:=fun b J=>setRow_other w i.blk b D J;have hhas:∀b,i'.has b->i.has b\/∃F,β C=some F/\F.has b:=fun b J=>by
  rcases J with J|⟨c,J⟩
  ·exact .inl (.inl J)
  ·rcases x7q J with r|r
   ·exact .inl (.inr ⟨c,r⟩)
   ·obtain⟨F,z,A⟩:=hsubk b c r.symm;exact .inr ⟨F,z,.inl A⟩
 have V:∀j∈H2.map (·.1),j∈s.H.map (·.1)/\j≠C:=fun j hj=>by
  refine⟨hsub.subset hj,fun G=>?_⟩;obtain⟨⟨j',c⟩,hm,rfl⟩:=x4y.1 hj;exact(hmem j' c hm).1 G
 have Y:∀j,j≠C->∀ij,β' j=some ij->∀b,ij.has b->(∃i0,β j=some i0/\i0.has b)\/(j=k/\∃F,β C=some F/\F.has b):=fun j hj ij I b J=>by
  by_cases hjk:j=k
  ·subst hjk;rw[hsetk]at I;cases I;rcases hhas b J with r|r
   ·exact .inl ⟨i,hi,r⟩
   ·exact .inr ⟨rfl,r⟩
  ·rw[hset j hjk hj]at I;exact .inl ⟨ij,I,J⟩
 have hlv:∀l v,RepL σ β l v->RepL σ β' ((l.kill C).xkill k) v:=fun l v hl=>by
  have r:=((hl.kill C).set none (LV.kill_free C l)).xkill k;exact r.subs (i:=i) (by simp[Lab.set,hne,hi]) ⟨rfl,rfl,rfl⟩ (WX k _)
 have hheap:HRel σ β' H2 (w.setRow i.blk D):=by
  refine⟨fun b c J=>?_,fun j c hj=>?_,hsub.nodup M.heap.nodup,fun j hj ij I b J=>?_,fun j hj j' hj' i1 F r q b hb1 hb2=>?_⟩
  ·obtain⟨e',fr,r⟩:=M.heap.mem b c J;exact⟨e',fr,(g b fun G=>by rw[G,(M.heap.apart k hk1 i hi i.blk i.has_blk).1]at J;cases J).trans r⟩
  ·obtain⟨hj2,⟨rfl,rfl⟩|⟨r,c0,q,rfl⟩⟩:=hmem j c hj
   ·have hcell:∀p,D[p]?=if p=off then some vv else vs[p]?:=fun p=>by
     simp only[D,x9n];by_cases r:p<off
     ·rw[if_neg (by omega),x4r,x5i (by simp;omega),x5s,if_pos r];simp
     ·by_cases q:p=off
      ·subst q;rw[if_pos rfl,x4r,x5t (by simp;omega)];simp only[x5z,x6g];rw[show p-min p vs.size=0 by omega];rfl
      ·rw[if_neg q,x5t (by simp;omega)];simp only[x3o,x5z,x6g,x4i,x5o,x7f];congr 1;omega
    have B:∀p,(i.subs.set off sub)[p]?=if p=off then some sub else i.subs[p]?:=fun p=>by
     by_cases q:p=off
     ·subst q;rw[if_pos rfl,x5f (by omega)]
     ·rw[if_neg q,x5p (x7d q)]
    have hblk:∀b c,sub=some (b,c)->i.blk≠b/\∀a c',i.subs[a]? ≠ some (some (b,c')):=fun b c hs=>by
     obtain⟨F,z,A⟩:=hsubk b c hs;refine⟨fun G=>hne (M.heap.inj _ hk1 C Z i F hi z b (.inl G) (.inl A)),fun a c' ha=>hne (M.heap.inj _ hk1 C Z i F hi z b (.inr ⟨c',x4p ha⟩) (.inl A))⟩
    refine .inr ⟨i',D,hsetk,hisz,setRow_heap w i.blk vs _ e _ hh,?_,by simpa using hle,hmax,by simpa[i']using hsl',fun a b c hs=>?_,fun a row hra=>⟨fun hin=>?_,fun hnin=>?_⟩⟩
    ·simp only[D,x8y,x3o,x5z,x6c,x6g,x4i];show _=i.cap;omega
    ·have U:(i.subs.set off sub)[a]?=some (some (b,c)):=hs;rw[B]at U;by_cases q:a=off
     ·rw[if_pos q]at U;obtain⟨z,A⟩:=hblk b c (by cases U;rfl);refine⟨z,fun a' c' ha'=>?_⟩;have d:(i.subs.set off sub)[a']?=some (some (b,c')):=ha';rw[B]at d;by_cases O:a'=off
      ·rw[O,q]
      ·rw[if_neg O]at d;exact absurd d (A _ _)
     ·rw[if_neg q]at U;refine⟨(hdis a b c U).1,fun a' c' ha'=>?_⟩;have d:(i.subs.set off sub)[a']?=some (some (b,c')):=ha';rw[B]at d;by_cases O:a'=off
      ·rw[if_pos O]at d;exact absurd U ((hblk b c' (by cases d;rfl)).2 _ _)
      ·rw[if_neg O]at d;exact(hdis a b c U).2 a' c' d
    ·show(i.subs.set off sub)[a]?=some none;have q:a≠off:=fun G=>hh'.1 (G▸hin);rw[B,if_neg q];rw[x5p (x7d q)]at hra;exact(hrows a row hra).1 (hh'.2.2 a hin)
    ·show((i.subs.set off sub)[a]?=some none/\row=[]/\D[a]?=_)\/∃b c ws,(i.subs.set off sub)[a]?=_/\_;rw[B,hcell];by_cases q:a=off
     ·subst q;rw[if_pos rfl,if_pos rfl];rw[x5f ha]at hra;cases hra;rcases hrow with⟨z,A,O⟩|⟨b,c,ws,z,A,O,h6⟩
      ·exact .inl ⟨by rw[z],A,by rw[O]⟩
      ·refine .inr ⟨b,c,ws,by rw[z],by rw[A],(g b fun G=>?_).trans O,h6⟩;exact(hblk b c z).1 G.symm
     ·rw[if_neg q,if_neg q];rw[x5p (x7d q)]at hra;rcases(hrows a row hra).2 (fun hin=>(hh'.2.1 a hin).elim q hnin)with z|⟨b,c,ws,z,A,O,h6⟩
      ·exact .inl z
      ·exact .inr ⟨b,c,ws,z,A,(g b fun G=>(hdis a b c z).1 G.symm).trans O,h6⟩
   ·have hjl:j∈s.H.map (·.1):=x4y.2 ⟨_,q,rfl⟩;refine(M.heap.chunks j c0 q).mapL (Mem.le_refl σ) hlv (hset j r hj2) fun ij I b J=>g b fun G=>r ?_;exact M.heap.inj j hjl k hk1 ij i I hi b J (.inl G.symm)
  ·obtain⟨r,q⟩:=V j hj;have hsz':(w.setRow i.blk D).heap.size=w.heap.size:=by simp
   rw[hsz'];rcases Y j q ij I b J with⟨i0,z,A⟩|⟨_,i0,z,A⟩
   ·exact M.heap.apart j r i0 z b A
   ·exact M.heap.apart C Z i0 z b A
  ·obtain⟨z,A⟩:=V j hj;obtain⟨O,h6⟩:=V j' hj';rcases Y j A i1 r b hb1 with⟨i3,h7,h8⟩|⟨e1,i3,h7,h8⟩<;>rcases Y j' h6 F q b hb2 with⟨i4,h9,h10⟩|⟨e2,i4,h9,h10⟩
   ·exact M.heap.inj j z j' O i3 i4 h7 h9 b h8 h10
   ·exact absurd (M.heap.inj j z C Z i3 i4 h7 h9 b h8 h10) A
   ·exact absurd (M.heap.inj j' O C Z i4 i3 h9 h7 b h10 h8) h6
   ·rw[e1,e2]
 refine PV hrun ⟨σ,β',⟨sl,H2⟩,hK,⟨?_,?_,?_,hheap⟩,Mem.le_refl σ,⟨rfl,rfl,rfl,x4m _,by simp,fun b _ hn=>g b fun G=>hn ⟨k,hk1,i,hi,.inl G.symm⟩⟩,fun b h0 r=>absurd h0 r,fun b ⟨j,hj,ij,I,J⟩=>?_,fun j h0 r=>hset j (Ns hpin.1 j h0 r) (Ns hpin.2 j h0 r)⟩
 ·rw[hd];exact M.size
 ·rw[hd];exact M.defers
 ·rw[hd];exact fun j=>by show RepL σ β' (getS sl j) _;rw[hsl];exact hlv _ _ (M.E j)
 ·obtain⟨r,q⟩:=V j hj;rcases Y j q ij I b J with⟨i0,z,A⟩|⟨_,i0,z,A⟩
  ·exact .inl ⟨j,r,i0,z,A⟩
  ·exact .inl ⟨C,Z,i0,z,A⟩
inductive FocA(k a k2 n:Nat):List LV->List LV->Prop
 |nil:FocA k a k2 n [] []
 |row {ls ls':List LV} (hs:FocA k a k2 n ls ls'):FocA k a k2 n (.ext k (.row a n)::ls) (.hd k2 0 n::ls')
 |cons {l:LV} {ls ls':List LV} (h1:(l.xfree k&&l.free k2)=true) (hs:FocA k a k2 n ls ls'):FocA k a k2 n (l::ls) (l::ls')
theorem FocA.get{k a m n:Nat}:∀{ls ls':List LV},FocA k a m n ls ls'->ls.length=ls'.length/\∀(j:Nat)(l':LV),ls'[j]?=some l'->∃l,ls[j]?=some l/\((l=.ext k (.row a n)/\l'=.hd m 0 n)\/(l'=l/\l.xfree k=true/\l.free m=true))
 |_,_,.nil=>⟨rfl,by simp⟩
 |_,_,.row hs=>⟨by simp[hs.get.1],fun j l' i=>by
    cases j with
    |zero=>simp at i;subst i;exact⟨_,rfl,.inl ⟨rfl,rfl⟩⟩
    |succ j=>exact hs.get.2 j l' (by simpa using i)⟩
 |_,_,.cons h1 hs=>⟨by simp[hs.get.1],fun j l' i=>by
    simp only[x4n]at h1;cases j with
    |zero=>simp at i;subst i;exact⟨_,rfl,.inr ⟨rfl,h1⟩⟩
    |succ j=>exact hs.get.2 j l' (by simpa using i)⟩
def KT(s:St)(k h:Nat)(c i:Chunk)(K:St->Prop):Prop:=
 Y8 (LV.xkill k) s.sl fun sl=>Xh k h (LV.xkill k) c s.H fun H=>K ⟨sl,(h,i)::H⟩
theorem RX{s':St}{σ:Mem}{β:Lab}{ac:Act}{w:World}(hr:Rel N σ β s ac w){k a x:Nat}(hu:WY x s=true){e:Nat}(hg:getH s.H k=some (.ext (.mat e e2 sz rows hole))){row:List AV}(hrow:rows[a]?=some row)(hnh:a∉hole)(hpin:ZN k=false)(h:KT s k x (.ext (.mat e e2 sz rows (a::hole))) (.own e2 sz row) fun s2=>s2=s'):
  ∃β',Rel N σ β' s' ac w/\Later σ β s.H w σ β' s'.H w/\(∀l v,l.xfree k=true->l.free x=true->RepL σ β l v->RepL σ β' l v)/\∀v,RepL σ β (.ext k (.row a row.length)) v->RepL σ β' (.hd x 0 row.length) v:=by
 obtain⟨sl,h,hsl⟩:=WR (by rfl) h;obtain⟨H2,rfl,hsub,hmem⟩:=WT h;obtain⟨hu1,hu2⟩:=XI hu;have hu3:=YR hu;have hk1:=QP hg;have hne:k≠x:=fun Z=>(hu1 k _ (QG hg)).1 Z;have hnm:x∉s.H.map (·.1):=fun hk=>by
  obtain⟨⟨j,c⟩,hm,rfl⟩:=x4y.1 hk;exact(hu1 j c hm).1 rfl
 have hlab:∀j∈H2.map (·.1),j∈s.H.map (·.1)/\j≠x:=fun j g=>by
  refine⟨hsub.subset g,fun Z=>?_⟩;obtain⟨⟨j',c⟩,hm,rfl⟩:=x4y.1 g;exact(hmem j' c hm).1 Z
 rcases hr.heap.chunks k _ (QG hg)with⟨_,h0⟩|⟨i,vs,hi,hisz,hh,hvs,hle,hmax,hsl',M,L⟩
 ·subst h0;simp at hrow
 have ha:a<rows.length:=(x4u.1 hrow).1;let i':BInfo:=⟨i.blk,i.cap,i.sz,i.subs.set a none,i.ok⟩;have hrowi:∃o2:Option BInfo,(∀t,o2=some t->i.blk≠t.blk/\t.subs=[]/\∃c,i.subs[a]?=some (some (t.blk,c)))/\(Chunk.own e2 sz row).holds σ (β.set x o2) w x/\
   ∀v,RepL σ β (.ext k (.row a row.length)) v->(o2=none/\row.length=0/\v=.slice none 0 0)\/∃t,o2=some t/\row.length<=t.cap/\v=.slice (some ⟨t.blk,0,none⟩) row.length t.cap:=by
  rcases(L a row hrow).2 hnh with⟨n,o,F⟩|⟨b,c,ws,n,o,F,h4,U,V,h7⟩
  ·refine⟨none,fun t h=>(by cases h),.inl ⟨by simp[Lab.set],o⟩,fun v hv=>?_⟩;cases hv with
   | ext _ _ ij _ hk hd=>
     rw[hi]at hk;cases hk;rcases hd with⟨_,h4,U⟩|⟨b,c,r,_⟩
     ·exact .inl ⟨rfl,h4,U⟩
     ·rw[n]at r;cases r
  ·refine⟨some ⟨b,c,sz,[],V⟩,fun t h=>by cases h;exact⟨(M a b c n).1,rfl,c,n⟩,.inr ⟨⟨b,c,sz,[],V⟩,ws,by simp[Lab.set],rfl,F,h4,U,V,h7⟩,fun v hv=>?_⟩;cases hv with
   | ext _ _ ij _ hk hd=>
     rw[hi]at hk;cases hk;rcases hd with⟨r,_⟩|⟨b',c',r,hlc,Z⟩
     ·rw[n]at r;cases r
     ·rw[n]at r;cases r;exact .inr ⟨_,rfl,hlc,Z⟩
 obtain⟨o2,ho2,hown,hrep⟩:=hrowi;let β':Lab:=(β.set k (some i')).set x o2;have A:∀j,j≠k->j≠x->β' j=β j:=fun j n o=>by simp[β',Lab.set,n,o]
 have C:β' k=some i':=by simp[β',Lab.set,hne]
 have q:β' x=o2:=by simp[β',Lab.set]
 have y:∀p,(i.subs.set a none)[p]?=if p=a then some none else i.subs[p]?:=fun p=>by
  by_cases o:p=a
  ·subst o;rw[if_pos rfl,x5f (by omega)]
  ·rw[if_neg o,x5p (x7d o)]
 have hhas:∀b,i'.has b->i.has b:=fun b r=>by
  rcases r with r|⟨c,r⟩
  ·exact .inl r
  ·rcases x7q r with n|n
   ·exact .inr ⟨c,n⟩
   ·cases n
 have G:∀t,o2=some t->∀b,t.has b->i.has b/\¬i'.has b:=fun t h b r=>by
  obtain⟨n,o,c,F⟩:=ho2 t h;have Z:t.blk=b:=by
   rcases r with r|⟨c,r⟩
   ·exact r
   ·rw[o]at r;cases r
  subst Z;refine⟨.inr ⟨c,x4p F⟩,fun Y=>?_⟩;rcases Y with Y|⟨c',Y⟩
  ·exact n Y
  ·obtain⟨p,hp⟩:=x7x.1 Y;have J:(i.subs.set a none)[p]?=some (some (t.blk,c')):=hp;rw[y]at J;by_cases hpa:p=a
   ·rw[if_pos hpa]at J;cases J
   ·rw[if_neg hpa]at J;exact hpa ((M a _ c F).2 p c' J)
 have hlv:∀l v,l.xfree k=true->l.free x=true->RepL σ β l v->RepL σ β' l v:=fun l v n o hl=>(hl.subs (i':=i') hi ⟨rfl,rfl,rfl⟩ n).set o2 o;have hkf:∀l:LV,l.free x=true->(l.xkill k).free x=true:=fun l h=>by
  unfold LV.xkill;cases l.xfree k
  ·rfl
  ·exact h
 have O:∀j ij,β' j=some ij->(j=k\/j=x\/j∈s.H.map (·.1))->∀b,ij.has b->∃j0 i0,j0∈s.H.map (·.1)/\β j0=some i0/\i0.has b/\(j≠k->j≠x->j0=j)/\(j=k\/j=x->j0=k):=fun j ij z g b r=>by
  by_cases n:j=k
  ·subst n;rw[C]at z;cases z;exact⟨_,i,hk1,hi,hhas b r,fun h=>absurd rfl h,fun _=>rfl⟩
  ·by_cases o:j=x
   ·subst o;rw[q]at z;exact⟨k,i,hk1,hi,(G ij z b r).1,fun _ h=>absurd rfl h,fun _=>rfl⟩
   ·rw[A j n o]at z;exact⟨j,ij,(g.resolve_left n).resolve_left o,z,r,fun _ _=>rfl,fun h=>absurd h (by simp[n,o])⟩
 have B:∀j∈((x,Chunk.own e2 sz row)::H2).map (·.1),j=k\/j=x\/j∈s.H.map (·.1):=fun j g=>by
  simp only[x4o,x4v]at g;rcases g with g|g
  ·exact .inr (.inl g)
  ·exact .inr (.inr (hlab j g).1)
 refine⟨β',⟨hr.size,hr.defers,fun j=>?_,⟨hr.heap.mem,fun j c g=>?_,?_,fun j g ij z b r=>?_,fun j g j' hj' i1 t n o b hb1 hb2=>?_⟩⟩,⟨Mem.le_refl σ,Frm.refl _ _,fun _ h0 n=>absurd h0 n,fun b ⟨j,g,ij,z,r⟩=>?_,fun j h0 n=>A j (Ns hpin j h0 n) (by omega)⟩,hlv,fun v hv=>?_⟩
 ·show RepL σ β' (getS sl j) _;rw[hsl];exact hlv _ _ (WX k _) (hkf _ (hu2 j)) ((hr.E j).xkill k)
 ·rcases x4v.1 g with Z|g
  ·cases Z;rcases hown with⟨n,o⟩|⟨t,ws,n,rest⟩
   ·exact .inl ⟨by rw[q];simpa[Lab.set]using n,o⟩
   ·exact .inr ⟨t,ws,by rw[q];simpa[Lab.set]using n,rest⟩
  ·obtain⟨hj2,⟨rfl,rfl⟩|⟨n,c0,o,rfl⟩⟩:=hmem j c g
   ·refine .inr ⟨i',vs,C,hisz,hh,hvs,hle,hmax,by simpa[i']using hsl',fun p b c hs=>?_,fun p row' hra=>⟨fun hin=>?_,fun hnin=>?_⟩⟩
    ·have Q:(i.subs.set a none)[p]?=some (some (b,c)):=hs;rw[y]at Q;by_cases o:p=a
     ·rw[if_pos o]at Q;cases Q
     ·rw[if_neg o]at Q;refine⟨(M p b c Q).1,fun p' c' J=>?_⟩;have D:(i.subs.set a none)[p']?=some (some (b,c')):=J;rw[y]at D;by_cases U:p'=a
      ·rw[if_pos U]at D;cases D
      ·rw[if_neg U]at D;exact(M p b c Q).2 p' c' D
    ·show(i.subs.set a none)[p]?=some none;rw[y];by_cases o:p=a
     ·rw[if_pos o]
     ·rw[if_neg o];rcases x4v.1 hin with F|F
      ·exact absurd F o
      ·exact(L p row' hra).1 F
    ·have o:p≠a:=fun Z=>hnin (by rw[Z];exact x4z);show((i.subs.set a none)[p]?=some none/\row'=[]/\vs[p]?=_)\/∃b c ws,(i.subs.set a none)[p]?=_/\_;rw[y,if_neg o];exact(L p row' hra).2 fun h=>hnin (x4x _ h)
   ·have hfr:=(hu1 j c0 o);have I:=hr.heap.chunks j c0 o;cases c0 with
    | obj e' cs=>
      obtain⟨t,vs2,hi2,hh2,hn2,hc2⟩:=I;refine⟨t,vs2,(A j n hj2).trans hi2,hh2,by simpa using hn2,fun m l hm=>?_⟩;rw[x4q]at hm;cases hq:cs[m]?with
      |none=>rw[hq]at hm;cases hm
      | some l'=>
        rw[hq]at hm;cases hm;obtain⟨u,U,V⟩:=hc2 m l' hq;exact⟨u,U,hlv _ _ (WX k _) (hkf _ (XH hfr.2 m l' hq)) (V.xkill k)⟩
    | own e' sz' es'=>
      rcases I with⟨U,V⟩|⟨t,vs2,hi2,rest⟩
      ·exact .inl ⟨(A j n hj2).trans U,V⟩
      ·exact .inr ⟨t,vs2,(A j n hj2).trans hi2,rest⟩
    | ext d=>
      show d.holds σ (β' j) w;rw[A j n hj2];exact I
 ·simp only[x4o,x6q];exact⟨fun hk=>(hlab x hk).2 rfl,hsub.nodup hr.heap.nodup⟩
 ·obtain⟨j0,i0,n,o,F,_⟩:=O j ij z (B j g) b r;exact hr.heap.apart j0 n i0 o b F
 ·obtain⟨j0,i0,F,h4,U,V,h7⟩:=O j i1 n (B j g) b hb1;obtain⟨j1,i3,h8,h9,h10,h11,h12⟩:=O j' t o (B j' hj') b hb2;have hj01:=hr.heap.inj j0 F j1 h8 i0 i3 h4 h9 b U h10;by_cases e1:j=k<;>by_cases e2:j'=k
  ·rw[e1,e2]
  ·by_cases e3:j'=x
   ·subst e1 e3;rw[C]at n;cases n;rw[q]at o;exact absurd hb1 (G t o b hb2).2
   ·have:=h7 (.inl e1);have:=h11 e2 e3;exact absurd (by omega) e2
  ·by_cases e3:j=x
   ·subst e2 e3;rw[C]at o;cases o;rw[q]at n;exact absurd hb2 (G i1 n b hb1).2
   ·have:=h12 (.inl e2);have:=V e1 e3;exact absurd (by omega) e1
  ·by_cases e3:j=x<;>by_cases e4:j'=x
   ·rw[e3,e4]
   ·have:=h7 (.inr e3);have:=h11 e2 e4;exact absurd (by omega) e2
   ·have:=h12 (.inr e4);have:=V e1 e3;exact absurd (by omega) e1
   ·have:=V e1 e3;have:=h11 e2 e4;omega
 ·obtain⟨j0,i0,n,o,F,_⟩:=O j ij z (B j g) b r;exact .inl ⟨j0,n,i0,o,F⟩
 ·rcases hrep v hv with⟨n,o,rfl⟩|⟨t,n,o,rfl⟩
  ·rw[o];exact .hdn x (by rw[q,n])
  ·have:=z1v (σ:=σ) (β:=β') x 0 row.length t 0 (by rw[q,n]) (by simpa using o) (.inl (by simp));simpa using this
theorem CallK.focus{g:FuncId}{args i:List LV}{dst:Option Nat}(k a t:Nat){e:Nat}{row:List AV}(hu:WY t s=true)(hg:getH s.H k=some (.ext (.mat e e2 sz rows hole)))(C:rows[a]?=some row)(J:a∉hole)(b:ZN k=false)(o:FocA k a t row.length args i)(h:KT s k t (.ext (.mat e e2 sz rows (a::hole))) (.own e2 sz row) fun E=>CallK P N g i dst E K):CallK P N g args dst s K:=by
 obtain⟨E,h,G⟩ : ∃E,CallK P N g i dst E K/\KT s k t (.ext (.mat e e2 sz rows (a::hole))) (.own e2 sz row) fun s3=>s3=E:=by
  unfold KT at h⊢;obtain⟨sl,O,_⟩:=WR (by rfl) h;have key:∀{f:LV->LV}{l:List (Nat×LV)}{K:List (Nat×LV)->Prop},Y8 f l K↔K (l.map fun x=>(x.1,f x.2)):=fun {f} l=>by
   induction l with
   |nil=>intro K;rfl
   |cons x r M=>intro K;simp only[Y8,XB,M,x4o]
  have D:∀{f:LV->LV}{c:Chunk}{H:Heap},∃H',∀K:Heap->Prop,Xh k t f c H K↔K H':=fun {f c} H=>by
   induction H with
   |nil=>exact⟨[],fun K=>z0g⟩
   | cons x r M=>
     obtain⟨H',m⟩:=M;obtain⟨j,d⟩:=x;simp only[Xh,LL];cases j==t with
     |true=>exact⟨H',fun K=>by simp only[x4s];exact m _⟩
     | false=>
       cases j==k with
       |true=>exact⟨(j,c)::H',fun K=>by simp only[x4s,x5q];exact m _⟩
       |false=>exact⟨(j,d.mapL f)::H',fun K=>by simp only[x5q];exact m _⟩
  rw[key]at h;simp only[key];obtain⟨H',m⟩:=D (f:=LV.xkill k) (c:=.ext (.mat e e2 sz rows (a::hole))) (H:=s.H);rw[m]at h;exact⟨_,h,(m _).2 rfl⟩
 refine⟨fun σ β V w hr F hn U=>?_⟩;obtain⟨β',L,hl,B,q⟩:=RX hr hu hg C J b G;obtain⟨z,y⟩:=o.get;obtain⟨O,Y⟩:=h.ok σ β' V w L F (hn.trans z) fun j l' hj=>by
  obtain⟨l,Q,⟨rfl,rfl⟩|⟨rfl,Z,h5⟩⟩:=y j l' hj
  .exact q _ (U j _ Q)
  .exact B _ _ Z h5 (U j _ Q)
 exact⟨O,Y.mono fun e w' ⟨u,σ',β'',s',G,hK,A,I⟩=>⟨u,σ',β'',s',G,hK,A,hl.trans I⟩⟩
inductive NilA(k:Nat):List LV->List LV->Prop
 |nil:NilA k [] []
 |row {ls ls':List LV} (hs:NilA k ls ls'):NilA k (.p .nils::ls) (.hd k 0 0::ls')
 |cons {l:LV} {ls ls':List LV} (h1:l.free k=true) (hs:NilA k ls ls'):NilA k (l::ls) (l::ls')
theorem NilA.get{k:Nat}:∀{ls ls':List LV},NilA k ls ls'->ls.length=ls'.length/\∀(j:Nat)(l':LV),ls'[j]?=some l'->∃l,ls[j]?=some l/\((l=.p .nils/\l'=.hd k 0 0)\/(l'=l/\l.free k=true))
 |_,_,.nil=>⟨rfl,by simp⟩
 |_,_,.row hs=>⟨by simp[hs.get.1],fun j l' i=>by
    cases j with
    |zero=>simp at i;subst i;exact⟨_,rfl,.inl ⟨rfl,rfl⟩⟩
    |succ j=>exact hs.get.2 j l' (by simpa using i)⟩
 |_,_,.cons h1 hs=>⟨by simp[hs.get.1],fun j l' i=>by
    cases j with
    |zero=>simp at i;subst i;exact⟨_,rfl,.inr ⟨rfl,h1⟩⟩
    |succ j=>exact hs.get.2 j l' (by simpa using i)⟩
theorem CallK.nil{g:FuncId}{args x:List LV}{dst:Option Nat}(k e sz:Nat)(hu:WY k s=true)(C:NilA k args x)(h:CallK P N g x dst ⟨s.sl,(k,.own e sz [])::s.H⟩ K):CallK P N g args dst s K:=by
 refine⟨fun σ β ac w B O hn hv=>?_⟩;obtain⟨D,hu2⟩:=XI hu;have hlt:=YR hu;have r:∀j,j≠k->(β.set k none) j=β j:=fun j o=>by simp[Lab.set,o]
 have m:(β.set k none) k=none:=by simp[Lab.set]
 have q:∀j∈s.H.map (·.1),j≠k:=fun j o=>by
  obtain⟨⟨M,d⟩,hm,rfl⟩:=x4y.1 o;exact(D M d hm).1
 have hr1:Rel N σ (β.set k none) ⟨s.sl,(k,.own e sz [])::s.H⟩ ac w:=by
  refine⟨B.size,B.defers,fun i=>(B.E i).set none (hu2 i),⟨B.heap.mem,fun j d I=>?_,?_,fun j o i t b a=>?_,fun j o M A i i' t c b a U=>?_⟩⟩
  ·rcases x4v.1 I with V|I
   ·cases V;exact .inl ⟨m,rfl⟩
   ·exact(B.heap.chunks j d I).set none (D j d I).1 (D j d I).2
  ·exact x6q.2 ⟨fun hk=>q k hk rfl,B.heap.nodup⟩
  ·rcases x4v.1 o with rfl|o
   ·rw[m]at t;cases t
   ·rw[r j (q j o)]at t;exact B.heap.apart j o i t b a
  ·rcases x4v.1 o with rfl|o
   ·rw[m]at t;cases t
   ·rcases x4v.1 A with rfl|A
    ·rw[m]at c;cases c
    ·rw[r j (q j o)]at t;rw[r M (q M A)]at c;exact B.heap.inj j o M A i i' t c b a U
 obtain⟨L,J⟩:=C.get;obtain⟨F,h2⟩:=h.ok σ _ ac w hr1 O (hn.trans L) fun j l' o=>by
  obtain⟨l,h3,⟨rfl,rfl⟩|⟨rfl,h4⟩⟩:=J j l' o
  ·have:=hv j _ h3;cases this with
   |p hp=>rw[Rel.nils hp];exact .hdn k m
  ·exact(hv j _ h3).set none h4
 have y:∀b,owns (β.set k none) ((k,.own e sz [])::s.H) b->owns β s.H b:=fun b ⟨j,o,i,t,a⟩=>by
  rcases x4v.1 o with rfl|o
  ·rw[m]at t;cases t
  ·rw[r j (q j o)]at t;exact⟨j,o,i,t,a⟩
 refine⟨F,h2.mono fun e w' ⟨u,σ',β',s',V,hK,Z,z⟩=>⟨u,σ',β',s',V,hK,Z,z.le,⟨z.G.os,z.G.tape,z.G.output,z.G.drawn,z.G.size,fun b a Y=>z.G.block b a fun ho=>Y (y b ho)⟩,
  fun b Q F=>(z.mem b Q F).imp (y b) id,fun b a=>(z.own b a).imp (y b) id,fun j Q F=>(z.pin j Q F).trans (r j (by omega))⟩⟩
end
def x4c:type_of%@LSub.refl:=@LSub.refl
def x5x:type_of%@BlksH.cons:=@BlksH.cons
def x5w:type_of%@ArgsH.cons:=@ArgsH.cons
def x6z:type_of%@BlksH.nil:=@BlksH.nil
def x6n:type_of%@RetHK.mk:=@RetHK.mk
def x6e:type_of%@ArgsH.nil:=@ArgsH.nil
def x8o:type_of%@LSub.of_eq:=@LSub.of_eq
def x9x:type_of%@LSub.p:=@LSub.p
end Go.Ab
