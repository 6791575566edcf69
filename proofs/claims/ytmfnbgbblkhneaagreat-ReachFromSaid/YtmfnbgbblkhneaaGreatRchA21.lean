/- LAW: rounds of what goes out of procedures. -/
import Derived.Maps.RangeRun
import Derived.Test.YtmfnbgbblkhneaaGreatRchA9
import Derived.Test.YtmfnbgbblkhneaaGreatRchA11
import Derived.Test.YtmfnbgbblkhneaaGreatRchA14
import Derived.Test.YtmfnbgbblkhneaaGreatRchA20
set_option linter.unusedSimpArgs false
set_option linter.unusedVariables false
set_option maxRecDepth 100000
set_option maxHeartbeats 16000000
open List (length)
namespace Go.Ab
open Go.Proofs.Tryz
open Go.Proofs
variable {α:Type}{I' O':List (List Str)}{K:St->Prop}{j:Nat}{t:TypeId}
def bkO(p:Pg)(O:List (List Str)):Book:=⟨sheetOf p,[],[],[],[],O⟩
def prA(p:Pg)(i:Nat):Pr:=p.procs.getD i Pr0
theorem MA{p:Pg}{i:Nat}(h:i<p.procs.length):p.procs[i]?=some (prA p i):=by
 unfold prA;rw[q7h,q7g h];rfl
theorem JM{p:Pg}{i:Nat}{f:Pr}(h:p.procs[i]?=some f):prA p i=f:=by
 unfold prA;rw[q7h,h];rfl
def dfB(p:Pg)(O:List (List Str)):List (List Str):=(sheetOf p).l.map fun it=>WR (PA (bkO p O) it.s)
def otA(p:Pg)(D:List (List Str))(i:Nat):List Str:=WR (Py p i (prA p i) D (itsOf p i (prA p i)))
def otB(p:Pg)(D:List (List Str)):List (List Str):=(List.range p.procs.length).map (otA p D)
def rdO(p:Pg)(O:List (List Str)):List (List Str):=otB p (dfB p O)
def itO(p:Pg):Nat->List (List Str)
 |0=>List.replicate p.procs.length []
 |k+1=>rdO p (itO p k)
theorem UF{l:List Str}(h:l.Pairwise ltT):l.Nodup:=List.Pairwise.imp (S:=fun a b=>a≠b) (fun {a b} (h1:ltT a b)=>fun(h2:a=b)=>ltT.irr b (by rw[h2]at h1;exact h1)) h
theorem YI(l:List Str):(WR l).length<=l.length:=FL (UF (ZK l)) fun s hs=>XR.1 hs
structure OkO(p:Pg)(O:List (List Str)):Prop where
 len:O.length=p.procs.length
 rise:∀o∈O,o.Pairwise ltT
 sub:∀i,i<p.procs.length->∀n∈O.getD i [],outB p (prA p i) n=true
theorem MY{O:List (List Str)}(h:∀o∈O,o.Pairwise ltT)(i:Nat):(O.getD i []).Pairwise ltT:=by
 rw[q7h];rcases q7e i O.length with h1|h1
 ·rw[q7g h1];exact h _ (q7i h1)
 ·rw[q9i h1];exact .nil
theorem NC{p:Pg}{n:Str}:comB p n=true↔n=KE\/n∈p.globals:=by
 unfold comB;simp only[x1b,x1l,q9c,exists_eq_right']
theorem El{p:Pg}{f:Pr}{n:Str}:outB p f n=true↔(n=KE\/n∈p.globals)\/(⟨n,true⟩:Param)∈f.params:=by
 unfold outB;rw[x1b,NC,q8e]
theorem Js{p:Pg}(h:QO p=true)(i:Nat):(prA p i).params.length<=8:=by
 rcases q7e i p.procs.length with h1|h1
 ·exact(KR.1 (Nj (QD h).1 (q8u (MA h1)))).1
 ·unfold prA;rw[q7h,q9i h1];decide
theorem OkO.len25{p:Pg}{O:List (List Str)}(hc:QO p=true)(h:OkO p O)(i:Nat):(O.getD i []).length<=25:=by
 rcases q7e i p.procs.length with h1|h1
 ·have h2:=FL (m:=KE::p.globals++(prA p i).params.map Param.name) (UF (MY h.rise i)) fun n hn=>by
   rcases El.1 (h.sub i h1 n hn)with(rfl|h3)|h3
   ·exact q9u _ q7d
   ·exact q9u _ (q7n _ h3)
   ·exact q9r _ (q7s.2 ⟨_,h3,rfl⟩)
  have h3:=Js hc i;have h4:=(XP hc).1;rw[q7b,q8s,q7f]at h2;omega
 ·rw[q7h,q9i (by rw[h.len];exact h1)];exact q7c _
theorem Gw{p:Pg}(h:QO p=true){t:S}(ht:t∈YZ p)(h4:t.kind=4):∃k,k<p.procs.length/\caI p t=(k:Nat)/\caP p t=prA p k/\(prA p k).name=t.proc/\(prA p k).params.map Param.ref=t.args.map Arg.ref:=by
 obtain⟨_,hs,ha,_⟩:=QD h;have hf:=(TD hs).1 ha t ht h4;unfold HC at hf;rw[q8j]at hf;have hf2:=hf.2;cases hq:p.procs.find? (fun f=>f.name==t.proc)with
 |none=>rw[hq]at hf2;cases hf2
 | some f=>
   rw[hq]at hf2;have hn:t.proc∈procsN p:=q7s.2 ⟨f,x0c hq,by simpa using x2q hq⟩;obtain⟨k,hk,h1,_,h3,h5⟩:=Gt hn;rw[hq]at h3;have hkf:p.procs[k]=f:=(x0m h3).symm;have hp:prA p k=f:=by rw[<-hkf];exact JM (q7g hk)
   have hci:caI p t=(k:Nat):=h1;refine⟨k,hk,hci,?_,?_,?_⟩
   ·unfold caP;rw[hci];rfl
   ·rw[hp,<-hkf];exact h5
   ·rw[hp];unfold Tx at hf2;exact of_decide_eq_true hf2
theorem NL{p:Pg}(h:QO p=true){t:S}(ht:t∈YZ p)(h4:t.kind=4):t.args.length=(caP p t).params.length/\t.args.length<=8:=by
 obtain⟨k,_,_,h2,_,h3⟩:=Gw h ht h4;have h5:=q9e length h3;rw[q7f,q7f]at h5;have:=Js h k;rw[h2];omega
theorem OkO.call{p:Pg}{O:List (List Str)}(hc:QO p=true)(h:OkO p O){b:Book}(hs:b.s=sheetOf p)(ho:b.outs=O){t:S}(ht:t∈YZ p)(h4:t.kind=4):CallOk b t:=by
 obtain⟨k,hk,h1,h2,_⟩:=Gw hc ht h4;obtain⟨h5,h6⟩:=NL hc ht h4;have e:b.s.p=p:=by rw[hs];exact(QV p).1
 have hO:caO b t=O.getD (caI p t).toNat []:=by unfold caO;rw[e,ho]
 refine⟨by rw[e];omega,by rw[e];omega,by rw[e,ho,h.len];exact q8z _,?_,?_,by rw[e];omega,by omega⟩
 ·rw[hO];exact MY h.rise _
 ·rw[hO];have:=h.len25 hc (caI p t).toNat;omega
theorem TI{p:Pg}{O:List (List Str)}{b:Book}(hs:b.s=sheetOf p)(ho:b.outs=O)(t:S):PA b t=PA (bkO p O) t:=by
 unfold PA caO bkO;rw[hs,ho]
theorem Zp{p:Pg}{O:List (List Str)}(hc:QO p=true)(h:OkO p O){t:S}(ht:t∈YZ p):(PA (bkO p O) t).length<=34:=by
 unfold PA
 (repeat' split)<;>try (simp;done)
 rename_i h4;have hr:=Li t (caP p t) (caO (bkO p O) t) t.args.length;have h6:=(NL hc ht h4).2;have h7:=h.len25 hc (caI p t).toNat;have h8:((caO (bkO p O) t).filter (comB p)).length<=(O.getD (caI p t).toNat []).length:=q9l _ _;show((if t.name=[]then []else [t.name])++C7 t (caP p t) (caO (bkO p O) t) t.args.length++(caO (bkO p O) t).filter (comB p)).length<=34;rw[q7b,q7b];have h9:(if t.name=[]then []else [t.name]).length<=1:=by split<;>simp
 omega
theorem Gg(p:Pg)(O:List (List Str)):(dfB p O).length=(sheetOf p).l.length:=q7f _
def leO(O O':List (List Str)):Prop:=∀i n,n∈O.getD i []->n∈O'.getD i []
theorem Hu{t:S}{f:Pr}{O:List Str}{n:Str}:n∈C7 t f O t.args.length ↔ ∃x∈(t.args.zip f.params).take t.args.length,(x.1.ref=true/\x.2.name∈O)/\x.1.name=n:=by
 unfold C7 q3w;simp only[q7s,q8t,q8j,UH,and_assoc]
theorem TO{p:Pg}{O:List (List Str)}(h:leO O O'){t:S}{n:Str}(hn:n∈PA (bkO p O) t):n∈PA (bkO p O') t:=by
 unfold PA at hn⊢
 (repeat' split at hn)
 ·rw[if_pos (by assumption)];exact hn
 ·rw[if_neg (by assumption),if_pos (by assumption)];exact hn
 ·rw[if_neg (by assumption),if_neg (by assumption),if_pos (by assumption)];exact hn
 ·rw[if_neg (by assumption),if_neg (by assumption),if_neg (by assumption),if_pos (by assumption)];unfold IR at hn⊢;rcases q7a.1 hn with hn|hn
  ·rcases q7a.1 hn with hn|hn
   ·exact q9u _ (q9u _ hn)
   ·refine q9u _ (q9r _ ?_);obtain⟨x,h1,⟨h2,h3⟩,h4⟩:=Hu.1 hn;exact Hu.2 ⟨x,h1,⟨h2,h _ _ h3⟩,h4⟩
  ·obtain⟨h1,h2⟩:=q8t.1 hn;exact q9r _ (q8t.2 ⟨h _ _ h1,h2⟩)
 ·cases hn
theorem JB{β:Type}{f:α->List β}{l:List α}{i:Nat}{n:β}:n∈(l.map f).getD i [] ↔ ∃x,l[i]?=some x/\n∈f x:=by
 rw[q7h,q7l];cases l[i]?with
 |none=>simp
 |some x=>simp
theorem AJ{p:Pg}{O:List (List Str)}(h:leO O O'):leO (dfB p O) (dfB p O'):=fun i n hn=>by
 obtain⟨it,h1,h2⟩:=JB.1 hn;exact JB.2 ⟨it,h1,XR.2 (TO h (XR.1 h2))⟩
def lvB(p:Pg)(i:Nat)(id:Int):Bool:=(QQ p i (prA p i)).live.getD (ixI p i (prA p i) id).toNat false
theorem Er{p:Pg}{i:Nat}{D:List (List Str)}{n:Str}:n∈Py p i (prA p i) D (itsOf p i (prA p i)) ↔ ∃it∈itsOf p i (prA p i),lvB p i it.s.id=true/\n∈HV D it.s.id/\outB p (prA p i) n=true:=by
 unfold Py;rw[q8r];refine exists_congr fun it=>and_congr_right fun _=>?_;unfold q2q lvB;cases(QQ p i (prA p i)).live.getD (ixI p i (prA p i) it.s.id).toNat false with
 |false=>simp
 |true=>simp[q8t]
theorem H9{p:Pg}{D:List (List Str)}{i:Nat}(hi:i<p.procs.length){n:Str}:n∈(otB p D).getD i [] ↔ ∃it∈itsOf p i (prA p i),lvB p i it.s.id=true/\n∈HV D it.s.id/\outB p (prA p i) n=true:=by
 unfold otB;rw[JB,<-Er];constructor
 ·rintro⟨x,h1,h2⟩;rw[x1t hi]at h1;cases h1;exact XR.1 h2
 ·exact fun h=>⟨i,x1t hi,XR.2 h⟩
theorem Em{p:Pg}{D D':List (List Str)}(h:leO D D'):leO (otB p D) (otB p D'):=fun i n hn=>by
 rcases q7e i p.procs.length with hi|hi
 ·obtain⟨it,h1,h2,h3,h4⟩:=(H9 hi).1 hn;exact(H9 hi).2 ⟨it,h1,h2,h _ _ h3,h4⟩
 ·obtain⟨x,h1,_⟩:=JB.1 hn;rw[q9i (by simpa using hi)]at h1;cases h1
theorem EX{p:Pg}{O:List (List Str)}(h:leO O O'):leO (rdO p O) (rdO p O'):=Em (AJ h)
theorem Ig(p:Pg):∀k,leO (itO p k) (itO p (k+1))
 | 0=>fun i n hn=>by
   unfold itO at hn;rw[q7h,q8l]at hn;split at hn<;>cases hn
 |k+1=>EX (Ig p k)
theorem Ie(p:Pg)(D:List (List Str)):OkO p (otB p D):=by
 refine⟨by unfold otB;rw[q7f,x0h],fun o ho=>?_,fun i hi n hn=>?_⟩
 ·obtain⟨i,_,rfl⟩:=q7s.1 ho;exact ZK _
 ·obtain⟨it,_,_,_,h⟩:=(H9 hi).1 hn;exact h
theorem Vt(p:Pg):∀k,OkO p (itO p k)
 | 0=>by
   refine⟨by unfold itO;rw[q9d],fun o ho=>?_,fun i hi n hn=>?_⟩
   ·rw[x0a ho];exact .nil
   ·unfold itO at hn;rw[q7h,q8l]at hn;split at hn<;>cases hn
 |k+1=>Ie p _
def tot(O:List (List Str)):Nat:=(O.map length).sum
theorem E8{a b:List Str}{O:List (List Str)}(h:leO (a::O) (b::O')):(∀n∈a,n∈b)/\leO O O':=⟨fun n hn=>h 0 n hn,fun i n hn=>h (i+1) n hn⟩
theorem ES{a b:List Str}(ha:a.Pairwise ltT)(hb:b.Pairwise ltT)(hs:∀n∈a,n∈b)(hl:b.length<=a.length):a=b:=by
 refine W2 ltT.irr ltT.trans ha hb fun s=>⟨hs s,fun h=>?_⟩;refine x0k fun hn=>?_;have:=FL (l:=s::a) (m:=b) (q9v.2 ⟨hn,UF ha⟩) fun n h'=>by
  rcases q7r.1 h' with rfl|h'
  ·exact h
  ·exact hs n h'
 rw[q8s]at this;omega
theorem CF:∀{O O':List (List Str)},O.length=O'.length->(∀o∈O,o.Pairwise ltT)->(∀o∈O',o.Pairwise ltT)->leO O O'->tot O<=tot O'/\(tot O'<=tot O->O=O')
 |[],[],_,_,_,_=>⟨q8z _,fun _=>rfl⟩
 |[],_::_,h,_,_,_=>by cases h
 |_::_,[],h,_,_,_=>by cases h
 | a::O,b::O',hl,h1,h2,h=>by
   obtain⟨h3,h4⟩:=E8 h;obtain⟨h5,h6⟩:=CF (O:=O) (O':=O') (by simpa using hl) (fun o ho=>h1 o (q7n _ ho)) (fun o ho=>h2 o (q7n _ ho)) h4;have ha:=h1 a q7d;have hb:=h2 b q7d;have h7:=FL (UF ha) h3;have e:∀(x:List Str)(l:List (List Str)),tot (x::l)=x.length+tot l:=fun x l=>by unfold tot;rw[q8f,x2c]
   rw[e,e];exact⟨by omega,fun h8=>by rw[ES ha hb h3 (by omega),h6 (by omega)]⟩
theorem Hm:∀{O:List (List Str)},(∀o∈O,o.length<=25)->tot O<=25*O.length
 |[],_=>q8z _
 | a::O,h=>by
   have h1:=Hm (O:=O) fun o ho=>h o (q7n _ ho);have h2:=h a q7d;have e:tot (a::O)=a.length+tot O:=by unfold tot;rw[q8f,x2c]
   rw[e,q8s];omega
theorem OkO.tot{p:Pg}{O:List (List Str)}(hc:QO p=true)(h:OkO p O):Go.Ab.tot O<=400:=by
 have h1:=Hm (O:=O) fun o ho=>by
  obtain⟨i,hi,rfl⟩:=x0w.1 ho;have:=h.len25 hc i
  rwa[q7h,q7g hi]at this
 have h2:=(XP hc).2.1;rw[h.len]at h1;omega
theorem L6{p:Pg}{k:Nat}(h:itO p (k+1)≠itO p k):Go.Ab.tot (itO p k)<Go.Ab.tot (itO p (k+1)):=by
 obtain⟨h1,h2⟩:=CF (O:=itO p k) (O':=itO p (k+1)) (by rw[(Vt p k).len,(Vt p (k+1)).len]) (Vt p k).rise (Vt p (k+1)).rise (Ig p k);rcases q7e (Go.Ab.tot (itO p k)) (Go.Ab.tot (itO p (k+1)))with h3|h3
 ·exact h3
 ·exact absurd (h2 h3).symm h
section
variable (p:Pg)(i:Nat)(f:Pr)(D U:List (List Str))(o:List Str)(x:Str)
def idN(a:Int):Int:=QH p i (QU f.body+2:Nat) a
def hitN(a:Int):Bool:=bif decide (a=(QU f.body+2:Nat)-1)then inS o x else bif decide (0<a)then inS (HV U (idN p i f a)) x else false
def HJ(a:Int):Bool:=bif decide (a=(QU f.body+2:Nat)-1)then false else bif decide (0<a)then !inS (HV D (idN p i f a)) x else true
def netR(p:Pg)(i:Nat)(f:Pr):List (List Int):=MS (QU f.body+2) (UT (QQ p i f) f)
def q3a:List (Int×Int):=(UT (QQ p i f) f).filter fun t=>HJ p i f D x t.1
def Tc:Bool:=(HU 0 (ZN (QC (QU f.body+2) (q3a p i f D x)).1 [0])).any (hitN p i f U o x)
end
section
variable {p:Pg}{i:Nat}{f:Pr}{D U:List (List Str)}{o:List Str}{x:Str}
def nR(p:Pg)(i:Nat)(f:Pr)(D:List (List Str))(x:Str)(a b:Int):Prop:=HJ p i f D x a=true/\(a,b)∈UT (QQ p i f) f
theorem DF(h:QO p=true)(hj:p.procs[i]?=some f):Tc p i f D U o x=true ↔ ∃a,Rch (nR p i f D x) 0 a/\hitN p i f U o x a=true:=by
 unfold Tc;rw[q9c];refine exists_congr fun a=>and_congr_left fun _=>?_;rw[Vb (by omega)];have e:∀a b,((a,b)∈q3a p i f D x/\ZG (QU f.body+2) b=true)↔nR p i f D x a b:=fun a b=>by
  unfold q3a nR;rw[q8t];constructor
  ·exact fun h1=>⟨h1.1.2,h1.1.1⟩
  ·intro h1;have h2:=(GH h hj _ h1.2).2;exact⟨⟨h1.2,h1.1⟩,by unfold ZG;simp;omega⟩
 exact⟨fun h1=>h1.mono fun a b h2=>(e a b).1 h2,fun h1=>h1.mono fun a b h2=>(e a b).2 h2⟩
theorem Nh(h:QO p=true)(hj:p.procs[i]?=some f){S:Int->Prop}(h0:S 0)(h1:∀a,S a->hitN p i f U o x a=false)(h2:∀a b,S a->nR p i f D x a b->S b):Tc p i f D U o x=false:=by
 cases hq:Tc p i f D U o x with
 |false=>rfl
 | true=>
   obtain⟨a,h3,h4⟩:=(DF h hj).1 hq;rw[h1 a (Rch.closed h2 h0 h3)]at h4;cases h4
structure NedI(p:Pg)(i:Nat)(f:Pr)(D U:List (List Str))(o:List Str)(x:Str)(n:Nat)(seen:List Bool)(todo:List Int):Prop where
 len:seen.length=n
 rng:∀a∈todo,0<=a/\a<(n:Int)
 way:∀a:Int,(a=0\/seen.getD a.toNat false=true/\0<=a)->Rch (nR p i f D x) 0 a
 td:∀a∈todo,a=0\/seen.getD a.toNat false=true/\0<=a
 done:∀a:Int,(a=0\/seen.getD a.toNat false=true/\0<=a)->a∉todo->hitN p i f U o x a=false/\∀b,nR p i f D x a b->seen.getD b.toNat false=true
structure NedJ(p:Pg)(i:Nat)(f:Pr)(D U:List (List Str))(o:List Str)(x:Str)(n:Nat)(a:Int)(k:Nat)(seen:List Bool)(todo:List Int):Prop where
 len:seen.length=n
 rng:∀a∈todo,0<=a/\a<(n:Int)
 way:∀a:Int,(a=0\/seen.getD a.toNat false=true/\0<=a)->Rch (nR p i f D x) 0 a
 td:∀a∈todo,a=0\/seen.getD a.toNat false=true/\0<=a
 me:Rch (nR p i f D x) 0 a
 done:∀b:Int,(b=0\/seen.getD b.toNat false=true/\0<=b)->b∉todo->b≠a->hitN p i f U o x b=false/\∀c,nR p i f D x b c->seen.getD c.toNat false=true
 row:∀c∈((netR p i f).getD a.toNat []).take k,seen.getD c.toNat false=true
theorem OJ{l:List Bool}{k:Nat}(h:(l.set k true).getD j false=true):j=k\/l.getD j false=true:=by
 rcases Nat.decEq j k with hne|rfl
 ·right
  rwa[q7h,q9a (x1k hne),<-q7h]at h
 ·exact .inl rfl
theorem N8{l:List Bool}{k:Nat}(h:l.getD j false=true):(l.set k true).getD j false=true:=by
 rcases Nat.decEq j k with hne|rfl
 ·rwa[q7h,q9a (x1k hne),<-q7h]
 ·have hl:j<l.length:=by
   rcases q7e j l.length with h1|h1
   ·exact h1
   ·rw[q7h,q9i h1]at h;cases h
  rw[q7h,q9p hl];rfl
theorem IZ{l:List Bool}{k:Nat}(h:k<l.length):(l.set k true).getD k false=true:=by
 rw[q7h,q9p h];rfl
variable {n:Nat}{seen:List Bool}{todo:List Int}{a:Int}
theorem NedI.start(n:Nat)(hn:0<n):NedI p i f D U o x n (List.replicate n false) [0]:=by
 have hno:∀k:Nat,(List.replicate n false).getD k false=true->False:=fun k h=>by
  rw[q7h,q8l]at h;split at h<;>cases h
 refine⟨q9d,fun a ha=>by rw[q7m.1 ha];omega,fun a ha=>?_,fun a ha=>.inl (q7m.1 ha),fun a ha hn=>?_⟩
 ·rcases ha with rfl|⟨h,_⟩
  ·exact .refl
  ·exact(hno _ h).elim
 ·rcases ha with rfl|⟨h,_⟩
  ·exact absurd (q7m.2 rfl) hn
  ·exact(hno _ h).elim
theorem NedI.stop(h:QO p=true)(hj:p.procs[i]?=some f)(hI:NedI p i f D U o x n seen []):Tc p i f D U o x=false:=by
 refine Nh h hj (S:=fun a=>a=0\/seen.getD a.toNat false=true/\0<=a) (.inl rfl) (fun a ha=>(hI.done a ha (by simp)).1) fun a b ha hb=>?_;have h1:=(hI.done a ha (by simp)).2 b hb;have h2:=(GH h hj _ hb.2).2;exact .inr ⟨h1,h2.1⟩
theorem NedI.skip(hI:NedI p i f D U o x n seen (todo++[a]))(h1:hitN p i f U o x a=false)(h2:HJ p i f D x a=false):NedI p i f D U o x n seen todo:=by
 refine⟨hI.len,fun b hb=>hI.rng b (q9u _ hb),hI.way,fun b hb=>hI.td b (q9u _ hb),fun b hb hn=>?_⟩;by_cases he:b=a
 ·subst he;exact⟨h1,fun c hc=>by rw[hc.1]at h2;cases h2⟩
 ·exact hI.done b hb fun hm=>(q7a.1 hm).elim hn fun hm=>he (q7m.1 hm)
theorem NedI.open(hI:NedI p i f D U o x n seen (todo++[a])):NedJ p i f D U o x n a 0 seen todo:=
 ⟨hI.len,fun b hb=>hI.rng b (q9u _ hb),hI.way,fun b hb=>hI.td b (q9u _ hb),hI.way a (hI.td a (q9r _ (q7m.2 rfl))),
   fun b hb hn he=>hI.done b hb fun hm=>(q7a.1 hm).elim hn fun hm=>he (q7m.1 hm),fun c hc=>by rw[List.take_zero]at hc;cases hc⟩
theorem NedJ.shut(h:QO p=true)(hj:p.procs[i]?=some f){k:Nat}(hJ:NedJ p i f D U o x n a k seen todo)(hk:((netR p i f).getD a.toNat []).length<=k)(h1:hitN p i f U o x a=false):NedI p i f D U o x n seen todo:=by
 refine⟨hJ.len,hJ.rng,hJ.way,hJ.td,fun b hb hm=>?_⟩;by_cases he:b=a
 ·subst he;refine⟨h1,fun c hc=>hJ.row c ?_⟩;rw[q8y hk];exact(Uq fun t ht=>(GH h hj t ht).1).2 ⟨(b,c),hc.2,by have:=(GH h hj _ hc.2).1;simp only at this⊢;omega,rfl⟩
 ·exact hJ.done b hb hm he
theorem NedJ.old{k:Nat}(hJ:NedJ p i f D U o x n a k seen todo)(hk:k<((netR p i f).getD a.toNat []).length)(hs:seen.getD (((netR p i f).getD a.toNat [])[k]).toNat false=true):NedJ p i f D U o x n a (k+1) seen todo:=by
 refine⟨hJ.len,hJ.rng,hJ.way,hJ.td,hJ.me,hJ.done,fun c hc=>?_⟩;rcases(ZQ hk).1 hc with h1|rfl
 ·exact hJ.row c h1
 ·exact hs
theorem NedJ.new{k:Nat}(hJ:NedJ p i f D U o x n a k seen todo)(hk:k<((netR p i f).getD a.toNat []).length){c:Int}(hc:c=((netR p i f).getD a.toNat [])[k])(hr:0<=c/\c<(n:Int))(hR:nR p i f D x a c):NedJ p i f D U o x n a (k+1) (seen.set c.toNat true) (todo++[c]):=by
 have hl:c.toNat<seen.length:=by rw[hJ.len];omega
 have hold:∀b:Int,(b=0\/(seen.set c.toNat true).getD b.toNat false=true/\0<=b)->b=c\/(b=0\/seen.getD b.toNat false=true/\0<=b):=fun b hb=>by
  rcases hb with h1|⟨h1,h2⟩
  ·exact .inr (.inl h1)
  ·rcases OJ h1 with h3|h3
   ·exact .inl (by omega)
   ·exact .inr (.inr ⟨h3,h2⟩)
 refine⟨by rw[x0d];exact hJ.len,fun b hb=>?_,fun b hb=>?_,fun b hb=>?_,hJ.me,fun b hb hm he=>?_,fun b hb=>?_⟩
 ·rcases q7a.1 hb with h1|h1
  ·exact hJ.rng b h1
  ·rw[q7m.1 h1];exact hr
 ·rcases hold b hb with rfl|h1
  ·exact .tail hJ.me hR
  ·exact hJ.way b h1
 ·rcases q7a.1 hb with h1|h1
  ·rcases hJ.td b h1 with h2|h2
   ·exact .inl h2
   ·exact .inr ⟨N8 h2.1,h2.2⟩
  ·rw[q7m.1 h1];exact .inr ⟨IZ hl,hr.1⟩
 ·rcases hold b hb with rfl|h1
  ·exact absurd (q9r _ (q7m.2 rfl)) hm
  ·obtain⟨h2,h3⟩:=hJ.done b h1 (fun h=>hm (q9u _ h)) he;exact⟨h2,fun d hd=>N8 (h3 d hd)⟩
 ·rcases(ZQ hk).1 hb with h1|h1
  ·exact N8 (hJ.row b h1)
  ·rw[h1,<-hc];exact IZ hl
end
def L1(p:Pg)(i:Nat)(f:Pr)(D U:List (List Str))(o:List Str):List Str:=(p.globals++[KE]).filter (Tc p i f D U o)
theorem fzL{N:Nat}{a b c d e:AV}{L:List Str}{n:Nat}(hn:n=(L.map AV.str).length):
  Le N ⟨[(0,.p a),(1,.p b),(5,.p .nils),(6,.p c),(27,.hd 0 0 n),(28,.p d),(29,.p e)],[(0,.own 9 1 (L.map .str))]⟩ ⟨[(0,.p a),(1,.p b),(5,.hd 0 0 0),(6,.p c),(27,.p (eStrs L)),(28,.p d),(29,.p e)],[(0,.own 9 1 [])]⟩:=by
 subst hn;obtain⟨s',rfl,hle⟩:=Le.row (N:=N) (s:=⟨[(0,.p a),(1,.p b),(5,.p .nils),(6,.p c),(27,.hd 0 0 (L.map AV.str).length),(28,.p d),(29,.p e)],[(0,.own 9 1 (L.map .str))]⟩) (k:=0) (e:=9) (sz:=1) (es:=L.map .str) (zs:=[27]) rfl
  (K:=fun s=>s=⟨[(0,.p a),(1,.p b),(5,.p .nils),(6,.p c),(27,.p (eStrs L)),(28,.p d),(29,.p e)],[]⟩) ⟨rfl,rfl⟩
 exact hle.trans (Le.mk [(0,.own 9 1 [])] (by simp[Chunk.new0];rfl) (by simp) (by simp) (.r (.r (.cons (.nil q7d) (.r (.r (.r (.r .nil))))))) (.new q7d .nil))
theorem Gn(b:Book)(p:Pg)(hp:b.s=sheetOf p)(h:QO p=true)(i:Nat)(f:Pr)(hj:p.procs[i]?=some f)(hW:b.ways[i]?=some (QQ p i f))(o:List Str)(hN:∀x,SpecP prog 152 [.ip b.cells,.int .i64 i,eMat (netR p i f),.str x] (fun r=>r=.bool (Tc p i f b.defs b.uses o x))):SpecH prog 91 [.p (.ip b.cells),.p (.int .i64 i)] [] (fun r H=>OneRow (Ky (L1 p i f b.defs b.uses o)) False r H):=by
 refine sH Wq func91 rfl call91 ?_;conv=>whnf
 have hbp:b.s.p=p:=by rw[hp];exact(QV p).1
 have hg:=(XP h).1;have hdl:=Gu h hj;have hNt:=M4 (QQ p i f) f (QU f.body+2) (q0w h hj) (GH h hj) (by omega);have hNt2:SpecP prog 150 [.ip (QQ p i f).cells] (fun r=>r=eMat (netR p i f)):=hNt;have hCl:SpecH prog 151 ([eStrs p.globals].map .p) [] (OneRow (Ky p.globals) (p.globals=[])):=ZI p.globals (by omega);have hg1:(b.ways.map fun w=>AV.ip w.cells)[i]?=some (.ip (QQ p i f).cells):=by rw[q7l,hW];rfl
 generalize QQ p i f=w at*
 generalize netR p i f=net at*
 repeat' ((first|(refine IdxK.at (k:=i) rfl hg1 rfl ?_)|refine cP hNt2 ?_);conv=>whnf)
 obtain⟨L,hL⟩ : ∃L,L=p.globals++[KE]:=⟨_,rfl⟩;have hLl:L.length<=17:=by rw[hL,q7b];simp;omega
 have hfin:L1 p i f b.defs b.uses o=L.filter (Tc p i f b.defs b.uses o):=by unfold L1;rw[hL]
 rw[hfin];generalize Tc p i f b.defs b.uses o=ned at*
 refine YH 0 rfl hCl (.cons (.p (Sub.of_eq (by rw[hbp]))) .nil) (fun hnil=>?_) (fun q e sz es hR=>?_);rotate_left;obtain⟨rfl,rfl,rfl⟩:=hR
 rotate_right
 all_goals
  conv=>whnf
  repeat' ((first|(refine iM fun _=>?_)|refine q7p rfl ?_|refine aD ?_|refine bP ?_|refine XQ (es:=[]) rfl (by simp) ?_|refine XQ (by simp) (by simp;omega) ?_);conv=>whnf)
 all_goals
  refine LoopK.inv QK (fun x:Nat×List Str=>⟨[(0,.p (.ip b.cells)),(1,.p (.int .i64 i)),(5,.hd 0 0 x.2.length),(6,.p (eMat net)),(27,.p (eStrs L)),(28,.p (.int .i64 (L.map AV.str).length)),(29,.p (.int .i64 x.1))],[(0,.own 9 1 (x.2.map .str))]⟩) (fun x=>x.1<=L.length/\x.2=(L.take x.1).filter ned/\x.2.length<=x.1) (fun x=>L.length-x.1) (0,[])
   (by first
     |exact Le.trans (Le.of_eq (by rw[hL,hnil];rfl)) (fzL (L:=L) rfl)
     |exact Le.trans (Le.of_eq (by rw[hL];simp only[q7o,q7b];rfl)) (fzL (L:=L) rfl)
     |trace_state) ⟨q7c _,by simp,by simp⟩ ?_
  rintro⟨j,acc⟩ ⟨h2,h3,h4⟩;simp only at h2 h3 h4⊢;have hlm:(L.map AV.str).length=L.length:=q7f _;rcases q7e j L.length with hj|hj
  ·have hst:=q8q hj;have hNj:=hN L[j];have e5:(L.map AV.str)[j]?=some (.str L[j]):=by simp[hj]
   cases hnd:ned L[j];all_goals
    rw[hnd]at hNj;conv=>whnf
    repeat' (first|((first|refine q7p rfl ?_|refine aD ?_|refine bP ?_|(refine iA fun _=>?_)|refine wI ?_|refine cP hNj ?_|refine XQ (by simp) (by rw[q7f];omega) ?_|refine Br.tt ?_|refine Br.ff ?_);conv=>whnf)|(apply bD<;>intro _<;>first|omega|conv=>whnf))
   all_goals first
    |exact⟨(j+1,acc++[L[j]]),⟨hj,by simp only;rw[hst,x0f,x0n hnd,h3];rfl,by simp;omega⟩,by simp only;omega,Le.of_eq (by simp only[q7b,q7o];rfl)⟩
    |exact⟨(j+1,acc),⟨hj,by simp only;rw[hst,x0f,x0t (by rw[hnd];decide),h3];simp,by simp only;omega⟩,by simp only;omega,Le.of_eq rfl⟩
  ·rw[q8y hj]at h3;subst h3;conv=>whnf
   repeat' (apply bD<;>intro _<;>first|omega|conv=>whnf)
   all_goals exact x1c _ (q8k _) (OneRow.str rfl)
def bkI(p:Pg)(I:List (List Str)):Book:=⟨sheetOf p,[],[],[],I,[]⟩
def usB(p:Pg)(I:List (List Str)):List (List Str):=(sheetOf p).l.map fun it=>WR (PR (bkI p I) it.s)
def niA(p:Pg)(D U O:List (List Str))(i:Nat):List Str:=WR (L1 p i (prA p i) D U (O.getD i []))
def niB(p:Pg)(D U O:List (List Str)):List (List Str):=(List.range p.procs.length).map (niA p D U O)
def rdI(p:Pg)(D O I:List (List Str)):List (List Str):=niB p D (usB p I) O
def itI(p:Pg)(D O:List (List Str)):Nat->List (List Str)
 |0=>List.replicate p.procs.length []
 |k+1=>rdI p D O (itI p D O k)
structure OkI(p:Pg)(I:List (List Str)):Prop where
 len:I.length=p.procs.length
 rise:∀o∈I,o.Pairwise ltT
 sub:∀i,∀n∈I.getD i [],comB p n=true
theorem OkI.len25{p:Pg}{I:List (List Str)}(hc:QO p=true)(h:OkI p I)(i:Nat):(I.getD i []).length<=25:=by
 have h2:=FL (m:=KE::p.globals) (UF (MY h.rise i)) fun n hn=>by
  rcases NC.1 (h.sub i n hn)with rfl|h3
  ·exact q7d
  ·exact q7n _ h3
 have h4:=(XP hc).1;rw[q8s]at h2;omega
theorem OkI.use{p:Pg}{I:List (List Str)}(hc:QO p=true)(h:OkI p I){b:Book}(hs:b.s=sheetOf p)(hi:b.ins=I){t:S}(ht:t∈YZ p)(h4:t.kind=4):UseOk b t:=by
 obtain⟨k,hk,h1,_⟩:=Gw hc ht h4;have h6:=(NL hc ht h4).2;have e:b.s.p=p:=by rw[hs];exact(QV p).1
 have hI:inAt b t=I.getD (caI p t).toNat []:=by unfold inAt;rw[e,hi]
 refine⟨by rw[e];omega,by rw[e,hi,h.len];omega,by omega,?_⟩;rw[hI];have:=h.len25 hc (caI p t).toNat;omega
theorem CI{p:Pg}{I:List (List Str)}{b:Book}(hs:b.s=sheetOf p)(hi:b.ins=I)(t:S):PR b t=PR (bkI p I) t:=by
 unfold PR inAt bkI;rw[hs,hi]
theorem CO{p:Pg}{I:List (List Str)}(h:leO I I'){t:S}{n:Str}(hn:n∈PR (bkI p I) t):n∈PR (bkI p I') t:=by
 unfold PR at hn⊢;split at hn
 ·rw[if_pos (by assumption)];rcases q7a.1 hn with hn|hn
  ·exact q9u _ hn
  ·exact q9r _ (h _ _ hn)
 ·rw[if_neg (by assumption)];exact hn
theorem I2{p:Pg}{I:List (List Str)}(h:leO I I'):leO (usB p I) (usB p I'):=fun i n hn=>by
 obtain⟨it,h1,h2⟩:=JB.1 hn;exact JB.2 ⟨it,h1,XR.2 (CO h (XR.1 h2))⟩
theorem Ss{p:Pg}{i:Nat}{f:Pr}{U U':List (List Str)}{o:List Str}{x:Str}(h:leO U U'){a:Int}(ha:hitN p i f U o x a=true):hitN p i f U' o x a=true:=by
 unfold hitN at ha⊢;cases h1:decide (a=(QU f.body+2:Nat)-1)with
 |true=>rw[h1]at ha;exact ha
 | false=>
   rw[h1]at ha;cases h2:decide (0<a)with
   | true=>
     rw[h2]at ha;exact UH.2 (h _ _ (UH.1 ha))
   |false=>rw[h2]at ha;cases ha
theorem H6{p:Pg}{D U O:List (List Str)}{i:Nat}(hi:i<p.procs.length){n:Str}:n∈(niB p D U O).getD i []↔comB p n=true/\Tc p i (prA p i) D U (O.getD i []) n=true:=by
 unfold niB;rw[JB];have e:n∈niA p D U O i↔comB p n=true/\Tc p i (prA p i) D U (O.getD i []) n=true:=by
  unfold niA L1;rw[XR,q8t,NC,q7a,q7m,or_comm]
 rw[<-e];constructor
 ·rintro⟨x,h1,h2⟩;rw[x1t hi]at h1;cases h1;exact h2
 ·exact fun h=>⟨i,x1t hi,h⟩
theorem SM{p:Pg}{D U O:List (List Str)}{i:Nat}(hi:¬i<p.procs.length){n:Str}(h:n∈(niB p D U O).getD i []):False:=by
 obtain⟨x,h1,_⟩:=JB.1 h;rw[q9i (by simpa using hi)]at h1;cases h1
theorem EQ{p:Pg}(hc:QO p=true){D O I:List (List Str)}(h:leO I I'):leO (rdI p D O I) (rdI p D O I'):=fun i n hn=>by
 by_cases hi:i<p.procs.length
 ·obtain⟨h1,h2⟩:=(H6 hi).1 hn;obtain⟨a,h3,h4⟩:=(DF hc (MA hi)).1 h2;exact(H6 hi).2 ⟨h1,(DF hc (MA hi)).2 ⟨a,h3,Ss (I2 h) h4⟩⟩
 ·exact(SM hi hn).elim
theorem Ik{p:Pg}(hc:QO p=true)(D O:List (List Str)):∀k,leO (itI p D O k) (itI p D O (k+1))
 | 0=>fun i n hn=>by
   unfold itI at hn;rw[q7h,q8l]at hn;split at hn<;>cases hn
 |k+1=>EQ hc (Ik hc D O k)
theorem Ic(p:Pg)(D U O:List (List Str)):OkI p (niB p D U O):=by
 refine⟨by unfold niB;rw[q7f,x0h],fun o ho=>?_,fun i n hn=>?_⟩
 ·obtain⟨i,_,rfl⟩:=q7s.1 ho;exact ZK _
 ·by_cases hi:i<p.procs.length
  ·exact((H6 hi).1 hn).1
  ·exact(SM hi hn).elim
theorem Vr(p:Pg)(D O:List (List Str)):∀k,OkI p (itI p D O k)
 | 0=>by
   refine⟨by unfold itI;rw[q9d],fun o ho=>?_,fun i n hn=>?_⟩
   ·rw[x0a ho];exact .nil
   ·unfold itI at hn;rw[q7h,q8l]at hn;split at hn<;>cases hn
 |k+1=>Ic p _ _ _
theorem OkI.tot{p:Pg}{I:List (List Str)}(hc:QO p=true)(h:OkI p I):Go.Ab.tot I<=400:=by
 have h1:=Hm (O:=I) fun o ho=>by
  obtain⟨i,hi,rfl⟩:=x0w.1 ho;have:=h.len25 hc i
  rwa[q7h,q7g hi]at this
 have h2:=(XP hc).2.1;rw[h.len]at h1;omega
theorem L5{p:Pg}(hc:QO p=true){D O:List (List Str)}{k:Nat}(h:itI p D O (k+1)≠itI p D O k):Go.Ab.tot (itI p D O k)<Go.Ab.tot (itI p D O (k+1)):=by
 obtain⟨h1,h2⟩:=CF (O:=itI p D O k) (O':=itI p D O (k+1)) (by rw[(Vr p D O k).len,(Vr p D O (k+1)).len]) (Vr p D O k).rise (Vr p D O (k+1)).rise (Ik hc D O k);rcases q7e (Go.Ab.tot (itI p D O k)) (Go.Ab.tot (itI p D O (k+1)))with h3|h3
 ·exact h3
 ·exact absurd (h2 h3).symm h
def wysB(p:Pg):List Way:=(List.range p.procs.length).map fun i=>QQ p i (prA p i)
theorem F3{p:Pg}{i:Nat}(h:i<p.procs.length):(wysB p)[i]?=some (QQ p i (prA p i)):=by
 unfold wysB;rw[q7l,x1t h];rfl
structure BookR(p:Pg)(b:Book):Prop where
 s:b.s=sheetOf p
 ways:b.ways=wysB p
 outs:∃k,b.outs=itO p k
 fixO:rdO p b.outs=b.outs
 defs:b.defs=dfB p b.outs
 ins:∃k,b.ins=itI p b.defs b.outs k
 fixI:rdI p b.defs b.outs b.ins=b.ins
 uses:b.uses=usB p b.ins
theorem Gi{p:Pg}{k:Nat}(h:rdO p (itO p k)=itO p k):∀m,itO p (k+m)=itO p k
 |0=>rfl
 | m+1=>by
   show rdO p (itO p (k+m))=_;rw[Gi h m,h]
theorem Ga{p:Pg}{D O:List (List Str)}{k:Nat}(h:rdI p D O (itI p D O k)=itI p D O k):∀m,itI p D O (k+m)=itI p D O k
 |0=>rfl
 | m+1=>by
   show rdI p D O (itI p D O (k+m))=_;rw[Ga h m,h]
theorem BookR.uniq{p:Pg}{b c:Book}(hb:BookR p b)(hc:BookR p c):b=c:=by
 obtain⟨k,hk⟩:=hb.outs;obtain⟨m,hm⟩:=hc.outs;have ho:b.outs=c.outs:=by
  have h1:=Gi (p:=p) (k:=k) (by rw[<-hk];exact hb.fixO) m;have h2:=Gi (p:=p) (k:=m) (by rw[<-hm];exact hc.fixO) k;rw[hk,hm,<-h1,<-h2,x3r]
 have hd:b.defs=c.defs:=by rw[hb.defs,hc.defs,ho]
 obtain⟨k,hk⟩:=hb.ins;obtain⟨m,hm⟩:=hc.ins;have hi:b.ins=c.ins:=by
  have hf1:=hb.fixI;have hf2:=hc.fixI;rw[<-ho,<-hd]at hm hf2;have h1:=Ga (p:=p) (D:=b.defs) (O:=b.outs) (k:=k) (by rw[<-hk];exact hf1) m;have h2:=Ga (p:=p) (D:=b.defs) (O:=b.outs) (k:=m) (by rw[<-hm];exact hf2) k;rw[hk,hm,<-h1,<-h2,x3r]
 have hu:b.uses=c.uses:=by rw[hb.uses,hc.uses,hi]
 have hs:b.s=c.s:=by rw[hb.s,hc.s]
 have hw:b.ways=c.ways:=by rw[hb.ways,hc.ways]
 cases b;cases c;simp only at ho hd hi hu hs hw;subst ho hd hi hu hs hw;rfl
noncomputable def QG(p:Pg):Book:=@Classical.epsilon _ ⟨bkO p []⟩ (BookR p)
theorem BookR.eq{p:Pg}{b:Book}(h:BookR p b):b=QG p:=h.uniq (@Classical.epsilon_spec _ (BookR p) ⟨b,h⟩)
theorem Ok{p:Pg}(hc:QO p=true):∃k,itO p (k+1)=itO p k:=by
 refine x0k fun hno=>?_;have h1:∀k,k<=Go.Ab.tot (itO p k):=fun k=>by
  induction k with
  |zero=>exact q7c _
  | succ k ih=>
    have:=L6 (p:=p) (k:=k) fun he=>hno ⟨k,he⟩;omega
 have h2:=(Vt p 401).tot hc;have h3:=h1 401;omega
theorem Oj{p:Pg}(hc:QO p=true)(D O:List (List Str)):∃k,itI p D O (k+1)=itI p D O k:=by
 refine x0k fun hno=>?_;have h1:∀k,k<=Go.Ab.tot (itI p D O k):=fun k=>by
  induction k with
  |zero=>exact q7c _
  | succ k ih=>
    have:=L5 hc (p:=p) (D:=D) (O:=O) (k:=k) fun he=>hno ⟨k,he⟩;omega
 have h2:=(Vr p D O 401).tot hc;have h3:=h1 401;omega
theorem WE{p:Pg}(hc:QO p=true):BookR p (QG p):=by
 obtain⟨k,hk⟩:=Ok hc;obtain⟨m,hm⟩:=Oj hc (dfB p (itO p k)) (itO p k);have hb:BookR p ⟨sheetOf p,wysB p,dfB p (itO p k),usB p (itI p (dfB p (itO p k)) (itO p k) m),itI p (dfB p (itO p k)) (itO p k) m,itO p k⟩:=⟨rfl,rfl,⟨k,rfl⟩,hk,rfl,⟨m,rfl⟩,hm,rfl⟩;rw[<-hb.eq];exact hb
theorem Gz{p:Pg}(hc:QO p=true):OkO p (QG p).outs/\OkI p (QG p).ins:=by
 have hb:=WE hc;obtain⟨k,hk⟩:=hb.outs;obtain⟨m,hm⟩:=hb.ins;exact⟨hk▸Vt p k,hm▸Vr p _ _ m⟩
def Ms(p:Pg)(i:Nat)(f:Pr)(D:List (List Str))(I:List Str)(a:Nat):List Str:=
 if a=0 then WR (I++f.params.map Param.name)else if a=QU f.body+1 then []else bif (QQ p i f).live.getD a false then D.getD (QM p.procs i+a-1) []else []
def EA(p:Pg)(i:Nat)(f:Pr)(U:List (List Str))(O:List Str)(a:Nat):List Str:=
 if a=QU f.body+1 then WR (O++[EW])else if a=0 then []else bif (QQ p i f).live.getD a false then U.getD (QM p.procs i+a-1) []else []
theorem Mv(l:List Str)(hl:l.length<=1000000):SpecH prog 151 ([eStrs l].map .p) [] (OneRow (Ky l) (l=[])):=ZI l hl
theorem P3(l:List Str)(hl:l.length<=1000000):SpecH prog 86 [.hd 1000 0 l.length] [(1000,.own 9 1 (l.map .str))] (fun r H=>r=.hd 1000 0 (WR l).length/\H=[(1000,.own 9 1 ((WR l).map .str))]):=Vg l (by omega)
theorem Vv(b:Book)(p:Pg)(hp:b.s=sheetOf p)(h:QO p=true)(i:Nat)(f:Pr)(hj:p.procs[i]?=some f)(hW:b.ways[i]?=some (QQ p i f))(I:List Str)(hI:b.ins[i]?=some I)(hIl:I.length<=1000)(hD:b.defs.length=(sheetOf p).l.length)(a:Nat)(ha:a<QU f.body+2):SpecP prog 156 [.ip b.cells,.int .i64 i,.int .i64 a] (fun r=>r=eStrs (Ms p i f b.defs I a)):=by
 refine sB LC func156 rfl call156 ?_;conv=>whnf
 have hbp:b.s.p=p:=by rw[hp];exact(QV p).1
 obtain⟨hsp,_,_,hlen,hs⟩:=QV p;obtain⟨_,_,hle,_⟩:=hs i f hj;have hcn:=(XP h).2.2;have hT:=q0w h hj;have hg1:(b.s.p.procs.map fun f=>AV.agg f.cells)[i]?=some (.agg f.cells):=by rw[hbp,q7l,hj];rfl
 have hg2:(b.ways.map fun w=>AV.ip w.cells)[i]?=some (.ip (QQ p i f).cells):=by rw[q7l,hW];rfl
 have hg3:(b.ins.map eStrs)[i]?=some (eStrs I):=by rw[q7l,hI];rfl
 have hPl:=WY (QQ p i f) f hT.hj hT.hc (by have:=hT.hn2;have:=hT.hn;have:=hT.hw;omega) a (by omega);have hCl:=Mv I (by omega);have hll:(QQ p i f).live.length=QU f.body+2:=by show(JX _ (List.replicate (QU f.body+2) false)).length=_;rw[DM];simp
 have hwn:(QQ p i f).n=(QU f.body+2:Nat):=rfl;have hlv:((QQ p i f).live.map bv)[a]?=some (bv ((QQ p i f).live.getD a false)):=by
  rw[q7l,q7h,q7g (by omega)];rfl
 have hpl8:f.params.length<=8:=((U3 (QD h).1).pr f (q8u hj)).1;unfold Ms;by_cases h0:a=0
 ·subst h0;rw[if_pos rfl];repeat' (first|((first|(refine iM fun _=>?_)|refine dA ?_|refine q7p rfl ?_|refine aD ?_|refine aR ?_|refine bP ?_|(refine iA fun _=>?_)|refine IdxK.xs (by omega) ?_|refine QX (by omega) ?_|(refine ByteK.at (by omega) ?_)|refine wI ?_|(refine IdxK.at (k:=i) rfl hg1 rfl ?_)|(refine IdxK.at (k:=i) rfl hg2 rfl ?_)|(refine IdxK.at (k:=i) rfl hg3 rfl ?_));conv=>whnf)|(apply bD<;>intro _<;>first|omega|conv=>whnf)|(apply bE<;>intro _<;>first|omega|conv=>whnf)|(apply bN<;>intro _<;>conv=>whnf)|(apply bB<;>intro _<;>conv=>whnf))
  have hpm:(f.params.map fun x=>AV.agg x.cells).length=f.params.length:=q7f _;refine YH 0 rfl hCl (.cons (.p (Sub.refl _)) .nil) (fun hnil=>?_) (fun q e sz es hR=>?_);rotate_left;obtain⟨rfl,rfl,rfl⟩:=hR
  rotate_right
  all_goals
   conv=>whnf
   repeat' (first|((first|(refine iM fun _=>?_)|refine dA ?_|refine q7p rfl ?_|refine aD ?_|refine aR ?_|refine bP ?_|(refine iA fun _=>?_)|refine IdxK.xs (by omega) ?_|refine QX (by omega) ?_|(refine ByteK.at (by omega) ?_)|refine wI ?_|(refine IdxK.at (k:=i) rfl hg1 rfl ?_));conv=>whnf)|(apply bD<;>intro _<;>first|omega|conv=>whnf)|(apply bE<;>intro _<;>first|omega|conv=>whnf)|(apply bN<;>intro _<;>conv=>whnf)|(apply bB<;>intro _<;>conv=>whnf))
  all_goals
   refine LoopK.inv QK (fun k:Nat=>⟨[(8,.hd 0 0 (I++(f.params.take k).map Param.name).length),(40,.p (.sl (f.params.map fun a=>AV.agg a.cells))),(41,.p (.int .i64 (f.params.map fun a=>AV.agg a.cells).length)),(42,.p (.int .i64 k))],[(0,.own 9 1 ((I++(f.params.take k).map Param.name).map .str))]⟩) (fun k=>k<=f.params.length) (fun k=>f.params.length-k) 0
    (by first
      |exact Le.of_eq (by simp;rfl)
      | (rw[hnil]
         exact Le.mk [(0,.own 9 1 [])] (by simp[Chunk.new0];rfl) (by simp) (by simp) (.cons (.nil q7d) (.r (.r (.r .nil)))) (.new q7d .nil))
      |trace_state) (q7c _) ?_
   intro k hk;have hpl:f.params.length<=8:=hpl8;have hal:(I++(f.params.take k).map Param.name).length<=1100:=by rw[q7b,q7f,q8n];omega
   rcases q7e k f.params.length with hk2|hk2
   ·have hst:I++(f.params.take (k+1)).map Param.name=(I++(f.params.take k).map Param.name)++[f.params[k].name]:=by rw[q8q hk2,q7o,q8d];rfl
    generalize I++(f.params.take k).map Param.name=acc at*
    conv=>whnf
    repeat' (first|((first|(refine iM fun _=>?_)|refine dA ?_|refine q7p rfl ?_|refine aD ?_|refine aR ?_|refine bP ?_|(refine iA fun _=>?_)|refine IdxK.xs (by omega) ?_|refine QX (by omega) ?_|(refine ByteK.at (by omega) ?_)|refine wI ?_|refine XQ (by simp) (by rw[q7f];omega) ?_);conv=>whnf)|(apply bD<;>intro _<;>first|omega|conv=>whnf)|(apply bE<;>intro _<;>first|omega|conv=>whnf)|(apply bN<;>intro _<;>conv=>whnf)|(apply bB<;>intro _<;>conv=>whnf))
    all_goals first
     |exact⟨k+1,hk2,by omega,Le.of_eq (by rw[hst];simp only[q7b,q7o];rfl)⟩
   ·rw[q8y hk2]at hal⊢;have hSo:=P3 (I++f.params.map Param.name) (by omega);generalize I++f.params.map Param.name=acc at*
    conv=>whnf
    repeat' (first|((first|(refine iM fun _=>?_)|refine dA ?_|refine q7p rfl ?_|refine aD ?_|refine aR ?_|refine bP ?_|(refine iA fun _=>?_)|refine IdxK.xs (by omega) ?_|refine QX (by omega) ?_|(refine ByteK.at (by omega) ?_)|refine wI ?_);conv=>whnf)|(apply bD<;>intro _<;>first|omega|conv=>whnf)|(apply bE<;>intro _<;>first|omega|conv=>whnf)|(apply bN<;>intro _<;>conv=>whnf)|(apply bB<;>intro _<;>conv=>whnf)|(refine CallK.heap [(1000,0)] 0 (by repeat' (first|exact q8c|refine q8w ?_ ?_|exact q8k _|exact q8m Sub.nils|exact q8m (Sub.tt rfl)|exact q8m (Sub.ff rfl)|exact q8m (Sub.int (by omega)))) (by refine q8x (j:=0) rfl rfl ?_ ?_;exact CSub.refl _;exact q8a) hSo rfl rfl ?_;rintro l' H' ⟨rfl,rfl⟩;conv=>whnf))
    all_goals first
     |exact⟨_,.hd rfl (by simp),rfl⟩
 ·rw [if_neg h0];by_cases h1:a=QU f.body+1
  ·rw[if_pos h1];repeat' (first|((first|(refine iM fun _=>?_)|refine dA ?_|refine q7p rfl ?_|refine aD ?_|refine aR ?_|refine bP ?_|(refine iA fun _=>?_)|refine IdxK.xs (by omega) ?_|refine QX (by omega) ?_|(refine ByteK.at (by omega) ?_)|refine wI ?_|(refine IdxK.at (k:=i) rfl hg2 rfl ?_));conv=>whnf)|(apply bD<;>intro _<;>first|omega|conv=>whnf)|(apply bE<;>intro _<;>first|omega|conv=>whnf)|(apply bN<;>intro _<;>conv=>whnf)|(apply bB<;>intro _<;>conv=>whnf))
   all_goals first
    |(exfalso;omega)
    |exact⟨_,.p Sub.nils,rfl⟩
  ·rw[if_neg h1];have hpe:QH (QQ p i f).p (QQ p i f).j (QQ p i f).n a=((QM p.procs i+a:Nat):Int):=by
    show QH p i (QU f.body+2:Nat) a=_;unfold QH loI;rw[if_neg (by omega),if_neg (by omega)];omega
   rw[hpe]at hPl;have hg4:(b.defs.map eStrs)[QM p.procs i+a-1]?=some (eStrs (b.defs.getD (QM p.procs i+a-1) [])):=by
    rw[q7l,q7h,q7g (by omega)];rfl
   generalize(QQ p i f).live.getD a false=lv at*
   cases lv;all_goals
    repeat' (first|((first|(refine iM fun _=>?_)|refine dA ?_|refine q7p rfl ?_|refine aD ?_|refine aR ?_|refine bP ?_|(refine iA fun _=>?_)|refine IdxK.xs (by omega) ?_|refine QX (by omega) ?_|(refine ByteK.at (by omega) ?_)|refine wI ?_|(refine IdxK.at (k:=i) rfl hg2 rfl ?_)|(refine IdxK.at (k:=a) rfl hlv rfl ?_)|refine cP hPl ?_|(refine IdxK.at (k:=QM p.procs i+a-1) (by omega) hg4 rfl ?_));conv=>whnf)|(apply bD<;>intro _<;>first|omega|conv=>whnf)|(apply bE<;>intro _<;>first|omega|conv=>whnf)|(apply bN<;>intro _<;>conv=>whnf)|(apply bB<;>intro _<;>conv=>whnf))
    all_goals first
     |(exfalso;omega)
     |contradiction
     |exact⟨_,.p Sub.nils,rfl⟩
     |exact⟨_,.p (Sub.refl _),rfl⟩
theorem Vu(b:Book)(p:Pg)(hp:b.s=sheetOf p)(h:QO p=true)(i:Nat)(f:Pr)(hj:p.procs[i]?=some f)(hW:b.ways[i]?=some (QQ p i f))(O:List Str)(hO:b.outs[i]?=some O)(hOl:O.length<=900000)(hD:b.uses.length=(sheetOf p).l.length)(a:Nat)(ha:a<QU f.body+2):SpecP prog 97 [.ip b.cells,.int .i64 i,.int .i64 a] (fun r=>r=eStrs (EA p i f b.uses O a)):=by
 refine sB LA func97 rfl call97 ?_;conv=>whnf
 obtain⟨hsp,_,_,hlen,hs⟩:=QV p;obtain⟨_,_,hle,_⟩:=hs i f hj;have hcn:=(XP h).2.2;have hT:=q0w h hj;have hg2:(b.ways.map fun w=>AV.ip w.cells)[i]?=some (.ip (QQ p i f).cells):=by rw[q7l,hW];rfl
 have hg3:(b.outs.map eStrs)[i]?=some (eStrs O):=by rw[q7l,hO];rfl
 have hPl:=WY (QQ p i f) f hT.hj hT.hc (by have:=hT.hn2;have:=hT.hn;have:=hT.hw;omega) a (by omega);have hCl:=Mv O (by omega);have hll:(QQ p i f).live.length=QU f.body+2:=by show(JX _ (List.replicate (QU f.body+2) false)).length=_;rw[DM];simp
 have hwn:(QQ p i f).n=(QU f.body+2:Nat):=rfl;have hlv:((QQ p i f).live.map bv)[a]?=some (bv ((QQ p i f).live.getD a false)):=by
  rw[q7l,q7h,q7g (by omega)];rfl
 unfold EA;by_cases h0:a=QU f.body+1
 ·rw[if_pos h0];have hSo:=P3 (O++[EW]) (by simp;omega);have hOm:(O.map AV.str).length=O.length:=q7f _;repeat' (first|((first|(refine iM fun _=>?_)|refine dA ?_|refine q7p rfl ?_|refine aD ?_|refine aR ?_|refine bP ?_|(refine iA fun _=>?_)|refine IdxK.xs (by omega) ?_|refine QX (by omega) ?_|(refine ByteK.at (by omega) ?_)|refine wI ?_|(refine IdxK.at (k:=i) rfl hg2 rfl ?_)|(refine IdxK.at (k:=i) rfl hg3 rfl ?_));conv=>whnf)|(apply bD<;>intro _<;>first|omega|conv=>whnf)|(apply bE<;>intro _<;>first|omega|conv=>whnf)|(apply bN<;>intro _<;>conv=>whnf)|(apply bB<;>intro _<;>conv=>whnf))
  all_goals try (exfalso;omega)
  refine YH 0 rfl hCl (.cons (.p (Sub.refl _)) .nil) (fun hnil=>?_) (fun q e sz es hR=>?_);rotate_left;obtain⟨rfl,rfl,rfl⟩:=hR
  rotate_right
  subst hnil;all_goals
   conv=>whnf
   repeat' (first|((first|(refine iM fun _=>?_)|refine dA ?_|refine q7p rfl ?_|refine aD ?_|refine aR ?_|refine bP ?_|(refine iA fun _=>?_)|refine IdxK.xs (by omega) ?_|refine QX (by omega) ?_|(refine ByteK.at (by omega) ?_)|refine wI ?_|refine XQ (es:=[]) rfl (by simp) ?_|refine XQ (by simp) (by simp;omega) ?_);conv=>whnf)|(apply bD<;>intro _<;>first|omega|conv=>whnf)|(apply bE<;>intro _<;>first|omega|conv=>whnf)|(apply bN<;>intro _<;>conv=>whnf)|(apply bB<;>intro _<;>conv=>whnf)|(refine CallK.heap [(1000,0)] 0 (by repeat' (first|exact q8c|refine q8w ?_ ?_|exact q8k _|exact q8m Sub.nils|exact q8m (Sub.tt rfl)|exact q8m (Sub.ff rfl)|exact q8m (Sub.int (by omega)))) (by refine q8x (j:=0) rfl rfl ?_ ?_;exact CSub.refl _;exact q8a) hSo rfl rfl ?_;rintro l' H' ⟨rfl,rfl⟩;conv=>whnf)|(refine CallK.heap [(1000,0)] 0 (q8w (x2b (by simp;rfl)) q8c) (q8x (j:=0) rfl rfl (CSub.of_eq (by simp;rfl)) q8a) hSo rfl rfl ?_;rintro l' H' ⟨rfl,rfl⟩;conv=>whnf))
   all_goals first
    |exact⟨_,.hd rfl (by simp),rfl⟩
 ·rw [if_neg h0];by_cases h1:a=0
  ·rw[if_pos h1];repeat' (first|((first|(refine iM fun _=>?_)|refine dA ?_|refine q7p rfl ?_|refine aD ?_|refine aR ?_|refine bP ?_|(refine iA fun _=>?_)|refine IdxK.xs (by omega) ?_|refine QX (by omega) ?_|(refine ByteK.at (by omega) ?_)|refine wI ?_|(refine IdxK.at (k:=i) rfl hg2 rfl ?_));conv=>whnf)|(apply bD<;>intro _<;>first|omega|conv=>whnf)|(apply bE<;>intro _<;>first|omega|conv=>whnf)|(apply bN<;>intro _<;>conv=>whnf)|(apply bB<;>intro _<;>conv=>whnf))
   all_goals first
    |(exfalso;omega)
    |exact⟨_,.p Sub.nils,rfl⟩
  ·rw[if_neg h1];have hpe:QH (QQ p i f).p (QQ p i f).j (QQ p i f).n a=((QM p.procs i+a:Nat):Int):=by
    show QH p i (QU f.body+2:Nat) a=_;unfold QH loI;rw[if_neg (by omega),if_neg (by omega)];omega
   rw[hpe]at hPl;have hg4:(b.uses.map eStrs)[QM p.procs i+a-1]?=some (eStrs (b.uses.getD (QM p.procs i+a-1) [])):=by
    rw[q7l,q7h,q7g (by omega)];rfl
   generalize(QQ p i f).live.getD a false=lv at*
   cases lv;all_goals
    repeat' (first|((first|(refine iM fun _=>?_)|refine dA ?_|refine q7p rfl ?_|refine aD ?_|refine aR ?_|refine bP ?_|(refine iA fun _=>?_)|refine IdxK.xs (by omega) ?_|refine QX (by omega) ?_|(refine ByteK.at (by omega) ?_)|refine wI ?_|(refine IdxK.at (k:=i) rfl hg2 rfl ?_)|(refine IdxK.at (k:=a) rfl hlv rfl ?_)|refine cP hPl ?_|(refine IdxK.at (k:=QM p.procs i+a-1) (by omega) hg4 rfl ?_));conv=>whnf)|(apply bD<;>intro _<;>first|omega|conv=>whnf)|(apply bE<;>intro _<;>first|omega|conv=>whnf)|(apply bN<;>intro _<;>conv=>whnf)|(apply bB<;>intro _<;>conv=>whnf))
    all_goals first
     |(exfalso;omega)
     |contradiction
     |exact⟨_,.p Sub.nils,rfl⟩
     |exact⟨_,.p (Sub.refl _),rfl⟩
section
variable {P:Program}{T:Tab}{N:Nat}
def Fq(l:List (List UInt8×List AV))(k:List UInt8):List AV:=(Pv l k).getD []
theorem Tf{s s':St}{σ:Mem}{β:Lab}{ac:Act}{w:World}(hr:Rel N σ β s ac w){k k2:Nat}(hu:WX k2 s=true){i i':BInfo}{o2:Option BInfo}(hi:β k=some i){c0:Chunk}(hg:getH s.H k=some c0)(hb:i'.blk=i.blk/\i'.cap=i.cap/\i'.sz=i.sz)(hhas:∀b,i'.has b->i.has b)(hhas2:∀i2,o2=some i2->∀b,i2.has b->i.has b/\¬i'.has b)(hpin:ZJ k=false){c c2:Chunk}(h:KZ s k k2 c c2 fun s2=>s2=s')(hc:∀β':Lab,β' k=some i'->β' k2=o2->c.holds σ β' w k/\c2.holds σ β' w k2):
  ∃β',Rel N σ β' s' ac w/\Later σ β s.H w σ β' s'.H w/\β' k2=o2/\β' k=some i'/\∀l v,l.xfree k=true->l.free k2=true->RepL σ β l v->RepL σ β' l v:=by
 obtain⟨sl,h,hsl⟩:=WW (by rfl) h;obtain⟨H2,rfl,hsub,hmem⟩:=WV h;obtain⟨hu1,hu2⟩:=XS hu;have hu3:=UA hu;have hk1:=QN hg;have hne:k≠k2:=fun he=>(hu1 k _ (QF hg)).1 he;have hnm:k2∉s.H.map (·.1):=fun hk=>by
  obtain⟨⟨j,c⟩,hm,rfl⟩:=q7s.1 hk;exact(hu1 j c hm).1 rfl
 have hlab:∀j∈H2.map (·.1),j∈s.H.map (·.1)/\j≠k2:=fun j hj=>by
  refine⟨hsub.subset hj,fun he=>?_⟩;obtain⟨⟨j',c⟩,hm,rfl⟩:=q7s.1 hj;exact(hmem j' c hm).1 he
 let β':Lab:=(β.set k (some i')).set k2 o2;have hset:∀j,j≠k->j≠k2->β' j=β j:=fun j h1 h2=>by simp[β',Lab.set,h1,h2]
 have hsetk:β' k=some i':=by simp[β',Lab.set,hne]
 have hsetk2:β' k2=o2:=by simp[β',Lab.set]
 have hlv:∀l v,l.xfree k=true->l.free k2=true->RepL σ β l v->RepL σ β' l v:=fun l v h1 h2 hl=>(hl.subs (i':=i') hi hb h1).set o2 h2;have hkf:∀l:LV,l.free k2=true->(l.xkill k).free k2=true:=fun l h=>by
  unfold LV.xkill;cases l.xfree k
  ·rfl
  ·exact h
 have hwas:∀j ij,β' j=some ij->(j=k\/j=k2\/j∈s.H.map (·.1))->∀b,ij.has b->∃j0 i0,j0∈s.H.map (·.1)/\β j0=some i0/\i0.has b/\(j≠k->j≠k2->j0=j)/\(j=k\/j=k2->j0=k):=fun j ij hij hj b hb=>by
  by_cases h1:j=k
  ·subst h1;rw[hsetk]at hij;cases hij;exact⟨_,i,hk1,hi,hhas b hb,fun h=>absurd rfl h,fun _=>rfl⟩
  ·by_cases h2:j=k2
   ·subst h2;rw[hsetk2]at hij;exact⟨k,i,hk1,hi,(hhas2 ij hij b hb).1,fun _ h=>absurd rfl h,fun _=>rfl⟩
   ·rw[hset j h1 h2]at hij;exact⟨j,ij,(hj.resolve_left h1).resolve_left h2,hij,hb,fun _ _=>rfl,fun h=>absurd h (by simp[h1,h2])⟩
 have hcase:∀j∈((k2,c2)::H2).map (·.1),j=k\/j=k2\/j∈s.H.map (·.1):=fun j hj=>by
  simp only[q8f,q7r]at hj;rcases hj with hj|hj
  ·exact .inr (.inl hj)
  ·exact .inr (.inr (hlab j hj).1)
 obtain⟨hck,hck2⟩:=hc β' hsetk hsetk2;refine⟨β',⟨hr.size,hr.defers,fun j=>?_,⟨hr.heap.mem,fun j c hj=>?_,?_,fun j hj ij hij b hb=>?_,fun j hj j' hj' i1 i2 h1 h2 b hb1 hb2=>?_⟩⟩,⟨Mem.le_refl σ,Frm.refl _ _,fun _ h0 h1=>absurd h0 h1,fun b ⟨j,hj,ij,hij,hb⟩=>?_,fun j h0 h1=>hset j (P9 hpin j h0 h1) (by omega)⟩,hsetk2,hsetk,hlv⟩
 ·show RepL σ β' (getS sl j) _;rw[hsl];exact hlv _ _ (ZM k _) (hkf _ (hu2 j)) ((hr.slots j).xkill k)
 ·rcases q7r.1 hj with he|hj
  ·cases he;exact hck2
  ·obtain⟨hj2,⟨rfl,rfl⟩|⟨h1,c0,h2,rfl⟩⟩:=hmem j c hj
   ·exact hck
   ·have hfr:=(hu1 j c0 h2);have hhold:=hr.heap.chunks j c0 h2;cases c0 with
    | obj e' cs=>
      obtain⟨i2,vs2,hi2,hh2,hn2,hc2⟩:=hhold;refine⟨i2,vs2,(hset j h1 hj2).trans hi2,hh2,by simpa using hn2,fun m l hm=>?_⟩;rw[q7l]at hm;cases hq:cs[m]?with
      |none=>rw[hq]at hm;cases hm
      | some l'=>
        rw[hq]at hm;cases hm;obtain⟨u,h5,h6⟩:=hc2 m l' hq;exact⟨u,h5,hlv _ _ (ZM k _) (hkf _ (XH hfr.2 m l' hq)) (h6.xkill k)⟩
    | own e' sz' es'=>
      rcases hhold with⟨h5,h6⟩|⟨i2,vs2,hi2,rest⟩
      ·exact .inl ⟨(hset j h1 hj2).trans h5,h6⟩
      ·exact .inr ⟨i2,vs2,(hset j h1 hj2).trans hi2,rest⟩
    | ext d=>
      show d.holds σ (β' j) w;rw[hset j h1 hj2];exact hhold
 ·simp only[q8f,q9v];exact⟨fun hk=>(hlab k2 hk).2 rfl,hsub.nodup hr.heap.nodup⟩
 ·obtain⟨j0,i0,h1,h2,h3,_⟩:=hwas j ij hij (hcase j hj) b hb;exact hr.heap.apart j0 h1 i0 h2 b h3
 ·obtain⟨j0,i0,h3,h4,h5,h6,h7⟩:=hwas j i1 h1 (hcase j hj) b hb1;obtain⟨j1,i3,h8,h9,h10,h11,h12⟩:=hwas j' i2 h2 (hcase j' hj') b hb2;have hj01:=hr.heap.inj j0 h3 j1 h8 i0 i3 h4 h9 b h5 h10;by_cases e1:j=k<;>by_cases e2:j'=k
  ·rw[e1,e2]
  ·by_cases e3:j'=k2
   ·subst e1 e3;rw[hsetk]at h1;cases h1;rw[hsetk2]at h2;exact absurd hb1 (hhas2 i2 h2 b hb2).2
   ·have:=h7 (.inl e1);have:=h11 e2 e3;exact absurd (by omega) e2
  ·by_cases e3:j=k2
   ·subst e2 e3;rw[hsetk]at h2;cases h2;rw[hsetk2]at h1;exact absurd hb2 (hhas2 i1 h1 b hb1).2
   ·have:=h12 (.inl e2);have:=h6 e1 e3;exact absurd (by omega) e1
  ·by_cases e3:j=k2<;>by_cases e4:j'=k2
   ·rw[e3,e4]
   ·have:=h7 (.inr e3);have:=h11 e2 e4;exact absurd (by omega) e2
   ·have:=h12 (.inr e4);have:=h6 e1 e3;exact absurd (by omega) e1
   ·have:=h6 e1 e3;have:=h11 e2 e4;omega
 ·obtain⟨j0,i0,h1,h2,h3,_⟩:=hwas j ij hij (hcase j hj) b hb;exact .inl ⟨j0,h1,i0,h2,h3⟩
theorem Fe{s:St}{o:Oper}(e sz:Nat)(hop:o.op=.makeMap t none)(h:GS 60 0 s fun k=>setD N s.sl o.dst (.ext k .map) fun sl=>K ⟨sl,(k,.ext (.mapr e sz [] none))::s.H⟩):OpK P N s o K:=by
 refine⟨fun σ β a w hr Q=>?_⟩;obtain⟨k,hk,h⟩:=UK h;have hchunk:(Chunk.ext (.mapr e sz [] none)).holds σ (β.set k (some ⟨w.heap.size,0,0,[],q7c _⟩)) (w.alloc (.map #[] 0)) k:=
  ⟨⟨w.heap.size,0,0,[],q7c _⟩,#[],0,by simp[Lab.set],heap_alloc_new w _,⟨.nil,fun x hx=>by cases hx⟩,rfl,rfl,.nil,fun a b c h=>by simp at h,fun a x h=>by simp at h⟩
 obtain⟨hr',hl⟩:=hr.new hk rfl rfl hchunk;obtain⟨sl,hK,hr''⟩:=hr'.setD (v:=.ext k .map) (u:=.map (some w.heap.size)) (.ext k .map ⟨w.heap.size,0,0,[],q7c _⟩ _ (by simp[Lab.set]) rfl) h;exact XE (w':=w.alloc (.map #[] 0)) (by simp[execOp,hop,Instr.makeMap]) ⟨σ,_,_,hK,hr'',hl⟩
theorem SW{l:List (List UInt8×α)}{es:Array MapEntry}(h1:es.size=l.length)(h2:∀(m:Nat)(x:List UInt8×α),l[m]?=some x->∃e:MapEntry,es[m]?=some e/\e.key=YW x.1):es.toList.map (·.key)=l.map (fun x=>YW x.1):=by
 apply List.ext_getElem?;intro m;rw[q7l,q7l];cases hq:l[m]?with
 | none=>
   have:es.toList[m]?=none:=by
    rw[List.getElem?_eq_none_iff]at hq⊢;simp;omega
   rw[this];rfl
 | some x=>
   obtain⟨e,h3,h4⟩:=h2 m x hq;have h3':es.toList[m]?=some e:=by simpa using h3
   rw[h3'];simp[h4]
theorem Sb{l:List (List UInt8×α)}{k:List UInt8}(h:(l.findIdx? fun x=>decide (k=x.1))=none):Pv l k=none:=by
 unfold Pv;rw[List.findIdx?_eq_none_iff]at h;rw[x0o.2 fun x hx=>by simpa using h x hx];rfl
theorem Dl{l:List (List UInt8×α)}{k:List UInt8}(h:(l.findIdx? fun x=>decide (k=x.1))=some j):∃x,l[j]?=some x/\x.1=k/\Pv l k=some x.2:=by
 obtain⟨h1,h2,h3⟩:=List.findIdx?_eq_some_iff_getElem.1 h;refine⟨l[j],q7g h1,(by simpa using h2:k=l[j].1).symm,?_⟩;unfold Pv;have:l.find? (fun x=>decide (k=x.1))=some l[j]:=List.find?_eq_some_iff_getElem.2 ⟨h2,j,h1,rfl,fun i hi=>by simpa using h3 i hi⟩;rw[this];rfl
theorem L7{l:List (List UInt8×α)}(h:(l.map (·.1)).Nodup){i:Nat}{x y:List UInt8×α}(hi:l[i]?=some x)(hj:l[j]?=some y)(he:x.1=y.1):i=j:=by
 have h1:=(q7t.1 hi);have h2:=(q7t.1 hj);obtain⟨h1,rfl⟩:=h1;obtain⟨h2,rfl⟩:=h2;refine(List.getElem_inj (h₀:=by simpa using h1) (h₁:=by simpa using h2) h).1 ?_;simpa using he
theorem TZ(hT:TabOK P T){s:St}{o:Oper}{x ix:Operand}(k2:Nat)(hop:o.op=.lookup t x ix false){k:Nat}(hx:QL s.sl x=.ext k .map){e sz:Nat}{l:List (List UInt8×List AV)}(hg:getH s.H k=some (.ext (.mapr e sz l none))){ks:List UInt8}(hk:QL s.sl ix=.p (.str ks)){i ik ie:TyI}{kt et:TypeId}(ht:T.get t=some i)(hd:i.desc=.map kt et)(htk:T.get kt=some ik)(hdk:ik.desc=.string)(hte:T.get et=some ie)(hze:ie.zero=.slice none 0 0)(hu:WX k2 s=true)(hpin:ZJ k=false)(h:KZ s k k2 (.ext (.mapr e sz l (some ks))) (.own e sz (Fq l ks)) fun s2=>setD N s2.sl o.dst (.hd k2 0 (Fq l ks).length) fun sl=>K ⟨sl,s2.H⟩):OpK P N s o K:=by
 obtain⟨s2,h,he⟩:=Jv h;refine⟨fun σ β a w hr Q=>?_⟩;have hx':=QZ hr.slots x;have hk':=QZ hr.slots ix;rw[hx]at hx';rw[hk]at hk';have hkv:=R8 hk';generalize hxe:a.eval x=xv at hx';cases hx' with
 | ext _ _ bi _ hbi hd'=>
   obtain rfl:xv=.map (some bi.blk):=hd';obtain⟨bi',es,clock,hbi',hh,hbo,h1,h2,h3,h4,h5⟩:=hr.heap.chunks k _ (QF hg);rw[hbi]at hbi';cases hbi';have hkeys:=SW h1 fun m x hm=>let ⟨e',g1,g2,_⟩:=h5 m x hm;⟨e',g1,g2⟩;have hu':=hT.of ht;have huk:=hT.of htk;rw[hd]at hu';rw[hdk]at huk;have hfind:=HS ks es.toList l 0 hkeys;let i':BInfo:=⟨bi.blk,bi.cap,bi.sz,List.zipWith (fun(x:List UInt8×List AV) o=>if x.1=ks then none else o) l bi.subs,bi.ok⟩;have hsub':∀(p:Nat)(x:List UInt8×List AV),l[p]?=some x->i'.subs[p]?=if x.1=ks then some none else bi.subs[p]?:=fun p x hp=>by
    show(List.zipWith _ l bi.subs)[p]?=_;have hlt:p<bi.subs.length:=by rw[h2];exact(q7t.1 hp).1
    rw[List.getElem?_zipWith,hp,q7g hlt];simp only;split<;>rfl
   have hsubx:∀(p b c:Nat),i'.subs[p]?=some (some (b,c))->bi.subs[p]?=some (some (b,c))/\∃x,l[p]?=some x/\x.1≠ks:=fun p b c hp=>by
    have hlt:p<l.length:=by
     have:=(q7t.1 hp).1;simp only[i',x4q]at this;omega
    have h6:=hsub' p _ (q7g hlt);rw[hp]at h6;split at h6
    ·cases h6
    ·rename_i h7;exact⟨h6.symm,_,q7g hlt,h7⟩
   have hhas:∀b,i'.has b->bi.has b:=fun b hb=>by
    rcases hb with hb|⟨c,hb⟩
    ·exact .inl hb
    ·obtain⟨p,hp⟩:=x0g.1 hb;exact .inr ⟨c,q8u (hsubx p b c hp).1⟩
   have hmapr:∀β':Lab,β' k=some i'->(Chunk.ext (.mapr e sz l (some ks))).holds σ β' w k:=fun β' hβ=>by
    refine⟨i',es,clock,hβ,hh,hbo,h1,by show(List.zipWith _ l bi.subs).length=_;rw[x4q,h2];omega,h3,fun p b c hp=>?_,fun p x hp=>?_⟩
    ·obtain⟨h6,_⟩:=hsubx p b c hp;exact⟨(h4 p b c h6).1,fun p' c' hp'=>(h4 p b c h6).2 p' c' (hsubx p' b c' hp').1⟩
    ·obtain⟨e',g1,g2,_,g4⟩:=h5 p x hp;refine⟨e',g1,g2,fun hq=>?_,fun hq=>?_⟩
     ·rw[hsub' p x hp,if_pos (x0m hq).symm]
     ·obtain⟨b,c,ws,q1,q2⟩:=g4 (by simp);refine⟨b,c,ws,?_,q2⟩;rw[hsub' p x hp,if_neg (fun hh=>hq (by rw[hh]))];exact q1
   obtain⟨o2,vv,ho2,hrun,hown,hrep⟩ : ∃(o2:Option BInfo) (vv:Value),(∀i2,o2=some i2->i2.subs=[]/\∃(p c:Nat) (x:List UInt8×List AV),l[p]?=some x/\x.1=ks/\bi.subs[p]?=some (some (i2.blk,c)))/\(execOp a.eval o).run P w=.ok (.value vv) w/\
     (∀β':Lab,β' k2=o2->(Chunk.own e sz (Fq l ks)).holds σ β' w k2)/\∀β':Lab,β' k2=o2->RepL σ β' (.hd k2 0 (Fq l ks).length) vv:=by
    have hrunw:∀(vv:Value)(r:Option (Nat×Value)),(Instr.findKey kt (YW ks) es.toList).run P w=.ok r w->(r=none->vv=.slice none 0 0)->(∀q,r=some q->vv=q.2)->(execOp a.eval o).run P w=.ok (.value vv) w:=fun vv r hfk hn hs=>by
     have hlk:(Instr.lookup t (.map (some bi.blk)) (YW ks) false).run P w=.ok vv w:=by
      unfold Instr.lookup;rw[Sem.run_bind,run_underlying hu',Result.andThen_ok];simp only[Sem.run_bind,UG hh,Result.andThen_ok,Sem.run_pure,YD huk,hfk];cases r with
      | none=>
        rw[hn rfl];simp only[Sem.run_bind,TyOK.zeroValue (hT _ _ hte),hze,Result.andThen_ok,Sem.run_pure];rfl
      | some q=>
        rw[hs q rfl];rfl
     simp only[execOp,hop,hxe,hkv,Sem.run_bind,hlk,Result.andThen_ok];rfl
    cases hj:l.findIdx? fun x=>decide (ks=x.1)with
    | none=>
      rw[hj]at hfind;have hrow:Fq l ks=[]:=by unfold Fq;rw[Sb hj];rfl
      refine⟨none,.slice none 0 0,fun i2 h=>(by cases h),hrunw _ none ?_ (fun _=>rfl) (fun q h=>by cases h),fun β' hβ=>.inl ⟨hβ,hrow⟩,fun β' hβ=>?_⟩
      ·unfold Instr.findKey;rw[Sem.run_bind,run_underlying huk,Result.andThen_ok,hfind];rfl
      ·rw[hrow];exact .hdn k2 hβ
    | some j=>
      rw[hj]at hfind;obtain⟨y,hy1,hy2,hy3⟩:=Dl hj;have hrow:Fq l ks=y.2:=by unfold Fq;rw[hy3];rfl
      obtain⟨e',g1,g2,_,g4⟩:=h5 j y hy1;obtain⟨b,c,ws,q1,q2,q3,q4,q5,q6,q7⟩:=g4 (by simp);have g1':es.toList[j]?=some e':=by simpa using g1
      simp only[g1',x1p,q9j]at hfind;refine⟨some ⟨b,c,sz,[],q6⟩,e'.val,fun i2 h=>?_,hrunw _ (some (0+j,e'.val)) ?_ (fun h=>by cases h) (fun q h=>by cases h;rfl),fun β' hβ=>?_,fun β' hβ=>?_⟩
      ·cases h;exact⟨rfl,j,c,y,hy1,hy2,q1⟩
      ·unfold Instr.findKey;rw[Sem.run_bind,run_underlying huk,Result.andThen_ok,hfind];rfl
      ·rw[hrow];exact .inr ⟨⟨b,c,sz,[],q6⟩,ws,hβ,rfl,q3,q4,q5,q6,q7⟩
      ·rw[hrow,q2];have:=x4z (σ:=σ) (β:=β') k2 0 y.2.length ⟨b,c,sz,[],q6⟩ 0 hβ (by simpa using q5) (.inl (by simp));simpa using this
   obtain⟨β',hr',hl,hb2,_,_⟩:=Tf (i':=i') (o2:=o2) hr hu hbi hg ⟨rfl,rfl,rfl⟩ hhas (fun i2 h b hb=>by
    obtain⟨h6,p,c,x,h7,h8,h9⟩:=ho2 i2 h;have he:i2.blk=b:=by
     rcases hb with hb|⟨c,hb⟩
     ·exact hb
     ·rw[h6]at hb;cases hb
    subst he;refine⟨.inr ⟨c,q8u h9⟩,fun hb'=>?_⟩;rcases hb' with hb'|⟨c',hb'⟩
    ·exact(h4 p _ c h9).1 hb'
    ·obtain⟨p',hp'⟩:=x0g.1 hb';obtain⟨h10,x',h11,h12⟩:=hsubx p' _ c' hp';obtain rfl:=(h4 p _ c h9).2 p' c' h10;rw[h7]at h11;cases h11;exact h12 h8) hpin he fun β' g1 g2=>⟨hmapr β' g1,hown β' g2⟩
   obtain⟨sl,hK,hr''⟩:=hr'.setD (hrep β' hb2) h;exact XE hrun ⟨σ,β',_,hK,hr'',hl⟩
theorem Aj(hT:TabOK P T){s:St}{o:Oper}{x ix vx:Operand}(hop:o.op=.mapUpdate t x ix vx)(hdst:o.dst=none){k:Nat}(hx:QL s.sl x=.ext k .map){e sz:Nat}{l:List (List UInt8×List AV)}{ks:List UInt8}(hg:getH s.H k=some (.ext (.mapr e sz l (some ks))))(hk:QL s.sl ix=.p (.str ks)){k2 n:Nat}(hvx:QL s.sl vx=.hd k2 0 n){es2:List AV}(hg2:getH s.H k2=some (.own e sz es2))(hn:n=es2.length)(hpos:0<n){i ik:TyI}{kt et:TypeId}(ht:T.get t=some i)(hd:i.desc=.map kt et)(htk:T.get kt=some ik)(hdk:ik.desc=.string)(hpin:(ZJ k||ZJ k2)=false)(hne:k≠k2)(h:SD s k k2 (.ext (.mapr e sz (BG l ks es2) none)) K):OpK P N s o K:=by
 refine⟨fun σ β a w hr Q=>?_⟩;obtain⟨sl,h,hsl⟩:=WW (by rfl) h;obtain⟨H2,hK,hsub,hmem⟩:=WV h;simp only[x2y]at hpin;have hx':=QZ hr.slots x;have hk':=QZ hr.slots ix;have hv':=QZ hr.slots vx;rw[hx]at hx';rw[hk]at hk';rw[hvx]at hv';have hkv:=R8 hk';have hk1:=QN hg;have hk2:=QN hg2;generalize hxe:a.eval x=xv at hx';generalize hve:a.eval vx=vv at hv';cases hx' with
 |ext _ _ bi _ hbi hd'=>
 obtain rfl:xv=.map (some bi.blk):=hd';obtain⟨bi',es,clock,hbi',hh,hbo,h1,h2,h3,h4,h5⟩:=hr.heap.chunks k _ (QF hg);rw[hbi]at hbi';cases hbi';obtain⟨i2,ws,hi2,hvv,r1,r2,r3,r4,r5⟩ : ∃i2 ws,β k2=some i2/\vv=.slice (some ⟨i2.blk,0,none⟩) es2.length i2.cap/\w.heap[i2.blk]?=some (.cells ws e (0,0))/\ws.size=i2.cap*sz/\es2.length<=i2.cap/\i2.cap<=maxLen/\
   ∀(m:Nat)(x:AV),es2[m]?=some x->x.cells.length=sz/\∀(j:Nat)(c':AV),x.cells[j]?=some c'->∃u:Value,ws[m*sz+j]?=some u/\Rep σ c' u:=by
  rcases hr.heap.chunks k2 _ (QF hg2)with⟨_,hes⟩|⟨i2,ws,hi2,g1,g2,g3,g4,g5,g6⟩
  ·rw[hes]at hn;simp at hn;omega
  ·rcases hv'.hdI with⟨hk,_⟩|⟨i3,oo,hk,hl,ho,he⟩
   ·rw[hi2]at hk;cases hk
   ·rw[hi2]at hk;cases hk;have hoo:oo=0:=by
     rcases ho with ho|ho
     ·simpa using ho
     ·omega
    subst hoo;exact⟨i2,ws,hi2,by rw[he,hn];simp,g2,by rw[g3],g4,g5,g6⟩
 have hkeys:=SW h1 fun m x hm=>let ⟨e',g1,g2,_⟩:=h5 m x hm;⟨e',g1,g2⟩;have hu':=hT.of ht;have huk:=hT.of htk;rw[hd]at hu';rw[hdk]at huk;have hfind:=HS ks es.toList l 0 hkeys;have hlt:=(hr.heap.apart k hk1 bi hbi bi.blk bi.has_blk).2;obtain⟨es',clock',subs',hrun,hbo',hsz,hsl',hnd',hent⟩ : ∃(es':Array MapEntry) (clock':Nat) (subs':List (Option (Nat×Nat))),(Instr.mapUpdate t (.map (some bi.blk)) (YW ks) vv).run P w=.ok () {w with heap:=w.heap.setIfInBounds bi.blk (.map es' clock')}/\Xf es' clock'/\es'.size=(BG l ks es2).length/\subs'.length=(BG l ks es2).length/\((BG l ks es2).map (·.1)).Nodup/\
   ∀(m:Nat)(x:List UInt8×List AV),(BG l ks es2)[m]?=some x->∃e':MapEntry,es'[m]?=some e'/\e'.key=YW x.1/\(x.1=ks->e'.val=vv/\subs'[m]?=some (some (i2.blk,i2.cap))/\x.2=es2)/\(x.1≠ks->l[m]?=some x/\es[m]?=some e'/\subs'[m]?=bi.subs[m]?):=by
  cases hj:l.findIdx? fun x=>decide (ks=x.1)with
  | none=>
    rw[hj]at hfind;rw[Uo hj];refine⟨es.push {key:=YW ks,val:=vv,born:=clock},clock+1,bi.subs++[some (i2.blk,i2.cap)],?_,Wc hbo rfl,by simpa using h1,by simp[h2],?_,fun m y hy=>?_⟩
    ·have hfk:(Instr.findKey kt (YW ks) es.toList).run P w=.ok none w:=by
      unfold Instr.findKey;rw[Sem.run_bind,run_underlying huk,Result.andThen_ok,hfind];rfl
     unfold Instr.mapUpdate;rw[Sem.run_bind,run_underlying hu',Result.andThen_ok];simp only[Sem.run_bind,UG hh,Result.andThen_ok,Sem.run_pure,YD huk,hfk,DL _ hh]
    ·rw[q7o,x0x];refine⟨h3,by simp,fun u hu v hv=>?_⟩;simp only[q8f,x3q,q7m]at hv;obtain⟨z,hz,rfl⟩:=q7s.1 hu;have:=List.findIdx?_eq_none_iff.1 hj z hz;intro he;rw[he,hv]at this;simp at this
    ·rw[x1u]at hy;split at hy
     ·rename_i hm;obtain⟨e',g1,g2,_⟩:=h5 m y hy;have hyk:y.1≠ks:=fun he=>by
       have:=List.findIdx?_eq_none_iff.1 hj y (q8u hy);rw[he]at this;simp at this
      have hms:m<es.size:=by omega
      exact⟨e',by rw[x3x,if_neg (by omega)];exact g1,g2,fun he=>absurd he hyk,fun _=>⟨hy,g1,by rw[q9g (by omega)]⟩⟩
     ·rename_i hm;have hm0:m-l.length=0:=by
       have:=(q7t.1 hy).1;simp at this;omega
      rw[hm0]at hy;simp at hy;subst hy;exact⟨{key:=YW ks,val:=vv,born:=clock},by rw[x3x,if_pos (by omega)],rfl,fun _=>⟨rfl,by rw[q9w (by omega),h2,hm0];rfl,rfl⟩,fun he=>absurd rfl he⟩
  | some j=>
    rw[hj]at hfind;obtain⟨y,hy1,hy2⟩:=Pq (v:=es2) hj;obtain⟨y',hy3,hy4,_⟩:=Dl hj;rw[hy1]at hy3;cases hy3;rw[hy2];obtain⟨e',g1,g2,g3,_⟩:=h5 j y hy1;have g1':es.toList[j]?=some e':=by simpa using g1
    have hjlt:j<es.size:=(q8h.1 g1).1;simp only[g1',x1p,q9j,x0j]at hfind;have hek:e'.key=YW ks:=by rw[g2,hy4];rfl
    refine⟨es.modify j fun e=>{e with key:=YW ks,val:=vv},clock,bi.subs.set j (some (i2.blk,i2.cap)),?_,NM hbo j fun _=>rfl,by simpa using h1,by simp[h2],?_,fun m z hz=>?_⟩
    ·have hfk:(Instr.findKey kt (YW ks) es.toList).run P w=.ok (some (j,e'.val)) w:=by
      unfold Instr.findKey;rw[Sem.run_bind,run_underlying huk,Result.andThen_ok,hfind];rfl
     have hkt:(Instr.keyThatStays (((es[j]?).map (·.key)).getD (YW ks)) (YW ks)).run P w=.ok (YW ks) w:=by
      rw[g1];simp only[x1p,q9j,hek];unfold Instr.keyThatStays;have:Instr.sameBits 10000 (YW ks) (YW ks)=true:=by
       unfold YW;show((⟨ks.toArray⟩:ByteArray)==⟨ks.toArray⟩)=true;rw[Wa];simp
      rw[if_pos this];rfl
     unfold Instr.mapUpdate;rw[Sem.run_bind,run_underlying hu',Result.andThen_ok];simp only[Sem.run_bind,UG hh,Result.andThen_ok,Sem.run_pure,YD huk,hfk,hkt,DL _ hh]
    ·rw[q9k];have:(l.map (·.1)).set j y.1=l.map (·.1):=by
      apply List.ext_getElem?;intro m;by_cases hm:m=j
      ·subst hm;have hml:m<l.length:=(q7t.1 hy1).1;rw[q9p (by simpa using hml),q7l,hy1];rfl
      ·rw[q9a (x1k hm)]
     rw[this];exact h3
    ·by_cases hm:m=j
     ·subst hm;rw[q9p (by omega)]at hz;cases hz;exact⟨{e' with key:=YW ks,val:=vv},by simp[x1f,g1],by rw[hy4],fun _=>⟨rfl,by rw[q9p (by omega)],rfl⟩,fun he=>absurd hy4 he⟩
     ·rw[q9a (x1k hm)]at hz;obtain⟨e'',g4,g5,_⟩:=h5 m z hz;have hzk:z.1≠ks:=fun he=>hm (L7 h3 hz hy1 (by rw[he,hy4]));exact⟨e'',by rw[x1f,if_neg (x1k hm)];exact g4,g5,fun he=>absurd he hzk,fun _=>⟨hz,g4,by rw[q9a (x1k hm)]⟩⟩
 have hrun':(execOp a.eval o).run P w=.ok .skip {w with heap:=w.heap.setIfInBounds bi.blk (.map es' clock')}:=by
  simp only[execOp,hop,hxe,hkv,hve,Sem.run_bind,hrun,Result.andThen_ok];rfl
 let w':World:={w with heap:=w.heap.setIfInBounds bi.blk (.map es' clock')};let i':BInfo:=⟨bi.blk,bi.cap,bi.sz,subs',bi.ok⟩;let β':Lab:=(β.set k2 none).set k (some i');have hset:∀j,j≠k->j≠k2->β' j=β j:=fun j h1 h2=>by simp[β',Lab.set,h1,h2]
 have hsetk:β' k=some i':=by simp[β',Lab.set]
 have hother:∀b,b≠bi.blk->w'.heap[b]?=w.heap[b]?:=fun b hb=>x1v (x1k hb);have hsubx:∀(p b c:Nat),subs'[p]?=some (some (b,c))->(b=i2.blk/\∃x,(BG l ks es2)[p]?=some x/\x.1=ks)\/(bi.subs[p]?=some (some (b,c))/\∃x,(BG l ks es2)[p]?=some x/\x.1≠ks):=fun p b c hp=>by
  have hlt:p<(BG l ks es2).length:=by
   have:=(q7t.1 hp).1;omega
  have hq:=q7g hlt;obtain⟨e',_,_,g3,g4⟩:=hent p _ hq;by_cases he:((BG l ks es2)[p]).1=ks
  ·obtain⟨_,g5,_⟩:=g3 he;rw[hp]at g5;cases g5;exact .inl ⟨rfl,_,hq,he⟩
  ·obtain⟨_,_,g5⟩:=g4 he;rw[hp]at g5;exact .inr ⟨g5.symm,_,hq,he⟩
 have hhas:∀b,i'.has b->bi.has b\/i2.has b:=fun b hb=>by
  rcases hb with hb|⟨c,hb⟩
  ·exact .inl (.inl hb)
  ·obtain⟨p,hp⟩:=x0g.1 hb;rcases hsubx p b c hp with⟨h6,_⟩|⟨h6,_⟩
   ·exact .inr (.inl h6.symm)
   ·exact .inl (.inr ⟨c,q8u h6⟩)
 have hapart:∀b,bi.has b->¬i2.has b:=fun b h6 h7=>hne (hr.heap.inj k hk1 k2 hk2 bi i2 hbi hi2 b h6 h7);have hlab:∀j∈H2.map (·.1),j∈s.H.map (·.1)/\j≠k2:=fun j hj=>by
  refine⟨hsub.subset hj,fun he=>?_⟩;obtain⟨⟨j',c⟩,hm,rfl⟩:=q7s.1 hj;exact(hmem j' c hm).1 he
 have hwas:∀j,j≠k2->∀ij,β' j=some ij->∀b,ij.has b->(∃i0,β j=some i0/\i0.has b)\/(j=k/\i2.has b):=fun j hj ij hij b hb=>by
  by_cases hjk:j=k
  ·subst hjk;rw[hsetk]at hij;cases hij;rcases hhas b hb with h1|h1
   ·exact .inl ⟨bi,hbi,h1⟩
   ·exact .inr ⟨rfl,h1⟩
  ·rw[hset j hjk hj]at hij;exact .inl ⟨ij,hij,hb⟩
 have hlv:∀l v,RepL σ β l v->RepL σ β' ((l.kill k2).xkill k) v:=fun l v hl=>by
  have h1:=((hl.kill k2).set none (LV.kill_free k2 l)).xkill k;exact h1.subs (i:=bi) (by simp[Lab.set,hne,hbi]) ⟨rfl,rfl,rfl⟩ (ZM k _)
 have hheap:HRel σ β' H2 w':=by
  refine⟨fun b c hb=>?_,fun j c hj=>?_,hsub.nodup hr.heap.nodup,fun j hj ij hij b hb=>?_,fun j hj j' hj' i1 i2' h1 h2 b hb1 hb2=>?_⟩
  ·obtain⟨e',fr,h6⟩:=hr.heap.mem b c hb;exact⟨e',fr,(hother b fun he=>by rw[he,(hr.heap.apart k hk1 bi hbi bi.blk bi.has_blk).1]at hb;cases hb).trans h6⟩
  ·obtain⟨hj2,⟨rfl,rfl⟩|⟨hjk,c0,hm0,rfl⟩⟩:=hmem j c hj
   ·refine⟨i',es',clock',hsetk,by show(w.heap.setIfInBounds bi.blk _)[bi.blk]?=_;simp[hlt],hbo',hsz,hsl',hnd',fun p b c hp=>?_,fun p x hp=>?_⟩
    ·rcases hsubx p b c hp with⟨h6,x,h7,h8⟩|⟨h6,x,h7,h8⟩
     ·refine⟨fun he=>hapart bi.blk bi.has_blk (.inl (by rw[<-h6];exact he.symm)),fun p' c' hp'=>?_⟩;rcases hsubx p' b c' hp' with⟨_,x',h9,h10⟩|⟨h9,_⟩
      ·exact L7 hnd' h9 h7 (by rw[h10,h8])
      ·exact absurd (.inl h6.symm) (hapart b (.inr ⟨c',q8u h9⟩))
     ·refine⟨(h4 p b c h6).1,fun p' c' hp'=>?_⟩;rcases hsubx p' b c' hp' with⟨h9,_⟩|⟨h9,_⟩
      ·exact absurd (.inl h9.symm) (hapart b (.inr ⟨c,q8u h6⟩))
      ·exact(h4 p b c h6).2 p' c' h9
    ·obtain⟨e',g1,g2,g3,g4⟩:=hent p x hp;refine⟨e',g1,g2,fun hh=>(by cases hh),fun _=>?_⟩;by_cases he:x.1=ks
     ·obtain⟨g5,g6,g7⟩:=g3 he;refine⟨i2.blk,i2.cap,ws,g6,by rw[g5,hvv,g7],(hother _ fun hh=>hapart bi.blk bi.has_blk (.inl hh)).trans r1,r2,by rw[g7];exact r3,r4,by rw[g7];exact r5⟩
     ·obtain⟨g5,g6,g7⟩:=g4 he;obtain⟨e'',q1,_,_,q4⟩:=h5 p x g5;rw[g6]at q1;cases q1;obtain⟨b,c,ws',q5,q6,q7,q8⟩:=q4 fun hh=>he (x0m hh).symm;exact⟨b,c,ws',by rw[g7];exact q5,q6,(hother b fun hh=>(h4 p b c q5).1 hh.symm).trans q7,q8⟩
   ·have hjl:j∈s.H.map (·.1):=q7s.2 ⟨_,hm0,rfl⟩;refine(hr.heap.chunks j c0 hm0).mapL (Mem.le_refl σ) hlv (hset j hjk hj2) fun ij hij b hb=>hother b fun he=>hjk ?_;exact hr.heap.inj j hjl k hk1 ij bi hij hbi b hb (.inl he.symm)
  ·obtain⟨h1,h2⟩:=hlab j hj;have hsz':w'.heap.size=w.heap.size:=by simp[w']
   rw[hsz'];rcases hwas j h2 ij hij b hb with⟨i0,h3,h4⟩|⟨_,h4⟩
   ·exact hr.heap.apart j h1 i0 h3 b h4
   ·exact hr.heap.apart k2 hk2 i2 hi2 b h4
  ·obtain⟨h3,h4⟩:=hlab j hj;obtain⟨h5,h6⟩:=hlab j' hj';rcases hwas j h4 i1 h1 b hb1 with⟨i3,h7,h8⟩|⟨e1,h8⟩<;>rcases hwas j' h6 i2' h2 b hb2 with⟨i4,h9,h10⟩|⟨e2,h10⟩
   ·exact hr.heap.inj j h3 j' h5 i3 i4 h7 h9 b h8 h10
   ·exact absurd (hr.heap.inj j h3 k2 hk2 i3 i2 h7 hi2 b h8 h10) h4
   ·exact absurd (hr.heap.inj j' h5 k2 hk2 i4 i2 h9 hi2 b h10 h8) h6
   ·rw[e1,e2]
 refine W7 hrun' ⟨σ,β',⟨sl,H2⟩,hK,⟨?_,?_,?_,hheap⟩,Mem.le_refl σ,⟨rfl,rfl,rfl,q8z _,by simp,fun b _ hn=>hother b fun he=>hn ⟨k,hk1,bi,hbi,.inl he.symm⟩⟩,fun b h0 h1=>absurd h0 h1,fun b ⟨j,hj,ij,hij,hb⟩=>?_,fun j h0 h1=>hset j (P9 hpin.1 j h0 h1) (P9 hpin.2 j h0 h1)⟩
 ·rw[hdst];exact hr.size
 ·rw[hdst];exact hr.defers
 ·rw[hdst];exact fun j=>by show RepL σ β' (getS sl j) _;rw[hsl];exact hlv _ _ (hr.slots j)
 ·obtain⟨h1,h2⟩:=hlab j hj;rcases hwas j h2 ij hij b hb with⟨i0,h3,h4⟩|⟨_,h4⟩
  ·exact .inl ⟨j,h1,i0,h3,h4⟩
  ·exact .inl ⟨k2,hk2,i2,hi2,h4⟩
end
end Go.Ab
