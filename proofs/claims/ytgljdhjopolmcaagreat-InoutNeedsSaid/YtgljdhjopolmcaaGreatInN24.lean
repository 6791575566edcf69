/- LAW: as long as a call lasts, and when it ends, a cell is kept that goes out of nobody. -/
import Derived.Test.YtgljdhjopolmcaaGreatInN23
set_option linter.all false
set_option maxRecDepth 100000
set_option maxHeartbeats 16000000
open List (length)
namespace Go.Ab
open Go.Proofs
variable {b fuel y:Int}{it:Item}{watch:List Int}
structure KpM(p:Pg)(c:Nat)(w:Int)(base:Fm)(id0:Int)(M:Mc):Prop where
 st:∃up,M.stack=base::up/\(∃f1,up.head?=some f1/\f1.call=id0)/\∀fr∈up,KpF p c fr
 mem:M.mem[c]?=some w
def KpR(p:Pg)(c:Nat)(w:Int)(base:Fm)(h:Int):Cf->Prop
 |.next a M=>KpM p c w base h M\/(M.stack=[base]/\((∀it,(sheetOf p).l[(h-1).toNat]?=some it->it.s.name≠[]->varM base it.s.name≠c)->M.mem[c]?=some w)/\∃it,(sheetOf p).l[(h-1).toNat]?=some it/\a=it.next)
 |.back _ M=>KpM p c w base h M
 |.fin M=>M.fin≠1
theorem KpM.same{p:Pg}{c:Nat}{w:Int}{base:Fm}{i:Int}{M M':Mc}(h:KpM p c w base i M)(l:M'.stack=M.stack)(j:M'.mem[c]?=M.mem[c]?):KpM p c w base i M':=
 ⟨by rw[l];exact h.st,by rw[j];exact h.mem⟩
theorem KpM.top{p:Pg}{c:Nat}{w:Int}{base:Fm}{i:Int}{M:Mc}(h:KpM p c w base i M):KpF p c (XY M):=by
 obtain⟨up,j,⟨f1,l,_⟩,m⟩:=h.st;refine m _ ?_;cases up with
 |nil=>simp at l
 | cons a r=>
   unfold XY;rw[j,List.getLast?_cons_cons,List.getLast?_eq_some_getLast (List.cons_ne_nil _ _)];exact List.getLast_mem _
def Eo{p:Pg}{tape:List Int}{M:Mc}{f:Fm}{g:Pr}:(doM p tape watch M f g it).2.mem=M.mem\/((it.s.kind=1\/it.s.kind=2)/\∃n,(doM p tape watch M f g it).2.mem=M.mem.set (varM f it.s.name) n):=by
 have h:∀v,(QJ watch M it.s.id v).mem=M.mem:=fun v=>LF;unfold doM;split
 .exact .inl (h [])
 split
 .exact .inl (h [])
 split
 .exact .inl (h [])
 split
 .rename_i j;split
  .exact .inl rfl
  .exact .inr ⟨.inr j,_,LF⟩
 cases(QD M f it.s.x).2 with
 |false=>exact .inl rfl
 | true=>
   rw[x9z];split
   .rename_i i;refine .inr ⟨.inl i,(QD M f it.s.x).1,?_⟩;show(QJ watch M it.s.id [(QD M f it.s.x).1]).mem.set _ _=_;rw[h]
   split
   .exact .inl (h _)
   split
   .exact .inl (h _)
   split
   .exact .inl (h _)
   .exact .inl (h _)
def Ei{p:Pg}{tape:List Int}{M:Mc}{f:Fm}{g:Pr}(h:M.fin=0):(doM p tape watch M f g it).2.fin≠1:=by
 have key:∀v,(QJ watch M it.s.id v).fin≠1:=fun v=>by
  rw[(XD watch M it.s.id v).2.2.1,h];decide
 unfold doM;split
 .exact key []
 split
 .exact key []
 split
 .exact key []
 split
 .split
  .show (3:Int)≠1;decide
  .show (QJ watch (setM _ _ _) _ _).fin≠1;rw[(XD watch _ it.s.id _).2.2.1];show M.fin≠1;omega
 cases(QD M f it.s.x).2 with
 |false=>show(4:Int)≠1;decide
 | true=>
   rw[x9z];split
   .exact key _
   split
   .exact key _
   split
   .exact key _
   split
   .exact key _
   .exact key _
def Cx{M:Mc}{f:Fm}{t:S}(h:M.fin=0):(J5 watch M f t).2.fin≠1/\(J5 watch M f t).2.mem=M.mem:=by
 have key:∀v,(QJ watch M t.id v).fin≠1:=fun v=>by
  rw[(XD watch M t.id v).2.2.1,h];decide
 unfold J5;cases t.has with
 |false=>exact⟨key [],LF⟩
 | true=>
   rw[x9z];cases(QD M f t.x).2 with
   |false=>exact⟨by show(4:Int)≠1;decide,rfl⟩
   |true=>exact⟨key _,LF⟩
section
variable {p:Pg}(hc:QP p=true)
include hc
theorem Iy{M:Mc}(I:Good p M b)(h:InvM p M (-1)){c:Nat}{w:Int}{base:Fm}{j:Int}(z:KpM p c w base j M)(i:Int):KpR p c w base j (ZO p i M):=by
 obtain⟨up,d,⟨f1,e,P⟩,Q⟩:=z.st;have hcm:c<M.mem.length:=(x8t.1 z.mem).1;have B:=I.ch;obtain⟨st,U⟩:=I.top;generalize R:XY M=F at*
 unfold ZO;rw[R];generalize A:M.stack=L at B;cases B with
 | one h0=>
   rw[A]at d;obtain⟨_,m⟩:=z1f d;rw[<-m]at e;cases e
 | push hl h1 hle n hk hp T N=>
   rename_i l g f q it;have H:F=f:=by
    have:=ZG (M:=M) (st:=l++[g]) (f:=f) (by rw[A]);rw[<-R];exact this
   subst H;rw[if_neg (by omega),n];have hd:M.stack.dropLast=l++[g]:=by rw[A,z3b]
   rw[A]at d;have C:=I.fr g (by rw[A];simp);have E:st=l++[g]:=by rw[<-hd,U,z3b]
   rw[z3b];cases l with
   | nil=>
     obtain⟨m,o⟩:=z1f d;have m:g=base:=m;subst m;have o:up=[F]:=o.symm;subst o;have h7:F=f1:=by simpa using e
     subst h7;rw[P]at n;show KpR p c w g j (.next it.next _);refine .inr ⟨?_,fun hz=>?_,it,n,rfl⟩
     ·split<;>rfl
     ·split
      ·exact z.mem
      ·rename_i G;show(M.mem.set _ i)[c]?=some w;have u:XY (popM M ([]++[g]))=g:=ZG (st:=[]) rfl;rw[u,z0c (hz it n G)];exact z.mem
   | cons x l=>
     obtain⟨m,o⟩:=z1f d;have m:x=base:=m;subst m;have o:up=l++[g]++[F]:=o.symm;subst o;have J:KpF p c g:=Q g (by simp);have t:(l++[g]).head?=some f1:=by
      cases l with
      |nil=>simpa using e
      |cons a r=>simpa using e
     have key:∀M':Mc,M'.stack=x::l++[g]->M'.mem[c]?=some w->KpM p c w x j M':=fun M' u1 u2=>⟨⟨l++[g],by rw[u1];rfl,⟨f1,t,P⟩,fun Z K=>Q Z (x9e _ K)⟩,u2⟩;show KpR p c w x j (.next it.next _);refine .inl ?_;split
     ·exact key _ rfl z.mem
     ·rename_i G;refine key _ rfl ?_;show(M.mem.set _ i)[c]?=some w;have u:XY (popM M (x::l++[g]))=g:=ZG (st:=x::l) rfl;obtain⟨q2,Y,w2⟩:=h.pos g.D F.call (by rw[U,E];exact .low .top);rw[hp]at Y;cases Y;obtain⟨g',V,v2⟩:=C.pr;rw[hp]at V;cases V;have O:varM g it.s.name≠c:=x0o hc J C.len hp (YP T) (by rw[N];exact w2) (by rw[v2];exact MZ hc hp (YP T) (SN (by omega) G)) (by
       unfold FM;rw[if_neg (by omega),if_neg (by omega),if_neg (by omega),if_pos hk];unfold Mj;rw[if_neg G];exact x9e _ (x9e _ (x9q.2 rfl)))
      rw[u,z0c O];exact z.mem
theorem x0i(tape watch:List Int){a:Int}{M:Mc}(hG:MF p fuel (.next a M))(Y:OL p (.next a M)){c:Nat}{w:Int}{base:Fm}{G:Int}(R:KpM p c w base G M):KpR p c w base G (goC p tape watch fuel (.next a M)):=by
 obtain⟨i,h0,h1,Z⟩:=hG;have Y:InvM p M a:=Y;have C:c<M.mem.length:=(x8t.1 R.mem).1;simp only[goC];by_cases ha:a = -1
 ·rw[if_pos ha];exact R
 rw[if_neg ha];by_cases hf:M.steps=fuel
 ·rw[if_pos hf];show(2:Int)≠1;decide
 rw[if_neg hf];rcases Z with h2|⟨g,it,hg,_,hit,hi,hid⟩
 ·exact absurd h2 ha
 rw[hit];simp only;have l:Good p (QL M) M.steps:=i.same rfl (x9h _) i.fin i.r0 i.rd i.tr i.ou;have q:KpM p c w base G (QL M):=R.same rfl rfl;have j:p.A[(XY (QL M)).D]?=some g:=hg;have J:it∈itsOf p (XY (QL M)).D g:=hi;obtain⟨st,hst⟩:=l.top;obtain⟨g',h3,z⟩:=Y.pos (XY M).D a (by obtain⟨st,hs⟩:=i.top;rw[hs];exact .top);rw[hg]at h3;cases h3;rw[<-hid]at z;have K:Rch (eR p (XY (QL M)).D g) 0 it.s.id:=z;have d:=l.fr (XY (QL M)) (by
  have e:=hst;generalize XY (QL M)=F at e;rw[e];simp)
 obtain⟨g',v1,v2⟩:=d.pr;rw[j]at v1;cases v1;have hT:=q.top;have O:=YP J;have m:(QL M).fin=0:=i.fin;unfold stI;by_cases z:it.s.kind=4
 ·rw [if_pos z];obtain⟨a1,U,a3,a4,a5,a6,a7,a8⟩:=PH (f:=XY (QL M)) it.s.args [] (QL M) (fun a ha hr=>(U9 hc l j O (RE ha hr)).2) (fun v hv=>by cases hv);have I:=fun h=>KM (f:=XY (QL M)) it.s.args [] (QL M) h;have N:=fun h m0 hm0=>q7v hc hT d.len j v2 O z K (M:=QL M) C h (m0:=m0) hm0 (call:=it.s.id);unfold YJ;generalize argsM (XY (QL M)) it.s.args [] (QL M)=ar at*
  obtain⟨ps,x,ok⟩:=ar;simp only at a1 U a3 a4 a5 a6 a7 a8 I N⊢;unfold Xj;cases ok with
  | false=>
    have h8:x.fin=4:=a8 rfl;rw[x9k,if_neg (by show ¬x.fin=0;omega)];show x.fin≠1;omega
  | true=>
    rw[x9z];split
    ·show(5:Int)≠1;decide
    ·have Q:=XD watch x it.s.id [];split
     ·refine .inl ⟨?_,?_⟩
      ·obtain⟨up,u1,⟨f1,H,P⟩,u⟩:=q.st;have L:up≠[]:=fun e=>by rw[e]at H;cases H
       refine⟨up++[⟨KJ p it.s,varsS p (prA p (KJ p it.s)),List.range p.B.length++ps++List.range' (QJ watch x it.s.id []).mem.length (prA p (KJ p it.s)).E.length,it.s.id⟩],?_,⟨f1,by rw[List.head?_append,H];rfl,P⟩,fun fr o=>?_⟩
       ·show(QJ watch x it.s.id []).stack++_=_;rw[Q.1,a1,u1];rfl
       ·rcases x8e.1 o with o|o
        ·exact u fr o
        ·rw[x9q.1 o];exact N rfl _ (by rw[Q.2.1];exact U)
      ·show((QJ watch x it.s.id []).mem++_)[c]?=some w;rw[Q.2.1,x9d (by exact z2j C U),(I rfl).2.2.2 c C];exact R.mem
     ·rename_i T;show(QJ watch x it.s.id []).fin≠1;rw[Q.2.2.1,(a7 rfl).1];show M.fin≠1;have:=i.fin;omega
 rw[if_neg z];by_cases V:it.s.kind=9
 ·rw[if_pos V];obtain⟨u1,H⟩:=Cz watch l it.s rfl;obtain⟨P,u⟩:=Cx (watch:=watch) (M:=QL M) (f:=XY (QL M)) (t:=it.s) m;generalize J5 watch (QL M) (XY (QL M)) it.s=r at*
  unfold PF;split
  ·rename_i T;exact q.same (H T).2 (by rw[u])
  ·exact P
 rw[if_neg V,WQ j];obtain⟨u1,H⟩:=q0p hc tape watch l j J z V rfl;have P:=Ei (p:=p) (tape:=tape) (watch:=watch) (f:=XY (QL M)) (g:=g) (it:=it) m;have u:=Eo (p:=p) (tape:=tape) (watch:=watch) (M:=QL M) (f:=XY (QL M)) (g:=g) (it:=it);have L:(it.s.kind=1\/it.s.kind=2)->varM (XY (QL M)) it.s.name≠c:=fun hk=>by
  have hn:it.s.name∈varsS p g:=by
   have hO:=Bu hc j O;have hn:=HC (hO.name (by omega));exact MZ hc j O (SN (by omega) (by simpa using hn))
  refine x0o hc hT d.len j O K (by rw[v2];exact hn) ?_;unfold FM;rcases hk with hk|hk
  ·rw[if_pos hk];exact x9q.2 rfl
  ·rw[if_neg (by omega),if_pos hk];exact x8l
 generalize doM p tape watch (QL M) (XY (QL M)) g it=r at*
 unfold Xj;split
 ·rename_i T;refine .inl (q.same (H T).2.2 ?_);rcases u with u|⟨hk,n,u⟩
  ·rw[u]
  ·rw[u,z0c (L hk)]
 ·exact P
end
theorem SX:∀(l:List S)(pr up nx lp:Int)(n:Nat),(∀s∈l,s.I=[]/\s.L=[])->∀(i:Nat)(h:i<l.length),(itL pr up nx lp n l)[i]?=some ⟨l[i],pr,up,if i+1=l.length then nx else(n:Int)+i+2,lp⟩
 |[],_,_,_,_,_,_,i,h=>absurd h (z4f _)
 | t::r,pr,up,nx,lp,n,hf,i,h=>by
   obtain⟨j,m⟩:=hf t x8l;have o:itS pr up (if r.isEmpty then nx else(n:Int)+1+XL t) lp n t=[⟨t,pr,up,if r.isEmpty then nx else(n:Int)+1+XL t,lp⟩]:=by
    rw[x0a,j,m,itL,itL];rfl
   have q:XL t=1:=by
    cases t;simp only[S.I,S.L]at j m;rw[XL,j,m,cntL]
   rw[itL,o,q];cases i with
   | zero=>
     cases r with
     |nil=>rfl
     |cons a r=>simp;omega
   | succ i=>
     have x:=SX r pr up nx lp (n+1) (fun s u=>hf s (x8r _ u)) i (by simpa using h);rw[List.singleton_append,z2n,x];simp only[x9f,Nat.add_right_cancel_iff,List.getElem_cons_succ];congr 2;split
     .rfl
     .omega
section
variable {p:Pg}{f:Pr}
def EX:∀s∈GZ p f,s.I=[]/\s.L=[]:=fun s h=>by
 unfold GZ at h;rcases x8e.1 h with h|h
 .obtain ⟨n,_,rfl⟩:=x8c.1 h;exact⟨rfl,rfl⟩
 .rcases x8s.1 h with rfl|h
  .exact ⟨rfl,rfl⟩
  .obtain ⟨n,_,rfl⟩:=x8c.1 h;exact⟨rfl,rfl⟩
def manyD(p:Pg)(f:Pr):Nat:=p.B.length+f.C.length
def JM(f:Pr):(zvL f).length=f.C.length:=by unfold zvL;simp
def DX:(GZ p f).length=2*manyD p f+2:=by
 unfold GZ manyD;simp only[x8m,x8b,x9f,JM];omega
def EZ{i:Nat}(h:i<manyD p f):(GZ p f)[i]?=some (rdT ((p.B++zvL f).getD i [])):=by
 have j:i<(p.B++zvL f).length:=by rw[x8m,JM];exact h
 unfold GZ;rw[x9d (by rw[x8b];exact j),x9x,x8n,x8p j];rfl
def Zv:(GZ p f)[manyD p f]?=some (CA f):=by
 have h:((p.B++zvL f).map rdT).length=manyD p f:=by rw[x8b,x8m,JM];rfl
 unfold GZ;rw[x9n (by omega),h,z3n];rfl
def Mm{t:Nat}(h:t<manyD p f+1):(GZ p f)[manyD p f+1+t]?=some (prT ((zrS::(zvL f++p.B)).getD t [])):=by
 have j:((p.B++zvL f).map rdT).length=manyD p f:=by rw[x8b,x8m,JM];rfl
 have i:t<(zrS::(zvL f++p.B)).length:=by
  simp only[x9f,x8m,JM];unfold manyD at h;omega
 unfold GZ;rw[x9n (by omega),j,show manyD p f+1+t-manyD p f=t+1 by omega,z2n,x9x,x8n,x8p i];rfl
def CO(p:Pg)(f:Pr)(m:Nat):Pr:=⟨mainS,[],zrS::zvL f,nmL m (GZ p f),[]⟩
def KZ(hp:QP p=true):∃m,(drvP p f).A[mainN p]?=some (CO p f m):=by
 obtain⟨_,i,_⟩:=D1 hp;obtain⟨n,h⟩:=Ur (f:=f) i;have j:VG p f (prA p (mainN p))=OR p f:=if_pos (by rw[Lb hp];exact z0d _);rw[j]at h;exact⟨n,h⟩
def EV:mainN (drvP p f)=mainN p:=by
 unfold mainN;rw[Bb]
def GD(hp:QP p=true)(hq:QP (drvP p f)=true){m:Nat}(g:(drvP p f).A[mainN p]?=some (CO p f m)){i:Nat}{s:S}(a:(GZ p f)[i]?=some s):∃it,(sheetOf (drvP p f)).l[offN (drvP p f).A (mainN p)+i]?=some it/\it∈itsOf (drvP p f) (mainN p) (CO p f m)/\it.s.kind=s.kind/\it.s.name=s.name/\it.s.x=s.x/\it.s.D=s.D/\it.s.args=s.args/\
  it.s.id=offN (drvP p f).A (mainN p)+i+1/\it.next=if i+1=(GZ p f).length then -1 else(offN (drvP p f).A (mainN p)+i+2:Int):=by
 obtain⟨C,d⟩:=x8t.1 a;have e:=Pw (GZ p f) m i C;have F:=Vl m (GZ p f);have u:∀s∈nmL m (GZ p f),s.I=[]/\s.L=[]:=fun s a=>by
  obtain⟨j,E,rfl⟩:=z0v.1 a;have r:=Pw (GZ p f) m j (by omega);rw[x8p E]at r;rw[z0y r,Gx];obtain⟨n,B⟩:=EX (p:=p) (f:=f) _ (x9w (show j<(GZ p f).length by omega));simp only[S.I,S.L];refine⟨?_,?_⟩
  .show nmL _ (S.I _)=[];rw[n,nmL]
  .show nmL _ (S.L _)=[];rw[B,nmL]
 have o:=SX (nmL m (GZ p f)) (mainN p:Nat) 0 (-1) 0 (offN (drvP p f).A (mainN p)) u i (by omega);have o:(itsOf (drvP p f) (mainN p) (CO p f m))[i]?=_:=o;have r:=q1r hq g (x9y o);have q:=P7 (QU hq).1 g;have n:=z0l (fun l:List Int=>l[i]?) q;simp only[x9x,o,z1e]at n;have t:i<cntL (CO p f m).body:=by
  show i<cntL (nmL m (GZ p f));have:=Z9 (nmL m (GZ p f));omega
 unfold JB at n;rw[x9x,z2e t]at n;have n:=z0y n;have z:((nmL m (GZ p f))[i]'(by omega)).id=(offN (drvP p f).A (mainN p):Int)+i+1:=by
  have n:((nmL m (GZ p f))[i]'(by omega)).id=((offN (drvP p f).A (mainN p)+1+1*i:Nat):Int):=n;rw[n];omega
 have h:(nmL m (GZ p f))[i]'(by omega)=nmS (m+cntL ((GZ p f).take i)) s:=by
  rw[x8p (by omega)]at e;rw[z0y e,d]
 refine⟨_,?_,x9y o,?_,?_,?_,?_,?_,z,?_⟩
 .rw [<-r];congr 1;simp only;omega
 .simp only;rw[h,Gx];rfl
 .simp only;rw[h,Gx];rfl
 .simp only;rw[h,Gx];rfl
 .simp only;rw[h,Gx];rfl
 .simp only;rw[h,Gx];rfl
 .simp only;rw[F]
def baseD(p:Pg)(f:Pr):Fm:=⟨mainN p,p.B++(zrS::zvL f),List.range p.B.length++[]++List.range' p.B.length (zrS::zvL f).length,0⟩
def Ym(i:Nat)(h:i<manyD p f+1):(baseD p f).E[i]?=some i:=by
 show(List.range p.B.length++[]++List.range' p.B.length (zrS::zvL f).length)[i]?=some i;rw[z0k];rcases x8o i p.B.length with j|j
 .rw [x9d (by simpa using j),z1h j]
 .rw [x9n (by simpa using j),z2q,z2e (by rw[x9f,JM];unfold manyD at h;omega)];congr 1;omega
def PB(hq:QP (drvP p f)=true){m:Nat}(h:(drvP p f).A[mainN p]?=some (CO p f m)):(baseD p f).names.Nodup:=
 (((Gn (QU hq).1).1 (QU hq).2.1).2 _ (x9y h)).nd
def PD(hnd:(baseD p f).names.Nodup){i:Nat}{n:Str}(h:(baseD p f).names[i]?=some n):idxF (fun y=>n==y) (baseD p f).names=(i:Nat)/\varM (baseD p f) n=i:=by
 obtain⟨s,r⟩:=x8t.1 h;have t:(baseD p f).names.length=manyD p f+1:=by
  show(p.B++(zrS::zvL f)).length=_;rw[x8m,x9f,JM];rfl
 have j:(baseD p f).names.any (fun y=>n==y)=true:=z0g.2 ⟨n,x9y h,by simp⟩;have m:(baseD p f).names.findIdx (fun y=>n==y)=i:=by
  have o:=z3g (p:=fun y=>n==y) (xs:=(baseD p f).names) (by simpa using j);have l:=z4x (w:=o);have l:n=(baseD p f).names[(baseD p f).names.findIdx (fun y=>n==y)]:=by simpa using l
  exact(z4a hnd).1 (l.symm.trans r.symm)
 have q:idxF (fun y=>n==y) (baseD p f).names=(i:Nat):=by
  unfold idxF;rw[j,x9z,m]
 refine⟨q,?_⟩;unfold varM;rw[q,z1r,x8n,Ym i (by omega)];rfl
def rdC(p:Pg)(i:Nat):Nat:=if i<p.B.length then i else i+1
def tlC(p:Pg)(f:Pr)(t:Nat):Nat:=if t<f.C.length then p.B.length+1+t else t-f.C.length
def II{i:Nat}(h:i<manyD p f):(baseD p f).names[rdC p i]?=some ((p.B++zvL f).getD i []):=by
 show(p.B++(zrS::zvL f))[rdC p i]?=_;have l:i<(p.B++zvL f).length:=by rw[x8m,JM];exact h
 rw[x8n,x8p l];unfold rdC;split
 .rename_i j;rw[x9d j,List.getElem_append_left j,x8p j];rfl
 .rename_i j;rw[x9n (by omega),show i+1-p.B.length=i-p.B.length+1 by omega,z2n,List.getElem_append_right (by omega),x8p (by rw[JM];unfold manyD at h;omega)];rfl
def TO:(baseD p f).names[p.B.length]?=some zrS:=by
 show(p.B++(zrS::zvL f))[p.B.length]?=_;rw[x9n (x9h _),z3n];rfl
def Nu{j:Nat}(h:j<f.C.length):(baseD p f).names[p.B.length+1+j]?=some (zvS j):=by
 show(p.B++(zrS::zvL f))[p.B.length+1+j]?=_;rw[x9n (by omega),show p.B.length+1+j-p.B.length=j+1 by omega,z2n];unfold zvL;rw[x9x,z1h h];rfl
def Ol{t:Nat}(h:t<manyD p f):(baseD p f).names[tlC p f t]?=some ((zvL f++p.B).getD t []):=by
 unfold tlC;have l:=JM f;split
 .rename_i i;rw[Nu i,x8n,x9d (by omega)];unfold zvL;rw[x9x,z1h i];rfl
 .rename_i i;have j:t-f.C.length<p.B.length:=by unfold manyD at h;omega
  show(p.B++(zrS::zvL f))[t-f.C.length]?=_;rw[x9d j,x8n,x9n (by omega),l,x8p j];rfl
def RO{j:Nat}{x:Param}(h:f.C[j]?=some x):(UH f.C)[j]?=some (CL x j):=by
 obtain⟨i,_⟩:=x8t.1 h;unfold UH;rw[x9x,z1h i];simp only[z1e,x8n,h,z1k]
def Z7:(UH f.C).length=f.C.length:=by unfold UH;simp
end
section
variable (p:Pg)(f:Pr)(c:Nat)(w:Int)(tape:List Int)
def offD:Nat:=offN (drvP p f).A (mainN p)
structure PhA(i:Nat)(a:Int)(M:Mc):Prop where
 st:M.stack=[baseD p f]
 at_:a=offD p f+i+1
 le:i<=manyD p f
 rd:M.reads=i
 tp:i<=tape.length
 ml:M.mem.length=manyD p f+1
 mem:∀i',i'<i->M.mem[rdC p i']?=some (tape.getD i' 0)
 zr:M.mem[p.B.length]?=some 0
def PhB(M:Mc):Prop:=manyD p f<=tape.length/\KpM (drvP p f) c w (baseD p f) (offD p f+manyD p f+1) M
structure PhC(i:Nat)(a:Int)(M:Mc):Prop where
 tp:manyD p f<=tape.length
 st:M.stack=[baseD p f]
 lo:manyD p f+1<=i
 hi:i<=2*manyD p f+2
 at_:a=if i=2*manyD p f+2 then -1 else(offD p f+i+1:Int)
 mem:c≠p.B.length->M.mem[c]?=some w
 out:manyD p f+2<=i->∃L0,1<=L0/\M.out.length=L0+(i-(manyD p f+2))/\∀t,t<i-(manyD p f+2)->tlC p f t=c->c≠p.B.length->M.out[L0+t]?=some w
def PhF(M:Mc):Prop:=M.fin=1->manyD p f<=tape.length/\manyD p f+1<=M.out.length/\∀t,t<manyD p f->tlC p f t=c->c≠p.B.length->M.out[M.out.length-manyD p f+t]?=some w
def PhK:Cf->Prop
 |.next a M=>(∃i,PhA p f tape i a M)\/PhB p f c w tape M\/∃i,PhC p f c w tape i a M
 |.back _ M=>PhB p f c w tape M\/PhC p f c w tape (2*manyD p f+2) (-1) M
 |.fin M=>PhF p f c w tape M
end
def q8x{p:Pg}{i j:Nat}(h:rdC p i=rdC p j):i=j:=by
 unfold rdC at h;split at h<;>split at h<;>omega
def IE{p:Pg}{i:Nat}:rdC p i≠p.B.length:=by
 unfold rdC;split<;>omega
def x1n{p:Pg}{f:Pr}{c:Nat}(h:c<manyD p f+1)(l:c≠p.B.length):∃i,i<manyD p f/\rdC p i=c:=by
 unfold manyD at*
 unfold rdC;rcases x8o c p.B.length with j|j
 .exact ⟨c,by omega,if_pos j⟩
 .exact ⟨c-1,by omega,by rw[if_neg (by omega)];omega⟩
def Cc{M:Mc}{f:Fm}{n:Str}(h:(QD M f (nmX n)).2=true):(QD M f (nmX n)).1=q0s M f n:=by
 unfold QD evX at h⊢;cases i:J0 (nmX n)with
 |false=>rw[i]at h;cases h
 |true=>rfl
section
variable {p:Pg}{f:Pr}(hp:QP p=true)(hq:QP (drvP p f)=true){k:Nat}(hk:p.A[k]? = some f)(hfm:f.name≠mainS){c:Nat}{w:Int}{tape:List Int}(hc:c<manyD p f+1)(hw:(c=p.B.length->w=0) /\ ∀ i,i<manyD p f->rdC p i=c->tape.getD i 0=w)(hG : ∀ n,p.B[c]? = some n->n∉(bookOf p).M.getD k [])(hP : ∀ (j:Nat) (x:Param),f.C[j]? = some x->c=p.B.length+1+j->x.ref=true->x.name∉(bookOf p).M.getD k [])
include hp
theorem C2:PhA p f tape 0 (Qn (drvP p f) (mainN (drvP p f)) (prA (drvP p f) (mainN (drvP p f)))) (KV (drvP p f) (mainN (drvP p f)) (prA (drvP p f) (mainN (drvP p f))) [] 0 (M00 (drvP p f))):=by
 obtain⟨m,l⟩:=KZ (f:=f) hp;rw[EV,WQ l];have n:=JM f;refine⟨?_,?_,x8i _,rfl,x8i _,?_,fun i h=>absurd h (z4f _),?_⟩
 ·show []++[(⟨mainN p,p.B++(zrS::zvL f),List.range p.B.length++[]++List.range' (List.replicate p.B.length (0:Int)).length (zrS::zvL f).length,0⟩:Fm)]=[baseD p f];rw[z0b];rfl
 ·unfold Qn;have j:=Z9 (nmL m (GZ p f));rw[Vl,DX]at j;rw[if_pos (by show _<_+cntL (nmL m (GZ p f));omega)];unfold offD;omega
 ·show(List.replicate p.B.length (0:Int)++List.replicate (zrS::zvL f).length 0).length=_;rw[x8m,z0b,z0b,x9f,n];unfold manyD;omega
 ·show(List.replicate p.B.length (0:Int)++List.replicate (zrS::zvL f).length 0)[p.B.length]?=some 0;rw[x9n (by simp),z0b,z3n];rfl
include hq
theorem q7i(watch:List Int){i:Nat}{a:Int}{M:Mc}(u:Good (drvP p f) M M.steps)(j:PhA p f tape i a M)(x:i<manyD p f):PhK p f c w tape (goC (drvP p f) tape watch fuel (.next a M)):=by
 obtain⟨m,C⟩:=KZ (f:=f) hp;have hnd:=PB hq C;obtain⟨it,G,P,q,H,Q,R,T,U,I⟩:=GD hp hq C (EZ (p:=p) (f:=f) x);have r:=j.at_;simp only[goC];rw[if_neg (by omega)];by_cases B:M.steps=fuel
 ·rw[if_pos B];intro h;have h:(2:Int)=1:=h;omega
 rw[if_neg B,show(a-1).toNat=offN (drvP p f).A (mainN p)+i by rw[r];unfold offD;omega,G];simp only;have q:it.s.kind=2:=q;unfold stI;rw[if_neg (by omega),if_neg (by omega)];have n:XY (QL M)=baseD p f:=ZG (M:=QL M) (st:=[]) j.st;rw[n];unfold doM;rw[if_neg (by omega),if_neg (by omega),if_neg (by omega),if_pos q];have z:(QL M).reads=i:=j.rd;have g:varM (baseD p f) it.s.name=rdC p i:=by
  rw[H];exact(PD hnd (II x)).2
 split
 ·unfold Xj;rw[if_neg (by show ¬(3:Int)=0;decide)];intro h;have h:(3:Int)=1:=h;omega
 ·rename_i K;rw[g,z,z1r];obtain⟨D,o,E,L,F,N,O⟩:=XD watch (setM {QL M with reads:=(i:Int)+1} (rdC p i) (tape.getD i 0)) it.s.id [tape.getD i 0];unfold Xj;rw[if_pos (by show(QJ watch _ _ _).fin=0;rw[E];exact u.fin)];refine .inl ⟨i+1,?_⟩;have l:=j.ml;have d:rdC p i<M.mem.length:=by
   rw[l];unfold rdC;split<;>omega
  refine⟨D.trans j.st,?_,x,by show(QJ watch _ _ _).reads=_;rw[F];show(i:Int)+1=_;omega,by omega,?_,fun i' J=>?_,?_⟩
  ·show it.next=_;have V:=DX (p:=p) (f:=f);rw[I,if_neg (by omega)];unfold offD;omega
  ·show(QJ watch _ _ _).mem.length=_;rw[o];show(M.mem.set _ _).length=_;rw[z0h];exact l
  ·show(QJ watch _ _ _).mem[_]?=_;rw[o];show(M.mem.set _ _)[_]?=_;rw[z1o];by_cases t:rdC p i=rdC p i'
   ·have:=q8x t;subst this;rw[if_pos rfl,if_pos d]
   ·rw[if_neg t];refine j.mem i' ?_;refine Nat.lt_of_le_of_ne (by omega) fun e=>t (by rw[e])
  ·show(QJ watch _ _ _).mem[_]?=_;rw[o];show(M.mem.set _ _)[_]?=_;rw[z0c IE];exact j.zr
theorem q7o(watch:List Int){i:Nat}{a:Int}{M:Mc}(G:Good (drvP p f) M M.steps)(o:PhC p f c w tape i a M):PhK p f c w tape (goC (drvP p f) tape watch fuel (.next a M)):=by
 obtain⟨m,P⟩:=KZ (f:=f) hp;have hnd:=PB hq P;have hlo:=o.lo;have hhi:=o.hi;have l:=o.at_;simp only[goC];by_cases H:i=2*manyD p f+2
 ·rw[if_pos H]at l;rw[if_pos l];refine .inr ?_;rw[<-H,<-l];exact o
 rw[if_neg H]at l;rw[if_neg (by omega)];by_cases O:M.steps=fuel
 ·rw[if_pos O];intro h;have h:(2:Int)=1:=h;omega
 obtain⟨t,rfl⟩ : ∃t,i=manyD p f+1+t:=⟨i-(manyD p f+1),by omega⟩;have ht:t<manyD p f+1:=by omega
 obtain⟨it,Z,h2,D,h4,F,h6,h7,h8,h9⟩:=GD hp hq P (Mm (p:=p) (f:=f) ht);rw[if_neg O,show(a-1).toNat=offN (drvP p f).A (mainN p)+(manyD p f+1+t) by rw[l];unfold offD;omega,Z];simp only;have D:it.s.kind=3:=D;have F:it.s.x=nmX ((zrS::(zvL f++p.B)).getD t []):=F;unfold stI;rw[if_neg (by omega),if_neg (by omega)];have g:XY (QL M)=baseD p f:=ZG (M:=QL M) (st:=[]) o.st;rw[g];unfold doM;rw[if_neg (by omega),if_neg (by omega),if_neg (by omega),if_neg (by omega),F];have hv:=Cc (M:=QL M) (f:=baseD p f) (n:=(zrS::(zvL f++p.B)).getD t []);cases N:(QD (QL M) (baseD p f) (nmX ((zrS::(zvL f++p.B)).getD t []))).2 with
 | false=>
   rw[x9k];unfold Xj;rw[if_neg (by show ¬(4:Int)=0;decide)];intro h;have h:(4:Int)=1:=h;omega
 | true =>
   have hv:=hv N;rw[x9z,if_neg (by omega),if_pos D,hv];generalize L:q0s (QL M) (baseD p f) ((zrS::(zvL f++p.B)).getD t [])=v;obtain⟨R,T,U,e4,e5,V,e7⟩:=XD watch (QL M) it.s.id [v];unfold Xj;rw[if_pos (by show(QJ watch _ _ _).fin=0;rw[U];exact G.fin)];refine .inr (.inr ⟨manyD p f+1+t+1,?_⟩);have r:∀x,x∈[()]->((QJ watch (QL M) it.s.id [v]).out++[v])=M.out++[v]:=fun _ _=>by rw[V];rfl
   have r:=r () (by simp);refine⟨o.tp,R.trans o.st,by omega,by omega,?_,fun q=>?_,fun _=>?_⟩
   ·show it.next=_;have hl:=DX (p:=p) (f:=f);rw[h9];by_cases z:manyD p f+1+t+1=2*manyD p f+2
    ·rw[if_pos (by omega),if_pos z]
    ·rw[if_neg (by omega),if_neg z];unfold offD;omega
   ·show(QJ watch _ _ _).mem[_]?=_;rw[T];exact o.mem q
   ·show ∃u,1<=u/\((QJ watch (QL M) it.s.id [v]).out++[v]).length=_/\∀j,_->_->_->((QJ watch (QL M) it.s.id [v]).out++[v])[u+j]?=some w;rw[r];cases t with
    |zero=>exact⟨M.out.length+1,by omega,by rw[x8m];simp only[x9f,z1p];omega,fun j I=>by omega⟩
    | succ t=>
      obtain⟨u,g1,g2,Y⟩:=o.out (by omega);refine⟨u,g1,by rw[x8m];simp only[x9f,z1p];omega,fun j I e q=>?_⟩;rcases x8o j t with C|C
      ·rw[x9d (by omega)];exact Y j (by omega) e q
      ·obtain rfl:j=t:=by omega
       rw[x9n (by omega),show u+j-M.out.length=0 by omega,z3r];refine z0l some ?_;have K:=Ol (p:=p) (f:=f) (t:=j) (by omega);obtain⟨Q,b2⟩:=PD hnd K;rw[<-L];show Us (baseD p f).names ((baseD p f).E.map fun v=>M.mem.getD v 0) ((zvL f++p.B).getD j [])=w;have J:tlC p f j<manyD p f+1:=by
        unfold tlC;unfold manyD at*
        split<;>omega
       have d:=Ym (p:=p) (f:=f) (tlC p f j) J;have hbl:=(x8t.1 d).1;unfold Us;rw[Q,if_pos ⟨by omega,by rw[x8b];omega⟩,z1r,x8n,x9x,d];show M.mem.getD (tlC p f j) 0=w;rw[x8n,e,o.mem q];rfl
omit hq in
include hk hfm in
def q9i:∃n,(drvP p f).A[k]?=some ⟨f.name,f.C,f.E,nmL n f.body,f.fin⟩/\idxF (fun g:Pr=>g.name==f.name) (drvP p f).A=(k:Nat):=by
 obtain⟨n,i⟩:=Ur (f:=f) hk;rw[show VG p f f=f from if_neg (by simpa using hfm)]at i;refine⟨n,i,?_⟩;rw[Bb];obtain⟨m,h,j,_,_,l⟩:=Vd (p:=p) (n:=f.name) (x8c.2 ⟨f,x9y hk,rfl⟩);obtain⟨rfl,_⟩:=DN hp hk (x8p h) l.symm;exact j
include hk hfm hc hw hG hP
theorem q7e(watch:List Int){a:Int}{M:Mc}(Y:Good (drvP p f) M M.steps)(d:PhA p f tape (manyD p f) a M):PhK p f c w tape (goC (drvP p f) tape watch fuel (.next a M)):=by
 obtain⟨m,hm⟩:=KZ (f:=f) hp;have hnd:=PB hq hm;obtain⟨it,h1,h2,P,h4,h5,Q,R,h8,h9⟩:=GD hp hq hm (Zv (p:=p) (f:=f));obtain⟨n,K,Z⟩:=q9i hp hk hfm;have T:=d.at_;simp only[goC];rw[if_neg (by omega)];by_cases hf:M.steps=fuel
 ·rw[if_pos hf];intro h;have h:(2:Int)=1:=h;omega
 rw[if_neg hf,show(a-1).toNat=offN (drvP p f).A (mainN p)+manyD p f by rw[T];unfold offD;omega,h1];simp only;have P:it.s.kind=4:=P;have R:it.s.args=UH f.C:=R;have Q:it.s.D=f.name:=Q;unfold stI;rw[if_pos P];have L:XY (QL M)=baseD p f:=ZG (M:=QL M) (st:=[]) d.st;have U:KJ (drvP p f) it.s=k:=by
  unfold KJ;rw[Q,Z];rfl
 rw[L,U,WQ K];have hml:(QL M).mem.length=manyD p f+1:=d.ml;have t:∀(j:Nat)(b:Arg),(UH f.C)[j]?=some b->b.ref=true->j<f.C.length/\varM (baseD p f) b.name=p.B.length+1+j:=fun j b e G=>by
  obtain⟨q,_⟩:=x8t.1 e;rw[Z7]at q;rw[RO (x8p q)]at e;have e:=z0y e;refine⟨q,?_⟩;rw[<-e]at G⊢;unfold CL at G⊢;split at G
  ·rename_i H;rw[if_pos H];exact(PD hnd (Nu q)).2
  ·cases G
 obtain⟨a1,a2,a3,a4,a5,a6,a7,a8⟩:=PH (f:=baseD p f) (UH f.C) [] (QL M) (fun b e G=>by
  obtain⟨j,hj,rfl⟩:=z0v.1 e;obtain⟨l,o⟩:=t j _ (x8p hj) G;rw[o,hml];unfold manyD;omega) (fun v hv=>by cases hv)
 have I:=KM (f:=baseD p f) (UH f.C) [] (QL M);have hmc:(QL M).mem[c]?=some w:=by
  by_cases g:c=p.B.length
  ·rw[g,hw.1 g];exact d.zr
  ·obtain⟨i,l,o⟩:=x1n hc g;have z:=d.mem i l;rw[o]at z;rw[<-hw.2 i l o];exact z
 unfold YJ;rw[R];generalize argsM (baseD p f) (UH f.C) [] (QL M)=ar at*
 obtain⟨ps,r,ok⟩:=ar;simp only at a1 a2 a3 a4 a5 a6 a7 a8 I⊢;unfold Xj;cases ok with
 | false=>
   have l:r.fin=4:=a8 rfl;rw[x9k,if_neg (by show ¬r.fin=0;omega)];intro h;have h:r.fin=1:=h;omega
 | true =>
   rw[x9z];obtain⟨c1,c2,c3,c4⟩:=I rfl;have O:=XD watch r it.s.id [];split
   ·rw[if_neg (by show ¬(5:Int)=0;decide)];intro h;have h:(5:Int)=1:=h;omega
   ·rw [if_pos (by show(QJ watch r it.s.id []).fin=0;rw[O.2.2.1,(a7 rfl).1];exact Y.fin)];refine .inr (.inl ⟨d.tp,⟨[⟨k,varsS (drvP p f) ⟨f.name,f.C,f.E,nmL n f.body,f.fin⟩,List.range (drvP p f).B.length++ps++List.range' (QJ watch r it.s.id []).mem.length f.E.length,it.s.id⟩],?_,⟨_,rfl,?_⟩,fun fr V=>?_⟩,?_⟩)
    ·show(QJ watch r it.s.id []).stack++_=_;rw[O.1,a1];show M.stack++_=_;rw[d.st];rfl
    ·show it.s.id=_;rw[h8];unfold offD;rfl
    ·rw [x9q.1 V];have u:=q0l hp hq hk hfm;refine Ij K (c:=c) ?_ ?_ (fun nn hnn F=>hG nn hnn (u nn F)) fun j x H hv=>?_
     ·rw[O.2.1];have:=a2;omega
     ·rw[c1];simp[Z7]
     ·have H:f.C[j]?=some x:=H;have J:=RO H;rcases c3 j (CL x j) c J (by simpa using hv)with⟨l,o⟩|⟨_,o⟩
      ·obtain⟨z,h13⟩:=t j _ J l;have N:x.ref=true:=by
        unfold CL at l;split at l
        ·assumption
        ·cases l
       exact⟨N,fun F=>hP j x H (by omega) N (u _ F)⟩
      ·omega
    ·show((QJ watch r it.s.id []).mem++_)[c]?=some w;rw[O.2.1,x9d (by omega),c4 c (by omega)];exact hmc
theorem x4p(watch:List Int){s:Cf}(n:MF (drvP p f) fuel s)(D:OL (drvP p f) s)(h:PhK p f c w tape s):PhK p f c w tape (goC (drvP p f) tape watch fuel s):=by
 obtain⟨m,F⟩:=KZ (f:=f) hp;have hnd:=PB hq F;obtain⟨it,J,P,Q,K,R,T,U,V,L⟩:=GD hp hq F (Zv (p:=p) (f:=f));have l:manyD p f<=tape.length->∀(a:Int)(M:Mc),KpR (drvP p f) c w (baseD p f) (offD p f+manyD p f+1) (.next a M)->PhK p f c w tape (.next a M):=fun j a M o=>by
  rcases o with o|⟨g1,d,N,z,I⟩
  ·exact .inr (.inl ⟨j,o⟩)
  ·rw[show((offD p f:Int)+manyD p f+1-1).toNat=offN (drvP p f).A (mainN p)+manyD p f by unfold offD;omega,J]at d z;cases z;refine .inr (.inr ⟨manyD p f+1,j,g1,x9h _,by omega,?_,fun q=>d fun O u Z=>?_,fun h=>by omega⟩)
   ·have Y:=DX (p:=p) (f:=f);rw[I,L,if_neg (by omega),if_neg (by omega)];unfold offD;omega
   ·cases u;rw[K];show varM (baseD p f) zrS≠c;rw[(PD hnd TO).2];exact fun e=>q e.symm
 cases s with
 |fin M=>exact h
 | back g M=>
   rcases h with⟨j,h⟩|h
   ·have o:=Iy hq n.1 D h g;show PhK p f c w tape (ZO (drvP p f) g M);generalize ZO (drvP p f) g M=r at*
    cases r with
    |next a M'=>exact l j a M' o
    |back H M'=>exact .inl ⟨j,o⟩
    |fin M'=>exact fun e=>absurd e o
   ·show PhK p f c w tape (ZO (drvP p f) g M);unfold ZO;have x:XY M=baseD p f:=ZG (st:=[]) h.st;rw[x,if_pos (show(baseD p f).call=0 from rfl)];intro _;obtain⟨G,g1,d,z⟩:=h.out (by omega);have B:(endM (popM M M.stack.dropLast) 1).out=M.out:=rfl;rw[B];refine⟨h.tp,by omega,fun t ht C q=>?_⟩;rw[show M.out.length-manyD p f+t=G+t by omega];exact z t (by omega) C q
 | next a M=>
   rcases h with⟨i,h⟩|⟨j,h⟩|⟨i,h⟩
   ·rcases x8o i (manyD p f)with E|E
    ·exact q7i hp hq watch n.1 h E
    ·obtain rfl:i=manyD p f:=by have:=h.le;omega
     exact q7e hp hq hk hfm hc hw hG hP watch n.1 h
   ·have o:=x0i hq tape watch n D h;generalize goC (drvP p f) tape watch fuel (.next a M)=r at*
    cases r with
    |next a M'=>exact l j a M' o
    |back H M'=>exact .inl ⟨j,o⟩
    |fin M'=>exact fun e=>absurd e o
   ·exact q7o hp hq watch n.1 h
def C1(watch:List Int)(h:0<=fuel)(n:Nat):PhK p f c w tape (HQ (drvP p f) tape watch fuel n (JC (drvP p f))):=by
 induction n with
 |zero=>exact .inl ⟨0,C2 hp⟩
 | succ n l=>
   rw[UB];obtain⟨i,j⟩:=O6 hq tape watch h n;exact x4p hp hq hk hfm hc hw hG hP watch i j l
end
structure KeepF(p:Pg)(f:Pr)(tape out:List Int):Prop where
 tp:manyD p f<=tape.length
 ou:manyD p f+1<=out.length
 par:∀(j:Nat)(x:Param),f.C[j]?=some x->¬(x.ref=true/\x.name∈outsN p f.name)->out.getD (out.length-manyD p f+j) 0=tape.getD (p.B.length+j) 0
 gl:∀(i:Nat)(g:Str),p.B[i]?=some g->g∉outsN p f.name->out.getD (out.length-manyD p f+(f.C.length+i)) 0=tape.getD i 0
def SY{p:Pg}{f:Pr}(hp:QP p=true)(hq:QP (drvP p f)=true){k:Nat}(hk:p.A[k]?=some f)(hfm:f.name≠mainS){tape:List Int}(r:0<=fuel){n:Nat}{M:Mc}(h:HQ (drvP p f) tape watch fuel n (JC (drvP p f))=.fin M)(s:M.fin=1):KeepF p f tape M.out:=by
 have z:=(TQ hp hk).2.1;have d:=C1 hp hq hk hfm (c:=p.B.length) (w:=0) (tape:=tape) (by unfold manyD;omega) ⟨fun _=>rfl,fun i _ h=>absurd h IE⟩ (fun n l=>by rw[z0x (x9h _)]at l;cases l) (fun j x _ h=>by omega) watch r n;rw[h]at d;obtain⟨H,I,_⟩:=d s;refine⟨H,I,fun j x a o=>?_,fun i g u o=>?_⟩
 .have t:=(x8t.1 a).1;have m:=C1 hp hq hk hfm (c:=p.B.length+1+j) (w:=tape.getD (p.B.length+j) 0) (tape:=tape) (by unfold manyD;omega) ⟨fun e=>by omega,fun i _ e=>by
   unfold rdC at e;split at e
   .omega
   .rw [show i=p.B.length+j by omega]⟩ (fun n l=>by rw[z0x (by omega)]at l;cases l) (fun D G q e m=>by
   obtain rfl:D=j:=by omega
   rw[a]at q;cases q;rw[<-z];exact fun F=>o ⟨m,F⟩) watch r n
  rw[h]at m;have:=(m s).2.2 j (by unfold manyD;omega) (by unfold tlC;rw[if_pos t]) (by omega);rw[x8n,this];rfl
 .have E:=(x8t.1 u).1;have m:=C1 hp hq hk hfm (c:=i) (w:=tape.getD i 0) (tape:=tape) (by unfold manyD;omega) ⟨fun e=>by omega,fun i' _ e=>by
   unfold rdC at e;split at e
   .rw [e]
   .omega⟩ (fun n l=>by
   rw[u]at l;cases l;rw[<-z];exact o) (fun D G q e m=>by omega) watch r n
  rw[h]at m;have:=(m s).2.2 (f.C.length+i) (by unfold manyD;omega) (by unfold tlC;rw[if_neg (by omega)];omega) (by omega);rw[x8n,this];rfl
def IC{p:Pg}(hc:QP p=true)(n:Int):∃(k:Nat) (f:Pr),p.A[k]?=some f/\f.name=HZ p n/\OI p f.name=some (QQ p k f):=by
 obtain⟨k,f,hk,m,_⟩:=Al hc n;obtain⟨o,q,h,r,_,l,_⟩:=Wx m;have i:k=o:=by
  have:(QQ p k f).j=(QQ p o q).j:=by rw[r]
  exact this
 subst i;rw[hk]at h;cases h;exact⟨k,f,hk,l,by rw[l];exact m⟩
def x4x(l:List Int){a b:Nat}(h:b=a)(ha:a<l.length):l.getD b 0=l[a]:=by
 subst h;rw[x8n,x8p ha,z1k]
def Tm{l:List Int}{i:Nat}(h:i<l.length):(l.map (AV.int .i64))[i]?=some (.int .i64 (l.getD i 0)):=by
 rw[x9x,x8n,x8p h];rfl
mutual
theorem x0p:∀(x:X)(out:List Str){s:Str},s∈out->s∈Wn x out
 | .mk op n name kids,out,s,h=>by
   rw[Wn];refine Kx kids _ ?_;split
   ·exact x9e _ h
   ·exact h
theorem Kx:∀(l:List X)(out:List Str){s:Str},s∈out->s∈YF l out
 |[],out,s,h=>by rw[YF];exact h
 |x::r,out,s,h=>by rw[YF];exact Kx r _ (x0p x _ h)
end
def q1y{x:X}{out:List Str}(h:x.op=2):x.name∈Wn x out:=by
 rw[Vv];refine Kx _ _ ?_;split
 .exact z0w _ (x9q.2 rfl)
 .rename_i j;cases hq:out.any (fun s=>x.name==s)with
  |false=>exact absurd ⟨h,hq⟩ j
  | true=>
    obtain⟨s,l,i⟩:=z0g.1 hq;rw[show x.name=s by simpa using i];exact l
theorem K4{e i:Str->Int}:∀(n:Nat)(x:X)(out:List Str),(∀s∈Wn x out,e s=i s)->evN e n x=evN i n x
 |0,x,out,h=>by rw[evN,evN]
 | n+1,x,out,h=>by
   rw[evN,evN];split
   .rfl
   split
   .rename_i l;rw[h x.name (q1y l)]
   rw[Vv]at h;generalize(if x.op=2/\(out.any fun s=>x.name==s)=false then out++[x.name]else out)=o at h;cases hk:x.kids with
   |nil=>rfl
   | cons a r=>
     rw[hk]at h;have ha:evN e n a=evN i n a:=K4 n a o fun s j=>h s (by rw[YF];exact Kx r _ j);cases r with
     | nil=>
       simp only;rw[ha]
     | cons b r=>
       have m:evN e n b=evN i n b:=K4 n b (Wn a o) fun s j=>h s (by rw[YF,YF];exact Kx r _ j);simp only;rw[ha,m]
def EH{e i:Str->Int}{x:X}(h:∀s∈QN x,e s=i s):evX e x=evX i x:=by
 unfold evX;have j:J0 x=true->evN e 20 x=evN i 20 x:=fun l=>K4 20 x [] fun s m=>h s (by unfold QN;rw[l,x9z];exact m);generalize evN e 20 x=u at*
 generalize evN i 20 x=u' at*
 clear h;generalize J0 x=b at*
 cases b with
 |false=>rw[x9k,x9k]
 |true=>rw[x9z,x9z,j rfl]
def wt(k:Nat)(y:Int)(M:Mc):Mc:={M with mem:=M.mem.set k y}
def cwt(k:Nat)(y:Int):Cf->Cf
 |.next a M=>.next a (wt k y M)
 |.back g M=>.back g (wt k y M)
 |.fin M=>.fin (wt k y M)
section
variable {k:Nat}{y:Int}{v:Str}{M:Mc}{f:Fm}
def ON:QL (wt k y M)=wt k y (QL M):=rfl
def YE(w:List Int)(id:Int)(l:List Int):QJ w (wt k y M) id l=wt k y (QJ w M id l):=by
 unfold QJ;cases w.any fun x=>decide (id=x)<;>rfl
def Ca:XY (wt k y M)=XY M:=rfl
def Rc{c:Nat}{n:Int}(h:c≠k):setM (wt k y M) c n=wt k y (setM M c n):=by
 unfold setM wt;simp only;rw[List.set_comm _ _ (fun e=>h e.symm)]
def TE{n:Int}:setM (wt k y M) k n=setM M k n:=by
 unfold setM wt;simp only;rw[List.set_set]
def x0v(u:f.E.length=f.names.length)(q:∀i:Nat,f.E[i]?=some k->f.names[i]?=some v){s:Str}(t:s≠v):q0s (wt k y M) f s=q0s M f s:=by
 unfold q0s Us;simp only[x8b];split
 .rename_i h;have m:(idxF (fun y=>s==y) f.names).toNat<f.E.length:=by omega
  rw[x8n,x8n,x9x,x9x,x8p m];show(M.mem.set k y).getD _ 0=M.mem.getD _ 0;rw[x8n,x8n,z0c];intro r;have j:=q _ (by rw[x8p m,r]);have o:=h.1;unfold idxF at j o;cases ha:f.names.any fun y=>s==y with
  |false=>rw[ha,x9k]at o;omega
  | true=>
    rw[ha,x9z]at j;have l:=z3g (p:=fun y=>s==y) (xs:=f.names) (by simpa using ha);have n:=z4x (w:=l);have j:f.names[f.names.findIdx fun y=>s==y]?=some v:=j;rw[x8p l]at j;have n:s=f.names[f.names.findIdx fun y=>s==y]:=by simpa using n
    exact t (n.trans (z0y j))
 .rfl
def Nv(j:f.E.length=f.names.length)(h:∀i:Nat,f.E[i]?=some k->f.names[i]?=some v){x:X}(m:v∉QN x):QD (wt k y M) f x=QD M f x:=
 EH fun s l=>x0v j h fun e=>m (e▸l)
theorem T0(n:f.E.length=f.names.length)(j:∀i:Nat,f.E[i]?=some k->f.names[i]?=some v):∀(l:List Arg)(ps:List Nat)(M:Mc),k<M.mem.length->(∀a∈l,a.ref=false->v∉QN a.x)->
  argsM f l ps (wt k y M)=((argsM f l ps M).1,wt k y (argsM f l ps M).2.1,(argsM f l ps M).2.2)
 |[],ps,M,_,_=>rfl
 | a::r,ps,M,hk,h=>by
   rw[argsM,argsM];cases s:a.ref with
   | true=>
     rw[x9z,x9z];exact T0 n j r _ M hk fun b m=>h b (x8r _ m)
   | false=>
     have e:=Nv (M:=M) (y:=y) n j (h a x8l s);rw[x9k,x9k,e];cases t:(QD M f a.x).2 with
     |false=>rfl
     | true=>
       rw[x9z,x9z];have o:({wt k y M with mem:=(wt k y M).mem++[(QD M f a.x).1]}:Mc)=wt k y {M with mem:=M.mem++[(QD M f a.x).1]}:=by
        unfold wt;simp only;rw[List.set_append_left _ _ hk]
       have q:(wt k y M).mem.length=M.mem.length:=by unfold wt;simp
       rw[o,q];exact T0 n j r _ _ (by simp;omega) fun b m=>h b (x8r _ m)
def q7c{p:Pg}{j:Nat}{g:Pr}{ps:List Nat}{call:Int}(hk:k<M.mem.length):KV p j g ps call (wt k y M)=wt k y (KV p j g ps call M):=by
 unfold KV wt;simp only[z0h];rw[List.set_append_left _ _ hk]
theorem Bv{f:Fm}:∀(l:List Arg)(ps:List Nat)(M:Mc),M.mem.length<=(argsM f l ps M).2.1.mem.length
 |[],ps,M=>x9h _
 | a::r,ps,M=>by
   rw[argsM];cases a.ref with
   |true=>exact Bv r _ M
   | false=>
     rw[x9k];cases(QD M f a.x).2 with
     |false=>exact x9h _
     | true=>
       rw[x9z];have:=Bv (f:=f) r (ps++[M.mem.length]) {M with mem:=M.mem++[(QD M f a.x).1]};simp at this;omega
def Eh{p:Pg}{w:List Int}{t:S}{j:Nat}{g:Pr}(n:f.E.length=f.names.length)(m:∀i:Nat,f.E[i]?=some k->f.names[i]?=some v)(hk:k<M.mem.length)(h:∀a∈t.args,a.ref=false->v∉QN a.x):
  YJ p w (wt k y M) f t j g=((YJ p w M f t j g).1,wt k y (YJ p w M f t j g).2):=by
 unfold YJ;rw[T0 n m t.args [] M hk h];have o:=Bv (f:=f) t.args [] M;generalize argsM f t.args [] M=ar at*
 obtain⟨ps,l,q⟩:=ar;simp only at o⊢;cases q with
 |false=>rfl
 | true=>
   rw[x9z,x9z];have e:(wt k y l).stack=l.stack:=rfl;rw[e];split
   .rfl
   .simp only;rw[YE,q7c];have:=(XD w l t.id []).2.1;rw[this];omega
def x1c{w:List Int}{t:S}(l:f.E.length=f.names.length)(j:∀i:Nat,f.E[i]?=some k->f.names[i]?=some v)(h:v∉QN t.x):J5 w (wt k y M) f t=((J5 w M f t).1,wt k y (J5 w M f t).2):=by
 unfold J5;rw[Nv l j h];cases t.has with
 | false=>
   rw[x9k,x9k,YE]
 | true=>
   rw[x9z,x9z];cases(QD M f t.x).2 with
   |false=>rfl
   |true=>rw[x9z,x9z,YE]
def x3b{p:Pg}{tape j w:List Int}{g:Pr}(A:f.E.length=f.names.length)(d:∀i:Nat,f.E[i]?=some k->f.names[i]?=some v)(h:v∉QN it.s.x)(u:j.length=tape.length)(B:j.getD M.reads.toNat 0=tape.getD M.reads.toNat 0):
  ((it.s.kind=1\/it.s.kind=2)/\varM f it.s.name=k/\doM p j w (wt k y M) f g it=doM p tape w M f g it)\/((it.s.kind=1\/it.s.kind=2)/\varM f it.s.name=k/\(doM p tape w M f g it).2.fin≠0/\doM p j w (wt k y M) f g it=((doM p tape w M f g it).1,wt k y (doM p tape w M f g it).2))\/
  (((it.s.kind=1\/it.s.kind=2)->varM f it.s.name≠k)/\doM p j w (wt k y M) f g it=((doM p tape w M f g it).1,wt k y (doM p tape w M f g it).2)):=by
 have t:(wt k y M).reads=M.reads:=rfl;unfold doM;rw[Nv A d h,t,u,B];split
 .rename_i a;exact .inr (.inr ⟨fun m=>by omega,by rw[YE]⟩)
 split
 .exact .inr (.inr ⟨fun m=>by omega,by rw[YE]⟩)
 split
 .exact .inr (.inr ⟨fun m=>by omega,by rw[YE]⟩)
 split
 .rename_i r;split
  .by_cases hv:varM f it.s.name=k
   .exact .inr (.inl ⟨.inr r,hv,by show(3:Int)≠0;decide,rfl⟩)
   .exact .inr (.inr ⟨fun _=>hv,rfl⟩)
  .by_cases hv:varM f it.s.name=k
   .refine .inl ⟨.inr r,hv,?_⟩;rw[hv];have e:setM {wt k y M with reads:=M.reads+1} k (tape.getD M.reads.toNat 0)=setM {M with reads:=M.reads+1} k (tape.getD M.reads.toNat 0):=TE (M:={M with reads:=M.reads+1});rw[e]
   .refine .inr (.inr ⟨fun _=>hv,?_⟩);have e:setM {wt k y M with reads:=M.reads+1} (varM f it.s.name) (tape.getD M.reads.toNat 0)=wt k y (setM {M with reads:=M.reads+1} (varM f it.s.name) (tape.getD M.reads.toNat 0)):=Rc (M:={M with reads:=M.reads+1}) hv;rw[e,YE]
 rename_i a D z r;generalize QD M f it.s.x=wm at*
 obtain⟨F,C⟩:=wm;cases C with
 | false=>
   rw[x9k,x9k];by_cases l:it.s.kind=1/\varM f it.s.name=k
   .exact .inr (.inl ⟨.inl l.1,l.2,by show(4:Int)≠0;decide,rfl⟩)
   .exact .inr (.inr ⟨fun m hv=>l ⟨by omega,hv⟩,rfl⟩)
 | true=>
   rw[x9z,x9z];by_cases l:it.s.kind=1
   .rw [if_pos l,if_pos l];by_cases hv:varM f it.s.name=k
    .refine .inl ⟨.inl l,hv,?_⟩;rw[YE,hv,TE]
    .refine .inr (.inr ⟨fun _=>hv,?_⟩);rw[YE,Rc hv]
   rw[if_neg l,if_neg l];refine .inr (.inr ⟨fun m=>absurd m (by omega),?_⟩);rw[YE];by_cases n:it.s.kind=3
   .rw [if_pos n,if_pos n];rfl
   rw[if_neg n,if_neg n];by_cases o:it.s.kind=5
   .rw [if_pos o,if_pos o]
   rw[if_neg o,if_neg o];by_cases q:it.s.kind=6
   .rw [if_pos q,if_pos q]
   rw[if_neg q,if_neg q]
end
section
variable (p:Pg)(f0:Pr)(v:Str)(k kf:Nat)
structure FlF(fr:Fm)(a:Int):Prop where
 nm:∀i:Nat,fr.E[i]?=some k->fr.names[i]?=some v
 vk:varM fr v=k
 no:v∉(bookOf p).ins.getD fr.D []
 at_:∃g,p.A[fr.D]?=some g/\g.name≠mainS/\∃x,a=sg (offN (drvP p f0).A fr.D) x/\Rch (nR p fr.D g (dfB p (bookOf p).M) v) 0 (ixI p fr.D g (sg (offN p.A fr.D) x))
inductive FlU:List Fm->Int->Prop
 |one {fr:Fm} {a:Int} (h0:fr.D=kf) (h:FlF p f0 v k fr a):FlU [fr] a
 |more {l:List Fm} {fr:Fm} {a:Int} (hl:FlU l fr.call) (h:FlF p f0 v k fr a):FlU (l++[fr]) a
end
theorem FlU.top{p:Pg}{f0:Pr}{v:Str}{k kf:Nat}{l:List Fm}{a:Int}(h:FlU p f0 v k kf l a):∃l' i,l=l'++[i]/\FlF p f0 v k i a:=by
 cases h with
 |one _ h=>exact⟨[],_,rfl,h⟩
 |more _ h=>exact⟨_,_,rfl,h⟩
theorem FlU.move{p:Pg}{f0:Pr}{v:Str}{k kf:Nat}{l:List Fm}{a:Int}(h:FlU p f0 v k kf l a)(j:∀l' i,l=l'++[i]->FlF p f0 v k i a->FlF p f0 v k i b):FlU p f0 v k kf l b:=by
 cases h with
 |one m h=>exact .one m (j [] _ rfl h)
 |more o h=>exact .more o (j _ _ rfl h)
section
variable {p:Pg}{f0:Pr}(hp:QP p=true)(hq:QP (drvP p f0)=true){v:Str}{k kf:Nat}(hv:p.B[k]? = some v)
include hp hv
omit hp in
def x6f:comB p v=true:=Zz.2 (.inr (x9y hv))
def x7g:v≠tapeS/\v≠retS:=by
 have h:=L8 hp (x9y hv);exact⟨fun e=>by rw[e]at h;exact absurd h (by decide),fun e=>by rw[e]at h;exact absurd h (by decide)⟩
def q4n{j:Nat}{g:Pr}(h:p.A[j]?=some g){a:Int}(m:Rch (nR p j g (dfB p (bookOf p).M) v) 0 a)(l:hitN p j g (usB p (bookOf p).ins) ((bookOf p).M.getD j []) v a=true):v∈(bookOf p).ins.getD j []:=by
 have i:=(x8t.1 h).1;rw[<-(KL hp).fixI];unfold rdI;rw[Pz i,WQ h,(KL hp).N];exact⟨x6f hv,(MU hp h).2 ⟨a,m,l⟩⟩
include hq
omit hv in
theorem x0h{i:Fm}{a:Int}(h:FlF p f0 v k i a){j:Pr}(e:(drvP p f0).A[i.D]?=some j){q:S}(O:q∈flL j.body)(s:q.id=a):∃g t,p.A[i.D]?=some g/\g.name≠mainS/\t∈flL g.body/\t.kind=q.kind/\t.name=q.name/\t.D=q.D/\t.args=q.args/\t.x=q.x/\Rch (nR p i.D g (dfB p (bookOf p).M) v) 0 (ixI p i.D g t.id)/\
  (∀b,wR (drvP p f0) i.D j a b->v∉FM (bkO p (bookOf p).M) t->FlF p f0 v k i b):=by
 obtain⟨g,l,u,x,Y,Z⟩:=h.at_;obtain⟨n,r⟩:=Ur (f:=f0) l;rw[show VG p f0 g=g from if_neg (by simpa using u),e]at r;have r:=z0y r;have L:nmL 0 j.body=nmL 0 g.body:=by rw[r];exact D7 _ _ _
 have d:cntL j.body=cntL g.body:=by rw[r];exact Qg _ _
 have hf:j.fin=g.fin:=by rw[r]
 have U:flL j.body=(flL (nmL 0 g.body)).map (shS (offN (drvP p f0).A i.D)):=by
  conv=>lhs;rw[V5 hq e,L]
  exact Ua _ _
 have V:flL g.body=(flL (nmL 0 g.body)).map (shS (offN p.A i.D)):=by
  conv=>lhs;rw[V5 hp l]
  exact Ua _ _
 rw[U]at O;obtain⟨t0,K,rfl⟩:=x8c.1 O;have m:=Qe g.body 0 t0 K;have P:(shS (offN (drvP p f0).A i.D) t0).id=sg (offN (drvP p f0).A i.D) t0.id:=by rw[ZQ,FU m];rfl
 have Q:(shS (offN p.A i.D) t0).id=sg (offN p.A i.D) t0.id:=by rw[ZQ,FU m];rfl
 have hx:x=t0.id:=Cv ((Y.symm.trans s.symm).trans P);have o:shS (offN p.A i.D) t0∈flL g.body:=by rw[V];exact z2f K
 have N:Rch (nR p i.D g (dfB p (bookOf p).M) v) 0 (ixI p i.D g (shS (offN p.A i.D) t0).id):=by rw[Q,<-hx];exact Z
 refine⟨g,shS (offN p.A i.D) t0,l,u,o,by rw[ZQ,ZQ];rfl,by rw[ZQ,ZQ];rfl,by rw[ZQ,ZQ];rfl,by rw[ZQ,ZQ];rfl,by rw[ZQ,ZQ];rfl,N,fun b hw hd=>?_⟩;have G:w0 i.D j=w0 i.D g:=by
  funext a b;unfold w0 AS AT;rw[L,d];have B:∀it,Be (itL i.D 0 (-1) 0 0 (nmL 0 g.body)) ⟨j.name,j.C,j.E,nmL 0 g.body,j.fin⟩ it=Be (itL i.D 0 (-1) 0 0 (nmL 0 g.body)) ⟨g.name,g.C,g.E,nmL 0 g.body,g.fin⟩ it:=fun it=>by
   unfold Be atB;simp only;rw[hf]
  simp only[B]
 obtain⟨x1,J,R,u2,u3⟩:=(x2g hq e).1 hw;have I:x1=t0.id:=Cv ((u2.symm.trans s.symm).trans P);rw[G,I]at R;have H:wR p i.D g (shS (offN p.A i.D) t0).id (sg (offN p.A i.D) J):=(x2g hp l).2 ⟨t0.id,J,R,Q,rfl⟩;refine⟨h.nm,h.vk,h.no,g,l,u,J,u3,.tail N (Ie hp l H ?_)⟩;cases F:DP p i.D g (dfB p (bookOf p).M) v (ixI p i.D g (shS (offN p.A i.D) t0).id)with
 |true=>rfl
 | false=>
   have z:=ZS (QU hp).1 l o;obtain⟨t2,w1,w2,T⟩:=C0 hp l (.inr (.inr z)) (by omega) F;rw[q6v hp l o,ZE]at T;exact absurd T hd
omit hq in
def q4m{i:Fm}(m:v∉(bookOf p).ins.getD i.D []){g:Pr}{t:S}(l:p.A[i.D]?=some g)(n:t∈flL g.body)(o:Rch (nR p i.D g (dfB p (bookOf p).M) v) 0 (ixI p i.D g t.id)):v∉QN t.x/\(t.kind=4->(∀a∈t.args,v∉usA a)/\v∉(bookOf p).ins.getD (caI p t).toNat []):=by
 have key:v∉Xk (bkI p (bookOf p).ins) t:=fun q=>m (q4n hp hv l o (x0t hp l n (by rw[x6h hp l n];exact ZE.2 q)));unfold Xk at key;by_cases j:t.kind=4
 .rw [if_pos j]at key;refine⟨fun h=>key (x9e _ (x9e _ (x9e _ h))),fun _=>⟨fun a ha h=>key (x9e _ (z0w _ (z0j.2 ⟨a,ha,h⟩))),fun h=>key (z0w _ ?_)⟩⟩;rw[q6a];exact h
 .rw [if_neg j]at key;exact⟨fun h=>key (x9e _ h),fun h=>absurd h j⟩
omit hq in
theorem EN{i:Fm}(h:FlF p f0 v k i (-1)):v∉(bookOf p).M.getD i.D []:=fun n=>by
 obtain⟨g,l,q,x,j,m⟩:=h.at_;have o:x = -1:=by
  unfold sg at j;split at j<;>omega
 subst o;refine h.no (q4n hp hv l m ?_);have e:ixI p i.D g (sg (offN p.A i.D) (-1))=(cntL g.body+2:Nat)-1:=ix1;unfold hitN;rw[z0r e,x9z];exact VV.2 n
theorem EM{j:Nat}{g:Pr}(u:p.A[j]?=some g)(a:g.name≠mainS){l:Pr}(K:(drvP p f0).A[j]?=some l)(J:v∉(bookOf p).ins.getD j []){ps:List Nat}(P:ps.length=l.C.length)(q:k∉ps){m0:Nat}(Y:k<m0){call:Int}:
  FlF p f0 v k ⟨j,varsS (drvP p f0) l,List.range p.B.length++ps++List.range' m0 l.E.length,call⟩ (Qn (drvP p f0) j l):=by
 obtain⟨n,z⟩:=Ur (f:=f0) u;rw[show VG p f0 g=g from if_neg (by simpa using a),K]at z;have z:=z0y z;have m:=(x8t.1 hv).1;have V:nmL 0 l.body=nmL 0 g.body:=by rw[z];exact D7 _ _ _
 have G:cntL l.body=cntL g.body:=by rw[z];exact Qg _ _
 have F:∀i:Nat,(List.range p.B.length++ps++List.range' m0 l.E.length)[i]?=some k->i=k:=fun i t=>by
  rcases x8o i p.B.length with r|r
  ·rw[x9l,x9d (by simpa using r),z1h r]at t;exact z0y t
  ·rw[x9l,x9n (by simpa using r),z2q]at t;rcases x8e.1 (x9y t)with s|s
   ·exact absurd s q
   ·have:=List.mem_range'_1.1 s;omega
 have o:(varsS (drvP p f0) l)[k]?=some v:=by
  show(p.B++_)[k]?=some v;rw[x9d m];exact hv
 have I:(List.range p.B.length++ps++List.range' m0 l.E.length)[k]?=some k:=by
  rw[x9l,x9d (by simpa using m),z1h m]
 have hnd:(varsS (drvP p f0) l).Nodup:=(((Gn (QU hq).1).1 (QU hq).2.1).2 _ (x9y K)).nd;refine⟨fun i t=>by rw[F i t];exact o,?_,J,g,u,a,AT g.body,?_,?_⟩
 ·have d:(List.range p.B.length++ps++List.range' m0 l.E.length).length=(varsS (drvP p f0) l).length:=by
   have e:(varsS (drvP p f0) l).length=p.B.length+(l.C.length+l.E.length):=by
    show(p.B++(l.C.map Param.name++l.E)).length=_;simp
   rw[e];simp;omega
  obtain⟨i,r,s⟩:=N7 (f:=⟨j,varsS (drvP p f0) l,List.range p.B.length++ps++List.range' m0 l.E.length,call⟩) d (x9y o);have H:i=k:=by
   obtain⟨T,N⟩:=x8t.1 r;obtain⟨U,O⟩:=x8t.1 o;exact(z4a hnd).1 (N.trans O.symm)
  rw[H]at s;exact z0y (s.symm.trans I)
 ·show Qn (drvP p f0) j l=sg (offN (drvP p f0).A j) (AT g.body);unfold Qn AT;rw[<-G];by_cases h:0<cntL l.body
  ·rw[if_pos (by omega),if_pos h,FU (by decide)];omega
  ·rw[if_neg (by omega),if_neg h];rfl
 ·show Rch (nR p j g (dfB p (bookOf p).M) v) 0 (ixI p j g (sg (offN p.A j) (AT g.body)));have Q:wR p j g 0 (sg (offN p.A j) (AT g.body)):=(x2g hp u).2 ⟨0,AT g.body,.inl ⟨rfl,rfl⟩,rfl,rfl⟩;have L:=Ie (D:=dfB p (bookOf p).M) (x:=v) hp u Q (by
   cases q:DP p j g (dfB p (bookOf p).M) v (ixI p j g 0)with
   |true=>rfl
   | false=>
     obtain⟨t2,R,Z,_⟩:=C0 hp u (.inl rfl) (by decide) q;have:=ZS (QU hp).1 u R;omega)
  rw[ix0]at L;exact .tail .refl L
end
section
variable (p:Pg)(f0:Pr)(v:Str)(k kf:Nat)(base:Fm)
def NdF:Cf->Prop
 |.next a M=>k<M.mem.length/\((∃up,M.stack=base::up/\FlU p f0 v k kf up a)\/(M.stack=[base]/\v∉(bookOf p).M.getD kf []))
 |.back _ M=>k<M.mem.length/\∃up,M.stack=base::up/\FlU p f0 v k kf up (-1)
 |.fin M=>M.fin≠1
def NdR(y:Int)(c c':Cf):Prop:=c'=c\/(c'=cwt k y c/\NdF p f0 v k kf base c)
end
theorem FlU.ne{p:Pg}{f0:Pr}{v:Str}{k kf:Nat}{l:List Fm}{a:Int}(h:FlU p f0 v k kf l a):l≠[]:=by
 obtain⟨l',i,rfl,_⟩:=h.top;simp
def Bc{k:Nat}{r:Int×Mc}:Xj (r.1,wt k y r.2)=cwt k y (Xj r):=by
 unfold Xj;have e:(wt k y r.2).fin=r.2.fin:=rfl;simp only[e];split<;>rfl
def Ey{k:Nat}{r:Int×Mc}:PF (r.1,wt k y r.2)=cwt k y (PF r):=by
 unfold PF;have e:(wt k y r.2).fin=r.2.fin:=rfl;simp only[e];split<;>rfl
section
variable {p:Pg}{f0:Pr}(hp:QP p=true)(hq:QP (drvP p f0)=true){v:Str}{k kf:Nat}(hv:p.B[k]? = some v){base:Fm}
include hp hq hv
theorem q7f{M:Mc}(hG:Good (drvP p f0) M b)(h:InvM (drvP p f0) M (-1))(hk:k<M.mem.length){up:List Fm}(T:M.stack=base::up)(I:FlU p f0 v k kf up (-1))(hz:∀it,(sheetOf (drvP p f0)).l[((up.headD base).call-1).toNat]?=some it->it.s.name≠[]->varM base it.s.name≠k)(o:Int):NdR p f0 v k kf base y (ZO (drvP p f0) o M) (ZO (drvP p f0) o (wt k y M)):=by
 have K:=hG.ch;have hne:=I.ne;obtain⟨st,hst⟩:=hG.top;unfold ZO;rw[Ca];have e0:(wt k y M).stack=M.stack:=rfl;rw[e0];generalize J:M.stack=L at K;cases K with
 | one Y=>
   rw[J]at T;obtain⟨_,m⟩:=z1f T;exact absurd m.symm hne
 | push hl h1 hle C hkk R hi O=>
   rename_i l g f q it;have hFf:XY M=f:=ZG (M:=M) (st:=l++[g]) (f:=f) J;rw[hFf,if_neg (by omega),if_neg (by omega),C,z3b];simp only;rw[J]at T;have hfr:=h.fr f (by rw[J];simp);have hgF:=hG.fr g (by rw[J];simp);have hM1:popM (wt k y M) (l++[g])=wt k y (popM M (l++[g])):=rfl;have htp:XY (popM M (l++[g]))=g:=ZG (st:=l) rfl;rw[hM1,Ca,htp];cases l with
   | nil=>
     obtain⟨m,d⟩:=z1f T;have m:g=base:=m;subst m;have d:up=[f]:=d.symm;subst d;have hno:v∉(bookOf p).M.getD kf []/\True:=by
      generalize V:[f]=l at I;cases I with
      | one Y B=>
        have e:=z1f V;rw[<-Y,<-e.1];rw[<-e.1]at B;exact⟨EN hp hv B,trivial⟩
      | more F B=>
        rename_i l2 fr;cases l2 with
        |nil=>exact absurd rfl F.ne
        | cons a r=>
          have:=z0l length V;simp at this
     have hz:=hz it (by simpa using C);refine .inr ⟨?_,?_,.inr ⟨?_,hno.1⟩⟩
     ·split
      ·rfl
      ·rename_i n;rw[Rc (hz n)];rfl
     ·split
      ·exact hk
      ·show k<(M.mem.set _ _).length;rw[z0h];exact hk
     ·split<;>rfl
   | cons b0 l=>
     obtain⟨m,d⟩:=z1f T;have m:b0=base:=m;subst m;have d:up=l++[g]++[f]:=d.symm;subst d;obtain⟨z,hff⟩:FlU p f0 v k kf (l++[g]) f.call/\FlF p f0 v k f (-1):=by
      generalize V:l++[g]++[f]=u at I;cases I with
      | one Y B=>
        have:=z0l length V;simp at this
      | more F B=>
        obtain⟨e1,e2⟩:=z2k V rfl;have e2:f=_:=(z1f e2).1;subst e2;rw[e1];exact⟨F,B⟩
     have Q:=EN hp hv hff;obtain⟨l',fr,e3,A⟩:=z.top;obtain⟨_,e4⟩:=z2k e3 rfl;have e4:g=fr:=(z1f e4).1;subst e4;obtain⟨gp,t,s1,s2,s3,s4,s5,s6,s7,s8,s9,s10⟩:=x0h hp hq A R (YP hi) O;obtain⟨u1,u2⟩:=q4m hp hv A.no s1 s3 s9;have E:t.kind=4:=s4.trans hkk;obtain⟨u3,_⟩:=u2 E;have U:t∈WI p:=z0j.2 ⟨gp,x9y s1,s3⟩;obtain⟨c,c1,c2,c3,c4,c5⟩:=KX hp U E;have hcp:c=f.D:=by
      rcases hfr with⟨Y,_⟩|⟨_,g1,it1,w1,w2,w3⟩
      ·omega
      ·rw[C]at w2;cases w2;have n:g1.name=(prA p c).name:=by rw[w3,c4];exact s6.symm
       obtain⟨ga,wa⟩:=q6y w1;obtain⟨na,Z⟩:=Ur (f:=f0) wa;rw[w1]at Z;have Z:=z0y Z;have wn:ga.name=(prA p c).name:=by
        rw[<-n,Z];exact(Fu ga).symm
       exact(DN hp (Y3 c1) wa wn.symm).1
     have N:t.name≠v->v∉FM (bkO p (bookOf p).M) t:=fun j i=>by
      unfold FM at i;rw[if_neg (by omega),if_neg (by omega),if_neg (by omega),if_pos E]at i;have i:v∈Mj p t (caP p t) (caO (bkO p (bookOf p).M) t):=i;rw[Sx,c2,z1r,hcp]at i;unfold Mj at i;rcases x8e.1 i with i|i
      ·rcases x8e.1 i with i|i
       ·split at i
        ·cases i
        ·exact j (x9q.1 i).symm
       ·obtain⟨x,x1,⟨x2,x3⟩,x4⟩:=MJ.1 i;have hm:x.1∈t.args:=(List.of_mem_zip (z4e x1)).1;refine u3 x.1 hm ?_;unfold usA;rw[if_pos x2,x4];exact x9e _ (x9q.2 rfl)
      ·exact Q (z0u.1 i).1
     have G:wR (drvP p f0) g.D q f.call it.next:=by
      rw[<-O];refine⟨⟨it.s.id,it.next,1⟩,((VN hq R).2 _).2 (R5 hi ?_),rfl,rfl⟩;unfold UU;rw[if_neg (by omega),if_neg (by omega),if_neg (by omega),if_neg (by omega),if_neg (by omega),if_neg (by omega)];exact x8l
     have P:t.name≠v->FlU p f0 v k kf (l++[g]) it.next:=fun j=>by
      refine z.move fun l2 fr2 e5 B=>?_;obtain⟨_,e6⟩:=z2k e5 rfl;have e6:g=fr2:=(z1f e6).1;rw[<-e6];exact s10 it.next G (N j)
     by_cases n:it.s.name=[]
     ·rw[if_pos n,if_pos n];refine .inr ⟨rfl,hk,.inl ⟨l++[g],rfl,P fun e=>?_⟩⟩;rw[s5,n]at e;have:=L8 hp (x9y hv);rw[<-e]at this;exact absurd this (by decide)
     ·rw[if_neg n,if_neg n];by_cases H:varM g it.s.name=k
      ·rw[H,TE];exact .inl rfl
      ·rw[Rc H];refine .inr ⟨rfl,by show k<(M.mem.set _ _).length;rw[z0h];exact hk,.inl ⟨l++[g],rfl,P fun e=>H ?_⟩⟩;rw[<-s5,e];exact A.vk
theorem x4u{tape o w:List Int}{a:Int}{M:Mc}(hG:MF (drvP p f0) fuel (.next a M))(hI:OL (drvP p f0) (.next a M))(hk:k<M.mem.length){up:List Fm}(Z:M.stack=base::up)(hF:FlU p f0 v k kf up a)(htl:o.length=tape.length)(ht:o.getD M.reads.toNat 0=tape.getD M.reads.toNat 0):NdR p f0 v k kf base y (goC (drvP p f0) tape w fuel (.next a M)) (goC (drvP p f0) o w fuel (.next a (wt k y M))):=by
 obtain⟨m,h0,h1,hat⟩:=hG;have hI:InvM (drvP p f0) M a:=hI;simp only[goC];by_cases ha:a = -1
 ·rw[if_pos ha,if_pos ha];exact .inr ⟨rfl,hk,up,Z,ha▸hF⟩
 rw[if_neg ha,if_neg ha];have est:(wt k y M).steps=M.steps:=rfl;rw[est];by_cases hf:M.steps=fuel
 ·rw[if_pos hf,if_pos hf];exact .inr ⟨rfl,by show(2:Int)≠1;decide⟩
 rw[if_neg hf,if_neg hf];rcases hat with h2|⟨g,it,hg,_,hit,hi,I⟩
 ·exact absurd h2 ha
 rw[hit];simp only;rw[ON];have H:Good (drvP p f0) (QL M) M.steps:=m.same rfl (x9h _) m.fin m.r0 m.rd m.tr m.ou;have l:(drvP p f0).A[(XY (QL M)).D]?=some g:=hg;have q:it∈itsOf (drvP p f0) (XY (QL M)).D g:=hi;obtain⟨up',top,J,hT⟩:=hF.top;have h:XY (QL M)=top:=ZG (M:=QL M) (st:=base::up') (by show M.stack=_;rw[Z,J];rfl);rw[h]at l q;have d:=H.fr top (by show top∈M.stack;rw[Z,J];simp);obtain⟨g',v1,v2⟩:=d.pr;rw[l]at v1;cases v1;obtain⟨gp,t,s1,s2,s3,L,s5,s6,s7,s8,s9,s10⟩:=x0h hp hq hT l (YP q) I;obtain⟨u1,u2⟩:=q4m hp hv hT.no s1 s3 s9;have hx:v∉QN it.s.x:=by rw[<-s8];exact u1
 have hkt:k<(QL M).mem.length:=hk;have C:(QL M).fin=0:=m.fin;unfold stI;rw[Ca,h];by_cases z:it.s.kind=4
 ·rw [if_pos z,if_pos z];obtain⟨u3,u4⟩:=u2 (L.trans z);have hau:∀b∈it.s.args,b.ref=false->v∉QN b.x:=fun b hb hr u=>u3 b (by rw[s7];exact hb) (by unfold usA;exact z0w _ u);rw[Eh d.len hT.nm hkt hau,Bc];refine .inr ⟨rfl,?_⟩;have T:=YP q;obtain⟨k0,k1,k2⟩:=Mk hq l T z;obtain⟨c,c1,c2,c3,c4,c5⟩:=KX hp (z0j.2 ⟨gp,x9y s1,s3⟩) (L.trans z);have hcn:KJ (drvP p f0) it.s=c:=by
   unfold KJ;rw[Bb,<-s6];show(caI p t).toNat=c;rw[c2];rfl
  have hcm:(prA p c).name≠mainS:=fun e=>by
   have R:=UN (QU hp).2.1 (x9y s1) s3;unfold knownB at R;rw[x9g,z3x]at R;rcases R.2 with Y|Y
   ·rw[z3a]at Y;exact Y (L.trans z)
   ·rw[x9g]at Y;rw[<-c4,e]at Y;simp at Y
  rw[c2,z1r]at u4;obtain⟨a1,a2,a3,a4,a5,a6,a7,a8⟩:=PH (f:=top) it.s.args [] (QL M) (fun b hb hr=>by
   have:=(U9 hq H (by rw[h];exact l) T (RE hb hr)).2
   rwa[h]at this) (fun v hv=>by cases hv)
  have hac:=KM (f:=top) it.s.args [] (QL M);unfold YJ;generalize argsM top it.s.args [] (QL M)=ar at*
  obtain⟨ps,F,ok⟩:=ar;simp only at a1 a2 a3 a4 a5 a6 a7 a8 hac⊢;unfold Xj;cases ok with
  | false=>
    have h8:F.fin=4:=a8 rfl;rw[x9k,if_neg (by show ¬F.fin=0;omega)];show F.fin≠1;omega
  | true =>
    rw[x9z];split
    ·show(5:Int)≠1;decide
    ·have e1:=XD w F it.s.id [];obtain⟨b1,b2,b3,b4⟩:=hac rfl;split
     ·refine⟨?_,.inl ⟨up++[⟨KJ (drvP p f0) it.s,varsS (drvP p f0) (prA (drvP p f0) (KJ (drvP p f0) it.s)),List.range (drvP p f0).B.length++ps++List.range' (QJ w F it.s.id []).mem.length (prA (drvP p f0) (KJ (drvP p f0) it.s)).E.length,it.s.id⟩],?_,?_⟩⟩
      ·show k<((QJ w F it.s.id []).mem++_).length;rw[e1.2.1,x8m];have:(QL M).mem.length<=F.mem.length:=a2;omega
      ·show(QJ w F it.s.id []).stack++_=_;rw[e1.1,a1];show M.stack++_=_;rw[Z];rfl
      ·refine .more (by show FlU p f0 v k kf up it.s.id;rw[I];exact hF) ?_;rw[hcn]at k1⊢;refine EM hp hq hv (Y3 c1) hcm k1 u4 ?_ ?_ ?_
       ·rw[b1,<-hcn,k2];simp
       ·intro u;obtain⟨j,hj,hje⟩:=z0v.1 u;have Q:j<it.s.args.length:=by
         rw[b1]at hj;simpa using hj
        rcases b3 j it.s.args[j] k (x8p Q) (by
         have e:([]:List Nat).length+j=j:=by simp
         rw[e,x8p hj,hje])with⟨r1,r2⟩|⟨_,r2⟩
        ·have hnn:it.s.args[j].name∈top.names:=by
          rw[v2];exact MZ hq l T (RE (x9w Q) r1)
         obtain⟨i,w1,N⟩:=N7 d.len hnn;rw[<-r2]at N;have V:=hT.nm i N;rw[w1]at V;refine u3 it.s.args[j] (by rw[s7];exact x9w Q) ?_;unfold usA;rw[if_pos r1];exact x9e _ (x9q.2 (z0y V).symm)
        ·omega
       ·rw[e1.2.1];have:(QL M).mem.length<=F.mem.length:=a2;omega
     ·rename_i U;show(QJ w F it.s.id []).fin≠1;rw[e1.2.2.1,(a7 rfl).1];show M.fin≠1;have:=m.fin;omega
 rw[if_neg z,if_neg z];have K:v≠retS/\v≠tapeS:=⟨(x7g hp hv).2,(x7g hp hv).1⟩;by_cases G:it.s.kind=9
 ·rw[if_pos G,if_pos G,x1c d.len hT.nm hx,Ey];refine .inr ⟨rfl,?_⟩;obtain⟨w1,N⟩:=Cz (p:=drvP p f0) w H it.s rfl;obtain⟨V,w4⟩:=Cx (watch:=w) (M:=QL M) (f:=top) (t:=it.s) C;rw[h]at w1 N;generalize J5 w (QL M) top it.s=r at*
  unfold PF;split
  ·rename_i U;refine⟨by rw[w4];exact hk,up,by rw[(N U).2];exact Z,hF.move fun l2 P e5 hh=>?_⟩;obtain⟨_,O⟩:=z2k (J.symm.trans e5) rfl;have O:top=P:=(z1f O).1;rw[<-O];refine s10 (-1) ?_ ?_
   ·rw[<-I];refine⟨⟨it.s.id,-1,1⟩,((VN hq l).2 _).2 (R5 q ?_),rfl,rfl⟩;unfold UU;rw[if_neg (by omega),if_neg (by omega),if_neg (by omega),if_neg (by omega),if_pos G];exact x8l
   ·unfold FM;rw[if_neg (by omega),if_neg (by omega),if_pos (L.trans G)];intro u;exact K.1 (x9q.1 u)
  ·exact V
 rw[if_neg G,if_neg G,WQ l];obtain⟨w1,N⟩:=q0p hq tape w H (by rw[h];exact l) (by rw[h];exact q) z G rfl;rw[h]at w1 N;have V:=Ei (p:=drvP p f0) (tape:=tape) (watch:=w) (f:=top) (g:=g) (it:=it) C;have w5:=Eo (p:=drvP p f0) (tape:=tape) (watch:=w) (M:=QL M) (f:=top) (g:=g) (it:=it);have hgo:=T7 (p:=drvP p f0) tape w (M:=QL M) (f:=top) (g:=g) z G rfl;rcases x3b (p:=drvP p f0) (w:=w) (g:=g) (M:=QL M) (y:=y) d.len hT.nm hx htl ht with⟨_,_,e⟩|⟨_,_,U,e⟩|⟨hne,e⟩
 ·rw[e];exact .inl rfl
 ·rw[e,Bc];refine .inr ⟨rfl,?_⟩;unfold Xj;rw[if_neg U];exact V
 ·rw [e,Bc];refine .inr ⟨rfl,?_⟩;generalize doM (drvP p f0) tape w (QL M) top g it=r at*
  unfold Xj;split
  ·rename_i U;refine⟨?_,.inl ⟨up,by rw[(N U).2.2];exact Z,hF.move fun l2 P e5 hh=>?_⟩⟩
   ·rcases w5 with w5|⟨_,n,w5⟩
    ·rw[w5];exact hk
    ·rw[w5,z0h];exact hk
   ·obtain⟨_,O⟩:=z2k (J.symm.trans e5) rfl;have O:top=P:=(z1f O).1;rw[<-O];refine s10 r.1 ?_ ?_
    ·rw[<-I];exact⟨⟨it.s.id,r.1,1⟩,((VN hq l).2 _).2 (R5 q (hgo U)),rfl,rfl⟩
    ·unfold FM;split
     ·rename_i q1;intro u;have e7:v=t.name:=x9q.1 u;refine hne (.inl (L.symm.trans q1)) ?_;rw[<-s5,<-e7];exact hT.vk
     split
     ·rename_i q2;intro u;rcases x8s.1 u with e7|u
      ·refine hne (.inr (L.symm.trans q2)) ?_;rw[<-s5,<-e7];exact hT.vk
      ·exact K.2 (x9q.1 u)
     split
     ·rename_i q9;exact absurd (L.symm.trans q9) G
     split
     ·rename_i q4;exact absurd (L.symm.trans q4) z
     ·intro u;cases u
  ·exact V
end
end Go.Ab
