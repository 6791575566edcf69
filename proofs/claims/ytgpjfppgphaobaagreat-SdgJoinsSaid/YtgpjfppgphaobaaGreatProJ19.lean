/- LAW: what the reference lets stand, the program's own reading lets stand. -/
import Derived.Test.YtgpjfppgphaobaaGreatProJ18
set_option linter.all false
set_option maxRecDepth 100000
set_option maxHeartbeats 16000000
open List (length)
open Nat (beq)
namespace Go.Ab
open Go.Proofs.Tryz
open Go.Proofs
variable {O':List (List Str)}{j:Nat}{l:List Bool}
theorem q8t{l:List Nat}{a:Nat}(h:a∈l):a<=Aw l:=by
 induction l with
 |nil=>cases h
 | cons b r k=>
   rw[Aw];rcases x8r.1 h with rfl|h
   ·omega
   ·have:=k h;omega
theorem Fj:∀(n:Nat)(x:X)(k:Nat),wX x<k->HV n x<=n->NJ k x=true->UK n x=true
 |0,x,k,_,h,_=>by rw[HV]at h;omega
 |n+1,x,0,hk,_,_=>by omega
 | n+1,x,k+1,hk,h,hf=>by
   rw[HV]at h;rw[NJ,x9w,z0k]at hf;obtain⟨s,m⟩:=hf;have z:wX x=1+wXs x.kids:=by cases x;rw[wX];rfl
   have w:∀y∈x.kids,UK n y=true:=fun y t=>Fj n y k (by have:=TH _ _ t;omega) (by have:=q8t (x8s.2 ⟨y,t,rfl⟩:HV n y∈x.kids.map (HV n));omega) (m y t);unfold HF at s;simp only[x9w,z2s,z0w,z2k]at s;obtain⟨⟨⟨⟨v,b⟩,c⟩,q⟩,d⟩:=s;rw[UK,x9w,z0w];refine⟨v.symm,?_⟩;split
   ·rename_i u;rw[u,x9o (by decide)]at q;simp_all
   ·rename_i u;split
    ·rename_i r;rw[x9e r]at q;simp_all
    ·rename_i r;rw[x9o r]at q;simp_all
def IN(x:X):mayXR x=IB x:=by
 rw[z2t];refine⟨fun h=>?_,IP⟩;unfold mayXR at h;rw[x9w,z0w]at h;exact Fj 20 x _ (Nat.lt_succ_self _) h.1 h.2
def q7d(a:Arg):argR a=X2 a:=by
 unfold argR X2 JG FA;rw[IN];cases a.ref<;>rfl
theorem q3s{s:S}(h:OneF s):oneOk s=true:=by
 obtain⟨f1,f2,f3,f4,f5,f6,f7,f8,f9,f10,f11,f12,f13,f14⟩:=h;have t:s.args.all X2=true:=by
  rw[z0k]at f11⊢;exact fun a ha=>by rw[<-q7d];exact f11 a ha
 rw[IN]at f4;have k:s.kind=1\/s.kind=2\/s.kind=3\/s.kind=4\/s.kind=5\/s.kind=6\/s.kind=7\/s.kind=8\/s.kind=9\/s.kind=10:=by omega
 have v:∀{α:Type}(l:List α),l.length=0->decide (0<l.length)=false:=fun l h=>x9o (by omega);have r:¬(s.kind=1\/s.kind=2\/s.kind=10)->s.kind≠4->(s.name==[])=true:=fun F G=>by
  rcases f8 F with h|h
  ·exact h
  ·exact absurd h.1 G
 have m:s.kind≠9->s.has=false:=fun h=>by
  cases I:s.has with
  |false=>rfl
  |true=>exact absurd (f6 I) h
 unfold oneOk;rw[x9w];refine⟨?_,f1⟩;have key:∀(f:Flds),Qi s.kind s.has (s.name==[])=some f->f.has=false->(f.M=false->s.M.length=0)->(f.V=false->s.V.length=0)->(s.kind≠4->s.args.length=0)->JG s.name f.name=true->JG s.C f.C=true->FA s.x f.x=true->VV s=true:=fun f H z b c d e g A=>by
  rw[F9 H,z,e,g,A,t];have B:(!f.M&&decide (0<s.M.length))=false:=by
   cases u:f.M with
   |true=>rfl
   |false=>rw[v _ (b u)];rfl
  have e2:(!f.V&&decide (0<s.V.length))=false:=by
   cases u:f.V with
   |true=>rfl
   |false=>rw[v _ (c u)];rfl
  have E:(!decide (s.kind=4)&&decide (0<s.args.length))=false:=by
   by_cases w:s.kind=4
   ·rw[x9e w];rfl
   ·rw[v _ (d w)];exact Bool.and_false _
  rw[B,e2,E];rfl
 have q:s.kind≠4->JG s.C false=true:=fun h=>f10 h;rcases k with k|k|k|k|k|k|k|k|k|k
 ·exact key ⟨true,false,true,s.has,false,false⟩ (by rw[k];rfl) (m (by omega)) (fun _=>by omega) (fun _=>by omega) f12 (f7 (by omega)) (q (by omega)) (f4 (by unfold hasXB;rw[k];rfl))
 ·exact key ⟨true,false,false,s.has,false,false⟩ (by rw[k];rfl) (m (by omega)) (fun _=>by omega) (fun _=>by omega) f12 (f7 (by omega)) (q (by omega)) (f5 (by unfold hasXB;rw[k];rfl))
 ·exact key ⟨false,false,true,s.has,false,false⟩ (by rw[k];rfl) (m (by omega)) (fun _=>by omega) (fun _=>by omega) f12 (r (by omega) (by omega)) (q (by omega)) (f4 (by unfold hasXB;rw[k];rfl))
 ·refine key ⟨!(s.name==[]),true,false,s.has,false,false⟩ (by rw[k];rfl) (m (by omega)) (fun _=>by omega) (fun _=>by omega) f12 ?_ (f9 k) (f5 (by unfold hasXB;rw[k];rfl));rcases f8 (by omega)with h|h
  ·rw[h];exact h
  ·rw[Ff h.2];exact h.2
 ·exact key ⟨false,false,true,s.has,true,true⟩ (by rw[k];rfl) (m (by omega)) (fun h=>by cases h) (fun h=>by cases h) f12 (r (by omega) (by omega)) (q (by omega)) (f4 (by unfold hasXB;rw[k];rfl))
 ·exact key ⟨false,false,true,s.has,true,false⟩ (by rw[k];rfl) (m (by omega)) (fun h=>by cases h) (fun _=>by omega) f12 (r (by omega) (by omega)) (q (by omega)) (f4 (by unfold hasXB;rw[k];rfl))
 ·exact key ⟨false,false,false,s.has,false,false⟩ (by rw[k];rfl) (m (by omega)) (fun _=>by omega) (fun _=>by omega) f12 (r (by omega) (by omega)) (q (by omega)) (f5 (by unfold hasXB;rw[k];rfl))
 ·exact key ⟨false,false,false,s.has,false,false⟩ (by rw[k];rfl) (m (by omega)) (fun _=>by omega) (fun _=>by omega) f12 (r (by omega) (by omega)) (q (by omega)) (f5 (by unfold hasXB;rw[k];rfl))
 ·refine key ⟨false,false,s.has,false,false,false⟩ (by rw[k];rfl) rfl (fun _=>by omega) (fun _=>by omega) f12 (r (by omega) (by omega)) (q (by omega)) ?_;cases y:s.has with
  |true=>exact f4 (by unfold hasXB;rw[k,y];rfl)
  |false=>exact f5 (by unfold hasXB;rw[k,y];rfl)
 ·exact key ⟨true,false,false,s.has,false,false⟩ (by rw[k];rfl) (m (by omega)) (fun _=>by omega) (fun _=>by omega) f12 (f7 (by omega)) (q (by omega)) (f5 (by unfold hasXB;rw[k];rfl))
theorem q2y:∀(k:Nat)(l:List S)(i:Int)(e:Bool)(out:List RI),(flF k i e l out).length<=200->(∀x∈flF k i e l out,x.deep<=12)->flF k i e l out=out++fuL (13-(k:Int)) i e l:=by
 intro k;induction k with
 | zero=>
   intro l i e out m h;cases l with
   |nil=>rw[fuL,x9c];rfl
   | cons s r=>
     exfalso;have e0:flF 0 i e (s::r) out=flF 0 i e r (if out.length<=200 then out++[⟨s,13,i,e⟩]else out):=rfl;rw[e0]at m h;have v:=(DE 0 i e r (if out.length<=200 then out++[⟨s,13,i,e⟩]else out)).1;by_cases y:out.length<=200
     ·rw [if_pos y]at m h v;have w:∀(r:List S)(o:List RI)(x:RI),x∈o->x∈flF 0 i e r o:=fun r=>by
       induction r with
       |nil=>exact fun o x q=>q
       | cons a r z=>
         intro o x q;show x∈flF 0 i e r (if o.length<=200 then o++[⟨a,13,i,e⟩]else o);refine z _ _ ?_;split
         ·exact x8e.2 (.inl q)
         ·exact q
      have:=h _ (w r _ ⟨s,13,i,e⟩ (x8e.2 (.inr (x8l.2 rfl))));simp at this
     ·rw[if_neg y]at m v;omega
 | succ k z=>
   intro l;induction l with
   |nil=>intro i e out m h;rw[fuL,x9c];rfl
   | cons s r b=>
     intro i e out m h;have e0:flF (k+1) i e (s::r) out=flF (k+1) i e r (if out.length<=200 then flF k s.id true s.V (flF k s.id false s.M (out++[⟨s,13-((k+1:Nat):Int),i,e⟩]))else out):=rfl;rw[e0]at m h⊢;have v:=(DE (k+1) i e r (if out.length<=200 then flF k s.id true s.V (flF k s.id false s.M (out++[⟨s,13-((k+1:Nat):Int),i,e⟩]))else out)).1;have y:out.length<=200:=by
      refine z1c fun C=>?_;rw[if_neg C]at v m;omega
     rw[if_pos y]at m h v⊢;have c:=b i e _ m h;rw[c]at h;have t:∀x∈flF k s.id true s.V (flF k s.id false s.M (out++[⟨s,13-((k+1:Nat):Int),i,e⟩])),x.deep<=12:=fun x q=>h x (x8e.2 (.inl q));have d:=z s.V s.id true _ (by omega) t;rw[d]at t;have u:∀x∈flF k s.id false s.M (out++[⟨s,13-((k+1:Nat):Int),i,e⟩]),x.deep<=12:=fun x q=>t x (x8e.2 (.inl q));have B:=(DE k s.id true s.V (flF k s.id false s.M (out++[⟨s,13-((k+1:Nat):Int),i,e⟩]))).1;have A:=z s.M s.id false _ (by omega) u;have g:(13:Int)-((k+1:Nat):Int)+1=13-(k:Int):=by omega
     rw[c,d,A,fuL,Iw,g];simp
mutual
theorem q9j(d i:Int)(e:Bool)(seen:Nat):∀(t:S),(fuS d i e t).map (fun x=>x.s.id)=KO seen (WS t)->(∀x∈fuS d i e t,x.deep<=12/\oneOk x.s=true)->seen+WS t<=200->D3 d seen t=some ((seen+WS t:Nat):Int)
 | .mk id kind Z name C x has args M V,h1,h2,h3=>by
   have hc:WS (.mk id kind Z name C x has args M V)=1+QY M+QY V:=VA _;rw[fuS]at h1 h2;rw[hc]at h1 h3⊢;have hsp:KO seen (1+QY M+QY V)=((seen:Int)+1)::(KO (seen+1) (QY M)++KO (seen+1+QY M) (QY V)):=by
    rw[<-FU];unfold KO;rw[show 1+QY M+QY V=(QY M+QY V)+1 by omega,List.range'_succ,x9f];congr 1
   rw[hsp,x9f,x8i]at h1;have hid:id=(seen:Int)+1:=(List.cons.inj h1).1;have h1':=(List.cons.inj h1).2;have hlen:((fuL (d+1) id false M).map fun x=>x.s.id).length=(KO (seen+1) (QY M)).length:=by
    rw[x8g,MA];unfold KO;simp
   obtain⟨ha,hb⟩:=List.append_inj h1' hlen;have hok:=h2 _ x8p;have r1:=Pv (d+1) id false (seen+1) M ha (fun x hx=>h2 x (x8b _ (x8e.2 (.inl hx)))) (by omega);have r2:=Pv (d+1) id true (seen+1+QY M) V hb (fun x hx=>h2 x (x8b _ (x8e.2 (.inr hx)))) (by omega);have hoo:=hok.2;unfold oneOk at hoo;rw[x9w]at hoo;rw[D3,if_neg (by omega),if_neg (by omega),show namesB Z=true from hoo.2,x9y,show VV (.mk id kind Z name C x has args M V)=true from hoo.1,x9y];have e1:(seen:Int)+1=((seen+1:Nat):Int):=by omega
   rw[e1,r1];simp only;rw[r2];congr 1;omega
theorem Pv(d i:Int)(e:Bool)(seen:Nat):∀(l:List S),(fuL d i e l).map (fun x=>x.s.id)=KO seen (QY l)->(∀x∈fuL d i e l,x.deep<=12/\oneOk x.s=true)->seen+QY l<=200->YE d seen l=some ((seen+QY l:Nat):Int)
 |[],_,_,_=>by rw[YE,QY];rfl
 | t::r,h1,h2,h3=>by
   rw[fuL]at h1 h2;have hc:QY (t::r)=WS t+QY r:=by rw[QY]
   rw[hc]at h1 h3⊢;rw[FU,x8i]at h1;have hlen:((fuS d i e t).map fun x=>x.s.id).length=(KO seen (WS t)).length:=by
    have:=MA d i e [t];rw[fuL,fuL,x9c,QY,QY]at this;rw[x8g,this];unfold KO;simp
   obtain⟨ha,hb⟩:=List.append_inj h1 hlen;have hd:d<=12:=by
    have:(⟨t,d,i,e⟩:RI)∈fuS d i e t++fuL d i e r:=x8e.2 (.inl (by rw[Iw];exact x8p));exact(h2 _ this).1
   have r1:=q9j d i e seen t ha (fun x hx=>h2 x (x8e.2 (.inl hx))) (by omega);have r2:=Pv d i e (seen+WS t) r hb (fun x hx=>h2 x (x8e.2 (.inr hx))) (by omega);rw[YE,if_neg (by omega),r1];simp only;rw[r2];congr 1;omega
end
theorem L0:∀(l:List Pr)(seen:Nat),(∀f∈l,GN f=true)->((l.flatMap flatU).map fun x=>x.s.id)=KO seen (cntP l)->(∀x∈l.flatMap flatU,x.deep<=12/\oneOk x.s=true)->seen+cntP l<=200->(ZQ seen l).isSome=true
 |[],_,_,_,_,_=>rfl
 | f::r,seen,h1,h2,h3,h4=>by
   rw[z0e]at h2 h3;have q:cntP (f::r)=QY f.body+cntP r:=by rw[cntP]
   rw[q]at h2 h4;rw[FU,x8i]at h2;have h:((flatU f).map fun x=>x.s.id).length=(KO seen (QY f.body)).length:=by
    unfold flatU;rw[x8g,MA];unfold KO;simp
   obtain⟨ha,m⟩:=List.append_inj h2 h;have u:=Pv 1 0 false seen f.body ha (fun x k=>h3 x (x8e.2 (.inl k))) (by omega);have v:=L0 r (seen+QY f.body) (fun g t=>h1 g (x8b _ t)) m (fun x k=>h3 x (x8e.2 (.inr k))) (by omega);rw[ZQ,h1 f x8p,x9y,u];exact v
theorem CF:∀(l:List Pr)(out:List RI),(DM l out).length<=200->(∀x∈DM l out,x.deep<=12)->DM l out=out++l.flatMap flatU:=by
 intro l;induction l with
 |nil=>intro out _ _;show out=_;simp
 | cons f r m=>
   intro out h k;have mono:∀(r:List Pr)(o:List RI),o.length<=(DM r o).length:=fun r=>by
    induction r with
    |nil=>exact fun o=>x9z _
    | cons g r m=>
      intro o;show _<=(DM r (if o.length<=200 then o++ZR g else o)).length;have:=m (if o.length<=200 then o++ZR g else o);split at this
      ·rw[if_pos (by assumption)];simp only[x8d]at this;omega
      ·rw[if_neg (by assumption)];exact this
   have e0:DM (f::r) out=DM r (if out.length<=200 then out++ZR f else out):=rfl;rw[e0]at h k⊢;have q:=mono r (if out.length<=200 then out++ZR f else out);have v:out.length<=200:=by
    refine z1c fun w=>?_;rw[if_neg w]at q h;omega
   rw[if_pos v]at h k q⊢;have s:=m _ h k;rw[s]at k h⊢;simp only[x8d]at h;have t:=q2y 12 f.body 0 false [] (by show(ZR f).length<=200;omega) (fun x y=>k x (x8e.2 (.inl (x8e.2 (.inr y)))));have u:ZR f=flatU f:=by simpa[ZR,flatU]using t
   rw[u];simp
theorem x1m{p:Pg}(y:p.F.length<=16)(z:p.A.length<=16)(b:namesB p.F=true)(c:∀f∈p.A,GN f=true)(d:(allR p).length<=200)(w:∀(k:Nat)(x:RI),(allR p)[k]?=some x->x.s.id=(k:Int)+1/\x.deep<=12/\oneOk x.s=true):KT p=true:=by
 have m:∀x∈allR p,x.deep<=12/\oneOk x.s=true:=fun x v=>by
  obtain⟨k,h,rfl⟩:=z0l.1 v;exact(w k _ (x8h h)).2
 have r:allR p=p.A.flatMap flatU:=by
  have:=CF p.A [] d (fun x v=>(m x v).1);simpa[allR]using this
 have t:(p.A.flatMap flatU).map (fun x=>x.s.id)=KO 0 (cntP p.A):=by
  refine z4f fun k=>?_;rw[x8n,<-r];rcases x8a k (allR p).length with h|h
  ·have q:k<cntP p.A:=by rw[<-Qg,<-r];exact h
   rw[x8h h];have:=(w k _ (x8h h)).1;unfold KO;rw[x8n,List.getElem?_range' q];simp only[z1a,this];congr 1;omega
  ·have q:cntP p.A<=k:=by rw[<-Qg,<-r];exact h
   rw[z0d h,z0d (by unfold KO;simpa using q)];rfl
 have u:0+cntP p.A<=200:=by rw[<-Qg,<-r];omega
 have:=L0 p.A 0 c t (fun x v=>m x (by rw[r];exact v)) u;unfold KT;rw[x9e y,x9e z,b];exact this
def Ky{s:S}(h:oneOk s=true->False):oneOk s=false:=by
 cases k:oneOk s with
 |false=>rfl
 |true=>exact(h k).elim
theorem LP(s:S):aP 81 [.agg s.cells] (.bool (oneOk s)):=by
 refine sC Qw func81 ?_;conv=>whnf
 have u:(s.args.map fun a=>AV.agg a.cells).length=s.args.length:=x8g _;have w:((S.avs s.M).length:Int)=s.M.length:=by rw[S.avs_len]
 have v:((S.avs s.V).length:Int)=s.V.length:=by rw[S.avs_len]
 repeat' ((first|(refine iM fun _=>?_)|refine cP (XA _) ?_|refine cP (UE _) ?_|refine cP (HR _) ?_|refine cP (JD _) ?_|refine KE XD rfl rfl rfl rfl rfl ?_|((first|apply bD|apply bE|apply bN|apply bB)<;>intro _<;>try omega))<;>conv=>whnf)
 all_goals simp only[show(ByteArray.mk #[]).data.toList=[]from rfl]at*
 all_goals first
  | (refine RetK.ff (Ky fun h=>?_)
     obtain⟨f1,f2,f3,f4,f5,f6,f7,f8,f9,f10,f11,f12,f13,f14⟩:=KB h;first
      |omega
      |(exfalso;simp_all[hasXB];done)
      |(exfalso;simp_all[hasXB];omega)
      | (rename_i A
         by_cases b:s.kind=4
         ·have m:=Ff (f9 b);simp_all
          done
         ·have m:=f10 b;simp_all
          done))
  |skip
 all_goals
  have G:s.args.all argR=true->(s.M.length=0\/s.kind=5\/s.kind=6)->(s.V.length=0\/s.kind=5)->oneOk s=true:=fun g1 y z=>by
   refine q3s ⟨by assumption,by omega,by omega,fun q=>?_,fun q=>?_,fun q=>?_,fun q=>?_,fun q=>?_,fun q=>?_,fun q=>?_,g1,fun q=>?_,y,z⟩;all_goals clear u w v g1 y z
   all_goals first
    |omega
    |assumption
    |(simp_all[hasXB];done)
    |(simp_all[hasXB];omega)
    | (have t:(s.kind==4) = !(s.C==[]):=by assumption
       have e:(s.kind==4)=false:=z4n.2 (by assumption);rw[e]at t
       revert t
       cases(s.C==[])<;>simp
       done)
  refine lI (fun j:Nat=>⟨[(1,.p (.ip s.cells)),(143,.p (.sl (s.args.map fun a=>.agg a.cells))),(144,.p (.int .i64 (s.args.map fun a=>AV.agg a.cells).length)),(145,.j j)],[]⟩) (fun j=>j<=s.args.length/\(s.args.drop j).all argR=s.args.all argR) (fun j=>s.args.length-j) 0 ⟨x8m _,rfl⟩ ?_;rintro j ⟨g,r⟩;rcases x8a j s.args.length with k|k
  ·conv=>whnf
   repeat' ((first|refine cP (Uk _) ?_|(refine gX ?_;intros)|((first|apply bD|apply bN)<;>intro _<;>try omega))<;>conv=>whnf)
   all_goals first
    |exact nX (j+1) ⟨k,by rw[HA k (by assumption)];exact r⟩
    | (refine RetK.ff (Ky fun h=>?_)
       have t:=z0k.1 (KB h).args _ (x8o k);simp_all)
  ·rw [HC k]at r;have G:=G r.symm;conv=>whnf
   repeat' ((first|(refine iM fun _=>?_)|(apply bD<;>intro _<;>try omega))<;>conv=>whnf)
   all_goals first
    |exact RetK.tt (G (by omega) (by omega))
    | (refine RetK.ff (Ky fun h=>?_)
       have c:=(KB h).M;have d:=(KB h).V;omega)
    | (refine RetK.bool ?_
       first
        |rw[z2t,z2k]
        |rw[z2t,z0w]
       exact⟨fun q=>G (by omega) (by omega),fun h=>by have c:=(KB h).M;have d:=(KB h).V;omega⟩)
def BG{p:Pg}(h:KT p=true->False):KT p=false:=by
 cases k:KT p with
 |false=>rfl
 |true=>exact(h k).elim
theorem LB(p:Pg):aP 48 [.agg p.cells] (.bool (KT p)):=by
 refine sC Q9 func48 ?_;conv=>whnf
 have K:(p.F.map AV.str).length=p.F.length:=x8g _;have M:(p.A.map fun f=>AV.agg f.cells).length=p.A.length:=x8g _;repeat' ((first|(refine iM fun _=>?_)|refine cP (UE _) ?_|((first|apply bD|apply bN)<;>intro _<;>try omega))<;>conv=>whnf)
 all_goals first
  | (refine RetK.ff (BG fun h=>?_)
     have F:=WB h;have b:=F.gl;have c:=F.pl;have d:=F.gn;first
      |omega
      |(simp_all;done))
  |skip
 have E:p.F.length<=16:=by omega
 have G:p.A.length<=16:=by omega
 have H:namesB p.F=true:=by assumption
 refine lI (fun j:Nat=>⟨[(1,.p (.ip p.cells)),(26,.p (.sl (p.A.map fun f=>.agg f.cells))),(27,.p (.int .i64 (p.A.map fun f=>AV.agg f.cells).length)),(28,.j j)],[]⟩) (fun j=>j<=p.A.length/\∀m (t:m<p.A.length),m<j->GN p.A[m]=true) (fun j=>p.A.length-j) 0 ⟨x8m _,fun m t h=>absurd h (Nat.not_lt_zero _)⟩ ?_;rintro j ⟨V,e⟩;rcases x8a j p.A.length with v|v
 ·have N:(p.A[j].B.map fun a=>AV.agg a.cells).length=p.A[j].B.length:=x8g _;have P:(p.A[j].zd.map AV.str).length=p.A[j].zd.length:=x8g _;conv=>whnf
  repeat' ((first|(refine gX ?_;intros)|refine cP (UE _) ?_|refine cP (XA _) ?_|((first|apply bD|apply bN)<;>intro _<;>try omega))<;>conv=>whnf)
  all_goals first
   | (refine RetK.ff (BG fun h=>?_)
      obtain⟨b,c,d,Q,R,T⟩:=(WB h).pr _ (x8o v);first
       |omega
       |(simp_all;done))
   |skip
  have w:(p.A[j].B.all fun a=>isName a.name)=true->GN p.A[j]=true:=fun g=>KH.2 ⟨by omega,by omega,by assumption,by assumption,by assumption,g⟩;refine lI (fun k:Nat=>⟨[(1,.p (.ip p.cells)),(26,.p (.sl (p.A.map fun f=>.agg f.cells))),(27,.p (.int .i64 (p.A.map fun f=>AV.agg f.cells).length)),(28,.j j),(61,.p (.sl (p.A[j].B.map fun a=>.agg a.cells))),(62,.p (.int .i64 (p.A[j].B.map fun a=>AV.agg a.cells).length)),(63,.j k)],[]⟩) (fun k=>k<=p.A[j].B.length/\(p.A[j].B.drop k).all (fun a=>isName a.name)=p.A[j].B.all fun a=>isName a.name) (fun k=>p.A[j].B.length-k) 0 ⟨x8m _,rfl⟩ ?_;rintro k ⟨I,z⟩;rcases x8a k p.A[j].B.length with q|q
  ·conv=>whnf
   repeat' ((first|refine cP (XA _) ?_|(refine gX ?_;intros)|((first|apply bD|apply bN)<;>intro _<;>try omega))<;>conv=>whnf)
   ·exact nX (k+1) ⟨q,by rw[<-z,HA (p:=fun a:Param=>isName a.name) q (by assumption)]⟩
   ·refine RetK.ff (BG fun h=>?_);have r:=z0k.1 ((WB h).pr _ (x8o v)).2.2.2.2.2 _ (x8o q);simp_all
  ·rw[HC q]at z;have y:=w z.symm;conv=>whnf
   repeat' ((first|refine wI ?_|(apply bD<;>intro _<;>try omega))<;>conv=>whnf)
   refine nX (j+1) ⟨v,fun m t L=>?_⟩;rcases x8a m j with r|r
   ·exact e m t r
   ·obtain rfl:m=j:=by omega
    exact y
 ·have w : ∀f∈p.A,GN f=true:=fun f J=>by
   obtain⟨m,t,rfl⟩:=z0l.1 J;exact e m t (by omega)
  conv=>whnf
  have O:=Ll (allR p);repeat' ((first|(refine iM fun _=>?_)|refine cP (Uy _) ?_|(apply bD<;>intro _<;>try omega))<;>conv=>whnf)
  ·refine RetK.ff (BG fun h=>?_);have:=(WB h).len;omega
  have y:(allR p).length<=200:=by omega
  refine lI (fun k:Nat=>⟨[(7,.p (x0f (allR p))),(79,.p (.int .i64 ((allR p).map fun i=>AV.agg i.cells).length)),(80,.j k)],[]⟩) (fun k=>k<=(allR p).length/\∀(m:Nat)(x:RI),m<k->(allR p)[m]?=some x->x.s.id=(m:Int)+1/\x.deep<=12/\oneOk x.s=true) (fun k=>(allR p).length-k) 0 ⟨x8m _,fun m x h=>absurd h (Nat.not_lt_zero _)⟩ ?_;rintro k ⟨I,C⟩;rcases x8a k (allR p).length with q|q
  ·conv=>whnf
   have F:=fun h:KT p=true=>(WB h).its k _ (x8h q);repeat' ((first|(refine gX ?_;intros)|refine cP (LP (allR p)[k].s) ?_|((first|apply bD|apply bE|apply bN)<;>intro _<;>try omega))<;>conv=>whnf)
   all_goals first
    | (refine nX (k+1) ⟨q,fun m x t u=>?_⟩
       rcases x8a m k with r|r
       ·exact C m x r u
       ·obtain rfl:m=k:=by omega
        rw[x8h q]at u;obtain rfl:=z1e u;exact⟨by omega,by omega,by assumption⟩)
    | (refine RetK.ff (BG fun h=>?_)
       obtain⟨b,c,d⟩:=F h;first
        |omega
        | (simp_all
           done))
  ·conv=>whnf
   repeat' (apply bD<;>intro _<;>first|omega|conv=>whnf)
   exact RetK.tt (x1m E G H w y fun m x u=>C m x (by have:=(x8t.1 u).1;omega) u)
def Ld(p:Pg)(n:Str):Pr×Bool:=bif KT p then O9 p n else(Pr0,false)
theorem NF(p:Pg)(n:Str):aP 26 [.agg p.cells,.str n] (.tup [.agg (Ld p n).1.cells,.bool (Ld p n).2]):=by
 refine sC MH func26 ?_;conv=>whnf
 have r:(p.A.map fun f=>AV.agg f.cells).length=p.A.length:=x8g _;repeat' ((first|(refine gX ?_;intros)|refine cP (LB _) ?_|(apply bB<;>intro _))<;>conv=>whnf)
 ·have m:Ld p n=O9 p n:=by unfold Ld;rw[show KT p=true by assumption];rfl
  rw[m];refine lI (fun j:Nat=>⟨[(1,.p (.str n)),(4,.ptr 1 0),(11,.p (.sl (p.A.map fun f=>.agg f.cells))),(12,.p (.int .i64 (p.A.map fun f=>AV.agg f.cells).length)),(13,.j j)],[(1,.obj 61 [.p (.str []),.p .nils,.p .nils,.p .nils,.p .nils])]⟩) (fun j=>j<=p.A.length/\(p.A.drop j).find? (fun f=>f.name==n)=p.A.find? fun f=>f.name==n) (fun j=>p.A.length-j) 0 ⟨x8m _,rfl⟩ ?_;rintro j ⟨s,h⟩;rcases x8a j p.A.length with k|k
  ·rw[QD k,z3t]at h;conv=>whnf
   repeat' ((first|(refine gX ?_;intros)|((first|apply bD|apply bB)<;>intro _<;>try omega))<;>conv=>whnf)
   ·have q:(p.A[j].name==n)=true:=by assumption
    rw[q]at h;exact⟨_,.p (Sub.tup (SubL.cons (Sub.refl _) (SubL.cons (Sub.tt rfl) SubL.nil))),by unfold O9;rw[<-h];first|done|rfl⟩
   ·have q:(p.A[j].name==n)=false:=by assumption
    rw[q]at h;exact nX (j+1) ⟨k,h⟩
  ·rw[x9v k,List.find?_nil]at h;conv=>whnf
   repeat' ((first|refine x9g rfl ?_|(apply bD<;>intro _<;>try omega))<;>conv=>whnf)
   exact⟨_,.p (Sub.tup (SubL.cons OF (SubL.cons (Sub.ff rfl) SubL.nil))),by unfold O9;rw[<-h];first|done|rfl⟩
 ·have m:Ld p n=(Pr0,false):=by unfold Ld;rw[show KT p=false by assumption];rfl
  rw[m];exact⟨_,.p (Sub.tup (SubL.cons OF (SubL.cons (Sub.ff rfl) SubL.nil))),rfl⟩
def pureL:LV->LV
 |.p a=>.p a
 |_=>.p .any
def Al:List (Nat×LV)->List (Nat×LV)
 |[]=>[]
 |(j,l)::r=>(j,pureL l)::Al r
theorem Lb:∀(sl:List (Nat×LV))(i:Nat),getS (Al sl) i=pureL (getS sl i)
 |[],i=>rfl
 | (j,l)::r,i=>by
   rw[Al,getS,getS];cases j==i with
   |true=>rfl
   |false=>exact Lb r i
def JR{P:Program}{N:Nat}{g:FuncId}{args:List LV}{r:Option Nat}{s:St}{K:St->Prop}{avs:List AV}{R:AV->Prop}(M:SpecP P g avs R)(ha:FrzL s.H args avs)(h:∀c,R c->setD N (Al s.sl) r (.p c) fun sl=>K ⟨sl,[]⟩):CallK P N g args r s K:=by
 refine⟨fun σ β a w C m hn hv=>⟨M.go m,?_⟩⟩;obtain⟨y,t⟩:=ha.get;obtain⟨τ,L,Q,T,V⟩:=Qo C.heap;refine(M.ok τ w m (hn.trans y) (fun j c I=>?_) Q).mono fun e w' ⟨c,u,σ',he,Z,A,v,hl,q,z⟩=>?_
 .obtain ⟨l,F,B⟩:=t j c I;exact V l _ c (hv j l F) B
 .have J:Rel N σ' β ⟨Al s.sl,[]⟩ a w':=⟨C.size,C.defers,fun i=>by
   show RepL σ' β (getS (Al s.sl) i) _;rw[Lb];have:=C.E i;generalize getS s.sl i=l at this⊢;cases l with
   |p x=>exact this.mono (Mem.le_trans L v)
   |_=>exact .p (.any _),⟨hl,fun k c h=>(by cases h),z5z,fun k h=>(by cases h),fun k h=>(by cases h)⟩⟩
  obtain⟨sl,Y,d⟩:=J.setD (.p A) (h c Z);refine⟨u,σ',β,_,he,Y,d,Mem.le_trans L v,⟨q.os,q.tape,q.output,q.drawn,q.size,fun b hb _=>q.block b hb id⟩,fun b O F=>?_,fun b ⟨j,I,_⟩=>(by cases I),fun _ _ _=>rfl⟩;by_cases B:τ b=none
  .exact .inr (z b B F)
  .rcases T b B with G|G
   .exact absurd O G
   .exact .inl G
theorem AH(l:List Str)(B:l.length<=1000000000):SpecH prog 29 ([eStrs l].map .p) [] (OneRow (Gz (WH l)) False):=by
 refine sK DB func29 ?_;conv=>whnf
 refine iM fun _=>?_;have e:(l.map AV.str).length=l.length:=x8g _;conv=>whnf
 refine lJ (fun x:Nat×List Str=>⟨[(0,.p (eStrs l)),(3,.hd 0 0 x.2.length),(9,.p (.int .i64 (l.map AV.str).length)),(10,.j x.1)],[(0,.own 9 1 (x.2.map .str))]⟩) (fun x=>x.1<=l.length/\RiseI ltT l x.2 x.1) (fun x=>l.length-x.1) (0,[]) (lM [(0,.own 9 1 [])]) ⟨x8m _,RiseI.zero⟩ ?_;rintro⟨i,out⟩ ⟨w,t⟩;simp only at w t⊢;have A:=t.len ltT.irr;rcases x8a i l.length with d|d
 ·conv=>whnf
  repeat' ((first|(refine iM fun _=>?_)|(apply bD<;>intro _<;>try omega))<;>conv=>whnf)
  refine lJ (fun x:Nat×Option Str=>⟨[(0,.p (eStrs l)),(3,.hd 0 0 out.length),(4,.p (.str (x.2.getD []))),(5,.p (.bool x.2.isSome)),(9,.p (.int .i64 (l.map AV.str).length)),(10,.j i),(12,.p (eStrs l)),(13,.p (.int .i64 (l.map AV.str).length)),(14,.j x.1)],[(0,.own 9 1 (out.map .str))]⟩) (fun x=>x.1<=l.length/\LeastI ltT l out x.1 x.2) (fun x=>l.length-x.1) (0,none) (lE (hsl:=.r (.r (.r (.cons (.p (Sub.ff rfl)) (.r (.r (.r (.r (.r .nil)))))))))) ⟨x8m _,LeastI.zero⟩ ?_;rintro⟨k,o⟩ ⟨y,q⟩;simp only at y q⊢;rcases x8a k l.length with s|s
  ·have u:inS out l[k]=true->l[k]∈out:=KV.1;have v:inS out l[k]=false->l[k]∉out:=fun h g=>by rw[KV.2 g]at h;cases h
   cases o with
   | none=>
     simp only[Option.getD_none,Option.isSome_none];conv=>whnf
     repeat' ((first|(refine gX ?_;intros)|(refine QR (KL out (l[k]'s)) (.cons (.hd rfl (by simp)) (.cons (.p (Sub.refl _)) .nil)) (by rintro _ rfl;rfl) ?_;rintro _ rfl)|((first|apply bD|apply bN|apply bB)<;>intro _<;>try omega))<;>conv=>whnf)
     all_goals first
      |(exfalso;simp_all;done)
      |exact nX (k+1,none) ⟨by simp only;omega,q.old s (u (by assumption))⟩
      |exact⟨(k+1,some l[k]),⟨by simp only;omega,q.first s (v (by assumption))⟩,by simp only;omega,(lE (hsl:=.r (.r (.r (.cons (.p (Sub.tt rfl)) (.r (.r (.r (.r (.r .nil))))))))))⟩
   | some m=>
     simp only[x9i,Option.isSome_some];conv=>whnf
     repeat' ((first|(refine gX ?_;intros)|(refine QR (KL out (l[k]'s)) (.cons (.hd rfl (by simp)) (.cons (.p (Sub.refl _)) .nil)) (by rintro _ rfl;rfl) ?_;rintro _ rfl)|((first|apply bD|apply bN|apply bB)<;>intro _<;>try omega))<;>conv=>whnf)
     all_goals first
      |(exfalso;simp_all;done)
      |exact nX (k+1,some m) ⟨by simp only;omega,q.old s (u (by assumption))⟩
      |exact⟨(k+1,some l[k]),⟨by simp only;omega,q.less ltT.trans s (v (by assumption)) (by assumption)⟩,by simp only;omega,(lE (hsl:=.r (.r (.r (.cons (.p (Sub.tt rfl)) (.r (.r (.r (.r (.r .nil))))))))))⟩
      | (have c:Op.bytesLess l[k] m=false:=by assumption
         exact nX (k+1,some m) ⟨by simp only;omega,q.more (fun _ _=>ltT.total) s (fun h=>by unfold ltT at h;rw[c]at h;cases h)⟩)
  ·obtain rfl:k=l.length:=by omega
   cases o with
   | none=>
     simp only[Option.getD_none,Option.isSome_none];conv=>whnf
     repeat' ((first|refine gX ?_|((first|apply bD|apply bB)<;>intro _<;>try omega))<;>conv=>whnf)
     all_goals first
      |(exfalso;simp_all;done)
      |exact nX (i+1,out) ⟨by simp only;omega,t.stay q⟩
   | some m=>
     simp only[x9i,Option.isSome_some];conv=>whnf
     repeat' ((first|refine gX ?_|refine pS ?_|((first|apply bD|apply bB)<;>intro _<;>try omega))<;>conv=>whnf)
     all_goals first
      |(exfalso;simp_all;done)
      |exact⟨(i+1,out++[m]),⟨by simp only;omega,t.snoc q⟩,by simp only;omega,Le.of_eq (by simp only[x8d,x8i];rfl)⟩
 ·obtain⟨z,b⟩:=t.all ltT.irr (by omega);rw[<-Xd z b];conv=>whnf
  repeat' (apply bD<;>intro _<;>first|omega|conv=>whnf)
  exact z1z _ (x9j _) (OneRow.str rfl)
def LN(l:List Str)(k:l.length<=1000000000):aP 29 [eStrs l] (eStrs (WH l)):=(AH l k).toP (fun h=>h.elim) fun _ _ _ _ h=>h.2.2
def x1n{p:Pg}(h:KT p=true){f:Pr}(y:p.A[j]?=some f):(itsOf p j f).length=(flatU f).length/\∀(k:Nat)(v:k<(flatU f).length)(r:k<(itsOf p j f).length),(itsOf p j f)[k].s=(flatU f)[k].s:=by
 obtain⟨m,z⟩:=IL h y;have q:=x3q (j:Nat) 1 0 false f.body (-1) 0 (QC p.A j) z;have t:(itsOf p j f).length=(flatU f).length:=by simpa[itsOf,flatU]using z0o length q
 refine⟨t,fun k v r=>?_⟩;have u:=z0o (fun l=>l[k]?) q;have w:itL (j:Nat) 0 (-1) 0 (QC p.A j) f.body=itsOf p j f:=rfl;have e2:fuL 1 0 false f.body=flatU f:=rfl;rw[w,e2]at u;simp only[x8n,x8h v,x8h r,z1a]at u;exact z0o Prod.fst (z1e u)
section
variable {p:Pg}{j:Nat}{f:Pr}{n:Str}
end
def q5c{p:Pg}(h:QL p=true){f:Pr}(s:f∈p.A):∃k,p.A[k]?=some f/\Cl p f.name=some (QQ p k f):=by
 cases q:Cl p f.name with
 | none=>
   exfalso;unfold Cl at q;rw[h,x9y]at q;cases t:p.A.find? (fun g=>g.name==f.name)with
   | none=>
     have:=z3h.1 t _ s;simp at this
   |some g=>rw[t]at q;cases q
 | some w=>
   obtain⟨k,g,m,rfl,_,r,_⟩:=Rt q;have u:g=f:=Ku (Kq h) g (x9x m) f s r;subst u;exact⟨k,m,rfl⟩
theorem q3y{p:Pg}(h:QL p=true){f:Pr}(v:p.A[j]?=some f){y:Int}:y∈A9 (QQ p j f)↔0<y/\Rch (wR p j f) 0 y:=by
 have w:(QQ p j f).n=(QY f.body+2:Nat):=rfl;have r:∀i:Nat,1<=i->i<=QY f.body->QB p j (QY f.body+2:Nat) i=QC p.A j+i:=fun i m k=>by
  unfold QB loI;rw[if_neg (by omega),if_neg (by omega)];omega
 have q:∀i:Nat,1<=i->i<=QY f.body->(ixI p j f (QC p.A j+i)).toNat=i:=fun i m k=>by
  unfold ixI KU loI hiI
  (repeat' split)<;>omega
 unfold A9;rw[x8s];constructor
 ·rintro⟨i,u,rfl⟩;obtain⟨m,k⟩:=z0v.1 u;rw[w]at m;have b:=List.mem_range'_1.1 m;have z:=r i (by omega) (by omega);have e2:=q i (by omega) (by omega);show 0<QB p j (QY f.body+2:Nat) i/\Rch (wR p j f) 0 (QB p j (QY f.body+2:Nat) i);rw[z];refine⟨by omega,(Bo h v (.inr (.inr ⟨by omega,by omega⟩))).1 ?_⟩;rw[e2];exact k
 ·rintro⟨d,m⟩;have s:plP p j f y:=by
   cases m with
   |refl=>exact .inl rfl
   | tail _ k=>
     obtain⟨t,c,_,rfl⟩:=k;exact(VE h v t c).2
  have k:=(Bo h v s).2 m;rcases s with s|s|⟨b,e⟩
  ·omega
  ·omega
  obtain⟨i,u⟩ : ∃i:Nat,y=QC p.A j+i:=⟨(y-QC p.A j).toNat,by omega⟩;subst u;rw[q i (by omega) (by omega)]at k;refine⟨i,z0v.2 ⟨List.mem_range'_1.2 ⟨by omega,?_⟩,k⟩,r i (by omega) (by omega)⟩;rw[w];omega
section
variable {p:Pg}{j:Nat}{f:Pr}
end
section
variable {p:Pg}{j:Nat}{f:Pr}
end
def bkO(p:Pg)(O:List (List Str)):Book:=⟨sheetOf p,[],[],[],[],O⟩
def prA(p:Pg)(i:Nat):Pr:=p.A.getD i Pr0
def VB{p:Pg}{i:Nat}(h:i<p.A.length):p.A[i]?=some (prA p i):=by
 unfold prA;rw[x8f,x8h h];rfl
def VX{p:Pg}{i:Nat}{f:Pr}(h:p.A[i]?=some f):prA p i=f:=by
 unfold prA;rw[x8f,h];rfl
def dfB(p:Pg)(O:List (List Str)):List (List Str):=(sheetOf p).l.map fun h=>WH (LC (bkO p O) h.s)
def otA(p:Pg)(D:List (List Str))(i:Nat):List Str:=WH (Ri p i (prA p i) D (itsOf p i (prA p i)))
def otB(p:Pg)(D:List (List Str)):List (List Str):=(List.range p.A.length).map (otA p D)
def rdO(p:Pg)(O:List (List Str)):List (List Str):=otB p (dfB p O)
def itO(p:Pg):Nat->List (List Str)
 |0=>List.replicate p.A.length []
 |k+1=>rdO p (itO p k)
def YJ{l:List Str}(h:l.Pairwise ltT):l.Nodup:=List.Pairwise.imp (S:=fun a b=>a≠b) (fun {a b} (k:ltT a b)=>fun(m:a=b)=>ltT.irr b (by rw[m]at k;exact k)) h
def YA(l:List Str):(WH l).length<=l.length:=YF (YJ (ZU l)) fun s h=>WZ.1 h
structure OkO(p:Pg)(O:List (List Str)):Prop where
 len:O.length=p.A.length
 rise:∀o∈O,o.Pairwise ltT
 sub:∀i,i<p.A.length->∀n∈O.getD i [],outB p (prA p i) n=true
def BX{O:List (List Str)}(h:∀o∈O,o.Pairwise ltT)(i:Nat):(O.getD i []).Pairwise ltT:=by
 rw[x8f];rcases x8a i O.length with k|k
 .rw [x8h k];exact h _ (x8o k)
 .rw [z0d k];exact .nil
def Bx{p:Pg}{n:Str}:comB p n=true↔n=HM\/n∈p.F:=by
 unfold comB;simp only[z2s,z2k,z1b,exists_eq_right']
def q3e{p:Pg}{f:Pr}{n:Str}:outB p f n=true↔(n=HM\/n∈p.F)\/(⟨n,true⟩:Param)∈f.B:=by
 unfold outB;rw[z2s,Bx,z0w]
def Fc{p:Pg}(h:QL p=true)(i:Nat):(prA p i).B.length<=8:=by
 rcases x8a i p.A.length with k|k
 .exact (KH.1 (Th (QG h).1 (x9x (VB k)))).1
 .unfold prA;rw[x8f,z0d k];decide
theorem OkO.len25{p:Pg}{O:List (List Str)}(t:QL p=true)(h:OkO p O)(i:Nat):(O.getD i []).length<=25:=by
 rcases x8a i p.A.length with r|r
 ·have u:=YF (m:=HM::p.F++(prA p i).B.map Param.name) (YJ (BX h.rise i)) fun n v=>by
   rcases q3e.1 (h.sub i r n v)with(rfl|q)|q
   ·exact z0c _ x8p
   ·exact z0c _ (x8b _ q)
   ·exact z1t _ (x8s.2 ⟨_,q,rfl⟩)
  have q:=Fc t i;have w:=(XZ t).1;rw[x8d,x9s,x8g]at u;omega
 ·rw[x8f,z0d (by rw[h.len];exact r)];exact x8m _
def Uf{p:Pg}(h:QL p=true){t:S}(g:t∈UD p)(b:t.kind=4):∃k,k<p.A.length/\caI p t=(k:Nat)/\caP p t=prA p k/\(prA p k).name=t.C/\(prA p k).B.map Param.ref=t.args.map Arg.ref:=by
 obtain⟨_,e,ha,_⟩:=QG h;have u:=(Et e).1 ha t g b;unfold DA at u;rw[x9w]at u;have m:=u.2;cases s:p.A.find? (fun f=>f.name==t.C)with
 |none=>rw[s]at m;cases m
 | some f=>
   rw[s]at m;have d:t.C∈QK p:=x8s.2 ⟨f,z2o s,by simpa using z3s s⟩;obtain⟨k,w,z,_,v,c⟩:=Tq d;rw[s]at v;have r:p.A[k]=f:=(z1e v).symm;have y:prA p k=f:=by rw[<-r];exact VX (x8h w)
   have q:caI p t=(k:Nat):=z;refine⟨k,w,q,?_,?_,?_⟩
   .unfold caP;rw[q];rfl
   .rw [y,<-r];exact c
   .rw [y];unfold As at m;exact z1j m
theorem DR{p:Pg}(h:QL p=true){t:S}(u:t∈UD p)(r:t.kind=4):t.args.length=(caP p t).B.length/\t.args.length<=8:=by
 obtain⟨k,_,_,m,_,q⟩:=Uf h u r;have s:=z0o length q;rw[x8g,x8g]at s;have:=Fc h k;rw[m];omega
theorem OkO.call{p:Pg}{O:List (List Str)}(m:QL p=true)(h:OkO p O){b:Book}(w:b.s=sheetOf p)(u:b.zb=O){t:S}(v:t∈UD p)(q:t.kind=4):CallOk b t:=by
 obtain⟨k,A,y,z,_⟩:=Uf m v q;obtain⟨c,g⟩:=DR m v q;have e:b.s.p=p:=by rw[w];exact(QU p).1
 have r:caO b t=O.getD (caI p t).toNat []:=by unfold caO;rw[e,u]
 refine⟨by rw[e];omega,by rw[e];omega,by rw[e,u,h.len];exact x9z _,?_,?_,by rw[e];omega,by omega⟩
 ·rw[r];exact BX h.rise _
 ·rw[r];have:=h.len25 m (caI p t).toNat;omega
def EP{p:Pg}{O:List (List Str)}{b:Book}(k:b.s=sheetOf p)(h:b.zb=O)(t:S):LC b t=LC (bkO p O) t:=by
 unfold LC caO bkO;rw[k,h]
theorem Qr{p:Pg}{O:List (List Str)}(k:QL p=true)(h:OkO p O){t:S}(q:t∈UD p):(LC (bkO p O) t).length<=34:=by
 unfold LC
 (repeat' split)<;>try (simp;done)
 rename_i m;have w:=C3 t (caP p t) (caO (bkO p O) t) t.args.length;have r:=(DR k q m).2;have s:=h.len25 k (caI p t).toNat;have u:((caO (bkO p O) t).filter (comB p)).length<=(O.getD (caI p t).toNat []).length:=z0i _ _;show((if t.name=[]then []else [t.name])++Ow t (caP p t) (caO (bkO p O) t) t.args.length++(caO (bkO p O) t).filter (comB p)).length<=34;rw[x8d,x8d];have v:(if t.name=[]then []else [t.name]).length<=1:=by split<;>simp
 omega
def By(p:Pg)(O:List (List Str)):(dfB p O).length=(sheetOf p).l.length:=x8g _
def leO(O O':List (List Str)):Prop:=∀i n,n∈O.getD i []->n∈O'.getD i []
def Pq{t:S}{f:Pr}{O:List Str}{n:Str}:n∈Ow t f O t.args.length ↔ ∃x∈(t.args.zip f.B).take t.args.length,(x.1.ref=true/\x.2.name∈O)/\x.1.name=n:=by
 unfold Ow x3v;simp only[x8s,z0v,x9w,KV,and_assoc]
theorem EN{p:Pg}{O:List (List Str)}(h:leO O O'){t:S}{n:Str}(k:n∈LC (bkO p O) t):n∈LC (bkO p O') t:=by
 unfold LC at k⊢
 (repeat' split at k)
 ·rw[if_pos (by assumption)];exact k
 ·rw[if_neg (by assumption),if_pos (by assumption)];exact k
 ·rw[if_neg (by assumption),if_neg (by assumption),if_pos (by assumption)];exact k
 ·rw[if_neg (by assumption),if_neg (by assumption),if_neg (by assumption),if_pos (by assumption)];unfold q7n at k⊢;rcases x8e.1 k with k|k
  ·rcases x8e.1 k with k|k
   ·exact z0c _ (z0c _ k)
   ·refine z0c _ (z1t _ ?_);obtain⟨x,m,⟨q,r⟩,s⟩:=Pq.1 k;exact Pq.2 ⟨x,m,⟨q,h _ _ r⟩,s⟩
  ·obtain⟨m,q⟩:=z0v.1 k;exact z1t _ (z0v.2 ⟨h _ _ m,q⟩)
 ·cases k
def KI{α β:Type}{f:α->List β}{l:List α}{i:Nat}{n:β}:n∈(l.map f).getD i [] ↔ ∃x,l[i]?=some x/\n∈f x:=by
 rw[x8f,x8n];cases l[i]?with
 |none=>simp
 |some x=>simp
def q1t{p:Pg}{O:List (List Str)}(h:leO O O'):leO (dfB p O) (dfB p O'):=fun i n q=>by
 obtain⟨r,k,m⟩:=KI.1 q;exact KI.2 ⟨r,k,WZ.2 (EN h (WZ.1 m))⟩
def lvB(p:Pg)(i:Nat)(id:Int):Bool:=(QQ p i (prA p i)).live.getD (ixI p i (prA p i) id).toNat false
def q3i{p:Pg}{i:Nat}{D:List (List Str)}{n:Str}:n∈Ri p i (prA p i) D (itsOf p i (prA p i)) ↔ ∃h∈itsOf p i (prA p i),lvB p i h.s.id=true/\n∈Ze D h.s.id/\outB p (prA p i) n=true:=by
 unfold Ri;rw[x9m];refine z4u fun h=>and_congr_right fun _=>?_;unfold x1i lvB;cases(QQ p i (prA p i)).live.getD (ixI p i (prA p i) h.s.id).toNat false with
 |false=>simp
 |true=>simp[z0v]
def Tn{p:Pg}{D:List (List Str)}{i:Nat}(m:i<p.A.length){n:Str}:n∈(otB p D).getD i [] ↔ ∃it∈itsOf p i (prA p i),lvB p i it.s.id=true/\n∈Ze D it.s.id/\outB p (prA p i) n=true:=by
 unfold otB;rw[KI,<-q3i];constructor
 .rintro ⟨x,k,q⟩;rw[z2w m]at k;cases k;exact WZ.1 q
 .exact fun h=>⟨i,z2w m,WZ.2 h⟩
def q3a{p:Pg}{D q:List (List Str)}(h:leO D q):leO (otB p D) (otB p q):=fun i n r=>by
 rcases x8a i p.A.length with m|m
 .obtain ⟨v,k,s,t,u⟩:=(Tn m).1 r;exact(Tn m).2 ⟨v,k,s,h _ _ t,u⟩
 .obtain ⟨x,k,_⟩:=KI.1 r;rw[z0d (by simpa using m)]at k;cases k
def q4f{p:Pg}{O:List (List Str)}(h:leO O O'):leO (rdO p O) (rdO p O'):=q3a (q1t h)
theorem q6h(p:Pg):∀k,leO (itO p k) (itO p (k+1))
 | 0=>fun i n h=>by
   unfold itO at h;rw[x8f,x9l]at h;split at h<;>cases h
 |k+1=>q4f (q6h p k)
def q6l(p:Pg)(D:List (List Str)):OkO p (otB p D):=by
 refine⟨by unfold otB;rw[x8g,z1w],fun o q=>?_,fun i k n m=>?_⟩
 .obtain ⟨i,_,rfl⟩:=x8s.1 q;exact ZU _
 .obtain ⟨r,_,_,_,h⟩:=(Tn k).1 m;exact h
def Js(p:Pg):∀k,OkO p (itO p k)
 | 0=>by
   refine⟨by unfold itO;rw[z0g],fun o m=>?_,fun i q n h=>?_⟩
   .rw [z0s m];exact .nil
   .unfold itO at h;rw[x8f,x9l]at h;split at h<;>cases h
 |k+1=>q6l p _
def tot(O:List (List Str)):Nat:=(O.map length).sum
def q3w{a b:List Str}{O:List (List Str)}(h:leO (a::O) (b::O')):(∀n∈a,n∈b)/\leO O O':=⟨fun n k=>h 0 n k,fun i n k=>h (i+1) n k⟩
theorem q5k{a b:List Str}(ha:a.Pairwise ltT)(r:b.Pairwise ltT)(q:∀n∈a,n∈b)(u:b.length<=a.length):a=b:=by
 refine Px ltT.irr ltT.trans ha r fun s=>⟨q s,fun h=>?_⟩;refine z1c fun t=>?_;have:=YF (l:=s::a) (m:=b) (z0h.2 ⟨t,YJ ha⟩) fun n k=>by
  rcases x8r.1 k with rfl|k
  ·exact h
  ·exact q n k
 rw[x9s]at this;omega
theorem OL:∀{O O':List (List Str)},O.length=O'.length->(∀o∈O,o.Pairwise ltT)->(∀o∈O',o.Pairwise ltT)->leO O O'->tot O<=tot O'/\(tot O'<=tot O->O=O')
 |[],[],_,_,_,_=>⟨x9z _,fun _=>rfl⟩
 |[],_::_,h,_,_,_=>by cases h
 |_::_,[],h,_,_,_=>by cases h
 | a::O,b::O',hl,h1,h2,h=>by
   obtain⟨m,q⟩:=q3w h;obtain⟨t,r⟩:=OL (O:=O) (O':=O') (by simpa using hl) (fun o k=>h1 o (x8b _ k)) (fun o k=>h2 o (x8b _ k)) q;have ha:=h1 a x8p;have s:=h2 b x8p;have u:=YF (YJ ha) m;have e:∀(x:List Str)(l:List (List Str)),tot (x::l)=x.length+tot l:=fun x l=>by unfold tot;rw[x9f,z4g]
   rw[e,e];exact⟨by omega,fun v=>by rw[q5k ha s m (by omega),r (by omega)]⟩
theorem Pn:∀{O:List (List Str)},(∀o∈O,o.length<=25)->tot O<=25*O.length
 |[],_=>x9z _
 | a::O,h=>by
   have m:=Pn (O:=O) fun o k=>h o (x8b _ k);have q:=h a x8p;have e:tot (a::O)=a.length+tot O:=by unfold tot;rw[x9f,z4g]
   rw[e,x9s];omega
theorem OkO.tot{p:Pg}{O:List (List Str)}(m:QL p=true)(h:OkO p O):Go.Ab.tot O<=400:=by
 have q:=Pn (O:=O) fun o t=>by
  obtain⟨i,r,rfl⟩:=z0l.1 t;have:=h.len25 m i
  rwa[x8f,x8h r]at this
 have u:=(XZ m).2.1;rw[h.len]at q;omega
def SX{p:Pg}{k:Nat}(h:itO p (k+1)≠itO p k):Go.Ab.tot (itO p k)<Go.Ab.tot (itO p (k+1)):=by
 obtain⟨r,q⟩:=OL (O:=itO p k) (O':=itO p (k+1)) (by rw[(Js p k).len,(Js p (k+1)).len]) (Js p k).rise (Js p (k+1)).rise (q6h p k);rcases x8a (Go.Ab.tot (itO p k)) (Go.Ab.tot (itO p (k+1)))with m|m
 .exact m
 .exact absurd (q m).symm h
section
variable (p:Pg)(i:Nat)(f:Pr)(D U:List (List Str))(o:List Str)(x:Str)
def idN(a:Int):Int:=QB p i (QY f.body+2:Nat) a
def hitN(a:Int):Bool:=bif decide (a=(QY f.body+2:Nat)-1)then inS o x else bif decide (0<a)then inS (Ze U (idN p i f a)) x else false
def Xy(a:Int):Bool:=bif decide (a=(QY f.body+2:Nat)-1)then false else bif decide (0<a)then !inS (Ze D (idN p i f a)) x else true
def netR(p:Pg)(i:Nat)(f:Pr):List (List Int):=YQ (QY f.body+2) (GL (QQ p i f) f)
def x4q:List (Int×Int):=(GL (QQ p i f) f).filter fun t=>Xy p i f D x t.1
def E2:Bool:=(DZ 0 (WX (QA (QY f.body+2) (x4q p i f D x)).1 [0])).any (hitN p i f U o x)
end
section
variable {p:Pg}{i:Nat}{f:Pr}{D U:List (List Str)}{o:List Str}{x:Str}
def nR(p:Pg)(i:Nat)(f:Pr)(D:List (List Str))(x:Str)(a b:Int):Prop:=Xy p i f D x a=true/\(a,b)∈GL (QQ p i f) f
theorem Xq(h:QL p=true)(q:p.A[i]?=some f):E2 p i f D U o x=true ↔ ∃a,Rch (nR p i f D x) 0 a/\hitN p i f U o x a=true:=by
 unfold E2;rw[z1b];refine z4u fun a=>and_congr_left fun _=>?_;rw[Jn (by omega)];have e:∀a b,((a,b)∈x4q p i f D x/\ZT (QY f.body+2) b=true)↔nR p i f D x a b:=fun a b=>by
  unfold x4q nR;rw[z0v];constructor
  ·exact fun k=>⟨k.1.2,k.1.1⟩
  ·intro k;have m:=(FF h q _ k.2).2;exact⟨⟨k.2,k.1⟩,by unfold ZT;simp;omega⟩
 exact⟨fun k=>k.mono fun a b m=>(e a b).1 m,fun k=>k.mono fun a b m=>(e a b).2 m⟩
def Tb(h:QL p=true)(t:p.A[i]?=some f){S:Int->Prop}(m:S 0)(q:∀a,S a->hitN p i f U o x a=false)(r:∀a b,S a->nR p i f D x a b->S b):E2 p i f D U o x=false:=by
 cases u:E2 p i f D U o x with
 |false=>rfl
 | true=>
   obtain⟨a,s,k⟩:=(Xq h t).1 u;rw[q a (Rch.closed r m s)]at k;cases k
structure NedI(p:Pg)(i:Nat)(f:Pr)(D U:List (List Str))(o:List Str)(x:Str)(n:Nat)(seen:List Bool)(todo:List Int):Prop where
 len:seen.length=n
 rng:∀a∈todo,0<=a/\a<(n:Int)
 way:∀a:Int,(a=0\/seen.getD a.toNat false=true/\0<=a)->Rch (nR p i f D x) 0 a
 td:∀a∈todo,a=0\/seen.getD a.toNat false=true/\0<=a
 done:∀a:Int,(a=0\/seen.getD a.toNat false=true/\0<=a)->a∉todo->hitN p i f U o x a=false/\∀b,nR p i f D x a b->seen.getD b.toNat false=true
structure NedJ(p:Pg)(i:Nat)(f:Pr)(D U:List (List Str))(o:List Str)(x:Str)(n:Nat)(a:Int)(k:Nat)(seen:List Bool)(todo:List Int):Prop where
 len:seen.length=n
 rng:∀a∈todo,0<=a/\a<(n:Int)
 way:∀a:Int,(a=0\/seen.getD a.toNat false=true/\0<=a)->Rch (nR p i f D x) 0 a
 td:∀a∈todo,a=0\/seen.getD a.toNat false=true/\0<=a
 me:Rch (nR p i f D x) 0 a
 done:∀b:Int,(b=0\/seen.getD b.toNat false=true/\0<=b)->b∉todo->b≠a->hitN p i f U o x b=false/\∀c,nR p i f D x b c->seen.getD c.toNat false=true
 row:∀c∈((netR p i f).getD a.toNat []).take k,seen.getD c.toNat false=true
def q9d{k:Nat}(h:(l.set k true).getD j false=true):j=k\/l.getD j false=true:=by
 rcases Nat.decEq j k with m|rfl
 .right
  rwa[x8f,z0z (z2x m),<-x8f]at h
 .exact .inl rfl
def T8{k:Nat}(h:l.getD j false=true):(l.set k true).getD j false=true:=by
 rcases Nat.decEq j k with q|rfl
 .rwa [x8f,z0z (z2x q),<-x8f]
 .have r:j<l.length:=by
   rcases x8a j l.length with m|m
   .exact m
   .rw [x8f,z0d m]at h;cases h
  rw[x8f,x9a r];rfl
def q6c{k:Nat}(h:k<l.length):(l.set k true).getD k false=true:=by
 rw[x8f,x9a h];rfl
variable {n:Nat}{seen:List Bool}{todo:List Int}{a:Int}
theorem NedI.start(n:Nat)(q:0<n):NedI p i f D U o x n (List.replicate n false) [0]:=by
 have m:∀k:Nat,(List.replicate n false).getD k false=true->False:=fun k h=>by
  rw[x8f,x9l]at h;split at h<;>cases h
 refine⟨z0g,fun a ha=>by rw[x8l.1 ha];omega,fun a ha=>?_,fun a ha=>.inl (x8l.1 ha),fun a ha q=>?_⟩
 ·rcases ha with rfl|⟨h,_⟩
  ·exact .refl
  ·exact(m _ h).elim
 ·rcases ha with rfl|⟨h,_⟩
  ·exact absurd (x8l.2 rfl) q
  ·exact(m _ h).elim
theorem NedI.stop(h:QL p=true)(r:p.A[i]?=some f)(m:NedI p i f D U o x n seen []):E2 p i f D U o x=false:=by
 refine Tb h r (S:=fun a=>a=0\/seen.getD a.toNat false=true/\0<=a) (.inl rfl) (fun a ha=>(m.done a ha (by simp)).1) fun a b ha q=>?_;have t:=(m.done a ha (by simp)).2 b q;have u:=(FF h r _ q.2).2;exact .inr ⟨t,u.1⟩
theorem NedI.skip(m:NedI p i f D U o x n seen (todo++[a]))(v:hitN p i f U o x a=false)(t:Xy p i f D x a=false):NedI p i f D U o x n seen todo:=by
 refine⟨m.len,fun b q=>m.rng b (z0c _ q),m.way,fun b q=>m.td b (z0c _ q),fun b q y=>?_⟩;by_cases u:b=a
 .subst u;exact⟨v,fun c w=>by rw[w.1]at t;cases t⟩
 .exact m.done b q fun r=>(x8e.1 r).elim y fun r=>u (x8l.1 r)
theorem NedI.open(m:NedI p i f D U o x n seen (todo++[a])):NedJ p i f D U o x n a 0 seen todo:=
 ⟨m.len,fun b q=>m.rng b (z0c _ q),m.way,fun b q=>m.td b (z0c _ q),m.way a (m.td a (z1t _ (x8l.2 rfl))),
   fun b q v u=>m.done b q fun r=>(x8e.1 r).elim v fun r=>u (x8l.1 r),fun c t=>by rw[z5s]at t;cases t⟩
theorem NedJ.shut(h:QL p=true)(u:p.A[i]?=some f){k:Nat}(m:NedJ p i f D U o x n a k seen todo)(y:((netR p i f).getD a.toNat []).length<=k)(v:hitN p i f U o x a=false):NedI p i f D U o x n seen todo:=by
 refine⟨m.len,m.rng,m.way,m.td,fun b w z=>?_⟩;by_cases r:b=a
 ·subst r;refine⟨v,fun c q=>m.row c ?_⟩;rw[x9q y];exact(Kv fun t e=>(FF h u t e).1).2 ⟨(b,c),q.2,by have:=(FF h u _ q.2).1;simp only at this⊢;omega,rfl⟩
 ·exact m.done b w z r
theorem NedJ.old{k:Nat}(m:NedJ p i f D U o x n a k seen todo)(t:k<((netR p i f).getD a.toNat []).length)(u:seen.getD (((netR p i f).getD a.toNat [])[k]).toNat false=true):NedJ p i f D U o x n a (k+1) seen todo:=by
 refine⟨m.len,m.rng,m.way,m.td,m.me,m.done,fun c r=>?_⟩;rcases(ZK t).1 r with q|rfl
 .exact m.row c q
 .exact u
theorem NedJ.new{k:Nat}(r:NedJ p i f D U o x n a k seen todo)(C:k<((netR p i f).getD a.toNat []).length){c:Int}(g:c=((netR p i f).getD a.toNat [])[k])(z:0<=c/\c<(n:Int))(e:nR p i f D x a c):NedJ p i f D U o x n a (k+1) (seen.set c.toNat true) (todo++[c]):=by
 have w:c.toNat<seen.length:=by rw[r.len];omega
 have u:∀b:Int,(b=0\/(seen.set c.toNat true).getD b.toNat false=true/\0<=b)->b=c\/(b=0\/seen.getD b.toNat false=true/\0<=b):=fun b q=>by
  rcases q with m|⟨m,t⟩
  ·exact .inr (.inl m)
  ·rcases q9d m with v|v
   ·exact .inl (by omega)
   ·exact .inr (.inr ⟨v,t⟩)
 refine⟨by rw[z0m];exact r.len,fun b q=>?_,fun b q=>?_,fun b q=>?_,r.me,fun b q y B=>?_,fun b q=>?_⟩
 ·rcases x8e.1 q with m|m
  ·exact r.rng b m
  ·rw[x8l.1 m];exact z
 ·rcases u b q with rfl|m
  ·exact .tail r.me e
  ·exact r.way b m
 ·rcases x8e.1 q with m|m
  ·rcases r.td b m with t|t
   ·exact .inl t
   ·exact .inr ⟨T8 t.1,t.2⟩
  ·rw[x8l.1 m];exact .inr ⟨q6c w,z.1⟩
 ·rcases u b q with rfl|m
  ·exact absurd (z1t _ (x8l.2 rfl)) y
  ·obtain⟨t,v⟩:=r.done b m (fun h=>y (z0c _ h)) B;exact⟨t,fun d A=>T8 (v d A)⟩
 ·rcases(ZK C).1 q with m|m
  ·exact T8 (r.row b m)
  ·rw[m,<-g];exact q6c w
end
def Se(p:Pg)(i:Nat)(f:Pr)(D U:List (List Str))(o:List Str):List Str:=(p.F++[HM]).filter (E2 p i f D U o)
def fzL{N:Nat}{a b c d e:AV}{L:List Str}{n:Nat}(m:n=(L.map AV.str).length):
  Le N ⟨[(0,.p a),(1,.p b),(5,.p .nils),(6,.p c),(27,.hd 0 0 n),(28,.p d),(29,.p e)],[(0,.own 9 1 (L.map .str))]⟩ ⟨[(0,.p a),(1,.p b),(5,.hd 0 0 0),(6,.p c),(27,.p (eStrs L)),(28,.p d),(29,.p e)],[(0,.own 9 1 [])]⟩:=by
 subst m;obtain⟨s',rfl,h⟩:=Le.row (N:=N) (s:=⟨[(0,.p a),(1,.p b),(5,.p .nils),(6,.p c),(27,.hd 0 0 (L.map AV.str).length),(28,.p d),(29,.p e)],[(0,.own 9 1 (L.map .str))]⟩) (k:=0) (e:=9) (sz:=1) (es:=L.map .str) (zs:=[27]) rfl
  (K:=fun s=>s=⟨[(0,.p a),(1,.p b),(5,.p .nils),(6,.p c),(27,.p (eStrs L)),(28,.p d),(29,.p e)],[]⟩) ⟨rfl,rfl⟩
 exact h.trans (lM [(0,.own 9 1 [])])
theorem Bb(b:Book)(p:Pg)(Q:b.s=sheetOf p)(h:QL p=true)(i:Nat)(f:Pr)(k:p.A[i]?=some f)(N:b.ways[i]?=some (QQ p i f))(o:List Str)(K:∀x,aP 166 [.ip b.cells,.int .i64 i,eMat (netR p i f),.str x] (.bool (E2 p i f b.Y b.za o x))):SpecH prog 109 [.p (.ip b.cells),.j i] [] (fun r H=>OneRow (Gz (Se p i f b.Y b.za o)) False r H):=by
 refine sK Y9 func109 ?_;conv=>whnf
 have C:b.s.p=p:=by rw[Q];exact(QU p).1
 have T:=(XZ h).1;have O:=Bw h k;have B:=TF (QQ p i f) f (QY f.body+2) (q7x h k) (FF h k) (by omega);have v:aP 164 [.ip (QQ p i f).cells] (eMat (netR p i f)):=B;have g:SpecH prog 165 ([eStrs p.F].map .p) [] (OneRow (Gz p.F) (p.F=[])):=XQ p.F (by omega);have E:(b.ways.map fun w=>AV.ip w.cells)[i]?=some (.ip (QQ p i f).cells):=by rw[x8n,N];rfl
 generalize QQ p i f=w at*
 generalize netR p i f=net at*
 repeat' ((first|refine iT E ?_|refine cP v ?_)<;>conv=>whnf)
 obtain⟨L,d⟩ : ∃L,L=p.F++[HM]:=⟨_,rfl⟩;have J:L.length<=17:=by rw[d,x8d];simp;omega
 have y:Se p i f b.Y b.za o=L.filter (E2 p i f b.Y b.za o):=by unfold Se;rw[d]
 rw[y];generalize E2 p i f b.Y b.za o=ned at*
 refine WR 0 rfl g (.cons (.p (Sub.of_eq (by rw[C]))) .nil) (fun z=>?_) (fun q e sz es M=>?_);rotate_left;obtain⟨rfl,rfl,rfl⟩:=M
 rotate_right
 all_goals
  conv=>whnf
  repeat' ((first|(refine gX ?_;intros)|refine WF (es:=[]) rfl (by simp) ?_|refine pS ?_)<;>conv=>whnf)
 all_goals
  refine lJ (fun x:Nat×List Str=>⟨[(0,.p (.ip b.cells)),(1,.j i),(5,.hd 0 0 x.2.length),(6,.p (eMat net)),(27,.p (eStrs L)),(28,.p (.int .i64 (L.map AV.str).length)),(29,.j x.1)],[(0,.own 9 1 (x.2.map .str))]⟩) (fun x=>x.1<=L.length/\x.2=(L.take x.1).filter ned/\x.2.length<=x.1) (fun x=>L.length-x.1) (0,[]) (by first
    |exact Le.trans (Le.of_eq (by rw[d,z];rfl)) (fzL (L:=L) rfl)
    |exact Le.trans (Le.of_eq (by rw[d];simp only[x8i,x8d];rfl)) (fzL (L:=L) rfl)
    |trace_state) ⟨x8m _,by simp,by simp⟩ ?_
  rintro⟨j,m⟩ ⟨G,t,I⟩;simp only at G t I⊢;have P:(L.map AV.str).length=L.length:=x8g _;rcases x8a j L.length with k|k
  ·have c:=x8c k;have u:=K L[j];have R:(L.map AV.str)[j]?=some (.str L[j]):=by simp[k]
   cases hnd:ned L[j];all_goals
    rw[hnd]at u;conv=>whnf
    repeat' ((first|(refine gX ?_;intros)|refine cP u ?_|refine WF (by simp) (by rw[x8g];omega) ?_|refine Br.tt ?_|refine Br.ff ?_|(apply bD<;>intro _<;>try omega))<;>conv=>whnf)
   all_goals first
    |exact⟨(j+1,m++[L[j]]),⟨k,by simp only;rw[c,z0b,z1l hnd,t];rfl,by simp;omega⟩,by simp only;omega,Le.of_eq (by simp only[x8d,x8i];rfl)⟩
    |exact nX (j+1,m) ⟨k,by simp only;rw[c,z0b,z2z (by rw[hnd];decide),t];simp,by simp only;omega⟩
  ·rw[x9q k]at t;subst t;conv=>whnf
   repeat' (apply bD<;>intro _<;>first|omega|conv=>whnf)
   all_goals exact z1z _ (x9j _) (OneRow.str rfl)
def FP(h:Str)(k id:Int)(n:Str):Vx:=⟨h,k,id,n⟩
theorem Xj(b:AV)(i:Int)(f:Pr)(vs:List Vx)(k id:Int)(sl:List Str)(t:vs.length+sl.length<=100000000):aH 114 [.ptr 1000 0,.j k,.j id,.p (eStrs sl)] (vH b i f vs) (.p (.tup [])) (vH b i f (vs++sl.map (FP f.name k id))):=by
 refine sK Zn func114 ?_;conv=>whnf
 repeat' ((first|(refine gX ?_;intros)|refine dA ?_|((first|apply bD|apply bE|apply bN|apply bB)<;>intro _<;>try omega))<;>conv=>whnf)
 have s:(sl.map AV.str).length=sl.length:=x8g _;refine lJ (fun j:Nat=>⟨[(0,.ptr 1000 0),(1,.j k),(2,.j id),(10,.p (eStrs sl)),(11,.p (.int .i64 (sl.map AV.str).length)),(12,.j j)],vH b i f (vs++(sl.take j).map (FP f.name k id))⟩) (fun j=>j<=sl.length) (fun j=>sl.length-j) 0 (Le.of_eq (by rw[z5s,z4v,x9c];rfl)) (x8m _) ?_;intro j r;rcases x8a j sl.length with h|h;rotate_left 1
 ·rw[x9q h];conv=>whnf
  repeat' ((first|(refine gX ?_;intros)|refine dA ?_|((first|apply bD|apply bE|apply bN|apply bB)<;>intro _<;>try omega))<;>conv=>whnf)
  exact⟨_,x9j _,rfl,rfl⟩
 have e:vs++(sl.take (j+1)).map (FP f.name k id)=(vs++(sl.take j).map (FP f.name k id))++[FP f.name k id sl[j]]:=by
  rw[x8c h,x8i,x9u];rfl
 have q:(vs++(sl.take j).map (FP f.name k id)).length<=vs.length+j:=by simp;omega
 generalize vs++(sl.take j).map (FP f.name k id)=acc at*
 have m:(avV acc).length=acc.length:=x8g _;conv=>whnf
 repeat' ((first|(refine gX ?_;intros)|refine dA ?_|refine pA 1 48 m.symm ?_|((first|apply bD|apply bE|apply bN|apply bB)<;>intro _<;>try omega)|(refine cH [(1000,1000),(1001,2000)] 0 (Xg b i f acc k id (sl[j]'h)) ?_)|refine x9g ?_ ?_)<;>conv=>whnf)
 all_goals exact⟨j+1,by omega,by omega,Le.of_eq (by rw[e];simp only[vH,pcO,avV,x8i,x8d];rfl)⟩
theorem HD(b:AV)(i:Int)(f:Pr)(es:List Eg)(x y:Vx)(k:Int)(m:es.length<=100000000):aH 73 [.ptr 1000 0,.p (.agg x.cells),.p (.agg y.cells),.j k] (eH b i f es) (.p (.tup [])) (eH b i f (es++[⟨x,y,k⟩])):=by
 refine sK Qy func73 ?_;have h:(avE es).length=es.length:=x8g _;conv=>whnf
 repeat' ((first|(refine gX ?_;intros)|refine dA ?_|refine pA 1 104 h.symm ?_|((first|apply bD|apply bE|apply bN|apply bB)<;>intro _<;>try omega)|refine x9g ?_ ?_)<;>conv=>whnf)
 all_goals exact⟨_,x9j _,rfl,by simp only[eH,pcO,avE,x8i,x8d];rfl⟩
theorem LR(n:Str):aP 169 [.str n] (.bool (n==retS)):=by
 refine sC DN func169 ?_;conv=>whnf
 repeat' ((first|(refine gX ?_;intros)|refine dA ?_|((first|apply bD|apply bE|apply bN|apply bB)<;>intro _<;>try omega))<;>conv=>whnf)
 all_goals exact RetK.p rfl
theorem x1p(l:List Str)(g:Nat)(p:Str->Bool)(m:∀s,aP g [.str s] (.bool (p s))):aP 156 [eStrs l,.fn g []] (.int .i64 (idxF p l)):=by
 refine sC ZY func156 ?_;conv=>whnf
 refine iM fun _=>?_;have r:(l.map AV.str).length=l.length:=x8g _;conv=>whnf
 refine lI (fun j:Nat=>⟨[(0,.p (eStrs l)),(1,.p (.fn g [])),(7,.p (.int .i64 (l.map AV.str).length)),(8,.j j)],[]⟩) (fun j=>j<=l.length/\(l.drop j).any p=l.any p/\l.findIdx p=j+(l.drop j).findIdx p) (fun j=>l.length-j) 0 ⟨x8m _,rfl,by simp⟩ ?_;rintro j ⟨q,h,k⟩;conv=>whnf
 repeat' ((first|(refine gX ?_;intros)|refine dA ?_|refine cP (m _) ?_|((first|apply bD|apply bE|apply bN|apply bB)<;>intro _<;>try omega))<;>conv=>whnf)
 ·exact RetK.int (Us (p:=p) (by omega) (by assumption) h k).symm
 ·exact nX (j+1) ⟨by omega,by rw[<-h,Vq (p:=p) (by omega) (by assumption)],by rw[k,q1i (p:=p) (by omega) (by assumption)];omega⟩
 ·exact RetK.int (by rw[Bl];rw[<-h,DL (by omega)])
theorem q8k{l:List Str}{p:Str->Bool}(h:l.any p=true):∃(k:Nat) (m:k<l.length),idxF p l=k/\p l[k]=true/\(l.take k).filter (fun s=> !p s)=l.take k:=by
 have m:l.findIdx p<l.length:=List.findIdx_lt_length_of_exists (z1b.1 h);refine⟨l.findIdx p,m,by unfold idxF;rw[h];rfl,List.findIdx_getElem,List.filter_eq_self.2 fun s q=>?_⟩;obtain⟨j,r,rfl⟩:=List.mem_take_iff_getElem.1 q;have:=List.not_of_lt_findIdx (p:=p) (xs:=l) (i:=j) (by omega);simp[this]
theorem q7c(l:List Str)(d:l.length<=1000000)(g:Nat)(p:Str->Bool)(A:∀s,aP g [.str s] (.bool (p s))):aH 168 [.hd 1000 0 l.length,.p (.fn g [])] [(1000,.own 9 1 (l.map .str))] (.hd 1000 0 (l.filter fun s=> !p s).length) [(1000,.own 9 1 ((l.filter fun s=> !p s).map .str))]:=by
 refine sK UJ func168 ?_;have t:=x1p l g p A;have K:(l.map AV.str).length=l.length:=x8g _;cases ha:l.any p with
 | false=>
   have e0:idxF p l = -1:=by unfold idxF;rw[ha];rfl
   have e:l.filter (fun s=> !p s)=l:=List.filter_eq_self.2 fun s J=>by
    have:=z4h.1 ha s J;simpa using this
   rw[e];rw[e0]at t;conv=>whnf
   repeat' ((first|(refine gX ?_;intros)|refine dA ?_|((first|apply bD|apply bE|apply bN|apply bB)<;>intro _<;>try omega)|(refine QR t (.cons (.hd rfl (by simp)) (.cons (.p (Sub.refl _)) .nil)) (by rintro _ rfl;rfl) ?_;rintro _ rfl))<;>conv=>whnf)
   all_goals exact⟨_,x9j _,rfl,rfl⟩
 | true=>
   obtain⟨k,I,e0,z,q⟩:=q8k ha;rw[e0]at t;conv=>whnf
   repeat' ((first|(refine gX ?_;intros)|refine dA ?_|((first|apply bD|apply bE|apply bN|apply bB)<;>intro _<;>try omega)|(refine QR t (.cons (.hd rfl (by simp)) (.cons (.p (Sub.refl _)) .nil)) (by rintro _ rfl;rfl) ?_;rintro _ rfl))<;>conv=>whnf)
   refine lI (fun x:Nat×Nat×List Str=>⟨[(0,.hd 1000 0 l.length),(1,.p (.fn g [])),(5,.j x.2.1),(6,.j x.1)],[(1000,.own 9 1 (x.2.2.map .str))]⟩) (fun x=>x.2.1<x.1/\x.1<=l.length/\x.2.2.length=l.length/\x.2.2.drop x.1=l.drop x.1/\x.2.2.take x.2.1++(l.drop x.1).filter (fun s=> !p s)=l.filter fun s=> !p s) (fun x=>l.length-x.1) (k+1,k,l) ⟨by simp only;omega,by simp only;omega,rfl,rfl,by
     simp only;rw[<-q,<-z0b];have B:l=l.take k++l[k]::l.drop (k+1):=by rw[<-x9t I,z5w]
     conv=>rhs;rw[B]
     rw[z0b,z0b,z2a,z];simp⟩ ?_
   rintro⟨j,i,es⟩ ⟨F,G,r,w,h⟩;simp only at F G r w h⊢;have H:(es.map AV.str).length=l.length:=by simp[r]
   rcases x8a j l.length with u|u;rotate_left 1
   ·rw[x9v u,List.filter_nil,x9c]at h;conv=>whnf
    repeat' ((first|(refine gX ?_;intros)|refine dA ?_|refine z4b i l.length rfl rfl (by omega) (by omega) ?_|refine z4b 0 i rfl rfl (by omega) (by omega) ?_|((first|apply bD|apply bE|apply bN|apply bB)<;>intro _<;>try omega))<;>conv=>whnf)
    refine OpK.clear XD rfl rfl rfl rfl rfl rfl rfl (by kernel_rfl) (by decide) ?_;conv=>whnf
    repeat' ((first|(refine gX ?_;intros)|refine dA ?_|refine z4b 0 i rfl rfl (by omega) (by omega) ?_|((first|apply bD|apply bE|apply bN|apply bB)<;>intro _<;>try omega))<;>conv=>whnf)
    have y:i=(l.filter fun s=> !p s).length:=by rw[<-h];simp;omega
    exact⟨_,z3y (by rw[<-y];rfl),rfl,by rw[z1h,<-h];simp[List.map_take]⟩
   have C:es[j]?=some l[j]:=by
    have:=z0o (fun x=>x[0]?) w;simp only[z0p,z3q]at this;rw[this,x8h u]
   have b:(es.map AV.str)[j]?=some (.str l[j]):=by simp[C]
   have y:i<es.length:=by omega
   have E:(es.map AV.str)[i]?=some (.str es[i]):=by simp[y]
   have c:es.drop (j+1)=l.drop (j+1):=by
    have:=z0o (List.drop 1) w;simpa only[z5x]using this
   rw[x9t u,z2a]at h;have v:=A l[j];cases m:p l[j]with
   | true=>
     rw[m]at v h;conv=>whnf
     repeat' ((first|(refine gX ?_;intros)|refine dA ?_|refine iO j ?_|refine lO b ?_|refine cP v ?_|refine Br.tt ?_|refine Br.ff ?_|((first|apply bD|apply bE|apply bN|apply bB)<;>intro _<;>try omega))<;>conv=>whnf)
     all_goals exact nX (j+1,i,es) ⟨by simp only;omega,by simp only;omega,r,c,by simpa using h⟩
   | false=>
     rw[m]at v h;conv=>whnf
     repeat' ((first|(refine gX ?_;intros)|refine dA ?_|refine iO j ?_|refine lO b ?_|refine cP v ?_|refine Br.tt ?_|refine Br.ff ?_|refine iO i ?_|refine sO (.str l[j]) E ?_|((first|apply bD|apply bE|apply bN|apply bB)<;>intro _<;>try omega))<;>conv=>whnf)
     all_goals exact⟨(j+1,i+1,es.set i l[j]),⟨by simp only;omega,by simp only;omega,by simp only[z0m];exact r,by rw[List.drop_set_of_lt (by omega)];exact c,by
      simp only;rw[<-h,x8c (by simp;omega),List.take_set_of_le (by omega),List.getElem_set_self,x9u];simp⟩,by simp only;omega,Le.of_eq (by simp only[z0q];rfl)⟩
def slI(I:List Str)(f:Pr):List Str:=UF (I++f.B.map Param.name)
def slO(O:List Str):List Str:=UF (O++[retS])
theorem Gn(b:Book)(p:Pg)(N:b.s=sheetOf p)(i:Nat)(f:Pr)(M:p.A[i]?=some f)(Q:f.B.length<=1000000)(I O:List Str)(J:b.ins[i]?=some I)(K:b.zb[i]?=some O)(w:I.length<=1000000)(y:O.length<=1000000):aH 113 [.p (.ip b.cells),.j i] [] (.tup [.hd 0 0 (slI I f).length,.hd 1 0 (slO O).length]) [(1,.own 9 1 ((slO O).map .str)),(0,.own 9 1 ((slI I f).map .str))]:=by
 refine sK B1 func113 ?_;conv=>whnf
 have c:b.s.p=p:=by rw[N];exact(QU p).1
 have u:SpecH prog 165 ([eStrs I].map .p) [] (OneRow (Gz I) (I=[])):=XQ I w;have v:SpecH prog 165 ([eStrs O].map .p) [] (OneRow (Gz O) (O=[])):=XQ O y;have E:(b.ins.map eStrs)[i]?=some (eStrs I):=by rw[x8n,J];rfl
 have F:(b.zb.map eStrs)[i]?=some (eStrs O):=by rw[x8n,K];rfl
 have G:(p.A.map fun f=>AV.agg f.cells)[i]?=some (.agg f.cells):=by rw[x8n,M];rfl
 repeat' ((first|(refine gX ?_;intros)|refine dA ?_|refine iT E ?_|((first|apply bD|apply bE|apply bN|apply bB)<;>intro _<;>try omega))<;>conv=>whnf)
 refine WR 0 rfl u (.cons (.p (Sub.refl _)) .nil) (fun h=>?_) (fun q e sz es z=>?_);rotate_left;obtain⟨rfl,rfl,rfl⟩:=z
 rotate_right
 all_goals
  conv=>whnf
  repeat' ((first|(refine gX ?_;intros)|refine dA ?_|(refine IdxK.at (k:=i) rfl (by rw[c];exact G) rfl ?_)|((first|apply bD|apply bE|apply bN|apply bB)<;>intro _<;>try omega))<;>conv=>whnf)
 all_goals
  refine lJ (fun x:Nat×List Str=>⟨[(0,.p (.ip b.cells)),(1,.j i),(4,.hd 0 0 x.2.length),(27,.p (.sl (f.B.map fun a=>.agg a.cells))),(28,.p (.int .i64 (f.B.map fun a=>AV.agg a.cells).length)),(29,.j x.1)],[(0,.own 9 1 (x.2.map .str))]⟩) (fun x=>x.1<=f.B.length/\x.2=I++(f.B.take x.1).map Param.name) (fun x=>f.B.length-x.1) (0,I) (by first
    |exact Le.of_eq (by rw[x8g];rfl)
    |(subst h;exact lM [(0,.own 9 1 [])])) ⟨x8m _,by simp⟩ ?_
  rintro⟨j,r⟩ ⟨H,t⟩;simp only at H t⊢;have P:(f.B.map fun a=>AV.agg a.cells).length=f.B.length:=x8g _;have L:r.length<=I.length+j:=by rw[t];simp;omega
  rcases x8a j f.B.length with m|m
  ·have d:=x8c m;conv=>whnf
   repeat' ((first|(refine gX ?_;intros)|refine dA ?_|refine pS ?_|((first|apply bD|apply bE|apply bN|apply bB)<;>intro _<;>try omega))<;>conv=>whnf)
   all_goals exact⟨(j+1,r++[f.B[j].name]),⟨m,by simp only;rw[d,x8i,<-x9u,<-t];rfl⟩,by simp only;omega,Le.of_eq (by simp only[x8d,x8i];rfl)⟩
  rw[x9q m]at t;subst t;conv=>whnf
  repeat' ((first|(refine gX ?_;intros)|refine dA ?_|refine iT F ?_|((first|apply bD|apply bE|apply bN|apply bB)<;>intro _<;>try omega))<;>conv=>whnf)
  refine WR 1 rfl v (.cons (.p (Sub.refl _)) .nil) (fun h=>?_) (fun q e sz es z=>?_);rotate_left;obtain⟨rfl,rfl,rfl⟩:=z
  rotate_right
  all_goals
   conv=>whnf
   repeat' ((first|(refine gX ?_;intros)|refine dA ?_|refine WF (es:=[]) rfl (by simp) ?_|refine pS ?_|((first|apply bD|apply bE|apply bN|apply bB)<;>intro _<;>try omega))<;>conv=>whnf)
   refine cJ rH1 0 (VI (I++f.B.map Param.name) (by simp;omega)) ?_;rintro l' H' ⟨rfl,rfl⟩;conv=>whnf
   repeat' ((first|(refine gX ?_;intros)|refine dA ?_|((first|apply bD|apply bE|apply bN|apply bB)<;>intro _<;>try omega))<;>conv=>whnf)
   refine cJ rH6 0 (VI (O++[retS]) (by simp;omega)) ?_ (ha:=(x9d (z3y (by first|(subst h;rfl)|exact z0o (LV.hd 1000 0) (show(O.map AV.str).length+1=(O++[retS]).length by simp))) z1y)) (hH:=by refine x9b (j:=1) rfl rfl ?_ ?_;exact CSub.of_eq (by first|(subst h;rfl)|(rw[x8i];rfl));exact z0r);rintro l' H' ⟨rfl,rfl⟩;conv=>whnf
   repeat' ((first|(refine gX ?_;intros)|refine dA ?_|((first|apply bD|apply bE|apply bN|apply bB)<;>intro _<;>try omega))<;>conv=>whnf)
 all_goals
  have g:(slI I f).length=(I++f.B.map Param.name).length:=ZF _;have C:(slO O).length=(O++[retS]).length:=ZF _;refine z1z _ (x9j _) ⟨?_,rfl⟩;rw[g,C];first
   |(subst h;rfl)
   |exact z0o (fun n=>LV.tup [LV.hd 0 0 (I++f.B.map Param.name).length,LV.hd 1 0 n]) (show(O.map AV.str).length+1=(O++[retS]).length by simp)
def clO(t:S)(O:List Str):List Str:=if t.name=[]then(slO O).filter (fun n=> !(n==retS))else slO O
def LH(O:List Str):(slO O).length=O.length+1:=by
 unfold slO;rw[ZF,x8d];rfl
def q0a:Info:={keep:=I_whole_piece_slots.keep,sched:=fun i=>bif beq i 1 then(.cons 0 false (.cons 1 false (.cons 2 false (.cons 4 false (.cons 5 false (.cons 6 false (.cons 8 false (.cons 7 true (.fork 3 (.cons 9 true (.cons 10 true (.cons 11 true (.cons 12 true (.cons 13 true (.cons 14 true (.cons 15 true .nil))))))) 9 (.cons 3 true (.cons 10 true (.cons 11 true (.cons 12 true (.cons 13 true (.cons 14 true (.cons 15 true .nil))))))))))))))))else I_whole_piece_slots.sched i,frz:=fun i=>bif beq i 4 then [[4],[5]]else I_whole_piece_slots.frz i}
theorem Tr(b:Book)(p:Pg)(e:b.s=sheetOf p)(t:S)(h:Nat)(k:Pr)(d:p.A[h]?=some k)(c:k.B.length<=1000000)(I O:List Str)(v:b.ins[h]?=some I)(w:b.zb[h]?=some O)(r:I.length<=1000000)(y:O.length<=1000)(u:aP 136 [.ip b.cells,.agg t.cells] (.int .i64 h))(i:Int)(f:Pr)(vs:List Vx):
  aH 115 [.ptr 1000 0,.p (.agg t.cells)] (vHp (.agg b.cells) i f vs) (.p (.tup [eStrs (slI I k),eStrs (clO t O)])) (vHp (.agg b.cells) i f vs):=by
 refine sK q0a func115 ?_;have z:=Gn b p e h k d c I O v w r (by omega);conv=>whnf
 repeat' ((first|(refine gX ?_;intros)|refine dA ?_|refine cP u ?_|((first|apply bD|apply bE|apply bN|apply bB)<;>intro _<;>try omega)|(refine cH [] 0 z ?_ (hH:=z0r))|refine x9g ?_ ?_|(refine cH rH6 0 (q7c (slO O) (by rw[LH];omega) 169 (fun n=>n==retS) (fun s=>LR s)) ?_)|refine LenK.mk (by simp) ?_)<;>conv=>whnf)
 all_goals first
  | (have m:(t.name==(⟨#[]⟩:ByteArray).data.toList)=true:=by assumption
     have q:t.name=[]:=by simpa using m
     exact z1z _ (x9j _) ⟨by unfold clO;rw[if_pos q];rfl,rfl⟩)
  | (have m:(t.name==(⟨#[]⟩:ByteArray).data.toList)=false:=by assumption
     have q:¬t.name=[]:=by simpa using m
     exact z1z _ (x9j _) ⟨by unfold clO;rw[if_neg q];rfl,rfl⟩)
end Go.Ab
