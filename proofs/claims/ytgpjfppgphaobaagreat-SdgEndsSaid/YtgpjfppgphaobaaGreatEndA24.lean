/- whole: a procedure's edges as they come; how many there are, what they are made of. Conditions: the program is right. -/
import Derived.Test.YtgpjfppgphaobaaGreatEndA23
set_option linter.all false
set_option maxRecDepth 100000
set_option maxHeartbeats 16000000
open Nat (beq)
namespace Go.Ab
open Go.Proofs.Tryz
open Go.Proofs
variable {I O:Nat->List Str}{e:Eg}{f:Pr}{i k:Nat}{it:Item}{p:Pg}
def Av(h:QL p=true)(n:p.A[i]?=some f)(a:Nat):(Uj p i f a).Nodup/\(Uj p i f a).length<=34:=by
 have l:∀d∈(QY p).M,d.Pairwise ltT/\d.length<=34:=fun d j=>by
  rw[(WH h).M]at j;obtain⟨it,m,rfl⟩:=x4y.1 j;have o:it.s∈VH p:=by rw[<-YY];exact x7g m
  exact⟨ZM _,x5y (YM _) (LZ h (KR h).1 o)⟩
 exact⟨YV (Bo (fun d j=>(l d j).1) a),RY (fun d j=>(l d j).2) ((KR h).2.len25 h i) ((GF (QB h).1).pr f (x4p n)).1 a⟩
def Uv(o:QL p=true)(q:p.A[i]?=some f):(FE p i f).length<=1400000:=by
 have u:QJ f.body+2<=202:=by
  have:=NW p.A q;have:=(XF o).2.2;omega
 generalize v:QJ f.body+2=n at*
 have h:=YG (m:=(List.range n).flatMap fun(a:Nat)=>(List.range n).flatMap fun(c:Nat)=>(Uj p i f a).map fun j=>(⟨QF p i (n:Nat) a,QF p i (n:Nat) c,j⟩:Fl)) (A1 o fun a=>(Av o q a).1) fun s w=>by
  obtain⟨j,c,a,r,l,t,rfl,_⟩:=BM w;rw[v]at r l⊢;exact x4a.2 ⟨a,x5a.2 l,x4a.2 ⟨c,x5a.2 r,x4y.2 ⟨j,t,rfl⟩⟩⟩
 have l:=XP (f:=fun(a:Nat)=>(List.range n).flatMap fun(c:Nat)=>(Uj p i f a).map fun j=>(⟨QF p i (n:Nat) a,QF p i (n:Nat) c,j⟩:Fl)) (c:=n*34) (fun a=>by
  refine x5y (XP (c:=34) (fun c=>?_) _) (by rw[x6l];exact x4m _);rw[x3a];exact(Av o q a).2) (List.range n)
 rw[x6l]at l;have t:n*(n*34)<=202*(202*34):=z0n u (x5l _ u);omega
def ctE(h:Str)(d:Int×Int):Eg:=⟨if d.1=0 then⟨h,1,0,[]⟩else⟨h,2,d.1,[]⟩,⟨h,2,d.2,[]⟩,1⟩
def vxE(h:Str)(v:Vx):List Eg:=if v.kind=3\/v.kind=4 then [⟨⟨h,1,0,[]⟩,v,1⟩]else if v.kind=5\/v.kind=6 then [⟨⟨h,2,v.id,[]⟩,v,1⟩]else []
def gvP(p:Pg)(h:Str)(place:Int)(name:Str):Vx:=if place=0 then⟨h,3,0,name⟩else match Li p place with
 |some t=>gvS p h t place name
 |none=>⟨h,2,place,[]⟩
def tkP(p:Pg)(h:Str)(I:Nat->List Str)(place:Int)(name:Str):List Vx:=if place = -1 then [⟨h,4,0,name⟩]else match Li p place with
 |some t=>tkS p h t place name (I (cIx p t))
 |none=>[]
def flE(p:Pg)(h:Str)(I:Nat->List Str)(s:Fl):List Eg:=(tkP p h I s.dst s.var).map fun j=>⟨gvP p h s.src s.var,j,2⟩
def Xx(p:Pg)(i:Nat)(f:Pr)(I O:Nat->List Str)(D:List (Int×Int))(F:List Fl):List Eg:=D.map (ctE f.name)++(J0 (ZR p i f I O)).flatMap (vxE f.name)++F.flatMap (flE p f.name I)
def q5p(p:Pg)(l:Str)(t:S)(place:Int)(name:Str)(I:List Str):(tkS p l t place name I).length<=t.args.length+1:=by
 unfold tkS;split
 .simp
 .have h:=XP (f:=NS p l t place name) (c:=1) (fun j=>by unfold NS;split<;>simp) (List.range t.args.length);rw[x6l]at h;rw[x3o];have:(if comB p name=true/\inS I name=true then [(⟨l,5,place,name⟩:Vx)]else []).length<=1:=by split<;>simp
  omega
def EX(j:QL p=true){t:S}(l:t∈VH p)(h:t.kind=4):t.args.length<=8:=(FM j l h).2
def ED(n:QL p=true)(l:Str)(I:Nat->List Str)(place:Int)(name:Str):(tkP p l I place name).length<=9:=by
 unfold tkP;split
 .simp
 .cases j:Li p place with
  |none=>simp
  | some t=>
    have o:t∈VH p:=by
     unfold Li at j;rw[<-YY];obtain⟨it,m,rfl⟩:=x9d.1 j;exact x7g (x4p m)
    simp only;by_cases h:t.kind=4
    .have:=q5p p l t place name (I (cIx p t));have:=EX n o h;omega
    .unfold tkS;rw[if_pos h];simp
def q5a(h:Str)(v:Vx):(vxE h v).length<=1:=by
 unfold vxE;split
 .simp
 .split<;>simp
def Bh(h:QL p=true)(l:p.A[i]?=some f){D:List (Int×Int)}(o:D.length<=1000000){F:List Fl}(q:F.length<=1400000):(Xx p i f (bI p) (bO p) D F).length<=14000000:=by
 unfold Xx;have j:=XP (q5a f.name) (J0 (ZR p i f (bI p) (bO p)));rw[DE]at j;have m:=J8 h l;have n:=XP (f:=flE p f.name (bI p)) (c:=9) (fun s=>by unfold flE;rw[x3a];exact ED h _ _ _ _) F;simp only[x3o,x3a];omega
def EgP(f:Pr)(e:Eg):Prop:=e.G.C=f.name/\e.to.C=f.name/\e.G.slot.length<=8/\e.to.slot.length<=8/\(e.kind=1\/e.kind=2)
def Tx(m:QL p=true)(k j:Nat):((((prG p k).B.map Param.name)[j]?).getD []).length<=8:=by
 cases o:((prG p k).B.map Param.name)[j]?with
 |none=>exact x4j _
 | some n=>
   show n.length<=8;have h:=x4p o;unfold prG at h;cases l:p.A[k]?with
   |none=>rw[l]at h;cases h
   | some g=>
     rw[l]at h;exact KW (BE m (x4p l) (x5c _ h))
def q9p(l:QL p=true)(h:Str)(place:Int){name:Str}(j:name.length<=8):(gvP p h place name).C=h/\(gvP p h place name).slot.length<=8:=by
 unfold gvP;split
 .exact ⟨rfl,j⟩
 .split
  .unfold gvS;split
   .exact ⟨rfl,x4j _⟩
   split
   .exact ⟨rfl,(by decide:retS.length<=8)⟩
   split
   .exact ⟨rfl,Tx l _ _⟩
   .exact ⟨rfl,j⟩
  .exact ⟨rfl,x4j _⟩
def x0q(n:QL p=true)(m:Str)(I:Nat->List Str)(place:Int){name:Str}(l:name.length<=8):∀v∈tkP p m I place name,v.C=m/\v.slot.length<=8:=by
 intro v h;unfold tkP at h;split at h
 .rw [x4w.1 h];exact⟨rfl,l⟩
 .split at h
  .unfold tkS at h;split at h
   .rw [x4w.1 h];exact⟨rfl,x4j _⟩
   rcases x4g.1 h with h|h
   .obtain ⟨j,_,h⟩:=x4a.1 h;unfold NS at h;split at h
    .rw [x4w.1 h];exact⟨rfl,Tx n _ _⟩
    .cases h
   .split at h
    .rw [x4w.1 h];exact⟨rfl,l⟩
    .cases h
  .cases h
def Wf(l:QL p=true)(t:p.A[i]?=some f){D:List (Int×Int)}{F:List Fl}(q:∀s∈F,s.var.length<=8):∀e∈Xx p i f (bI p) (bO p) D F,EgP f e:=by
 intro e h;unfold Xx at h;rcases x4g.1 h with h|h
 .rcases x4g.1 h with h|h
  .obtain ⟨d,_,rfl⟩:=x4y.1 h;unfold ctE;refine⟨?_,rfl,?_,x4j _,.inl rfl⟩
   .show (ite _ _ _:Vx).C=_;split<;>rfl
   .show (ite _ _ _:Vx).slot.length<=_;split<;>exact x4j _
  .obtain ⟨v,m,h⟩:=x4a.1 h;have m:v∈ZR p i f (bI p) (bO p):=(x6a _ _).mem_iff.1 m;have j:=x2s l t m;unfold vxE at h;split at h
   .rw [x4w.1 h];exact⟨rfl,j.1,x4j _,j.2.2,.inl rfl⟩
   split at h
   .rw [x4w.1 h];exact⟨rfl,j.1,x4j _,j.2.2,.inl rfl⟩
   .cases h
 .obtain ⟨s,r,h⟩:=x4a.1 h;unfold flE at h;obtain⟨w,u,rfl⟩:=x4y.1 h;have n:=q9p l f.name s.src (q s r);have o:=x0q l f.name (bI p) s.dst (q s r) w u;exact⟨n.1,o.1,n.2,o.2,.inr rfl⟩
theorem EgP.ok(j:QL p=true)(l:p.A[i]?=some f)(h:EgP f e):OK e:=by
 have:=q8c j l;exact⟨LO ⟨by rw[h.1];exact this,h.2.2.1⟩,LO ⟨by rw[h.2.1];exact this,h.2.2.2.1⟩⟩
def O8(v:Fit p)(m:QL p=true)(r:p.A[i]?=some f)(es:List Eg){place:Int}(h:place=0\/∃it∈itsOf p i f,place=it.s.id)(name:Str):
  aH 75 [.ptr 1000 0,.j place,.p (.str name)] (eHp (.agg (QY p).cells) i f es) (.p (.agg (gvP p f.name place name).cells)) (eHp (.agg (QY p).cells) i f es):=by
 rcases h with rfl|⟨it,q,rfl⟩
 .exact N0 (.agg (QY p).cells) i f es name
 .obtain ⟨k,t,w,l⟩:=G0 m r q;have e:gvP p f.name it.s.id name=gvS p f.name it.s it.s.id name:=by
   unfold gvP Li;rw[if_neg (by omega),show(it.s.id-1).toNat=k by omega,l];rfl
  rw[e];exact Lh (QY p) p (WH m).s i f es k it l (by omega) it.s.id t name (by
   have:=Xe v (x4u.1 l).1;rw[(x4u.1 l).2]at this;have n:=C4 it.s;have o:=BW it.s.args;omega) fun u=>by
    obtain⟨g,n,o,x,_⟩:=GO m (HS r q) u;exact⟨g,n,o,by omega⟩
def EK(y:Fit p)(l:QL p=true)(q:p.A[i]?=some f)(es:List Eg){place:Int}(h:place = -1\/∃it∈itsOf p i f,place=it.s.id)(name:Str):
  aH 76 [.ptr 1000 0,.j place,.p (.str name)] (eHp (.agg (QY p).cells) i f es) (.p (.sl (avV (tkP p f.name (bI p) place name)))) (eHp (.agg (QY p).cells) i f es):=by
 rcases h with rfl|⟨it,o,rfl⟩
 .exact Fp (.agg (QY p).cells) i f es name
 .obtain ⟨k,r,w,n⟩:=G0 l q o;have e:tkP p f.name (bI p) it.s.id name=tkS p f.name it.s it.s.id name (bI p (cIx p it.s)):=by
   unfold tkP Li;rw[if_neg (by omega),show(it.s.id-1).toNat=k by omega,n];rfl
  rw[e];by_cases m:it.s.kind=4
  .obtain ⟨g,t,u,x,_⟩:=GO l (HS q o) m;have v:=((Dx l).hio _ g t);exact Fm (QY p) p (WH l).s i f es k it n (by omega) it.s.id r name m (by
    have:=EX l (HS q o) m;omega) g t u (by omega) (bI p (cIx p it.s)) v.1 (DX (KR l).2.rise _) (by omega)
  .exact Fr (QY p) p (WH l).s i f es k it n (by omega) it.s.id r name m (bI p (cIx p it.s))
def q6h:Info:={keep:=I_whole_Edges.keep,sched:=I_whole_Edges.sched,frz:=fun i=>bif beq i 11 then [[65]]else I_whole_Edges.frz i}
def R8(hf:Fit p)(c:QL p=true)(i:Nat)(f:Pr)(B:p.A[i]?=some f)(D:List (Int×Int))(J:D.length<=1000000)(w:Way)(hW:(QY p).ways[i]?=some w)(hD:aP 72 [.ip w.cells] (.sl (avP D)))(F:List Fl)(U:F.length<=1400000)(hF:aP 74 [.ip (QY p).cells,.int .i64 i] (.sl (F.map C9)))(K:∀s∈F,s.var.length<=8/\(s.src=0\/∃it∈itsOf p i f,s.src=it.s.id)/\(s.dst = -1\/∃it∈itsOf p i f,s.dst=it.s.id)):
  aH 43 [.p (.ip (QY p).cells),.j i] [] (.hd 1 0 (DB (Xx p i f (bI p) (bO p) D F)).length) [(1,.own 43 9 (avE (DB (Xx p i f (bI p) (bO p) D F))))]:=by
 have Z:(QY p).s.p=p:=by rw[(WH c).s];exact(QU p).1
 have gp:((QY p).s.p.A.map fun f=>AV.agg f.cells)[i]?=some (.agg f.cells):=by rw[Z,x4q,B];rfl
 have gW:((QY p).ways.map fun w=>AV.ip w.cells)[i]?=some (.ip w.cells):=by rw[x4q,hW];rfl
 have hV:=PN (QY p) p (bI p) (bO p) (Dx c) i f B (q8h c B);have hVl:=J8 c B;have hok:∀e∈Xx p i f (bI p) (bO p) D F,OK e:=fun e he=>(Wf c B (fun s hs=>(K s hs).1) e he).ok c B;have hEl:=Bh c B J U;have hS:=Gt (Xx p i f (bI p) (bO p) D F) hok (by omega);have Y:=ED c f.name (bI p);have hvl:(avV (J0 (ZR p i f (bI p) (bO p)))).length=(ZR p i f (bI p) (bO p)).length:=by unfold avV;rw[x3a,DE]
 generalize Q:Xx p i f (bI p) (bO p) D F=E at*
 unfold Xx at Q;have hVS:(J0 (ZR p i f (bI p) (bO p))).length=(ZR p i f (bI p) (bO p)).length:=DE;generalize J0 (ZR p i f (bI p) (bO p))=V at*
 generalize ZR p i f (bI p) (bO p)=VR at*
 refine sK q6h func43 ?_;conv=>whnf
 repeat' ((first|(refine gX ?_;intros)|refine dA ?_|refine iT gp ?_|refine iT gW ?_|refine cP hD ?_|((first|apply bD|apply bE|apply bN|apply bB)<;>intro _<;>try omega)|(refine cH rH1 1 (Q2 (.agg (QY p).cells) i f 1 0 []) ?_))<;>conv=>whnf)
 have hDL:(avP D).length=D.length:=by unfold avP;rw[x3a]
 refine lJ (fun x:Nat×List Eg=>⟨[(0,.p (.ip (QY p).cells)),(1,.j i),(5,.ptr 0 0),(6,.p (.ip (Vx.cells ⟨f.name,1,0,[]⟩))),(41,.p (.sl (avP D))),(42,.p (.int .i64 (avP D).length)),(43,.j x.1)],[(0,pcO (.agg (QY p).cells) i f (.p .nils) (.hd 1 0 x.2.length)),(1,.own 43 9 (avE x.2))]⟩) (fun x=>x.1<=D.length/\x.2=(D.take x.1).map (ctE f.name)/\x.2.length<=x.1) (fun x=>D.length-x.1) (0,[]) (lM [(1,.own 43 9 [])] (hH:=.cons rfl (.obj (.r (.r (.r (.r (.r (.r (.r (.r (.cons (.nil x4z) .nil)))))))))) (.new x4z .nil))) ⟨x4j _,rfl,x4m _⟩ ?_;rintro⟨j,l⟩ ⟨H,u,G⟩;simp only at H u G⊢;rcases x4f j D.length with z|z
 .have M:(avP D)[j]?=some (.agg [.int .i64 D[j].1,.int .i64 D[j].2]):=by simp[avP,z]
  have h:(D.take (j+1)).map (ctE f.name)=l++[ctE f.name D[j]]:=by rw[x4k z,x4d,<-u];rfl
  generalize D[j]=d at M h;conv=>whnf
  repeat' ((first|(refine gX ?_;intros)|refine dA ?_|refine iT M ?_|refine x6b 0 rfl (by decide) ?_|refine x6b 1 rfl (by decide) ?_|((first|apply bD|apply bE|apply bN|apply bB)<;>intro _<;>try omega)|(refine cH rH4 3 (QI (.agg (QY p).cells) i f l 2 d.1 []) ?_)|(refine cH rH4 3 (QI (.agg (QY p).cells) i f l 2 d.2 []) ?_)|(refine cH rH2 3 (GP (.agg (QY p).cells) i f l ⟨f.name,1,0,[]⟩ ⟨f.name,2,d.2,[]⟩ 1 (by omega)) ?_)|(refine cH rH2 3 (GP (.agg (QY p).cells) i f l ⟨f.name,2,d.1,[]⟩ ⟨f.name,2,d.2,[]⟩ 1 (by omega)) ?_)|refine x4e ?_ ?_)<;>conv=>whnf)
  all_goals first
   | (have e:ctE f.name d=⟨⟨f.name,1,0,[]⟩,⟨f.name,2,d.2,[]⟩,1⟩:=by unfold ctE;rw[if_pos (by first|assumption|(simp_all;done))]
      rw[e]at h;exact nX (j+1,l++[⟨⟨f.name,1,0,[]⟩,⟨f.name,2,d.2,[]⟩,1⟩]) ⟨z,h.symm,by simp;omega⟩)
   | (have e:ctE f.name d=⟨⟨f.name,2,d.1,[]⟩,⟨f.name,2,d.2,[]⟩,1⟩:=by unfold ctE;rw[if_neg (by first|assumption|(simp_all;done))]
      rw[e]at h;exact nX (j+1,l++[⟨⟨f.name,2,d.1,[]⟩,⟨f.name,2,d.2,[]⟩,1⟩]) ⟨z,h.symm,by simp;omega⟩)
 rw[x4b z]at u;have ha1:l.length<=1000000:=by rw[u,x3a];exact J
 clear G;rw[<-u]at Q;clear u;conv=>whnf
 repeat' ((first|(refine gX ?_;intros)|refine dA ?_|((first|apply bD|apply bE|apply bN|apply bB)<;>intro _<;>try omega)|(refine cH [] 2 hV ?_ (hH:=x6z))|refine LenK.mk hvl.symm ?_)<;>conv=>whnf)
 refine lI (fun x:Nat×List Eg=>⟨[(0,.p (.ip (QY p).cells)),(1,.j i),(5,.ptr 0 0),(6,.p (.ip (Vx.cells ⟨f.name,1,0,[]⟩))),(65,.p (.sl (avV V))),(66,.j VR.length),(67,.j x.1)],[(0,pcO (.agg (QY p).cells) i f (.p .nils) (.hd 1 0 x.2.length)),(1,.own 43 9 (avE x.2))]⟩) (fun x=>x.1<=V.length/\x.2=l++(V.take x.1).flatMap (vxE f.name)/\x.2.length<=l.length+x.1) (fun x=>V.length-x.1) (0,l) ⟨x4j _,by simp,x4m _⟩ ?_;rintro⟨q,o⟩ ⟨H,u,G⟩;simp only at H u G⊢;rcases x4f q V.length with a|a
 .have gv:(avV V)[q]?=some (.agg V[q].cells):=by simp[avV,a]
  have h:l++(V.take (q+1)).flatMap (vxE f.name)=o++vxE f.name V[q]:=by
   rw[x4k a,x6m,<-x4r,<-u];simp
  generalize V[q]=v at gv h;conv=>whnf
  repeat' ((first|(refine gX ?_;intros)|refine dA ?_|refine iT gv ?_|((first|apply bD|apply bE|apply bN|apply bB)<;>intro _<;>try omega)|(refine cH rH2 2 (GP (.agg (QY p).cells) i f o ⟨f.name,1,0,[]⟩ v 1 (by omega)) ?_)|(refine cH rH4 2 (QI (.agg (QY p).cells) i f o 2 v.id []) ?_)|(refine cH rH2 2 (GP (.agg (QY p).cells) i f o ⟨f.name,2,v.id,[]⟩ v 1 (by omega)) ?_))<;>conv=>whnf)
  all_goals first
   | (have e:vxE f.name v=[⟨⟨f.name,1,0,[]⟩,v,1⟩]:=by unfold vxE;rw[if_pos (by omega)]
      rw[e]at h;exact nX (q+1,o++[⟨⟨f.name,1,0,[]⟩,v,1⟩]) ⟨a,h.symm,by simp;omega⟩)
   | (have e:vxE f.name v=[⟨⟨f.name,2,v.id,[]⟩,v,1⟩]:=by unfold vxE;rw[if_neg (by omega),if_pos (by omega)]
      rw[e]at h;exact nX (q+1,o++[⟨⟨f.name,2,v.id,[]⟩,v,1⟩]) ⟨a,h.symm,by simp;omega⟩)
   | (have e:vxE f.name v=[]:=by unfold vxE;rw[if_neg (by omega),if_neg (by omega)]
      rw[e,x5m]at h;exact nX (q+1,o) ⟨a,h.symm,by simp only;omega⟩)
 rw[x4b a]at u;have ho1:o.length<=1060000:=by omega
 rw[<-u]at Q;clear H u G z;have hFm:(F.map C9).length=F.length:=x3a _;conv=>whnf
 repeat' ((first|(refine gX ?_;intros)|refine dA ?_|refine cP hF ?_|((first|apply bD|apply bE|apply bN|apply bB)<;>intro _<;>try omega))<;>conv=>whnf)
 refine lI (fun x:Nat×List Eg=>⟨[(5,.ptr 0 0),(93,.p (.sl (F.map C9))),(94,.p (.int .i64 (F.map C9).length)),(95,.j x.1)],[(0,pcO (.agg (QY p).cells) i f (.p .nils) (.hd 1 0 x.2.length)),(1,.own 43 9 (avE x.2))]⟩) (fun x=>x.1<=F.length/\x.2=o++(F.take x.1).flatMap (flE p f.name (bI p))/\x.2.length<=o.length+x.1*9) (fun x=>F.length-x.1) (0,o) ⟨x4j _,by simp,x4m _⟩ ?_;rintro⟨n,o2⟩ ⟨H,u,G⟩;simp only at H u G⊢;rcases x4f n F.length with b|b;rotate_left 1
 .rw [x4b b,Q]at u;subst u;conv=>whnf
  repeat' ((first|(refine gX ?_;intros)|refine dA ?_|((first|apply bD|apply bE|apply bN|apply bB)<;>intro _<;>try omega)|(refine cH rH6 2 hS ?_))<;>conv=>whnf)
  all_goals first
   |exact x6n _ (x4c _) ⟨rfl,rfl⟩
 have h:o++(F.take (n+1)).flatMap (flE p f.name (bI p))=o2++flE p f.name (bI p) F[n]:=by
  rw[x4k b,x6m,<-x4r,<-u];simp
 obtain⟨_,k2,k3⟩:=K F[n] (x4h b);have hG:=O8 hf c B o2 k2 F[n].var;have hT:=EK hf c B o2 k3 F[n].var;have hTl:=Y F[n].dst F[n].var;have hfl:flE p f.name (bI p) F[n]=(tkP p f.name (bI p) F[n].dst F[n].var).map fun N=>⟨gvP p f.name F[n].src F[n].var,N,2⟩:=rfl;rw[hfl]at h;generalize gvP p f.name F[n].src F[n].var=g at*
 generalize tkP p f.name (bI p) F[n].dst F[n].var=T at*
 have hTm:(avV T).length=T.length:=x3a _;conv=>whnf
 repeat' ((first|(refine gX ?_;intros)|refine dA ?_|((first|apply bD|apply bE|apply bN|apply bB)<;>intro _<;>try omega)|(refine cH rH4 2 hG ?_)|(refine cH rH4 2 hT ?_))<;>conv=>whnf)
 refine lI (fun y:Nat×List Eg=>⟨[(5,.ptr 0 0),(14,.p (.ip g.cells)),(93,.p (.sl (F.map C9))),(94,.p (.int .i64 (F.map C9).length)),(95,.j n),(110,.p (.sl (avV T))),(111,.p (.int .i64 (avV T).length)),(112,.j y.1)],[(0,pcO (.agg (QY p).cells) i f (.p .nils) (.hd 1 0 y.2.length)),(1,.own 43 9 (avE y.2))]⟩) (fun y=>y.1<=T.length/\y.2=o2++(T.take y.1).map (fun N=>⟨g,N,2⟩)/\y.2.length<=o2.length+y.1) (fun y=>T.length-y.1) (0,o2) ⟨x4j _,by simp,x4m _⟩ ?_;rintro⟨m,R⟩ ⟨h4,P,h6⟩;simp only at h4 P h6⊢;rcases x4f m T.length with L|L
 .have gT:(avV T)[m]?=some (.agg T[m].cells):=by simp[avV,L]
  have C:o2++(T.take (m+1)).map (fun N=>⟨g,N,2⟩)=R++[⟨g,T[m],2⟩]:=by
   rw[x4k L,x4d,<-x4r,<-P];rfl
  generalize T[m]=t at gT C;conv=>whnf
  repeat' ((first|(refine gX ?_;intros)|refine dA ?_|refine iT gT ?_|((first|apply bD|apply bE|apply bN|apply bB)<;>intro _<;>try omega)|(refine cH rH2 2 (GP (.agg (QY p).cells) i f R g t 2 (by omega)) ?_))<;>conv=>whnf)
  all_goals first
   |exact nX (m+1,R++[⟨g,t,2⟩]) ⟨L,C.symm,by simp;omega⟩
 .rw [x4b L]at P;rw[<-P]at h;conv=>whnf
  repeat' ((first|(refine gX ?_;intros)|refine dA ?_|((first|apply bD|apply bE|apply bN|apply bB)<;>intro _<;>try omega))<;>conv=>whnf)
  all_goals first
   |exact nX (n+1,R) ⟨b,h.symm,by simp only;omega⟩
def UY(p:Pg)(i:Nat)(it:Item):Bool:=decide (it.s.kind=4)&&lvB p i it.s.id
def FW(p:Pg)(i:Nat)(h:List Item):List Str:=(h.filter (UY p i)).map fun it=>it.s.C
def FZ(p:Pg)(n:Str):List Str:=FW p (Qm p n).toNat (itsOf p (Qm p n).toNat (prA p (Qm p n).toNat))
def rcL(p:Pg):Nat->Nat->List Str->List Str
 |0,_,out=>out
 | m+1,k,out=>match out[k]?with
   |some n=>rcL p m (k+1) (XW out (FZ p n))
   |none=>out
def QH(p:Pg):List Str:=YK (rcL p (p.A.length+1) 0 [mainS])
def Y7(n:QL p=true)(o:p.A[i]?=some f){s:Str}(h:s∈FW p i (itsOf p i f)):s∈QK p:=by
 obtain⟨it,l,rfl⟩:=x4y.1 h;obtain⟨m,j⟩:=x5h.1 l;unfold UY at j;rw[x4n]at j;exact(Xs (QB n).2.1 (x4p o) (DY m) (x7a j.1)).1
def Lz(l:QL p=true):mainS∈QK p:=by
 obtain⟨k,f,h,_,j,_⟩:=Oe l;exact x4y.2 ⟨f,x4p h,j⟩
def Dk(u:QL p=true):aH 64 [.p (.ip (QY p).cells)] [] (.hd 0 0 (QH p).length) [(0,.own 9 1 ((QH p).map .str))]:=by
 have B:=WH u;have D:(QY p).s.p=p:=by rw[B.s];exact(QU p).1
 obtain⟨hg,hpl,Y⟩:=XF u;have hnl:(QK p).length=p.A.length:=by simp[QK]
 have M:(QH p).length=(rcL p (p.A.length+1) 0 [mainS]).length:=ZY _;refine sK Vg func64 ?_;conv=>whnf
 repeat' ((first|(refine iM fun _=>?_)|refine dA ?_|refine x4e rfl ?_|refine aD ?_|refine aR ?_|(refine iA fun _=>?_)|refine IdxK.xs (by omega) ?_|refine Hk (by omega) ?_|refine ByteK.at (by omega) ?_|refine wI ?_|refine x9p (fun x hx=>by rcases x4w.1 hx with rfl;rfl) rfl ?_|((first|apply bD|apply bE|apply bN|apply bB)<;>intro _<;>try omega))<;>conv=>whnf)
 refine lI (fun i:Nat×List Str=>⟨[(0,.p (.ip (QY p).cells)),(3,.hd 0 0 i.2.length),(4,.j i.1)],[(0,.own 9 1 (i.2.map .str))]⟩) (fun i=>i.1<=i.2.length/\i.2.Nodup/\(∀s∈i.2,s∈QK p)/\rcL p (p.A.length+1-i.1) i.1 i.2=rcL p (p.A.length+1) 0 [mainS]) (fun i=>p.A.length+1-i.1) (0,[mainS]) ⟨x4j _,by simp,by simpa using Lz u,rfl⟩ ?_;rintro⟨j,out⟩ ⟨R,b,a,t⟩;simp only at R b a t⊢;have hol:=YG b a;rcases x4f j out.length with v|v
 .obtain ⟨k,P,y,E,K⟩:=JV (a _ (x4h v));have l:p.A[k]?=some p.A[k]:=x3e P;generalize hfe:p.A[k]=f at l E K;have g:aP 65 [.ip (QY p).s.cells,.str out[j]] (.int .i64 (k:Nat)):=by
   have:=ZD (QY p).s out[j];rw[D,y]at this;exact this
  have d:aP 96 [.ip (QY p).s.cells,.int .i64 k] (ZE (itsOf p k f)):=by rw[B.s];exact Hh p l (by omega)
  have J:FZ p out[j]=FW p k (itsOf p k f):=by
   unfold FZ;rw[show Qm p out[j]=(k:Nat)from y,x5u,VJ l]
  have L:rcL p (p.A.length+1-j) j out=rcL p (p.A.length+1-(j+1)) (j+1) (XW out (FW p k (itsOf p k f))):=by
   rw[show p.A.length+1-j=(p.A.length+1-(j+1))+1 by omega,rcL,x3e v];simp only;rw[J]
  rw[L]at t;obtain⟨F,G,rr,H⟩:=VT (FW p k (itsOf p k f)) b a (fun s h=>Y7 u l h);have Q:((QY p).ways.map fun w=>AV.ip w.cells)[k]?=some (.ip (QQ p k f).cells):=by rw[x4q,B.ways,NO P,VJ l];rfl
  have hin:(itsOf p k f).length<=200:=by
   have:=NW p.A l;unfold itsOf;rw[XS];omega
  have c:∀it∈itsOf p k f,aP 110 [.ip (QQ p k f).cells,.int .i64 it.s.id] (.bool (lvB p k it.s.id)):=fun it hi=>by
   have:=HR p k f u l it.s.id (.inr (.inr (UU (QB u).1 l (DY hi))));unfold lvB;rw[VJ l];exact this
  generalize itsOf p k f=its at*
  have hil:=WZ its;conv=>whnf
  repeat' ((first|(refine gX ?_;intros)|refine dA ?_|refine x6b j rfl v ?_|refine z1q j 0 (.str out[j]) (by omega) (by simp[v]) ?_|refine cP g ?_|refine cP d ?_|((first|apply bD|apply bE|apply bN|apply bB)<;>intro _<;>try omega))<;>conv=>whnf)
  refine lI (fun i:Nat×List Str=>⟨[(0,.p (.ip (QY p).cells)),(3,.hd 0 0 i.2.length),(4,.j j),(5,.j k),(29,.p (ZE its)),(30,.p (.int .i64 (its.map fun i=>AV.agg i.cells).length)),(31,.j i.1)],[(0,.own 9 1 (i.2.map .str))]⟩) (fun i=>i.1<=its.length/\i.2.length<=out.length+i.1/\XW i.2 (FW p k (its.drop i.1))=XW out (FW p k its)) (fun i=>its.length-i.1) (0,out) ⟨x4j _,by simp,rfl⟩ ?_;rintro⟨m,o⟩ ⟨T,U,n⟩;simp only at T U n⊢;rcases x4f m its.length with q|q
  .have V:=c its[m] (x4h q);have N:FW p k (its.drop m)=if UY p k its[m]=true then its[m].s.C::FW p k (its.drop (m+1))else FW p k (its.drop (m+1)):=by
    unfold FW;rw[x5j q,x9v];split<;>rfl
   have r:UY p k its[m]=(decide (its[m].s.kind=4)&&lvB p k its[m].s.id):=rfl;rw[N]at n;generalize lvB p k its[m].s.id=lv at*
   conv=>whnf
   repeat' ((first|(refine gX ?_;intros)|refine dA ?_|refine iT Q ?_|refine cP V ?_|(refine QC (QZ o (its[m]'q).s.C) (.cons (.hd rfl (by simp)) (.cons (.p (Sub.refl _)) .nil)) (by rintro _ rfl;rfl) ?_;rintro _ rfl)|refine pS ?_|((first|apply bD|apply bE|apply bN|apply bB)<;>intro _<;>try omega))<;>conv=>whnf)
   all_goals first
    | (have z:UY p k its[m]=true:=by rw[r];simp[*];done
       rw[if_pos z,XW,if_pos (by assumption)]at n;exact nX (m+1,o) ⟨by simp only;omega,by simp only;omega,n⟩)
    | (have z:UY p k its[m]=true:=by rw[r];simp[*];done
       rw[if_pos z,XW,if_neg (by simp[*];done)]at n;exact⟨(m+1,o++[its[m].s.C]),⟨by simp only;omega,by simp;omega,n⟩,by simp only;omega,Le.of_eq (by simp only[x3o,x4d];rfl)⟩)
    | (have z:UY p k its[m]=false:=by rw[r];simp[*];done
       rw[if_neg (by rw[z];decide)]at n;exact nX (m+1,o) ⟨by simp only;omega,by simp only;omega,n⟩)
  .rw [x4l q]at n;have n:o=XW out (FW p k its):=n;subst n;have hge:out.length<=(XW out (FW p k its)).length:=by rw[H];simp
   conv=>whnf
   repeat' ((first|(refine gX ?_;intros)|refine dA ?_|((first|apply bD|apply bE|apply bN|apply bB)<;>intro _<;>try omega))<;>conv=>whnf)
   exact nX (j+1,XW out (FW p k its)) ⟨by simp only;omega,F,G,t⟩
 .have hjo:j=out.length:=by omega
  have Z:rcL p (p.A.length+1-j) j out=out:=by
   rw[show p.A.length+1-j=(p.A.length-j)+1 by omega,rcL,x6j v]
  rw[Z]at t;conv=>whnf
  repeat' ((first|(refine gX ?_;intros)|refine dA ?_|((first|apply bD|apply bE|apply bN|apply bB)<;>intro _<;>try omega)|(refine cH rH1 0 (VM out (by omega)) ?_))<;>conv=>whnf)
  all_goals exact x6n _ (x4c _) ⟨by rw[M,<-t],by unfold QH;rw[<-t]⟩
def I3:KeyOK prog 27 vxV where
 check b k w:=by
  have l:prog.underlying 27=some (.struct (prog.fieldsOf 27)):=by kernel_rfl
  have j:prog.underlying 9=some .string:=by kernel_rfl
  have q:prog.underlying 3=some (.int .i64):=by kernel_rfl
  have o:prog.fieldsOf 27=(match ty27.desc with |.struct fs=>fs|_=>#[]):=by kernel_rfl
  have s:∀(x:ByteArray)(y z:Int)(u:ByteArray),(part 9 #[.string x,.int .i64 y,.int .i64 z,.string u] 0).run prog w=.ok (.string x) w:=fun _ _ _ _=>run_part_plain w (by kernel_rfl) rfl;have t:∀(x:ByteArray)(y z:Int)(u:ByteArray),(part 3 #[.string x,.int .i64 y,.int .i64 z,.string u] 1).run prog w=.ok (.int .i64 y) w:=fun _ _ _ _=>run_part_plain w (by kernel_rfl) rfl;have v:∀(x:ByteArray)(y z:Int)(u:ByteArray),(part 3 #[.string x,.int .i64 y,.int .i64 z,.string u] 2).run prog w=.ok (.int .i64 z) w:=fun _ _ _ _=>run_part_plain w (by kernel_rfl) rfl;have c:∀(x:ByteArray)(y z:Int)(u:ByteArray),(part 9 #[.string x,.int .i64 y,.int .i64 z,.string u] 3).run prog w=.ok (.string u) w:=fun _ _ _ _=>run_part_plain w (by kernel_rfl) rfl;have cs:∀x:ByteArray,(Instr.checkKey b 9999 9 (.string x)).run prog w=.ok () w:=fun x=>by
   show(Instr.checkKey b (9998+1) 9 (.string x)).run prog w=_;rw[Instr.checkKey,Sem.run_bind,run_underlying j,Result.andThen_ok];rfl
  have m:∀x:Int,(Instr.checkKey b 9999 3 (.int .i64 x)).run prog w=.ok () w:=fun x=>by
   show(Instr.checkKey b (9998+1) 3 (.int .i64 x)).run prog w=_;rw[Instr.checkKey,Sem.run_bind,run_underlying q,Result.andThen_ok];rfl
  show(Instr.checkKey b (9999+1) 27 (vxV k)).run prog w=_;unfold vxV;rw[Instr.checkKey,Sem.run_bind,run_underlying l,Result.andThen_ok,o];simp only[ty27];simp[s,t,v,c,cs,m,Sem.run_bind,Result.andThen_ok]
 find k es ks w h:=by
  have l:prog.underlying 27=some (.struct (prog.fieldsOf 27)):=by kernel_rfl
  have r:=Va (P:=prog) (kt:=27) (kv:=vxV) (fun a b w=>V6 9998 a b w) k es ks 0 w h;unfold Instr.findKey;rw[Sem.run_bind,run_underlying l,Result.andThen_ok];cases es with
  | nil=>
    cases ks with
    |nil=>rfl
    |cons=>cases h
  | cons e es=>
    have n:Instr.findNow (.struct (prog.fieldsOf 27)) (vxV k) (e::es) 0=none:=rfl;rw[n];simpa using r
 bits k:=by
  unfold vxV;show Instr.sameBits (9999+1) _ _=true;simp[Instr.sameBits,MA]
def whO(b:List AV)(P V E S a n q:LV):Chunk:=.obj 89 [.p (.ip b),P,V,E,S,a,n,q]
def wjH(k:Nat)(b:List AV)(P V:AV)(l:List (Vx×AV))(es:List Eg):Heap:=[(1000,whO b (.p P) (.p V) (.hd k 0 es.length) (.p .nils) (.ext 1002 .map) (.p .nils) (.p .nils)),(k,.own 43 9 (avE es)),(1002,.ext (Jj vxV l))]
def R7(m:QL p=true)(h:p.A[i]?=some f)(o:it∈itsOf p i f)(P V:AV)(l:List (Vx×AV))(es:List Eg):
  aH 118 [.ptr 1000 0,.j it.s.id] (wjH 1001 (QY p).cells P V l es) (.p (.bool (UY p i it))) (wjH 1001 (QY p).cells P V l es):=by
 have t:=WH m;have q:=(x4u.1 h).1;obtain⟨k,a,b,x⟩:=G0 m h o;have v:((QY p).s.l.map fun i=>AV.agg i.cells)[k]?=some (.agg it.cells):=by rw[t.s,x4q,x];rfl
 have u:((QY p).ways.map fun w=>AV.ip w.cells)[i]?=some (.ip (QQ p i f).cells):=by rw[x4q,t.ways,NO q,VJ h];rfl
 have r:it.C=(i:Nat):=KV _ _ _ _ _ _ it o;have y:aP 110 [.ip (QQ p i f).cells,.int .i64 it.s.id] (.bool (lvB p i it.s.id)):=by
  have:=HR p i f m h it.s.id (.inr (.inr (UU (QB m).1 h (DY o))));unfold lvB;rw[VJ h];exact this
 have n:UY p i it=(decide (it.s.kind=4)&&lvB p i it.s.id):=rfl;rw[n];generalize lvB p i it.s.id=lv at*
 refine sK PO func118 ?_;conv=>whnf
 repeat' ((first|(refine gX ?_;intros)|refine dA ?_|refine iT v ?_|refine IdxK.at (k:=i) r u rfl ?_|refine cP y ?_|((first|apply bD|apply bE|apply bN|apply bB)<;>intro _<;>try omega))<;>conv=>whnf)
 all_goals first
  | (have z:it.s.kind=4:=by assumption
     exact x6n _ (x4c _) ⟨by rw[x5n z,Bool.true_and],rfl⟩)
  |exact x6n _ (.p (Sub.ff (show(decide (it.s.kind=4)&&lv)=false by simp[*]))) ⟨rfl,rfl⟩
def jnK(h:Str)(v:Vx):List Eg:=if v.kind=2 then [⟨v,⟨h,1,0,[]⟩,4⟩]else if v.kind=5 then [⟨v,⟨h,3,0,v.slot⟩,5⟩]else if v.kind=6 then [⟨⟨h,4,0,v.slot⟩,v,6⟩]else []
def jnV(p:Pg)(v:Vx):List Eg:=if v.id=0 then []else match(sheetOf p).l[(v.id-1).toNat]?with
 |some it=>if UY p it.C.toNat it=true then jnK it.s.C v else []
 |none=>[]
def C6(a:QL p=true)(P:AV)(V:List Vx)(l:List (Vx×AV))(es:List Eg)(H:∀v∈V,v.id=0\/∃(i:Nat) (f:Pr) (it:Item),p.A[i]?=some f/\it∈itsOf p i f/\v.id=it.s.id)(M:es.length+V.length<=1000000000):
  aH 67 [.ptr 1000 0] (wjH 2000 (QY p).cells P (.sl (avV V)) l es) (.p (.tup [])) (wjH 2000 (QY p).cells P (.sl (avV V)) l (es++V.flatMap (jnV p))):=by
 have K:=WH a;refine sK MM func67 ?_;have J:(avV V).length=V.length:=by unfold avV;rw[x3a]
 conv=>whnf
 repeat' ((first|(refine gX ?_;intros)|refine dA ?_|((first|apply bD|apply bE|apply bN|apply bB)<;>intro _<;>try omega))<;>conv=>whnf)
 refine lI (fun x:Nat×List Eg=>⟨[(0,.ptr 1000 0),(8,.p (.sl (avV V))),(9,.p (.int .i64 (avV V).length)),(10,.j x.1)],wjH 2000 (QY p).cells P (.sl (avV V)) l x.2⟩) (fun x=>x.1<=V.length/\x.2=es++(V.take x.1).flatMap (jnV p)/\x.2.length<=es.length+x.1) (fun x=>V.length-x.1) (0,es) ⟨x4j _,by simp,x4m _⟩ ?_;rintro⟨j,m⟩ ⟨F,u,G⟩;simp only at F u G⊢;have z:(avE m).length=m.length:=x3a _;rcases x4f j V.length with n|n;rotate_left 1
 .rw [x4b n]at u;rw[<-u];conv=>whnf
  repeat' ((first|(refine gX ?_;intros)|refine dA ?_|((first|apply bD|apply bE|apply bN|apply bB)<;>intro _<;>try omega))<;>conv=>whnf)
  exact x6n _ (x4c _) ⟨rfl,rfl⟩
 have h:es++(V.take (j+1)).flatMap (jnV p)=m++jnV p V[j]:=by
  rw[x4k n,x6m,<-x4r,<-u];simp
 have t:(avV V)[j]?=some (.agg V[j].cells):=by simp[avV,n]
 have r:=H V[j] (x4h n);generalize V[j]=v at t h r;by_cases w:v.id=0
 .have o:jnV p v=[]:=by unfold jnV;rw[if_pos w]
  rw[o,x5m]at h;conv=>whnf
  repeat' ((first|(refine gX ?_;intros)|refine dA ?_|refine iT t ?_|((first|apply bD|apply bE|apply bN|apply bB)<;>intro _<;>try omega))<;>conv=>whnf)
  all_goals first
   |contradiction
   |exact nX (j+1,m) ⟨by simp only;omega,h.symm,by simp only;omega⟩
 obtain⟨i,f,it,q,b,d⟩:=r.resolve_left w;have L:=(x4u.1 q).1;obtain⟨k,N,Q,D⟩:=G0 a q b;have E:((QY p).s.l.map fun i=>AV.agg i.cells)[k]?=some (.agg it.cells):=by rw[K.s,x4q,D];rfl
 have B:it.C=(i:Nat):=KV _ _ _ _ _ _ it b;have g:jnV p v=if UY p i it=true then jnK it.s.C v else []:=by
  unfold jnV;rw[if_neg w,show(v.id-1).toNat=k by omega,D];simp only;rw[B,x5u]
 have y:=R7 a q b P (.sl (avV V)) l m;rw[<-d]at y;rw[g]at h;generalize UY p i it=c at*
 cases c
 .rw [if_neg (by decide),x5m]at h;conv=>whnf
  repeat' ((first|(refine gX ?_;intros)|refine dA ?_|refine iT t ?_|((first|apply bD|apply bE|apply bN|apply bB)<;>intro _<;>try omega)|(refine cH [(1000,1000),(1001,2000),(1002,1002)] 3 y ?_))<;>conv=>whnf)
  all_goals first
   |contradiction
   |exact nX (j+1,m) ⟨by simp only;omega,h.symm,by simp only;omega⟩
 .rw [if_pos rfl]at h;conv=>whnf
  repeat' ((first|(refine gX ?_;intros)|refine dA ?_|refine iT t ?_|refine iT E ?_|refine pA 1 104 z.symm ?_|((first|apply bD|apply bE|apply bN|apply bB)<;>intro _<;>try omega)|(refine cH [(1000,1000),(1001,2000),(1002,1002)] 3 y ?_)|refine x4e ?_ ?_)<;>conv=>whnf)
  all_goals first
   |contradiction
   | (have o:jnK it.s.C v=[⟨v,⟨it.s.C,1,0,[]⟩,4⟩]:=by unfold jnK;rw[if_pos (by assumption)]
      rw[o]at h;exact⟨(j+1,m++[⟨v,⟨it.s.C,1,0,[]⟩,4⟩]),⟨by simp only;omega,h.symm,by simp;omega⟩,by simp only;omega,Le.of_eq (by simp only[wjH,whO,avE,x4d,x3o];rfl)⟩)
   | (have o:jnK it.s.C v=[⟨v,⟨it.s.C,3,0,v.slot⟩,5⟩]:=by unfold jnK;rw[if_neg (by omega),if_pos (by omega)]
      rw[o]at h;exact⟨(j+1,m++[⟨v,⟨it.s.C,3,0,v.slot⟩,5⟩]),⟨by simp only;omega,h.symm,by simp;omega⟩,by simp only;omega,Le.of_eq (by simp only[wjH,whO,avE,x4d,x3o];rfl)⟩)
   | (have o:jnK it.s.C v=[⟨⟨it.s.C,4,0,v.slot⟩,v,6⟩]:=by unfold jnK;rw[if_neg (by omega),if_neg (by omega),if_pos (by omega)]
      rw[o]at h;exact⟨(j+1,m++[⟨⟨it.s.C,4,0,v.slot⟩,v,6⟩]),⟨by simp only;omega,h.symm,by simp;omega⟩,by simp only;omega,Le.of_eq (by simp only[wjH,whO,avE,x4d,x3o];rfl)⟩)
   | (have o:jnK it.s.C v=[]:=by unfold jnK;rw[if_neg (by omega),if_neg (by omega),if_neg (by omega)]
      rw[o,x5m]at h;exact nX (j+1,m) ⟨by simp only;omega,h.symm,by simp only;omega⟩)
def lG(l:List (Vx×Nat)):List (Vx×AV):=l.map fun x=>(x.1,.int .i64 (x.2:Nat))
def ixN(l:List (Vx×Nat))(v:Vx):Nat:=(FY l v).getD 0
def L2(l:List (Vx×Nat))(v:Vx):FY (lG l) v=(FY l v).map fun n=>.int .i64 (n:Nat):=by
 unfold FY lG;rw[List.find?_map];cases h:l.find? ((fun x:Vx×AV=>decide (v=x.1))∘fun x:Vx×Nat=>(x.1,AV.int .i64 (x.2:Nat)))with
 | none=>
   have:l.find? (fun x=>decide (v=x.1))=none:=h;rw[this];rfl
 | some x=>
   have:l.find? (fun x=>decide (v=x.1))=some x:=h;rw[this];rfl
theorem EA(v:Vx)(n:Nat):∀l:List (Vx×Nat),K5 (lG l) v (.int .i64 (n:Nat))=lG (K5 l v n)
 |[]=>rfl
 | x::r=>by
   show K5 ((x.1,AV.int .i64 (x.2:Nat))::lG r) v _=_;rw[K5,K5];split
   .rfl
   .rw [EA v n r];rfl
def TK(w:World):(zeroValue 3).run prog w=.ok (.int .i64 0) w:=by kernel_rfl
def B4{N:Nat}{s:St}{o:Oper}{K:St->Prop}{t:TypeId}{x m:Operand}(j:o.op=.lookup t x m false)(y:QD s.sl x=.ext k .map){l:List (Vx×Nat)}(q:getH s.H k=some (.ext (Jj vxV (lG l))))(v:Vx)(r:QD s.sl m=.p (.agg v.cells)){i:TyI}(w:tab.get t=some i)(n:i.desc=.map 27 3)(h:setD N s.sl o.dst (.p (.int .i64 (ixN l v:Nat))) fun sl=>K ⟨sl,s.H⟩):OpK prog N s o K:=by
 refine Vh XM j I3 y q r (fun σ u h=>J9 (a:=v) h) w n (zv:=.int .i64 0) (z:=.int .i64 0) TK (fun σ=>.int _ _) ?_;have e:(FY (lG l) v).getD (.int .i64 0)=.int .i64 (ixN l v:Nat):=by
  rw[L2];unfold ixN;cases FY l v<;>rfl
 rw[x5q,e];exact h
def TT{N:Nat}{s:St}{o:Oper}{K:St->Prop}{t:TypeId}{x m:Operand}(j:o.op=.lookup t x m true)(y:QD s.sl x=.ext k .map){l:List (Vx×Nat)}(q:getH s.H k=some (.ext (Jj vxV (lG l))))(v:Vx)(r:QD s.sl m=.p (.agg v.cells)){i:TyI}(w:tab.get t=some i)(n:i.desc=.map 27 3)(h:setD N s.sl o.dst (.p (.tup [.int .i64 (ixN l v:Nat),.bool (FY l v).isSome])) fun sl=>K ⟨sl,s.H⟩):OpK prog N s o K:=by
 refine Vh XM j I3 y q r (fun σ u h=>J9 (a:=v) h) w n (zv:=.int .i64 0) (z:=.int .i64 0) TK (fun σ=>.int _ _) ?_;have e:(FY (lG l) v).getD (.int .i64 0)=.int .i64 (ixN l v:Nat):=by
  rw[L2];unfold ixN;cases FY l v<;>rfl
 rw[x4s,e,L2,Option.isSome_map];exact h
def avA(N:List (List (Int×Int))):List (List AV):=N.map avP
def Pz(N:List (List (Int×Int)))(a:Nat)(x:Int×Int):List (List (Int×Int)):=N.set a (N.getD a []++[x])
def wlH(n:Nat)(b:List AV)(P V E:AV)(l:List (Vx×Nat))(N Q:List (List (Int×Int))):Heap:=[(1000,whO b (.p P) (.p V) (.p E) (.p .nils) (.ext 1002 .map) (.hd 2001 0 n) (.hd 2002 0 n)),(1002,.ext (Jj vxV (lG l))),(2001,.ext (.mat 183 185 2 (avA N) [])),(2002,.ext (.mat 183 185 2 (avA Q) []))]
def layR_len{N:List (List (Int×Int))}{a:Nat}{x:Int×Int}:(Pz N a x).length=N.length:=by unfold Pz;simp
def q6d:Info:={keep:=I_whole_Whole_lay.keep,sched:=fun i=>bif beq i 1 then(.cons 0 false (.cons 1 false (.cons 2 false (.cons 4 false (.cons 5 false (.cons 7 false (.cons 8 false (.cons 9 false (.cons 11 false (.cons 12 false (.fork 3 (.fork 6 (.cons 14 false (.cons 10 true (.cons 13 true (.cons 15 true .nil)))) 10 (.fork 6 (.cons 14 false (.cons 13 true (.cons 15 true .nil))) 13 (.cons 6 true (.cons 14 true (.cons 15 true .nil))))) 10 (.fork 3 (.fork 6 (.cons 14 false (.cons 13 true (.cons 15 true .nil))) 13 (.cons 6 true (.cons 14 true (.cons 15 true .nil)))) 13 (.cons 3 true (.cons 6 true (.cons 14 true (.cons 15 true .nil))))))))))))))))else bif beq i 2 then(.cons 12 false (.cons 13 false (.cons 14 false (.cons 15 false (.cons 0 false (.cons 1 false (.cons 2 false (.cons 4 false (.cons 5 false (.cons 6 false (.cons 7 false (.cons 9 false (.alo 8 (.cons 10 false (.alo 11 (.fork 3 (.cons 16 true (.cons 17 true (.cons 18 true (.cons 19 true .nil)))) 16 (.fork 3 (.cons 17 true (.cons 18 true (.cons 19 true .nil))) 17 (.cons 3 true (.cons 18 true (.cons 19 true .nil))))))))))))))))))))else bif beq i 3 then(.cons 12 false (.cons 13 false (.cons 14 false (.cons 15 false (.cons 0 false (.cons 1 false (.cons 2 false (.cons 4 false (.cons 5 false (.cons 6 false (.cons 7 false (.cons 9 false (.alo 8 (.cons 10 false (.alo 11 (.fork 3 (.cons 16 true (.cons 17 true (.cons 18 true (.cons 19 true .nil)))) 16 (.fork 3 (.cons 17 true (.cons 18 true (.cons 19 true .nil))) 17 (.cons 3 true (.cons 18 true (.cons 19 true .nil))))))))))))))))))))else I_whole_Whole_lay.sched i,frz:=I_whole_Whole_lay.frz}
def Ix(n:Nat)(b:List AV)(P V E:AV)(l:List (Vx×Nat))(N Q:List (List (Int×Int)))(e:Eg)(d:N.length=n)(g:Q.length=n)(ha:ixN l e.G<n)(A:ixN l e.to<n)(B:n<=1000000000)(u:∀r∈N,r.length<=1000000000)(v:∀r∈Q,r.length<=1000000000):
  aH 69 [.ptr 1000 0,.p (.agg e.cells)] (wlH n b P V E l N Q) (.p (.tup [])) (wlH n b P V E l (Pz N (ixN l e.G) (ixN l e.to,e.kind)) (Pz Q (ixN l e.to) (ixN l e.G,e.kind))):=by
 refine sK q6d func69 ?_;have q:ixN l e.G<N.length:=by omega
 have s:ixN l e.to<Q.length:=by omega
 have m:(avA N)[ixN l e.G]?=some (avP N[ixN l e.G]):=by unfold avA;rw[x4q,x3e q];rfl
 have h:(avA Q)[ixN l e.to]?=some (avP Q[ixN l e.to]):=by unfold avA;rw[x4q,x3e s];rfl
 have t:avA (Pz N (ixN l e.G) (ixN l e.to,e.kind))=(avA N).set (ixN l e.G) (avP N[ixN l e.G]++[.agg [.int .i64 (ixN l e.to:Nat),.int .i64 e.kind]]):=by
  unfold Pz avA;rw[x5d,x3i,x3e q,x5b];simp[avP]
 have o:avA (Pz Q (ixN l e.to) (ixN l e.G,e.kind))=(avA Q).set (ixN l e.to) (avP Q[ixN l e.to]++[.agg [.int .i64 (ixN l e.G:Nat),.int .i64 e.kind]]):=by
  unfold Pz avA;rw[x5d,x3i,x3e s,x5b];simp[avP]
 have a:(avA N).length=N.length:=x3a _;have y:(avA Q).length=Q.length:=x3a _;have c:(avP N[ixN l e.G]).length<=1000000000:=by unfold avP;rw[x3a];exact u _ (x4h _)
 have z:(avP Q[ixN l e.to]).length<=1000000000:=by unfold avP;rw[x3a];exact v _ (x4h _)
 conv=>whnf
 repeat' ((first|(refine gX ?_;intros)|((first|apply bD|apply bE|apply bN|apply bB)<;>intro _<;>try omega))<;>conv=>whnf)
 refine ZF ⟨[(0,.ptr 1000 0),(3,.p (.ip e.cells)),(4,.j (ixN l e.G:Nat)),(5,.j (ixN l e.to:Nat))],wlH n b P V E l N Q⟩ ?_ ?_
 .skip
  repeat' ((first|(refine gX ?_;intros)|refine dA ?_|((first|apply bD|apply bE|apply bN|apply bB)<;>intro _<;>try omega)|refine B4 rfl rfl rfl e.G rfl rfl rfl ?_|refine B4 rfl rfl rfl e.to rfl rfl rfl ?_|refine x4e ?_ ?_)<;>conv=>whnf)
  all_goals first
   |exact Le.of_eq rfl
 conv=>whnf
 repeat' ((first|(refine gX ?_;intros)|((first|apply bD|apply bE|apply bN|apply bB)<;>intro _<;>try omega))<;>conv=>whnf)
 refine ZF ⟨[(0,.ptr 1000 0),(3,.p (.ip e.cells)),(4,.j (ixN l e.G:Nat)),(5,.j (ixN l e.to:Nat))],wlH n b P V E l (Pz N (ixN l e.G) (ixN l e.to,e.kind)) Q⟩ ?_ ?_
 .skip
  repeat' ((first|(refine iM fun _=>?_)|refine dA ?_|refine x4e rfl ?_|refine aD ?_|refine aR ?_|(refine iA fun _=>?_)|refine IdxK.xs (by omega) ?_|refine Hk (by omega) ?_|refine ByteK.at (by omega) ?_|refine wI ?_|refine iO (ixN l e.G) ?_|refine x9q (ixN l e.G) _ (by omega) m (by simp) ?_|refine x9p (fun x w=>by rcases x4w.1 w with rfl;rfl) rfl ?_|refine OpK.focus XM 31 2001 (ixN l e.G) 2 rfl rfl m (by simp) rfl rfl ?_|refine pA 1 16 rfl ?_|refine ZA XM rfl rfl rfl rfl rfl rfl rfl rfl rfl (by decide) (ixN l e.G) [] (by omega) (by omega) (by simp) ⟨by simp,by simp,by simp⟩ ?_|((first|apply bD|apply bE|apply bN|apply bB)<;>intro _<;>try omega)|refine x4e ?_ ?_)<;>conv=>whnf)
  all_goals first
   |exact Le.of_eq (by unfold wlH;rw[t];rfl)
 conv=>whnf
 repeat' ((first|(refine gX ?_;intros)|((first|apply bD|apply bE|apply bN|apply bB)<;>intro _<;>try omega))<;>conv=>whnf)
 refine ZF ⟨[],wlH n b P V E l (Pz N (ixN l e.G) (ixN l e.to,e.kind)) (Pz Q (ixN l e.to) (ixN l e.G,e.kind))⟩ ?_ ?_
 .skip
  repeat' ((first|(refine iM fun _=>?_)|refine dA ?_|refine x4e rfl ?_|refine aD ?_|refine aR ?_|(refine iA fun _=>?_)|refine IdxK.xs (by omega) ?_|refine Hk (by omega) ?_|refine ByteK.at (by omega) ?_|refine wI ?_|refine iO (ixN l e.to) ?_|refine x9q (ixN l e.to) _ (by omega) h (by simp) ?_|refine x9p (fun x w=>by rcases x4w.1 w with rfl;rfl) rfl ?_|refine OpK.focus XM 50 2002 (ixN l e.to) 2 rfl rfl h (by simp) rfl rfl ?_|refine pA 1 16 rfl ?_|refine ZA XM rfl rfl rfl rfl rfl rfl rfl rfl rfl (by decide) (ixN l e.to) [] (by omega) (by omega) (by simp) ⟨by simp,by simp,by simp⟩ ?_|((first|apply bD|apply bE|apply bN|apply bB)<;>intro _<;>try omega)|refine x4e ?_ ?_)<;>conv=>whnf)
  all_goals first
   |exact Le.of_eq (by unfold wlH;rw[o];rfl)
 conv=>whnf
 repeat' ((first|(refine gX ?_;intros)|refine dA ?_|((first|apply bD|apply bE|apply bN|apply bB)<;>intro _<;>try omega))<;>conv=>whnf)
 all_goals first
  |exact x6n _ (x4c _) ⟨rfl,rfl⟩
def Mn{P:Program}{f:FuncId}{args:List LV}{H:Heap}{R R':LV->Heap->Prop}(h:SpecH P f args H R)(c:∀l H',R l H'->∃s j,R' s j/\Le 1 ⟨[(0,l)],H'⟩ ⟨[(0,s)],j⟩):SpecH P f args H R':=by
 refine⟨h.go,fun σ β w r z a b=>(h.ok σ β w r z a b).mono fun A w' g=>?_⟩;obtain⟨l,u,σ',β',H',d,t,q,o,m⟩:=g;obtain⟨s,j,v,y⟩:=c l H' t;obtain⟨σ2,β2,n,x⟩:=y σ' β' {tmps:=#[u],defers:=[]} w' ⟨rfl,rfl,fun i=>by
  match i with
  |0=>simpa[getS]using q
  |i+1=>exact .p (by simpa[getS]using Rep.any _),o⟩
 exact⟨s,u,σ2,β2,j,d,v,by simpa[getS]using n.E 0,n.heap,m.trans x⟩
def X6{P:Program}{f:FuncId}{args:List LV}{H:Heap}{n:Nat}{e:TypeId}{sz:Nat}{es:List AV}(j:n=es.length)(h:SpecH P f args H (fun r H'=>r=.hd k 0 n/\H'=[(k,.own e sz es)])):SpecH P f args H (fun r H'=>r=.p (.sl es)/\H'=[]):=
 Mn h fun l H' h=>⟨_,_,⟨rfl,rfl⟩,by
  obtain⟨rfl,rfl⟩:=h;exact Hg (k:=k) (e:=e) (sz:=sz) (es:=es) (by simp[getH]) (.cons (.row j) .nil) (.drop .nil)⟩
noncomputable def I5(p:Pg)(k:Nat):List Vx:=J0 (ZR p k (prA p k) (bI p) (bO p))
noncomputable def CR(p:Pg)(k:Nat):List Eg:=DB (Xx p k (prA p k) (bI p) (bO p) (IF (QQ p k (prA p k)) (prA p k) (QJ (prA p k).body+2)) (FE p k (prA p k)))
def Rq(h:QL p=true)(l:k<p.A.length):aH 66 [.p (.ip (QY p).cells),.j k] [] (.p (.sl (avV (I5 p k)))) []:=
 X6 (by unfold avV I5;rw[x3a,DE]) (PN (QY p) p (bI p) (bO p) (Dx h) k _ (ZG l) (q8h h (ZG l)))
def Gs(o:Fit p)(h:QL p=true)(q:k<p.A.length):aH 43 [.p (.ip (QY p).cells),.j k] [] (.p (.sl (avE (CR p k)))) []:=by
 have l:=ZG q;have m:QJ (prA p k).body+2<=202:=by
  have:=NW p.A l;have:=(XF h).2.2;omega
 refine X6 (by unfold avE CR;rw[x3a]) (R8 o h k _ l _ ?_ (QQ p k (prA p k)) ?_ ((Jz (QQ p k (prA p k)) (prA p k) (QJ (prA p k).body+2) (q2e h l) (Fc h l) (x5y (q3g h l) (by decide))).mono fun r v=>?_) _ (Uv h l) (S8 o h l) fun s w=>FA h l w)
 .have n:=Rl (f:=prA p k) (QQ p k (prA p k)) (QJ (prA p k).body+2);have t:(QJ (prA p k).body+2)*(QJ (prA p k).body+2)<=202*202:=z0n m m;omega
 .rw [(WH h).ways,NO q]
 .obtain ⟨fm,M,n,t,u,rfl⟩:=v;rw[<-q3p n u]
def ZS(t:QL p=true):(QH p).Nodup/\∀n∈QH p,n∈QK p:=by
 have key:∀(m k:Nat)(out:List Str),out.Nodup->(∀s∈out,s∈QK p)->(rcL p m k out).Nodup/\∀s∈rcL p m k out,s∈QK p:=fun m=>by
  induction m with
  |zero=>intro k out j h;exact⟨j,h⟩
  | succ m y=>
    intro k out j h;rw[rcL];split
    .rename_i n q;obtain⟨i,w,o,_,_⟩:=JV (h n (x4p q));have l:=ZG w;have x:∀s∈FZ p n,s∈QK p:=fun s r=>by
      unfold FZ at r;rw[show Qm p n=(i:Nat)from o,x5u]at r;exact Y7 t l r
     obtain⟨u,v,_⟩:=VT (FZ p n) j h x;exact y _ _ u v
    .exact ⟨j,h⟩
 obtain⟨j,h⟩:=key (p.A.length+1) 0 [mainS] (by simp) (by simpa using Lz t);unfold QH;exact⟨(x6a _ _).nodup_iff.2 j,fun n q=>h n (XJ.1 q)⟩
def DL(h:QL p=true):(QH p).length<=16:=by
 obtain⟨j,l⟩:=ZS h;have:=YG j l;have m:(QK p).length=p.A.length:=by simp[QK]
 have:=(XF h).2.1;omega
def R9(h:QL p=true):aH 64 [.p (.ip (QY p).cells)] [] (.p (eStrs (QH p))) []:=X6 (x3a _).symm (Dk h)
noncomputable def BZ(p:Pg)(l:List Str):List Vx:=l.flatMap fun n=>I5 p (Qm p n).toNat
noncomputable def q1c(p:Pg)(l:List Str):List Eg:=l.flatMap fun n=>CR p (Qm p n).toNat
noncomputable def FT(p:Pg):List Eg:=DB (q1c p (QH p)++(BZ p (QH p)).flatMap (jnV p))
def atV(V:List Vx):List (Vx×Nat):=V.zipIdx.foldl (fun l x=>K5 l x.1 x.2) []
def Yu(n:Nat)(at_:List (Vx×Nat))(E:List Eg):List (List (Int×Int)):=E.foldl (fun N e=>Pz N (ixN at_ e.G) (ixN at_ e.to,e.kind)) (List.replicate n [])
def Yg(n:Nat)(at_:List (Vx×Nat))(E:List Eg):List (List (Int×Int)):=E.foldl (fun N e=>Pz N (ixN at_ e.to) (ixN at_ e.G,e.kind)) (List.replicate n [])
theorem U3:∀(l:List Eg)(a:Eg),(FX a l).length<=l.length
 |[],_=>x4m _
 | b::r,a=>by
   rw[FX];cases decide (b=a)with
   |true=>exact x5y (U3 r b) (Nat.le_succ _)
   |false=>exact Nat.succ_le_succ (U3 r b)
def LI(l:List Eg):(DB l).length<=l.length:=by
 have h:(IJ (Qj l)).length<=(Qj l).length:=by
  cases j:Qj l with
  |nil=>exact x4m _
  |cons a r=>exact Nat.succ_le_succ (U3 r a)
 rw[Yi]at h;exact h
theorem U4:∀(l:List Eg)(a:Eg),∀e∈FX a l,e∈l
 |[],_,_,h=>h
 | b::r,a,e,h=>by
   rw[FX]at h;cases j:decide (b=a)with
   |true=>rw[j,x4s]at h;exact x4x _ (U4 r b e h)
   | false=>
     rw[j,x5q]at h;rcases x4v.1 h with rfl|h
     .exact x4z
     .exact x4x _ (U4 r b e h)
def AF{l:List Eg}(h:e∈DB l):e∈l:=by
 refine(x6a _ _).mem_iff.1 (show e∈Qj l from ?_);unfold DB at h;cases j:Qj l with
 |nil=>rw[j]at h;exact h
 | cons a r=>
   rw[j]at h;rcases x4v.1 h with rfl|h
   .exact x4z
   .exact x4x _ (U4 r a e h)
def q1f{v:Vx}:v∈I5 p k↔v∈ZR p k (prA p k) (bI p) (bO p):=(x6a _ _).mem_iff
def Ra(j:QL p=true)(m:k<p.A.length):(CR p k).length<=14000000:=by
 have l:=ZG m;have h:QJ (prA p k).body+2<=202:=by
  have:=NW p.A l;have:=(XF j).2.2;omega
 have n:=Rl (f:=prA p k) (QQ p k (prA p k)) (QJ (prA p k).body+2);have o:(QJ (prA p k).body+2)*(QJ (prA p k).body+2)<=202*202:=z0n h h;exact x5y (LI _) (Bh j l (by omega) (Uv j l))
def TJ(h:QL p=true)(j:k<p.A.length):(I5 p k).length<=60000:=by
 unfold I5;rw[DE];exact J8 h (ZG j)
def YW{n:Str}(h:n∈QK p):∃k,k<p.A.length/\Qm p n=(k:Nat)/\(prA p k).name=n:=by
 obtain⟨k,j,l,_,m⟩:=JV h;exact⟨k,j,l,by rw[VJ (x3e j)];exact m⟩
theorem U9{α:Type}{f:Str->List α}{c:Nat}:∀(l:List Str),(∀n∈l,(f n).length<=c)->(l.flatMap f).length<=l.length*c
 |[],_=>x4j _
 | n::r,h=>by
   rw[x6d,x3o,x5g,Nat.succ_mul];have m:=h n x4z;have o:=U9 r fun x j=>h x (x4x _ j);omega
def TY(m:QL p=true)(l:List Str)(h:∀n∈l,n∈QK p):(BZ p l).length<=l.length*60000:=U9 l fun n q=>by
 obtain⟨k,o,j,_⟩:=YW (h n q);rw[j,x5u];exact TJ m o
def He(m:QL p=true)(l:List Str)(h:∀n∈l,n∈QK p):(q1c p l).length<=l.length*14000000:=U9 l fun n q=>by
 obtain⟨k,o,j,_⟩:=YW (h n q);rw[j,x5u];exact Ra m o
section
variable {κ α:Type}[DecidableEq κ]
def DZ(x:κ×α)(r:List (κ×α))(k:κ):FY (x::r) k=if k=x.1 then some x.2 else FY r k:=by
 unfold FY;rw[x9o];by_cases h:k=x.1
 .simp [h]
 .simp [h]
theorem F5(k:κ)(v:α)(m:κ):∀l:List (κ×α),FY (K5 l k v) m=if m=k then some v else FY l m
 | []=>by
   rw[K5,DZ]
 | x::r=>by
   rw[K5];by_cases h:k=x.1
   .rw [if_pos h,DZ,DZ];by_cases j:m=k
    .rw [if_pos j,if_pos (j.trans h)]
    .rw [if_neg j,if_neg (fun n=>j (n.trans h.symm)),if_neg (fun n=>j (n.trans h.symm))]
   .rw [if_neg h,DZ,DZ,F5 k v m r];by_cases j:m=k
    .subst j;simp[h]
    .rw [if_neg j,if_neg j]
end
theorem Co(v:Vx):∀(L:List (Vx×Nat))(l:List (Vx×Nat)),(FY (L.foldl (fun l x=>K5 l x.1 x.2) l) v).isSome=((FY l v).isSome||L.any fun x=>decide (v=x.1))
 |[],l=>by simp
 | x::r,l=>by
   rw[x7v,Co v r,F5,List.any_cons];by_cases h:v=x.1
   .simp [h]
   .simp [h]
def q3k(V:List Vx)(v:Vx):(FY (atV V) v).isSome=decide (v∈V):=by
 unfold atV;rw[Co];have h:(V.zipIdx.any fun x=>decide (v=x.1))=decide (v∈V):=by
  rw[x8s,x6s,x8q];constructor
  .rintro ⟨x,o,l⟩;rw[x7a l];obtain⟨_,q,j⟩:=List.mem_zipIdx o;rw[j];exact x4h _
  .intro n;obtain⟨i,m,rfl⟩:=x6u.1 n;exact⟨(V[i],i),x6u.2 ⟨i,by simpa using m,by simp⟩,by simp⟩
 rw[h];rfl
theorem Kv(n:Nat)(v:Vx):∀(L:List (Vx×Nat))(l:List (Vx×Nat)),(∀x∈L,x.2<n)->(∀m,FY l v=some m->m<n)->∀m,FY (L.foldl (fun l x=>K5 l x.1 x.2) l) v=some m->m<n
 |[],l,_,h=>h
 | x::r,l,h1,h=>by
   rw[x7v];refine Kv n v r _ (fun y o=>h1 y (x4x _ o)) fun m j=>?_;rw[F5]at j;split at j
   .cases j;exact h1 x x4z
   .exact h m j
def q9v{V:List Vx}(j:V≠[])(v:Vx):ixN (atV V) v<V.length:=by
 have l:0<V.length:=z0a.2 j;unfold ixN;cases n:FY (atV V) v with
 |none=>exact l
 | some m=>
   exact Kv V.length v V.zipIdx [] (fun x o=>by
    obtain⟨_,q,_⟩:=List.mem_zipIdx o;omega) (fun m h=>by cases h) m n
theorem Th{p:Pg}:∀(m k:Nat)(out:List Str)(n:Str),n∈out->n∈rcL p m k out
 |0,_,_,_,h=>h
 | m+1,k,out,n,h=>by
   rw[rcL];split
   .refine Th m _ _ n ?_;have key:∀(l o:List Str),n∈o->n∈XW o l:=fun l=>by
     induction l with
     |nil=>intro o h;exact h
     | cons x r j=>
       intro o h;rw[XW];split
       .exact j _ h
       .exact j _ (x5c _ h)
    exact key _ _ h
   .exact h
def G4(p:Pg):mainS∈QH p:=by
 unfold QH;rw[XJ];exact Th _ _ _ _ x4z
def KD{l:List Str}{v:Vx}:v∈BZ p l ↔ ∃n∈l,v∈ZR p (Qm p n).toNat (prA p (Qm p n).toNat) (bI p) (bO p):=by
 unfold BZ;rw[x4a];exact x9t fun n=>and_congr z0g q1f
def q1h(p:Pg):BZ p (QH p)≠[]:=by
 refine List.ne_nil_of_mem (a:=⟨(prA p (Qm p mainS).toNat).name,1,0,[]⟩) ?_;exact KD.2 ⟨mainS,G4 p,QE.2 (.inl rfl)⟩
def q5e(l:QL p=true):∀v∈BZ p (QH p),v.id=0\/∃(i:Nat) (f:Pr) (it:Item),p.A[i]?=some f/\it∈itsOf p i f/\v.id=it.s.id:=by
 intro v h;obtain⟨n,q,h⟩:=KD.1 h;obtain⟨k,o,j,_⟩:=YW ((ZS l).2 n q);rw[j,x5u]at h;rcases QE.1 h with rfl|⟨n,_,rfl⟩|⟨n,_,rfl⟩|⟨it,m,rfl|⟨_,⟨n,_,rfl⟩|⟨n,_,rfl⟩⟩⟩
 .exact .inl rfl
 .exact .inl rfl
 .exact .inl rfl
 all_goals exact .inr ⟨k,_,it,ZG o,m,rfl⟩
def L8(p:Pg)(v:Vx):(jnV p v).length<=1:=by
 unfold jnV;split
 .simp
 split
 .split
  .unfold jnK;split
   .simp
   split
   .simp
   split<;>simp
  .simp
 .simp
def Rr{a b c:Eg}(h:egC a b<0)(j:egC b c<0):egC a c<0:=by
 rw[Me]at*
 exact lexE_k.tr _ _ _ h j
def Ma(a:Eg):¬egC a a<0:=by
 rw[Me,(lexE_k.zero _ _).2 rfl];decide
def q1s{a b:Eg}(h:¬egC a b<0):a=b\/egC b a<0:=by
 rw[Me]at h;rcases lexE_k.ge h with h|h
 .exact .inl (CB h)
 .exact .inr (by rw[Me];exact h)
theorem Kk:∀(l:List Eg)(a:Eg),(∀b∈l,¬egC b a<0)->l.Pairwise (fun x y=>¬egC y x<0)->(∀b∈FX a l,egC a b<0)/\(FX a l).Pairwise (fun x y=>egC x y<0)
 |[],_,_,_=>⟨fun _ h=>(nomatch h),.nil⟩
 | b::r,a,h1,h2=>by
   obtain⟨q,s⟩:=x6t.1 h2;obtain⟨m,o⟩:=Kk r b q s;rw[FX];by_cases h:b=a
   .rw [x5n h,x4s];exact⟨h▸m,o⟩
   .rw [x5r h,x5q];have j:egC a b<0:=(q1s (h1 b x4z)).resolve_left h;refine⟨fun c n=>?_,x6t.2 ⟨m,o⟩⟩;rcases x4v.1 n with rfl|n
    .exact j
    .exact Rr j (m c n)
theorem U2:∀(l:List Eg)(a e:Eg),e∈l->e=a\/e∈FX a l
 | b::r,a,e,h=>by
   rw[FX];by_cases j:b=a
   .rw [x5n j,x4s];rcases x4v.1 h with rfl|h
    .exact .inl j
    .exact j▸U2 r b e h
   .rw [x5r j,x5q];rcases x4v.1 h with rfl|h
    .exact .inr x4z
    .rcases U2 r b e h with rfl|h
     .exact .inr x4z
     .exact .inr (x4x _ h)
def SS(l:List Eg):(Qj l).Pairwise (fun x y=>¬egC y x<0):=by
 have h:=x9e (le:=fun x y:Eg=> !decide (egC y x<0)) (fun a b c m j=>by
  simp only[x7w,x7j]at*
  intro h;rcases q1s m with rfl|n
  .exact j h
  .exact j (Rr h n)) (fun a b=>by
  by_cases h:egC b a<0
  .have:¬egC a b<0:=fun j=>Ma _ (Rr h j);simp[this]
  .simp [h]) l
 exact h.imp fun {a b} h=>by simpa using h
def BA(l:List Eg):(DB l).Pairwise (fun x y=>egC x y<0):=by
 have h:=SS l;unfold DB;cases q:Qj l with
 |nil=>exact .nil
 | cons a r=>
   rw[q]at h;obtain⟨j,m⟩:=x6t.1 h;obtain⟨n,o⟩:=Kk r a j m;exact x6t.2 ⟨n,o⟩
def WF{l:List Eg}:e∈DB l↔e∈l:=by
 refine⟨AF,fun h=>?_⟩;have h:e∈Qj l:=(x6a _ _).mem_iff.2 h;unfold DB;cases j:Qj l with
 |nil=>rw[j]at h;cases h
 | cons a r=>
   rw[j]at h;rcases x4v.1 h with rfl|h
   .exact x4z
   .rcases U2 r a e h with rfl|h
    .exact x4z
    .exact x4x _ h
def OJ(l:List Eg):(DB l).Nodup:=List.Pairwise.imp (S:=fun a b=>a≠b) (fun {a b} (h:egC a b<0)=>fun(j:a=b)=>Ma b (by rw[j]at h;exact h)) (BA l)
def Pp{l L:List Eg}{q:Eg->Bool}(j:L.Nodup)(h:∀e,e∈L↔e∈l/\q e=true):((DB l).filter q).length=L.length:=by
 have m:((DB l).filter q).Perm L:=(List.perm_ext_iff_of_nodup ((OJ l).filter _) j).2 fun e=>by rw[x5h,WF,h]
 exact m.length_eq
def pqS:Str:=[112]
def Tt:∀it∈itsOf someP 0 f0,lvB someP 0 it.s.id=true:=fun it h=>by
 unfold lvB;rw[show prA someP 0=f0 from rfl,q9s];exact x6w.1 (show((itsOf someP 0 f0).all fun it=>[true,true,true,true,true,true].getD (ixI someP 0 f0 it.s.id).toNat false)=true by kernel_rfl) it h
def q0c:∀it∈itsOf someP 1 f1,lvB someP 1 it.s.id=true:=fun it h=>by
 unfold lvB;rw[show prA someP 1=f1 from rfl,q9c];exact x6w.1 (show((itsOf someP 1 f1).all fun it=>[true,true,true,true,true,true].getD (ixI someP 1 f1 it.s.id).toNat false)=true by kernel_rfl) it h
def SR:FZ someP mainS=[pqS]:=by
 unfold FZ;rw[show Qm someP mainS=0 by kernel_rfl];show FW someP 0 (itsOf someP 0 f0)=_;unfold FW;rw[show(itsOf someP 0 f0).filter (UY someP 0)=(itsOf someP 0 f0).filter fun it=>decide (it.s.kind=4)from z0y fun it h=>by unfold UY;rw[Tt it h,Bool.and_true]]
 kernel_rfl
def ST:FZ someP pqS=[]:=by
 unfold FZ;rw[show Qm someP pqS=1 by kernel_rfl];show FW someP 1 (itsOf someP 1 f1)=_;unfold FW;rw[show(itsOf someP 1 f1).filter (UY someP 1)=(itsOf someP 1 f1).filter fun it=>decide (it.s.kind=4)from z0y fun it h=>by unfold UY;rw[q0c it h,Bool.and_true]]
 kernel_rfl
def some_reach:(QH someP).Perm [mainS,pqS]:=by
 have h:rcL someP 3 0 [mainS]=[mainS,pqS]:=by
  show rcL someP 2 1 (XW [mainS] (FZ someP mainS))=_;rw[SR];show rcL someP 1 2 (XW [mainS,pqS] (FZ someP pqS))=_;rw[ST];rfl
 unfold QH YK;rw[show someP.A.length+1=3 from rfl,h];exact x6a _ _
def sI(j:Nat):List Str:=[[],[]].getD j []
def sOo(j:Nat):List Str:=sOx.getD j []
def Ea:bI someP=sI:=by
 funext j;unfold bI;rw[<-some_book.eq];rfl
def Ee:bO someP=sOo:=by
 funext j;unfold bO;rw[<-some_book.eq];rfl
def rawS:List Vx:=ZR someP 0 f0 sI sOo++ZR someP 1 f1 sI sOo
def some_V:(BZ someP (QH someP)).Perm rawS:=by
 unfold BZ;refine(some_reach.flatMap_right _).trans ?_;show(I5 someP (Qm someP mainS).toNat++(I5 someP (Qm someP pqS).toNat++[])).Perm _;rw[show Qm someP mainS=0 by kernel_rfl,show Qm someP pqS=1 by kernel_rfl,x5m];unfold rawS I5 J0;rw[Ea,Ee];exact(x6a _ _).append (x6a _ _)
def Oy(p:Pg)(I O:Nat->List Str)(it:Item):Nat:=1+if it.s.kind=4 then(I (cIx p it.s)).length+(prG p (cIx p it.s)).B.length+((O (cIx p it.s)).length+1)else 0
def q1g{l:Str}(h:it.s.kind=4->it.s.name≠[]):(Ni p l I O it).length=Oy p I O it:=by
 unfold Ni Oy;rw[x5g];split
 .rename_i j;have e:clO it.s (O (cIx p it.s))=slO (O (cIx p it.s)):=by unfold clO;rw[if_neg (h j)]
  rw[e,x3o,x3a,x3a,Xi,NL];omega
 .rfl
def No(h:((itsOf p i f).all fun it=>decide (it.s.kind=4->it.s.name≠[]))=true):(ZR p i f I O).length=1+((I i).length+f.B.length)+((O i).length+1)+((itsOf p i f).map (Oy p I O)).sum:=by
 unfold ZR J7;rw[x3o,List.length_flatMap,show(itsOf p i f).map (fun it=>(Ni p f.name I O it).length)=(itsOf p i f).map (Oy p I O)from x9s fun it j=>q1g (x7a (x6w.1 h it j))];simp only[x3o,x3a,x4i,Xi,NL]
def Ec:(BZ someP (QH someP)).length=20:=by
 rw[some_V.length_eq];unfold rawS;rw[x3o,No (by kernel_rfl),No (by kernel_rfl)]
 kernel_rfl
def q0s:⟨pqS,2,7,[]⟩∈BZ someP (QH someP):=by
 refine some_V.mem_iff.2 (x6f _ (QE.2 (.inr (.inr (.inr ?_)))));have h:∃it∈itsOf someP 1 f1,it.s.id=7:=by
  refine⟨(itsOf someP 1 f1)[2]'(by decide),x4h _,by rfl⟩
 obtain⟨it,j,l⟩:=h;exact⟨it,j,.inl (by rw[l];rfl)⟩
def RT(o:QL p=true)(q:p.A[i]?=some f)(j:it∈itsOf p i f)(n:Str)(k:Int)(s:Str):jnV p ⟨n,k,it.s.id,s⟩=if UY p i it=true then jnK it.s.C ⟨n,k,it.s.id,s⟩else []:=by
 obtain⟨m,t,u,r⟩:=G0 o q j;have h:it.C=(i:Nat):=KV _ _ _ _ _ _ it j;unfold jnV;rw[if_neg (by show it.s.id≠0;omega)];show(match(sheetOf p).l[(it.s.id-1).toNat]?with|some it=>_|none=>_)=_;rw[show(it.s.id-1).toNat=m by omega,r];simp only;rw[h,x5u]
def jnI(p:Pg)(h:Str)(I O:Nat->List Str)(it:Item)(e:Eg):Prop:=e=⟨⟨h,2,it.s.id,[]⟩,⟨it.s.C,1,0,[]⟩,4⟩\/(∃s∈slI (I (cIx p it.s)) (prG p (cIx p it.s)),e=⟨⟨h,5,it.s.id,s⟩,⟨it.s.C,3,0,s⟩,5⟩)\/∃s∈clO it.s (O (cIx p it.s)),e=⟨⟨it.s.C,4,0,s⟩,⟨h,6,it.s.id,s⟩,6⟩
def P9(o:QL p=true)(q:p.A[i]?=some f):(∃v∈ZR p i f I O,e∈jnV p v) ↔ ∃it∈itsOf p i f,UY p i it=true/\jnI p f.name I O it e:=by
 constructor
 .rintro ⟨v,u,j⟩;rcases QE.1 u with rfl|⟨n,m,rfl⟩|⟨n,m,rfl⟩|⟨it,l,rfl|⟨r,⟨n,m,rfl⟩|⟨n,m,rfl⟩⟩⟩
  .cases j
  .cases j
  .cases j
  all_goals
   rw[RT o q l]at j;split at j
   .rename_i h;refine⟨it,l,h,?_⟩;first
     |exact .inl (x4w.1 j)
     |exact .inr (.inl ⟨n,m,x4w.1 j⟩)
     |exact .inr (.inr ⟨n,m,x4w.1 j⟩)
   .cases j
 .rintro ⟨it,l,h,rfl|⟨s,t,rfl⟩|⟨s,t,rfl⟩⟩
  .exact ⟨⟨f.name,2,it.s.id,[]⟩,QE.2 (.inr (.inr (.inr ⟨it,l,.inl rfl⟩))),by rw[RT o q l,if_pos h];exact x4z⟩
  all_goals
   have r:it.s.kind=4:=by
    unfold UY at h;rw[x4n]at h;exact x7a h.1
  .exact ⟨⟨f.name,5,it.s.id,s⟩,QE.2 (.inr (.inr (.inr ⟨it,l,.inr ⟨r,.inl ⟨s,t,rfl⟩⟩⟩))),by rw[RT o q l,if_pos h];exact x4z⟩
  .exact ⟨⟨f.name,6,it.s.id,s⟩,QE.2 (.inr (.inr (.inr ⟨it,l,.inr ⟨r,.inr ⟨s,t,rfl⟩⟩⟩))),by rw[RT o q l,if_pos h];exact x4z⟩
def Bf(j:QL p=true)(h:e∈q1c p (QH p)):∃f,∃k:Nat,p.A[k]?=some f/\f.name∈QH p/\EgP f e/\e∈CR p k:=by
 obtain⟨n,o,l⟩:=x4a.1 h;obtain⟨k,m,q,r⟩:=YW ((ZS j).2 n o);rw[q,x5u]at l;exact⟨prA p k,k,ZG m,by rw[r];exact o,Wf j (ZG m) (fun s t=>(FA j (ZG m) t).1) e (WF.1 l),l⟩
def CP(m:QL p=true)(u:3<=e.kind):e∈FT p ↔ ∃n∈QH p,∃(k:Nat) (f:Pr),p.A[k]?=some f/\Qm p n=k/\f.name=n/\∃it∈itsOf p k f,UY p k it=true/\jnI p f.name (bI p) (bO p) it e:=by
 unfold FT;rw[WF,x4g];constructor
 .rintro (h|h)
  .obtain ⟨f,k,_,_,h,_⟩:=Bf m h;rcases h.2.2.2.2 with h|h<;>omega
  .obtain ⟨v,j,q⟩:=x4a.1 h;obtain⟨n,o,j⟩:=KD.1 j;obtain⟨k,t,l,r⟩:=YW ((ZS m).2 n o);rw[l,x5u]at j;exact⟨n,o,k,prA p k,ZG t,l,r,(P9 m (ZG t)).1 ⟨v,j,q⟩⟩
 .rintro ⟨n,o,k,f,s,l,r,h⟩;obtain⟨v,j,q⟩:=(P9 m s).2 h;refine .inr (x4a.2 ⟨v,KD.2 ⟨n,o,?_⟩,q⟩);rw[l,x5u,VJ s];exact j
def BO(l:it∈itsOf someP 0 f0)(h:UY someP 0 it=true):it.s.id=2/\it.s.C=pqS/\it.s.name≠[]:=by
 unfold UY at h;rw[x4n]at h;have j:=x7a h.1;have key:((itsOf someP 0 f0).all fun it=>decide (it.s.kind=4->it.s.id=2/\it.s.C=pqS/\it.s.name≠[]))=true:=by kernel_rfl
 exact x7a (x6w.1 key it l) j
def La(l:it∈itsOf someP 1 f1)(h:UY someP 1 it=true):False:=by
 unfold UY at h;rw[x4n]at h;have j:=x7a h.1;have key:((itsOf someP 1 f1).all fun it=>decide (it.s.kind≠4))=true:=by kernel_rfl
 exact x7a (x6w.1 key it l) j
def DA(r:3<=e.kind):e∈FT someP ↔ ∃it∈itsOf someP 0 f0,UY someP 0 it=true/\jnI someP mainS sI sOo it e:=by
 rw[CP HM r,Ea,Ee];constructor
 .rintro ⟨n,m,k,f,q,o,s,it,l,j,h⟩;rcases x4v.1 (some_reach.mem_iff.1 m)with rfl|m
  .obtain rfl:k=0:=by rw[show Qm someP mainS=0 by kernel_rfl]at o;omega
   obtain rfl:f0=f:=x8z q;exact⟨it,l,j,h⟩
  .obtain rfl:=x4w.1 m;obtain rfl:k=1:=by rw[show Qm someP pqS=1 by kernel_rfl]at o;omega
   obtain rfl:f1=f:=x8z q;exact(La l j).elim
 .rintro ⟨it,l,j,h⟩;exact⟨mainS,some_reach.mem_iff.2 x4z,0,f0,rfl,by kernel_rfl,rfl,it,l,j,h⟩
def Ei:∃it∈itsOf someP 0 f0,UY someP 0 it=true:=by
 have h:(itsOf someP 0 f0)[1]'(by decide)∈itsOf someP 0 f0:=x4h _;refine⟨_,h,?_⟩;unfold UY;rw[Tt _ h]
 kernel_rfl
def q0t(h:it.s.C=pqS):cIx someP it.s=1:=by
 unfold cIx;rw[h]
 kernel_rfl
def SL:((FT someP).filter fun e=>decide (e.kind=4)).length=1:=by
 unfold FT;refine Pp (L:=[⟨⟨mainS,2,2,[]⟩,⟨pqS,1,0,[]⟩,4⟩]) (by simp) fun e=>?_;rw[x4w,<-WF,x8q];show _↔e∈FT someP/\_;constructor
 .rintro rfl;obtain⟨it,l,j⟩:=Ei;obtain⟨m,n,_⟩:=BO l j;exact⟨(DA (by decide)).2 ⟨it,l,j,.inl (by rw[m,n])⟩,rfl⟩
 .rintro ⟨h,o⟩;obtain⟨it,l,j,h⟩:=(DA (by omega)).1 h;obtain⟨m,n,_⟩:=BO l j;rcases h with rfl|⟨s,_,rfl⟩|⟨s,_,rfl⟩
  .rw [m,n]
  .exact absurd o (by simp)
  .exact absurd o (by simp)
def Eo:((FT someP).filter fun e=>decide (e.kind=6)).length=2:=by
 unfold FT;refine Pp (L:=[⟨⟨pqS,4,0,yS⟩,⟨mainS,6,2,yS⟩,6⟩,⟨⟨pqS,4,0,retS⟩,⟨mainS,6,2,retS⟩,6⟩]) (by decide) fun e=>?_;refine Iff.trans ?_ (and_congr (WF (e:=e)) x8q.symm);show _↔e∈FT someP/\e.kind=6;have q:∀{it:Item},it.s.C=pqS->it.s.name≠[]->∀s,s∈clO it.s (sOo (cIx someP it.s))↔s=yS\/s=retS:=fun l m s=>by
  unfold clO slO;rw[if_neg m,XJ,q0t l];show s∈[yS,retS]↔_;simp
 constructor
 .intro r;obtain⟨it,n,j⟩:=Ei;obtain⟨o,l,m⟩:=BO n j;rcases x4v.1 r with rfl|r
  .exact ⟨(DA (by decide)).2 ⟨it,n,j,.inr (.inr ⟨yS,(q l m _).2 (.inl rfl),by rw[o,l]⟩)⟩,rfl⟩
  .obtain rfl:=x4w.1 r;exact⟨(DA (by decide)).2 ⟨it,n,j,.inr (.inr ⟨retS,(q l m _).2 (.inr rfl),by rw[o,l]⟩)⟩,rfl⟩
 .rintro ⟨h,t⟩;obtain⟨it,n,j,h⟩:=(DA (by omega)).1 h;obtain⟨o,l,m⟩:=BO n j;rcases h with rfl|⟨s,_,rfl⟩|⟨s,u,rfl⟩
  .exact absurd t (by simp)
  .exact absurd t (by simp)
  .rw [o,l];rcases(q l m s).1 u with rfl|rfl
   .exact x4z
   .exact x4x _ x4z
def Mr(h:UY p i it=true):it.s.kind=4/\lvB p i it.s.id=true:=by
 unfold UY at h;rw[x4n]at h;exact⟨x7a h.1,h.2⟩
def q4h(m:QL p=true):∀e∈(BZ p (QH p)).flatMap (jnV p),OK e:=by
 intro e w;obtain⟨v,t,w⟩:=x4a.1 w;obtain⟨n,c,t⟩:=KD.1 t;obtain⟨k,y,a,d⟩:=YW ((ZS m).2 n c);rw[a,x5u]at t;obtain⟨it,b,u,h⟩:=(P9 m (ZG y)).1 ⟨v,t,w⟩;obtain⟨g,q,_,_,x⟩:=GO m (HS (ZG y) b) (Mr u).1;have o:=q8c m q;rw[x]at o;have l:=q8c m (ZG y);have z:prG p (cIx p it.s)=g:=by unfold prG;rw[q];rfl
 rcases h with rfl|⟨s,r,rfl⟩|⟨s,r,rfl⟩
 .exact ⟨LO ⟨l,x4j _⟩,LO ⟨o,x4j _⟩⟩
 .rw [z]at r;have j:=q5y m q r;exact⟨LO ⟨l,j⟩,LO ⟨o,j⟩⟩
 .have j:=q5j m q (Mt r);exact⟨LO ⟨o,j⟩,LO ⟨l,j⟩⟩
def q3l(l:QL p=true):∀e∈q1c p (QH p)++(BZ p (QH p)).flatMap (jnV p),OK e:=by
 intro e j;rcases x4g.1 j with j|j
 .obtain ⟨f,k,m,_,h,_⟩:=Bf l j;exact h.ok l m
 .exact q4h l e j
end Go.Ab
