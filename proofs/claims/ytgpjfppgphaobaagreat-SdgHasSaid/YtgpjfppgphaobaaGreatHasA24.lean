/- whole: a procedure's edges as they come; how many there are, what they are made of. Conditions: the program is right. -/
import Derived.Test.YtgpjfppgphaobaaGreatHasA23
set_option linter.all false
set_option maxRecDepth 100000
set_option maxHeartbeats 16000000
open Nat (beq)
namespace Go.Ab
open Go.Proofs.Tryz
open Go.Proofs
variable {I O:Nat->List Str}{e:Eg}{f:Pr}{i k:Nat}{it:Item}{p:Pg}
def Cn(h:QA p=true)(n:p.A[i]?=some f)(a:Nat):(Yf p i f a).Nodup/\(Yf p i f a).length<=34:=by
 have l:∀d∈(QY p).M,d.Pairwise ltT/\d.length<=34:=fun d j=>by
  rw[(VS h).M]at j;obtain⟨it,m,rfl⟩:=x1r.1 j;have o:it.s∈VL p:=by rw[<-US];exact x5w m
  exact⟨ZH _,x2m (YU _) (NC h (KW h).1 o)⟩
 exact⟨UR (Da (fun d j=>(l d j).1) a),Ll (fun d j=>(l d j).2) ((KW h).2.len25 h i) ((KT (QP h).1).pr f (x1o n)).1 a⟩
def Vg(o:QA p=true)(q:p.A[i]?=some f):(Xt p i f).length<=1400000:=by
 have u:QJ f.body+2<=202:=by
  have:=BS p.A q;have:=(XK o).2.2;omega
 generalize v:QJ f.body+2=n at*
 have h:=JH (m:=(List.range n).flatMap fun(a:Nat)=>(List.range n).flatMap fun(c:Nat)=>(Yf p i f a).map fun j=>(⟨QD p i (n:Nat) a,QD p i (n:Nat) c,j⟩:Fl)) (Cw o fun a=>(Cn o q a).1) fun s w=>by
  obtain⟨j,c,a,r,l,t,rfl,_⟩:=Je w;rw[v]at r l⊢;exact x2p.2 ⟨a,x3h.2 l,x2p.2 ⟨c,x3h.2 r,x1r.2 ⟨j,t,rfl⟩⟩⟩
 have l:=XM (f:=fun(a:Nat)=>(List.range n).flatMap fun(c:Nat)=>(Yf p i f a).map fun j=>(⟨QD p i (n:Nat) a,QD p i (n:Nat) c,j⟩:Fl)) (c:=n*34) (fun a=>by
  refine x2m (XM (c:=34) (fun c=>?_) _) (by rw[x3o];exact x2q _);rw[x1j];exact(Cn o q a).2) (List.range n)
 rw[x3o]at l;have t:n*(n*34)<=202*(202*34):=x7i u (x2e _ u);omega
def ctE(h:Str)(d:Int×Int):Eg:=⟨if d.1=0 then⟨h,1,0,[]⟩else⟨h,2,d.1,[]⟩,⟨h,2,d.2,[]⟩,1⟩
def vxE(h:Str)(v:Vx):List Eg:=if v.kind=3\/v.kind=4 then [⟨⟨h,1,0,[]⟩,v,1⟩]else if v.kind=5\/v.kind=6 then [⟨⟨h,2,v.id,[]⟩,v,1⟩]else []
def gvP(p:Pg)(h:Str)(place:Int)(name:Str):Vx:=if place=0 then⟨h,3,0,name⟩else match S7 p place with
 |some t=>gvS p h t place name
 |none=>⟨h,2,place,[]⟩
def tkP(p:Pg)(h:Str)(I:Nat->List Str)(place:Int)(name:Str):List Vx:=if place = -1 then [⟨h,4,0,name⟩]else match S7 p place with
 |some t=>tkS p h t place name (I (cIx p t))
 |none=>[]
def flE(p:Pg)(h:Str)(I:Nat->List Str)(s:Fl):List Eg:=(tkP p h I s.dst s.var).map fun j=>⟨gvP p h s.src s.var,j,2⟩
def Vq(p:Pg)(i:Nat)(f:Pr)(I O:Nat->List Str)(D:List (Int×Int))(F:List Fl):List Eg:=D.map (ctE f.name)++(Y6 (UE p i f I O)).flatMap (vxE f.name)++F.flatMap (flE p f.name I)
def q3x(p:Pg)(l:Str)(t:S)(place:Int)(name:Str)(I:List Str):(tkS p l t place name I).length<=t.args.length+1:=by
 unfold tkS;split
 .simp
 .have h:=XM (f:=LF p l t place name) (c:=1) (fun j=>by unfold LF;split<;>simp) (List.range t.args.length);rw[x3o]at h;rw[x1h];have:(if comB p name=true/\inS I name=true then [(⟨l,5,place,name⟩:Vx)]else []).length<=1:=by split<;>simp
  omega
def AW(j:QA p=true){t:S}(l:t∈VL p)(h:t.kind=4):t.args.length<=8:=(HN j l h).2
def AD(n:QA p=true)(l:Str)(I:Nat->List Str)(place:Int)(name:Str):(tkP p l I place name).length<=9:=by
 unfold tkP;split
 .simp
 .cases j:S7 p place with
  |none=>simp
  | some t=>
    have o:t∈VL p:=by
     unfold S7 at j;rw[<-US];obtain⟨it,m,rfl⟩:=x6c.1 j;exact x5w (x1o m)
    simp only;by_cases h:t.kind=4
    .have:=q3x p l t place name (I (cIx p t));have:=AW n o h;omega
    .unfold tkS;rw[if_pos h];simp
def q3g(h:Str)(v:Vx):(vxE h v).length<=1:=by
 unfold vxE;split
 .simp
 .split<;>simp
def Dj(h:QA p=true)(l:p.A[i]?=some f){D:List (Int×Int)}(o:D.length<=1000000){F:List Fl}(q:F.length<=1400000):(Vq p i f (bI p) (bO p) D F).length<=14000000:=by
 unfold Vq;have j:=XM (q3g f.name) (Y6 (UE p i f (bI p) (bO p)));rw[FN]at j;have m:=Yw h l;have n:=XM (f:=flE p f.name (bI p)) (c:=9) (fun s=>by unfold flE;rw[x1j];exact AD h _ _ _ _) F;simp only[x1h,x1j];omega
def EgP(f:Pr)(e:Eg):Prop:=e.G.C=f.name/\e.to.C=f.name/\e.G.slot.length<=8/\e.to.slot.length<=8/\(e.kind=1\/e.kind=2)
def Rp(m:QA p=true)(k j:Nat):((((prG p k).B.map Param.name)[j]?).getD []).length<=8:=by
 cases o:((prG p k).B.map Param.name)[j]?with
 |none=>exact x1l _
 | some n=>
   show n.length<=8;have h:=x1o o;unfold prG at h;cases l:p.A[k]?with
   |none=>rw[l]at h;cases h
   | some g=>
     rw[l]at h;exact JN (MM m (x1o l) (x3p _ h))
def q6o(l:QA p=true)(h:Str)(place:Int){name:Str}(j:name.length<=8):(gvP p h place name).C=h/\(gvP p h place name).slot.length<=8:=by
 unfold gvP;split
 .exact ⟨rfl,j⟩
 .split
  .unfold gvS;split
   .exact ⟨rfl,x1l _⟩
   split
   .exact ⟨rfl,(by decide:retS.length<=8)⟩
   split
   .exact ⟨rfl,Rp l _ _⟩
   .exact ⟨rfl,j⟩
  .exact ⟨rfl,x1l _⟩
def q7d(n:QA p=true)(m:Str)(I:Nat->List Str)(place:Int){name:Str}(l:name.length<=8):∀v∈tkP p m I place name,v.C=m/\v.slot.length<=8:=by
 intro v h;unfold tkP at h;split at h
 .rw [x1n.1 h];exact⟨rfl,l⟩
 .split at h
  .unfold tkS at h;split at h
   .rw [x1n.1 h];exact⟨rfl,x1l _⟩
   rcases x1s.1 h with h|h
   .obtain ⟨j,_,h⟩:=x2p.1 h;unfold LF at h;split at h
    .rw [x1n.1 h];exact⟨rfl,Rp n _ _⟩
    .cases h
   .split at h
    .rw [x1n.1 h];exact⟨rfl,l⟩
    .cases h
  .cases h
def Lw(l:QA p=true)(t:p.A[i]?=some f){D:List (Int×Int)}{F:List Fl}(q:∀s∈F,s.var.length<=8):∀e∈Vq p i f (bI p) (bO p) D F,EgP f e:=by
 intro e h;unfold Vq at h;rcases x1s.1 h with h|h
 .rcases x1s.1 h with h|h
  .obtain ⟨d,_,rfl⟩:=x1r.1 h;unfold ctE;refine⟨?_,rfl,?_,x1l _,.inl rfl⟩
   .show (ite _ _ _:Vx).C=_;split<;>rfl
   .show (ite _ _ _:Vx).slot.length<=_;split<;>exact x1l _
  .obtain ⟨v,m,h⟩:=x2p.1 h;have m:v∈UE p i f (bI p) (bO p):=(x4y _ _).mem_iff.1 m;have j:=x0w l t m;unfold vxE at h;split at h
   .rw [x1n.1 h];exact⟨rfl,j.1,x1l _,j.2.2,.inl rfl⟩
   split at h
   .rw [x1n.1 h];exact⟨rfl,j.1,x1l _,j.2.2,.inl rfl⟩
   .cases h
 .obtain ⟨s,r,h⟩:=x2p.1 h;unfold flE at h;obtain⟨w,u,rfl⟩:=x1r.1 h;have n:=q6o l f.name s.src (q s r);have o:=q7d l f.name (bI p) s.dst (q s r) w u;exact⟨n.1,o.1,n.2,o.2,.inr rfl⟩
theorem EgP.ok(j:QA p=true)(l:p.A[i]?=some f)(h:EgP f e):Ii e:=by
 have:=q6y j l;exact⟨MN ⟨by rw[h.1];exact this,h.2.2.1⟩,MN ⟨by rw[h.2.1];exact this,h.2.2.2.1⟩⟩
def I0(v:Fit p)(m:QA p=true)(r:p.A[i]?=some f)(es:List Eg){place:Int}(h:place=0\/∃it∈itsOf p i f,place=it.s.id)(name:Str):
  aH 75 [.ptr 1000 0,.j place,.p (.str name)] (eHp (.agg (QY p).cells) i f es) (.p (.agg (gvP p f.name place name).cells)) (eHp (.agg (QY p).cells) i f es):=by
 rcases h with rfl|⟨it,q,rfl⟩
 .exact Bc (.agg (QY p).cells) i f es name
 .obtain ⟨k,t,w,l⟩:=B7 m r q;have e:gvP p f.name it.s.id name=gvS p f.name it.s it.s.id name:=by
   unfold gvP S7;rw[if_neg (by omega),show(it.s.id-1).toNat=k by omega,l];rfl
  rw[e];exact M9 (QY p) p (VS m).s i f es k it l (by omega) it.s.id t name (by
   have:=X2 v (x1m.1 l).1;rw[(x1m.1 l).2]at this;have n:=Su it.s;have o:=FS it.s.args;omega) fun u=>by
    obtain⟨g,n,o,x,_⟩:=Qw m (U4 r q) u;exact⟨g,n,o,by omega⟩
def AH(y:Fit p)(l:QA p=true)(q:p.A[i]?=some f)(es:List Eg){place:Int}(h:place = -1\/∃it∈itsOf p i f,place=it.s.id)(name:Str):
  aH 76 [.ptr 1000 0,.j place,.p (.str name)] (eHp (.agg (QY p).cells) i f es) (.p (.sl (avV (tkP p f.name (bI p) place name)))) (eHp (.agg (QY p).cells) i f es):=by
 rcases h with rfl|⟨it,o,rfl⟩
 .exact Hf (.agg (QY p).cells) i f es name
 .obtain ⟨k,r,w,n⟩:=B7 l q o;have e:tkP p f.name (bI p) it.s.id name=tkS p f.name it.s it.s.id name (bI p (cIx p it.s)):=by
   unfold tkP S7;rw[if_neg (by omega),show(it.s.id-1).toNat=k by omega,n];rfl
  rw[e];by_cases m:it.s.kind=4
  .obtain ⟨g,t,u,x,_⟩:=Qw l (U4 q o) m;have v:=((F7 l).hio _ g t);exact Hd (QY p) p (VS l).s i f es k it n (by omega) it.s.id r name m (by
    have:=AW l (U4 q o) m;omega) g t u (by omega) (bI p (cIx p it.s)) v.1 (HA (KW l).2.rise _) (by omega)
  .exact Hb (QY p) p (VS l).s i f es k it n (by omega) it.s.id r name m (bI p (cIx p it.s))
def q3e:Info:={keep:=I_whole_Edges.keep,sched:=I_whole_Edges.sched,frz:=fun i=>bif beq i 11 then [[65]]else I_whole_Edges.frz i}
def Mc(hf:Fit p)(c:QA p=true)(i:Nat)(f:Pr)(B:p.A[i]?=some f)(D:List (Int×Int))(J:D.length<=1000000)(w:Way)(hW:(QY p).ways[i]?=some w)(hD:aP 72 [.ip w.cells] (.sl (avP D)))(F:List Fl)(U:F.length<=1400000)(hF:aP 74 [.ip (QY p).cells,.int .i64 i] (.sl (F.map Sf)))(K:∀s∈F,s.var.length<=8/\(s.src=0\/∃it∈itsOf p i f,s.src=it.s.id)/\(s.dst = -1\/∃it∈itsOf p i f,s.dst=it.s.id)):
  aH 43 [.p (.ip (QY p).cells),.j i] [] (.hd 1 0 (FU (Vq p i f (bI p) (bO p) D F)).length) [(1,.own 43 9 (avE (FU (Vq p i f (bI p) (bO p) D F))))]:=by
 have Z:(QY p).s.p=p:=by rw[(VS c).s];exact(QU p).1
 have gp:((QY p).s.p.A.map fun f=>AV.agg f.cells)[i]?=some (.agg f.cells):=by rw[Z,x1b,B];rfl
 have gW:((QY p).ways.map fun w=>AV.ip w.cells)[i]?=some (.ip w.cells):=by rw[x1b,hW];rfl
 have hV:=BU (QY p) p (bI p) (bO p) (F7 c) i f B (q5c c B);have hVl:=Yw c B;have hok:∀e∈Vq p i f (bI p) (bO p) D F,Ii e:=fun e he=>(Lw c B (fun s hs=>(K s hs).1) e he).ok c B;have hEl:=Dj c B J U;have hS:=Ki (Vq p i f (bI p) (bO p) D F) hok (by omega);have Y:=AD c f.name (bI p);have hvl:(avV (Y6 (UE p i f (bI p) (bO p)))).length=(UE p i f (bI p) (bO p)).length:=by unfold avV;rw[x1j,FN]
 generalize Q:Vq p i f (bI p) (bO p) D F=E at*
 unfold Vq at Q;have hVS:(Y6 (UE p i f (bI p) (bO p))).length=(UE p i f (bI p) (bO p)).length:=FN;generalize Y6 (UE p i f (bI p) (bO p))=V at*
 generalize UE p i f (bI p) (bO p)=VR at*
 refine sK q3e func43 ?_;conv=>whnf
 repeat' ((first|(refine gX ?_;intros)|refine dA ?_|refine iT gp ?_|refine iT gW ?_|refine cP hD ?_|((first|apply bD|apply bE|apply bN|apply bB)<;>intro _<;>try omega)|(refine cH rH1 1 (MT (.agg (QY p).cells) i f 1 0 []) ?_))<;>conv=>whnf)
 have hDL:(avP D).length=D.length:=by unfold avP;rw[x1j]
 refine lJ (fun x:Nat×List Eg=>⟨[(0,.p (.ip (QY p).cells)),(1,.j i),(5,.ptr 0 0),(6,.p (.ip (Vx.cells ⟨f.name,1,0,[]⟩))),(41,.p (.sl (avP D))),(42,.p (.int .i64 (avP D).length)),(43,.j x.1)],[(0,pcO (.agg (QY p).cells) i f (.p .nils) (.hd 1 0 x.2.length)),(1,.own 43 9 (avE x.2))]⟩) (fun x=>x.1<=D.length/\x.2=(D.take x.1).map (ctE f.name)/\x.2.length<=x.1) (fun x=>D.length-x.1) (0,[]) (lM [(1,.own 43 9 [])] (hH:=.cons rfl (.obj (.r (.r (.r (.r (.r (.r (.r (.r (.cons (.nil x1f) .nil)))))))))) (.new x1f .nil))) ⟨x1l _,rfl,x2q _⟩ ?_;rintro⟨j,l⟩ ⟨H,u,G⟩;simp only at H u G⊢;rcases x1a j D.length with z|z
 .have M:(avP D)[j]?=some (.agg [.int .i64 D[j].1,.int .i64 D[j].2]):=by simp[avP,z]
  have h:(D.take (j+1)).map (ctE f.name)=l++[ctE f.name D[j]]:=by rw[x1t z,x1e,<-u];rfl
  generalize D[j]=d at M h;conv=>whnf
  repeat' ((first|(refine gX ?_;intros)|refine dA ?_|refine iT M ?_|refine x3c 0 rfl (by decide) ?_|refine x3c 1 rfl (by decide) ?_|((first|apply bD|apply bE|apply bN|apply bB)<;>intro _<;>try omega)|(refine cH rH4 3 (QE (.agg (QY p).cells) i f l 2 d.1 []) ?_)|(refine cH rH4 3 (QE (.agg (QY p).cells) i f l 2 d.2 []) ?_)|(refine cH rH2 3 (KA (.agg (QY p).cells) i f l ⟨f.name,1,0,[]⟩ ⟨f.name,2,d.2,[]⟩ 1 (by omega)) ?_)|(refine cH rH2 3 (KA (.agg (QY p).cells) i f l ⟨f.name,2,d.1,[]⟩ ⟨f.name,2,d.2,[]⟩ 1 (by omega)) ?_)|refine x2j ?_ ?_)<;>conv=>whnf)
  all_goals first
   | (have e:ctE f.name d=⟨⟨f.name,1,0,[]⟩,⟨f.name,2,d.2,[]⟩,1⟩:=by unfold ctE;rw[if_pos (by first|assumption|(simp_all;done))]
      rw[e]at h;exact nX (j+1,l++[⟨⟨f.name,1,0,[]⟩,⟨f.name,2,d.2,[]⟩,1⟩]) ⟨z,h.symm,by simp;omega⟩)
   | (have e:ctE f.name d=⟨⟨f.name,2,d.1,[]⟩,⟨f.name,2,d.2,[]⟩,1⟩:=by unfold ctE;rw[if_neg (by first|assumption|(simp_all;done))]
      rw[e]at h;exact nX (j+1,l++[⟨⟨f.name,2,d.1,[]⟩,⟨f.name,2,d.2,[]⟩,1⟩]) ⟨z,h.symm,by simp;omega⟩)
 rw[x1i z]at u;have ha1:l.length<=1000000:=by rw[u,x1j];exact J
 clear G;rw[<-u]at Q;clear u;conv=>whnf
 repeat' ((first|(refine gX ?_;intros)|refine dA ?_|((first|apply bD|apply bE|apply bN|apply bB)<;>intro _<;>try omega)|(refine cH [] 2 hV ?_ (hH:=x3n))|refine LenK.mk hvl.symm ?_)<;>conv=>whnf)
 refine lI (fun x:Nat×List Eg=>⟨[(0,.p (.ip (QY p).cells)),(1,.j i),(5,.ptr 0 0),(6,.p (.ip (Vx.cells ⟨f.name,1,0,[]⟩))),(65,.p (.sl (avV V))),(66,.j VR.length),(67,.j x.1)],[(0,pcO (.agg (QY p).cells) i f (.p .nils) (.hd 1 0 x.2.length)),(1,.own 43 9 (avE x.2))]⟩) (fun x=>x.1<=V.length/\x.2=l++(V.take x.1).flatMap (vxE f.name)/\x.2.length<=l.length+x.1) (fun x=>V.length-x.1) (0,l) ⟨x1l _,by simp,x2q _⟩ ?_;rintro⟨q,o⟩ ⟨H,u,G⟩;simp only at H u G⊢;rcases x1a q V.length with a|a
 .have gv:(avV V)[q]?=some (.agg V[q].cells):=by simp[avV,a]
  have h:l++(V.take (q+1)).flatMap (vxE f.name)=o++vxE f.name V[q]:=by
   rw[x1t a,x3i,<-x2w,<-u];simp
  generalize V[q]=v at gv h;conv=>whnf
  repeat' ((first|(refine gX ?_;intros)|refine dA ?_|refine iT gv ?_|((first|apply bD|apply bE|apply bN|apply bB)<;>intro _<;>try omega)|(refine cH rH2 2 (KA (.agg (QY p).cells) i f o ⟨f.name,1,0,[]⟩ v 1 (by omega)) ?_)|(refine cH rH4 2 (QE (.agg (QY p).cells) i f o 2 v.id []) ?_)|(refine cH rH2 2 (KA (.agg (QY p).cells) i f o ⟨f.name,2,v.id,[]⟩ v 1 (by omega)) ?_))<;>conv=>whnf)
  all_goals first
   | (have e:vxE f.name v=[⟨⟨f.name,1,0,[]⟩,v,1⟩]:=by unfold vxE;rw[if_pos (by omega)]
      rw[e]at h;exact nX (q+1,o++[⟨⟨f.name,1,0,[]⟩,v,1⟩]) ⟨a,h.symm,by simp;omega⟩)
   | (have e:vxE f.name v=[⟨⟨f.name,2,v.id,[]⟩,v,1⟩]:=by unfold vxE;rw[if_neg (by omega),if_pos (by omega)]
      rw[e]at h;exact nX (q+1,o++[⟨⟨f.name,2,v.id,[]⟩,v,1⟩]) ⟨a,h.symm,by simp;omega⟩)
   | (have e:vxE f.name v=[]:=by unfold vxE;rw[if_neg (by omega),if_neg (by omega)]
      rw[e,x2i]at h;exact nX (q+1,o) ⟨a,h.symm,by simp only;omega⟩)
 rw[x1i a]at u;have ho1:o.length<=1060000:=by omega
 rw[<-u]at Q;clear H u G z;have hFm:(F.map Sf).length=F.length:=x1j _;conv=>whnf
 repeat' ((first|(refine gX ?_;intros)|refine dA ?_|refine cP hF ?_|((first|apply bD|apply bE|apply bN|apply bB)<;>intro _<;>try omega))<;>conv=>whnf)
 refine lI (fun x:Nat×List Eg=>⟨[(5,.ptr 0 0),(93,.p (.sl (F.map Sf))),(94,.p (.int .i64 (F.map Sf).length)),(95,.j x.1)],[(0,pcO (.agg (QY p).cells) i f (.p .nils) (.hd 1 0 x.2.length)),(1,.own 43 9 (avE x.2))]⟩) (fun x=>x.1<=F.length/\x.2=o++(F.take x.1).flatMap (flE p f.name (bI p))/\x.2.length<=o.length+x.1*9) (fun x=>F.length-x.1) (0,o) ⟨x1l _,by simp,x2q _⟩ ?_;rintro⟨n,o2⟩ ⟨H,u,G⟩;simp only at H u G⊢;rcases x1a n F.length with b|b;rotate_left 1
 .rw [x1i b,Q]at u;subst u;conv=>whnf
  repeat' ((first|(refine gX ?_;intros)|refine dA ?_|((first|apply bD|apply bE|apply bN|apply bB)<;>intro _<;>try omega)|(refine cH rH6 2 hS ?_))<;>conv=>whnf)
  all_goals first
   |exact x3e _ (x2u _) ⟨rfl,rfl⟩
 have h:o++(F.take (n+1)).flatMap (flE p f.name (bI p))=o2++flE p f.name (bI p) F[n]:=by
  rw[x1t b,x3i,<-x2w,<-u];simp
 obtain⟨_,k2,k3⟩:=K F[n] (x1c b);have hG:=I0 hf c B o2 k2 F[n].var;have hT:=AH hf c B o2 k3 F[n].var;have hTl:=Y F[n].dst F[n].var;have hfl:flE p f.name (bI p) F[n]=(tkP p f.name (bI p) F[n].dst F[n].var).map fun N=>⟨gvP p f.name F[n].src F[n].var,N,2⟩:=rfl;rw[hfl]at h;generalize gvP p f.name F[n].src F[n].var=g at*
 generalize tkP p f.name (bI p) F[n].dst F[n].var=T at*
 have hTm:(avV T).length=T.length:=x1j _;conv=>whnf
 repeat' ((first|(refine gX ?_;intros)|refine dA ?_|((first|apply bD|apply bE|apply bN|apply bB)<;>intro _<;>try omega)|(refine cH rH4 2 hG ?_)|(refine cH rH4 2 hT ?_))<;>conv=>whnf)
 refine lI (fun y:Nat×List Eg=>⟨[(5,.ptr 0 0),(14,.p (.ip g.cells)),(93,.p (.sl (F.map Sf))),(94,.p (.int .i64 (F.map Sf).length)),(95,.j n),(110,.p (.sl (avV T))),(111,.p (.int .i64 (avV T).length)),(112,.j y.1)],[(0,pcO (.agg (QY p).cells) i f (.p .nils) (.hd 1 0 y.2.length)),(1,.own 43 9 (avE y.2))]⟩) (fun y=>y.1<=T.length/\y.2=o2++(T.take y.1).map (fun N=>⟨g,N,2⟩)/\y.2.length<=o2.length+y.1) (fun y=>T.length-y.1) (0,o2) ⟨x1l _,by simp,x2q _⟩ ?_;rintro⟨m,R⟩ ⟨h4,P,h6⟩;simp only at h4 P h6⊢;rcases x1a m T.length with L|L
 .have gT:(avV T)[m]?=some (.agg T[m].cells):=by simp[avV,L]
  have C:o2++(T.take (m+1)).map (fun N=>⟨g,N,2⟩)=R++[⟨g,T[m],2⟩]:=by
   rw[x1t L,x1e,<-x2w,<-P];rfl
  generalize T[m]=t at gT C;conv=>whnf
  repeat' ((first|(refine gX ?_;intros)|refine dA ?_|refine iT gT ?_|((first|apply bD|apply bE|apply bN|apply bB)<;>intro _<;>try omega)|(refine cH rH2 2 (KA (.agg (QY p).cells) i f R g t 2 (by omega)) ?_))<;>conv=>whnf)
  all_goals first
   |exact nX (m+1,R++[⟨g,t,2⟩]) ⟨L,C.symm,by simp;omega⟩
 .rw [x1i L]at P;rw[<-P]at h;conv=>whnf
  repeat' ((first|(refine gX ?_;intros)|refine dA ?_|((first|apply bD|apply bE|apply bN|apply bB)<;>intro _<;>try omega))<;>conv=>whnf)
  all_goals first
   |exact nX (n+1,R) ⟨b,h.symm,by simp only;omega⟩
def VC(p:Pg)(i:Nat)(it:Item):Bool:=decide (it.s.kind=4)&&lvB p i it.s.id
def HY(p:Pg)(i:Nat)(h:List Item):List Str:=(h.filter (VC p i)).map fun it=>it.s.C
def Zf(p:Pg)(n:Str):List Str:=HY p (Yp p n).toNat (itsOf p (Yp p n).toNat (prA p (Yp p n).toNat))
def rcL(p:Pg):Nat->Nat->List Str->List Str
 |0,_,out=>out
 | m+1,k,out=>match out[k]?with
   |some n=>rcL p m (k+1) (XI out (Zf p n))
   |none=>out
def QR(p:Pg):List Str:=UA (rcL p (p.A.length+1) 0 [mainS])
def Ux(n:QA p=true)(o:p.A[i]?=some f){s:Str}(h:s∈HY p i (itsOf p i f)):s∈QH p:=by
 obtain⟨it,l,rfl⟩:=x1r.1 h;obtain⟨m,j⟩:=x3k.1 l;unfold VC at j;rw[x2z]at j;exact(Qe (QP n).2.1 (x1o o) (MV m) (x4i j.1)).1
def CD(l:QA p=true):mainS∈QH p:=by
 obtain⟨k,f,h,_,j,_⟩:=Ih l;exact x1r.2 ⟨f,x1o h,j⟩
def Fv(u:QA p=true):aH 64 [.p (.ip (QY p).cells)] [] (.hd 0 0 (QR p).length) [(0,.own 9 1 ((QR p).map .str))]:=by
 have B:=VS u;have D:(QY p).s.p=p:=by rw[B.s];exact(QU p).1
 obtain⟨hg,hpl,Y⟩:=XK u;have hnl:(QH p).length=p.A.length:=by simp[QH]
 have M:(QR p).length=(rcL p (p.A.length+1) 0 [mainS]).length:=ZW _;refine sK Wp func64 ?_;conv=>whnf
 repeat' ((first|(refine iM fun _=>?_)|refine dA ?_|refine x2j rfl ?_|refine aD ?_|refine aR ?_|(refine iA fun _=>?_)|refine IdxK.xs (by omega) ?_|refine Gg (by omega) ?_|refine ByteK.at (by omega) ?_|refine wI ?_|refine x6a (fun x hx=>by rcases x1n.1 hx with rfl;rfl) rfl ?_|((first|apply bD|apply bE|apply bN|apply bB)<;>intro _<;>try omega))<;>conv=>whnf)
 refine lI (fun i:Nat×List Str=>⟨[(0,.p (.ip (QY p).cells)),(3,.hd 0 0 i.2.length),(4,.j i.1)],[(0,.own 9 1 (i.2.map .str))]⟩) (fun i=>i.1<=i.2.length/\i.2.Nodup/\(∀s∈i.2,s∈QH p)/\rcL p (p.A.length+1-i.1) i.1 i.2=rcL p (p.A.length+1) 0 [mainS]) (fun i=>p.A.length+1-i.1) (0,[mainS]) ⟨x1l _,by simp,by simpa using CD u,rfl⟩ ?_;rintro⟨j,out⟩ ⟨R,b,a,t⟩;simp only at R b a t⊢;have hol:=JH b a;rcases x1a j out.length with v|v
 .obtain ⟨k,P,y,E,K⟩:=DH (a _ (x1c v));have l:p.A[k]?=some p.A[k]:=x1k P;generalize hfe:p.A[k]=f at l E K;have g:aP 65 [.ip (QY p).s.cells,.str out[j]] (.int .i64 (k:Nat)):=by
   have:=ZO (QY p).s out[j];rw[D,y]at this;exact this
  have d:aP 96 [.ip (QY p).s.cells,.int .i64 k] (ZP (itsOf p k f)):=by rw[B.s];exact Gf p l (by omega)
  have J:Zf p out[j]=HY p k (itsOf p k f):=by
   unfold Zf;rw[show Yp p out[j]=(k:Nat)from y,x3z,UH l]
  have L:rcL p (p.A.length+1-j) j out=rcL p (p.A.length+1-(j+1)) (j+1) (XI out (HY p k (itsOf p k f))):=by
   rw[show p.A.length+1-j=(p.A.length+1-(j+1))+1 by omega,rcL,x1k v];simp only;rw[J]
  rw[L]at t;obtain⟨F,G,rr,H⟩:=YC (HY p k (itsOf p k f)) b a (fun s h=>Ux u l h);have Q:((QY p).ways.map fun w=>AV.ip w.cells)[k]?=some (.ip (QQ p k f).cells):=by rw[x1b,B.ways,PL P,UH l];rfl
  have hin:(itsOf p k f).length<=200:=by
   have:=BS p.A l;unfold itsOf;rw[XL];omega
  have c:∀it∈itsOf p k f,aP 110 [.ip (QQ p k f).cells,.int .i64 it.s.id] (.bool (lvB p k it.s.id)):=fun it hi=>by
   have:=GA p k f u l it.s.id (.inr (.inr (VT (QP u).1 l (MV hi))));unfold lvB;rw[UH l];exact this
  generalize itsOf p k f=its at*
  have hil:=ZT its;conv=>whnf
  repeat' ((first|(refine gX ?_;intros)|refine dA ?_|refine x3c j rfl v ?_|refine x8g j 0 (.str out[j]) (by omega) (by simp[v]) ?_|refine cP g ?_|refine cP d ?_|((first|apply bD|apply bE|apply bN|apply bB)<;>intro _<;>try omega))<;>conv=>whnf)
  refine lI (fun i:Nat×List Str=>⟨[(0,.p (.ip (QY p).cells)),(3,.hd 0 0 i.2.length),(4,.j j),(5,.j k),(29,.p (ZP its)),(30,.p (.int .i64 (its.map fun i=>AV.agg i.cells).length)),(31,.j i.1)],[(0,.own 9 1 (i.2.map .str))]⟩) (fun i=>i.1<=its.length/\i.2.length<=out.length+i.1/\XI i.2 (HY p k (its.drop i.1))=XI out (HY p k its)) (fun i=>its.length-i.1) (0,out) ⟨x1l _,by simp,rfl⟩ ?_;rintro⟨m,o⟩ ⟨T,U,n⟩;simp only at T U n⊢;rcases x1a m its.length with q|q
  .have V:=c its[m] (x1c q);have N:HY p k (its.drop m)=if VC p k its[m]=true then its[m].s.C::HY p k (its.drop (m+1))else HY p k (its.drop (m+1)):=by
    unfold HY;rw[x2l q,x6t];split<;>rfl
   have r:VC p k its[m]=(decide (its[m].s.kind=4)&&lvB p k its[m].s.id):=rfl;rw[N]at n;generalize lvB p k its[m].s.id=lv at*
   conv=>whnf
   repeat' ((first|(refine gX ?_;intros)|refine dA ?_|refine iT Q ?_|refine cP V ?_|(refine QS (QZ o (its[m]'q).s.C) (.cons (.hd rfl (by simp)) (.cons (.p (Sub.refl _)) .nil)) (by rintro _ rfl;rfl) ?_;rintro _ rfl)|refine pS ?_|((first|apply bD|apply bE|apply bN|apply bB)<;>intro _<;>try omega))<;>conv=>whnf)
   all_goals first
    | (have z:VC p k its[m]=true:=by rw[r];simp[*];done
       rw[if_pos z,XI,if_pos (by assumption)]at n;exact nX (m+1,o) ⟨by simp only;omega,by simp only;omega,n⟩)
    | (have z:VC p k its[m]=true:=by rw[r];simp[*];done
       rw[if_pos z,XI,if_neg (by simp[*];done)]at n;exact⟨(m+1,o++[its[m].s.C]),⟨by simp only;omega,by simp;omega,n⟩,by simp only;omega,Le.of_eq (by simp only[x1h,x1e];rfl)⟩)
    | (have z:VC p k its[m]=false:=by rw[r];simp[*];done
       rw[if_neg (by rw[z];decide)]at n;exact nX (m+1,o) ⟨by simp only;omega,by simp only;omega,n⟩)
  .rw [x2x q]at n;have n:o=XI out (HY p k its):=n;subst n;have hge:out.length<=(XI out (HY p k its)).length:=by rw[H];simp
   conv=>whnf
   repeat' ((first|(refine gX ?_;intros)|refine dA ?_|((first|apply bD|apply bE|apply bN|apply bB)<;>intro _<;>try omega))<;>conv=>whnf)
   exact nX (j+1,XI out (HY p k its)) ⟨by simp only;omega,F,G,t⟩
 .have hjo:j=out.length:=by omega
  have Z:rcL p (p.A.length+1-j) j out=out:=by
   rw[show p.A.length+1-j=(p.A.length-j)+1 by omega,rcL,x3m v]
  rw[Z]at t;conv=>whnf
  repeat' ((first|(refine gX ?_;intros)|refine dA ?_|((first|apply bD|apply bE|apply bN|apply bB)<;>intro _<;>try omega)|(refine cH rH1 0 (VV out (by omega)) ?_))<;>conv=>whnf)
  all_goals exact x3e _ (x2u _) ⟨by rw[M,<-t],by unfold QR;rw[<-t]⟩
def E3:KeyOK prog 27 vxV where
 check b k w:=by
  have l:prog.underlying 27=some (.struct (prog.fieldsOf 27)):=by kernel_rfl
  have j:prog.underlying 9=some .string:=by kernel_rfl
  have q:prog.underlying 3=some (.int .i64):=by kernel_rfl
  have o:prog.fieldsOf 27=(match ty27.desc with |.struct fs=>fs|_=>#[]):=by kernel_rfl
  have s:∀(x:ByteArray)(y z:Int)(u:ByteArray),(part 9 #[.string x,.int .i64 y,.int .i64 z,.string u] 0).run prog w=.ok (.string x) w:=fun _ _ _ _=>run_part_plain w (by kernel_rfl) rfl;have t:∀(x:ByteArray)(y z:Int)(u:ByteArray),(part 3 #[.string x,.int .i64 y,.int .i64 z,.string u] 1).run prog w=.ok (.int .i64 y) w:=fun _ _ _ _=>run_part_plain w (by kernel_rfl) rfl;have v:∀(x:ByteArray)(y z:Int)(u:ByteArray),(part 3 #[.string x,.int .i64 y,.int .i64 z,.string u] 2).run prog w=.ok (.int .i64 z) w:=fun _ _ _ _=>run_part_plain w (by kernel_rfl) rfl;have c:∀(x:ByteArray)(y z:Int)(u:ByteArray),(part 9 #[.string x,.int .i64 y,.int .i64 z,.string u] 3).run prog w=.ok (.string u) w:=fun _ _ _ _=>run_part_plain w (by kernel_rfl) rfl;have cs:∀x:ByteArray,(Instr.checkKey b 9999 9 (.string x)).run prog w=.ok () w:=fun x=>by
   show(Instr.checkKey b (9998+1) 9 (.string x)).run prog w=_;rw[Instr.checkKey,Sem.run_bind,run_underlying j,Result.andThen_ok];rfl
  have m:∀x:Int,(Instr.checkKey b 9999 3 (.int .i64 x)).run prog w=.ok () w:=fun x=>by
   show(Instr.checkKey b (9998+1) 3 (.int .i64 x)).run prog w=_;rw[Instr.checkKey,Sem.run_bind,run_underlying q,Result.andThen_ok];rfl
  show(Instr.checkKey b (9999+1) 27 (vxV k)).run prog w=_;unfold vxV;rw[Instr.checkKey,Sem.run_bind,run_underlying l,Result.andThen_ok,o];simp only[ty27];simp[s,t,v,c,cs,m,Sem.run_bind,Result.andThen_ok]
 find k es ks w h:=by
  have l:prog.underlying 27=some (.struct (prog.fieldsOf 27)):=by kernel_rfl
  have r:=Wo (P:=prog) (kt:=27) (kv:=vxV) (fun a b w=>F6 9998 a b w) k es ks 0 w h;unfold Instr.findKey;rw[Sem.run_bind,run_underlying l,Result.andThen_ok];cases es with
  | nil=>
    cases ks with
    |nil=>rfl
    |cons=>cases h
  | cons e es=>
    have n:Instr.findNow (.struct (prog.fieldsOf 27)) (vxV k) (e::es) 0=none:=rfl;rw[n];simpa using r
 bits k:=by
  unfold vxV;show Instr.sameBits (9999+1) _ _=true;simp[Instr.sameBits,NM]
def whO(b:List AV)(P V E S a n q:LV):Chunk:=.obj 89 [.p (.ip b),P,V,E,S,a,n,q]
def wjH(k:Nat)(b:List AV)(P V:AV)(l:List (Vx×AV))(es:List Eg):Heap:=[(1000,whO b (.p P) (.p V) (.hd k 0 es.length) (.p .nils) (.ext 1002 .map) (.p .nils) (.p .nils)),(k,.own 43 9 (avE es)),(1002,.ext (Yd vxV l))]
def Ms(m:QA p=true)(h:p.A[i]?=some f)(o:it∈itsOf p i f)(P V:AV)(l:List (Vx×AV))(es:List Eg):
  aH 118 [.ptr 1000 0,.j it.s.id] (wjH 1001 (QY p).cells P V l es) (.p (.bool (VC p i it))) (wjH 1001 (QY p).cells P V l es):=by
 have t:=VS m;have q:=(x1m.1 h).1;obtain⟨k,a,b,x⟩:=B7 m h o;have v:((QY p).s.l.map fun i=>AV.agg i.cells)[k]?=some (.agg it.cells):=by rw[t.s,x1b,x];rfl
 have u:((QY p).ways.map fun w=>AV.ip w.cells)[i]?=some (.ip (QQ p i f).cells):=by rw[x1b,t.ways,PL q,UH h];rfl
 have r:it.C=(i:Nat):=JM _ _ _ _ _ _ it o;have y:aP 110 [.ip (QQ p i f).cells,.int .i64 it.s.id] (.bool (lvB p i it.s.id)):=by
  have:=GA p i f m h it.s.id (.inr (.inr (VT (QP m).1 h (MV o))));unfold lvB;rw[UH h];exact this
 have n:VC p i it=(decide (it.s.kind=4)&&lvB p i it.s.id):=rfl;rw[n];generalize lvB p i it.s.id=lv at*
 refine sK BN func118 ?_;conv=>whnf
 repeat' ((first|(refine gX ?_;intros)|refine dA ?_|refine iT v ?_|refine IdxK.at (k:=i) r u rfl ?_|refine cP y ?_|((first|apply bD|apply bE|apply bN|apply bB)<;>intro _<;>try omega))<;>conv=>whnf)
 all_goals first
  | (have z:it.s.kind=4:=by assumption
     exact x3e _ (x2u _) ⟨by rw[x3x z,Bool.true_and],rfl⟩)
  |exact x3e _ (.p (Sub.ff (show(decide (it.s.kind=4)&&lv)=false by simp[*]))) ⟨rfl,rfl⟩
def jnK(h:Str)(v:Vx):List Eg:=if v.kind=2 then [⟨v,⟨h,1,0,[]⟩,4⟩]else if v.kind=5 then [⟨v,⟨h,3,0,v.slot⟩,5⟩]else if v.kind=6 then [⟨⟨h,4,0,v.slot⟩,v,6⟩]else []
def jnV(p:Pg)(v:Vx):List Eg:=if v.id=0 then []else match(sheetOf p).l[(v.id-1).toNat]?with
 |some it=>if VC p it.C.toNat it=true then jnK it.s.C v else []
 |none=>[]
def Sk(a:QA p=true)(P:AV)(V:List Vx)(l:List (Vx×AV))(es:List Eg)(H:∀v∈V,v.id=0\/∃(i:Nat) (f:Pr) (it:Item),p.A[i]?=some f/\it∈itsOf p i f/\v.id=it.s.id)(M:es.length+V.length<=1000000000):
  aH 67 [.ptr 1000 0] (wjH 2000 (QY p).cells P (.sl (avV V)) l es) (.p (.tup [])) (wjH 2000 (QY p).cells P (.sl (avV V)) l (es++V.flatMap (jnV p))):=by
 have K:=VS a;refine sK NG func67 ?_;have J:(avV V).length=V.length:=by unfold avV;rw[x1j]
 conv=>whnf
 repeat' ((first|(refine gX ?_;intros)|refine dA ?_|((first|apply bD|apply bE|apply bN|apply bB)<;>intro _<;>try omega))<;>conv=>whnf)
 refine lI (fun x:Nat×List Eg=>⟨[(0,.ptr 1000 0),(8,.p (.sl (avV V))),(9,.p (.int .i64 (avV V).length)),(10,.j x.1)],wjH 2000 (QY p).cells P (.sl (avV V)) l x.2⟩) (fun x=>x.1<=V.length/\x.2=es++(V.take x.1).flatMap (jnV p)/\x.2.length<=es.length+x.1) (fun x=>V.length-x.1) (0,es) ⟨x1l _,by simp,x2q _⟩ ?_;rintro⟨j,m⟩ ⟨F,u,G⟩;simp only at F u G⊢;have z:(avE m).length=m.length:=x1j _;rcases x1a j V.length with n|n;rotate_left 1
 .rw [x1i n]at u;rw[<-u];conv=>whnf
  repeat' ((first|(refine gX ?_;intros)|refine dA ?_|((first|apply bD|apply bE|apply bN|apply bB)<;>intro _<;>try omega))<;>conv=>whnf)
  exact x3e _ (x2u _) ⟨rfl,rfl⟩
 have h:es++(V.take (j+1)).flatMap (jnV p)=m++jnV p V[j]:=by
  rw[x1t n,x3i,<-x2w,<-u];simp
 have t:(avV V)[j]?=some (.agg V[j].cells):=by simp[avV,n]
 have r:=H V[j] (x1c n);generalize V[j]=v at t h r;by_cases w:v.id=0
 .have o:jnV p v=[]:=by unfold jnV;rw[if_pos w]
  rw[o,x2i]at h;conv=>whnf
  repeat' ((first|(refine gX ?_;intros)|refine dA ?_|refine iT t ?_|((first|apply bD|apply bE|apply bN|apply bB)<;>intro _<;>try omega))<;>conv=>whnf)
  all_goals first
   |contradiction
   |exact nX (j+1,m) ⟨by simp only;omega,h.symm,by simp only;omega⟩
 obtain⟨i,f,it,q,b,d⟩:=r.resolve_left w;have L:=(x1m.1 q).1;obtain⟨k,N,Q,D⟩:=B7 a q b;have E:((QY p).s.l.map fun i=>AV.agg i.cells)[k]?=some (.agg it.cells):=by rw[K.s,x1b,D];rfl
 have B:it.C=(i:Nat):=JM _ _ _ _ _ _ it b;have g:jnV p v=if VC p i it=true then jnK it.s.C v else []:=by
  unfold jnV;rw[if_neg w,show(v.id-1).toNat=k by omega,D];simp only;rw[B,x3z]
 have y:=Ms a q b P (.sl (avV V)) l m;rw[<-d]at y;rw[g]at h;generalize VC p i it=c at*
 cases c
 .rw [if_neg (by decide),x2i]at h;conv=>whnf
  repeat' ((first|(refine gX ?_;intros)|refine dA ?_|refine iT t ?_|((first|apply bD|apply bE|apply bN|apply bB)<;>intro _<;>try omega)|(refine cH [(1000,1000),(1001,2000),(1002,1002)] 3 y ?_))<;>conv=>whnf)
  all_goals first
   |contradiction
   |exact nX (j+1,m) ⟨by simp only;omega,h.symm,by simp only;omega⟩
 .rw [if_pos rfl]at h;conv=>whnf
  repeat' ((first|(refine gX ?_;intros)|refine dA ?_|refine iT t ?_|refine iT E ?_|refine pA 1 104 z.symm ?_|((first|apply bD|apply bE|apply bN|apply bB)<;>intro _<;>try omega)|(refine cH [(1000,1000),(1001,2000),(1002,1002)] 3 y ?_)|refine x2j ?_ ?_)<;>conv=>whnf)
  all_goals first
   |contradiction
   | (have o:jnK it.s.C v=[⟨v,⟨it.s.C,1,0,[]⟩,4⟩]:=by unfold jnK;rw[if_pos (by assumption)]
      rw[o]at h;exact⟨(j+1,m++[⟨v,⟨it.s.C,1,0,[]⟩,4⟩]),⟨by simp only;omega,h.symm,by simp;omega⟩,by simp only;omega,Le.of_eq (by simp only[wjH,whO,avE,x1e,x1h];rfl)⟩)
   | (have o:jnK it.s.C v=[⟨v,⟨it.s.C,3,0,v.slot⟩,5⟩]:=by unfold jnK;rw[if_neg (by omega),if_pos (by omega)]
      rw[o]at h;exact⟨(j+1,m++[⟨v,⟨it.s.C,3,0,v.slot⟩,5⟩]),⟨by simp only;omega,h.symm,by simp;omega⟩,by simp only;omega,Le.of_eq (by simp only[wjH,whO,avE,x1e,x1h];rfl)⟩)
   | (have o:jnK it.s.C v=[⟨⟨it.s.C,4,0,v.slot⟩,v,6⟩]:=by unfold jnK;rw[if_neg (by omega),if_neg (by omega),if_pos (by omega)]
      rw[o]at h;exact⟨(j+1,m++[⟨⟨it.s.C,4,0,v.slot⟩,v,6⟩]),⟨by simp only;omega,h.symm,by simp;omega⟩,by simp only;omega,Le.of_eq (by simp only[wjH,whO,avE,x1e,x1h];rfl)⟩)
   | (have o:jnK it.s.C v=[]:=by unfold jnK;rw[if_neg (by omega),if_neg (by omega),if_neg (by omega)]
      rw[o,x2i]at h;exact nX (j+1,m) ⟨by simp only;omega,h.symm,by simp only;omega⟩)
def lG(l:List (Vx×Nat)):List (Vx×AV):=l.map fun x=>(x.1,.int .i64 (x.2:Nat))
def ixN(l:List (Vx×Nat))(v:Vx):Nat:=(HJ l v).getD 0
def Nm(l:List (Vx×Nat))(v:Vx):HJ (lG l) v=(HJ l v).map fun n=>.int .i64 (n:Nat):=by
 unfold HJ lG;rw[List.find?_map];cases h:l.find? ((fun x:Vx×AV=>decide (v=x.1))∘fun x:Vx×Nat=>(x.1,AV.int .i64 (x.2:Nat)))with
 | none=>
   have:l.find? (fun x=>decide (v=x.1))=none:=h;rw[this];rfl
 | some x=>
   have:l.find? (fun x=>decide (v=x.1))=some x:=h;rw[this];rfl
theorem AA(v:Vx)(n:Nat):∀l:List (Vx×Nat),Jx (lG l) v (.int .i64 (n:Nat))=lG (Jx l v n)
 |[]=>rfl
 | x::r=>by
   show Jx ((x.1,AV.int .i64 (x.2:Nat))::lG r) v _=_;rw[Jx,Jx];split
   .rfl
   .rw [AA v n r];rfl
def RT(w:World):(zeroValue 3).run prog w=.ok (.int .i64 0) w:=by kernel_rfl
def D2{N:Nat}{s:St}{o:Oper}{K:St->Prop}{t:TypeId}{x m:Operand}(j:o.op=.lookup t x m false)(y:QG s.sl x=.ext k .map){l:List (Vx×Nat)}(q:getH s.H k=some (.ext (Yd vxV (lG l))))(v:Vx)(r:QG s.sl m=.p (.agg v.cells)){i:TyI}(w:tab.get t=some i)(n:i.desc=.map 27 3)(h:setD N s.sl o.dst (.p (.int .i64 (ixN l v:Nat))) fun sl=>K ⟨sl,s.H⟩):OpK prog N s o K:=by
 refine Wn XG j E3 y q r (fun σ u h=>Pl (a:=v) h) w n (zv:=.int .i64 0) (z:=.int .i64 0) RT (fun σ=>.int _ _) ?_;have e:(HJ (lG l) v).getD (.int .i64 0)=.int .i64 (ixN l v:Nat):=by
  rw[Nm];unfold ixN;cases HJ l v<;>rfl
 rw[x2f,e];exact h
def T4{N:Nat}{s:St}{o:Oper}{K:St->Prop}{t:TypeId}{x m:Operand}(j:o.op=.lookup t x m true)(y:QG s.sl x=.ext k .map){l:List (Vx×Nat)}(q:getH s.H k=some (.ext (Yd vxV (lG l))))(v:Vx)(r:QG s.sl m=.p (.agg v.cells)){i:TyI}(w:tab.get t=some i)(n:i.desc=.map 27 3)(h:setD N s.sl o.dst (.p (.tup [.int .i64 (ixN l v:Nat),.bool (HJ l v).isSome])) fun sl=>K ⟨sl,s.H⟩):OpK prog N s o K:=by
 refine Wn XG j E3 y q r (fun σ u h=>Pl (a:=v) h) w n (zv:=.int .i64 0) (z:=.int .i64 0) RT (fun σ=>.int _ _) ?_;have e:(HJ (lG l) v).getD (.int .i64 0)=.int .i64 (ixN l v:Nat):=by
  rw[Nm];unfold ixN;cases HJ l v<;>rfl
 rw[x2y,e,Nm,Option.isSome_map];exact h
def avA(N:List (List (Int×Int))):List (List AV):=N.map avP
def Bq(N:List (List (Int×Int)))(a:Nat)(x:Int×Int):List (List (Int×Int)):=N.set a (N.getD a []++[x])
def wlH(n:Nat)(b:List AV)(P V E:AV)(l:List (Vx×Nat))(N Q:List (List (Int×Int))):Heap:=[(1000,whO b (.p P) (.p V) (.p E) (.p .nils) (.ext 1002 .map) (.hd 2001 0 n) (.hd 2002 0 n)),(1002,.ext (Yd vxV (lG l))),(2001,.ext (.mat 183 185 2 (avA N) [])),(2002,.ext (.mat 183 185 2 (avA Q) []))]
def layR_len{N:List (List (Int×Int))}{a:Nat}{x:Int×Int}:(Bq N a x).length=N.length:=by unfold Bq;simp
def q3o:Info:={keep:=I_whole_Whole_lay.keep,sched:=fun i=>bif beq i 1 then(.cons 0 false (.cons 1 false (.cons 2 false (.cons 4 false (.cons 5 false (.cons 7 false (.cons 8 false (.cons 9 false (.cons 11 false (.cons 12 false (.fork 3 (.fork 6 (.cons 14 false (.cons 10 true (.cons 13 true (.cons 15 true .nil)))) 10 (.fork 6 (.cons 14 false (.cons 13 true (.cons 15 true .nil))) 13 (.cons 6 true (.cons 14 true (.cons 15 true .nil))))) 10 (.fork 3 (.fork 6 (.cons 14 false (.cons 13 true (.cons 15 true .nil))) 13 (.cons 6 true (.cons 14 true (.cons 15 true .nil)))) 13 (.cons 3 true (.cons 6 true (.cons 14 true (.cons 15 true .nil))))))))))))))))else bif beq i 2 then(.cons 12 false (.cons 13 false (.cons 14 false (.cons 15 false (.cons 0 false (.cons 1 false (.cons 2 false (.cons 4 false (.cons 5 false (.cons 6 false (.cons 7 false (.cons 9 false (.alo 8 (.cons 10 false (.alo 11 (.fork 3 (.cons 16 true (.cons 17 true (.cons 18 true (.cons 19 true .nil)))) 16 (.fork 3 (.cons 17 true (.cons 18 true (.cons 19 true .nil))) 17 (.cons 3 true (.cons 18 true (.cons 19 true .nil))))))))))))))))))))else bif beq i 3 then(.cons 12 false (.cons 13 false (.cons 14 false (.cons 15 false (.cons 0 false (.cons 1 false (.cons 2 false (.cons 4 false (.cons 5 false (.cons 6 false (.cons 7 false (.cons 9 false (.alo 8 (.cons 10 false (.alo 11 (.fork 3 (.cons 16 true (.cons 17 true (.cons 18 true (.cons 19 true .nil)))) 16 (.fork 3 (.cons 17 true (.cons 18 true (.cons 19 true .nil))) 17 (.cons 3 true (.cons 18 true (.cons 19 true .nil))))))))))))))))))))else I_whole_Whole_lay.sched i,frz:=I_whole_Whole_lay.frz}
def Ev(n:Nat)(b:List AV)(P V E:AV)(l:List (Vx×Nat))(N Q:List (List (Int×Int)))(e:Eg)(d:N.length=n)(g:Q.length=n)(ha:ixN l e.G<n)(A:ixN l e.to<n)(B:n<=1000000000)(u:∀r∈N,r.length<=1000000000)(v:∀r∈Q,r.length<=1000000000):
  aH 69 [.ptr 1000 0,.p (.agg e.cells)] (wlH n b P V E l N Q) (.p (.tup [])) (wlH n b P V E l (Bq N (ixN l e.G) (ixN l e.to,e.kind)) (Bq Q (ixN l e.to) (ixN l e.G,e.kind))):=by
 refine sK q3o func69 ?_;have q:ixN l e.G<N.length:=by omega
 have s:ixN l e.to<Q.length:=by omega
 have m:(avA N)[ixN l e.G]?=some (avP N[ixN l e.G]):=by unfold avA;rw[x1b,x1k q];rfl
 have h:(avA Q)[ixN l e.to]?=some (avP Q[ixN l e.to]):=by unfold avA;rw[x1b,x1k s];rfl
 have t:avA (Bq N (ixN l e.G) (ixN l e.to,e.kind))=(avA N).set (ixN l e.G) (avP N[ixN l e.G]++[.agg [.int .i64 (ixN l e.to:Nat),.int .i64 e.kind]]):=by
  unfold Bq avA;rw[x2s,x1g,x1k q,x2c];simp[avP]
 have o:avA (Bq Q (ixN l e.to) (ixN l e.G,e.kind))=(avA Q).set (ixN l e.to) (avP Q[ixN l e.to]++[.agg [.int .i64 (ixN l e.G:Nat),.int .i64 e.kind]]):=by
  unfold Bq avA;rw[x2s,x1g,x1k s,x2c];simp[avP]
 have a:(avA N).length=N.length:=x1j _;have y:(avA Q).length=Q.length:=x1j _;have c:(avP N[ixN l e.G]).length<=1000000000:=by unfold avP;rw[x1j];exact u _ (x1c _)
 have z:(avP Q[ixN l e.to]).length<=1000000000:=by unfold avP;rw[x1j];exact v _ (x1c _)
 conv=>whnf
 repeat' ((first|(refine gX ?_;intros)|((first|apply bD|apply bE|apply bN|apply bB)<;>intro _<;>try omega))<;>conv=>whnf)
 refine ZJ ⟨[(0,.ptr 1000 0),(3,.p (.ip e.cells)),(4,.j (ixN l e.G:Nat)),(5,.j (ixN l e.to:Nat))],wlH n b P V E l N Q⟩ ?_ ?_
 .skip
  repeat' ((first|(refine gX ?_;intros)|refine dA ?_|((first|apply bD|apply bE|apply bN|apply bB)<;>intro _<;>try omega)|refine D2 rfl rfl rfl e.G rfl rfl rfl ?_|refine D2 rfl rfl rfl e.to rfl rfl rfl ?_|refine x2j ?_ ?_)<;>conv=>whnf)
  all_goals first
   |exact Le.of_eq rfl
 conv=>whnf
 repeat' ((first|(refine gX ?_;intros)|((first|apply bD|apply bE|apply bN|apply bB)<;>intro _<;>try omega))<;>conv=>whnf)
 refine ZJ ⟨[(0,.ptr 1000 0),(3,.p (.ip e.cells)),(4,.j (ixN l e.G:Nat)),(5,.j (ixN l e.to:Nat))],wlH n b P V E l (Bq N (ixN l e.G) (ixN l e.to,e.kind)) Q⟩ ?_ ?_
 .skip
  repeat' ((first|(refine iM fun _=>?_)|refine dA ?_|refine x2j rfl ?_|refine aD ?_|refine aR ?_|(refine iA fun _=>?_)|refine IdxK.xs (by omega) ?_|refine Gg (by omega) ?_|refine ByteK.at (by omega) ?_|refine wI ?_|refine iO (ixN l e.G) ?_|refine x6w (ixN l e.G) _ (by omega) m (by simp) ?_|refine x6a (fun x w=>by rcases x1n.1 w with rfl;rfl) rfl ?_|refine OpK.focus XG 31 2001 (ixN l e.G) 2 rfl rfl m (by simp) rfl rfl ?_|refine pA 1 16 rfl ?_|refine ZB XG rfl rfl rfl rfl rfl rfl rfl rfl rfl (by decide) (ixN l e.G) [] (by omega) (by omega) (by simp) ⟨by simp,by simp,by simp⟩ ?_|((first|apply bD|apply bE|apply bN|apply bB)<;>intro _<;>try omega)|refine x2j ?_ ?_)<;>conv=>whnf)
  all_goals first
   |exact Le.of_eq (by unfold wlH;rw[t];rfl)
 conv=>whnf
 repeat' ((first|(refine gX ?_;intros)|((first|apply bD|apply bE|apply bN|apply bB)<;>intro _<;>try omega))<;>conv=>whnf)
 refine ZJ ⟨[],wlH n b P V E l (Bq N (ixN l e.G) (ixN l e.to,e.kind)) (Bq Q (ixN l e.to) (ixN l e.G,e.kind))⟩ ?_ ?_
 .skip
  repeat' ((first|(refine iM fun _=>?_)|refine dA ?_|refine x2j rfl ?_|refine aD ?_|refine aR ?_|(refine iA fun _=>?_)|refine IdxK.xs (by omega) ?_|refine Gg (by omega) ?_|refine ByteK.at (by omega) ?_|refine wI ?_|refine iO (ixN l e.to) ?_|refine x6w (ixN l e.to) _ (by omega) h (by simp) ?_|refine x6a (fun x w=>by rcases x1n.1 w with rfl;rfl) rfl ?_|refine OpK.focus XG 50 2002 (ixN l e.to) 2 rfl rfl h (by simp) rfl rfl ?_|refine pA 1 16 rfl ?_|refine ZB XG rfl rfl rfl rfl rfl rfl rfl rfl rfl (by decide) (ixN l e.to) [] (by omega) (by omega) (by simp) ⟨by simp,by simp,by simp⟩ ?_|((first|apply bD|apply bE|apply bN|apply bB)<;>intro _<;>try omega)|refine x2j ?_ ?_)<;>conv=>whnf)
  all_goals first
   |exact Le.of_eq (by unfold wlH;rw[o];rfl)
 conv=>whnf
 repeat' ((first|(refine gX ?_;intros)|refine dA ?_|((first|apply bD|apply bE|apply bN|apply bB)<;>intro _<;>try omega))<;>conv=>whnf)
 all_goals first
  |exact x3e _ (x2u _) ⟨rfl,rfl⟩
def Nj{P:Program}{f:FuncId}{args:List LV}{H:Heap}{R R':LV->Heap->Prop}(h:SpecH P f args H R)(c:∀l H',R l H'->∃s j,R' s j/\Le 1 ⟨[(0,l)],H'⟩ ⟨[(0,s)],j⟩):SpecH P f args H R':=by
 refine⟨h.go,fun σ β w r z a b=>(h.ok σ β w r z a b).mono fun A w' g=>?_⟩;obtain⟨l,u,σ',β',H',d,t,q,o,m⟩:=g;obtain⟨s,j,v,y⟩:=c l H' t;obtain⟨σ2,β2,n,x⟩:=y σ' β' {tmps:=#[u],defers:=[]} w' ⟨rfl,rfl,fun i=>by
  match i with
  |0=>simpa[getS]using q
  |i+1=>exact .p (by simpa[getS]using Rep.any _),o⟩
 exact⟨s,u,σ2,β2,j,d,v,by simpa[getS]using n.E 0,n.heap,m.trans x⟩
def Qq{P:Program}{f:FuncId}{args:List LV}{H:Heap}{n:Nat}{e:TypeId}{sz:Nat}{es:List AV}(j:n=es.length)(h:SpecH P f args H (fun r H'=>r=.hd k 0 n/\H'=[(k,.own e sz es)])):SpecH P f args H (fun r H'=>r=.p (.sl es)/\H'=[]):=
 Nj h fun l H' h=>⟨_,_,⟨rfl,rfl⟩,by
  obtain⟨rfl,rfl⟩:=h;exact Gh (k:=k) (e:=e) (sz:=sz) (es:=es) (by simp[getH]) (.cons (.row j) .nil) (.drop .nil)⟩
noncomputable def E7(p:Pg)(k:Nat):List Vx:=Y6 (UE p k (prA p k) (bI p) (bO p))
noncomputable def q1w(p:Pg)(k:Nat):List Eg:=FU (Vq p k (prA p k) (bI p) (bO p) (q4j (QQ p k (prA p k)) (prA p k) (QJ (prA p k).body+2)) (Xt p k (prA p k)))
def Me(h:QA p=true)(l:k<p.A.length):aH 66 [.p (.ip (QY p).cells),.j k] [] (.p (.sl (avV (E7 p k)))) []:=
 Qq (by unfold avV E7;rw[x1j,FN]) (BU (QY p) p (bI p) (bO p) (F7 h) k _ (UW l) (q5c h (UW l)))
def Sj(o:Fit p)(h:QA p=true)(q:k<p.A.length):aH 43 [.p (.ip (QY p).cells),.j k] [] (.p (.sl (avE (q1w p k)))) []:=by
 have l:=UW q;have m:QJ (prA p k).body+2<=202:=by
  have:=BS p.A l;have:=(XK h).2.2;omega
 refine Qq (by unfold avE q1w;rw[x1j]) (Mc o h k _ l _ ?_ (QQ p k (prA p k)) ?_ ((Yy (QQ p k (prA p k)) (prA p k) (QJ (prA p k).body+2) (q0y h l) (q2h h l) (x2m (q0s h l) (by decide))).mono fun r v=>?_) _ (Vg h l) (Tj o h l) fun s w=>Db h l w)
 .have n:=Lz (f:=prA p k) (QQ p k (prA p k)) (QJ (prA p k).body+2);have t:(QJ (prA p k).body+2)*(QJ (prA p k).body+2)<=202*202:=x7i m m;omega
 .rw [(VS h).ways,PL q]
 .obtain ⟨fm,M,n,t,u,rfl⟩:=v;rw[<-q1q n u]
def JS(t:QA p=true):(QR p).Nodup/\∀n∈QR p,n∈QH p:=by
 have key:∀(m k:Nat)(out:List Str),out.Nodup->(∀s∈out,s∈QH p)->(rcL p m k out).Nodup/\∀s∈rcL p m k out,s∈QH p:=fun m=>by
  induction m with
  |zero=>intro k out j h;exact⟨j,h⟩
  | succ m y=>
    intro k out j h;rw[rcL];split
    .rename_i n q;obtain⟨i,w,o,_,_⟩:=DH (h n (x1o q));have l:=UW w;have x:∀s∈Zf p n,s∈QH p:=fun s r=>by
      unfold Zf at r;rw[show Yp p n=(i:Nat)from o,x3z]at r;exact Ux t l r
     obtain⟨u,v,_⟩:=YC (Zf p n) j h x;exact y _ _ u v
    .exact ⟨j,h⟩
 obtain⟨j,h⟩:=key (p.A.length+1) 0 [mainS] (by simp) (by simpa using CD t);unfold QR;exact⟨(x4y _ _).nodup_iff.2 j,fun n q=>h n (YJ.1 q)⟩
def Us(h:QA p=true):(QR p).length<=16:=by
 obtain⟨j,l⟩:=JS h;have:=JH j l;have m:(QH p).length=p.A.length:=by simp[QH]
 have:=(XK h).2.1;omega
def Ma(h:QA p=true):aH 64 [.p (.ip (QY p).cells)] [] (.p (eStrs (QR p))) []:=Qq (x1j _).symm (Fv h)
noncomputable def LN(p:Pg)(l:List Str):List Vx:=l.flatMap fun n=>E7 p (Yp p n).toNat
noncomputable def OU(p:Pg)(l:List Str):List Eg:=l.flatMap fun n=>q1w p (Yp p n).toNat
noncomputable def Dk(p:Pg):List Eg:=FU (OU p (QR p)++(LN p (QR p)).flatMap (jnV p))
def atV(V:List Vx):List (Vx×Nat):=V.zipIdx.foldl (fun l x=>Jx l x.1 x.2) []
def Uh(n:Nat)(at_:List (Vx×Nat))(E:List Eg):List (List (Int×Int)):=E.foldl (fun N e=>Bq N (ixN at_ e.G) (ixN at_ e.to,e.kind)) (List.replicate n [])
def Ul(n:Nat)(at_:List (Vx×Nat))(E:List Eg):List (List (Int×Int)):=E.foldl (fun N e=>Bq N (ixN at_ e.to) (ixN at_ e.G,e.kind)) (List.replicate n [])
theorem V6:∀(l:List Eg)(a:Eg),(HU a l).length<=l.length
 |[],_=>x2q _
 | b::r,a=>by
   rw[HU];cases decide (b=a)with
   |true=>exact x2m (V6 r b) (Nat.le_succ _)
   |false=>exact Nat.succ_le_succ (V6 r b)
def Ud(l:List Eg):(FU l).length<=l.length:=by
 have h:(EV (LK l)).length<=(LK l).length:=by
  cases j:LK l with
  |nil=>exact x2q _
  |cons a r=>exact Nat.succ_le_succ (V6 r a)
 rw[Y4]at h;exact h
theorem V7:∀(l:List Eg)(a:Eg),∀e∈HU a l,e∈l
 |[],_,_,h=>h
 | b::r,a,e,h=>by
   rw[HU]at h;cases j:decide (b=a)with
   |true=>rw[j,x2y]at h;exact x1d _ (V7 r b e h)
   | false=>
     rw[j,x2f]at h;rcases x1p.1 h with rfl|h
     .exact x1f
     .exact x1d _ (V7 r b e h)
def CT{l:List Eg}(h:e∈FU l):e∈l:=by
 refine(x4y _ _).mem_iff.1 (show e∈LK l from ?_);unfold FU at h;cases j:LK l with
 |nil=>rw[j]at h;exact h
 | cons a r=>
   rw[j]at h;rcases x1p.1 h with rfl|h
   .exact x1f
   .exact x1d _ (V7 r a e h)
def Oe{v:Vx}:v∈E7 p k↔v∈UE p k (prA p k) (bI p) (bO p):=(x4y _ _).mem_iff
def Lj(j:QA p=true)(m:k<p.A.length):(q1w p k).length<=14000000:=by
 have l:=UW m;have h:QJ (prA p k).body+2<=202:=by
  have:=BS p.A l;have:=(XK j).2.2;omega
 have n:=Lz (f:=prA p k) (QQ p k (prA p k)) (QJ (prA p k).body+2);have o:(QJ (prA p k).body+2)*(QJ (prA p k).body+2)<=202*202:=x7i h h;exact x2m (Ud _) (Dj j l (by omega) (Vg j l))
def RR(h:QA p=true)(j:k<p.A.length):(E7 p k).length<=60000:=by
 unfold E7;rw[FN];exact Yw h (UW j)
def PK{n:Str}(h:n∈QH p):∃k,k<p.A.length/\Yp p n=(k:Nat)/\(prA p k).name=n:=by
 obtain⟨k,j,l,_,m⟩:=DH h;exact⟨k,j,l,by rw[UH (x1k j)];exact m⟩
theorem Vv{α:Type}{f:Str->List α}{c:Nat}:∀(l:List Str),(∀n∈l,(f n).length<=c)->(l.flatMap f).length<=l.length*c
 |[],_=>x1l _
 | n::r,h=>by
   rw[x3s,x1h,x2r,Nat.succ_mul];have m:=h n x1f;have o:=Vv r fun x j=>h x (x1d _ j);omega
def RM(m:QA p=true)(l:List Str)(h:∀n∈l,n∈QH p):(LN p l).length<=l.length*60000:=Vv l fun n q=>by
 obtain⟨k,o,j,_⟩:=PK (h n q);rw[j,x3z];exact RR m o
def Ly(m:QA p=true)(l:List Str)(h:∀n∈l,n∈QH p):(OU p l).length<=l.length*14000000:=Vv l fun n q=>by
 obtain⟨k,o,j,_⟩:=PK (h n q);rw[j,x3z];exact Lj m o
section
variable {κ α:Type}[DecidableEq κ]
def HE(x:κ×α)(r:List (κ×α))(k:κ):HJ (x::r) k=if k=x.1 then some x.2 else HJ r k:=by
 unfold HJ;rw[x7j];by_cases h:k=x.1
 .simp [h]
 .simp [h]
theorem H5(k:κ)(v:α)(m:κ):∀l:List (κ×α),HJ (Jx l k v) m=if m=k then some v else HJ l m
 | []=>by
   rw[Jx,HE]
 | x::r=>by
   rw[Jx];by_cases h:k=x.1
   .rw [if_pos h,HE,HE];by_cases j:m=k
    .rw [if_pos j,if_pos (j.trans h)]
    .rw [if_neg j,if_neg (fun n=>j (n.trans h.symm)),if_neg (fun n=>j (n.trans h.symm))]
   .rw [if_neg h,HE,HE,H5 k v m r];by_cases j:m=k
    .subst j;simp[h]
    .rw [if_neg j,if_neg j]
end
theorem SF(v:Vx):∀(L:List (Vx×Nat))(l:List (Vx×Nat)),(HJ (L.foldl (fun l x=>Jx l x.1 x.2) l) v).isSome=((HJ l v).isSome||L.any fun x=>decide (v=x.1))
 |[],l=>by simp
 | x::r,l=>by
   rw[x4d,SF v r,H5,List.any_cons];by_cases h:v=x.1
   .simp [h]
   .simp [h]
def q0t(V:List Vx)(v:Vx):(HJ (atV V) v).isSome=decide (v∈V):=by
 unfold atV;rw[SF];have h:(V.zipIdx.any fun x=>decide (v=x.1))=decide (v∈V):=by
  rw[x6d,x4f,x6x];constructor
  .rintro ⟨x,o,l⟩;rw[x4i l];obtain⟨_,q,j⟩:=List.mem_zipIdx o;rw[j];exact x1c _
  .intro n;obtain⟨i,m,rfl⟩:=x4q.1 n;exact⟨(V[i],i),x4q.2 ⟨i,by simpa using m,by simp⟩,by simp⟩
 rw[h];rfl
theorem Jh(n:Nat)(v:Vx):∀(L:List (Vx×Nat))(l:List (Vx×Nat)),(∀x∈L,x.2<n)->(∀m,HJ l v=some m->m<n)->∀m,HJ (L.foldl (fun l x=>Jx l x.1 x.2) l) v=some m->m<n
 |[],l,_,h=>h
 | x::r,l,h1,h=>by
   rw[x4d];refine Jh n v r _ (fun y o=>h1 y (x1d _ o)) fun m j=>?_;rw[H5]at j;split at j
   .cases j;exact h1 x x1f
   .exact h m j
def q6n{V:List Vx}(j:V≠[])(v:Vx):ixN (atV V) v<V.length:=by
 have l:0<V.length:=x6r.2 j;unfold ixN;cases n:HJ (atV V) v with
 |none=>exact l
 | some m=>
   exact Jh V.length v V.zipIdx [] (fun x o=>by
    obtain⟨_,q,_⟩:=List.mem_zipIdx o;omega) (fun m h=>by cases h) m n
theorem Ra{p:Pg}:∀(m k:Nat)(out:List Str)(n:Str),n∈out->n∈rcL p m k out
 |0,_,_,_,h=>h
 | m+1,k,out,n,h=>by
   rw[rcL];split
   .refine Ra m _ _ n ?_;have key:∀(l o:List Str),n∈o->n∈XI o l:=fun l=>by
     induction l with
     |nil=>intro o h;exact h
     | cons x r j=>
       intro o h;rw[XI];split
       .exact j _ h
       .exact j _ (x3p _ h)
    exact key _ _ h
   .exact h
def Ta(p:Pg):mainS∈QR p:=by
 unfold QR;rw[YJ];exact Ra _ _ _ _ x1f
def LM{l:List Str}{v:Vx}:v∈LN p l ↔ ∃n∈l,v∈UE p (Yp p n).toNat (prA p (Yp p n).toNat) (bI p) (bO p):=by
 unfold LN;rw[x2p];exact x7w fun n=>and_congr x7r Oe
def RL(p:Pg):LN p (QR p)≠[]:=by
 refine List.ne_nil_of_mem (a:=⟨(prA p (Yp p mainS).toNat).name,1,0,[]⟩) ?_;exact LM.2 ⟨mainS,Ta p,YG.2 (.inl rfl)⟩
def q3h(l:QA p=true):∀v∈LN p (QR p),v.id=0\/∃(i:Nat) (f:Pr) (it:Item),p.A[i]?=some f/\it∈itsOf p i f/\v.id=it.s.id:=by
 intro v h;obtain⟨n,q,h⟩:=LM.1 h;obtain⟨k,o,j,_⟩:=PK ((JS l).2 n q);rw[j,x3z]at h;rcases YG.1 h with rfl|⟨n,_,rfl⟩|⟨n,_,rfl⟩|⟨it,m,rfl|⟨_,⟨n,_,rfl⟩|⟨n,_,rfl⟩⟩⟩
 .exact .inl rfl
 .exact .inl rfl
 .exact .inl rfl
 all_goals exact .inr ⟨k,_,it,UW o,m,rfl⟩
def Ci(p:Pg)(v:Vx):(jnV p v).length<=1:=by
 unfold jnV;split
 .simp
 split
 .split
  .unfold jnK;split
   .simp
   split
   .simp
   split<;>simp
  .simp
 .simp
def C1{a b c:Eg}(h:egC a b<0)(j:egC b c<0):egC a c<0:=by
 rw[Th]at*
 exact lexE_k.tr _ _ _ h j
def C0(a:Eg):¬egC a a<0:=by
 rw[Th,(lexE_k.zero _ _).2 rfl];decide
def OV{a b:Eg}(h:¬egC a b<0):a=b\/egC b a<0:=by
 rw[Th]at h;rcases lexE_k.ge h with h|h
 .exact .inl (C2 h)
 .exact .inr (by rw[Th];exact h)
theorem Jp:∀(l:List Eg)(a:Eg),(∀b∈l,¬egC b a<0)->l.Pairwise (fun x y=>¬egC y x<0)->(∀b∈HU a l,egC a b<0)/\(HU a l).Pairwise (fun x y=>egC x y<0)
 |[],_,_,_=>⟨fun _ h=>(nomatch h),.nil⟩
 | b::r,a,h1,h2=>by
   obtain⟨q,s⟩:=x4h.1 h2;obtain⟨m,o⟩:=Jp r b q s;rw[HU];by_cases h:b=a
   .rw [x3x h,x2y];exact⟨h▸m,o⟩
   .rw [x3w h,x2f];have j:egC a b<0:=(OV (h1 b x1f)).resolve_left h;refine⟨fun c n=>?_,x4h.2 ⟨m,o⟩⟩;rcases x1p.1 n with rfl|n
    .exact j
    .exact C1 j (m c n)
theorem V5:∀(l:List Eg)(a e:Eg),e∈l->e=a\/e∈HU a l
 | b::r,a,e,h=>by
   rw[HU];by_cases j:b=a
   .rw [x3x j,x2y];rcases x1p.1 h with rfl|h
    .exact .inl j
    .exact j▸V5 r b e h
   .rw [x3w j,x2f];rcases x1p.1 h with rfl|h
    .exact .inr x1f
    .rcases V5 r b e h with rfl|h
     .exact .inr x1f
     .exact .inr (x1d _ h)
def S4(l:List Eg):(LK l).Pairwise (fun x y=>¬egC y x<0):=by
 have h:=x7u (le:=fun x y:Eg=> !decide (egC y x<0)) (fun a b c m j=>by
  simp only[x4e,x4n]at*
  intro h;rcases OV m with rfl|n
  .exact j h
  .exact j (C1 h n)) (fun a b=>by
  by_cases h:egC b a<0
  .have:¬egC a b<0:=fun j=>C0 _ (C1 h j);simp[this]
  .simp [h]) l
 exact h.imp fun {a b} h=>by simpa using h
def TK(l:List Eg):(FU l).Pairwise (fun x y=>egC x y<0):=by
 have h:=S4 l;unfold FU;cases q:LK l with
 |nil=>exact .nil
 | cons a r=>
   rw[q]at h;obtain⟨j,m⟩:=x4h.1 h;obtain⟨n,o⟩:=Jp r a j m;exact x4h.2 ⟨n,o⟩
def FY{l:List Eg}:e∈FU l↔e∈l:=by
 refine⟨CT,fun h=>?_⟩;have h:e∈LK l:=(x4y _ _).mem_iff.2 h;unfold FU;cases j:LK l with
 |nil=>rw[j]at h;cases h
 | cons a r=>
   rw[j]at h;rcases x1p.1 h with rfl|h
   .exact x1f
   .rcases V5 r a e h with rfl|h
    .exact x1f
    .exact x1d _ h
def Ie(l:List Eg):(FU l).Nodup:=List.Pairwise.imp (S:=fun a b=>a≠b) (fun {a b} (h:egC a b<0)=>fun(j:a=b)=>C0 b (by rw[j]at h;exact h)) (TK l)
def Bh{l L:List Eg}{q:Eg->Bool}(j:L.Nodup)(h:∀e,e∈L↔e∈l/\q e=true):((FU l).filter q).length=L.length:=by
 have m:((FU l).filter q).Perm L:=(List.perm_ext_iff_of_nodup ((Ie l).filter _) j).2 fun e=>by rw[x3k,FY,h]
 exact m.length_eq
def pqS:Str:=[112]
def RY:∀it∈itsOf someP 0 f0,lvB someP 0 it.s.id=true:=fun it h=>by
 unfold lvB;rw[show prA someP 0=f0 from rfl,q7y];exact x3d.1 (show((itsOf someP 0 f0).all fun it=>[true,true,true,true,true,true].getD (ixI someP 0 f0 it.s.id).toNat false)=true by kernel_rfl) it h
def Ov:∀it∈itsOf someP 1 f1,lvB someP 1 it.s.id=true:=fun it h=>by
 unfold lvB;rw[show prA someP 1=f1 from rfl,q7j];exact x3d.1 (show((itsOf someP 1 f1).all fun it=>[true,true,true,true,true,true].getD (ixI someP 1 f1 it.s.id).toNat false)=true by kernel_rfl) it h
def S2:Zf someP mainS=[pqS]:=by
 unfold Zf;rw[show Yp someP mainS=0 by kernel_rfl];show HY someP 0 (itsOf someP 0 f0)=_;unfold HY;rw[show(itsOf someP 0 f0).filter (VC someP 0)=(itsOf someP 0 f0).filter fun it=>decide (it.s.kind=4)from x7n fun it h=>by unfold VC;rw[RY it h,Bool.and_true]]
 kernel_rfl
def S3:Zf someP pqS=[]:=by
 unfold Zf;rw[show Yp someP pqS=1 by kernel_rfl];show HY someP 1 (itsOf someP 1 f1)=_;unfold HY;rw[show(itsOf someP 1 f1).filter (VC someP 1)=(itsOf someP 1 f1).filter fun it=>decide (it.s.kind=4)from x7n fun it h=>by unfold VC;rw[Ov it h,Bool.and_true]]
 kernel_rfl
def some_reach:(QR someP).Perm [mainS,pqS]:=by
 have h:rcL someP 3 0 [mainS]=[mainS,pqS]:=by
  show rcL someP 2 1 (XI [mainS] (Zf someP mainS))=_;rw[S2];show rcL someP 1 2 (XI [mainS,pqS] (Zf someP pqS))=_;rw[S3];rfl
 unfold QR UA;rw[show someP.A.length+1=3 from rfl,h];exact x4y _ _
def sI(j:Nat):List Str:=[[],[]].getD j []
def sOo(j:Nat):List Str:=sOx.getD j []
def Ai:bI someP=sI:=by
 funext j;unfold bI;rw[<-some_book.eq];rfl
def Ao:bO someP=sOo:=by
 funext j;unfold bO;rw[<-some_book.eq];rfl
def rawS:List Vx:=UE someP 0 f0 sI sOo++UE someP 1 f1 sI sOo
def some_V:(LN someP (QR someP)).Perm rawS:=by
 unfold LN;refine(some_reach.flatMap_right _).trans ?_;show(E7 someP (Yp someP mainS).toNat++(E7 someP (Yp someP pqS).toNat++[])).Perm _;rw[show Yp someP mainS=0 by kernel_rfl,show Yp someP pqS=1 by kernel_rfl,x2i];unfold rawS E7 Y6;rw[Ai,Ao];exact(x4y _ _).append (x4y _ _)
def I7(p:Pg)(I O:Nat->List Str)(it:Item):Nat:=1+if it.s.kind=4 then(I (cIx p it.s)).length+(prG p (cIx p it.s)).B.length+((O (cIx p it.s)).length+1)else 0
def Oa{l:Str}(h:it.s.kind=4->it.s.name≠[]):(Pn p l I O it).length=I7 p I O it:=by
 unfold Pn I7;rw[x2r];split
 .rename_i j;have e:clO it.s (O (cIx p it.s))=slO (O (cIx p it.s)):=by unfold clO;rw[if_neg (h j)]
  rw[e,x1h,x1j,x1j,X3,PF];omega
 .rfl
def Pm(h:((itsOf p i f).all fun it=>decide (it.s.kind=4->it.s.name≠[]))=true):(UE p i f I O).length=1+((I i).length+f.B.length)+((O i).length+1)+((itsOf p i f).map (I7 p I O)).sum:=by
 unfold UE Yz;rw[x1h,List.length_flatMap,show(itsOf p i f).map (fun it=>(Pn p f.name I O it).length)=(itsOf p i f).map (I7 p I O)from x8u fun it j=>Oa (x4i (x3d.1 h it j))];simp only[x1h,x1j,x2k,X3,PF]
def Ae:(LN someP (QR someP)).length=20:=by
 rw[some_V.length_eq];unfold rawS;rw[x1h,Pm (by kernel_rfl),Pm (by kernel_rfl)]
 kernel_rfl
def Ow:⟨pqS,2,7,[]⟩∈LN someP (QR someP):=by
 refine some_V.mem_iff.2 (x4m _ (YG.2 (.inr (.inr (.inr ?_)))));have h:∃it∈itsOf someP 1 f1,it.s.id=7:=by
  refine⟨(itsOf someP 1 f1)[2]'(by decide),x1c _,by rfl⟩
 obtain⟨it,j,l⟩:=h;exact⟨it,j,.inl (by rw[l];rfl)⟩
def R7(o:QA p=true)(q:p.A[i]?=some f)(j:it∈itsOf p i f)(n:Str)(k:Int)(s:Str):jnV p ⟨n,k,it.s.id,s⟩=if VC p i it=true then jnK it.s.C ⟨n,k,it.s.id,s⟩else []:=by
 obtain⟨m,t,u,r⟩:=B7 o q j;have h:it.C=(i:Nat):=JM _ _ _ _ _ _ it j;unfold jnV;rw[if_neg (by show it.s.id≠0;omega)];show(match(sheetOf p).l[(it.s.id-1).toNat]?with|some it=>_|none=>_)=_;rw[show(it.s.id-1).toNat=m by omega,r];simp only;rw[h,x3z]
def jnI(p:Pg)(h:Str)(I O:Nat->List Str)(it:Item)(e:Eg):Prop:=e=⟨⟨h,2,it.s.id,[]⟩,⟨it.s.C,1,0,[]⟩,4⟩\/(∃s∈slI (I (cIx p it.s)) (prG p (cIx p it.s)),e=⟨⟨h,5,it.s.id,s⟩,⟨it.s.C,3,0,s⟩,5⟩)\/∃s∈clO it.s (O (cIx p it.s)),e=⟨⟨it.s.C,4,0,s⟩,⟨h,6,it.s.id,s⟩,6⟩
def Co(o:QA p=true)(q:p.A[i]?=some f):(∃v∈UE p i f I O,e∈jnV p v) ↔ ∃it∈itsOf p i f,VC p i it=true/\jnI p f.name I O it e:=by
 constructor
 .rintro ⟨v,u,j⟩;rcases YG.1 u with rfl|⟨n,m,rfl⟩|⟨n,m,rfl⟩|⟨it,l,rfl|⟨r,⟨n,m,rfl⟩|⟨n,m,rfl⟩⟩⟩
  .cases j
  .cases j
  .cases j
  all_goals
   rw[R7 o q l]at j;split at j
   .rename_i h;refine⟨it,l,h,?_⟩;first
     |exact .inl (x1n.1 j)
     |exact .inr (.inl ⟨n,m,x1n.1 j⟩)
     |exact .inr (.inr ⟨n,m,x1n.1 j⟩)
   .cases j
 .rintro ⟨it,l,h,rfl|⟨s,t,rfl⟩|⟨s,t,rfl⟩⟩
  .exact ⟨⟨f.name,2,it.s.id,[]⟩,YG.2 (.inr (.inr (.inr ⟨it,l,.inl rfl⟩))),by rw[R7 o q l,if_pos h];exact x1f⟩
  all_goals
   have r:it.s.kind=4:=by
    unfold VC at h;rw[x2z]at h;exact x4i h.1
  .exact ⟨⟨f.name,5,it.s.id,s⟩,YG.2 (.inr (.inr (.inr ⟨it,l,.inr ⟨r,.inl ⟨s,t,rfl⟩⟩⟩))),by rw[R7 o q l,if_pos h];exact x1f⟩
  .exact ⟨⟨f.name,6,it.s.id,s⟩,YG.2 (.inr (.inr (.inr ⟨it,l,.inr ⟨r,.inr ⟨s,t,rfl⟩⟩⟩))),by rw[R7 o q l,if_pos h];exact x1f⟩
def Dg(j:QA p=true)(h:e∈OU p (QR p)):∃f,∃k:Nat,p.A[k]?=some f/\f.name∈QR p/\EgP f e/\e∈q1w p k:=by
 obtain⟨n,o,l⟩:=x2p.1 h;obtain⟨k,m,q,r⟩:=PK ((JS j).2 n o);rw[q,x3z]at l;exact⟨prA p k,k,UW m,by rw[r];exact o,Lw j (UW m) (fun s t=>(Db j (UW m) t).1) e (FY.1 l),l⟩
def C3(m:QA p=true)(u:3<=e.kind):e∈Dk p ↔ ∃n∈QR p,∃(k:Nat) (f:Pr),p.A[k]?=some f/\Yp p n=k/\f.name=n/\∃it∈itsOf p k f,VC p k it=true/\jnI p f.name (bI p) (bO p) it e:=by
 unfold Dk;rw[FY,x1s];constructor
 .rintro (h|h)
  .obtain ⟨f,k,_,_,h,_⟩:=Dg m h;rcases h.2.2.2.2 with h|h<;>omega
  .obtain ⟨v,j,q⟩:=x2p.1 h;obtain⟨n,o,j⟩:=LM.1 j;obtain⟨k,t,l,r⟩:=PK ((JS m).2 n o);rw[l,x3z]at j;exact⟨n,o,k,prA p k,UW t,l,r,(Co m (UW t)).1 ⟨v,j,q⟩⟩
 .rintro ⟨n,o,k,f,s,l,r,h⟩;obtain⟨v,j,q⟩:=(Co m s).2 h;refine .inr (x2p.2 ⟨v,LM.2 ⟨n,o,?_⟩,q⟩);rw[l,x3z,UH s];exact j
def DB(l:it∈itsOf someP 0 f0)(h:VC someP 0 it=true):it.s.id=2/\it.s.C=pqS/\it.s.name≠[]:=by
 unfold VC at h;rw[x2z]at h;have j:=x4i h.1;have key:((itsOf someP 0 f0).all fun it=>decide (it.s.kind=4->it.s.id=2/\it.s.C=pqS/\it.s.name≠[]))=true:=by kernel_rfl
 exact x4i (x3d.1 key it l) j
def Md(l:it∈itsOf someP 1 f1)(h:VC someP 1 it=true):False:=by
 unfold VC at h;rw[x2z]at h;have j:=x4i h.1;have key:((itsOf someP 1 f1).all fun it=>decide (it.s.kind≠4))=true:=by kernel_rfl
 exact x4i (x3d.1 key it l) j
def FP(r:3<=e.kind):e∈Dk someP ↔ ∃it∈itsOf someP 0 f0,VC someP 0 it=true/\jnI someP mainS sI sOo it e:=by
 rw[C3 GS r,Ai,Ao];constructor
 .rintro ⟨n,m,k,f,q,o,s,it,l,j,h⟩;rcases x1p.1 (some_reach.mem_iff.1 m)with rfl|m
  .obtain rfl:k=0:=by rw[show Yp someP mainS=0 by kernel_rfl]at o;omega
   obtain rfl:f0=f:=x5b q;exact⟨it,l,j,h⟩
  .obtain rfl:=x1n.1 m;obtain rfl:k=1:=by rw[show Yp someP pqS=1 by kernel_rfl]at o;omega
   obtain rfl:f1=f:=x5b q;exact(Md l j).elim
 .rintro ⟨it,l,j,h⟩;exact⟨mainS,some_reach.mem_iff.2 x1f,0,f0,rfl,by kernel_rfl,rfl,it,l,j,h⟩
def AQ:∃it∈itsOf someP 0 f0,VC someP 0 it=true:=by
 have h:(itsOf someP 0 f0)[1]'(by decide)∈itsOf someP 0 f0:=x1c _;refine⟨_,h,?_⟩;unfold VC;rw[RY _ h]
 kernel_rfl
def Oz(h:it.s.C=pqS):cIx someP it.s=1:=by
 unfold cIx;rw[h]
 kernel_rfl
def TO:((Dk someP).filter fun e=>decide (e.kind=4)).length=1:=by
 unfold Dk;refine Bh (L:=[⟨⟨mainS,2,2,[]⟩,⟨pqS,1,0,[]⟩,4⟩]) (by simp) fun e=>?_;rw[x1n,<-FY,x6x];show _↔e∈Dk someP/\_;constructor
 .rintro rfl;obtain⟨it,l,j⟩:=AQ;obtain⟨m,n,_⟩:=DB l j;exact⟨(FP (by decide)).2 ⟨it,l,j,.inl (by rw[m,n])⟩,rfl⟩
 .rintro ⟨h,o⟩;obtain⟨it,l,j,h⟩:=(FP (by omega)).1 h;obtain⟨m,n,_⟩:=DB l j;rcases h with rfl|⟨s,_,rfl⟩|⟨s,_,rfl⟩
  .rw [m,n]
  .exact absurd o (by simp)
  .exact absurd o (by simp)
def AX:((Dk someP).filter fun e=>decide (e.kind=6)).length=2:=by
 unfold Dk;refine Bh (L:=[⟨⟨pqS,4,0,yS⟩,⟨mainS,6,2,yS⟩,6⟩,⟨⟨pqS,4,0,retS⟩,⟨mainS,6,2,retS⟩,6⟩]) (by decide) fun e=>?_;refine Iff.trans ?_ (and_congr (FY (e:=e)) x6x.symm);show _↔e∈Dk someP/\e.kind=6;have q:∀{it:Item},it.s.C=pqS->it.s.name≠[]->∀s,s∈clO it.s (sOo (cIx someP it.s))↔s=yS\/s=retS:=fun l m s=>by
  unfold clO slO;rw[if_neg m,YJ,Oz l];show s∈[yS,retS]↔_;simp
 constructor
 .intro r;obtain⟨it,n,j⟩:=AQ;obtain⟨o,l,m⟩:=DB n j;rcases x1p.1 r with rfl|r
  .exact ⟨(FP (by decide)).2 ⟨it,n,j,.inr (.inr ⟨yS,(q l m _).2 (.inl rfl),by rw[o,l]⟩)⟩,rfl⟩
  .obtain rfl:=x1n.1 r;exact⟨(FP (by decide)).2 ⟨it,n,j,.inr (.inr ⟨retS,(q l m _).2 (.inr rfl),by rw[o,l]⟩)⟩,rfl⟩
 .rintro ⟨h,t⟩;obtain⟨it,n,j,h⟩:=(FP (by omega)).1 h;obtain⟨o,l,m⟩:=DB n j;rcases h with rfl|⟨s,_,rfl⟩|⟨s,u,rfl⟩
  .exact absurd t (by simp)
  .exact absurd t (by simp)
  .rw [o,l];rcases(q l m s).1 u with rfl|rfl
   .exact x1f
   .exact x1d _ x1f
def q0a(h:VC p i it=true):it.s.kind=4/\lvB p i it.s.id=true:=by
 unfold VC at h;rw[x2z]at h;exact⟨x4i h.1,h.2⟩
def q1c(m:QA p=true):∀e∈(LN p (QR p)).flatMap (jnV p),Ii e:=by
 intro e w;obtain⟨v,t,w⟩:=x2p.1 w;obtain⟨n,c,t⟩:=LM.1 t;obtain⟨k,y,a,d⟩:=PK ((JS m).2 n c);rw[a,x3z]at t;obtain⟨it,b,u,h⟩:=(Co m (UW y)).1 ⟨v,t,w⟩;obtain⟨g,q,_,_,x⟩:=Qw m (U4 (UW y) b) (q0a u).1;have o:=q6y m q;rw[x]at o;have l:=q6y m (UW y);have z:prG p (cIx p it.s)=g:=by unfold prG;rw[q];rfl
 rcases h with rfl|⟨s,r,rfl⟩|⟨s,r,rfl⟩
 .exact ⟨MN ⟨l,x1l _⟩,MN ⟨o,x1l _⟩⟩
 .rw [z]at r;have j:=q2r m q r;exact⟨MN ⟨l,j⟩,MN ⟨o,j⟩⟩
 .have j:=q2t m q (ST r);exact⟨MN ⟨o,j⟩,MN ⟨l,j⟩⟩
def q1z(l:QA p=true):∀e∈OU p (QR p)++(LN p (QR p)).flatMap (jnV p),Ii e:=by
 intro e j;rcases x1s.1 j with j|j
 .obtain ⟨f,k,m,_,h,_⟩:=Dg l j;exact h.ok l m
 .exact q1c l e j
end Go.Ab
