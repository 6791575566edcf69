/- whole: a procedure's edges as they come; how many there are, what they are made of. Conditions: the program is right. -/
import Derived.Test.YtgpjfppgphaobaaGreatProJ24
set_option linter.all false
set_option maxRecDepth 100000
set_option maxHeartbeats 16000000
open Nat (beq)
namespace Go.Ab
open Go.Proofs.Tryz
open Go.Proofs
variable {I O:Nat->List Str}{e:Eg}{f:Pr}{i k:Nat}{it:Item}{p:Pg}
def Ih(h:QL p=true)(n:p.A[i]?=some f)(a:Nat):(Gt p i f a).Nodup/\(Gt p i f a).length<=34:=by
 have l:∀d∈(QJ p).Y,d.Pairwise ltT/\d.length<=34:=fun d j=>by
  rw[(UP h).Y]at j;obtain⟨it,m,rfl⟩:=x8s.1 j;have o:it.s∈UD p:=by rw[<-YG];exact z2g m
  exact⟨ZU _,x9r (YA _) (Qr h (GB h).1 o)⟩
 exact⟨YJ (Mk (fun d j=>(l d j).1) a),Sp (fun d j=>(l d j).2) ((GB h).2.len25 h i) ((WB (QG h).1).pr f (x9x n)).1 a⟩
def Jz(o:QL p=true)(q:p.A[i]?=some f):(Vg p i f).length<=1400000:=by
 have u:QY f.body+2<=202:=by
  have:=ML p.A q;have:=(XZ o).2.2;omega
 generalize v:QY f.body+2=n at*
 have h:=YF (m:=(List.range n).flatMap fun(a:Nat)=>(List.range n).flatMap fun(c:Nat)=>(Gt p i f a).map fun j=>(⟨QB p i (n:Nat) a,QB p i (n:Nat) c,j⟩:Fl)) (I8 o fun a=>(Ih o q a).1) fun s w=>by
  obtain⟨j,c,a,r,l,t,rfl,_⟩:=Fw w;rw[v]at r l⊢;exact x9m.2 ⟨a,z0t.2 l,x9m.2 ⟨c,z0t.2 r,x8s.2 ⟨j,t,rfl⟩⟩⟩
 have l:=XK (f:=fun(a:Nat)=>(List.range n).flatMap fun(c:Nat)=>(Gt p i f a).map fun j=>(⟨QB p i (n:Nat) a,QB p i (n:Nat) c,j⟩:Fl)) (c:=n*34) (fun a=>by
  refine x9r (XK (c:=34) (fun c=>?_) _) (by rw[z1w];exact x9z _);rw[x8g];exact(Ih o q a).2) (List.range n)
 rw[z1w]at l;have t:n*(n*34)<=202*(202*34):=z5u u (z0y _ u);omega
def ctE(h:Str)(d:Int×Int):Eg:=⟨if d.1=0 then⟨h,1,0,[]⟩else⟨h,2,d.1,[]⟩,⟨h,2,d.2,[]⟩,1⟩
def vxE(h:Str)(v:Vx):List Eg:=if v.kind=3\/v.kind=4 then [⟨⟨h,1,0,[]⟩,v,1⟩]else if v.kind=5\/v.kind=6 then [⟨⟨h,2,v.id,[]⟩,v,1⟩]else []
def gvP(p:Pg)(h:Str)(place:Int)(name:Str):Vx:=if place=0 then⟨h,3,0,name⟩else match AD p place with
 |some t=>gvS p h t place name
 |none=>⟨h,2,place,[]⟩
def tkP(p:Pg)(h:Str)(I:Nat->List Str)(place:Int)(name:Str):List Vx:=if place = -1 then [⟨h,4,0,name⟩]else match AD p place with
 |some t=>tkS p h t place name (I (cIx p t))
 |none=>[]
def flE(p:Pg)(h:Str)(I:Nat->List Str)(s:Fl):List Eg:=(tkP p h I s.dst s.var).map fun j=>⟨gvP p h s.src s.var,j,2⟩
def J3(p:Pg)(i:Nat)(f:Pr)(I O:Nat->List Str)(D:List (Int×Int))(F:List Fl):List Eg:=D.map (ctE f.name)++(Gq (YD p i f I O)).flatMap (vxE f.name)++F.flatMap (flE p f.name I)
def q9e(p:Pg)(l:Str)(t:S)(place:Int)(name:Str)(I:List Str):(tkS p l t place name I).length<=t.args.length+1:=by
 unfold tkS;split
 .simp
 .have h:=XK (f:=Xo p l t place name) (c:=1) (fun j=>by unfold Xo;split<;>simp) (List.range t.args.length);rw[z1w]at h;rw[x8d];have:(if comB p name=true/\inS I name=true then [(⟨l,5,place,name⟩:Vx)]else []).length<=1:=by split<;>simp
  omega
def OK(j:QL p=true){t:S}(l:t∈UD p)(h:t.kind=4):t.args.length<=8:=(DR j l h).2
def OM(n:QL p=true)(l:Str)(I:Nat->List Str)(place:Int)(name:Str):(tkP p l I place name).length<=9:=by
 unfold tkP;split
 .simp
 .cases j:AD p place with
  |none=>simp
  | some t=>
    have o:t∈UD p:=by
     unfold AD at j;rw[<-YG];obtain⟨it,m,rfl⟩:=z3m.1 j;exact z2g (x9x m)
    simp only;by_cases h:t.kind=4
    .have:=q9e p l t place name (I (cIx p t));have:=OK n o h;omega
    .unfold tkS;rw[if_pos h];simp
def x0u(h:Str)(v:Vx):(vxE h v).length<=1:=by
 unfold vxE;split
 .simp
 .split<;>simp
def M4(h:QL p=true)(l:p.A[i]?=some f){D:List (Int×Int)}(o:D.length<=1000000){F:List Fl}(q:F.length<=1400000):(J3 p i f (bI p) (bO p) D F).length<=14000000:=by
 unfold J3;have j:=XK (x0u f.name) (Gq (YD p i f (bI p) (bO p)));rw[BA]at j;have m:=Gh h l;have n:=XK (f:=flE p f.name (bI p)) (c:=9) (fun s=>by unfold flE;rw[x8g];exact OM h _ _ _ _) F;simp only[x8d,x8g];omega
def EgP(f:Pr)(e:Eg):Prop:=e.G.C=f.name/\e.to.C=f.name/\e.G.slot.length<=8/\e.to.slot.length<=8/\(e.kind=1\/e.kind=2)
def SR(m:QL p=true)(k j:Nat):((((prG p k).B.map Param.name)[j]?).getD []).length<=8:=by
 cases o:((prG p k).B.map Param.name)[j]?with
 |none=>exact x8m _
 | some n=>
   show n.length<=8;have h:=x9x o;unfold prG at h;cases l:p.A[k]?with
   |none=>rw[l]at h;cases h
   | some g=>
     rw[l]at h;exact GQ (Xu m (x9x l) (z0c _ h))
def x3s(l:QL p=true)(h:Str)(place:Int){name:Str}(j:name.length<=8):(gvP p h place name).C=h/\(gvP p h place name).slot.length<=8:=by
 unfold gvP;split
 .exact ⟨rfl,j⟩
 .split
  .unfold gvS;split
   .exact ⟨rfl,x8m _⟩
   split
   .exact ⟨rfl,(by decide:retS.length<=8)⟩
   split
   .exact ⟨rfl,SR l _ _⟩
   .exact ⟨rfl,j⟩
  .exact ⟨rfl,x8m _⟩
def x4k(n:QL p=true)(m:Str)(I:Nat->List Str)(place:Int){name:Str}(l:name.length<=8):∀v∈tkP p m I place name,v.C=m/\v.slot.length<=8:=by
 intro v h;unfold tkP at h;split at h
 .rw [x8l.1 h];exact⟨rfl,l⟩
 .split at h
  .unfold tkS at h;split at h
   .rw [x8l.1 h];exact⟨rfl,x8m _⟩
   rcases x8e.1 h with h|h
   .obtain ⟨j,_,h⟩:=x9m.1 h;unfold Xo at h;split at h
    .rw [x8l.1 h];exact⟨rfl,SR n _ _⟩
    .cases h
   .split at h
    .rw [x8l.1 h];exact⟨rfl,l⟩
    .cases h
  .cases h
def Sq(l:QL p=true)(t:p.A[i]?=some f){D:List (Int×Int)}{F:List Fl}(q:∀s∈F,s.var.length<=8):∀e∈J3 p i f (bI p) (bO p) D F,EgP f e:=by
 intro e h;unfold J3 at h;rcases x8e.1 h with h|h
 .rcases x8e.1 h with h|h
  .obtain ⟨d,_,rfl⟩:=x8s.1 h;unfold ctE;refine⟨?_,rfl,?_,x8m _,.inl rfl⟩
   .show (ite _ _ _:Vx).C=_;split<;>rfl
   .show (ite _ _ _:Vx).slot.length<=_;split<;>exact x8m _
  .obtain ⟨v,m,h⟩:=x9m.1 h;have m:v∈YD p i f (bI p) (bO p):=(z1v _ _).mem_iff.1 m;have j:=x6o l t m;unfold vxE at h;split at h
   .rw [x8l.1 h];exact⟨rfl,j.1,x8m _,j.2.2,.inl rfl⟩
   split at h
   .rw [x8l.1 h];exact⟨rfl,j.1,x8m _,j.2.2,.inl rfl⟩
   .cases h
 .obtain ⟨s,r,h⟩:=x9m.1 h;unfold flE at h;obtain⟨w,u,rfl⟩:=x8s.1 h;have n:=x3s l f.name s.src (q s r);have o:=x4k l f.name (bI p) s.dst (q s r) w u;exact⟨n.1,o.1,n.2,o.2,.inr rfl⟩
theorem EgP.ok(j:QL p=true)(l:p.A[i]?=some f)(h:EgP f e):q3l e:=by
 have:=x3x j l;exact⟨Xv ⟨by rw[h.1];exact this,h.2.2.1⟩,Xv ⟨by rw[h.2.1];exact this,h.2.2.2.1⟩⟩
def q2f(v:Fit p)(m:QL p=true)(r:p.A[i]?=some f)(es:List Eg){place:Int}(h:place=0\/∃it∈itsOf p i f,place=it.s.id)(name:Str):
  aH 75 [.ptr 1000 0,.j place,.p (.str name)] (eHp (.agg (QJ p).cells) i f es) (.p (.agg (gvP p f.name place name).cells)) (eHp (.agg (QJ p).cells) i f es):=by
 rcases h with rfl|⟨it,q,rfl⟩
 .exact Lg (.agg (QJ p).cells) i f es name
 .obtain ⟨k,t,w,l⟩:=Mt m r q;have e:gvP p f.name it.s.id name=gvS p f.name it.s it.s.id name:=by
   unfold gvP AD;rw[if_neg (by omega),show(it.s.id-1).toNat=k by omega,l];rfl
  rw[e];exact Tl (QJ p) p (UP m).s i f es k it l (by omega) it.s.id t name (by
   have:=Wg v (x8t.1 l).1;rw[(x8t.1 l).2]at this;have n:=AC it.s;have o:=PX it.s.args;omega) fun u=>by
    obtain⟨g,n,o,x,_⟩:=Zs m (Ja r q) u;exact⟨g,n,o,by omega⟩
def OP(y:Fit p)(l:QL p=true)(q:p.A[i]?=some f)(es:List Eg){place:Int}(h:place = -1\/∃it∈itsOf p i f,place=it.s.id)(name:Str):
  aH 76 [.ptr 1000 0,.j place,.p (.str name)] (eHp (.agg (QJ p).cells) i f es) (.p (.sl (avV (tkP p f.name (bI p) place name)))) (eHp (.agg (QJ p).cells) i f es):=by
 rcases h with rfl|⟨it,o,rfl⟩
 .exact P5 (.agg (QJ p).cells) i f es name
 .obtain ⟨k,r,w,n⟩:=Mt l q o;have e:tkP p f.name (bI p) it.s.id name=tkS p f.name it.s it.s.id name (bI p (cIx p it.s)):=by
   unfold tkP AD;rw[if_neg (by omega),show(it.s.id-1).toNat=k by omega,n];rfl
  rw[e];by_cases m:it.s.kind=4
  .obtain ⟨g,t,u,x,_⟩:=Zs l (Ja q o) m;have v:=((Pc l).hio _ g t);exact P6 (QJ p) p (UP l).s i f es k it n (by omega) it.s.id r name m (by
    have:=OK l (Ja q o) m;omega) g t u (by omega) (bI p (cIx p it.s)) v.1 (BX (GB l).2.rise _) (by omega)
  .exact P7 (QJ p) p (UP l).s i f es k it n (by omega) it.s.id r name m (bI p (cIx p it.s))
def x0l:Info:={keep:=I_whole_Edges.keep,sched:=I_whole_Edges.sched,frz:=fun i=>bif beq i 11 then [[65]]else I_whole_Edges.frz i}
def TB(hf:Fit p)(c:QL p=true)(i:Nat)(f:Pr)(B:p.A[i]?=some f)(D:List (Int×Int))(J:D.length<=1000000)(w:Way)(hW:(QJ p).ways[i]?=some w)(hD:aP 72 [.ip w.cells] (.sl (avP D)))(F:List Fl)(U:F.length<=1400000)(hF:aP 74 [.ip (QJ p).cells,.int .i64 i] (.sl (F.map E1)))(K:∀s∈F,s.var.length<=8/\(s.src=0\/∃it∈itsOf p i f,s.src=it.s.id)/\(s.dst = -1\/∃it∈itsOf p i f,s.dst=it.s.id)):
  aH 43 [.p (.ip (QJ p).cells),.j i] [] (.hd 1 0 (BF (J3 p i f (bI p) (bO p) D F)).length) [(1,.own 43 9 (avE (BF (J3 p i f (bI p) (bO p) D F))))]:=by
 have Z:(QJ p).s.p=p:=by rw[(UP c).s];exact(QU p).1
 have gp:((QJ p).s.p.A.map fun f=>AV.agg f.cells)[i]?=some (.agg f.cells):=by rw[Z,x8n,B];rfl
 have gW:((QJ p).ways.map fun w=>AV.ip w.cells)[i]?=some (.ip w.cells):=by rw[x8n,hW];rfl
 have hV:=NT (QJ p) p (bI p) (bO p) (Pc c) i f B (x2p c B);have hVl:=Gh c B;have hok:∀e∈J3 p i f (bI p) (bO p) D F,q3l e:=fun e he=>(Sq c B (fun s hs=>(K s hs).1) e he).ok c B;have hEl:=M4 c B J U;have hS:=Dk (J3 p i f (bI p) (bO p) D F) hok (by omega);have Y:=OM c f.name (bI p);have hvl:(avV (Gq (YD p i f (bI p) (bO p)))).length=(YD p i f (bI p) (bO p)).length:=by unfold avV;rw[x8g,BA]
 generalize Q:J3 p i f (bI p) (bO p) D F=E at*
 unfold J3 at Q;have hVS:(Gq (YD p i f (bI p) (bO p))).length=(YD p i f (bI p) (bO p)).length:=BA;generalize Gq (YD p i f (bI p) (bO p))=V at*
 generalize YD p i f (bI p) (bO p)=VR at*
 refine sK x0l func43 ?_;conv=>whnf
 repeat' ((first|(refine gX ?_;intros)|refine dA ?_|refine iT gp ?_|refine iT gW ?_|refine cP hD ?_|((first|apply bD|apply bE|apply bN|apply bB)<;>intro _<;>try omega)|(refine cH rH1 1 (Xk (.agg (QJ p).cells) i f 1 0 []) ?_))<;>conv=>whnf)
 have hDL:(avP D).length=D.length:=by unfold avP;rw[x8g]
 refine lJ (fun x:Nat×List Eg=>⟨[(0,.p (.ip (QJ p).cells)),(1,.j i),(5,.ptr 0 0),(6,.p (.ip (Vx.cells ⟨f.name,1,0,[]⟩))),(41,.p (.sl (avP D))),(42,.p (.int .i64 (avP D).length)),(43,.j x.1)],[(0,pcO (.agg (QJ p).cells) i f (.p .nils) (.hd 1 0 x.2.length)),(1,.own 43 9 (avE x.2))]⟩) (fun x=>x.1<=D.length/\x.2=(D.take x.1).map (ctE f.name)/\x.2.length<=x.1) (fun x=>D.length-x.1) (0,[]) (lM [(1,.own 43 9 [])] (hH:=.cons rfl (.obj (.r (.r (.r (.r (.r (.r (.r (.r (.cons (.nil x8p) .nil)))))))))) (.new x8p .nil))) ⟨x8m _,rfl,x9z _⟩ ?_;rintro⟨j,l⟩ ⟨H,u,G⟩;simp only at H u G⊢;rcases x8a j D.length with z|z
 .have M:(avP D)[j]?=some (.agg [.int .i64 D[j].1,.int .i64 D[j].2]):=by simp[avP,z]
  have h:(D.take (j+1)).map (ctE f.name)=l++[ctE f.name D[j]]:=by rw[x8c z,x8i,<-u];rfl
  generalize D[j]=d at M h;conv=>whnf
  repeat' ((first|(refine gX ?_;intros)|refine dA ?_|refine iT M ?_|refine z1x 0 rfl (by decide) ?_|refine z1x 1 rfl (by decide) ?_|((first|apply bD|apply bE|apply bN|apply bB)<;>intro _<;>try omega)|(refine cH rH4 3 (QI (.agg (QJ p).cells) i f l 2 d.1 []) ?_)|(refine cH rH4 3 (QI (.agg (QJ p).cells) i f l 2 d.2 []) ?_)|(refine cH rH2 3 (HD (.agg (QJ p).cells) i f l ⟨f.name,1,0,[]⟩ ⟨f.name,2,d.2,[]⟩ 1 (by omega)) ?_)|(refine cH rH2 3 (HD (.agg (QJ p).cells) i f l ⟨f.name,2,d.1,[]⟩ ⟨f.name,2,d.2,[]⟩ 1 (by omega)) ?_)|refine x9g ?_ ?_)<;>conv=>whnf)
  all_goals first
   | (have e:ctE f.name d=⟨⟨f.name,1,0,[]⟩,⟨f.name,2,d.2,[]⟩,1⟩:=by unfold ctE;rw[if_pos (by first|assumption|(simp_all;done))]
      rw[e]at h;exact nX (j+1,l++[⟨⟨f.name,1,0,[]⟩,⟨f.name,2,d.2,[]⟩,1⟩]) ⟨z,h.symm,by simp;omega⟩)
   | (have e:ctE f.name d=⟨⟨f.name,2,d.1,[]⟩,⟨f.name,2,d.2,[]⟩,1⟩:=by unfold ctE;rw[if_neg (by first|assumption|(simp_all;done))]
      rw[e]at h;exact nX (j+1,l++[⟨⟨f.name,2,d.1,[]⟩,⟨f.name,2,d.2,[]⟩,1⟩]) ⟨z,h.symm,by simp;omega⟩)
 rw[x9q z]at u;have ha1:l.length<=1000000:=by rw[u,x8g];exact J
 clear G;rw[<-u]at Q;clear u;conv=>whnf
 repeat' ((first|(refine gX ?_;intros)|refine dA ?_|((first|apply bD|apply bE|apply bN|apply bB)<;>intro _<;>try omega)|(refine cH [] 2 hV ?_ (hH:=z0r))|refine LenK.mk hvl.symm ?_)<;>conv=>whnf)
 refine lI (fun x:Nat×List Eg=>⟨[(0,.p (.ip (QJ p).cells)),(1,.j i),(5,.ptr 0 0),(6,.p (.ip (Vx.cells ⟨f.name,1,0,[]⟩))),(65,.p (.sl (avV V))),(66,.j VR.length),(67,.j x.1)],[(0,pcO (.agg (QJ p).cells) i f (.p .nils) (.hd 1 0 x.2.length)),(1,.own 43 9 (avE x.2))]⟩) (fun x=>x.1<=V.length/\x.2=l++(V.take x.1).flatMap (vxE f.name)/\x.2.length<=l.length+x.1) (fun x=>V.length-x.1) (0,l) ⟨x8m _,by simp,x9z _⟩ ?_;rintro⟨q,o⟩ ⟨H,u,G⟩;simp only at H u G⊢;rcases x8a q V.length with a|a
 .have gv:(avV V)[q]?=some (.agg V[q].cells):=by simp[avV,a]
  have h:l++(V.take (q+1)).flatMap (vxE f.name)=o++vxE f.name V[q]:=by
   rw[x8c a,z1q,<-x9u,<-u];simp
  generalize V[q]=v at gv h;conv=>whnf
  repeat' ((first|(refine gX ?_;intros)|refine dA ?_|refine iT gv ?_|((first|apply bD|apply bE|apply bN|apply bB)<;>intro _<;>try omega)|(refine cH rH2 2 (HD (.agg (QJ p).cells) i f o ⟨f.name,1,0,[]⟩ v 1 (by omega)) ?_)|(refine cH rH4 2 (QI (.agg (QJ p).cells) i f o 2 v.id []) ?_)|(refine cH rH2 2 (HD (.agg (QJ p).cells) i f o ⟨f.name,2,v.id,[]⟩ v 1 (by omega)) ?_))<;>conv=>whnf)
  all_goals first
   | (have e:vxE f.name v=[⟨⟨f.name,1,0,[]⟩,v,1⟩]:=by unfold vxE;rw[if_pos (by omega)]
      rw[e]at h;exact nX (q+1,o++[⟨⟨f.name,1,0,[]⟩,v,1⟩]) ⟨a,h.symm,by simp;omega⟩)
   | (have e:vxE f.name v=[⟨⟨f.name,2,v.id,[]⟩,v,1⟩]:=by unfold vxE;rw[if_neg (by omega),if_pos (by omega)]
      rw[e]at h;exact nX (q+1,o++[⟨⟨f.name,2,v.id,[]⟩,v,1⟩]) ⟨a,h.symm,by simp;omega⟩)
   | (have e:vxE f.name v=[]:=by unfold vxE;rw[if_neg (by omega),if_neg (by omega)]
      rw[e,x9c]at h;exact nX (q+1,o) ⟨a,h.symm,by simp only;omega⟩)
 rw[x9q a]at u;have ho1:o.length<=1060000:=by omega
 rw[<-u]at Q;clear H u G z;have hFm:(F.map E1).length=F.length:=x8g _;conv=>whnf
 repeat' ((first|(refine gX ?_;intros)|refine dA ?_|refine cP hF ?_|((first|apply bD|apply bE|apply bN|apply bB)<;>intro _<;>try omega))<;>conv=>whnf)
 refine lI (fun x:Nat×List Eg=>⟨[(5,.ptr 0 0),(93,.p (.sl (F.map E1))),(94,.p (.int .i64 (F.map E1).length)),(95,.j x.1)],[(0,pcO (.agg (QJ p).cells) i f (.p .nils) (.hd 1 0 x.2.length)),(1,.own 43 9 (avE x.2))]⟩) (fun x=>x.1<=F.length/\x.2=o++(F.take x.1).flatMap (flE p f.name (bI p))/\x.2.length<=o.length+x.1*9) (fun x=>F.length-x.1) (0,o) ⟨x8m _,by simp,x9z _⟩ ?_;rintro⟨n,o2⟩ ⟨H,u,G⟩;simp only at H u G⊢;rcases x8a n F.length with b|b;rotate_left 1
 .rw [x9q b,Q]at u;subst u;conv=>whnf
  repeat' ((first|(refine gX ?_;intros)|refine dA ?_|((first|apply bD|apply bE|apply bN|apply bB)<;>intro _<;>try omega)|(refine cH rH6 2 hS ?_))<;>conv=>whnf)
  all_goals first
   |exact z1z _ (x9j _) ⟨rfl,rfl⟩
 have h:o++(F.take (n+1)).flatMap (flE p f.name (bI p))=o2++flE p f.name (bI p) F[n]:=by
  rw[x8c b,z1q,<-x9u,<-u];simp
 obtain⟨_,k2,k3⟩:=K F[n] (x8o b);have hG:=q2f hf c B o2 k2 F[n].var;have hT:=OP hf c B o2 k3 F[n].var;have hTl:=Y F[n].dst F[n].var;have hfl:flE p f.name (bI p) F[n]=(tkP p f.name (bI p) F[n].dst F[n].var).map fun N=>⟨gvP p f.name F[n].src F[n].var,N,2⟩:=rfl;rw[hfl]at h;generalize gvP p f.name F[n].src F[n].var=g at*
 generalize tkP p f.name (bI p) F[n].dst F[n].var=T at*
 have hTm:(avV T).length=T.length:=x8g _;conv=>whnf
 repeat' ((first|(refine gX ?_;intros)|refine dA ?_|((first|apply bD|apply bE|apply bN|apply bB)<;>intro _<;>try omega)|(refine cH rH4 2 hG ?_)|(refine cH rH4 2 hT ?_))<;>conv=>whnf)
 refine lI (fun y:Nat×List Eg=>⟨[(5,.ptr 0 0),(14,.p (.ip g.cells)),(93,.p (.sl (F.map E1))),(94,.p (.int .i64 (F.map E1).length)),(95,.j n),(110,.p (.sl (avV T))),(111,.p (.int .i64 (avV T).length)),(112,.j y.1)],[(0,pcO (.agg (QJ p).cells) i f (.p .nils) (.hd 1 0 y.2.length)),(1,.own 43 9 (avE y.2))]⟩) (fun y=>y.1<=T.length/\y.2=o2++(T.take y.1).map (fun N=>⟨g,N,2⟩)/\y.2.length<=o2.length+y.1) (fun y=>T.length-y.1) (0,o2) ⟨x8m _,by simp,x9z _⟩ ?_;rintro⟨m,R⟩ ⟨h4,P,h6⟩;simp only at h4 P h6⊢;rcases x8a m T.length with L|L
 .have gT:(avV T)[m]?=some (.agg T[m].cells):=by simp[avV,L]
  have C:o2++(T.take (m+1)).map (fun N=>⟨g,N,2⟩)=R++[⟨g,T[m],2⟩]:=by
   rw[x8c L,x8i,<-x9u,<-P];rfl
  generalize T[m]=t at gT C;conv=>whnf
  repeat' ((first|(refine gX ?_;intros)|refine dA ?_|refine iT gT ?_|((first|apply bD|apply bE|apply bN|apply bB)<;>intro _<;>try omega)|(refine cH rH2 2 (HD (.agg (QJ p).cells) i f R g t 2 (by omega)) ?_))<;>conv=>whnf)
  all_goals first
   |exact nX (m+1,R++[⟨g,t,2⟩]) ⟨L,C.symm,by simp;omega⟩
 .rw [x9q L]at P;rw[<-P]at h;conv=>whnf
  repeat' ((first|(refine gX ?_;intros)|refine dA ?_|((first|apply bD|apply bE|apply bN|apply bB)<;>intro _<;>try omega))<;>conv=>whnf)
  all_goals first
   |exact nX (n+1,R) ⟨b,h.symm,by simp only;omega⟩
def ZC(p:Pg)(i:Nat)(it:Item):Bool:=decide (it.s.kind=4)&&lvB p i it.s.id
def HJ(p:Pg)(i:Nat)(h:List Item):List Str:=(h.filter (ZC p i)).map fun it=>it.s.C
def KR(p:Pg)(n:Str):List Str:=HJ p (NL p n).toNat (itsOf p (NL p n).toNat (prA p (NL p n).toNat))
def rcL(p:Pg):Nat->Nat->List Str->List Str
 |0,_,out=>out
 | m+1,k,out=>match out[k]?with
   |some n=>rcL p m (k+1) (XU out (KR p n))
   |none=>out
def QF(p:Pg):List Str:=UF (rcL p (p.A.length+1) 0 [mainS])
def K4(n:QL p=true)(o:p.A[i]?=some f){s:Str}(h:s∈HJ p i (itsOf p i f)):s∈QK p:=by
 obtain⟨it,l,rfl⟩:=x8s.1 h;obtain⟨m,j⟩:=z0v.1 l;unfold ZC at j;rw[x9w]at j;exact(Wy (QG n).2.1 (x9x o) (BU m) (z1j j.1)).1
def FK(l:QL p=true):mainS∈QK p:=by
 obtain⟨k,f,h,_,j,_⟩:=q3k l;exact x8s.2 ⟨f,x9x h,j⟩
def N2(u:QL p=true):aH 64 [.p (.ip (QJ p).cells)] [] (.hd 0 0 (QF p).length) [(0,.own 9 1 ((QF p).map .str))]:=by
 have B:=UP u;have D:(QJ p).s.p=p:=by rw[B.s];exact(QU p).1
 obtain⟨hg,hpl,Y⟩:=XZ u;have hnl:(QK p).length=p.A.length:=by simp[QK]
 have M:(QF p).length=(rcL p (p.A.length+1) 0 [mainS]).length:=ZF _;refine sK Yk func64 ?_;conv=>whnf
 repeat' ((first|(refine iM fun _=>?_)|refine dA ?_|refine x9g rfl ?_|refine aD ?_|refine aR ?_|(refine iA fun _=>?_)|refine IdxK.xs (by omega) ?_|refine Yg (by omega) ?_|refine ByteK.at (by omega) ?_|refine wI ?_|refine z4x (fun x hx=>by rcases x8l.1 hx with rfl;rfl) rfl ?_|((first|apply bD|apply bE|apply bN|apply bB)<;>intro _<;>try omega))<;>conv=>whnf)
 refine lI (fun i:Nat×List Str=>⟨[(0,.p (.ip (QJ p).cells)),(3,.hd 0 0 i.2.length),(4,.j i.1)],[(0,.own 9 1 (i.2.map .str))]⟩) (fun i=>i.1<=i.2.length/\i.2.Nodup/\(∀s∈i.2,s∈QK p)/\rcL p (p.A.length+1-i.1) i.1 i.2=rcL p (p.A.length+1) 0 [mainS]) (fun i=>p.A.length+1-i.1) (0,[mainS]) ⟨x8m _,by simp,by simpa using FK u,rfl⟩ ?_;rintro⟨j,out⟩ ⟨R,b,a,t⟩;simp only at R b a t⊢;have hol:=YF b a;rcases x8a j out.length with v|v
 .obtain ⟨k,P,y,E,K⟩:=YP (a _ (x8o v));have l:p.A[k]?=some p.A[k]:=x8h P;generalize hfe:p.A[k]=f at l E K;have g:aP 65 [.ip (QJ p).s.cells,.str out[j]] (.int .i64 (k:Nat)):=by
   have:=XI (QJ p).s out[j];rw[D,y]at this;exact this
  have d:aP 96 [.ip (QJ p).s.cells,.int .i64 k] (ZE (itsOf p k f)):=by rw[B.s];exact B3 p l (by omega)
  have J:KR p out[j]=HJ p k (itsOf p k f):=by
   unfold KR;rw[show NL p out[j]=(k:Nat)from y,z0x,VX l]
  have L:rcL p (p.A.length+1-j) j out=rcL p (p.A.length+1-(j+1)) (j+1) (XU out (HJ p k (itsOf p k f))):=by
   rw[show p.A.length+1-j=(p.A.length+1-(j+1))+1 by omega,rcL,x8h v];simp only;rw[J]
  rw[L]at t;obtain⟨F,G,rr,H⟩:=VO (HJ p k (itsOf p k f)) b a (fun s h=>K4 u l h);have Q:((QJ p).ways.map fun w=>AV.ip w.cells)[k]?=some (.ip (QQ p k f).cells):=by rw[x8n,B.ways,LS P,VX l];rfl
  have hin:(itsOf p k f).length<=200:=by
   have:=ML p.A l;unfold itsOf;rw[XO];omega
  have c:∀it∈itsOf p k f,aP 110 [.ip (QQ p k f).cells,.int .i64 it.s.id] (.bool (lvB p k it.s.id)):=fun it hi=>by
   have:=FL p k f u l it.s.id (.inr (.inr (VS (QG u).1 l (BU hi))));unfold lvB;rw[VX l];exact this
  generalize itsOf p k f=its at*
  have hil:=WY its;conv=>whnf
  repeat' ((first|(refine gX ?_;intros)|refine dA ?_|refine z1x j rfl v ?_|refine z5m j 0 (.str out[j]) (by omega) (by simp[v]) ?_|refine cP g ?_|refine cP d ?_|((first|apply bD|apply bE|apply bN|apply bB)<;>intro _<;>try omega))<;>conv=>whnf)
  refine lI (fun i:Nat×List Str=>⟨[(0,.p (.ip (QJ p).cells)),(3,.hd 0 0 i.2.length),(4,.j j),(5,.j k),(29,.p (ZE its)),(30,.p (.int .i64 (its.map fun i=>AV.agg i.cells).length)),(31,.j i.1)],[(0,.own 9 1 (i.2.map .str))]⟩) (fun i=>i.1<=its.length/\i.2.length<=out.length+i.1/\XU i.2 (HJ p k (its.drop i.1))=XU out (HJ p k its)) (fun i=>its.length-i.1) (0,out) ⟨x8m _,by simp,rfl⟩ ?_;rintro⟨m,o⟩ ⟨T,U,n⟩;simp only at T U n⊢;rcases x8a m its.length with q|q
  .have V:=c its[m] (x8o q);have N:HJ p k (its.drop m)=if ZC p k its[m]=true then its[m].s.C::HJ p k (its.drop (m+1))else HJ p k (its.drop (m+1)):=by
    unfold HJ;rw[x9t q,z2a];split<;>rfl
   have r:ZC p k its[m]=(decide (its[m].s.kind=4)&&lvB p k its[m].s.id):=rfl;rw[N]at n;generalize lvB p k its[m].s.id=lv at*
   conv=>whnf
   repeat' ((first|(refine gX ?_;intros)|refine dA ?_|refine iT Q ?_|refine cP V ?_|(refine QR (QZ o (its[m]'q).s.C) (.cons (.hd rfl (by simp)) (.cons (.p (Sub.refl _)) .nil)) (by rintro _ rfl;rfl) ?_;rintro _ rfl)|refine pS ?_|((first|apply bD|apply bE|apply bN|apply bB)<;>intro _<;>try omega))<;>conv=>whnf)
   all_goals first
    | (have z:ZC p k its[m]=true:=by rw[r];simp[*];done
       rw[if_pos z,XU,if_pos (by assumption)]at n;exact nX (m+1,o) ⟨by simp only;omega,by simp only;omega,n⟩)
    | (have z:ZC p k its[m]=true:=by rw[r];simp[*];done
       rw[if_pos z,XU,if_neg (by simp[*];done)]at n;exact⟨(m+1,o++[its[m].s.C]),⟨by simp only;omega,by simp;omega,n⟩,by simp only;omega,Le.of_eq (by simp only[x8d,x8i];rfl)⟩)
    | (have z:ZC p k its[m]=false:=by rw[r];simp[*];done
       rw[if_neg (by rw[z];decide)]at n;exact nX (m+1,o) ⟨by simp only;omega,by simp only;omega,n⟩)
  .rw [x9v q]at n;have n:o=XU out (HJ p k its):=n;subst n;have hge:out.length<=(XU out (HJ p k its)).length:=by rw[H];simp
   conv=>whnf
   repeat' ((first|(refine gX ?_;intros)|refine dA ?_|((first|apply bD|apply bE|apply bN|apply bB)<;>intro _<;>try omega))<;>conv=>whnf)
   exact nX (j+1,XU out (HJ p k its)) ⟨by simp only;omega,F,G,t⟩
 .have hjo:j=out.length:=by omega
  have Z:rcL p (p.A.length+1-j) j out=out:=by
   rw[show p.A.length+1-j=(p.A.length-j)+1 by omega,rcL,z0d v]
  rw[Z]at t;conv=>whnf
  repeat' ((first|(refine gX ?_;intros)|refine dA ?_|((first|apply bD|apply bE|apply bN|apply bB)<;>intro _<;>try omega)|(refine cH rH1 0 (VI out (by omega)) ?_))<;>conv=>whnf)
  all_goals exact z1z _ (x9j _) ⟨by rw[M,<-t],by unfold QF;rw[<-t]⟩
def q0j:KeyOK prog 27 vxV where
 check b k w:=by
  have l:prog.underlying 27=some (.struct (prog.fieldsOf 27)):=by kernel_rfl
  have j:prog.underlying 9=some .string:=by kernel_rfl
  have q:prog.underlying 3=some (.int .i64):=by kernel_rfl
  have o:prog.fieldsOf 27=(match ty27.desc with |.struct fs=>fs|_=>#[]):=by kernel_rfl
  have s:∀(x:ByteArray)(y z:Int)(u:ByteArray),(part 9 #[.string x,.int .i64 y,.int .i64 z,.string u] 0).run prog w=.ok (.string x) w:=fun _ _ _ _=>run_part_plain w (by kernel_rfl) rfl;have t:∀(x:ByteArray)(y z:Int)(u:ByteArray),(part 3 #[.string x,.int .i64 y,.int .i64 z,.string u] 1).run prog w=.ok (.int .i64 y) w:=fun _ _ _ _=>run_part_plain w (by kernel_rfl) rfl;have v:∀(x:ByteArray)(y z:Int)(u:ByteArray),(part 3 #[.string x,.int .i64 y,.int .i64 z,.string u] 2).run prog w=.ok (.int .i64 z) w:=fun _ _ _ _=>run_part_plain w (by kernel_rfl) rfl;have c:∀(x:ByteArray)(y z:Int)(u:ByteArray),(part 9 #[.string x,.int .i64 y,.int .i64 z,.string u] 3).run prog w=.ok (.string u) w:=fun _ _ _ _=>run_part_plain w (by kernel_rfl) rfl;have cs:∀x:ByteArray,(Instr.checkKey b 9999 9 (.string x)).run prog w=.ok () w:=fun x=>by
   show(Instr.checkKey b (9998+1) 9 (.string x)).run prog w=_;rw[Instr.checkKey,Sem.run_bind,run_underlying j,Result.andThen_ok];rfl
  have m:∀x:Int,(Instr.checkKey b 9999 3 (.int .i64 x)).run prog w=.ok () w:=fun x=>by
   show(Instr.checkKey b (9998+1) 3 (.int .i64 x)).run prog w=_;rw[Instr.checkKey,Sem.run_bind,run_underlying q,Result.andThen_ok];rfl
  show(Instr.checkKey b (9999+1) 27 (vxV k)).run prog w=_;unfold vxV;rw[Instr.checkKey,Sem.run_bind,run_underlying l,Result.andThen_ok,o];simp only[ty27];simp[s,t,v,c,cs,m,Sem.run_bind,Result.andThen_ok]
 find k es ks w h:=by
  have l:prog.underlying 27=some (.struct (prog.fieldsOf 27)):=by kernel_rfl
  have r:=Yr (P:=prog) (kt:=27) (kv:=vxV) (fun a b w=>Pt 9998 a b w) k es ks 0 w h;unfold Instr.findKey;rw[Sem.run_bind,run_underlying l,Result.andThen_ok];cases es with
  | nil=>
    cases ks with
    |nil=>rfl
    |cons=>cases h
  | cons e es=>
    have n:Instr.findNow (.struct (prog.fieldsOf 27)) (vxV k) (e::es) 0=none:=rfl;rw[n];simpa using r
 bits k:=by
  unfold vxV;show Instr.sameBits (9999+1) _ _=true;simp[Instr.sameBits,Qb]
def whO(b:List AV)(P V E S a n q:LV):Chunk:=.obj 89 [.p (.ip b),P,V,E,S,a,n,q]
def wjH(k:Nat)(b:List AV)(P V:AV)(l:List (Vx×AV))(es:List Eg):Heap:=[(1000,whO b (.p P) (.p V) (.hd k 0 es.length) (.p .nils) (.ext 1002 .map) (.p .nils) (.p .nils)),(k,.own 43 9 (avE es)),(1002,.ext (Gs vxV l))]
def TD(m:QL p=true)(h:p.A[i]?=some f)(o:it∈itsOf p i f)(P V:AV)(l:List (Vx×AV))(es:List Eg):
  aH 118 [.ptr 1000 0,.j it.s.id] (wjH 1001 (QJ p).cells P V l es) (.p (.bool (ZC p i it))) (wjH 1001 (QJ p).cells P V l es):=by
 have t:=UP m;have q:=(x8t.1 h).1;obtain⟨k,a,b,x⟩:=Mt m h o;have v:((QJ p).s.l.map fun i=>AV.agg i.cells)[k]?=some (.agg it.cells):=by rw[t.s,x8n,x];rfl
 have u:((QJ p).ways.map fun w=>AV.ip w.cells)[i]?=some (.ip (QQ p i f).cells):=by rw[x8n,t.ways,LS q,VX h];rfl
 have r:it.C=(i:Nat):=GX _ _ _ _ _ _ it o;have y:aP 110 [.ip (QQ p i f).cells,.int .i64 it.s.id] (.bool (lvB p i it.s.id)):=by
  have:=FL p i f m h it.s.id (.inr (.inr (VS (QG m).1 h (BU o))));unfold lvB;rw[VX h];exact this
 have n:ZC p i it=(decide (it.s.kind=4)&&lvB p i it.s.id):=rfl;rw[n];generalize lvB p i it.s.id=lv at*
 refine sK MD func118 ?_;conv=>whnf
 repeat' ((first|(refine gX ?_;intros)|refine dA ?_|refine iT v ?_|refine IdxK.at (k:=i) r u rfl ?_|refine cP y ?_|((first|apply bD|apply bE|apply bN|apply bB)<;>intro _<;>try omega))<;>conv=>whnf)
 all_goals first
  | (have z:it.s.kind=4:=by assumption
     exact z1z _ (x9j _) ⟨by rw[x9e z,z5h],rfl⟩)
  |exact z1z _ (.p (Sub.ff (show(decide (it.s.kind=4)&&lv)=false by simp[*]))) ⟨rfl,rfl⟩
def jnK(h:Str)(v:Vx):List Eg:=if v.kind=2 then [⟨v,⟨h,1,0,[]⟩,4⟩]else if v.kind=5 then [⟨v,⟨h,3,0,v.slot⟩,5⟩]else if v.kind=6 then [⟨⟨h,4,0,v.slot⟩,v,6⟩]else []
def jnV(p:Pg)(v:Vx):List Eg:=if v.id=0 then []else match(sheetOf p).l[(v.id-1).toNat]?with
 |some it=>if ZC p it.C.toNat it=true then jnK it.s.C v else []
 |none=>[]
def AI(a:QL p=true)(P:AV)(V:List Vx)(l:List (Vx×AV))(es:List Eg)(H:∀v∈V,v.id=0\/∃(i:Nat) (f:Pr) (it:Item),p.A[i]?=some f/\it∈itsOf p i f/\v.id=it.s.id)(M:es.length+V.length<=1000000000):
  aH 67 [.ptr 1000 0] (wjH 2000 (QJ p).cells P (.sl (avV V)) l es) (.p (.tup [])) (wjH 2000 (QJ p).cells P (.sl (avV V)) l (es++V.flatMap (jnV p))):=by
 have K:=UP a;refine sK Qu func67 ?_;have J:(avV V).length=V.length:=by unfold avV;rw[x8g]
 conv=>whnf
 repeat' ((first|(refine gX ?_;intros)|refine dA ?_|((first|apply bD|apply bE|apply bN|apply bB)<;>intro _<;>try omega))<;>conv=>whnf)
 refine lI (fun x:Nat×List Eg=>⟨[(0,.ptr 1000 0),(8,.p (.sl (avV V))),(9,.p (.int .i64 (avV V).length)),(10,.j x.1)],wjH 2000 (QJ p).cells P (.sl (avV V)) l x.2⟩) (fun x=>x.1<=V.length/\x.2=es++(V.take x.1).flatMap (jnV p)/\x.2.length<=es.length+x.1) (fun x=>V.length-x.1) (0,es) ⟨x8m _,by simp,x9z _⟩ ?_;rintro⟨j,m⟩ ⟨F,u,G⟩;simp only at F u G⊢;have z:(avE m).length=m.length:=x8g _;rcases x8a j V.length with n|n;rotate_left 1
 .rw [x9q n]at u;rw[<-u];conv=>whnf
  repeat' ((first|(refine gX ?_;intros)|refine dA ?_|((first|apply bD|apply bE|apply bN|apply bB)<;>intro _<;>try omega))<;>conv=>whnf)
  exact z1z _ (x9j _) ⟨rfl,rfl⟩
 have h:es++(V.take (j+1)).flatMap (jnV p)=m++jnV p V[j]:=by
  rw[x8c n,z1q,<-x9u,<-u];simp
 have t:(avV V)[j]?=some (.agg V[j].cells):=by simp[avV,n]
 have r:=H V[j] (x8o n);generalize V[j]=v at t h r;by_cases w:v.id=0
 .have o:jnV p v=[]:=by unfold jnV;rw[if_pos w]
  rw[o,x9c]at h;conv=>whnf
  repeat' ((first|(refine gX ?_;intros)|refine dA ?_|refine iT t ?_|((first|apply bD|apply bE|apply bN|apply bB)<;>intro _<;>try omega))<;>conv=>whnf)
  all_goals first
   |contradiction
   |exact nX (j+1,m) ⟨by simp only;omega,h.symm,by simp only;omega⟩
 obtain⟨i,f,it,q,b,d⟩:=r.resolve_left w;have L:=(x8t.1 q).1;obtain⟨k,N,Q,D⟩:=Mt a q b;have E:((QJ p).s.l.map fun i=>AV.agg i.cells)[k]?=some (.agg it.cells):=by rw[K.s,x8n,D];rfl
 have B:it.C=(i:Nat):=GX _ _ _ _ _ _ it b;have g:jnV p v=if ZC p i it=true then jnK it.s.C v else []:=by
  unfold jnV;rw[if_neg w,show(v.id-1).toNat=k by omega,D];simp only;rw[B,z0x]
 have y:=TD a q b P (.sl (avV V)) l m;rw[<-d]at y;rw[g]at h;generalize ZC p i it=c at*
 cases c
 .rw [if_neg (by decide),x9c]at h;conv=>whnf
  repeat' ((first|(refine gX ?_;intros)|refine dA ?_|refine iT t ?_|((first|apply bD|apply bE|apply bN|apply bB)<;>intro _<;>try omega)|(refine cH [(1000,1000),(1001,2000),(1002,1002)] 3 y ?_))<;>conv=>whnf)
  all_goals first
   |contradiction
   |exact nX (j+1,m) ⟨by simp only;omega,h.symm,by simp only;omega⟩
 .rw [if_pos rfl]at h;conv=>whnf
  repeat' ((first|(refine gX ?_;intros)|refine dA ?_|refine iT t ?_|refine iT E ?_|refine pA 1 104 z.symm ?_|((first|apply bD|apply bE|apply bN|apply bB)<;>intro _<;>try omega)|(refine cH [(1000,1000),(1001,2000),(1002,1002)] 3 y ?_)|refine x9g ?_ ?_)<;>conv=>whnf)
  all_goals first
   |contradiction
   | (have o:jnK it.s.C v=[⟨v,⟨it.s.C,1,0,[]⟩,4⟩]:=by unfold jnK;rw[if_pos (by assumption)]
      rw[o]at h;exact⟨(j+1,m++[⟨v,⟨it.s.C,1,0,[]⟩,4⟩]),⟨by simp only;omega,h.symm,by simp;omega⟩,by simp only;omega,Le.of_eq (by simp only[wjH,whO,avE,x8i,x8d];rfl)⟩)
   | (have o:jnK it.s.C v=[⟨v,⟨it.s.C,3,0,v.slot⟩,5⟩]:=by unfold jnK;rw[if_neg (by omega),if_pos (by omega)]
      rw[o]at h;exact⟨(j+1,m++[⟨v,⟨it.s.C,3,0,v.slot⟩,5⟩]),⟨by simp only;omega,h.symm,by simp;omega⟩,by simp only;omega,Le.of_eq (by simp only[wjH,whO,avE,x8i,x8d];rfl)⟩)
   | (have o:jnK it.s.C v=[⟨⟨it.s.C,4,0,v.slot⟩,v,6⟩]:=by unfold jnK;rw[if_neg (by omega),if_neg (by omega),if_pos (by omega)]
      rw[o]at h;exact⟨(j+1,m++[⟨⟨it.s.C,4,0,v.slot⟩,v,6⟩]),⟨by simp only;omega,h.symm,by simp;omega⟩,by simp only;omega,Le.of_eq (by simp only[wjH,whO,avE,x8i,x8d];rfl)⟩)
   | (have o:jnK it.s.C v=[]:=by unfold jnK;rw[if_neg (by omega),if_neg (by omega),if_neg (by omega)]
      rw[o,x9c]at h;exact nX (j+1,m) ⟨by simp only;omega,h.symm,by simp only;omega⟩)
def lG(l:List (Vx×Nat)):List (Vx×AV):=l.map fun x=>(x.1,.int .i64 (x.2:Nat))
def ixN(l:List (Vx×Nat))(v:Vx):Nat:=(DU l v).getD 0
def T7(l:List (Vx×Nat))(v:Vx):DU (lG l) v=(DU l v).map fun n=>.int .i64 (n:Nat):=by
 unfold DU lG;rw[List.find?_map];cases h:l.find? ((fun x:Vx×AV=>decide (v=x.1))∘fun x:Vx×Nat=>(x.1,AV.int .i64 (x.2:Nat)))with
 | none=>
   have:l.find? (fun x=>decide (v=x.1))=none:=h;rw[this];rfl
 | some x=>
   have:l.find? (fun x=>decide (v=x.1))=some x:=h;rw[this];rfl
theorem q0q(v:Vx)(n:Nat):∀l:List (Vx×Nat),Hg (lG l) v (.int .i64 (n:Nat))=lG (Hg l v n)
 |[]=>rfl
 | x::r=>by
   show Hg ((x.1,AV.int .i64 (x.2:Nat))::lG r) v _=_;rw[Hg,Hg];split
   .rfl
   .rw [q0q v n r];rfl
def Cr(w:World):(zeroValue 3).run prog w=.ok (.int .i64 0) w:=by kernel_rfl
def Nn{N:Nat}{s:St}{o:Oper}{K:St->Prop}{t:TypeId}{x m:Operand}(j:o.op=.lookup t x m false)(y:QP s.sl x=.ext k .map){l:List (Vx×Nat)}(q:getH s.H k=some (.ext (Gs vxV (lG l))))(v:Vx)(r:QP s.sl m=.p (.agg v.cells)){i:TyI}(w:tab.get t=some i)(n:i.desc=.map 27 3)(h:setD N s.sl o.dst (.p (.int .i64 (ixN l v:Nat))) fun sl=>K ⟨sl,s.H⟩):OpK prog N s o K:=by
 refine Yh XD j q0j y q r (fun σ u h=>Rr (a:=v) h) w n (zv:=.int .i64 0) (z:=.int .i64 0) Cr (fun σ=>.int _ _) ?_;have e:(DU (lG l) v).getD (.int .i64 0)=.int .i64 (ixN l v:Nat):=by
  rw[T7];unfold ixN;cases DU l v<;>rfl
 rw[x9p,e];exact h
def CW{N:Nat}{s:St}{o:Oper}{K:St->Prop}{t:TypeId}{x m:Operand}(j:o.op=.lookup t x m true)(y:QP s.sl x=.ext k .map){l:List (Vx×Nat)}(q:getH s.H k=some (.ext (Gs vxV (lG l))))(v:Vx)(r:QP s.sl m=.p (.agg v.cells)){i:TyI}(w:tab.get t=some i)(n:i.desc=.map 27 3)(h:setD N s.sl o.dst (.p (.tup [.int .i64 (ixN l v:Nat),.bool (DU l v).isSome])) fun sl=>K ⟨sl,s.H⟩):OpK prog N s o K:=by
 refine Yh XD j q0j y q r (fun σ u h=>Rr (a:=v) h) w n (zv:=.int .i64 0) (z:=.int .i64 0) Cr (fun σ=>.int _ _) ?_;have e:(DU (lG l) v).getD (.int .i64 0)=.int .i64 (ixN l v:Nat):=by
  rw[T7];unfold ixN;cases DU l v<;>rfl
 rw[x9y,e,T7,Option.isSome_map];exact h
def avA(N:List (List (Int×Int))):List (List AV):=N.map avP
def Me(N:List (List (Int×Int)))(a:Nat)(x:Int×Int):List (List (Int×Int)):=N.set a (N.getD a []++[x])
def wlH(n:Nat)(b:List AV)(P V E:AV)(l:List (Vx×Nat))(N Q:List (List (Int×Int))):Heap:=[(1000,whO b (.p P) (.p V) (.p E) (.p .nils) (.ext 1002 .map) (.hd 2001 0 n) (.hd 2002 0 n)),(1002,.ext (Gs vxV (lG l))),(2001,.ext (.mat 183 185 2 (avA N) [])),(2002,.ext (.mat 183 185 2 (avA Q) []))]
def layR_len{N:List (List (Int×Int))}{a:Nat}{x:Int×Int}:(Me N a x).length=N.length:=by unfold Me;simp
def x0t:Info:={keep:=I_whole_Whole_lay.keep,sched:=fun i=>bif beq i 1 then(.cons 0 false (.cons 1 false (.cons 2 false (.cons 4 false (.cons 5 false (.cons 7 false (.cons 8 false (.cons 9 false (.cons 11 false (.cons 12 false (.fork 3 (.fork 6 (.cons 14 false (.cons 10 true (.cons 13 true (.cons 15 true .nil)))) 10 (.fork 6 (.cons 14 false (.cons 13 true (.cons 15 true .nil))) 13 (.cons 6 true (.cons 14 true (.cons 15 true .nil))))) 10 (.fork 3 (.fork 6 (.cons 14 false (.cons 13 true (.cons 15 true .nil))) 13 (.cons 6 true (.cons 14 true (.cons 15 true .nil)))) 13 (.cons 3 true (.cons 6 true (.cons 14 true (.cons 15 true .nil))))))))))))))))else bif beq i 2 then(.cons 12 false (.cons 13 false (.cons 14 false (.cons 15 false (.cons 0 false (.cons 1 false (.cons 2 false (.cons 4 false (.cons 5 false (.cons 6 false (.cons 7 false (.cons 9 false (.alo 8 (.cons 10 false (.alo 11 (.fork 3 (.cons 16 true (.cons 17 true (.cons 18 true (.cons 19 true .nil)))) 16 (.fork 3 (.cons 17 true (.cons 18 true (.cons 19 true .nil))) 17 (.cons 3 true (.cons 18 true (.cons 19 true .nil))))))))))))))))))))else bif beq i 3 then(.cons 12 false (.cons 13 false (.cons 14 false (.cons 15 false (.cons 0 false (.cons 1 false (.cons 2 false (.cons 4 false (.cons 5 false (.cons 6 false (.cons 7 false (.cons 9 false (.alo 8 (.cons 10 false (.alo 11 (.fork 3 (.cons 16 true (.cons 17 true (.cons 18 true (.cons 19 true .nil)))) 16 (.fork 3 (.cons 17 true (.cons 18 true (.cons 19 true .nil))) 17 (.cons 3 true (.cons 18 true (.cons 19 true .nil))))))))))))))))))))else I_whole_Whole_lay.sched i,frz:=I_whole_Whole_lay.frz}
def q0m(n:Nat)(b:List AV)(P V E:AV)(l:List (Vx×Nat))(N Q:List (List (Int×Int)))(e:Eg)(d:N.length=n)(g:Q.length=n)(ha:ixN l e.G<n)(A:ixN l e.to<n)(B:n<=1000000000)(u:∀r∈N,r.length<=1000000000)(v:∀r∈Q,r.length<=1000000000):
  aH 69 [.ptr 1000 0,.p (.agg e.cells)] (wlH n b P V E l N Q) (.p (.tup [])) (wlH n b P V E l (Me N (ixN l e.G) (ixN l e.to,e.kind)) (Me Q (ixN l e.to) (ixN l e.G,e.kind))):=by
 refine sK x0t func69 ?_;have q:ixN l e.G<N.length:=by omega
 have s:ixN l e.to<Q.length:=by omega
 have m:(avA N)[ixN l e.G]?=some (avP N[ixN l e.G]):=by unfold avA;rw[x8n,x8h q];rfl
 have h:(avA Q)[ixN l e.to]?=some (avP Q[ixN l e.to]):=by unfold avA;rw[x8n,x8h s];rfl
 have t:avA (Me N (ixN l e.G) (ixN l e.to,e.kind))=(avA N).set (ixN l e.G) (avP N[ixN l e.G]++[.agg [.int .i64 (ixN l e.to:Nat),.int .i64 e.kind]]):=by
  unfold Me avA;rw[z0q,x8f,x8h q,x9i];simp[avP]
 have o:avA (Me Q (ixN l e.to) (ixN l e.G,e.kind))=(avA Q).set (ixN l e.to) (avP Q[ixN l e.to]++[.agg [.int .i64 (ixN l e.G:Nat),.int .i64 e.kind]]):=by
  unfold Me avA;rw[z0q,x8f,x8h s,x9i];simp[avP]
 have a:(avA N).length=N.length:=x8g _;have y:(avA Q).length=Q.length:=x8g _;have c:(avP N[ixN l e.G]).length<=1000000000:=by unfold avP;rw[x8g];exact u _ (x8o _)
 have z:(avP Q[ixN l e.to]).length<=1000000000:=by unfold avP;rw[x8g];exact v _ (x8o _)
 conv=>whnf
 repeat' ((first|(refine gX ?_;intros)|((first|apply bD|apply bE|apply bN|apply bB)<;>intro _<;>try omega))<;>conv=>whnf)
 refine ZW ⟨[(0,.ptr 1000 0),(3,.p (.ip e.cells)),(4,.j (ixN l e.G:Nat)),(5,.j (ixN l e.to:Nat))],wlH n b P V E l N Q⟩ ?_ ?_
 .skip
  repeat' ((first|(refine gX ?_;intros)|refine dA ?_|((first|apply bD|apply bE|apply bN|apply bB)<;>intro _<;>try omega)|refine Nn rfl rfl rfl e.G rfl rfl rfl ?_|refine Nn rfl rfl rfl e.to rfl rfl rfl ?_|refine x9g ?_ ?_)<;>conv=>whnf)
  all_goals first
   |exact Le.of_eq rfl
 conv=>whnf
 repeat' ((first|(refine gX ?_;intros)|((first|apply bD|apply bE|apply bN|apply bB)<;>intro _<;>try omega))<;>conv=>whnf)
 refine ZW ⟨[(0,.ptr 1000 0),(3,.p (.ip e.cells)),(4,.j (ixN l e.G:Nat)),(5,.j (ixN l e.to:Nat))],wlH n b P V E l (Me N (ixN l e.G) (ixN l e.to,e.kind)) Q⟩ ?_ ?_
 .skip
  repeat' ((first|(refine iM fun _=>?_)|refine dA ?_|refine x9g rfl ?_|refine aD ?_|refine aR ?_|(refine iA fun _=>?_)|refine IdxK.xs (by omega) ?_|refine Yg (by omega) ?_|refine ByteK.at (by omega) ?_|refine wI ?_|refine iO (ixN l e.G) ?_|refine z3d (ixN l e.G) _ (by omega) m (by simp) ?_|refine z4x (fun x w=>by rcases x8l.1 w with rfl;rfl) rfl ?_|refine OpK.focus XD 31 2001 (ixN l e.G) 2 rfl rfl m (by simp) rfl rfl ?_|refine pA 1 16 rfl ?_|refine ZA XD rfl rfl rfl rfl rfl rfl rfl rfl rfl (by decide) (ixN l e.G) [] (by omega) (by omega) (by simp) ⟨by simp,by simp,by simp⟩ ?_|((first|apply bD|apply bE|apply bN|apply bB)<;>intro _<;>try omega)|refine x9g ?_ ?_)<;>conv=>whnf)
  all_goals first
   |exact Le.of_eq (by unfold wlH;rw[t];rfl)
 conv=>whnf
 repeat' ((first|(refine gX ?_;intros)|((first|apply bD|apply bE|apply bN|apply bB)<;>intro _<;>try omega))<;>conv=>whnf)
 refine ZW ⟨[],wlH n b P V E l (Me N (ixN l e.G) (ixN l e.to,e.kind)) (Me Q (ixN l e.to) (ixN l e.G,e.kind))⟩ ?_ ?_
 .skip
  repeat' ((first|(refine iM fun _=>?_)|refine dA ?_|refine x9g rfl ?_|refine aD ?_|refine aR ?_|(refine iA fun _=>?_)|refine IdxK.xs (by omega) ?_|refine Yg (by omega) ?_|refine ByteK.at (by omega) ?_|refine wI ?_|refine iO (ixN l e.to) ?_|refine z3d (ixN l e.to) _ (by omega) h (by simp) ?_|refine z4x (fun x w=>by rcases x8l.1 w with rfl;rfl) rfl ?_|refine OpK.focus XD 50 2002 (ixN l e.to) 2 rfl rfl h (by simp) rfl rfl ?_|refine pA 1 16 rfl ?_|refine ZA XD rfl rfl rfl rfl rfl rfl rfl rfl rfl (by decide) (ixN l e.to) [] (by omega) (by omega) (by simp) ⟨by simp,by simp,by simp⟩ ?_|((first|apply bD|apply bE|apply bN|apply bB)<;>intro _<;>try omega)|refine x9g ?_ ?_)<;>conv=>whnf)
  all_goals first
   |exact Le.of_eq (by unfold wlH;rw[o];rfl)
 conv=>whnf
 repeat' ((first|(refine gX ?_;intros)|refine dA ?_|((first|apply bD|apply bE|apply bN|apply bB)<;>intro _<;>try omega))<;>conv=>whnf)
 all_goals first
  |exact z1z _ (x9j _) ⟨rfl,rfl⟩
def RR{P:Program}{f:FuncId}{args:List LV}{H:Heap}{R R':LV->Heap->Prop}(h:SpecH P f args H R)(c:∀l H',R l H'->∃s j,R' s j/\Le 1 ⟨[(0,l)],H'⟩ ⟨[(0,s)],j⟩):SpecH P f args H R':=by
 refine⟨h.go,fun σ β w r z a b=>(h.ok σ β w r z a b).mono fun A w' g=>?_⟩;obtain⟨l,u,σ',β',H',d,t,q,o,m⟩:=g;obtain⟨s,j,v,y⟩:=c l H' t;obtain⟨σ2,β2,n,x⟩:=y σ' β' {tmps:=#[u],defers:=[]} w' ⟨rfl,rfl,fun i=>by
  match i with
  |0=>simpa[getS]using q
  |i+1=>exact .p (by simpa[getS]using Rep.any _),o⟩
 exact⟨s,u,σ2,β2,j,d,v,by simpa[getS]using n.E 0,n.heap,m.trans x⟩
def Zm{P:Program}{f:FuncId}{args:List LV}{H:Heap}{n:Nat}{e:TypeId}{sz:Nat}{es:List AV}(j:n=es.length)(h:SpecH P f args H (fun r H'=>r=.hd k 0 n/\H'=[(k,.own e sz es)])):SpecH P f args H (fun r H'=>r=.p (.sl es)/\H'=[]):=
 RR h fun l H' h=>⟨_,_,⟨rfl,rfl⟩,by
  obtain⟨rfl,rfl⟩:=h;exact B2 (k:=k) (e:=e) (sz:=sz) (es:=es) (by simp[getH]) (.cons (.row j) .nil) (.drop .nil)⟩
noncomputable def q0g(p:Pg)(k:Nat):List Vx:=Gq (YD p k (prA p k) (bI p) (bO p))
noncomputable def q7e(p:Pg)(k:Nat):List Eg:=BF (J3 p k (prA p k) (bI p) (bO p) (x1z (QQ p k (prA p k)) (prA p k) (QY (prA p k).body+2)) (Vg p k (prA p k)))
def TN(h:QL p=true)(l:k<p.A.length):aH 66 [.p (.ip (QJ p).cells),.j k] [] (.p (.sl (avV (q0g p k)))) []:=
 Zm (by unfold avV q0g;rw[x8g,BA]) (NT (QJ p) p (bI p) (bO p) (Pc h) k _ (VB l) (x2p h (VB l)))
def AE(o:Fit p)(h:QL p=true)(q:k<p.A.length):aH 43 [.p (.ip (QJ p).cells),.j k] [] (.p (.sl (avE (q7e p k)))) []:=by
 have l:=VB q;have m:QY (prA p k).body+2<=202:=by
  have:=ML p.A l;have:=(XZ h).2.2;omega
 refine Zm (by unfold avE q7e;rw[x8g]) (TB o h k _ l _ ?_ (QQ p k (prA p k)) ?_ ((Gb (QQ p k (prA p k)) (prA p k) (QY (prA p k).body+2) (q7x h l) (q9w h l) (x9r (q7p h l) (by decide))).mono fun r v=>?_) _ (Jz h l) (CL o h l) fun s w=>M9 h l w)
 .have n:=S9 (f:=prA p k) (QQ p k (prA p k)) (QY (prA p k).body+2);have t:(QY (prA p k).body+2)*(QY (prA p k).body+2)<=202*202:=z5u m m;omega
 .rw [(UP h).ways,LS q]
 .obtain ⟨fm,M,n,t,u,rfl⟩:=v;rw[<-q7t n u]
def WK(t:QL p=true):(QF p).Nodup/\∀n∈QF p,n∈QK p:=by
 have key:∀(m k:Nat)(out:List Str),out.Nodup->(∀s∈out,s∈QK p)->(rcL p m k out).Nodup/\∀s∈rcL p m k out,s∈QK p:=fun m=>by
  induction m with
  |zero=>intro k out j h;exact⟨j,h⟩
  | succ m y=>
    intro k out j h;rw[rcL];split
    .rename_i n q;obtain⟨i,w,o,_,_⟩:=YP (h n (x9x q));have l:=VB w;have x:∀s∈KR p n,s∈QK p:=fun s r=>by
      unfold KR at r;rw[show NL p n=(i:Nat)from o,z0x]at r;exact K4 t l r
     obtain⟨u,v,_⟩:=VO (KR p n) j h x;exact y _ _ u v
    .exact ⟨j,h⟩
 obtain⟨j,h⟩:=key (p.A.length+1) 0 [mainS] (by simp) (by simpa using FK t);unfold QF;exact⟨(z1v _ _).nodup_iff.2 j,fun n q=>h n (XR.1 q)⟩
def BM(h:QL p=true):(QF p).length<=16:=by
 obtain⟨j,l⟩:=WK h;have:=YF j l;have m:(QK p).length=p.A.length:=by simp[QK]
 have:=(XZ h).2.1;omega
def TP(h:QL p=true):aH 64 [.p (.ip (QJ p).cells)] [] (.p (eStrs (QF p))) []:=Zm (x8g _).symm (N2 h)
noncomputable def PE(p:Pg)(l:List Str):List Vx:=l.flatMap fun n=>q0g p (NL p n).toNat
noncomputable def q6z(p:Pg)(l:List Str):List Eg:=l.flatMap fun n=>q7e p (NL p n).toNat
noncomputable def egsA(p:Pg):List Eg:=BF (q6z p (QF p)++(PE p (QF p)).flatMap (jnV p))
def atV(V:List Vx):List (Vx×Nat):=V.zipIdx.foldl (fun l x=>Hg l x.1 x.2) []
def Kw(n:Nat)(at_:List (Vx×Nat))(E:List Eg):List (List (Int×Int)):=E.foldl (fun N e=>Me N (ixN at_ e.G) (ixN at_ e.to,e.kind)) (List.replicate n [])
def Kh(n:Nat)(at_:List (Vx×Nat))(E:List Eg):List (List (Int×Int)):=E.foldl (fun N e=>Me N (ixN at_ e.to) (ixN at_ e.G,e.kind)) (List.replicate n [])
theorem Yo:∀(l:List Eg)(a:Eg),(DX a l).length<=l.length
 |[],_=>x9z _
 | b::r,a=>by
   rw[DX];cases decide (b=a)with
   |true=>exact x9r (Yo r b) (Nat.le_succ _)
   |false=>exact Nat.succ_le_succ (Yo r b)
def Xw(l:List Eg):(BF l).length<=l.length:=by
 have h:(q1p (Xa l)).length<=(Xa l).length:=by
  cases j:Xa l with
  |nil=>exact x9z _
  |cons a r=>exact Nat.succ_le_succ (Yo r a)
 rw[G0]at h;exact h
theorem J0:∀(l:List Eg)(a:Eg),∀e∈DX a l,e∈l
 |[],_,_,h=>h
 | b::r,a,e,h=>by
   rw[DX]at h;cases j:decide (b=a)with
   |true=>rw[j,x9y]at h;exact x8b _ (J0 r b e h)
   | false=>
     rw[j,x9p]at h;rcases x8r.1 h with rfl|h
     .exact x8p
     .exact x8b _ (J0 r b e h)
def IS{l:List Eg}(h:e∈BF l):e∈l:=by
 refine(z1v _ _).mem_iff.1 (show e∈Xa l from ?_);unfold BF at h;cases j:Xa l with
 |nil=>rw[j]at h;exact h
 | cons a r=>
   rw[j]at h;rcases x8r.1 h with rfl|h
   .exact x8p
   .exact x8b _ (J0 r a e h)
def q5t{v:Vx}:v∈q0g p k↔v∈YD p k (prA p k) (bI p) (bO p):=(z1v _ _).mem_iff
def Sw(j:QL p=true)(m:k<p.A.length):(q7e p k).length<=14000000:=by
 have l:=VB m;have h:QY (prA p k).body+2<=202:=by
  have:=ML p.A l;have:=(XZ j).2.2;omega
 have n:=S9 (f:=prA p k) (QQ p k (prA p k)) (QY (prA p k).body+2);have o:(QY (prA p k).body+2)*(QY (prA p k).body+2)<=202*202:=z5u h h;exact x9r (Xw _) (M4 j l (by omega) (Jz j l))
def Cm(h:QL p=true)(j:k<p.A.length):(q0g p k).length<=60000:=by
 unfold q0g;rw[BA];exact Gh h (VB j)
def GM{n:Str}(h:n∈QK p):∃k,k<p.A.length/\NL p n=(k:Nat)/\(prA p k).name=n:=by
 obtain⟨k,j,l,_,m⟩:=YP h;exact⟨k,j,l,by rw[VX (x8h j)];exact m⟩
theorem J7{α:Type}{f:Str->List α}{c:Nat}:∀(l:List Str),(∀n∈l,(f n).length<=c)->(l.flatMap f).length<=l.length*c
 |[],_=>x8m _
 | n::r,h=>by
   rw[z0e,x8d,x9s,Nat.succ_mul];have m:=h n x8p;have o:=J7 r fun x j=>h x (x8b _ j);omega
def Cp(m:QL p=true)(l:List Str)(h:∀n∈l,n∈QK p):(PE p l).length<=l.length*60000:=J7 l fun n q=>by
 obtain⟨k,o,j,_⟩:=GM (h n q);rw[j,z0x];exact Cm m o
def Bk(m:QL p=true)(l:List Str)(h:∀n∈l,n∈QK p):(q6z p l).length<=l.length*14000000:=J7 l fun n q=>by
 obtain⟨k,o,j,_⟩:=GM (h n q);rw[j,z0x];exact Sw m o
section
variable {κ α:Type}[DecidableEq κ]
def BZ(x:κ×α)(r:List (κ×α))(k:κ):DU (x::r) k=if k=x.1 then some x.2 else DU r k:=by
 unfold DU;rw[z3t];by_cases h:k=x.1
 .simp [h]
 .simp [h]
theorem Bd(k:κ)(v:α)(m:κ):∀l:List (κ×α),DU (Hg l k v) m=if m=k then some v else DU l m
 | []=>by
   rw[Hg,BZ]
 | x::r=>by
   rw[Hg];by_cases h:k=x.1
   .rw [if_pos h,BZ,BZ];by_cases j:m=k
    .rw [if_pos j,if_pos (j.trans h)]
    .rw [if_neg j,if_neg (fun n=>j (n.trans h.symm)),if_neg (fun n=>j (n.trans h.symm))]
   .rw [if_neg h,BZ,BZ,Bd k v m r];by_cases j:m=k
    .subst j;simp[h]
    .rw [if_neg j,if_neg j]
end
theorem Ec(v:Vx):∀(L:List (Vx×Nat))(l:List (Vx×Nat)),(DU (L.foldl (fun l x=>Hg l x.1 x.2) l) v).isSome=((DU l v).isSome||L.any fun x=>decide (v=x.1))
 |[],l=>by simp
 | x::r,l=>by
   rw[z1n,Ec v r,Bd,List.any_cons];by_cases h:v=x.1
   .simp [h]
   .simp [h]
def q7b(V:List Vx)(v:Vx):(DU (atV V) v).isSome=decide (v∈V):=by
 unfold atV;rw[Ec];have h:(V.zipIdx.any fun x=>decide (v=x.1))=decide (v∈V):=by
  rw[z2t,z1b,z1o];constructor
  .rintro ⟨x,o,l⟩;rw[z1j l];obtain⟨_,q,j⟩:=List.mem_zipIdx o;rw[j];exact x8o _
  .intro n;obtain⟨i,m,rfl⟩:=z0l.1 n;exact⟨(V[i],i),z0l.2 ⟨i,by simpa using m,by simp⟩,by simp⟩
 rw[h];rfl
theorem Hr(n:Nat)(v:Vx):∀(L:List (Vx×Nat))(l:List (Vx×Nat)),(∀x∈L,x.2<n)->(∀m,DU l v=some m->m<n)->∀m,DU (L.foldl (fun l x=>Hg l x.1 x.2) l) v=some m->m<n
 |[],l,_,h=>h
 | x::r,l,h1,h=>by
   rw[z1n];refine Hr n v r _ (fun y o=>h1 y (x8b _ o)) fun m j=>?_;rw[Bd]at j;split at j
   .cases j;exact h1 x x8p
   .exact h m j
def x3h{V:List Vx}(j:V≠[])(v:Vx):ixN (atV V) v<V.length:=by
 have l:0<V.length:=z4q.2 j;unfold ixN;cases n:DU (atV V) v with
 |none=>exact l
 | some m=>
   exact Hr V.length v V.zipIdx [] (fun x o=>by
    obtain⟨_,q,_⟩:=List.mem_zipIdx o;omega) (fun m h=>by cases h) m n
theorem C1{p:Pg}:∀(m k:Nat)(out:List Str)(n:Str),n∈out->n∈rcL p m k out
 |0,_,_,_,h=>h
 | m+1,k,out,n,h=>by
   rw[rcL];split
   .refine C1 m _ _ n ?_;have key:∀(l o:List Str),n∈o->n∈XU o l:=fun l=>by
     induction l with
     |nil=>intro o h;exact h
     | cons x r j=>
       intro o h;rw[XU];split
       .exact j _ h
       .exact j _ (z0c _ h)
    exact key _ _ h
   .exact h
def W6(p:Pg):mainS∈QF p:=by
 unfold QF;rw[XR];exact C1 _ _ _ _ x8p
def PI{l:List Str}{v:Vx}:v∈PE p l ↔ ∃n∈l,v∈YD p (NL p n).toNat (prA p (NL p n).toNat) (bI p) (bO p):=by
 unfold PE;rw[x9m];exact z4u fun n=>and_congr z4r q5t
def Cn(p:Pg):PE p (QF p)≠[]:=by
 refine List.ne_nil_of_mem (a:=⟨(prA p (NL p mainS).toNat).name,1,0,[]⟩) ?_;exact PI.2 ⟨mainS,W6 p,UA.2 (.inl rfl)⟩
def x0y(l:QL p=true):∀v∈PE p (QF p),v.id=0\/∃(i:Nat) (f:Pr) (it:Item),p.A[i]?=some f/\it∈itsOf p i f/\v.id=it.s.id:=by
 intro v h;obtain⟨n,q,h⟩:=PI.1 h;obtain⟨k,o,j,_⟩:=GM ((WK l).2 n q);rw[j,z0x]at h;rcases UA.1 h with rfl|⟨n,_,rfl⟩|⟨n,_,rfl⟩|⟨it,m,rfl|⟨_,⟨n,_,rfl⟩|⟨n,_,rfl⟩⟩⟩
 .exact .inl rfl
 .exact .inl rfl
 .exact .inl rfl
 all_goals exact .inr ⟨k,_,it,VB o,m,rfl⟩
def Tu(p:Pg)(v:Vx):(jnV p v).length<=1:=by
 unfold jnV;split
 .simp
 split
 .split
  .unfold jnK;split
   .simp
   split
   .simp
   split<;>simp
  .simp
 .simp
def ES{a b c:Eg}(h:egC a b<0)(j:egC b c<0):egC a c<0:=by
 rw[CA]at*
 exact lexE_k.tr _ _ _ h j
def ET(a:Eg):¬egC a a<0:=by
 rw[CA,(lexE_k.zero _ _).2 rfl];decide
def q6x{a b:Eg}(h:¬egC a b<0):a=b\/egC b a<0:=by
 rw[CA]at h;rcases lexE_k.ge h with h|h
 .exact .inl (EC h)
 .exact .inr (by rw[CA];exact h)
theorem Ha:∀(l:List Eg)(a:Eg),(∀b∈l,¬egC b a<0)->l.Pairwise (fun x y=>¬egC y x<0)->(∀b∈DX a l,egC a b<0)/\(DX a l).Pairwise (fun x y=>egC x y<0)
 |[],_,_,_=>⟨fun _ h=>(nomatch h),.nil⟩
 | b::r,a,h1,h2=>by
   obtain⟨q,s⟩:=z1p.1 h2;obtain⟨m,o⟩:=Ha r b q s;rw[DX];by_cases h:b=a
   .rw [x9e h,x9y];exact⟨h▸m,o⟩
   .rw [x9o h,x9p];have j:egC a b<0:=(q6x (h1 b x8p)).resolve_left h;refine⟨fun c n=>?_,z1p.2 ⟨m,o⟩⟩;rcases x8r.1 n with rfl|n
    .exact j
    .exact ES j (m c n)
theorem Yi:∀(l:List Eg)(a e:Eg),e∈l->e=a\/e∈DX a l
 | b::r,a,e,h=>by
   rw[DX];by_cases j:b=a
   .rw [x9e j,x9y];rcases x8r.1 h with rfl|h
    .exact .inl j
    .exact j▸Yi r b e h
   .rw [x9o j,x9p];rcases x8r.1 h with rfl|h
    .exact .inr x8p
    .rcases Yi r b e h with rfl|h
     .exact .inr x8p
     .exact .inr (x8b _ h)
def AK(l:List Eg):(Xa l).Pairwise (fun x y=>¬egC y x<0):=by
 have h:=z4l (le:=fun x y:Eg=> !decide (egC y x<0)) (fun a b c m j=>by
  simp only[z2v,z1r]at*
  intro h;rcases q6x m with rfl|n
  .exact j h
  .exact j (ES h n)) (fun a b=>by
  by_cases h:egC b a<0
  .have:¬egC a b<0:=fun j=>ET _ (ES h j);simp[this]
  .simp [h]) l
 exact h.imp fun {a b} h=>by simpa using h
def Ah(l:List Eg):(BF l).Pairwise (fun x y=>egC x y<0):=by
 have h:=AK l;unfold BF;cases q:Xa l with
 |nil=>exact .nil
 | cons a r=>
   rw[q]at h;obtain⟨j,m⟩:=z1p.1 h;obtain⟨n,o⟩:=Ha r a j m;exact z1p.2 ⟨n,o⟩
def BD{l:List Eg}:e∈BF l↔e∈l:=by
 refine⟨IS,fun h=>?_⟩;have h:e∈Xa l:=(z1v _ _).mem_iff.2 h;unfold BF;cases j:Xa l with
 |nil=>rw[j]at h;cases h
 | cons a r=>
   rw[j]at h;rcases x8r.1 h with rfl|h
   .exact x8p
   .rcases Yi r a e h with rfl|h
    .exact x8p
    .exact x8b _ h
def SP(l:List Eg):(BF l).Nodup:=List.Pairwise.imp (S:=fun a b=>a≠b) (fun {a b} (h:egC a b<0)=>fun(j:a=b)=>ET b (by rw[j]at h;exact h)) (Ah l)
def Lq{l L:List Eg}{q:Eg->Bool}(j:L.Nodup)(h:∀e,e∈L↔e∈l/\q e=true):((BF l).filter q).length=L.length:=by
 have m:((BF l).filter q).Perm L:=(List.perm_ext_iff_of_nodup ((SP l).filter _) j).2 fun e=>by rw[z0v,BD,h]
 exact m.length_eq
def pqS:Str:=[112]
def Cx:∀it∈itsOf someP 0 f0,lvB someP 0 it.s.id=true:=fun it h=>by
 unfold lvB;rw[show prA someP 0=f0 from rfl,x4z];exact z0k.1 (show((itsOf someP 0 f0).all fun it=>[true,true,true,true,true,true].getD (ixI someP 0 f0 it.s.id).toNat false)=true by kernel_rfl) it h
def q5v:∀it∈itsOf someP 1 f1,lvB someP 1 it.s.id=true:=fun it h=>by
 unfold lvB;rw[show prA someP 1=f1 from rfl,x4w];exact z0k.1 (show((itsOf someP 1 f1).all fun it=>[true,true,true,true,true,true].getD (ixI someP 1 f1 it.s.id).toNat false)=true by kernel_rfl) it h
def AY:KR someP mainS=[pqS]:=by
 unfold KR;rw[show NL someP mainS=0 by kernel_rfl];show HJ someP 0 (itsOf someP 0 f0)=_;unfold HJ;rw[show(itsOf someP 0 f0).filter (ZC someP 0)=(itsOf someP 0 f0).filter fun it=>decide (it.s.kind=4)from z4d fun it h=>by unfold ZC;rw[Cx it h,Bool.and_true]]
 kernel_rfl
def AJ:KR someP pqS=[]:=by
 unfold KR;rw[show NL someP pqS=1 by kernel_rfl];show HJ someP 1 (itsOf someP 1 f1)=_;unfold HJ;rw[show(itsOf someP 1 f1).filter (ZC someP 1)=(itsOf someP 1 f1).filter fun it=>decide (it.s.kind=4)from z4d fun it h=>by unfold ZC;rw[q5v it h,Bool.and_true]]
 kernel_rfl
def some_reach:(QF someP).Perm [mainS,pqS]:=by
 have h:rcL someP 3 0 [mainS]=[mainS,pqS]:=by
  show rcL someP 2 1 (XU [mainS] (KR someP mainS))=_;rw[AY];show rcL someP 1 2 (XU [mainS,pqS] (KR someP pqS))=_;rw[AJ];rfl
 unfold QF UF;rw[show someP.A.length+1=3 from rfl,h];exact z1v _ _
def sI(j:Nat):List Str:=[[],[]].getD j []
def sOo(j:Nat):List Str:=sOx.getD j []
def OW:bI someP=sI:=by
 funext j;unfold bI;rw[<-some_book.eq];rfl
def OV:bO someP=sOo:=by
 funext j;unfold bO;rw[<-some_book.eq];rfl
def rawS:List Vx:=YD someP 0 f0 sI sOo++YD someP 1 f1 sI sOo
def some_V:(PE someP (QF someP)).Perm rawS:=by
 unfold PE;refine(some_reach.flatMap_right _).trans ?_;show(q0g someP (NL someP mainS).toNat++(q0g someP (NL someP pqS).toNat++[])).Perm _;rw[show NL someP mainS=0 by kernel_rfl,show NL someP pqS=1 by kernel_rfl,x9c];unfold rawS q0g Gq;rw[OW,OV];exact(z1v _ _).append (z1v _ _)
def q2s(p:Pg)(I O:Nat->List Str)(it:Item):Nat:=1+if it.s.kind=4 then(I (cIx p it.s)).length+(prG p (cIx p it.s)).B.length+((O (cIx p it.s)).length+1)else 0
def q5r{l:Str}(h:it.s.kind=4->it.s.name≠[]):(Rm p l I O it).length=q2s p I O it:=by
 unfold Rm q2s;rw[x9s];split
 .rename_i j;have e:clO it.s (O (cIx p it.s))=slO (O (cIx p it.s)):=by unfold clO;rw[if_neg (h j)]
  rw[e,x8d,x8g,x8g,Wh,LH];omega
 .rfl
def Rl(h:((itsOf p i f).all fun it=>decide (it.s.kind=4->it.s.name≠[]))=true):(YD p i f I O).length=1+((I i).length+f.B.length)+((O i).length+1)+((itsOf p i f).map (q2s p I O)).sum:=by
 unfold YD Gg;rw[x8d,List.length_flatMap,show(itsOf p i f).map (fun it=>(Rm p f.name I O it).length)=(itsOf p i f).map (q2s p I O)from z5b fun it j=>q5r (z1j (z0k.1 h it j))];simp only[x8d,x8g,x9h,Wh,LH]
def OZ:(PE someP (QF someP)).length=20:=by
 rw[some_V.length_eq];unfold rawS;rw[x8d,Rl (by kernel_rfl),Rl (by kernel_rfl)]
 kernel_rfl
def q5w:⟨pqS,2,7,[]⟩∈PE someP (QF someP):=by
 refine some_V.mem_iff.2 (z1t _ (UA.2 (.inr (.inr (.inr ?_)))));have h:∃it∈itsOf someP 1 f1,it.s.id=7:=by
  refine⟨(itsOf someP 1 f1)[2]'(by decide),x8o _,by rfl⟩
 obtain⟨it,j,l⟩:=h;exact⟨it,j,.inl (by rw[l];rfl)⟩
def SZ(o:QL p=true)(q:p.A[i]?=some f)(j:it∈itsOf p i f)(n:Str)(k:Int)(s:Str):jnV p ⟨n,k,it.s.id,s⟩=if ZC p i it=true then jnK it.s.C ⟨n,k,it.s.id,s⟩else []:=by
 obtain⟨m,t,u,r⟩:=Mt o q j;have h:it.C=(i:Nat):=GX _ _ _ _ _ _ it j;unfold jnV;rw[if_neg (by show it.s.id≠0;omega)];show(match(sheetOf p).l[(it.s.id-1).toNat]?with|some it=>_|none=>_)=_;rw[show(it.s.id-1).toNat=m by omega,r];simp only;rw[h,z0x]
def jnI(p:Pg)(h:Str)(I O:Nat->List Str)(it:Item)(e:Eg):Prop:=e=⟨⟨h,2,it.s.id,[]⟩,⟨it.s.C,1,0,[]⟩,4⟩\/(∃s∈slI (I (cIx p it.s)) (prG p (cIx p it.s)),e=⟨⟨h,5,it.s.id,s⟩,⟨it.s.C,3,0,s⟩,5⟩)\/∃s∈clO it.s (O (cIx p it.s)),e=⟨⟨it.s.C,4,0,s⟩,⟨h,6,it.s.id,s⟩,6⟩
def Ie(o:QL p=true)(q:p.A[i]?=some f):(∃v∈YD p i f I O,e∈jnV p v) ↔ ∃it∈itsOf p i f,ZC p i it=true/\jnI p f.name I O it e:=by
 constructor
 .rintro ⟨v,u,j⟩;rcases UA.1 u with rfl|⟨n,m,rfl⟩|⟨n,m,rfl⟩|⟨it,l,rfl|⟨r,⟨n,m,rfl⟩|⟨n,m,rfl⟩⟩⟩
  .cases j
  .cases j
  .cases j
  all_goals
   rw[SZ o q l]at j;split at j
   .rename_i h;refine⟨it,l,h,?_⟩;first
     |exact .inl (x8l.1 j)
     |exact .inr (.inl ⟨n,m,x8l.1 j⟩)
     |exact .inr (.inr ⟨n,m,x8l.1 j⟩)
   .cases j
 .rintro ⟨it,l,h,rfl|⟨s,t,rfl⟩|⟨s,t,rfl⟩⟩
  .exact ⟨⟨f.name,2,it.s.id,[]⟩,UA.2 (.inr (.inr (.inr ⟨it,l,.inl rfl⟩))),by rw[SZ o q l,if_pos h];exact x8p⟩
  all_goals
   have r:it.s.kind=4:=by
    unfold ZC at h;rw[x9w]at h;exact z1j h.1
  .exact ⟨⟨f.name,5,it.s.id,s⟩,UA.2 (.inr (.inr (.inr ⟨it,l,.inr ⟨r,.inl ⟨s,t,rfl⟩⟩⟩))),by rw[SZ o q l,if_pos h];exact x8p⟩
  .exact ⟨⟨f.name,6,it.s.id,s⟩,UA.2 (.inr (.inr (.inr ⟨it,l,.inr ⟨r,.inr ⟨s,t,rfl⟩⟩⟩))),by rw[SZ o q l,if_pos h];exact x8p⟩
def M5(j:QL p=true)(h:e∈q6z p (QF p)):∃f,∃k:Nat,p.A[k]?=some f/\f.name∈QF p/\EgP f e/\e∈q7e p k:=by
 obtain⟨n,o,l⟩:=x9m.1 h;obtain⟨k,m,q,r⟩:=GM ((WK j).2 n o);rw[q,z0x]at l;exact⟨prA p k,k,VB m,by rw[r];exact o,Sq j (VB m) (fun s t=>(M9 j (VB m) t).1) e (BD.1 l),l⟩
def J4(m:QL p=true)(u:3<=e.kind):e∈egsA p ↔ ∃n∈QF p,∃(k:Nat) (f:Pr),p.A[k]?=some f/\NL p n=k/\f.name=n/\∃it∈itsOf p k f,ZC p k it=true/\jnI p f.name (bI p) (bO p) it e:=by
 unfold egsA;rw[BD,x8e];constructor
 .rintro (h|h)
  .obtain ⟨f,k,_,_,h,_⟩:=M5 m h;rcases h.2.2.2.2 with h|h<;>omega
  .obtain ⟨v,j,q⟩:=x9m.1 h;obtain⟨n,o,j⟩:=PI.1 j;obtain⟨k,t,l,r⟩:=GM ((WK m).2 n o);rw[l,z0x]at j;exact⟨n,o,k,prA p k,VB t,l,r,(Ie m (VB t)).1 ⟨v,j,q⟩⟩
 .rintro ⟨n,o,k,f,s,l,r,h⟩;obtain⟨v,j,q⟩:=(Ie m s).2 h;refine .inr (x9m.2 ⟨v,PI.2 ⟨n,o,?_⟩,q⟩);rw[l,z0x,VX s];exact j
def PT(l:it∈itsOf someP 0 f0)(h:ZC someP 0 it=true):it.s.id=2/\it.s.C=pqS/\it.s.name≠[]:=by
 unfold ZC at h;rw[x9w]at h;have j:=z1j h.1;have key:((itsOf someP 0 f0).all fun it=>decide (it.s.kind=4->it.s.id=2/\it.s.C=pqS/\it.s.name≠[]))=true:=by kernel_rfl
 exact z1j (z0k.1 key it l) j
def TW(l:it∈itsOf someP 1 f1)(h:ZC someP 1 it=true):False:=by
 unfold ZC at h;rw[x9w]at h;have j:=z1j h.1;have key:((itsOf someP 1 f1).all fun it=>decide (it.s.kind≠4))=true:=by kernel_rfl
 exact z1j (z0k.1 key it l) j
def BC(r:3<=e.kind):e∈egsA someP ↔ ∃it∈itsOf someP 0 f0,ZC someP 0 it=true/\jnI someP mainS sI sOo it e:=by
 rw[J4 FN r,OW,OV];constructor
 .rintro ⟨n,m,k,f,q,o,s,it,l,j,h⟩;rcases x8r.1 (some_reach.mem_iff.1 m)with rfl|m
  .obtain rfl:k=0:=by rw[show NL someP mainS=0 by kernel_rfl]at o;omega
   obtain rfl:f0=f:=z1e q;exact⟨it,l,j,h⟩
  .obtain rfl:=x8l.1 m;obtain rfl:k=1:=by rw[show NL someP pqS=1 by kernel_rfl]at o;omega
   obtain rfl:f1=f:=z1e q;exact(TW l j).elim
 .rintro ⟨it,l,j,h⟩;exact⟨mainS,some_reach.mem_iff.2 x8p,0,f0,rfl,by kernel_rfl,rfl,it,l,j,h⟩
def OU:∃it∈itsOf someP 0 f0,ZC someP 0 it=true:=by
 have h:(itsOf someP 0 f0)[1]'(by decide)∈itsOf someP 0 f0:=x8o _;refine⟨_,h,?_⟩;unfold ZC;rw[Cx _ h]
 kernel_rfl
def q5z(h:it.s.C=pqS):cIx someP it.s=1:=by
 unfold cIx;rw[h]
 kernel_rfl
def AU:((egsA someP).filter fun e=>decide (e.kind=4)).length=1:=by
 unfold egsA;refine Lq (L:=[⟨⟨mainS,2,2,[]⟩,⟨pqS,1,0,[]⟩,4⟩]) (by simp) fun e=>?_;rw[x8l,<-BD,z1o];show _↔e∈egsA someP/\_;constructor
 .rintro rfl;obtain⟨it,l,j⟩:=OU;obtain⟨m,n,_⟩:=PT l j;exact⟨(BC (by decide)).2 ⟨it,l,j,.inl (by rw[m,n])⟩,rfl⟩
 .rintro ⟨h,o⟩;obtain⟨it,l,j,h⟩:=(BC (by omega)).1 h;obtain⟨m,n,_⟩:=PT l j;rcases h with rfl|⟨s,_,rfl⟩|⟨s,_,rfl⟩
  .rw [m,n]
  .exact absurd o (by simp)
  .exact absurd o (by simp)
def OY:((egsA someP).filter fun e=>decide (e.kind=6)).length=2:=by
 unfold egsA;refine Lq (L:=[⟨⟨pqS,4,0,yS⟩,⟨mainS,6,2,yS⟩,6⟩,⟨⟨pqS,4,0,retS⟩,⟨mainS,6,2,retS⟩,6⟩]) (by decide) fun e=>?_;refine Iff.trans ?_ (and_congr (BD (e:=e)) z1o.symm);show _↔e∈egsA someP/\e.kind=6;have q:∀{it:Item},it.s.C=pqS->it.s.name≠[]->∀s,s∈clO it.s (sOo (cIx someP it.s))↔s=yS\/s=retS:=fun l m s=>by
  unfold clO slO;rw[if_neg m,XR,q5z l];show s∈[yS,retS]↔_;simp
 constructor
 .intro r;obtain⟨it,n,j⟩:=OU;obtain⟨o,l,m⟩:=PT n j;rcases x8r.1 r with rfl|r
  .exact ⟨(BC (by decide)).2 ⟨it,n,j,.inr (.inr ⟨yS,(q l m _).2 (.inl rfl),by rw[o,l]⟩)⟩,rfl⟩
  .obtain rfl:=x8l.1 r;exact⟨(BC (by decide)).2 ⟨it,n,j,.inr (.inr ⟨retS,(q l m _).2 (.inr rfl),by rw[o,l]⟩)⟩,rfl⟩
 .rintro ⟨h,t⟩;obtain⟨it,n,j,h⟩:=(BC (by omega)).1 h;obtain⟨o,l,m⟩:=PT n j;rcases h with rfl|⟨s,_,rfl⟩|⟨s,u,rfl⟩
  .exact absurd t (by simp)
  .exact absurd t (by simp)
  .rw [o,l];rcases(q l m s).1 u with rfl|rfl
   .exact x8p
   .exact x8b _ x8p
def EU(h:ZC p i it=true):it.s.kind=4/\lvB p i it.s.id=true:=by
 unfold ZC at h;rw[x9w]at h;exact⟨z1j h.1,h.2⟩
def q8l(m:QL p=true):∀e∈(PE p (QF p)).flatMap (jnV p),q3l e:=by
 intro e w;obtain⟨v,t,w⟩:=x9m.1 w;obtain⟨n,c,t⟩:=PI.1 t;obtain⟨k,y,a,d⟩:=GM ((WK m).2 n c);rw[a,z0x]at t;obtain⟨it,b,u,h⟩:=(Ie m (VB y)).1 ⟨v,t,w⟩;obtain⟨g,q,_,_,x⟩:=Zs m (Ja (VB y) b) (EU u).1;have o:=x3x m q;rw[x]at o;have l:=x3x m (VB y);have z:prG p (cIx p it.s)=g:=by unfold prG;rw[q];rfl
 rcases h with rfl|⟨s,r,rfl⟩|⟨s,r,rfl⟩
 .exact ⟨Xv ⟨l,x8m _⟩,Xv ⟨o,x8m _⟩⟩
 .rw [z]at r;have j:=q9p m q r;exact⟨Xv ⟨l,j⟩,Xv ⟨o,j⟩⟩
 .have j:=q9n m q (EG r);exact⟨Xv ⟨o,j⟩,Xv ⟨l,j⟩⟩
def q7a(l:QL p=true):∀e∈q6z p (QF p)++(PE p (QF p)).flatMap (jnV p),q3l e:=by
 intro e j;rcases x8e.1 j with j|j
 .obtain ⟨f,k,m,_,h,_⟩:=M5 l j;exact h.ok l m
 .exact q8l l e j
end Go.Ab
