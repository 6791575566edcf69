/- The reference's touched globals; variables with two names; arguments that fit. -/
import Derived.Test.YtgljdhjopolmcaaGreatInN18
set_option linter.all false
set_option maxRecDepth 100000
set_option maxHeartbeats 16000000
open List (length sum_cons)
namespace Go.Ab
open Go.Proofs.Tryz
open Go.Proofs
variable {I' O':List (List Str)}{P:Prop}{j:Nat}{l:List Bool}
def q1k(p:Pg)(t:S):Hf p t=(ZU t).filter fun v=>inS p.B v:=by
 unfold Hf;congr 1;funext v;exact(Fs _ _).symm
theorem LH(p:Pg)(hf:Fit p)(V:(QC p).1=0)(n:Str)(hn:n∈procsN p):aP 282 [.agg p.cells,.str n] (eStrs (YD p n)):=by
 refine sC BM func282 ?_;conv=>whnf
 obtain⟨hm,hb,hns⟩:=WV V;obtain⟨hg,hpl,hcn⟩:=ZM hm;obtain⟨H,g⟩:=S7 V hn;have Y:=Xw p n V hn;have J:YD p n=WB (YB p n):=rfl;have E:YB p n=(CB p n).flatMap (Vy p):=rfl;rw[J];generalize CB p n=ns at H g E Y⊢;have hnl:(ns.map AV.str).length=ns.length:=x8b _;repeat' ((first|(refine iM fun _=>?_)|refine cP Y ?_)<;>conv=>whnf)
 refine lJ (fun i:Nat×List Str=>⟨[(2,.p (.ip p.cells)),(5,.hd 0 0 i.2.length),(16,.p (eStrs ns)),(17,.p (.int .i64 (ns.map AV.str).length)),(18,.j i.1)],[(0,.own 9 1 (i.2.map .str))]⟩) (fun i=>i.1<=ns.length/\i.2.length<=4221000*i.1/\i.2++(ns.drop i.1).flatMap (Vy p)=YB p n) (fun i=>ns.length-i.1) (0,[]) (lM [(0,.own 9 1 [])]) ⟨x8i _,by simp,by rw[E];rfl⟩ ?_;rintro⟨j,w⟩ ⟨h2,h3,b⟩;simp only at h2 h3 b⊢;rcases x8o j ns.length with F|F;rotate_left 1
 ·have e:w=YB p n:=by
   rw[x9j F]at b;simpa using b
  have hS:=VI w (by omega);rw[<-e];conv=>whnf
  repeat' ((first|(refine Wl hS (.cons (.hd rfl (by simp)) .nil) ?_;rintro _ rfl)|(apply bD<;>intro _<;>try omega))<;>conv=>whnf)
  all_goals exact RetK.p rfl
 obtain⟨k,M,hik,C,hnk⟩:=Zc (g _ (x9w F));have K:Vy p ns[j]=(flL p.A[k].body).flatMap (Hf p):=by unfold Vy;rw[C]
 rw[YO F,K]at b;have I:=hf.pr (x9w M);have hN:=WF p ns[j];rw[C4 M C]at hN;have Z:=XA p.A[k];have z:(VC p.A[k]).map RI.s=flL p.A[k].body:=by rw[DU hm (x9w M)];exact Vw 1 0 false _
 have T:=HR p.A[k];have u:∀x∈VC p.A[k],wS x.s<=21000:=fun x hx=>by
  have N:x.s∈flL p.A[k].body:=by
   rw[<-z];exact x8c.2 ⟨_,hx,rfl⟩
  have:=Yy _ _ N;unfold wPr at I;omega
 rw[<-z]at b;generalize VC p.A[k]=its at u T b Z;have hil:=FX its;conv=>whnf
 repeat' ((first|(refine gX ?_;intros)|refine cP hN ?_|refine cP Z ?_|(apply bD<;>intro _<;>try omega))<;>conv=>whnf)
 refine lI (fun i:Nat×List Str=>⟨[(2,.p (.ip p.cells)),(5,.hd 0 0 i.2.length),(16,.p (eStrs ns)),(17,.p (.int .i64 (ns.map AV.str).length)),(18,.j j),(29,.p (Ml its)),(30,.p (.int .i64 (its.map fun i=>AV.agg i.cells).length)),(31,.j i.1)],[(0,.own 9 1 (i.2.map .str))]⟩) (fun i=>i.1<=its.length/\i.2.length<=w.length+21000*i.1/\i.2++(((its.drop i.1).map RI.s).flatMap (Hf p)++(ns.drop (j+1)).flatMap (Vy p))=YB p n) (fun i=>its.length-i.1) (0,w) ⟨x8i _,by simp,b⟩ ?_;rintro⟨m,r⟩ ⟨h6,h7,c⟩;simp only at h6 h7 c⊢;rcases x8o m its.length with y|y;rotate_left 1
 ·rw[x9j y]at c;conv=>whnf
  repeat' ((first|refine wI ?_|(apply bD<;>intro _<;>try omega))<;>conv=>whnf)
  exact nX (j+1,r) ⟨by simp only;omega,by simp only;omega,by simpa using c⟩
 have hw:=u _ (x9w y);have O:its[m].s.args.length<=21000:=by
  have:=Ht its[m].s;have:=JV its[m].s.args;omega
 have Q:=SM its[m].s;rw[x9i y,x9c,z0e,x9l]at c;have L:=q1k p its[m].s;have d:=FP its[m].s O;rw[L]at c;generalize ZU its[m].s=vs at Q c d;have hvl:(vs.map AV.str).length=vs.length:=x8b _;conv=>whnf
 repeat' ((first|(refine gX ?_;intros)|refine cP d ?_|(apply bD<;>intro _<;>try omega))<;>conv=>whnf)
 refine lI (fun i:Nat×List Str=>⟨[(2,.p (.ip p.cells)),(5,.hd 0 0 i.2.length),(16,.p (eStrs ns)),(17,.p (.int .i64 (ns.map AV.str).length)),(18,.j j),(29,.p (Ml its)),(30,.p (.int .i64 (its.map fun i=>AV.agg i.cells).length)),(31,.j m),(37,.p (eStrs vs)),(38,.p (.int .i64 (vs.map AV.str).length)),(39,.j i.1)],[(0,.own 9 1 (i.2.map .str))]⟩) (fun i=>i.1<=vs.length/\i.2.length<=r.length+i.1/\i.2++((vs.drop i.1).filter (fun v=>inS p.B v)++(((its.drop (m+1)).map RI.s).flatMap (Hf p)++(ns.drop (j+1)).flatMap (Vy p)))=YB p n) (fun i=>vs.length-i.1) (0,r) ⟨x8i _,by simp,c⟩ ?_;rintro⟨q,t⟩ ⟨h9,G,h⟩;simp only at h9 G h⊢;rcases x8o q vs.length with R|R
 ·rw[x9i R,List.filter_cons]at h;conv=>whnf
  repeat' ((first|refine cP (QE _ _) ?_|(refine gX ?_;intros)|refine pS ?_|((first|apply bD|apply bB)<;>intro _<;>try omega))<;>conv=>whnf)
  ·exact⟨(q+1,t++[vs[q]]),⟨by simp only;omega,by simp;omega,by rw[if_pos (by assumption)]at h;simpa using h⟩,by simp only;omega,Le.of_eq (by simp only[x8m,x8a];rfl)⟩
  ·exact nX (q+1,t) ⟨by simp only;omega,by simp only;omega,by rw[if_neg (by simp[*])]at h;exact h⟩
 ·rw[x9j R]at h;conv=>whnf
  repeat' ((first|refine wI ?_|(apply bD<;>intro _<;>try omega))<;>conv=>whnf)
  exact nX (m+1,t) ⟨by simp only;omega,by simp only;omega,by simpa using h⟩
def apR(h:List Str):List Arg->List Str->Bool
 |[],_=>true
 |a::r,seen=>bif a.ref then(bif inS seen a.name||inS h a.name then false else apR h r (seen++[a.name]))else apR h r seen
theorem q4z(h:List Str)(k:Str):∀(l:List Arg)(pre seen:List Str),(pre=[]/\k=[]\/pre=[k])->(∀a∈l,a.ref=true->a.name≠[])->apR h l (pre++seen)=XP k h l seen
 |[],_,_,_,_=>rfl
 | a::r,pre,seen,hp,ha=>by
   have q:=fun s=>q4z h k r pre s hp fun b v=>ha b (x8r _ v);rw[apR,XP];cases w:a.ref with
   |false=>exact q seen
   | true=>
     have m:=ha a x8l w;have t:inS (pre++seen) a.name=((a.name==k)||(seen.any fun s=>a.name==s)):=by
      rw[Fs,List.any_append];rcases hp with⟨rfl,rfl⟩|rfl
      .have:(a.name==([]:Str))=false:=z2t.2 m;rw[this];rfl
      .simp
     have u:(inS (pre++seen) a.name||inS h a.name)=((seen.any fun s=>a.name==s)||((a.name==k)||h.any fun s=>a.name==s)):=by
      rw[t,Fs];cases(a.name==k)<;>cases(seen.any fun s=>a.name==s)<;>rfl
     rw[x9z,x9z,u,x9l,q (seen++[a.name])]
def Ev(p:Pg)(t:S):Bool:=YK p t&&XP t.name (YD p t.D) t.args []
theorem Wf(p:Pg)(e:Fit p)(A:(QC p).1=0)(t:S)(y:t.D∈procsN p)(ha:t.args.length<=21000)(w:∀a∈t.args,a.ref=true->a.name≠[]):aP 240 [.agg p.cells,.agg t.cells] (.bool (Ev p t)):=by
 refine sC MC func240 ?_;conv=>whnf
 have v:=JY p t;have d:(t.args.map fun a=>AV.agg a.cells).length=t.args.length:=x8b _;have hT:=LH p e A t.D y;have m:=fun pre h=>q4z (YD p t.D) t.name t.args pre [] h w;unfold Ev;generalize YD p t.D=G at*
 cases s:YK p t with
 | false=>
   rw[s]at v;repeat' ((first|(refine gX ?_;intros)|refine cP v ?_|(apply bN<;>intro _))<;>conv=>whnf)
   all_goals first
    |(exfalso;simp_all;done)
    |exact RetK.ff rfl
 | true=>
   rw[s]at v;rw[z3l];repeat' ((first|(refine gX ?_;intros)|refine cP v ?_|refine WU (by simp) (by simp) ?_|(apply bN<;>intro _))<;>conv=>whnf)
   all_goals simp only[show(ByteArray.mk #[]).data.toList=[]from rfl]at*
   all_goals first
    |(exfalso;simp_all;done)
    |skip
   all_goals
    first
    | (have z:(t.name==[])=false:=by assumption
       have m:=m [t.name] (.inr rfl);rw[z0k]at m;rw[<-m];generalize k:([t.name]:List Str)=pre at m)
    | (have z:(t.name==[])=true:=by assumption
       have m:=m [] (.inl ⟨rfl,by simpa using z⟩);rw[z0k]at m;rw[<-m];generalize k:([]:List Str)=pre at m)
    have g:pre.length<=1:=by rw[<-k];simp
    refine lJ (fun x:Nat×List Str=>⟨[(2,.p (.ip p.cells)),(3,.p (.ip t.cells)),(5,.hd 0 0 x.2.length),(21,.p (.sl (t.args.map fun a=>.agg a.cells))),(22,.p (.int .i64 (t.args.map fun a=>AV.agg a.cells).length)),(23,.j x.1)],[(0,.own 9 1 (x.2.map .str))]⟩) (fun x=>x.1<=t.args.length/\x.2.length<=x.1+1/\apR G (t.args.drop x.1) x.2=apR G t.args pre) (fun x=>t.args.length-x.1) (0,pre) (by subst k;first|exact Le.of_eq rfl|exact(lM [(0,.own 9 1 [])])) ⟨x8i _,by simp only;omega,rfl⟩ ?_;rintro⟨j,q⟩ ⟨b,c,r⟩;simp only at b c r⊢;rcases x8o j t.args.length with u|u
    ·rw[x9i u,apR]at r;rw[<-r];conv=>whnf
     repeat' ((first|refine dA ?_|(refine gX ?_;intros)|(refine QH (QE q (t.args[j]'u).name) (.cons (.hd rfl (by simp)) (.cons (.p (Sub.refl _)) .nil)) (by rintro _ rfl;rfl) ?_;rintro _ rfl)|refine cP hT ?_|refine cP (QE G (t.args[j]'u).name) ?_|refine pS ?_|((first|apply bD|apply bB)<;>intro _<;>try omega))<;>conv=>whnf)
     all_goals first
      |(exfalso;simp_all;done)
      |exact RetK.ff (by simp[*])
      |exact⟨(j+1,q++[t.args[j].name]),⟨by simp only;omega,by simp;omega,by simp only;simp[*]⟩,by simp only;omega,Le.of_eq (by simp only[x8m,x8a];rfl)⟩
      |exact nX (j+1,q) ⟨by simp only;omega,by simp only;omega,by simp only;simp[*]⟩
    ·rw[x9j u,apR]at r;rw[<-r];conv=>whnf
     repeat' (apply bD<;>intro _<;>first|omega|conv=>whnf)
     exact RetK.tt rfl
def QA(c a:Int):aP 231 [.int .i64 c,.int .i64 a] (PR c a):=by
 refine sC MI func231 ?_;conv=>whnf
 repeat' (refine x9p rfl ?_;conv=>whnf)
 exact QM rfl rfl
def ZW{H:Heap}{a b:Int}(h:a=0↔P):RetK H (.p (.agg [.int .i64 a,.int .i64 b])) (fun r=>∃c d,r=PR c d/\(c=0↔P)):=⟨_,.p (Sub.refl _),a,b,rfl,h⟩
def fltR(P:Prop)(r:AV):Prop:=∃c d,r=PR c d/\(c=0↔P)
theorem Wd(p:Pg)(d:YV p=true):SpecP prog 174 [.agg p.cells] (fun r=>fltR (∀t∈WI p,t.kind=4->YK p t=true) r):=by
 refine sC MA func174 ?_;conv=>whnf
 have z:=JN p;have u:=Mq d;rw[<-u];generalize allR p=L at*
 have c:=FX L;repeat' ((first|(refine iM fun _=>?_)|refine cP z ?_)<;>conv=>whnf)
 refine lI (fun j:Nat=>⟨[(1,.p (.ip p.cells)),(2,.ptr 1 0),(6,.p (Ml L)),(7,.p (.int .i64 (L.map fun i=>AV.agg i.cells).length)),(8,.j j)],[(1,.obj 68 [.p (.int .i64 0),.j 0])]⟩) (fun j=>j<=L.length/\∀x∈L.take j,x.s.kind=4->YK p x.s=true) (fun j=>L.length-j) 0 ⟨x8i _,fun x k=>by rw[z3q]at k;cases k⟩ ?_;rintro j ⟨g,w⟩;rcases x8o j L.length with m|m
 ·have b:=JY p L[j].s;have q:L[j].s∈L.map RI.s:=x8c.2 ⟨_,x9w m,rfl⟩;have v:(L[j].s.kind=4->YK p L[j].s=true)->∀x∈L.take (j+1),x.s.kind=4->YK p x.s=true:=fun h x k=>by
   rcases(QS m).1 k with y|rfl
   ·exact w x y
   ·exact h
  conv=>whnf
  repeat' ((first|(refine gX ?_;intros)|refine cP b ?_|refine cP (QA 6 _) ?_|((first|apply bD|apply bN)<;>intro _<;>try omega))<;>conv=>whnf)
  all_goals first
   |exact nX (j+1) ⟨m,v fun h=>by first|assumption|omega⟩
   | (refine ZW ⟨fun h=>by omega,fun h=>?_⟩
      have:=h _ q (by omega);simp_all
      done)
 ·conv=>whnf
  repeat' ((first|refine x9p rfl ?_|(apply bD<;>intro _<;>try omega))<;>conv=>whnf)
  refine ZW ⟨fun _ t e=>?_,fun _=>rfl⟩;obtain⟨x,k,rfl⟩:=x8c.1 e;exact w x (by rw[x9u m];exact k)
theorem NL(p:Pg)(G:Fit p)(C:(QC p).1=0)(w:∀t∈WI p,t.kind=4->YK p t=true):SpecP prog 176 [.agg p.cells] (fun r=>fltR (∀t∈WI p,t.kind=4->XP t.name (YD p t.D) t.args []=true) r):=by
 refine sC FE func176 ?_;conv=>whnf
 obtain⟨A,V,O⟩:=WV C;have J:=JN p;have m:=Mq A;have c:∀x∈allR p,oneOk x.s=true:=fun x k=>by rw[Bq A]at k;exact(Ez A x k).2
 have g:∀x∈allR p,x.s.kind=4->aP 240 [.agg p.cells,.agg x.s.cells] (.bool (XP x.s.name (YD p x.s.D) x.s.args [])):=fun x k H=>by
  have e:x.s∈WI p:=by rw[<-m];exact x8c.2 ⟨x,k,rfl⟩
  have d:=e;unfold WI at d;obtain⟨f,y,z⟩:=z0j.1 d;have B:=(U1 C y z H).1;have Y:=Yy _ _ z;have F:=G.pr y;have T:=Ht x.s;have I:=JV x.s.args;have q:=Wf p G C x.s B (by unfold wPr at F;omega) fun a ha Q N=>by
   have u:=z0p.1 (JZ (c x k)).args a ha;unfold argR at u;rw[Q,x9z,N]at u;simp at u;have:=HC u.1;cases this
  unfold Ev at q;rw[w _ e H,z3l]at q;exact q
 rw[<-m];clear m w c;generalize allR p=L at*
 have M:=FX L;repeat' ((first|(refine iM fun _=>?_)|refine cP J ?_)<;>conv=>whnf)
 refine lI (fun j:Nat=>⟨[(1,.p (.ip p.cells)),(2,.ptr 1 0),(6,.p (Ml L)),(7,.p (.int .i64 (L.map fun i=>AV.agg i.cells).length)),(8,.j j)],[(1,.obj 68 [.p (.int .i64 0),.j 0])]⟩) (fun j=>j<=L.length/\∀x∈L.take j,x.s.kind=4->XP x.s.name (YD p x.s.D) x.s.args []=true) (fun j=>L.length-j) 0 ⟨x8i _,fun x k=>by rw[z3q]at k;cases k⟩ ?_;rintro j ⟨I,q⟩;rcases x8o j L.length with v|v
 ·have K:=g _ (x9w v);have b:L[j].s∈L.map RI.s:=x8c.2 ⟨_,x9w v,rfl⟩;have E:(L[j].s.kind=4->XP L[j].s.name (YD p L[j].s.D) L[j].s.args []=true)->∀x∈L.take (j+1),x.s.kind=4->XP x.s.name (YD p x.s.D) x.s.args []=true:=fun h x k=>by
   rcases(QS v).1 k with u|rfl
   ·exact q x u
   ·exact h
  conv=>whnf
  repeat' ((first|(refine gX ?_;intros)|refine cP (K (by omega)) ?_ (ha:=.cons (Sub.refl _) (.cons (Sub.refl _) .nil))|refine cP (QA 8 _) ?_|((first|apply bD|apply bN)<;>intro _<;>try omega))<;>conv=>whnf)
  all_goals first
   |exact nX (j+1) ⟨v,E fun h=>by first|assumption|omega⟩
   | (refine ZW ⟨fun h=>by omega,fun h=>?_⟩
      have:=h _ b (by omega);simp_all
      done)
 ·conv=>whnf
  repeat' ((first|refine x9p rfl ?_|(apply bD<;>intro _<;>try omega))<;>conv=>whnf)
  refine ZW ⟨fun _ t R=>?_,fun _=>rfl⟩;obtain⟨x,k,rfl⟩:=x8c.1 R;exact q x (by rw[x9u v];exact k)
def Tn(p:Pg):XI p=false↔XF p.B=false/\XF (procsN p)=false/\(UI p mainS).2=true/\(UI p mainS).1.C.length=0:=by
 unfold XI UI;have h:(procsN p).any (fun s=>mainS==s)=(p.A.find? fun f=>f.name==mainS).isSome:=by
  unfold procsN;rw[z2c,List.find?_isSome,List.any_map,z0g];simp only[Function.comp,z2d];exact⟨fun⟨x,a,b⟩=>⟨x,a,b.symm⟩,fun⟨x,a,b⟩=>⟨x,a,b.symm⟩⟩
 have k:(p.A.find? fun f=>mainS==f.name)=p.A.find? fun f=>f.name==mainS:=by
  congr 1;funext f;exact Bool.beq_comm
 rw[h,k];cases p.A.find? fun f=>f.name==mainS with
 |none=>simp
 |some f=>simp
theorem SG{p:Pg}(k:Fit p){f:Pr}(h:f∈p.A):f.C.length<=21000/\f.E.length<=21000/\f.fin.length<=21000/\p.B.length<=21000:=by
 have m:=k.pr h;have s:=YA f.E;have t:=YA f.fin;have u:=YA p.B;have q:wPg p<=21000:=k;have v:f.C.length<=q3c f.C:=by
  generalize f.C=l;induction l with
  |nil=>exact x8i _
  | cons a r w=>
    rw[q3c,x9f];omega
 unfold wPr at m;unfold wPg at q;omega
theorem Wh(p:Pg)(hf:Fit p):SpecP prog 173 [.agg p.cells] (fun r=>fltR ((QC p).1=0) r):=by
 refine sC MS func173 ?_;conv=>whnf
 have hM:=GQ p;cases R:YV p with
 | false=>
   rw[R]at hM;repeat' ((first|(refine gX ?_;intros)|refine cP hM ?_|refine cP (QA 1 0) ?_|(apply bN<;>intro _))<;>conv=>whnf)
   all_goals first
    |(exfalso;simp_all;done)
    | (refine ZW ⟨fun h=>by omega,fun h=>?_⟩
       have:=(WV h).1;rw[R]at this;cases this)
 | true =>
   rw[R]at hM;obtain⟨hg,hpl,hcn⟩:=ZM R;rw[Gn R,Tn];have hpll:(p.A.map fun f=>AV.agg f.cells).length=p.A.length:=x8b _;repeat' ((first|(refine iM fun _=>?_)|refine cP hM ?_|(apply bN<;>intro _))<;>conv=>whnf)
   all_goals first
    |(exfalso;simp_all;done)
    |skip
   refine lJ (fun x:Nat×List Str=>⟨[(1,.p (.ip p.cells)),(2,.ptr 1 0),(3,.hd 0 0 x.2.length),(19,.p (.sl (p.A.map fun f=>.agg f.cells))),(20,.p (.int .i64 (p.A.map fun f=>AV.agg f.cells).length)),(21,.j x.1)],[(0,.own 9 1 (x.2.map .str)),(1,.obj 68 [.p (.int .i64 0),.j 0])]⟩) (fun x=>x.1<=p.A.length/\x.2=(procsN p).take x.1) (fun x=>p.A.length-x.1) (0,[]) (lM [(0,.own 9 1 [])]) ⟨x8i _,by simp⟩ ?_;rintro⟨j,F⟩ ⟨h2,z⟩;simp only at h2 z⊢;have hpn:(procsN p).length=p.A.length:=by simp[procsN]
   rcases x8o j p.A.length with Q|Q
   ·have e1:(procsN p).take (j+1)=F++[p.A[j].name]:=by
     rw[x9v (by omega),<-z];simp[procsN]
    have hal:F.length<=16:=by rw[z,x9s];omega
    conv=>whnf
    repeat' ((first|(refine gX ?_;intros)|refine pS ?_|(apply bD<;>intro _<;>try omega))<;>conv=>whnf)
    all_goals exact⟨(j+1,F++[p.A[j].name]),⟨by simp only;omega,by simp only;rw[e1]⟩,by simp only;omega,Le.of_eq (by simp only[x8m,x8a];rfl)⟩
   rw[x9u (by omega)]at z;subst z;have hN:=WF p mainS;have hmq:∀q:Prop,((UI p mainS).2=true/\(UI p mainS).1.C.length=0/\q)->q:=fun q h=>h.2.2;have Z:=ZF p.B;have hT2:=ZF (procsN p);generalize(UI p mainS).2=mk at*
   generalize(UI p mainS).1=mf at*
   have hmfl:(mf.C.map fun a=>AV.agg a.cells).length=mf.C.length:=x8b _;conv=>whnf
   repeat' ((first|(refine gX ?_;intros)|refine cP hN ?_|refine cP Z ?_|(refine QH hT2 (.cons (.hd rfl (by simp)) .nil) (by rintro _ rfl;rfl) ?_;rintro _ rfl)|refine cP (QA 5 0) ?_|((first|apply bD|apply bN|apply bB)<;>intro _<;>try omega))<;>conv=>whnf)
   all_goals first
    | (refine ZW ⟨fun h=>by omega,fun⟨⟨T,N,V,O⟩,h8⟩=>?_⟩
       exfalso;simp_all
       done)
    | (refine ZW ⟨fun h=>by omega,fun⟨⟨T,N,V,O⟩,h8⟩=>?_⟩
       omega)
    |skip
   have G1:XF p.B=false:=by assumption
   have G2:XF (procsN p)=false:=by assumption
   have G3:mk=true:=by assumption
   have G4:mf.C.length=0:=by omega
   have d:(((XF p.B=false/\XF (procsN p)=false/\mk=true/\mf.C.length=0)/\∀f∈p.A,ScopeOK p f) ↔ ∀f∈p.A,ScopeOK p f):=⟨fun h=>h.2,fun h=>⟨⟨G1,G2,G3,G4⟩,h⟩⟩;rw[d];clear d Z hT2 hN hmq G1 G2 G3 G4;refine lI (fun j:Nat=>⟨[(1,.p (.ip p.cells)),(2,.ptr 1 0),(3,.hd 0 0 (procsN p).length),(55,.p (.sl (p.A.map fun f=>.agg f.cells))),(56,.p (.int .i64 (p.A.map fun f=>AV.agg f.cells).length)),(57,.j j)],[(0,.own 9 1 ((procsN p).map .str)),(1,.obj 68 [.p (.int .i64 0),.j 0])]⟩) (fun j=>j<=p.A.length/\∀f∈p.A.take j,ScopeOK p f) (fun j=>p.A.length-j) 0 ⟨x8i _,fun f h=>by rw[z3q]at h;cases h⟩ ?_;rintro j ⟨h2,z⟩;rcases x8o j p.A.length with Q|Q;rotate_left 1
   ·rw[x9u Q]at z;conv=>whnf
    repeat' ((first|refine x9p rfl ?_|(apply bD<;>intro _<;>try omega))<;>conv=>whnf)
    exact ZW ⟨fun _=>z,fun _=>rfl⟩
   have u:=x9w Q;obtain⟨w1,w2,w3,w4⟩:=SG hf u;have hwp:=hf.pr u;have hPm:=Xu p.A[j] (by omega);have hF:=XA p.A[j];have k:(VC p.A[j]).map RI.s=flL p.A[j].body:=by rw[DU R u];exact Vw 1 0 false _
   have hrl:=HR p.A[j];have G:∀x∈VC p.A[j],x.s.args.length<=21000:=fun x y=>by
    have c:x.s∈flL p.A[j].body:=by
     rw[<-k];exact x8c.2 ⟨_,y,rfl⟩
    have T:=Yy _ _ c;have N:=Ht x.s;have V:=JV x.s.args;unfold wPr at hwp;omega
   have H:allV p p.A[j]=p.B++((p.A[j].C.map Param.name)++p.A[j].E):=rfl;have hT:=ZF (allV p p.A[j]);rw[H]at hT;have hnd:=WK (l:=allV p p.A[j]);rw[H]at hnd;have g:¬ScopeOK p p.A[j]->¬∀f∈p.A,ScopeOK p f:=fun h h2=>h (h2 _ u);have J:ScopeOK p p.A[j]->∀f∈p.A.take (j+1),ScopeOK p f:=fun h f hfq=>by
    rcases(QS Q).1 hfq with T|rfl
    ·exact z f T
    ·exact h
   have L:((p.B++((p.A[j].C.map Param.name)++p.A[j].E)).Nodup/\∀x∈VC p.A[j],knownB p p.A[j] (procsN p) x.s=true)↔ScopeOK p p.A[j]:=by
    constructor
    ·rintro⟨a,b⟩;exact⟨a,fun t ht=>by
      rw[<-k]at ht;obtain⟨x,y,rfl⟩:=x8c.1 ht;exact b x y⟩
    ·rintro⟨a,b⟩;exact⟨a,fun x y=>b _ (by rw[<-k];exact x8c.2 ⟨x,y,rfl⟩)⟩
   have hkd:=fun v=>Uu p p.A[j] v;have hkn:∀t:S,knownB p p.A[j] (procsN p) t=((ZU t).all (fun n=> !(GY p p.A[j] n==0))&&(decide (t.kind≠4)||(!(t.D==mainS)&&inS (procsN p) t.D))):=fun t=>by rw[Fs];rfl
   clear H hwp k u;generalize VC p.A[j]=its at*
   generalize ScopeOK p p.A[j]=SK at*
   have hil:=FX its;rw[show eStrs (p.B++((p.A[j].C.map Param.name)++p.A[j].E))=AV.sl (p.B.map .str++(p.A[j].C.map Param.name).map .str++p.A[j].E.map .str) by unfold eStrs;rw[x8a,x8a,x9l]]at hT;conv=>whnf
   repeat' ((first|(refine iM fun _=>?_)|refine dA ?_|refine x9p rfl ?_|refine aD ?_|(refine iA fun _=>?_)|refine cP hPm ?_|refine z4w (fun x y=>by cases y) rfl ?_|refine ZT _ (by simp) (by simp;omega) ?_|(refine QH hT (.cons (.hd rfl (by simp<;>omega)) .nil) (by rintro _ rfl;rfl) ?_;rintro _ rfl)|refine cP (QA 5 0) ?_|refine cP hF ?_|((first|apply bD|apply bB)<;>intro _<;>try omega))<;>conv=>whnf)
   all_goals first
    | (refine ZW ⟨fun h=>by omega,fun Y=>absurd Y (g fun hS=>?_)⟩
       have:=hnd.2 (L.2 hS).1;simp_all
       done)
    |skip
   have hND:=hnd.1 (by assumption);have I:∀x∈its,knownB p p.A[j] (procsN p) x.s=false->¬∀f∈p.A,ScopeOK p f:=fun x y h=>g fun hS=>by
    have:=(L.2 hS).2 x y;rw[this]at h;cases h
   clear hT hnd;refine lI (fun m:Nat=>⟨[(1,.p (.ip p.cells)),(2,.ptr 1 0),(3,.hd 0 0 (procsN p).length),(9,.p (.ip p.A[j].cells)),(55,.p (.sl (p.A.map fun f=>.agg f.cells))),(56,.p (.int .i64 (p.A.map fun f=>AV.agg f.cells).length)),(57,.j j),(74,.p (Ml its)),(75,.p (.int .i64 (its.map fun i=>AV.agg i.cells).length)),(76,.j m)],[(0,.own 9 1 ((procsN p).map .str)),(1,.obj 68 [.p (.int .i64 0),.j 0])]⟩) (fun m=>m<=its.length/\∀x∈its.take m,knownB p p.A[j] (procsN p) x.s=true) (fun m=>its.length-m) 0 ⟨x8i _,fun x h=>by rw[z3q]at h;cases h⟩ ?_;rintro m ⟨T,N⟩;rcases x8o m its.length with w|w;rotate_left 1
   ·rw[x9u w]at N;conv=>whnf
    repeat' ((first|refine wI ?_|(apply bD<;>intro _<;>try omega))<;>conv=>whnf)
    exact nX (j+1) ⟨by omega,J (L.1 ⟨hND,N⟩)⟩
   have hna:=G _ (x9w w);have hSd:=FP its[m].s hna;have hB:=I _ (x9w w);have M:knownB p p.A[j] (procsN p) its[m].s=true->∀x∈its.take (m+1),knownB p p.A[j] (procsN p) x.s=true:=fun h x y=>by
    rcases(QS w).1 y with V|rfl
    ·exact N x V
    ·exact h
   rw[hkn]at hB M;have hIn:=QE (procsN p) its[m].s.D;generalize ZU its[m].s=vs at*
   have hvl:(vs.map AV.str).length=vs.length:=x8b _;conv=>whnf
   repeat' ((first|(refine gX ?_;intros)|refine cP hSd ?_|(apply bD<;>intro _<;>try omega))<;>conv=>whnf)
   refine lI (fun q:Nat=>⟨[(1,.p (.ip p.cells)),(2,.ptr 1 0),(3,.hd 0 0 (procsN p).length),(9,.p (.ip p.A[j].cells)),(11,.p (.ip its[m].cells)),(55,.p (.sl (p.A.map fun f=>.agg f.cells))),(56,.p (.int .i64 (p.A.map fun f=>AV.agg f.cells).length)),(57,.j j),(74,.p (Ml its)),(75,.p (.int .i64 (its.map fun i=>AV.agg i.cells).length)),(76,.j m),(82,.p (eStrs vs)),(83,.p (.int .i64 (vs.map AV.str).length)),(84,.j q)],[(0,.own 9 1 ((procsN p).map .str)),(1,.obj 68 [.p (.int .i64 0),.j 0])]⟩) (fun q=>q<=vs.length/\(vs.drop q).all (fun n=> !(GY p p.A[j] n==0))=vs.all fun n=> !(GY p p.A[j] n==0)) (fun q=>vs.length-q) 0 ⟨x8i _,rfl⟩ ?_;rintro q ⟨V,O⟩;rcases x8o q vs.length with hq|hq
   ·have hK:=hkd vs[q];conv=>whnf
    repeat' ((first|(refine gX ?_;intros)|refine cP hK ?_|refine cP (QA 5 _) ?_|(apply bD<;>intro _<;>try omega))<;>conv=>whnf)
    all_goals first
     | (refine ZW ⟨fun h=>by omega,fun Y=>absurd Y (hB ?_)⟩
        have K:GY p p.A[j] vs[q]=0:=by assumption
        have e:=Z6 (p:=fun n=> !(GY p p.A[j] n==0)) hq (by rw[K];rfl);rw[<-O,e];rfl)
     | (have K:¬GY p p.A[j] vs[q]=0:=by assumption
        exact nX (q+1) ⟨by omega,by rw[<-O,GI (p:=fun n=> !(GY p p.A[j] n==0)) hq (by simpa using K)]⟩)
   ·rw [GE hq]at O;rw[<-O,z3l]at hB M;conv=>whnf
    repeat' ((first|refine gX ?_|(refine QH hIn (.cons (.hd rfl (by simp)) (.cons (.p (Sub.refl _)) .nil)) (by rintro _ rfl;rfl) ?_;rintro _ rfl)|refine cP (QA 5 _) ?_|((first|apply bD|apply bN|apply bB)<;>intro _<;>try omega))<;>conv=>whnf)
    all_goals
     have c:(its[m].s.D==mainS)=(its[m].s.D==[109,97,105,110]):=rfl
    all_goals first
     | (refine ZW ⟨fun h=>by omega,fun Y=>absurd Y (hB ?_)⟩
        rw[c];simp_all
        done)
     | (refine nX (m+1) ⟨by omega,M ?_⟩
        rw[c];simp_all
        done)
def Ld(L:List RI)(f:Pr)(x:RI):Bool:=if x.s.kind=7\/x.s.kind=8 then(Re L.reverse x.s.id).2 else if x.s.kind=10 then inS (Kn f) x.s.name else true
def q9k(f:Pr)(n:Str):(atB f n).2=inS (Kn f) n:=by
 rw[z2c,VV];unfold atB Kn;rw[x8e,z0j];cases r:(flL f.body).find? fun t=>t.F.any fun s=>n==s with
 | some t=>
   have m:=z1a r;have q:=z3k r;obtain⟨s,u,k⟩:=z0g.1 q;have k:n=s:=eq_of_beq k;exact⟨fun _=>.inl ⟨t,m,k▸u⟩,fun _=>rfl⟩
 | none=>
   have m:=z2m.1 r;have q:¬∃a∈flL f.body,n∈a.F:=fun⟨t,y,w⟩=>m t y (z0g.2 ⟨n,w,z0d n⟩);cases v:f.fin.any fun s=>n==s with
   | true=>
     obtain⟨s,u,k⟩:=z0g.1 v;have k:n=s:=eq_of_beq k;exact⟨fun _=>.inr (k▸u),fun _=>rfl⟩
   | false=>
     refine⟨fun h=>by simp at h,fun h=>?_⟩;rcases h with h|h
     .exact absurd h q
     .have:=z3y.1 v n h;simp at this
def A9{p:Pg}(h:YV p=true){f:Pr}(v:p.A[j]?=some f):BW p j f↔(∀x∈flatU f,Ld (flatU f) f x=true)/\(Kn f).Nodup:=by
 have key:∀it∈itsOf p j f,∀x∈flatU f,x.s=it.s->Ld (flatU f) f x=UW f it:=fun it k x m q=>by
  unfold Ld UW;rw[q,Tu h v k,q9k];congr 1;by_cases t:it.loop=0<;>simp[t]
 unfold BW;refine and_congr_left fun _=>⟨fun r x m=>?_,fun r it k=>?_⟩
 .have u:x.s∈flL f.body:=by
   rw[<-show(flatU f).map RI.s=flL f.body from Vw 1 0 false f.body];exact x8c.2 ⟨x,m,rfl⟩
  obtain⟨it,k,q⟩:=q7w (p:=p) (j:=j) u;rw[key it k x m q.symm];exact r it k
 .obtain ⟨x,m,q⟩:=q1w (YP k);rw[<-key it k x m q];exact r x m
def Ik(f:Pr):Kn f=(flatU f).flatMap (fun x=>x.s.F)++f.fin:=by
 unfold Kn;rw[<-show(flatU f).map RI.s=flL f.body from Vw 1 0 false f.body,List.flatMap_map]
theorem Wp(p:Pg)(hf:Fit p)(K:YV p=true):SpecP prog 175 [.agg p.cells] (fun r=>fltR (∀j f,p.A[j]?=some f->BW p j f) r):=by
 refine sC MO func175 ?_;conv=>whnf
 obtain⟨hg,hpl,hcn⟩:=ZM K;have hpll:(p.A.map fun f=>AV.agg f.cells).length=p.A.length:=x8b _;repeat' ((refine iM fun _=>?_)<;>conv=>whnf)
 refine lI (fun j:Nat=>⟨[(2,.ptr 1 0),(13,.p (.sl (p.A.map fun f=>.agg f.cells))),(14,.p (.int .i64 (p.A.map fun f=>AV.agg f.cells).length)),(15,.j j)],[(1,.obj 68 [.p (.int .i64 0),.j 0])]⟩) (fun j=>j<=p.A.length/\∀k f,k<j->p.A[k]?=some f->BW p k f) (fun j=>p.A.length-j) 0 ⟨x8i _,fun k f h=>absurd h (z4f _)⟩ ?_;rintro j ⟨h2,h3⟩;rcases x8o j p.A.length with hj|hj;rotate_left 1
 ·conv=>whnf
  repeat' ((first|refine x9p rfl ?_|(apply bD<;>intro _<;>try omega))<;>conv=>whnf)
  exact ZW ⟨fun _ k f w=>h3 k f (by have:=(x8t.1 w).1;omega) w,fun _=>rfl⟩
 have q:=x9w hj;obtain⟨w1,w2,w3,w4⟩:=SG hf q;have hwp:=hf.pr q;have v:p.A[j]?=some p.A[j]:=x8p hj;have hF:=XA p.A[j];rw[DU K q]at hF;have hrl:(flatU p.A[j]).length<=200:=by rw[show flatU p.A[j]=fuL 1 0 false p.A[j].body from rfl,DH];have:=Zx _ _ q;omega
 have z:∀x∈flatU p.A[j],x.s.F.length<=21000:=fun x hx=>by
  have hmm:x.s∈flL p.A[j].body:=by
   rw[<-show(flatU p.A[j]).map RI.s=flL p.A[j].body from Vw 1 0 false _];exact x8c.2 ⟨_,hx,rfl⟩
  have C:=Yy _ _ hmm;have E:=Ht x.s;have h6:=YA x.s.F;unfold wPr at hwp;omega
 have G:=Xv p.A[j] (by rw[DU K q];exact z) w3;rw[DU K q,<-Ik]at G;have t:¬BW p j p.A[j]->¬∀j f,p.A[j]?=some f->BW p j f:=fun h h2=>h (h2 j _ v);have u:BW p j p.A[j]->∀k f,k<j+1->p.A[k]?=some f->BW p k f:=fun h k f w g=>by
  rcases x8o k j with C|C
  ·exact h3 k f C g
  ·obtain rfl:k=j:=by omega
   rw[v]at g;exact z0y g▸h
 rw[A9 K v]at t u;have J:=Ik p.A[j];have hld:∀x,Ld (flatU p.A[j]) p.A[j] x=if x.s.kind=7\/x.s.kind=8 then(Re (flatU p.A[j]).reverse x.s.id).2 else if x.s.kind=10 then inS (Kn p.A[j]) x.s.name else true:=fun x=>rfl;have T:=fun id=>Xx (flatU p.A[j]) id;have Y:=fun x=>QE (Kn p.A[j]) x;generalize Ld (flatU p.A[j]) p.A[j]=ld at*
 generalize flatU p.A[j]=L at*
 generalize Kn p.A[j]=LB at*
 have hLl:=FX L;conv=>whnf
 repeat' ((first|(refine gX ?_;intros)|refine cP hF ?_|(apply bD<;>intro _<;>try omega))<;>conv=>whnf)
 refine lJ (fun x:Nat×List Str=>⟨[(2,.ptr 1 0),(4,.p (.ip p.A[j].cells)),(5,.hd 0 0 x.2.length),(6,.p (Ml L)),(13,.p (.sl (p.A.map fun f=>.agg f.cells))),(14,.p (.int .i64 (p.A.map fun f=>AV.agg f.cells).length)),(15,.j j),(21,.p (Ml L)),(22,.p (.int .i64 (L.map fun i=>AV.agg i.cells).length)),(23,.j x.1)],[(0,.own 9 1 (x.2.map .str)),(1,.obj 68 [.p (.int .i64 0),.j 0])]⟩) (fun x=>x.1<=L.length/\x.2=(L.take x.1).flatMap (fun x=>x.s.F)/\x.2.length<=21000*x.1/\x.2.Nodup/\∀y∈L.take x.1,ld y=true) (fun x=>L.length-x.1) (0,[]) (lM [(0,.own 9 1 [])]) ⟨x8i _,by simp,by simp,by simp,fun y h=>by rw[z3q]at h;cases h⟩ ?_;rintro⟨k,m⟩ ⟨C,E,h6,h7,N⟩;simp only at C E h6 h7 N⊢;rcases x8o k L.length with w|w
 ·have hlk:=z _ (x9w w);have Q:(L.take (k+1)).flatMap (fun x=>x.s.F)=m++L[k].s.F:=by rw[x9v w,z3t,<-E];simp
  have hT:=ZF (m++L[k].s.F);have R:=T L[k].s.id;have V:=Y L[k].s.name;have b:=hld L[k];have c:LB.Nodup->(m++L[k].s.F).Nodup:=fun h=>by
   rw[J,<-z3e (k+1) L,z3t,Q,x9l]at h;exact(z0a.1 h).1
  have B:∀{d:Int}{H:Heap},(ld L[k]=false\/XF (m++L[k].s.F)=true)->RetK H (.p (.agg [.int .i64 7,.int .i64 d])) (fun r=>fltR (∀j f,p.A[j]?=some f->BW p j f) r):=fun h=>by
   refine ZW ⟨fun h=>by omega,fun Z=>absurd Z (t fun⟨O,e⟩=>?_)⟩;rcases h with h|h
   ·rw[O _ (x9w w)]at h;cases h
   ·rw[WK.2 (c e)]at h;cases h
  have M:ld L[k]=true->∀y∈L.take (k+1),ld y=true:=fun h y hy=>by
   rcases(QS w).1 hy with O|rfl
   ·exact N y O
   ·exact h
  rw[<-WK]at c;rw[show eStrs (m++L[k].s.F)=AV.sl (m.map .str++L[k].s.F.map .str) by unfold eStrs;rw[x8a]]at hT;generalize I:m++L[k].s.F=al at hT B Q;have hall:al.length=m.length+L[k].s.F.length:=by rw[<-I];simp
  generalize(Re L.reverse L[k].s.id).2=ar at*
  conv=>whnf
  repeat' ((first|refine dA ?_|(refine gX ?_;intros)|refine ZT _ (by simp) (by simp;omega) ?_|(refine QH hT (.cons (.hd rfl (by simp)) .nil) (by rintro _ rfl;rfl) ?_;rintro _ rfl)|refine cP R ?_|refine cP G ?_|refine cP V ?_|refine cP (QA 7 _) ?_|((first|apply bD|apply bN|apply bB)<;>intro _<;>try omega))<;>conv=>whnf)
  all_goals first
   |exact B (.inr (by assumption))
   | (refine B (.inl ?_)
      rw[b];simp_all
      done)
   | (refine⟨(k+1,al),⟨by simp only;omega,by simp only;rw[Q],by simp only;omega,WK.1 (by assumption),M ?_⟩,by simp only;omega,Le.of_eq (by subst I;simp only[x8m,x8a,x8b];rfl)⟩
      rw[b];simp_all
      done)
 ·rw [x9u w]at E N;have e2:LB=m++p.A[j].fin:=by rw[J,<-E]
  have hT:=ZF (m++p.A[j].fin);rw[show eStrs (m++p.A[j].fin)=AV.sl (m.map .str++p.A[j].fin.map .str) by unfold eStrs;rw[x8a]]at hT;conv=>whnf
  repeat' ((first|refine gX ?_|refine ZT _ (by simp) (by simp;omega) ?_|(refine QH hT (.cons (.hd rfl (by simp)) .nil) (by rintro _ rfl;rfl) ?_;rintro _ rfl)|refine cP (QA 7 0) ?_|((first|apply bD|apply bB)<;>intro _<;>try omega))<;>conv=>whnf)
  all_goals first
   | (refine ZW ⟨fun h=>by omega,fun Z=>absurd Z (t fun⟨O,e⟩=>?_)⟩
      rw[e2,<-WK]at e;simp_all
      done)
   | (refine nX (j+1) ⟨by omega,u ⟨N,?_⟩⟩
      rw[e2,<-WK];assumption)
theorem fltR.yes{r:AV}(h:fltR P r)(m:P):∃d,r=PR 0 d:=by
 obtain⟨c,d,rfl,h⟩:=h;rw[h.2 m];exact⟨d,rfl⟩
theorem fltR.no{r:AV}(h:fltR P r)(m:¬P):∃c d,c≠0/\r=PR c d:=by
 obtain⟨c,d,rfl,h⟩:=h;exact⟨c,d,fun e=>m (h.1 e),rfl⟩
theorem Yn(p:Pg)(y:Fit p):SpecP prog 104 [.agg p.cells] (fun r=>fltR (QP p=true) r):=by
 refine sC Z3 func104 ?_;conv=>whnf
 have s:=Wh p y;by_cases m:(QC p).1=0;rotate_left 1
 ·have s:=s.mono fun r h=>h.no m;have k:¬QP p=true:=fun h=>m (Bj.1 h).2.1;repeat' ((first|refine x9p rfl ?_|(refine CallK.pure s (.cons (Sub.refl _) .nil) ?_;rintro _ ⟨c,d,u,rfl⟩)|(apply bD<;>intro _<;>try omega))<;>conv=>whnf)
  all_goals first
   |(exfalso;omega)
   |exact ZW ⟨fun h=>absurd h u,fun h=>absurd h k⟩
 have s:=s.mono fun r h=>h.yes m;have z:=(WV m).1;have q:=Wd p z;rw[<-Ja m]at q;by_cases ha:(VO p).1=0;rotate_left 1
 ·have q:=q.mono fun r h=>h.no ha;have k:¬QP p=true:=fun h=>ha (Bj.1 h).2.2.1;repeat' ((first|refine x9p rfl ?_|(refine CallK.pure s (.cons (Sub.refl _) .nil) ?_;rintro _ ⟨d0,rfl⟩)|(refine CallK.pure q (.cons (Sub.refl _) .nil) ?_;rintro _ ⟨c,d,u,rfl⟩)|(apply bD<;>intro _<;>try omega))<;>conv=>whnf)
  all_goals first
   |(exfalso;omega)
   |exact ZW ⟨fun h=>absurd h u,fun h=>absurd h k⟩
 have q:=q.mono fun r h=>h.yes ha;have t:=Wp p y z;rw[<-q1a m]at t;by_cases w:(LW p).1=0;rotate_left 1
 ·have t:=t.mono fun r h=>h.no w;have k:¬QP p=true:=fun h=>w (Bj.1 h).2.2.2.1;repeat' ((first|refine x9p rfl ?_|(refine CallK.pure s (.cons (Sub.refl _) .nil) ?_;rintro _ ⟨d0,rfl⟩)|(refine CallK.pure q (.cons (Sub.refl _) .nil) ?_;rintro _ ⟨d1,rfl⟩)|(refine CallK.pure t (.cons (Sub.refl _) .nil) ?_;rintro _ ⟨c,d,u,rfl⟩)|(apply bD<;>intro _<;>try omega))<;>conv=>whnf)
  all_goals first
   |(exfalso;omega)
   |exact ZW ⟨fun h=>absurd h u,fun h=>absurd h k⟩
 have t:=t.mono fun r h=>h.yes w;have hT:=NL p y m ((Ja m).1 ha);rw[<-Ex ha]at hT;have v:QP p=true↔(HB p).1=0:=by
  rw[Bj];exact⟨fun h=>h.2.2.2.2,fun h=>⟨z,m,ha,w,h⟩⟩
 repeat' ((first|refine x9p rfl ?_|(refine CallK.pure s (.cons (Sub.refl _) .nil) ?_;rintro _ ⟨d0,rfl⟩)|(refine CallK.pure q (.cons (Sub.refl _) .nil) ?_;rintro _ ⟨d1,rfl⟩)|(refine CallK.pure t (.cons (Sub.refl _) .nil) ?_;rintro _ ⟨d2,rfl⟩)|(refine CallK.pure hT (.cons (Sub.refl _) .nil) ?_;rintro _ ⟨c,d,rfl,u⟩)|(apply bD<;>intro _<;>try omega))<;>conv=>whnf)
 all_goals first
  |(exfalso;omega)
  |exact ZW (u.trans v.symm)
def Wg(p:Pg)(k:Fit p):aP 49 [.agg p.cells] (.bool (QP p)):=by
 refine sC MT func49 ?_;conv=>whnf
 repeat' ((refine CallK.pure (Yn p k) (.cons (Sub.refl _) .nil) ?_;rintro _ ⟨c,d,rfl,h⟩)<;>conv=>whnf)
 all_goals
  refine RetK.bool ?_;first
  |rw[z2c,z2d];exact h
  |rw[z2c,x9o];exact h
def IS{p:Pg}{n:Str}{k:Nat}{f:Pr}(y:OI p n=some (QQ p k f))(w:p.A[k]?=some f):QP p=true/\Hn p n=(f,true):=by
 obtain⟨t,u,h,v,s,_,m⟩:=Wx y;have q:(QQ p k f).j=(QQ p t u).j:=by rw[v]
 have r:k=t:=q;subst r;rw[w]at h;obtain rfl:=z0y h;refine⟨s,?_⟩;unfold Hn UI;rw[(QU s).1,m];rfl
section
variable {p:Pg}{j:Nat}{f:Pr}{n:Str}
end
def q3e{p:Pg}(h:QP p=true){f:Pr}(s:f∈p.A):∃k,p.A[k]?=some f/\OI p f.name=some (QQ p k f):=by
 cases q:OI p f.name with
 | none=>
   exfalso;unfold OI at q;rw[h,x9z]at q;cases t:p.A.find? (fun g=>g.name==f.name)with
   | none=>
     have:=z2m.1 t _ s;simp at this
   |some g=>rw[t]at q;cases q
 | some w=>
   obtain⟨k,g,m,rfl,_,r,_⟩:=Wx q;have u:g=f:=Gz (Ke h) g (x9y m) f s r;subst u;exact⟨k,m,rfl⟩
section
variable {p:Pg}{j:Nat}{f:Pr}
end
section
variable {p:Pg}{j:Nat}{f:Pr}
end
theorem x1f{p:Pg}(h:Fit p){f:Pr}(m:f∈p.A):∀t∈flL f.body,okC t:=fun t q=>by
 have k:=h.pr m;unfold wPr at k;have u:=Yy _ _ q;have v:=Ht t;have w:=YA t.F;have y:=JV t.args;refine⟨by omega,by omega,by omega,fun a ha=>?_⟩;have key:∀(l:List Arg),a∈l->wX a.x<=Wq l:=fun l=>by
  induction l with
  |nil=>intro h;cases h
  | cons b r s=>
    intro h;rw[Wq];rcases x8s.1 h with rfl|h
    ·omega
    ·have:=s h;omega
 have:=key _ ha;omega
theorem q8b{p:Pg}(h:Fit p)(q:QP p=true):p.A.length<=1000/\p.B.length<=1000000/\∀f∈p.A,f.E.length<=1000000/\f.fin.length<=1000000/\f.C.length<=1000000/\cntL f.body<=1000000/\∀t∈flL f.body,okC t:=by
 obtain⟨r,s,u⟩:=XQ q;refine⟨by omega,by omega,fun f k=>?_⟩;have m:=h.pr k;unfold wPr at m;have v:=YA f.E;have w:=YA f.fin;have y:=Cs f.C;have z:=Mp f.body;exact⟨by omega,by omega,by omega,by omega,x1f h k⟩
def bkO(p:Pg)(O:List (List Str)):Book:=⟨sheetOf p,[],[],[],[],O⟩
def prA(p:Pg)(i:Nat):Pr:=p.A.getD i Pr0
def Y3{p:Pg}{i:Nat}(h:i<p.A.length):p.A[i]?=some (prA p i):=by
 unfold prA;rw[x8n,x8p h];rfl
def WQ{p:Pg}{i:Nat}{f:Pr}(h:p.A[i]?=some f):prA p i=f:=by
 unfold prA;rw[x8n,h];rfl
def dfB(p:Pg)(O:List (List Str)):List (List Str):=(sheetOf p).l.map fun it=>WB (FM (bkO p O) it.s)
def otA(p:Pg)(D:List (List Str))(i:Nat):List Str:=WB (Ro p i (prA p i) D (itsOf p i (prA p i)))
def otB(p:Pg)(D:List (List Str)):List (List Str):=(List.range p.A.length).map (otA p D)
def rdO(p:Pg)(O:List (List Str)):List (List Str):=otB p (dfB p O)
def itO(p:Pg):Nat->List (List Str)
 |0=>List.replicate p.A.length []
 |k+1=>rdO p (itO p k)
def FZ{l:List Str}(h:l.Pairwise ltT):l.Nodup:=List.Pairwise.imp (S:=fun a b=>a≠b) (fun {a b} (k:ltT a b)=>fun(m:a=b)=>Qa b (by rw[m]at k;exact k)) h
def Gk(l:List Str):(WB l).length<=l.length:=DS (FZ (KG l)) fun s h=>ZE.1 h
structure OkO(p:Pg)(O:List (List Str)):Prop where
 len:O.length=p.A.length
 rise:∀o∈O,o.Pairwise ltT
 sub:∀i,i<p.A.length->∀n∈O.getD i [],outB p (prA p i) n=true
def Zf{O:List (List Str)}(h:∀o∈O,o.Pairwise ltT)(i:Nat):(O.getD i []).Pairwise ltT:=by
 rw[x8n];rcases x8o i O.length with k|k
 .rw [x8p k];exact h _ (x9w k)
 .rw [z0x k];exact .nil
def Zz{p:Pg}{n:Str}:comB p n=true↔n=tapeS\/n∈p.B:=by
 unfold comB;simp only[z3x,z2d,z0g,exists_eq_right']
def Pj{p:Pg}{f:Pr}{n:Str}:outB p f n=true↔(n=tapeS\/n∈p.B)\/(⟨n,true⟩:Param)∈f.C:=by
 unfold outB;rw[z3x,Zz,x9o]
def Vm{p:Pg}(h:QP p=true)(i:Nat):(prA p i).C.length<=8:=by
 rcases x8o i p.A.length with k|k
 .exact (HE.1 (Ic (QU h).1 (x9y (Y3 k)))).1
 .unfold prA;rw[x8n,z0x k];decide
theorem OkO.len25{p:Pg}{O:List (List Str)}(t:QP p=true)(h:OkO p O)(i:Nat):(O.getD i []).length<=25:=by
 rcases x8o i p.A.length with r|r
 ·have u:=DS (m:=tapeS::p.B++(prA p i).C.map Param.name) (FZ (Zf h.rise i)) fun n v=>by
   rcases Pj.1 (h.sub i r n v)with(rfl|q)|q
   ·exact x9e _ x8l
   ·exact x9e _ (x8r _ q)
   ·exact z0w _ (x8c.2 ⟨_,q,rfl⟩)
  have q:=Vm t i;have w:=(XQ t).1;rw[x8m,x9f,x8b]at u;omega
 ·rw[x8n,z0x (by rw[h.len];exact r)];exact x8i _
def KX{p:Pg}(h:QP p=true){t:S}(g:t∈WI p)(b:t.kind=4):∃k,k<p.A.length/\caI p t=(k:Nat)/\caP p t=prA p k/\(prA p k).name=t.D/\(prA p k).C.map Param.ref=t.args.map Arg.ref:=by
 obtain⟨_,e,ha,_⟩:=QU h;have u:=(Ja e).1 ha t g b;unfold YK at u;rw[x9g]at u;have m:=u.2;cases s:p.A.find? (fun f=>f.name==t.D)with
 |none=>rw[s]at m;cases m
 | some f=>
   rw[s]at m;have d:t.D∈procsN p:=x8c.2 ⟨f,z1a s,by simpa using z3k s⟩;obtain⟨k,w,z,_,v,c⟩:=Vd d;rw[s]at v;have r:p.A[k]=f:=(z0y v).symm;have y:prA p k=f:=by rw[<-r];exact WQ (x8p w)
   have q:caI p t=(k:Nat):=z;refine⟨k,w,q,?_,?_,?_⟩
   .unfold caP;rw[q];rfl
   .rw [y,<-r];exact c
   .rw [y];unfold Gb at m;exact of_decide_eq_true m
theorem Z8{p:Pg}(h:QP p=true){t:S}(u:t∈WI p)(r:t.kind=4):t.args.length=(caP p t).C.length/\t.args.length<=8:=by
 obtain⟨k,_,_,m,_,q⟩:=KX h u r;have s:=z0l length q;rw[x8b,x8b]at s;have:=Vm h k;rw[m];omega
theorem OkO.call{p:Pg}{O:List (List Str)}(m:QP p=true)(h:OkO p O){b:Book}(w:b.s=sheetOf p)(u:b.M=O){t:S}(v:t∈WI p)(q:t.kind=4):CallOk b t:=by
 obtain⟨k,A,y,z,_⟩:=KX m v q;obtain⟨c,g⟩:=Z8 m v q;have e:b.s.p=p:=by rw[w];exact(QY p).1
 have r:caO b t=O.getD (caI p t).toNat []:=by unfold caO;rw[e,u]
 refine⟨by rw[e];omega,by rw[e];omega,by rw[e,u,h.len];exact x9h _,?_,?_,by rw[e];omega,by omega⟩
 ·rw[r];exact Zf h.rise _
 ·rw[r];have:=h.len25 m (caI p t).toNat;omega
def Ea{p:Pg}{O:List (List Str)}{b:Book}(k:b.s=sheetOf p)(h:b.M=O)(t:S):FM b t=FM (bkO p O) t:=by
 unfold FM caO bkO;rw[k,h]
theorem Bd{p:Pg}{O:List (List Str)}(k:QP p=true)(h:OkO p O){t:S}(q:t∈WI p):(FM (bkO p O) t).length<=34:=by
 unfold FM
 (repeat' split)<;>try (simp;done)
 rename_i m;have w:=Cq t (caP p t) (caO (bkO p O) t) t.args.length;have r:=(Z8 k q m).2;have s:=h.len25 k (caI p t).toNat;have u:((caO (bkO p O) t).filter (comB p)).length<=(O.getD (caI p t).toNat []).length:=z2p _ _;show((if t.name=[]then []else [t.name])++Ac t (caP p t) (caO (bkO p O) t) t.args.length++(caO (bkO p O) t).filter (comB p)).length<=34;rw[x8m,x8m];have v:(if t.name=[]then []else [t.name]).length<=1:=by split<;>simp
 omega
def T6(p:Pg)(O:List (List Str)):(dfB p O).length=(sheetOf p).l.length:=x8b _
def leO(O O':List (List Str)):Prop:=∀i n,n∈O.getD i []->n∈O'.getD i []
def MJ{t:S}{f:Pr}{O:List Str}{n:Str}:n∈Ac t f O t.args.length ↔ ∃x∈(t.args.zip f.C).take t.args.length,(x.1.ref=true/\x.2.name∈O)/\x.1.name=n:=by
 unfold Ac x2i;simp only[x8c,z0u,x9g,VV,and_assoc]
theorem Ee{p:Pg}{O:List (List Str)}(h:leO O O'){t:S}{n:Str}(k:n∈FM (bkO p O) t):n∈FM (bkO p O') t:=by
 unfold FM at k⊢
 (repeat' split at k)
 ·rw[if_pos (by assumption)];exact k
 ·rw[if_neg (by assumption),if_pos (by assumption)];exact k
 ·rw[if_neg (by assumption),if_neg (by assumption),if_pos (by assumption)];exact k
 ·rw[if_neg (by assumption),if_neg (by assumption),if_neg (by assumption),if_pos (by assumption)];unfold Mj at k⊢;rcases x8e.1 k with k|k
  ·rcases x8e.1 k with k|k
   ·exact x9e _ (x9e _ k)
   ·refine x9e _ (z0w _ ?_);obtain⟨x,m,⟨q,r⟩,s⟩:=MJ.1 k;exact MJ.2 ⟨x,m,⟨q,h _ _ r⟩,s⟩
  ·obtain⟨m,q⟩:=z0u.1 k;exact z0w _ (z0u.2 ⟨h _ _ m,q⟩)
 ·cases k
def GB{α β:Type}{f:α->List β}{l:List α}{i:Nat}{n:β}:n∈(l.map f).getD i [] ↔ ∃x,l[i]?=some x/\n∈f x:=by
 rw[x8n,x9x];cases l[i]?with
 |none=>simp
 |some x=>simp
def q0b{p:Pg}{O:List (List Str)}(h:leO O O'):leO (dfB p O) (dfB p O'):=fun i n q=>by
 obtain⟨it,k,m⟩:=GB.1 q;exact GB.2 ⟨it,k,ZE.2 (Ee h (ZE.1 m))⟩
def lvB(p:Pg)(i:Nat)(id:Int):Bool:=(QQ p i (prA p i)).live.getD (ixI p i (prA p i) id).toNat false
def q2p{p:Pg}{i:Nat}{D:List (List Str)}{n:Str}:n∈Ro p i (prA p i) D (itsOf p i (prA p i)) ↔ ∃it∈itsOf p i (prA p i),lvB p i it.s.id=true/\n∈PL D it.s.id/\outB p (prA p i) n=true:=by
 unfold Ro;rw[z0j];refine exists_congr fun it=>and_congr_right fun _=>?_;unfold x1b lvB;cases(QQ p i (prA p i)).live.getD (ixI p i (prA p i) it.s.id).toNat false with
 |false=>simp
 |true=>simp[z0u]
def Gv{p:Pg}{D:List (List Str)}{i:Nat}(m:i<p.A.length){n:Str}:n∈(otB p D).getD i [] ↔ ∃it∈itsOf p i (prA p i),lvB p i it.s.id=true/\n∈PL D it.s.id/\outB p (prA p i) n=true:=by
 unfold otB;rw[GB,<-q2p];constructor
 .rintro ⟨x,k,q⟩;rw[z1h m]at k;cases k;exact ZE.1 q
 .exact fun h=>⟨i,z1h m,ZE.2 h⟩
def q2b{p:Pg}{D q:List (List Str)}(h:leO D q):leO (otB p D) (otB p q):=fun i n r=>by
 rcases x8o i p.A.length with m|m
 .obtain ⟨it,k,s,t,u⟩:=(Gv m).1 r;exact(Gv m).2 ⟨it,k,s,h _ _ t,u⟩
 .obtain ⟨x,k,_⟩:=GB.1 r;rw[z0x (by simpa using m)]at k;cases k
def q2a{p:Pg}{O:List (List Str)}(h:leO O O'):leO (rdO p O) (rdO p O'):=q2b (q0b h)
theorem q4a(p:Pg):∀k,leO (itO p k) (itO p (k+1))
 | 0=>fun i n h=>by
   unfold itO at h;rw[x8n,z0q]at h;split at h<;>cases h
 |k+1=>q2a (q4a p k)
def q5x(p:Pg)(D:List (List Str)):OkO p (otB p D):=by
 refine⟨by unfold otB;rw[x8b,z2q],fun o q=>?_,fun i k n m=>?_⟩
 .obtain ⟨i,_,rfl⟩:=x8c.1 q;exact KG _
 .obtain ⟨it,_,_,_,h⟩:=(Gv k).1 m;exact h
def Kg(p:Pg):∀k,OkO p (itO p k)
 | 0=>by
   refine⟨by unfold itO;rw[z0b],fun o m=>?_,fun i q n h=>?_⟩
   .rw [z2g m];exact .nil
   .unfold itO at h;rw[x8n,z0q]at h;split at h<;>cases h
 |k+1=>q5x p _
def tot(O:List (List Str)):Nat:=(O.map length).sum
def q2q{a b:List Str}{O:List (List Str)}(h:leO (a::O) (b::O')):(∀n∈a,n∈b)/\leO O O':=⟨fun n k=>h 0 n k,fun i n k=>h (i+1) n k⟩
theorem q3b{a b:List Str}(ha:a.Pairwise ltT)(r:b.Pairwise ltT)(q:∀n∈a,n∈b)(u:b.length<=a.length):a=b:=by
 refine Pd Qa ltT.trans ha r fun s=>⟨q s,fun h=>?_⟩;refine z2r fun t=>?_;have:=DS (l:=s::a) (m:=b) (z0n.2 ⟨t,FZ ha⟩) fun n k=>by
  rcases x8s.1 k with rfl|k
  ·exact h
  ·exact q n k
 rw[x9f]at this;omega
theorem Ot:∀{O O':List (List Str)},O.length=O'.length->(∀o∈O,o.Pairwise ltT)->(∀o∈O',o.Pairwise ltT)->leO O O'->tot O<=tot O'/\(tot O'<=tot O->O=O')
 |[],[],_,_,_,_=>⟨x9h _,fun _=>rfl⟩
 |[],_::_,h,_,_,_=>by cases h
 |_::_,[],h,_,_,_=>by cases h
 | a::O,b::O',hl,h1,h2,h=>by
   obtain⟨m,q⟩:=q2q h;obtain⟨t,r⟩:=Ot (O:=O) (O':=O') (by simpa using hl) (fun o k=>h1 o (x8r _ k)) (fun o k=>h2 o (x8r _ k)) q;have ha:=h1 a x8l;have s:=h2 b x8l;have u:=DS (FZ ha) m;have e:∀(x:List Str)(l:List (List Str)),tot (x::l)=x.length+tot l:=fun x l=>by unfold tot;rw[x9c,sum_cons]
   rw[e,e];exact⟨by omega,fun v=>by rw[q3b ha s m (by omega),r (by omega)]⟩
theorem N2:∀{O:List (List Str)},(∀o∈O,o.length<=25)->tot O<=25*O.length
 |[],_=>x9h _
 | a::O,h=>by
   have m:=N2 (O:=O) fun o k=>h o (x8r _ k);have q:=h a x8l;have e:tot (a::O)=a.length+tot O:=by unfold tot;rw[x9c,sum_cons]
   rw[e,x9f];omega
theorem OkO.tot{p:Pg}{O:List (List Str)}(m:QP p=true)(h:OkO p O):Go.Ab.tot O<=400:=by
 have q:=N2 (O:=O) fun o t=>by
  obtain⟨i,r,rfl⟩:=z0v.1 t;have:=h.len25 m i
  rwa[x8n,x8p r]at this
 have u:=(XQ m).2.1;rw[h.len]at q;omega
def SW{p:Pg}{k:Nat}(h:itO p (k+1)≠itO p k):Go.Ab.tot (itO p k)<Go.Ab.tot (itO p (k+1)):=by
 obtain⟨r,q⟩:=Ot (O:=itO p k) (O':=itO p (k+1)) (by rw[(Kg p k).len,(Kg p (k+1)).len]) (Kg p k).rise (Kg p (k+1)).rise (q4a p k);rcases x8o (Go.Ab.tot (itO p k)) (Go.Ab.tot (itO p (k+1)))with m|m
 .exact m
 .exact absurd (q m).symm h
section
variable (p:Pg)(i:Nat)(f:Pr)(D U:List (List Str))(o:List Str)(x:Str)
def idN(a:Int):Int:=ZN p i (cntL f.body+2:Nat) a
def hitN(a:Int):Bool:=bif decide (a=(cntL f.body+2:Nat)-1)then inS o x else bif decide (0<a)then inS (PL U (idN p i f a)) x else false
def DP(a:Int):Bool:=bif decide (a=(cntL f.body+2:Nat)-1)then false else bif decide (0<a)then !inS (PL D (idN p i f a)) x else true
def netR(p:Pg)(i:Nat)(f:Pr):List (List Int):=Zs (cntL f.body+2) (HW (QQ p i f) f)
def x4k:List (Int×Int):=(HW (QQ p i f) f).filter fun t=>DP p i f D x t.1
def AC:Bool:=(BV 0 (WX (QI (cntL f.body+2) (x4k p i f D x)).1 [0])).any (hitN p i f U o x)
end
section
variable {p:Pg}{i:Nat}{f:Pr}{D U:List (List Str)}{o:List Str}{x:Str}
def nR(p:Pg)(i:Nat)(f:Pr)(D:List (List Str))(x:Str)(a b:Int):Prop:=DP p i f D x a=true/\(a,b)∈HW (QQ p i f) f
theorem MU(h:QP p=true)(q:p.A[i]?=some f):AC p i f D U o x=true ↔ ∃a,Rch (nR p i f D x) 0 a/\hitN p i f U o x a=true:=by
 unfold AC;rw[z0g];refine exists_congr fun a=>and_congr_left fun _=>?_;rw[Ku (by omega)];have e:∀a b,((a,b)∈x4k p i f D x/\WY (cntL f.body+2) b=true)↔nR p i f D x a b:=fun a b=>by
  unfold x4k nR;rw[z0u];constructor
  ·exact fun k=>⟨k.1.2,k.1.1⟩
  ·intro k;have m:=(NY h q _ k.2).2;exact⟨⟨k.2,k.1⟩,by unfold WY;simp;omega⟩
 exact⟨fun k=>k.mono fun a b m=>(e a b).1 m,fun k=>k.mono fun a b m=>(e a b).2 m⟩
def Te(h:QP p=true)(t:p.A[i]?=some f){S:Int->Prop}(m:S 0)(q:∀a,S a->hitN p i f U o x a=false)(r:∀a b,S a->nR p i f D x a b->S b):AC p i f D U o x=false:=by
 cases u:AC p i f D U o x with
 |false=>rfl
 | true=>
   obtain⟨a,s,k⟩:=(MU h t).1 u;rw[q a (Rch.closed r m s)]at k;cases k
structure NedI(p:Pg)(i:Nat)(f:Pr)(D U:List (List Str))(o:List Str)(x:Str)(n:Nat)(seen:List Bool)(todo:List Int):Prop where
 len:seen.length=n
 rng:∀a∈todo,0<=a/\a<(n:Int)
 way:∀a:Int,(a=0\/seen.getD a.toNat false=true/\0<=a)->Rch (nR p i f D x) 0 a
 td:∀a∈todo,a=0\/seen.getD a.toNat false=true/\0<=a
 done:∀a:Int,(a=0\/seen.getD a.toNat false=true/\0<=a)->a∉todo->hitN p i f U o x a=false/\∀b,nR p i f D x a b->seen.getD b.toNat false=true
structure NedJ(p:Pg)(i:Nat)(f:Pr)(D U:List (List Str))(o:List Str)(x:Str)(n:Nat)(a:Int)(k:Nat)(seen:List Bool)(todo:List Int):Prop where
 len:seen.length=n
 rng:∀a∈todo,0<=a/\a<(n:Int)
 way:∀a:Int,(a=0\/seen.getD a.toNat false=true/\0<=a)->Rch (nR p i f D x) 0 a
 td:∀a∈todo,a=0\/seen.getD a.toNat false=true/\0<=a
 me:Rch (nR p i f D x) 0 a
 done:∀b:Int,(b=0\/seen.getD b.toNat false=true/\0<=b)->b∉todo->b≠a->hitN p i f U o x b=false/\∀c,nR p i f D x b c->seen.getD c.toNat false=true
 row:∀c∈((netR p i f).getD a.toNat []).take k,seen.getD c.toNat false=true
def q8g{k:Nat}(h:(l.set k true).getD j false=true):j=k\/l.getD j false=true:=by
 rcases Nat.decEq j k with m|rfl
 .right
  rwa[x8n,z0c (z3c m),<-x8n]at h
 .exact .inl rfl
def Tk{k:Nat}(h:l.getD j false=true):(l.set k true).getD j false=true:=by
 rcases Nat.decEq j k with q|rfl
 .rwa [x8n,z0c (z3c q),<-x8n]
 .have r:j<l.length:=by
   rcases x8o j l.length with m|m
   .exact m
   .rw [x8n,z0x m]at h;cases h
  rw[x8n,z1m r];rfl
def q5u{k:Nat}(h:k<l.length):(l.set k true).getD k false=true:=by
 rw[x8n,z1m h];rfl
variable {n:Nat}{seen:List Bool}{todo:List Int}{a:Int}
theorem NedI.start(n:Nat)(q:0<n):NedI p i f D U o x n (List.replicate n false) [0]:=by
 have m:∀k:Nat,(List.replicate n false).getD k false=true->False:=fun k h=>by
  rw[x8n,z0q]at h;split at h<;>cases h
 refine⟨z0b,fun a ha=>by rw[x9q.1 ha];omega,fun a ha=>?_,fun a ha=>.inl (x9q.1 ha),fun a ha q=>?_⟩
 ·rcases ha with rfl|⟨h,_⟩
  ·exact .refl
  ·exact(m _ h).elim
 ·rcases ha with rfl|⟨h,_⟩
  ·exact absurd (x9q.2 rfl) q
  ·exact(m _ h).elim
theorem NedI.stop(h:QP p=true)(r:p.A[i]?=some f)(m:NedI p i f D U o x n seen []):AC p i f D U o x=false:=by
 refine Te h r (S:=fun a=>a=0\/seen.getD a.toNat false=true/\0<=a) (.inl rfl) (fun a ha=>(m.done a ha (by simp)).1) fun a b ha q=>?_;have t:=(m.done a ha (by simp)).2 b q;have u:=(NY h r _ q.2).2;exact .inr ⟨t,u.1⟩
theorem NedI.skip(m:NedI p i f D U o x n seen (todo++[a]))(v:hitN p i f U o x a=false)(t:DP p i f D x a=false):NedI p i f D U o x n seen todo:=by
 refine⟨m.len,fun b q=>m.rng b (x9e _ q),m.way,fun b q=>m.td b (x9e _ q),fun b q y=>?_⟩;by_cases u:b=a
 .subst u;exact⟨v,fun c w=>by rw[w.1]at t;cases t⟩
 .exact m.done b q fun r=>(x8e.1 r).elim y fun r=>u (x9q.1 r)
theorem NedI.open(m:NedI p i f D U o x n seen (todo++[a])):NedJ p i f D U o x n a 0 seen todo:=
 ⟨m.len,fun b q=>m.rng b (x9e _ q),m.way,fun b q=>m.td b (x9e _ q),m.way a (m.td a (z0w _ (x9q.2 rfl))),
   fun b q v u=>m.done b q fun r=>(x8e.1 r).elim v fun r=>u (x9q.1 r),fun c t=>by rw[z3q]at t;cases t⟩
theorem NedJ.shut(h:QP p=true)(u:p.A[i]?=some f){k:Nat}(m:NedJ p i f D U o x n a k seen todo)(y:((netR p i f).getD a.toNat []).length<=k)(v:hitN p i f U o x a=false):NedI p i f D U o x n seen todo:=by
 refine⟨m.len,m.rng,m.way,m.td,fun b w z=>?_⟩;by_cases r:b=a
 ·subst r;refine⟨v,fun c q=>m.row c ?_⟩;rw[x9u y];exact(G9 fun t e=>(NY h u t e).1).2 ⟨(b,c),q.2,by have:=(NY h u _ q.2).1;simp only at this⊢;omega,rfl⟩
 ·exact m.done b w z r
theorem NedJ.old{k:Nat}(m:NedJ p i f D U o x n a k seen todo)(t:k<((netR p i f).getD a.toNat []).length)(u:seen.getD (((netR p i f).getD a.toNat [])[k]).toNat false=true):NedJ p i f D U o x n a (k+1) seen todo:=by
 refine⟨m.len,m.rng,m.way,m.td,m.me,m.done,fun c r=>?_⟩;rcases(QS t).1 r with q|rfl
 .exact m.row c q
 .exact u
theorem NedJ.new{k:Nat}(r:NedJ p i f D U o x n a k seen todo)(C:k<((netR p i f).getD a.toNat []).length){c:Int}(g:c=((netR p i f).getD a.toNat [])[k])(z:0<=c/\c<(n:Int))(e:nR p i f D x a c):NedJ p i f D U o x n a (k+1) (seen.set c.toNat true) (todo++[c]):=by
 have w:c.toNat<seen.length:=by rw[r.len];omega
 have u:∀b:Int,(b=0\/(seen.set c.toNat true).getD b.toNat false=true/\0<=b)->b=c\/(b=0\/seen.getD b.toNat false=true/\0<=b):=fun b q=>by
  rcases q with m|⟨m,t⟩
  ·exact .inr (.inl m)
  ·rcases q8g m with v|v
   ·exact .inl (by omega)
   ·exact .inr (.inr ⟨v,t⟩)
 refine⟨by rw[z0h];exact r.len,fun b q=>?_,fun b q=>?_,fun b q=>?_,r.me,fun b q y B=>?_,fun b q=>?_⟩
 ·rcases x8e.1 q with m|m
  ·exact r.rng b m
  ·rw[x9q.1 m];exact z
 ·rcases u b q with rfl|m
  ·exact .tail r.me e
  ·exact r.way b m
 ·rcases x8e.1 q with m|m
  ·rcases r.td b m with t|t
   ·exact .inl t
   ·exact .inr ⟨Tk t.1,t.2⟩
  ·rw[x9q.1 m];exact .inr ⟨q5u w,z.1⟩
 ·rcases u b q with rfl|m
  ·exact absurd (z0w _ (x9q.2 rfl)) y
  ·obtain⟨t,v⟩:=r.done b m (fun h=>y (x9e _ h)) B;exact⟨t,fun d A=>Tk (v d A)⟩
 ·rcases(QS C).1 q with m|m
  ·exact Tk (r.row b m)
  ·rw[m,<-g];exact q5u w
end
def Se(p:Pg)(i:Nat)(f:Pr)(D U:List (List Str))(o:List Str):List Str:=(p.B++[tapeS]).filter (AC p i f D U o)
def fzL{N:Nat}{a b c d e:AV}{L:List Str}{n:Nat}(m:n=(L.map AV.str).length):
  Le N ⟨[(0,.p a),(1,.p b),(5,.p .nils),(6,.p c),(27,.hd 0 0 n),(28,.p d),(29,.p e)],[(0,.own 9 1 (L.map .str))]⟩ ⟨[(0,.p a),(1,.p b),(5,.hd 0 0 0),(6,.p c),(27,.p (eStrs L)),(28,.p d),(29,.p e)],[(0,.own 9 1 [])]⟩:=by
 subst m;obtain⟨s',rfl,h⟩:=Le.row (N:=N) (s:=⟨[(0,.p a),(1,.p b),(5,.p .nils),(6,.p c),(27,.hd 0 0 (L.map AV.str).length),(28,.p d),(29,.p e)],[(0,.own 9 1 (L.map .str))]⟩) (k:=0) (e:=9) (sz:=1) (es:=L.map .str) (zs:=[27]) rfl
  (K:=fun s=>s=⟨[(0,.p a),(1,.p b),(5,.p .nils),(6,.p c),(27,.p (eStrs L)),(28,.p d),(29,.p e)],[]⟩) ⟨rfl,rfl⟩
 exact h.trans (lM [(0,.own 9 1 [])])
theorem Bs(b:Book)(p:Pg)(T:b.s=sheetOf p)(h:QP p=true)(i:Nat)(f:Pr)(k:p.A[i]?=some f)(O:b.ways[i]?=some (QQ p i f))(o:List Str)(K:∀x,aP 145 [.ip b.cells,.int .i64 i,H6 (netR p i f),.str x] (.bool (AC p i f b.N b.P o x))):SpecH prog 74 [.p (.ip b.cells),.j i] [] (fun r H=>OneRow (H9 (Se p i f b.N b.P o)) False r H):=by
 refine sK Ju func74 ?_;conv=>whnf
 have E:b.s.p=p:=by rw[T];exact(QY p).1
 have Y:=(XQ h).1;have Q:=Sy h k;have C:=TS (QQ p i f) f (cntL f.body+2) (x3x h k) (NY h k) (by omega);have v:aP 143 [.ip (QQ p i f).cells] (H6 (netR p i f)):=C;have g:SpecH prog 144 ([eStrs p.B].map .p) [] (OneRow (H9 p.B) (p.B=[])):=WL p.B (by omega);have F:(b.ways.map fun w=>AV.ip w.cells)[i]?=some (.ip (QQ p i f).cells):=by rw[x9x,O];rfl
 generalize QQ p i f=w at*
 generalize netR p i f=net at*
 repeat' ((first|refine iT F ?_|refine cP v ?_)<;>conv=>whnf)
 obtain⟨L,d⟩ : ∃L,L=p.B++[tapeS]:=⟨_,rfl⟩;have J:L.length<=17:=by rw[d,x8m];simp;omega
 have y:Se p i f b.N b.P o=L.filter (AC p i f b.N b.P o):=by unfold Se;rw[d]
 rw[y];generalize AC p i f b.N b.P o=ned at*
 refine KU 0 rfl g (.cons (.p (Sub.of_eq (by rw[E]))) .nil) (fun z=>?_) (fun q e sz es M=>?_);rotate_left;obtain⟨rfl,rfl,rfl⟩:=M
 rotate_right
 all_goals
  conv=>whnf
  repeat' ((first|(refine gX ?_;intros)|refine WU (es:=[]) rfl (by simp) ?_|refine pS ?_)<;>conv=>whnf)
 all_goals
  refine lJ (fun x:Nat×List Str=>⟨[(0,.p (.ip b.cells)),(1,.j i),(5,.hd 0 0 x.2.length),(6,.p (H6 net)),(27,.p (eStrs L)),(28,.p (.int .i64 (L.map AV.str).length)),(29,.j x.1)],[(0,.own 9 1 (x.2.map .str))]⟩) (fun x=>x.1<=L.length/\x.2=(L.take x.1).filter ned/\x.2.length<=x.1) (fun x=>L.length-x.1) (0,[]) (by first
    |exact Le.trans (Le.of_eq (by rw[d,z];rfl)) (fzL (L:=L) rfl)
    |exact Le.trans (Le.of_eq (by rw[d];simp only[x8a,x8m];rfl)) (fzL (L:=L) rfl)
    |trace_state) ⟨x8i _,by simp,by simp⟩ ?_
  rintro⟨j,m⟩ ⟨G,t,I⟩;simp only at G t I⊢;have R:(L.map AV.str).length=L.length:=x8b _;rcases x8o j L.length with k|k
  ·have c:=x9v k;have u:=K L[j];have V:(L.map AV.str)[j]?=some (.str L[j]):=by simp[k]
   cases hnd:ned L[j];all_goals
    rw[hnd]at u;conv=>whnf
    repeat' ((first|(refine gX ?_;intros)|refine cP u ?_|refine WU (by simp) (by rw[x8b];omega) ?_|refine Br.tt ?_|refine Br.ff ?_|(apply bD<;>intro _<;>try omega))<;>conv=>whnf)
   all_goals first
    |exact⟨(j+1,m++[L[j]]),⟨k,by simp only;rw[c,z2x,z1n hnd,t];rfl,by simp;omega⟩,by simp only;omega,Le.of_eq (by simp only[x8m,x8a];rfl)⟩
    |exact nX (j+1,m) ⟨k,by simp only;rw[c,z2x,z1t (by rw[hnd];decide),t];simp,by simp only;omega⟩
  ·rw[x9u k]at t;subst t;conv=>whnf
   repeat' (apply bD<;>intro _<;>first|omega|conv=>whnf)
   all_goals exact z0f _ (x9b _) (OneRow.str rfl)
def bkI(p:Pg)(I:List (List Str)):Book:=⟨sheetOf p,[],[],[],I,[]⟩
def usB(p:Pg)(I:List (List Str)):List (List Str):=(sheetOf p).l.map fun it=>WB (Xk (bkI p I) it.s)
def niA(p:Pg)(D U O:List (List Str))(i:Nat):List Str:=WB (Se p i (prA p i) D U (O.getD i []))
def niB(p:Pg)(D U O:List (List Str)):List (List Str):=(List.range p.A.length).map (niA p D U O)
def rdI(p:Pg)(D O I:List (List Str)):List (List Str):=niB p D (usB p I) O
def itI(p:Pg)(D O:List (List Str)):Nat->List (List Str)
 |0=>List.replicate p.A.length []
 |k+1=>rdI p D O (itI p D O k)
structure OkI(p:Pg)(I:List (List Str)):Prop where
 len:I.length=p.A.length
 rise:∀o∈I,o.Pairwise ltT
 sub:∀i,∀n∈I.getD i [],comB p n=true
theorem OkI.len25{p:Pg}{I:List (List Str)}(t:QP p=true)(h:OkI p I)(i:Nat):(I.getD i []).length<=25:=by
 have q:=DS (m:=tapeS::p.B) (FZ (Zf h.rise i)) fun n u=>by
  rcases Zz.1 (h.sub i n u)with rfl|r
  ·exact x8l
  ·exact x8r _ r
 have v:=(XQ t).1;rw[x9f]at q;omega
theorem OkI.use{p:Pg}{I:List (List Str)}(m:QP p=true)(h:OkI p I){b:Book}(w:b.s=sheetOf p)(r:b.ins=I){t:S}(u:t∈WI p)(q:t.kind=4):UseOk b t:=by
 obtain⟨k,c,y,_⟩:=KX m u q;have z:=(Z8 m u q).2;have e:b.s.p=p:=by rw[w];exact(QY p).1
 have v:inAt b t=I.getD (caI p t).toNat []:=by unfold inAt;rw[e,r]
 refine⟨by rw[e];omega,by rw[e,r,h.len];omega,by omega,?_⟩;rw[v];have:=h.len25 m (caI p t).toNat;omega
def OJ{p:Pg}{I:List (List Str)}{b:Book}(k:b.s=sheetOf p)(h:b.ins=I)(t:S):Xk b t=Xk (bkI p I) t:=by
 unfold Xk inAt bkI;rw[k,h]
theorem OK{p:Pg}{I:List (List Str)}(h:leO I I'){t:S}{n:Str}(k:n∈Xk (bkI p I) t):n∈Xk (bkI p I') t:=by
 unfold Xk at k⊢;split at k
 ·rw[if_pos (by assumption)];rcases x8e.1 k with k|k
  ·exact x9e _ k
  ·exact z0w _ (h _ _ k)
 ·rw[if_neg (by assumption)];exact k
def q3t{p:Pg}{I:List (List Str)}(h:leO I I'):leO (usB p I) (usB p I'):=fun i n q=>by
 obtain⟨it,k,m⟩:=GB.1 q;exact GB.2 ⟨it,k,ZE.2 (OK h (ZE.1 m))⟩
def I4{p:Pg}{i:Nat}{f:Pr}{U k:List (List Str)}{o:List Str}{x:Str}(h:leO U k){a:Int}(ha:hitN p i f U o x a=true):hitN p i f k o x a=true:=by
 unfold hitN at ha⊢;cases m:decide (a=(cntL f.body+2:Nat)-1)with
 |true=>rw[m]at ha;exact ha
 | false=>
   rw[m]at ha;cases q:decide (0<a)with
   | true=>
     rw[q]at ha;exact VV.2 (h _ _ (VV.1 ha))
   |false=>rw[q]at ha;cases ha
def Pz{p:Pg}{D U O:List (List Str)}{i:Nat}(m:i<p.A.length){n:Str}:n∈(niB p D U O).getD i []↔comB p n=true/\AC p i (prA p i) D U (O.getD i []) n=true:=by
 unfold niB;rw[GB];have e:n∈niA p D U O i↔comB p n=true/\AC p i (prA p i) D U (O.getD i []) n=true:=by
  unfold niA Se;rw[ZE,z0u,Zz,x8e,x9q,or_comm]
 rw[<-e];constructor
 .rintro ⟨x,k,q⟩;rw[z1h m]at k;cases k;exact q
 .exact fun h=>⟨i,z1h m,h⟩
def IX{p:Pg}{D U O:List (List Str)}{i:Nat}(m:¬i<p.A.length){n:Str}(h:n∈(niB p D U O).getD i []):False:=by
 obtain⟨x,k,_⟩:=GB.1 h;rw[z0x (by simpa using m)]at k;cases k
def q2c{p:Pg}(m:QP p=true){D O I:List (List Str)}(h:leO I I'):leO (rdI p D O I) (rdI p D O I'):=fun i n q=>by
 by_cases k:i<p.A.length
 .obtain ⟨r,s⟩:=(Pz k).1 q;obtain⟨a,t,u⟩:=(MU m (Y3 k)).1 s;exact(Pz k).2 ⟨r,(MU m (Y3 k)).2 ⟨a,t,I4 (q3t h) u⟩⟩
 .exact (IX k q).elim
theorem q4c{p:Pg}(m:QP p=true)(D O:List (List Str)):∀k,leO (itI p D O k) (itI p D O (k+1))
 | 0=>fun i n h=>by
   unfold itI at h;rw[x8n,z0q]at h;split at h<;>cases h
 |k+1=>q2c m (q4c m D O k)
def q4o(p:Pg)(D U O:List (List Str)):OkI p (niB p D U O):=by
 refine⟨by unfold niB;rw[x8b,z2q],fun o m=>?_,fun i n k=>?_⟩
 .obtain ⟨i,_,rfl⟩:=x8c.1 m;exact KG _
 .by_cases h:i<p.A.length
  .exact ((Pz h).1 k).1
  .exact (IX h k).elim
def Kk(p:Pg)(D O:List (List Str)):∀k,OkI p (itI p D O k)
 | 0=>by
   refine⟨by unfold itI;rw[z0b],fun o m=>?_,fun i n h=>?_⟩
   .rw [z2g m];exact .nil
   .unfold itI at h;rw[x8n,z0q]at h;split at h<;>cases h
 |k+1=>q4o p _ _ _
theorem OkI.tot{p:Pg}{I:List (List Str)}(m:QP p=true)(h:OkI p I):Go.Ab.tot I<=400:=by
 have q:=N2 (O:=I) fun o t=>by
  obtain⟨i,r,rfl⟩:=z0v.1 t;have:=h.len25 m i
  rwa[x8n,x8p r]at this
 have u:=(XQ m).2.1;rw[h.len]at q;omega
def SQ{p:Pg}(r:QP p=true){D O:List (List Str)}{k:Nat}(h:itI p D O (k+1)≠itI p D O k):Go.Ab.tot (itI p D O k)<Go.Ab.tot (itI p D O (k+1)):=by
 obtain⟨s,q⟩:=Ot (O:=itI p D O k) (O':=itI p D O (k+1)) (by rw[(Kk p D O k).len,(Kk p D O (k+1)).len]) (Kk p D O k).rise (Kk p D O (k+1)).rise (q4c r D O k);rcases x8o (Go.Ab.tot (itI p D O k)) (Go.Ab.tot (itI p D O (k+1)))with m|m
 .exact m
 .exact absurd (q m).symm h
def wysB(p:Pg):List Way:=(List.range p.A.length).map fun i=>QQ p i (prA p i)
def TI{p:Pg}{i:Nat}(h:i<p.A.length):(wysB p)[i]?=some (QQ p i (prA p i)):=by
 unfold wysB;rw[x9x,z1h h];rfl
structure BookR(p:Pg)(b:Book):Prop where
 s:b.s=sheetOf p
 ways:b.ways=wysB p
 M:∃k,b.M=itO p k
 fixO:rdO p b.M=b.M
 N:b.N=dfB p b.M
 ins:∃k,b.ins=itI p b.N b.M k
 fixI:rdI p b.N b.M b.ins=b.ins
 P:b.P=usB p b.ins
theorem P6{p:Pg}{k:Nat}(h:rdO p (itO p k)=itO p k):∀m,itO p (k+m)=itO p k
 |0=>rfl
 | m+1=>by
   show rdO p (itO p (k+m))=_;rw[P6 h m,h]
theorem P4{p:Pg}{D O:List (List Str)}{k:Nat}(h:rdI p D O (itI p D O k)=itI p D O k):∀m,itI p D O (k+m)=itI p D O k
 |0=>rfl
 | m+1=>by
   show rdI p D O (itI p D O (k+m))=_;rw[P4 h m,h]
theorem BookR.uniq{p:Pg}{b c:Book}(q:BookR p b)(r:BookR p c):b=c:=by
 obtain⟨k,v⟩:=q.M;obtain⟨m,t⟩:=r.M;have w:b.M=c.M:=by
  have y:=P6 (p:=p) (k:=k) (by rw[<-v];exact q.fixO) m;have z:=P6 (p:=p) (k:=m) (by rw[<-t];exact r.fixO) k;rw[v,t,<-y,<-z,z4j]
 have e:b.N=c.N:=by rw[q.N,r.N,w]
 obtain⟨k,v⟩:=q.ins;obtain⟨m,t⟩:=r.ins;have A:b.ins=c.ins:=by
  have g:=q.fixI;have u:=r.fixI;rw[<-w,<-e]at t u;have y:=P4 (p:=p) (D:=b.N) (O:=b.M) (k:=k) (by rw[<-v];exact g) m;have z:=P4 (p:=p) (D:=b.N) (O:=b.M) (k:=m) (by rw[<-t];exact u) k;rw[v,t,<-y,<-z,z4j]
 have C:b.P=c.P:=by rw[q.P,r.P,A]
 have B:b.s=c.s:=by rw[q.s,r.s]
 have E:b.ways=c.ways:=by rw[q.ways,r.ways]
 cases b;cases c;simp only at w e A C B E;subst w e A C B E;rfl
noncomputable def bookOf(p:Pg):Book:=@Classical.epsilon _ ⟨bkO p []⟩ (BookR p)
theorem BookR.eq{p:Pg}{b:Book}(h:BookR p b):b=bookOf p:=h.uniq (@Classical.epsilon_spec _ (BookR p) ⟨b,h⟩)
theorem q7x{p:Pg}(q:QP p=true):∃k,itO p (k+1)=itO p k:=by
 refine z2r fun h=>?_;have m:∀k,k<=Go.Ab.tot (itO p k):=fun k=>by
  induction k with
  |zero=>exact x8i _
  | succ k u=>
    have:=SW (p:=p) (k:=k) fun r=>h ⟨k,r⟩;omega
 have s:=(Kg p 401).tot q;have t:=m 401;omega
theorem q7q{p:Pg}(m:QP p=true)(D O:List (List Str)):∃k,itI p D O (k+1)=itI p D O k:=by
 refine z2r fun h=>?_;have q:∀k,k<=Go.Ab.tot (itI p D O k):=fun k=>by
  induction k with
  |zero=>exact x8i _
  | succ k u=>
    have:=SQ m (p:=p) (D:=D) (O:=O) (k:=k) fun r=>h ⟨k,r⟩;omega
 have s:=(Kk p D O 401).tot m;have t:=q 401;omega
def KL{p:Pg}(q:QP p=true):BookR p (bookOf p):=by
 obtain⟨k,r⟩:=q7x q;obtain⟨m,s⟩:=q7q q (dfB p (itO p k)) (itO p k);have h:BookR p ⟨sheetOf p,wysB p,dfB p (itO p k),usB p (itI p (dfB p (itO p k)) (itO p k) m),itI p (dfB p (itO p k)) (itO p k) m,itO p k⟩:=⟨rfl,rfl,⟨k,rfl⟩,r,rfl,⟨m,rfl⟩,s,rfl⟩;rw[<-h.eq];exact h
def Eg{p:Pg}(q:QP p=true):OkO p (bookOf p).M/\OkI p (bookOf p).ins:=by
 have h:=KL q;obtain⟨k,r⟩:=h.M;obtain⟨m,s⟩:=h.ins;exact⟨r▸Kg p k,s▸Kk p _ _ m⟩
end Go.Ab
