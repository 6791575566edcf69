/- The reference's touched globals; variables with two names; arguments that fit. -/
import Derived.Test.YtonbdgcjnecapaaGreatInK14
import Derived.Test.YtonbdgcjnecapaaGreatInK16
import Derived.Test.YtonbdgcjnecapaaGreatInK17
import Derived.Test.YtonbdgcjnecapaaGreatInK18
set_option linter.all false
set_option maxRecDepth 100000
set_option maxHeartbeats 16000000
open List (length sum_cons)
namespace Go.Ab
open Go.Proofs.Tryz
open Go.Proofs
variable {I' O':List (List Str)}{P:Prop}{j:Nat}{l:List Bool}
def OQ(p:Pg)(t:S):Gr p t=(ZJ t).filter fun v=>inS p.B v:=by
 unfold Gr;congr 1;funext v;exact(Ha _ _).symm
def MM(p:Pg)(hf:Fit p)(Y:(QA p).1=0)(n:Str)(hn:n∈procsN p):SpecP prog 301 [.agg p.cells,.str n] (fun r=>r=eStrs (YJ p n)):=by
 refine sB BV func301 rfl call301 ?_;conv=>whnf
 obtain⟨hm,hb,hns⟩:=WX Y;obtain⟨hg,hpl,hcn⟩:=ZL hm;obtain⟨I,C⟩:=Tc Y hn;have Z:=Qp p n Y hn;have K:YJ p n=WN (YK p n):=rfl;have F:YK p n=(C3 p n).flatMap (Wn p):=rfl;rw[K];generalize C3 p n=ns at I C F Z⊢;have hnl:(ns.map AV.str).length=ns.length:=x6j _;repeat' ((first|(refine iM fun _=>?_)|refine cP Z ?_);conv=>whnf)
 refine LoopK.inv QW (fun i:Nat×List Str=>⟨[(2,.p (.ip p.cells)),(5,.hd 0 0 i.2.length),(16,.p (eStrs ns)),(17,.p (.int .i64 (ns.map AV.str).length)),(18,.p (.int .i64 i.1))],[(0,.own 9 1 (i.2.map .str))]⟩)
  (fun i=>i.1<=ns.length/\i.2.length<=4221000*i.1/\i.2++(ns.drop i.1).flatMap (Wn p)=YK p n) (fun i=>ns.length-i.1) (0,[])
  (Le.mk [(0,.own 9 1 [])] (by simp[Chunk.new0];rfl) (by simp) (by simp) (.r (.cons (.nil x6g) (.r (.r (.r .nil))))) (.new x6g .nil))
  ⟨x6t _,by simp,by rw[F];rfl⟩ ?_
 rintro⟨j,y⟩ ⟨h2,h3,c⟩;simp only at h2 h3 c⊢;rcases x6c j ns.length with G|G;rotate_left 1
 .have g:y=YK p n:=by
   rw[x7v G]at c;simpa using c
  have hS:=VI y (by omega);rw[<-g];conv=>whnf
  repeat' (first|(refine W2 hS (.cons (.hd rfl (by simp)) .nil) ?_;rintro _ rfl;conv=>whnf)|(apply bD<;>intro _<;>first|omega|conv=>whnf))
  all_goals exact RetK.p rfl
 obtain⟨k,N,hik,E,hnk⟩:=Z7 (C _ (x6o G));have L:Wn p ns[j]=(flL p.A[k].body).flatMap (Gr p):=by unfold Wn;rw[E]
 rw[YS G,L]at c;have J:=hf.pr (x6o N);have hN:=WG p ns[j];rw[Sp N E]at hN;have hF:=XI p.A[k];have b:(VS p.A[k]).map RI.s=flL p.A[k].body:=by rw[FA hm (x6o N)];exact Wb 1 0 false _
 have V:=HH p.A[k];have w:∀x∈VS p.A[k],wS x.s<=21000:=fun x hx=>by
  have O:x.s∈flL p.A[k].body:=by
   rw[<-b];exact x6r.2 ⟨_,hx,rfl⟩
  have:=Ub _ _ O;unfold wPr at J;omega
 rw[<-b]at c;generalize VS p.A[k]=its at w V c hF;have hil:=HS its;conv=>whnf
 repeat' (first|((first|(refine iM fun _=>?_)|refine x6d rfl ?_|(refine iA fun _=>?_)|refine cP hN ?_|refine cP hF ?_);conv=>whnf)|(apply bD<;>intro _<;>first|omega|conv=>whnf))
 refine LoopK.inv QW (fun i:Nat×List Str=>⟨[(2,.p (.ip p.cells)),(5,.hd 0 0 i.2.length),(16,.p (eStrs ns)),(17,.p (.int .i64 (ns.map AV.str).length)),(18,.p (.int .i64 j)),(29,.p (Na its)),(30,.p (.int .i64 (its.map fun i=>AV.agg i.cells).length)),(31,.p (.int .i64 i.1))],[(0,.own 9 1 (i.2.map .str))]⟩)
  (fun i=>i.1<=its.length/\i.2.length<=y.length+21000*i.1/\i.2++(((its.drop i.1).map RI.s).flatMap (Gr p)++(ns.drop (j+1)).flatMap (Wn p))=YK p n) (fun i=>its.length-i.1) (0,y)
  (Le.of_eq rfl) ⟨x6t _,by simp,c⟩ ?_
 rintro⟨m,t⟩ ⟨h6,h7,d⟩;simp only at h6 h7 d⊢;rcases x6c m its.length with z|z;rotate_left 1
 .rw [x7v z]at d;conv=>whnf
  repeat' (first|(refine wI ?_;conv=>whnf)|(apply bD<;>intro _<;>first|omega|conv=>whnf))
  exact⟨(j+1,t),⟨by simp only;omega,by simp only;omega,by simpa using d⟩,by simp only;omega,Le.of_eq rfl⟩
 have hw:=w _ (x6o z);have Q:its[m].s.args.length<=21000:=by
  have:=H4 its[m].s;have:=YO its[m].s.args;omega
 have R:=Sv its[m].s;rw[x7t z,x7l,x8n,x7n]at d;have M:=OQ p its[m].s;have e:=FY its[m].s Q;rw[M]at d;generalize ZJ its[m].s=vs at R d e;have hvl:(vs.map AV.str).length=vs.length:=x6j _;conv=>whnf
 repeat' (first|((first|(refine iM fun _=>?_)|refine x6d rfl ?_|(refine iA fun _=>?_)|refine cP e ?_);conv=>whnf)|(apply bD<;>intro _<;>first|omega|conv=>whnf))
 refine LoopK.inv QW (fun i:Nat×List Str=>⟨[(2,.p (.ip p.cells)),(5,.hd 0 0 i.2.length),(16,.p (eStrs ns)),(17,.p (.int .i64 (ns.map AV.str).length)),(18,.p (.int .i64 j)),(29,.p (Na its)),(30,.p (.int .i64 (its.map fun i=>AV.agg i.cells).length)),(31,.p (.int .i64 m)),(37,.p (eStrs vs)),(38,.p (.int .i64 (vs.map AV.str).length)),(39,.p (.int .i64 i.1))],[(0,.own 9 1 (i.2.map .str))]⟩)
  (fun i=>i.1<=vs.length/\i.2.length<=t.length+i.1/\i.2++((vs.drop i.1).filter (fun v=>inS p.B v)++(((its.drop (m+1)).map RI.s).flatMap (Gr p)++(ns.drop (j+1)).flatMap (Wn p)))=YK p n) (fun i=>vs.length-i.1) (0,t)
  (Le.of_eq rfl) ⟨x6t _,by simp,d⟩ ?_
 rintro⟨q,u⟩ ⟨h9,H,h⟩;simp only at h9 H h⊢;rcases x6c q vs.length with T|T
 .rw [x7t T,List.filter_cons]at h;conv=>whnf
  repeat' (first|((first|refine cP (XX _ _) ?_|refine x6d rfl ?_|refine aD ?_|refine bP ?_|(refine iA fun _=>?_)|refine wI ?_|refine QP (by simp) (by simp;omega) ?_);conv=>whnf)|(apply bD<;>intro _<;>first|omega|conv=>whnf)|(apply bB<;>intro _<;>conv=>whnf))
  .exact ⟨(q+1,u++[vs[q]]),⟨by simp only;omega,by simp;omega,by rw[if_pos (by assumption)]at h;simpa using h⟩,by simp only;omega,Le.of_eq (by simp only[x6f,x6l];rfl)⟩
  .exact ⟨(q+1,u),⟨by simp only;omega,by simp only;omega,by rw[if_neg (by simp[*])]at h;exact h⟩,by simp only;omega,Le.of_eq rfl⟩
 .rw [x7v T]at h;conv=>whnf
  repeat' (first|(refine wI ?_;conv=>whnf)|(apply bD<;>intro _<;>first|omega|conv=>whnf))
  exact⟨(m+1,u),⟨by simp only;omega,by simp only;omega,by simpa using h⟩,by simp only;omega,Le.of_eq rfl⟩
def apR(h:List Str):List Arg->List Str->Bool
 |[],_=>true
 |a::r,seen=>bif a.ref then(bif inS seen a.name||inS h a.name then false else apR h r (seen++[a.name]))else apR h r seen
theorem q1i(h:List Str)(k:Str):∀(l:List Arg)(pre seen:List Str),(pre=[]/\k=[]\/pre=[k])->(∀a∈l,a.ref=true->a.name≠[])->apR h l (pre++seen)=XB k h l seen
 |[],_,_,_,_=>rfl
 | a::r,pre,seen,hp,ha=>by
   have q:=fun s=>q1i h k r pre s hp fun b v=>ha b (x6b _ v);rw[apR,XB];cases w:a.ref with
   |false=>exact q seen
   | true=>
     have m:=ha a x6g w;have t:inS (pre++seen) a.name=((a.name==k)||(seen.any fun s=>a.name==s)):=by
      rw[Ha,List.any_append];rcases hp with⟨rfl,rfl⟩|rfl
      .have:(a.name==([]:Str))=false:=z0f.2 m;rw[this];rfl
      .simp
     have u:(inS (pre++seen) a.name||inS h a.name)=((seen.any fun s=>a.name==s)||((a.name==k)||h.any fun s=>a.name==s)):=by
      rw[t,Ha];cases(a.name==k)<;>cases(seen.any fun s=>a.name==s)<;>rfl
     rw[x7z,x7z,u,x7n,q (seen++[a.name])]
def As(p:Pg)(t:S):Bool:=YV p t&&XB t.name (YJ p t.D) t.args []
def Ze(p:Pg)(g:Fit p)(B:(QA p).1=0)(t:S)(z:t.D∈procsN p)(C:t.args.length<=21000)(y:∀a∈t.args,a.ref=true->a.name≠[]):SpecP prog 264 [.agg p.cells,.agg t.cells] (fun r=>r=.bool (As p t)):=by
 refine sB MZ func264 rfl call264 ?_;conv=>whnf
 have w:=JX p t;have e:(t.args.map fun a=>AV.agg a.cells).length=t.args.length:=x6j _;have hT:=MM p g B t.D z;have m:=fun pre h=>q1i (YJ p t.D) t.name t.args pre [] h y;unfold As;generalize YJ p t.D=G at*
 cases u:YV p t with
 | false=>
   rw[u]at w;repeat' (first|((first|(refine iM fun _=>?_)|refine x6d rfl ?_|refine aD ?_|refine bP ?_|refine cP w ?_);conv=>whnf)|(apply bN<;>intro _<;>conv=>whnf))
   all_goals first
    |(exfalso;simp_all;done)
    |exact RetK.ff rfl
 | true=>
   rw[u]at w;rw[z1j];repeat' (first|((first|(refine iM fun _=>?_)|refine x6d rfl ?_|refine aD ?_|refine bP ?_|refine cP w ?_|refine QP (by simp) (by simp) ?_);conv=>whnf)|(apply bN<;>intro _<;>conv=>whnf))
   all_goals simp only[show(ByteArray.mk #[]).data.toList=[]from rfl]at*
   all_goals first
    |(exfalso;simp_all;done)
    |skip
   all_goals
    first
    | (have b:(t.name==[])=false:=by assumption
       have m:=m [t.name] (.inr rfl);rw[x8x]at m;rw[<-m];generalize k:([t.name]:List Str)=pre at m)
    | (have b:(t.name==[])=true:=by assumption
       have m:=m [] (.inl ⟨rfl,by simpa using b⟩);rw[x8x]at m;rw[<-m];generalize k:([]:List Str)=pre at m)
    have A:pre.length<=1:=by rw[<-k];simp
    refine LoopK.inv QW (fun x:Nat×List Str=>⟨[(2,.p (.ip p.cells)),(3,.p (.ip t.cells)),(5,.hd 0 0 x.2.length),(21,.p (.sl (t.args.map fun a=>.agg a.cells))),(22,.p (.int .i64 (t.args.map fun a=>AV.agg a.cells).length)),(23,.p (.int .i64 x.1))],[(0,.own 9 1 (x.2.map .str))]⟩) (fun x=>x.1<=t.args.length/\x.2.length<=x.1+1/\apR G (t.args.drop x.1) x.2=apR G t.args pre) (fun x=>t.args.length-x.1) (0,pre)
     (by subst k;first|exact Le.of_eq rfl|exact(Le.mk [(0,.own 9 1 [])] (by simp[Chunk.new0];rfl) (by simp) (by simp) (.r (.r (.cons (.nil x6g) (.r (.r (.r .nil)))))) (.new x6g .nil))) ⟨x6t _,by simp only;omega,rfl⟩ ?_
    rintro⟨j,q⟩ ⟨c,d,s⟩;simp only at c d s⊢;rcases x6c j t.args.length with v|v
    .rw [x7t v,apR]at s;rw[<-s];conv=>whnf
     repeat' (first|((first|refine dA ?_|refine x6d rfl ?_|refine aD ?_|refine bP ?_|(refine iA fun _=>?_)|refine wI ?_|(refine QB (XX q (t.args[j]'v).name) (.cons (.hd rfl (by simp)) (.cons (.p (Sub.refl _)) .nil)) (by rintro _ rfl;rfl) ?_;rintro _ rfl)|refine cP hT ?_|refine cP (XX G (t.args[j]'v).name) ?_|refine QP (by simp) (by simp;omega) ?_);conv=>whnf)|(apply bD<;>intro _<;>first|omega|conv=>whnf)|(apply bB<;>intro _<;>conv=>whnf))
     all_goals first
      |(exfalso;simp_all;done)
      |exact RetK.ff (by simp[*])
      |exact⟨(j+1,q++[t.args[j].name]),⟨by simp only;omega,by simp;omega,by simp only;simp[*]⟩,by simp only;omega,Le.of_eq (by simp only[x6f,x6l];rfl)⟩
      |exact⟨(j+1,q),⟨by simp only;omega,by simp only;omega,by simp only;simp[*]⟩,by simp only;omega,Le.of_eq rfl⟩
    .rw [x7v v,apR]at s;rw[<-s];conv=>whnf
     repeat' (apply bD<;>intro _<;>first|omega|conv=>whnf)
     exact RetK.tt rfl
def QE(c a:Int):SpecP prog 255 [.int .i64 c,.int .i64 a] (fun r=>r=PX c a):=by
 refine sB MU func255 rfl call255 ?_;conv=>whnf
 repeat' (refine x6d rfl ?_;conv=>whnf)
 exact QL rfl rfl
def ZU{H:Heap}{a b:Int}(h:a=0↔P):RetK H (.p (.agg [.int .i64 a,.int .i64 b])) (fun r=>∃c d,r=PX c d/\(c=0↔P)):=⟨_,.p (Sub.refl _),a,b,rfl,h⟩
def fltR(P:Prop)(r:AV):Prop:=∃c d,r=PX c d/\(c=0↔P)
def Zi(p:Pg)(d:YH p=true):SpecP prog 203 [.agg p.cells] (fun r=>fltR (∀t∈VJ p,t.kind=4->YV p t=true) r):=by
 refine sB MW func203 rfl call203 ?_;conv=>whnf
 have z:=JF p;have u:=Nv d;rw[<-u];generalize allR p=L at*
 have c:=HS L;repeat' ((first|(refine iM fun _=>?_)|refine cP z ?_);conv=>whnf)
 refine LoopK.inv QW (fun j:Nat=>⟨[(1,.p (.ip p.cells)),(2,.ptr 1 0),(6,.p (Na L)),(7,.p (.int .i64 (L.map fun i=>AV.agg i.cells).length)),(8,.p (.int .i64 j))],[(1,.obj 85 [.p (.int .i64 0),.p (.int .i64 0)])]⟩) (fun j=>j<=L.length/\∀x∈L.take j,x.s.kind=4->YV p x.s=true) (fun j=>L.length-j) 0 (Le.of_eq rfl) ⟨x6t _,fun x k=>by rw[z0t]at k;cases k⟩ ?_;rintro j ⟨g,w⟩;rcases x6c j L.length with m|m
 .have b:=JX p L[j].s;have q:L[j].s∈L.map RI.s:=x6r.2 ⟨_,x6o m,rfl⟩;have v:(L[j].s.kind=4->YV p L[j].s=true)->∀x∈L.take (j+1),x.s.kind=4->YV p x.s=true:=fun h x k=>by
   rcases(QC m).1 k with y|rfl
   .exact w x y
   .exact h
  conv=>whnf
  repeat' (first|((first|refine x6d rfl ?_|(refine iA fun _=>?_)|refine wI ?_|refine cP b ?_|refine cP (QE 6 _) ?_);conv=>whnf)|(apply bD<;>intro _<;>first|omega|conv=>whnf)|(apply bN<;>intro _<;>conv=>whnf))
  all_goals first
   |exact⟨j+1,⟨m,v fun h=>by first|assumption|omega⟩,by omega,Le.of_eq rfl⟩
   | (refine ZU ⟨fun h=>by omega,fun h=>?_⟩
      have:=h _ q (by omega);simp_all
      done)
 .conv=>whnf
  repeat' (first|(refine x6d rfl ?_;conv=>whnf)|(apply bD<;>intro _<;>first|omega|conv=>whnf))
  refine ZU ⟨fun _ t e=>?_,fun _=>rfl⟩;obtain⟨x,k,rfl⟩:=x6r.1 e;exact w x (by rw[x7w m];exact k)
def NX(p:Pg)(G:Fit p)(C:(QA p).1=0)(w:∀t∈VJ p,t.kind=4->YV p t=true):SpecP prog 205 [.agg p.cells] (fun r=>fltR (∀t∈VJ p,t.kind=4->XB t.name (YJ p t.D) t.args []=true) r):=by
 refine sB FB func205 rfl call205 ?_;conv=>whnf
 obtain⟨A,Y,Q⟩:=WX C;have J:=JF p;have m:=Nv A;have c:∀x∈allR p,oneOk x.s=true:=fun x k=>by rw[Df A]at k;exact(Al A x k).2
 have g:∀x∈allR p,x.s.kind=4->SpecP prog 264 [.agg p.cells,.agg x.s.cells] (fun r=>r=.bool (XB x.s.name (YJ p x.s.D) x.s.args [])):=fun x k H=>by
  have e:x.s∈VJ p:=by rw[<-m];exact x6r.2 ⟨x,k,rfl⟩
  have d:=e;unfold VJ at d;obtain⟨f,y,z⟩:=x8w.1 d;have B:=(Vz C y z H).1;have Z:=Ub _ _ z;have F:=G.pr y;have V:=H4 x.s;have I:=YO x.s.args;have q:=Ze p G C x.s B (by unfold wPr at F;omega) fun a N R O=>by
   have u:=x8h.1 (YE (c x k)).args a N;unfold argR at u;rw[R,x7z,O]at u;simp at u;have:=HP u.1;cases this
  unfold As at q;rw[w _ e H,z1j]at q;exact q
 rw[<-m];clear m w c;generalize allR p=L at*
 have M:=HS L;repeat' ((first|(refine iM fun _=>?_)|refine cP J ?_);conv=>whnf)
 refine LoopK.inv QW (fun j:Nat=>⟨[(1,.p (.ip p.cells)),(2,.ptr 1 0),(6,.p (Na L)),(7,.p (.int .i64 (L.map fun i=>AV.agg i.cells).length)),(8,.p (.int .i64 j))],[(1,.obj 85 [.p (.int .i64 0),.p (.int .i64 0)])]⟩) (fun j=>j<=L.length/\∀x∈L.take j,x.s.kind=4->XB x.s.name (YJ p x.s.D) x.s.args []=true) (fun j=>L.length-j) 0 (Le.of_eq rfl) ⟨x6t _,fun x k=>by rw[z0t]at k;cases k⟩ ?_;rintro j ⟨I,q⟩;rcases x6c j L.length with v|v
 .have K:=g _ (x6o v);have b:L[j].s∈L.map RI.s:=x6r.2 ⟨_,x6o v,rfl⟩;have E:(L[j].s.kind=4->XB L[j].s.name (YJ p L[j].s.D) L[j].s.args []=true)->∀x∈L.take (j+1),x.s.kind=4->XB x.s.name (YJ p x.s.D) x.s.args []=true:=fun h x k=>by
   rcases(QC v).1 k with u|rfl
   .exact q x u
   .exact h
  conv=>whnf
  repeat' (first|((first|refine x6d rfl ?_|(refine iA fun _=>?_)|refine wI ?_|(refine CallK.pure (K (by omega)) (.cons (Sub.refl _) (.cons (Sub.refl _) .nil)) ?_;rintro _ rfl)|refine cP (QE 8 _) ?_);conv=>whnf)|(apply bD<;>intro _<;>first|omega|conv=>whnf)|(apply bN<;>intro _<;>conv=>whnf))
  all_goals first
   |exact⟨j+1,⟨v,E fun h=>by first|assumption|omega⟩,by omega,Le.of_eq rfl⟩
   | (refine ZU ⟨fun h=>by omega,fun h=>?_⟩
      have:=h _ b (by omega);simp_all
      done)
 .conv=>whnf
  repeat' (first|(refine x6d rfl ?_;conv=>whnf)|(apply bD<;>intro _<;>first|omega|conv=>whnf))
  refine ZU ⟨fun _ t T=>?_,fun _=>rfl⟩;obtain⟨x,k,rfl⟩:=x6r.1 T;exact q x (by rw[x7w v];exact k)
def RL(p:Pg):ZX p=false↔XF p.B=false/\XF (procsN p)=false/\(UE p mainS).2=true/\(UE p mainS).1.C.length=0:=by
 unfold ZX UE;have h:(procsN p).any (fun s=>mainS==s)=(p.A.find? fun f=>f.name==mainS).isSome:=by
  unfold procsN;rw[z0p,List.find?_isSome,List.any_map,x8z];simp only[Function.comp,z0x];exact⟨fun⟨x,a,b⟩=>⟨x,a,b.symm⟩,fun⟨x,a,b⟩=>⟨x,a,b.symm⟩⟩
 have k:(p.A.find? fun f=>mainS==f.name)=p.A.find? fun f=>f.name==mainS:=by
  congr 1;funext f;exact Bool.beq_comm
 rw[h,k];cases p.A.find? fun f=>f.name==mainS with
 |none=>simp
 |some f=>simp
def S7{p:Pg}(k:Fit p){f:Pr}(h:f∈p.A):f.C.length<=21000/\f.E.length<=21000/\f.fin.length<=21000/\p.B.length<=21000:=by
 have m:=k.pr h;have s:=YR f.E;have t:=YR f.fin;have u:=YR p.B;have q:wPg p<=21000:=k;have v:f.C.length<=q1n f.C:=by
  generalize f.C=l;induction l with
  |nil=>exact x6t _
  | cons a r w=>
    rw[q1n,x7g];omega
 unfold wPr at m;unfold wPg at q;omega
def Za(p:Pg)(hf:Fit p):SpecP prog 202 [.agg p.cells] (fun r=>fltR ((QA p).1=0) r):=by
 refine sB MX func202 rfl call202 ?_;conv=>whnf
 have hM:=KM p;cases T:YH p with
 | false=>
   rw[T]at hM;repeat' (first|((first|(refine iM fun _=>?_)|refine x6d rfl ?_|refine cP hM ?_|refine cP (QE 1 0) ?_);conv=>whnf)|(apply bN<;>intro _<;>conv=>whnf))
   all_goals first
    |(exfalso;simp_all;done)
    | (refine ZU ⟨fun h=>by omega,fun h=>?_⟩
       have:=(WX h).1;rw[T]at this;cases this)
 | true =>
   rw[T]at hM;obtain⟨hg,hpl,hcn⟩:=ZL T;rw[Lv T,RL];have hpll:(p.A.map fun f=>AV.agg f.cells).length=p.A.length:=x6j _;repeat' (first|((first|(refine iM fun _=>?_)|refine cP hM ?_);conv=>whnf)|(apply bN<;>intro _<;>conv=>whnf))
   all_goals first
    |(exfalso;simp_all;done)
    |skip
   refine LoopK.inv QW (fun x:Nat×List Str=>⟨[(1,.p (.ip p.cells)),(2,.ptr 1 0),(3,.hd 0 0 x.2.length),(19,.p (.sl (p.A.map fun f=>.agg f.cells))),(20,.p (.int .i64 (p.A.map fun f=>AV.agg f.cells).length)),(21,.p (.int .i64 x.1))],[(0,.own 9 1 (x.2.map .str)),(1,.obj 85 [.p (.int .i64 0),.p (.int .i64 0)])]⟩) (fun x=>x.1<=p.A.length/\x.2=(procsN p).take x.1) (fun x=>p.A.length-x.1) (0,[])
    (Le.mk [(0,.own 9 1 [])] (by simp[Chunk.new0];rfl) (by simp) (by simp) (.r (.r (.cons (.nil x6g) (.r (.r (.r .nil)))))) (.new x6g (.cons rfl (.refl _) .nil))) ⟨x6t _,by simp⟩ ?_
   rintro⟨j,G⟩ ⟨h2,z⟩;simp only at h2 z⊢;have hpn:(procsN p).length=p.A.length:=by simp[procsN]
   rcases x6c j p.A.length with R|R
   .have e1:(procsN p).take (j+1)=G++[p.A[j].name]:=by
     rw[x7x (by omega),<-z];simp[procsN]
    have hal:G.length<=16:=by rw[z,x7m];omega
    conv=>whnf
    repeat' (first|((first|refine x6d rfl ?_|refine aD ?_|refine bP ?_|(refine iA fun _=>?_)|refine wI ?_|refine QP (by simp) (by simp;omega) ?_);conv=>whnf)|(apply bD<;>intro _<;>first|omega|conv=>whnf))
    all_goals exact⟨(j+1,G++[p.A[j].name]),⟨by simp only;omega,by simp only;rw[e1]⟩,by simp only;omega,Le.of_eq (by simp only[x6f,x6l];rfl)⟩
   rw[x7w (by omega)]at z;subst z;have hN:=WG p mainS;have hmq:∀q:Prop,((UE p mainS).2=true/\(UE p mainS).1.C.length=0/\q)->q:=fun q h=>h.2.2;have hT1:=ZB p.B;have hT2:=ZB (procsN p);generalize(UE p mainS).2=mk at*
   generalize(UE p mainS).1=mf at*
   have hmfl:(mf.C.map fun a=>AV.agg a.cells).length=mf.C.length:=x6j _;conv=>whnf
   repeat' (first|((first|(refine iM fun _=>?_)|refine x6d rfl ?_|refine cP hN ?_|refine cP hT1 ?_|(refine QB hT2 (.cons (.hd rfl (by simp)) .nil) (by rintro _ rfl;rfl) ?_;rintro _ rfl)|refine cP (QE 5 0) ?_);conv=>whnf)|(apply bD<;>intro _<;>first|omega|conv=>whnf)|(apply bN<;>intro _<;>conv=>whnf)|(apply bB<;>intro _<;>conv=>whnf))
   all_goals first
    | (refine ZU ⟨fun h=>by omega,fun⟨⟨V,O,Y,Q⟩,h8⟩=>?_⟩
       exfalso;simp_all
       done)
    | (refine ZU ⟨fun h=>by omega,fun⟨⟨V,O,Y,Q⟩,h8⟩=>?_⟩
       omega)
    |skip
   have G1:XF p.B=false:=by assumption
   have G2:XF (procsN p)=false:=by assumption
   have G3:mk=true:=by assumption
   have G4:mf.C.length=0:=by omega
   have g:(((XF p.B=false/\XF (procsN p)=false/\mk=true/\mf.C.length=0)/\∀f∈p.A,ScopeOK p f) ↔ ∀f∈p.A,ScopeOK p f):=⟨fun h=>h.2,fun h=>⟨⟨G1,G2,G3,G4⟩,h⟩⟩;rw[g];clear g hT1 hT2 hN hmq G1 G2 G3 G4;refine LoopK.inv QW (fun j:Nat=>⟨[(1,.p (.ip p.cells)),(2,.ptr 1 0),(3,.hd 0 0 (procsN p).length),(55,.p (.sl (p.A.map fun f=>.agg f.cells))),(56,.p (.int .i64 (p.A.map fun f=>AV.agg f.cells).length)),(57,.p (.int .i64 j))],[(0,.own 9 1 ((procsN p).map .str)),(1,.obj 85 [.p (.int .i64 0),.p (.int .i64 0)])]⟩) (fun j=>j<=p.A.length/\∀f∈p.A.take j,ScopeOK p f) (fun j=>p.A.length-j) 0
    (Le.of_eq rfl) ⟨x6t _,fun f h=>by rw[z0t]at h;cases h⟩ ?_
   rintro j ⟨h2,z⟩;rcases x6c j p.A.length with R|R;rotate_left 1
   .rw [x7w R]at z;conv=>whnf
    repeat' (first|(refine x6d rfl ?_;conv=>whnf)|(apply bD<;>intro _<;>first|omega|conv=>whnf))
    exact ZU ⟨fun _=>z,fun _=>rfl⟩
   have u:=x6o R;obtain⟨w1,w2,w3,w4⟩:=S7 hf u;have hwp:=hf.pr u;have hPm:=Qm p.A[j] (by omega);have hF:=XI p.A[j];have k:(VS p.A[j]).map RI.s=flL p.A[j].body:=by rw[FA T u];exact Wb 1 0 false _
   have hrl:=HH p.A[j];have H:∀x∈VS p.A[j],x.s.args.length<=21000:=fun x y=>by
    have c:x.s∈flL p.A[j].body:=by
     rw[<-k];exact x6r.2 ⟨_,y,rfl⟩
    have V:=Ub _ _ c;have O:=H4 x.s;have Y:=YO x.s.args;unfold wPr at hwp;omega
   have I:allV p p.A[j]=p.B++((p.A[j].C.map Param.name)++p.A[j].E):=rfl;have hT:=ZB (allV p p.A[j]);rw[I]at hT;have d:=WY (l:=allV p p.A[j]);rw[I]at d;have F:¬ScopeOK p p.A[j]->¬∀f∈p.A,ScopeOK p f:=fun h h2=>h (h2 _ u);have K:ScopeOK p p.A[j]->∀f∈p.A.take (j+1),ScopeOK p f:=fun h f hfq=>by
    rcases(QC R).1 hfq with V|rfl
    .exact z f V
    .exact h
   have M:((p.B++((p.A[j].C.map Param.name)++p.A[j].E)).Nodup/\∀x∈VS p.A[j],knownB p p.A[j] (procsN p) x.s=true)↔ScopeOK p p.A[j]:=by
    constructor
    .rintro ⟨a,b⟩;exact⟨a,fun t ht=>by
      rw[<-k]at ht;obtain⟨x,y,rfl⟩:=x6r.1 ht;exact b x y⟩
    .rintro ⟨a,b⟩;exact⟨a,fun x y=>b _ (by rw[<-k];exact x6r.2 ⟨x,y,rfl⟩)⟩
   have hkd:=fun v=>Vm p p.A[j] v;have hkn:∀t:S,knownB p p.A[j] (procsN p) t=((ZJ t).all (fun n=> !(KI p p.A[j] n==0))&&(decide (t.kind≠4)||(!(t.D==mainS)&&inS (procsN p) t.D))):=fun t=>by rw[Ha];rfl
   clear I hwp k u;generalize VS p.A[j]=its at*
   generalize ScopeOK p p.A[j]=SK at*
   have hil:=HS its;rw[show eStrs (p.B++((p.A[j].C.map Param.name)++p.A[j].E))=AV.sl (p.B.map .str++(p.A[j].C.map Param.name).map .str++p.A[j].E.map .str) by unfold eStrs;rw[x6l,x6l,x7n]]at hT;conv=>whnf
   repeat' (first|((first|(refine iM fun _=>?_)|refine dA ?_|refine x6d rfl ?_|refine aD ?_|(refine iA fun _=>?_)|refine cP hPm ?_|refine z1c (fun x y=>by cases y) rfl ?_|refine ZS _ (by simp) (by simp;omega) ?_|(refine QB hT (.cons (.hd rfl (by simp<;>omega)) .nil) (by rintro _ rfl;rfl) ?_;rintro _ rfl)|refine cP (QE 5 0) ?_|refine cP hF ?_);conv=>whnf)|(apply bD<;>intro _<;>first|omega|conv=>whnf)|(apply bB<;>intro _<;>conv=>whnf))
   all_goals first
    | (refine ZU ⟨fun h=>by omega,fun Z=>absurd Z (F fun hS=>?_)⟩
       have:=d.2 (M.2 hS).1;simp_all
       done)
    |skip
   have hND:=d.1 (by assumption);have J:∀x∈its,knownB p p.A[j] (procsN p) x.s=false->¬∀f∈p.A,ScopeOK p f:=fun x y h=>F fun hS=>by
    have:=(M.2 hS).2 x y;rw[this]at h;cases h
   clear hT d;refine LoopK.inv QW (fun m:Nat=>⟨[(1,.p (.ip p.cells)),(2,.ptr 1 0),(3,.hd 0 0 (procsN p).length),(9,.p (.ip p.A[j].cells)),(55,.p (.sl (p.A.map fun f=>.agg f.cells))),(56,.p (.int .i64 (p.A.map fun f=>AV.agg f.cells).length)),(57,.p (.int .i64 j)),(74,.p (Na its)),(75,.p (.int .i64 (its.map fun i=>AV.agg i.cells).length)),(76,.p (.int .i64 m))],[(0,.own 9 1 ((procsN p).map .str)),(1,.obj 85 [.p (.int .i64 0),.p (.int .i64 0)])]⟩) (fun m=>m<=its.length/\∀x∈its.take m,knownB p p.A[j] (procsN p) x.s=true) (fun m=>its.length-m) 0
    (Le.of_eq rfl) ⟨x6t _,fun x h=>by rw[z0t]at h;cases h⟩ ?_
   rintro m ⟨V,O⟩;rcases x6c m its.length with w|w;rotate_left 1
   .rw [x7w w]at O;conv=>whnf
    repeat' (first|(refine wI ?_;conv=>whnf)|(apply bD<;>intro _<;>first|omega|conv=>whnf))
    exact⟨j+1,⟨by omega,K (M.1 ⟨hND,O⟩)⟩,by omega,Le.of_eq rfl⟩
   have hna:=H _ (x6o w);have hSd:=FY its[m].s hna;have hB:=J _ (x6o w);have N:knownB p p.A[j] (procsN p) its[m].s=true->∀x∈its.take (m+1),knownB p p.A[j] (procsN p) x.s=true:=fun h x y=>by
    rcases(QC w).1 y with Y|rfl
    .exact O x Y
    .exact h
   rw[hkn]at hB N;have hIn:=XX (procsN p) its[m].s.D;generalize ZJ its[m].s=vs at*
   have hvl:(vs.map AV.str).length=vs.length:=x6j _;conv=>whnf
   repeat' (first|((first|(refine iM fun _=>?_)|refine x6d rfl ?_|(refine iA fun _=>?_)|refine cP hSd ?_);conv=>whnf)|(apply bD<;>intro _<;>first|omega|conv=>whnf))
   refine LoopK.inv QW (fun q:Nat=>⟨[(1,.p (.ip p.cells)),(2,.ptr 1 0),(3,.hd 0 0 (procsN p).length),(9,.p (.ip p.A[j].cells)),(11,.p (.ip its[m].cells)),(55,.p (.sl (p.A.map fun f=>.agg f.cells))),(56,.p (.int .i64 (p.A.map fun f=>AV.agg f.cells).length)),(57,.p (.int .i64 j)),(74,.p (Na its)),(75,.p (.int .i64 (its.map fun i=>AV.agg i.cells).length)),(76,.p (.int .i64 m)),(82,.p (eStrs vs)),(83,.p (.int .i64 (vs.map AV.str).length)),(84,.p (.int .i64 q))],[(0,.own 9 1 ((procsN p).map .str)),(1,.obj 85 [.p (.int .i64 0),.p (.int .i64 0)])]⟩) (fun q=>q<=vs.length/\(vs.drop q).all (fun n=> !(KI p p.A[j] n==0))=vs.all fun n=> !(KI p p.A[j] n==0)) (fun q=>vs.length-q) 0
    (Le.of_eq rfl) ⟨x6t _,rfl⟩ ?_
   rintro q ⟨Y,Q⟩;rcases x6c q vs.length with hq|hq
   .have hK:=hkd vs[q];conv=>whnf
    repeat' (first|((first|refine x6d rfl ?_|(refine iA fun _=>?_)|refine wI ?_|refine cP hK ?_|refine cP (QE 5 _) ?_);conv=>whnf)|(apply bD<;>intro _<;>first|omega|conv=>whnf))
    all_goals first
     | (refine ZU ⟨fun h=>by omega,fun Z=>absurd Z (hB ?_)⟩
        have L:KI p p.A[j] vs[q]=0:=by assumption
        have e:=Xy (p:=fun n=> !(KI p p.A[j] n==0)) hq (by rw[L];rfl);rw[<-Q,e];rfl)
     | (have L:¬KI p p.A[j] vs[q]=0:=by assumption
        exact⟨q+1,⟨by omega,by rw[<-Q,GP (p:=fun n=> !(KI p p.A[j] n==0)) hq (by simpa using L)]⟩,by omega,Le.of_eq rfl⟩)
   .rw [GB hq]at Q;rw[<-Q,z1j]at hB N;conv=>whnf
    repeat' (first|((first|refine x6d rfl ?_|refine wI ?_|(refine QB hIn (.cons (.hd rfl (by simp)) (.cons (.p (Sub.refl _)) .nil)) (by rintro _ rfl;rfl) ?_;rintro _ rfl)|refine cP (QE 5 _) ?_);conv=>whnf)|(apply bD<;>intro _<;>first|omega|conv=>whnf)|(apply bN<;>intro _<;>conv=>whnf)|(apply bB<;>intro _<;>conv=>whnf))
    all_goals
     have c:(its[m].s.D==mainS)=(its[m].s.D==[109,97,105,110]):=rfl
    all_goals first
     | (refine ZU ⟨fun h=>by omega,fun Z=>absurd Z (hB ?_)⟩
        rw[c];simp_all
        done)
     | (refine⟨m+1,⟨by omega,N ?_⟩,by omega,Le.of_eq rfl⟩
        rw[c];simp_all
        done)
def Mr(L:List RI)(f:Pr)(x:RI):Bool:=if x.s.kind=7\/x.s.kind=8 then(R4 L.reverse x.s.id).2 else if x.s.kind=10 then inS (Ja f) x.s.name else true
def q7g(f:Pr)(n:Str):(atB f n).2=inS (Ja f) n:=by
 rw[z0p,JG];unfold atB Ja;rw[x6s,x8w];cases r:(flL f.body).find? fun t=>t.F.any fun s=>n==s with
 | some t=>
   have m:=x9n r;have q:=z1x r;obtain⟨s,u,k⟩:=x8z.1 q;have k:n=s:=eq_of_beq k;exact⟨fun _=>.inl ⟨t,m,k▸u⟩,fun _=>rfl⟩
 | none=>
   have m:=z0v.1 r;have q:¬∃a∈flL f.body,n∈a.F:=fun⟨t,y,w⟩=>m t y (x8z.2 ⟨n,w,x8f n⟩);cases v:f.fin.any fun s=>n==s with
   | true=>
     obtain⟨s,u,k⟩:=x8z.1 v;have k:n=s:=eq_of_beq k;exact⟨fun _=>.inr (k▸u),fun _=>rfl⟩
   | false=>
     refine⟨fun h=>by simp at h,fun h=>?_⟩;rcases h with h|h
     .exact absurd h q
     .have:=z0i.1 v n h;simp at this
def Cl{p:Pg}(h:YH p=true){f:Pr}(v:p.A[j]?=some f):DT p j f↔(∀x∈flatU f,Mr (flatU f) f x=true)/\(Ja f).Nodup:=by
 have key:∀it∈itsOf p j f,∀x∈flatU f,x.s=it.s->Mr (flatU f) f x=UW f it:=fun it k x m q=>by
  unfold Mr UW;rw[q,RJ h v k,q7g];congr 1;by_cases t:it.loop=0<;>simp[t]
 unfold DT;refine and_congr_left fun _=>⟨fun r x m=>?_,fun r it k=>?_⟩
 .have u:x.s∈flL f.body:=by
   rw[<-show(flatU f).map RI.s=flL f.body from Wb 1 0 false f.body];exact x6r.2 ⟨x,m,rfl⟩
  obtain⟨it,k,q⟩:=q4o (p:=p) (j:=j) u;rw[key it k x m q.symm];exact r it k
 .obtain ⟨x,m,q⟩:=Oa (JC k);rw[<-key it k x m q];exact r x m
def Ei(f:Pr):Ja f=(flatU f).flatMap (fun x=>x.s.F)++f.fin:=by
 unfold Ja;rw[<-show(flatU f).map RI.s=flL f.body from Wb 1 0 false f.body,List.flatMap_map]
def W0(p:Pg)(hf:Fit p)(K:YH p=true):SpecP prog 204 [.agg p.cells] (fun r=>fltR (∀j f,p.A[j]?=some f->DT p j f) r):=by
 refine sB MY func204 rfl call204 ?_;conv=>whnf
 obtain⟨hg,hpl,hcn⟩:=ZL K;have hpll:(p.A.map fun f=>AV.agg f.cells).length=p.A.length:=x6j _;repeat' (refine iM fun _=>?_;conv=>whnf)
 refine LoopK.inv QW (fun j:Nat=>⟨[(2,.ptr 1 0),(13,.p (.sl (p.A.map fun f=>.agg f.cells))),(14,.p (.int .i64 (p.A.map fun f=>AV.agg f.cells).length)),(15,.p (.int .i64 j))],[(1,.obj 85 [.p (.int .i64 0),.p (.int .i64 0)])]⟩) (fun j=>j<=p.A.length/\∀k f,k<j->p.A[k]?=some f->DT p k f) (fun j=>p.A.length-j) 0
  (Le.of_eq rfl) ⟨x6t _,fun k f h=>absurd h (z1o _)⟩ ?_
 rintro j ⟨h2,h3⟩;rcases x6c j p.A.length with hj|hj;rotate_left 1
 .conv=>whnf
  repeat' (first|(refine x6d rfl ?_;conv=>whnf)|(apply bD<;>intro _<;>first|omega|conv=>whnf))
  exact ZU ⟨fun _ k f w=>h3 k f (by have:=(x6n.1 w).1;omega) w,fun _=>rfl⟩
 have q:=x6o hj;obtain⟨w1,w2,w3,w4⟩:=S7 hf q;have hwp:=hf.pr q;have v:p.A[j]?=some p.A[j]:=x6k hj;have hF:=XI p.A[j];rw[FA K q]at hF;have hrl:(flatU p.A[j]).length<=200:=by rw[show flatU p.A[j]=fuL 1 0 false p.A[j].body from rfl,DX];have:=Xh _ _ q;omega
 have z:∀x∈flatU p.A[j],x.s.F.length<=21000:=fun x hx=>by
  have hmm:x.s∈flL p.A[j].body:=by
   rw[<-show(flatU p.A[j]).map RI.s=flL p.A[j].body from Wb 1 0 false _];exact x6r.2 ⟨_,hx,rfl⟩
  have C:=Ub _ _ hmm;have E:=H4 x.s;have h6:=YR x.s.F;unfold wPr at hwp;omega
 have G:=Qn p.A[j] (by rw[FA K q];exact z) w3;rw[FA K q,<-Ei]at G;have t:¬DT p j p.A[j]->¬∀j f,p.A[j]?=some f->DT p j f:=fun h h2=>h (h2 j _ v);have u:DT p j p.A[j]->∀k f,k<j+1->p.A[k]?=some f->DT p k f:=fun h k f w g=>by
  rcases x6c k j with C|C
  .exact h3 k f C g
  .obtain rfl:k=j:=by omega
   rw[v]at g;exact x8l g▸h
 rw[Cl K v]at t u;have J:=Ei p.A[j];have hld:∀x,Mr (flatU p.A[j]) p.A[j] x=if x.s.kind=7\/x.s.kind=8 then(R4 (flatU p.A[j]).reverse x.s.id).2 else if x.s.kind=10 then inS (Ja p.A[j]) x.s.name else true:=fun x=>rfl;have T:=fun id=>Qd (flatU p.A[j]) id;have Y:=fun x=>XX (Ja p.A[j]) x;generalize Mr (flatU p.A[j]) p.A[j]=ld at*
 generalize flatU p.A[j]=L at*
 generalize Ja p.A[j]=LB at*
 have hLl:=HS L;conv=>whnf
 repeat' (first|((first|(refine iM fun _=>?_)|refine x6d rfl ?_|(refine iA fun _=>?_)|refine cP hF ?_);conv=>whnf)|(apply bD<;>intro _<;>first|omega|conv=>whnf))
 refine LoopK.inv QW (fun x:Nat×List Str=>⟨[(2,.ptr 1 0),(4,.p (.ip p.A[j].cells)),(5,.hd 0 0 x.2.length),(6,.p (Na L)),(13,.p (.sl (p.A.map fun f=>.agg f.cells))),(14,.p (.int .i64 (p.A.map fun f=>AV.agg f.cells).length)),(15,.p (.int .i64 j)),(21,.p (Na L)),(22,.p (.int .i64 (L.map fun i=>AV.agg i.cells).length)),(23,.p (.int .i64 x.1))],[(0,.own 9 1 (x.2.map .str)),(1,.obj 85 [.p (.int .i64 0),.p (.int .i64 0)])]⟩) (fun x=>x.1<=L.length/\x.2=(L.take x.1).flatMap (fun x=>x.s.F)/\x.2.length<=21000*x.1/\x.2.Nodup/\∀y∈L.take x.1,ld y=true) (fun x=>L.length-x.1) (0,[])
  (Le.mk [(0,.own 9 1 [])] (by simp[Chunk.new0];rfl) (by simp) (by simp) (.r (.r (.cons (.nil x6g) (.r (.r (.r (.r (.r (.r (.r .nil)))))))))) (.new x6g (.cons rfl (.refl _) .nil))) ⟨x6t _,by simp,by simp,by simp,fun y h=>by rw[z0t]at h;cases h⟩ ?_
 rintro⟨k,m⟩ ⟨C,E,h6,h7,N⟩;simp only at C E h6 h7 N⊢;rcases x6c k L.length with w|w
 .have hlk:=z _ (x6o w);have Q:(L.take (k+1)).flatMap (fun x=>x.s.F)=m++L[k].s.F:=by rw[x7x w,z1g,<-E];simp
  have hT:=ZB (m++L[k].s.F);have R:=T L[k].s.id;have V:=Y L[k].s.name;have b:=hld L[k];have c:LB.Nodup->(m++L[k].s.F).Nodup:=fun h=>by
   rw[J,<-z1b (k+1) L,z1g,Q,x7n]at h;exact(x8b.1 h).1
  have B:∀{d:Int}{H:Heap},(ld L[k]=false\/XF (m++L[k].s.F)=true)->RetK H (.p (.agg [.int .i64 7,.int .i64 d])) (fun r=>fltR (∀j f,p.A[j]?=some f->DT p j f) r):=fun h=>by
   refine ZU ⟨fun h=>by omega,fun Z=>absurd Z (t fun⟨O,e⟩=>?_)⟩;rcases h with h|h
   .rw [O _ (x6o w)]at h;cases h
   .rw [WY.2 (c e)]at h;cases h
  have M:ld L[k]=true->∀y∈L.take (k+1),ld y=true:=fun h y hy=>by
   rcases(QC w).1 hy with O|rfl
   .exact N y O
   .exact h
  rw[<-WY]at c;rw[show eStrs (m++L[k].s.F)=AV.sl (m.map .str++L[k].s.F.map .str) by unfold eStrs;rw[x6l]]at hT;generalize I:m++L[k].s.F=al at hT B Q;have hall:al.length=m.length+L[k].s.F.length:=by rw[<-I];simp
  generalize(R4 L.reverse L[k].s.id).2=ar at*
  conv=>whnf
  repeat' (first|((first|refine dA ?_|refine x6d rfl ?_|refine aD ?_|(refine iA fun _=>?_)|refine wI ?_|refine ZS _ (by simp) (by simp;omega) ?_|(refine QB hT (.cons (.hd rfl (by simp)) .nil) (by rintro _ rfl;rfl) ?_;rintro _ rfl)|refine cP R ?_|refine cP G ?_|refine cP V ?_|refine cP (QE 7 _) ?_);conv=>whnf)|(apply bD<;>intro _<;>first|omega|conv=>whnf)|(apply bN<;>intro _<;>conv=>whnf)|(apply bB<;>intro _<;>conv=>whnf))
  all_goals first
   |exact B (.inr (by assumption))
   | (refine B (.inl ?_)
      rw[b];simp_all
      done)
   | (refine⟨(k+1,al),⟨by simp only;omega,by simp only;rw[Q],by simp only;omega,WY.1 (by assumption),M ?_⟩,by simp only;omega,Le.of_eq (by subst I;simp only[x6f,x6l,x6j];rfl)⟩
      rw[b];simp_all
      done)
 .rw [x7w w]at E N;have e2:LB=m++p.A[j].fin:=by rw[J,<-E]
  have hT:=ZB (m++p.A[j].fin);rw[show eStrs (m++p.A[j].fin)=AV.sl (m.map .str++p.A[j].fin.map .str) by unfold eStrs;rw[x6l]]at hT;conv=>whnf
  repeat' (first|((first|refine x6d rfl ?_|refine aD ?_|refine wI ?_|refine ZS _ (by simp) (by simp;omega) ?_|(refine QB hT (.cons (.hd rfl (by simp)) .nil) (by rintro _ rfl;rfl) ?_;rintro _ rfl)|refine cP (QE 7 0) ?_);conv=>whnf)|(apply bD<;>intro _<;>first|omega|conv=>whnf)|(apply bB<;>intro _<;>conv=>whnf))
  all_goals first
   | (refine ZU ⟨fun h=>by omega,fun Z=>absurd Z (t fun⟨O,e⟩=>?_)⟩
      rw[e2,<-WY]at e;simp_all
      done)
   | (refine⟨j+1,⟨by omega,u ⟨N,?_⟩⟩,by omega,Le.of_eq rfl⟩
      rw[e2,<-WY];assumption)
theorem fltR.yes{r:AV}(h:fltR P r)(m:P):∃d,r=PX 0 d:=by
 obtain⟨c,d,rfl,h⟩:=h;rw[h.2 m];exact⟨d,rfl⟩
theorem fltR.no{r:AV}(h:fltR P r)(m:¬P):∃c d,c≠0/\r=PX c d:=by
 obtain⟨c,d,rfl,h⟩:=h;exact⟨c,d,fun e=>m (h.1 e),rfl⟩
def Y0(p:Pg)(z:Fit p):SpecP prog 133 [.agg p.cells] (fun r=>fltR (QS p=true) r):=by
 refine sB Xw func133 rfl call133 ?_;conv=>whnf
 have s:=Za p z;by_cases m:(QA p).1=0;rotate_left 1
 .have s:=s.mono fun r h=>h.no m;have k:¬QS p=true:=fun h=>m (Ds.1 h).2.1;repeat' (first|((first|refine x6d rfl ?_|(refine CallK.pure s (.cons (Sub.refl _) .nil) ?_;rintro _ ⟨c,d,u,rfl⟩));conv=>whnf)|(apply bD<;>intro _<;>first|omega|conv=>whnf))
  all_goals first
   |(exfalso;omega)
   |exact ZU ⟨fun h=>absurd h u,fun h=>absurd h k⟩
 have s:=s.mono fun r h=>h.yes m;have b:=(WX m).1;have q:=Zi p b;rw[<-J5 m]at q;by_cases v:(VO p).1=0;rotate_left 1
 .have q:=q.mono fun r h=>h.no v;have k:¬QS p=true:=fun h=>v (Ds.1 h).2.2.1;repeat' (first|((first|refine x6d rfl ?_|(refine CallK.pure s (.cons (Sub.refl _) .nil) ?_;rintro _ ⟨d0,rfl⟩)|(refine CallK.pure q (.cons (Sub.refl _) .nil) ?_;rintro _ ⟨c,d,u,rfl⟩));conv=>whnf)|(apply bD<;>intro _<;>first|omega|conv=>whnf))
  all_goals first
   |(exfalso;omega)
   |exact ZU ⟨fun h=>absurd h u,fun h=>absurd h k⟩
 have q:=q.mono fun r h=>h.yes v;have t:=W0 p z b;rw[<-ON m]at t;by_cases y:(MH p).1=0;rotate_left 1
 .have t:=t.mono fun r h=>h.no y;have k:¬QS p=true:=fun h=>y (Ds.1 h).2.2.2.1;repeat' (first|((first|refine x6d rfl ?_|(refine CallK.pure s (.cons (Sub.refl _) .nil) ?_;rintro _ ⟨d0,rfl⟩)|(refine CallK.pure q (.cons (Sub.refl _) .nil) ?_;rintro _ ⟨d1,rfl⟩)|(refine CallK.pure t (.cons (Sub.refl _) .nil) ?_;rintro _ ⟨c,d,u,rfl⟩));conv=>whnf)|(apply bD<;>intro _<;>first|omega|conv=>whnf))
  all_goals first
   |(exfalso;omega)
   |exact ZU ⟨fun h=>absurd h u,fun h=>absurd h k⟩
 have t:=t.mono fun r h=>h.yes y;have hT:=NX p z m ((J5 m).1 v);rw[<-Am v]at hT;have w:QS p=true↔(HW p).1=0:=by
  rw[Ds];exact⟨fun h=>h.2.2.2.2,fun h=>⟨b,m,v,y,h⟩⟩
 repeat' (first|((first|refine x6d rfl ?_|(refine CallK.pure s (.cons (Sub.refl _) .nil) ?_;rintro _ ⟨d0,rfl⟩)|(refine CallK.pure q (.cons (Sub.refl _) .nil) ?_;rintro _ ⟨d1,rfl⟩)|(refine CallK.pure t (.cons (Sub.refl _) .nil) ?_;rintro _ ⟨d2,rfl⟩)|(refine CallK.pure hT (.cons (Sub.refl _) .nil) ?_;rintro _ ⟨c,d,rfl,u⟩));conv=>whnf)|(apply bD<;>intro _<;>first|omega|conv=>whnf))
 all_goals first
  |(exfalso;omega)
  |exact ZU (u.trans w.symm)
def Zc(p:Pg)(k:Fit p):SpecP prog 74 [.agg p.cells] (fun r=>r=.bool (QS p)):=by
 refine sB MQ func74 rfl call74 ?_;conv=>whnf
 repeat' (refine CallK.pure (Y0 p k) (.cons (Sub.refl _) .nil) ?_;rintro _ ⟨c,d,rfl,h⟩;conv=>whnf)
 all_goals
  refine RetK.bool ?_;first
  |rw[z0p,z0x];exact h
  |rw[z0p,x7s];exact h
def L9{p:Pg}{n:Str}{k:Nat}{f:Pr}(y:O3 p n=some (QQ p k f))(w:p.A[k]?=some f):QS p=true/\Ga p n=(f,true):=by
 obtain⟨t,u,h,v,s,_,m⟩:=Zp y;have q:(QQ p k f).j=(QQ p t u).j:=by rw[v]
 have r:k=t:=q;subst r;rw[w]at h;obtain rfl:=x8l h;refine⟨s,?_⟩;unfold Ga UE;rw[(QJ s).1,m];rfl
section
variable {p:Pg}{j:Nat}{f:Pr}{n:Str}
end
def q1l{p:Pg}(h:QS p=true){f:Pr}(s:f∈p.A):∃k,p.A[k]?=some f/\O3 p f.name=some (QQ p k f):=by
 cases q:O3 p f.name with
 | none=>
   exfalso;unfold O3 at q;rw[h,x7z]at q;cases t:p.A.find? (fun g=>g.name==f.name)with
   | none=>
     have:=z0v.1 t _ s;simp at this
   |some g=>rw[t]at q;cases q
 | some w=>
   obtain⟨k,g,m,rfl,_,r,_⟩:=Zp q;have u:g=f:=Ku (K8 h) g (x7j m) f s r;subst u;exact⟨k,m,rfl⟩
section
variable {p:Pg}{j:Nat}{f:Pr}
end
section
variable {p:Pg}{j:Nat}{f:Pr}
end
def q9y{p:Pg}(h:Fit p){f:Pr}(q:f∈p.A):∀t∈flL f.body,okC t:=fun t s=>by
 have k:=h.pr q;unfold wPr at k;have v:=Ub _ _ s;have w:=H4 t;have y:=YR t.F;have z:=YO t.args;refine⟨by omega,by omega,by omega,fun a m=>?_⟩;have key:∀(l:List Arg),a∈l->wX a.x<=Zb l:=fun l=>by
  induction l with
  |nil=>intro h;cases h
  | cons b r u=>
    intro h;rw[Zb];rcases x6m.1 h with rfl|h
    .omega
    .have:=u h;omega
 have:=key _ m;omega
def q6h{p:Pg}(h:Fit p)(q:QS p=true):p.A.length<=1000/\p.B.length<=1000000/\∀f∈p.A,f.E.length<=1000000/\f.fin.length<=1000000/\f.C.length<=1000000/\cntL f.body<=1000000/\∀t∈flL f.body,okC t:=by
 obtain⟨r,s,u⟩:=XZ q;refine⟨by omega,by omega,fun f k=>?_⟩;have m:=h.pr k;unfold wPr at m;have v:=YR f.E;have w:=YR f.fin;have y:=SD f.C;have z:=Nr f.body;exact⟨by omega,by omega,by omega,by omega,q9y h k⟩
def bkO(p:Pg)(O:List (List Str)):Book:=⟨sheetOf p,[],[],[],[],O⟩
def prA(p:Pg)(i:Nat):Pr:=p.A.getD i Pr0
def Fy{p:Pg}{i:Nat}(h:i<p.A.length):p.A[i]?=some (prA p i):=by
 unfold prA;rw[x6h,x6k h];rfl
def WP{p:Pg}{i:Nat}{f:Pr}(h:p.A[i]?=some f):prA p i=f:=by
 unfold prA;rw[x6h,h];rfl
def dfB(p:Pg)(O:List (List Str)):List (List Str):=(sheetOf p).l.map fun it=>WN (PQ (bkO p O) it.s)
def otA(p:Pg)(D:List (List Str))(i:Nat):List Str:=WN (R6 p i (prA p i) D (itsOf p i (prA p i)))
def otB(p:Pg)(D:List (List Str)):List (List Str):=(List.range p.A.length).map (otA p D)
def rdO(p:Pg)(O:List (List Str)):List (List Str):=otB p (dfB p O)
def itO(p:Pg):Nat->List (List Str)
 |0=>List.replicate p.A.length []
 |k+1=>rdO p (itO p k)
def HC{l:List Str}(h:l.Pairwise ltT):l.Nodup:=List.Pairwise.imp (S:=fun a b=>a≠b) (fun {a b} (k:ltT a b)=>fun(m:a=b)=>Qq b (by rw[m]at k;exact k)) h
def Kf(l:List Str):(WN l).length<=l.length:=DH (HC (JO l)) fun s h=>WM.1 h
structure OkO(p:Pg)(O:List (List Str)):Prop where
 len:O.length=p.A.length
 rise:∀o∈O,o.Pairwise ltT
 sub:∀i,i<p.A.length->∀n∈O.getD i [],outB p (prA p i) n=true
def Xs{O:List (List Str)}(h:∀o∈O,o.Pairwise ltT)(i:Nat):(O.getD i []).Pairwise ltT:=by
 rw[x6h];rcases x6c i O.length with k|k
 .rw [x6k k];exact h _ (x6o k)
 .rw [x7a k];exact .nil
def Y1{p:Pg}{n:Str}:comB p n=true↔n=WO\/n∈p.B:=by
 unfold comB;simp only[z1q,z0x,x8z,exists_eq_right']
def Bn{p:Pg}{f:Pr}{n:Str}:outB p f n=true↔(n=WO\/n∈p.B)\/(⟨n,true⟩:Param)∈f.C:=by
 unfold outB;rw[z1q,Y1,x7s]
def V0{p:Pg}(h:QS p=true)(i:Nat):(prA p i).C.length<=8:=by
 rcases x6c i p.A.length with k|k
 .exact (HM.1 (EJ (QJ h).1 (x7j (Fy k)))).1
 .unfold prA;rw[x6h,x7a k];decide
theorem OkO.len25{p:Pg}{O:List (List Str)}(t:QS p=true)(h:OkO p O)(i:Nat):(O.getD i []).length<=25:=by
 rcases x6c i p.A.length with r|r
 .have u:=DH (m:=WO::p.B++(prA p i).C.map Param.name) (HC (Xs h.rise i)) fun n v=>by
   rcases Bn.1 (h.sub i r n v)with(rfl|q)|q
   .exact x7e _ x6g
   .exact x7e _ (x6b _ q)
   .exact x8u _ (x6r.2 ⟨_,q,rfl⟩)
  have q:=V0 t i;have w:=(XZ t).1;rw[x6f,x7g,x6j]at u;omega
 .rw [x6h,x7a (by rw[h.len];exact r)];exact x6t _
def FL{p:Pg}(h:QS p=true){t:S}(B:t∈VJ p)(b:t.kind=4):∃k,k<p.A.length/\caI p t=(k:Nat)/\caP p t=prA p k/\(prA p k).name=t.D/\(prA p k).C.map Param.ref=t.args.map Arg.ref:=by
 obtain⟨_,g,d,_⟩:=QJ h;have u:=(J5 g).1 d t B b;unfold YV at u;rw[x7y]at u;have m:=u.2;cases s:p.A.find? (fun f=>f.name==t.D)with
 |none=>rw[s]at m;cases m
 | some f=>
   rw[s]at m;have e:t.D∈procsN p:=x6r.2 ⟨f,x9n s,by simpa using z1x s⟩;obtain⟨k,w,z,_,v,c⟩:=Wa e;rw[s]at v;have r:p.A[k]=f:=(x8l v).symm;have y:prA p k=f:=by rw[<-r];exact WP (x6k w)
   have q:caI p t=(k:Nat):=z;refine⟨k,w,q,?_,?_,?_⟩
   .unfold caP;rw[q];rfl
   .rw [y,<-r];exact c
   .rw [y];unfold Kl at m;exact of_decide_eq_true m
def Xj{p:Pg}(h:QS p=true){t:S}(u:t∈VJ p)(r:t.kind=4):t.args.length=(caP p t).C.length/\t.args.length<=8:=by
 obtain⟨k,_,_,m,_,q⟩:=FL h u r;have s:=x8m length q;rw[x6j,x6j]at s;have:=V0 h k;rw[m];omega
theorem OkO.call{p:Pg}{O:List (List Str)}(m:QS p=true)(h:OkO p O){b:Book}(w:b.s=sheetOf p)(u:b.N=O){t:S}(v:t∈VJ p)(q:t.kind=4):CallOk b t:=by
 obtain⟨k,A,y,z,_⟩:=FL m v q;obtain⟨c,g⟩:=Xj m v q;have e:b.s.p=p:=by rw[w];exact(QY p).1
 have r:caO b t=O.getD (caI p t).toNat []:=by unfold caO;rw[e,u]
 refine⟨by rw[e];omega,by rw[e];omega,by rw[e,u,h.len];exact x7u _,?_,?_,by rw[e];omega,by omega⟩
 .rw [r];exact Xs h.rise _
 .rw [r];have:=h.len25 m (caI p t).toNat;omega
def AP{p:Pg}{O:List (List Str)}{b:Book}(k:b.s=sheetOf p)(h:b.N=O)(t:S):PQ b t=PQ (bkO p O) t:=by
 unfold PQ caO bkO;rw[k,h]
def Do{p:Pg}{O:List (List Str)}(k:QS p=true)(h:OkO p O){t:S}(q:t∈VJ p):(PQ (bkO p O) t).length<=34:=by
 unfold PQ
 (repeat' split)<;>try (simp;done)
 rename_i m;have w:=Sc t (caP p t) (caO (bkO p O) t) t.args.length;have r:=(Xj k q m).2;have s:=h.len25 k (caI p t).toNat;have u:((caO (bkO p O) t).filter (comB p)).length<=(O.getD (caI p t).toNat []).length:=z0z _ _;show((if t.name=[]then []else [t.name])++CF t (caP p t) (caO (bkO p O) t) t.args.length++(caO (bkO p O) t).filter (comB p)).length<=34;rw[x6f,x6f];have v:(if t.name=[]then []else [t.name]).length<=1:=by split<;>simp
 omega
def Ro(p:Pg)(O:List (List Str)):(dfB p O).length=(sheetOf p).l.length:=x6j _
def leO(O O':List (List Str)):Prop:=∀i n,n∈O.getD i []->n∈O'.getD i []
def Zq{t:S}{f:Pr}{O:List Str}{n:Str}:n∈CF t f O t.args.length ↔ ∃x∈(t.args.zip f.C).take t.args.length,(x.1.ref=true/\x.2.name∈O)/\x.1.name=n:=by
 unfold CF x0m;simp only[x6r,x7o,x7y,JG,and_assoc]
def AN{p:Pg}{O:List (List Str)}(h:leO O O'){t:S}{n:Str}(k:n∈PQ (bkO p O) t):n∈PQ (bkO p O') t:=by
 unfold PQ at k⊢
 (repeat' split at k)
 .rw [if_pos (by assumption)];exact k
 .rw [if_neg (by assumption),if_pos (by assumption)];exact k
 .rw [if_neg (by assumption),if_neg (by assumption),if_pos (by assumption)];exact k
 .rw [if_neg (by assumption),if_neg (by assumption),if_neg (by assumption),if_pos (by assumption)];unfold Rs at k⊢;rcases x6s.1 k with k|k
  .rcases x6s.1 k with k|k
   .exact x7e _ (x7e _ k)
   .refine x7e _ (x8u _ ?_);obtain⟨x,m,⟨q,r⟩,s⟩:=Zq.1 k;exact Zq.2 ⟨x,m,⟨q,h _ _ r⟩,s⟩
  .obtain ⟨m,q⟩:=x7o.1 k;exact x8u _ (x7o.2 ⟨h _ _ m,q⟩)
 .cases k
def GV{α β:Type}{f:α->List β}{l:List α}{i:Nat}{n:β}:n∈(l.map f).getD i [] ↔ ∃x,l[i]?=some x/\n∈f x:=by
 rw[x6h,x6a];cases l[i]?with
 |none=>simp
 |some x=>simp
def Oy{p:Pg}{O:List (List Str)}(h:leO O O'):leO (dfB p O) (dfB p O'):=fun i n q=>by
 obtain⟨it,k,m⟩:=GV.1 q;exact GV.2 ⟨it,k,WM.2 (AN h (WM.1 m))⟩
def lvB(p:Pg)(i:Nat)(id:Int):Bool:=(QQ p i (prA p i)).live.getD (ixI p i (prA p i) id).toNat false
def q0j{p:Pg}{i:Nat}{D:List (List Str)}{n:Str}:n∈R6 p i (prA p i) D (itsOf p i (prA p i)) ↔ ∃it∈itsOf p i (prA p i),lvB p i it.s.id=true/\n∈Xd D it.s.id/\outB p (prA p i) n=true:=by
 unfold R6;rw[x8w];refine exists_congr fun it=>and_congr_right fun _=>?_;unfold q9g lvB;cases(QQ p i (prA p i)).live.getD (ixI p i (prA p i) it.s.id).toNat false with
 |false=>simp
 |true=>simp[x7o]
def Kj{p:Pg}{D:List (List Str)}{i:Nat}(m:i<p.A.length){n:Str}:n∈(otB p D).getD i [] ↔ ∃it∈itsOf p i (prA p i),lvB p i it.s.id=true/\n∈Xd D it.s.id/\outB p (prA p i) n=true:=by
 unfold otB;rw[GV,<-q0j];constructor
 .rintro ⟨x,k,q⟩;rw[x9b m]at k;cases k;exact WM.1 q
 .exact fun h=>⟨i,x9b m,WM.2 h⟩
def q0y{p:Pg}{D q:List (List Str)}(h:leO D q):leO (otB p D) (otB p q):=fun i n r=>by
 rcases x6c i p.A.length with m|m
 .obtain ⟨it,k,s,t,u⟩:=(Kj m).1 r;exact(Kj m).2 ⟨it,k,s,h _ _ t,u⟩
 .obtain ⟨x,k,_⟩:=GV.1 r;rw[x7a (by simpa using m)]at k;cases k
def q0m{p:Pg}{O:List (List Str)}(h:leO O O'):leO (rdO p O) (rdO p O'):=q0y (Oy h)
theorem q2n(p:Pg):∀k,leO (itO p k) (itO p (k+1))
 | 0=>fun i n h=>by
   unfold itO at h;rw[x6h,x7c]at h;split at h<;>cases h
 |k+1=>q0m (q2n p k)
def q2s(p:Pg)(D:List (List Str)):OkO p (otB p D):=by
 refine⟨by unfold otB;rw[x6j,x9c],fun o q=>?_,fun i k n m=>?_⟩
 .obtain ⟨i,_,rfl⟩:=x6r.1 q;exact JO _
 .obtain ⟨it,_,_,_,h⟩:=(Kj k).1 m;exact h
def Jl(p:Pg):∀k,OkO p (itO p k)
 | 0=>by
   refine⟨by unfold itO;rw[x8j],fun o m=>?_,fun i q n h=>?_⟩
   .rw [z0q m];exact .nil
   .unfold itO at h;rw[x6h,x7c]at h;split at h<;>cases h
 |k+1=>q2s p _
def tot(O:List (List Str)):Nat:=(O.map length).sum
def OS{a b:List Str}{O:List (List Str)}(h:leO (a::O) (b::O')):(∀n∈a,n∈b)/\leO O O':=⟨fun n k=>h 0 n k,fun i n k=>h (i+1) n k⟩
def q1j{a b:List Str}(q:a.Pairwise ltT)(t:b.Pairwise ltT)(r:∀n∈a,n∈b)(v:b.length<=a.length):a=b:=by
 refine Bs Qq ltT.trans q t fun s=>⟨r s,fun h=>?_⟩;refine z0k fun u=>?_;have:=DH (l:=s::a) (m:=b) (x8k.2 ⟨u,HC q⟩) fun n k=>by
  rcases x6m.1 k with rfl|k
  .exact h
  .exact r n k
 rw[x7g]at this;omega
theorem Ii:∀{O O':List (List Str)},O.length=O'.length->(∀o∈O,o.Pairwise ltT)->(∀o∈O',o.Pairwise ltT)->leO O O'->tot O<=tot O'/\(tot O'<=tot O->O=O')
 |[],[],_,_,_,_=>⟨x7u _,fun _=>rfl⟩
 |[],_::_,h,_,_,_=>by cases h
 |_::_,[],h,_,_,_=>by cases h
 | a::O,b::O',hl,h1,h2,h=>by
   obtain⟨m,r⟩:=OS h;obtain⟨u,s⟩:=Ii (O:=O) (O':=O') (by simpa using hl) (fun o k=>h1 o (x6b _ k)) (fun o k=>h2 o (x6b _ k)) r;have q:=h1 a x6g;have t:=h2 b x6g;have v:=DH (HC q) m;have e:∀(x:List Str)(l:List (List Str)),tot (x::l)=x.length+tot l:=fun x l=>by unfold tot;rw[x7l,sum_cons]
   rw[e,e];exact⟨by omega,fun w=>by rw[q1j q t m (by omega),s (by omega)]⟩
theorem Pq:∀{O:List (List Str)},(∀o∈O,o.length<=25)->tot O<=25*O.length
 |[],_=>x7u _
 | a::O,h=>by
   have m:=Pq (O:=O) fun o k=>h o (x6b _ k);have q:=h a x6g;have e:tot (a::O)=a.length+tot O:=by unfold tot;rw[x7l,sum_cons]
   rw[e,x7g];omega
theorem OkO.tot{p:Pg}{O:List (List Str)}(m:QS p=true)(h:OkO p O):Go.Ab.tot O<=400:=by
 have q:=Pq (O:=O) fun o t=>by
  obtain⟨i,r,rfl⟩:=x8v.1 t;have:=h.len25 m i
  rwa[x6h,x6k r]at this
 have u:=(XZ m).2.1;rw[h.len]at q;omega
def S4{p:Pg}{k:Nat}(h:itO p (k+1)≠itO p k):Go.Ab.tot (itO p k)<Go.Ab.tot (itO p (k+1)):=by
 obtain⟨r,q⟩:=Ii (O:=itO p k) (O':=itO p (k+1)) (by rw[(Jl p k).len,(Jl p (k+1)).len]) (Jl p k).rise (Jl p (k+1)).rise (q2n p k);rcases x6c (Go.Ab.tot (itO p k)) (Go.Ab.tot (itO p (k+1)))with m|m
 .exact m
 .exact absurd (q m).symm h
section
variable (p:Pg)(i:Nat)(f:Pr)(D U:List (List Str))(o:List Str)(x:Str)
def idN(a:Int):Int:=ZM p i (cntL f.body+2:Nat) a
def hitN(a:Int):Bool:=bif decide (a=(cntL f.body+2:Nat)-1)then inS o x else bif decide (0<a)then inS (Xd U (idN p i f a)) x else false
def Z6(a:Int):Bool:=bif decide (a=(cntL f.body+2:Nat)-1)then false else bif decide (0<a)then !inS (Xd D (idN p i f a)) x else true
def netR(p:Pg)(i:Nat)(f:Pr):List (List Int):=Z5 (cntL f.body+2) (GC (QQ p i f) f)
def x1o:List (Int×Int):=(GC (QQ p i f) f).filter fun t=>Z6 p i f D x t.1
def A9:Bool:=(DS 0 (ZO (QO (cntL f.body+2) (x1o p i f D x)).1 [0])).any (hitN p i f U o x)
end
section
variable {p:Pg}{i:Nat}{f:Pr}{D U:List (List Str)}{o:List Str}{x:Str}
def nR(p:Pg)(i:Nat)(f:Pr)(D:List (List Str))(x:Str)(a b:Int):Prop:=Z6 p i f D x a=true/\(a,b)∈GC (QQ p i f) f
def Z3(h:QS p=true)(q:p.A[i]?=some f):A9 p i f D U o x=true ↔ ∃a,Rch (nR p i f D x) 0 a/\hitN p i f U o x a=true:=by
 unfold A9;rw[x8z];refine exists_congr fun a=>and_congr_left fun _=>?_;rw[Jb (by omega)];have e:∀a b,((a,b)∈x1o p i f D x/\WV (cntL f.body+2) b=true)↔nR p i f D x a b:=fun a b=>by
  unfold x1o nR;rw[x7o];constructor
  .exact fun k=>⟨k.1.2,k.1.1⟩
  .intro k;have m:=(PM h q _ k.2).2;exact⟨⟨k.2,k.1⟩,by unfold WV;simp;omega⟩
 exact⟨fun k=>k.mono fun a b m=>(e a b).1 m,fun k=>k.mono fun a b m=>(e a b).2 m⟩
def T0(h:QS p=true)(t:p.A[i]?=some f){S:Int->Prop}(m:S 0)(q:∀a,S a->hitN p i f U o x a=false)(r:∀a b,S a->nR p i f D x a b->S b):A9 p i f D U o x=false:=by
 cases u:A9 p i f D U o x with
 |false=>rfl
 | true=>
   obtain⟨a,s,k⟩:=(Z3 h t).1 u;rw[q a (Rch.closed r m s)]at k;cases k
structure NedI(p:Pg)(i:Nat)(f:Pr)(D U:List (List Str))(o:List Str)(x:Str)(n:Nat)(seen:List Bool)(todo:List Int):Prop where
 len:seen.length=n
 rng:∀a∈todo,0<=a/\a<(n:Int)
 way:∀a:Int,(a=0\/seen.getD a.toNat false=true/\0<=a)->Rch (nR p i f D x) 0 a
 td:∀a∈todo,a=0\/seen.getD a.toNat false=true/\0<=a
 done:∀a:Int,(a=0\/seen.getD a.toNat false=true/\0<=a)->a∉todo->hitN p i f U o x a=false/\∀b,nR p i f D x a b->seen.getD b.toNat false=true
structure NedJ(p:Pg)(i:Nat)(f:Pr)(D U:List (List Str))(o:List Str)(x:Str)(n:Nat)(a:Int)(k:Nat)(seen:List Bool)(todo:List Int):Prop where
 len:seen.length=n
 rng:∀a∈todo,0<=a/\a<(n:Int)
 way:∀a:Int,(a=0\/seen.getD a.toNat false=true/\0<=a)->Rch (nR p i f D x) 0 a
 td:∀a∈todo,a=0\/seen.getD a.toNat false=true/\0<=a
 me:Rch (nR p i f D x) 0 a
 done:∀b:Int,(b=0\/seen.getD b.toNat false=true/\0<=b)->b∉todo->b≠a->hitN p i f U o x b=false/\∀c,nR p i f D x b c->seen.getD c.toNat false=true
 row:∀c∈((netR p i f).getD a.toNat []).take k,seen.getD c.toNat false=true
def q6y{k:Nat}(h:(l.set k true).getD j false=true):j=k\/l.getD j false=true:=by
 rcases Nat.decEq j k with m|rfl
 .right
  rwa[x6h,x9v (z1f m),<-x6h]at h
 .exact .inl rfl
def RH{k:Nat}(h:l.getD j false=true):(l.set k true).getD j false=true:=by
 rcases Nat.decEq j k with q|rfl
 .rwa [x6h,x9v (z1f q),<-x6h]
 .have r:j<l.length:=by
   rcases x6c j l.length with m|m
   .exact m
   .rw [x6h,x7a m]at h;cases h
  rw[x6h,z0u r];rfl
def q3x{k:Nat}(h:k<l.length):(l.set k true).getD k false=true:=by
 rw[x6h,z0u h];rfl
variable {n:Nat}{seen:List Bool}{todo:List Int}{a:Int}
theorem NedI.start(n:Nat)(r:0<n):NedI p i f D U o x n (List.replicate n false) [0]:=by
 have q:∀k:Nat,(List.replicate n false).getD k false=true->False:=fun k h=>by
  rw[x6h,x7c]at h;split at h<;>cases h
 refine⟨x8j,fun a m=>by rw[x6p.1 m];omega,fun a m=>?_,fun a m=>.inl (x6p.1 m),fun a m r=>?_⟩
 .rcases m with rfl|⟨h,_⟩
  .exact .refl
  .exact (q _ h).elim
 .rcases m with rfl|⟨h,_⟩
  .exact absurd (x6p.2 rfl) r
  .exact (q _ h).elim
theorem NedI.stop(h:QS p=true)(t:p.A[i]?=some f)(q:NedI p i f D U o x n seen []):A9 p i f D U o x=false:=by
 refine T0 h t (S:=fun a=>a=0\/seen.getD a.toNat false=true/\0<=a) (.inl rfl) (fun a m=>(q.done a m (by simp)).1) fun a b m r=>?_;have u:=(q.done a m (by simp)).2 b r;have v:=(PM h t _ r.2).2;exact .inr ⟨u,v.1⟩
theorem NedI.skip(m:NedI p i f D U o x n seen (todo++[a]))(v:hitN p i f U o x a=false)(t:Z6 p i f D x a=false):NedI p i f D U o x n seen todo:=by
 refine⟨m.len,fun b q=>m.rng b (x7e _ q),m.way,fun b q=>m.td b (x7e _ q),fun b q y=>?_⟩;by_cases u:b=a
 .subst u;exact⟨v,fun c w=>by rw[w.1]at t;cases t⟩
 .exact m.done b q fun r=>(x6s.1 r).elim y fun r=>u (x6p.1 r)
theorem NedI.open(m:NedI p i f D U o x n seen (todo++[a])):NedJ p i f D U o x n a 0 seen todo:=
 ⟨m.len,fun b q=>m.rng b (x7e _ q),m.way,fun b q=>m.td b (x7e _ q),m.way a (m.td a (x8u _ (x6p.2 rfl))),
   fun b q v u=>m.done b q fun r=>(x6s.1 r).elim v fun r=>u (x6p.1 r),fun c t=>by rw[z0t]at t;cases t⟩
theorem NedJ.shut(h:QS p=true)(u:p.A[i]?=some f){k:Nat}(m:NedJ p i f D U o x n a k seen todo)(y:((netR p i f).getD a.toNat []).length<=k)(v:hitN p i f U o x a=false):NedI p i f D U o x n seen todo:=by
 refine⟨m.len,m.rng,m.way,m.td,fun b w z=>?_⟩;by_cases r:b=a
 .subst r;refine⟨v,fun c q=>m.row c ?_⟩;rw[x7w y];exact(Kz fun t e=>(PM h u t e).1).2 ⟨(b,c),q.2,by have:=(PM h u _ q.2).1;simp only at this⊢;omega,rfl⟩
 .exact m.done b w z r
theorem NedJ.old{k:Nat}(m:NedJ p i f D U o x n a k seen todo)(t:k<((netR p i f).getD a.toNat []).length)(u:seen.getD (((netR p i f).getD a.toNat [])[k]).toNat false=true):NedJ p i f D U o x n a (k+1) seen todo:=by
 refine⟨m.len,m.rng,m.way,m.td,m.me,m.done,fun c r=>?_⟩;rcases(QC t).1 r with q|rfl
 .exact m.row c q
 .exact u
theorem NedJ.new{k:Nat}(r:NedJ p i f D U o x n a k seen todo)(C:k<((netR p i f).getD a.toNat []).length){c:Int}(g:c=((netR p i f).getD a.toNat [])[k])(z:0<=c/\c<(n:Int))(e:nR p i f D x a c):NedJ p i f D U o x n a (k+1) (seen.set c.toNat true) (todo++[c]):=by
 have w:c.toNat<seen.length:=by rw[r.len];omega
 have u:∀b:Int,(b=0\/(seen.set c.toNat true).getD b.toNat false=true/\0<=b)->b=c\/(b=0\/seen.getD b.toNat false=true/\0<=b):=fun b q=>by
  rcases q with m|⟨m,t⟩
  .exact .inr (.inl m)
  .rcases q6y m with v|v
   .exact .inl (by omega)
   .exact .inr (.inr ⟨v,t⟩)
 refine⟨by rw[x8i];exact r.len,fun b q=>?_,fun b q=>?_,fun b q=>?_,r.me,fun b q y B=>?_,fun b q=>?_⟩
 .rcases x6s.1 q with m|m
  .exact r.rng b m
  .rw [x6p.1 m];exact z
 .rcases u b q with rfl|m
  .exact .tail r.me e
  .exact r.way b m
 .rcases x6s.1 q with m|m
  .rcases r.td b m with t|t
   .exact .inl t
   .exact .inr ⟨RH t.1,t.2⟩
  .rw [x6p.1 m];exact .inr ⟨q3x w,z.1⟩
 .rcases u b q with rfl|m
  .exact absurd (x8u _ (x6p.2 rfl)) y
  .obtain ⟨t,v⟩:=r.done b m (fun h=>y (x7e _ h)) B;exact⟨t,fun d A=>RH (v d A)⟩
 .rcases (QC C).1 q with m|m
  .exact RH (r.row b m)
  .rw [m,<-g];exact q3x w
end
def TA(p:Pg)(i:Nat)(f:Pr)(D U:List (List Str))(o:List Str):List Str:=(p.B++[WO]).filter (A9 p i f D U o)
def fzL{N:Nat}{a b c d e:AV}{L:List Str}{n:Nat}(m:n=(L.map AV.str).length):
  Le N ⟨[(0,.p a),(1,.p b),(5,.p .nils),(6,.p c),(27,.hd 0 0 n),(28,.p d),(29,.p e)],[(0,.own 9 1 (L.map .str))]⟩ ⟨[(0,.p a),(1,.p b),(5,.hd 0 0 0),(6,.p c),(27,.p (eStrs L)),(28,.p d),(29,.p e)],[(0,.own 9 1 [])]⟩:=by
 subst m;obtain⟨s',rfl,h⟩:=Le.row (N:=N) (s:=⟨[(0,.p a),(1,.p b),(5,.p .nils),(6,.p c),(27,.hd 0 0 (L.map AV.str).length),(28,.p d),(29,.p e)],[(0,.own 9 1 (L.map .str))]⟩) (k:=0) (e:=9) (sz:=1) (es:=L.map .str) (zs:=[27]) rfl
  (K:=fun s=>s=⟨[(0,.p a),(1,.p b),(5,.p .nils),(6,.p c),(27,.p (eStrs L)),(28,.p d),(29,.p e)],[]⟩) ⟨rfl,rfl⟩
 exact h.trans (Le.mk [(0,.own 9 1 [])] (by simp[Chunk.new0];rfl) (by simp) (by simp) (.r (.r (.cons (.nil x6g) (.r (.r (.r (.r .nil))))))) (.new x6g .nil))
def B5(b:Book)(p:Pg)(Y:b.s=sheetOf p)(h:QS p=true)(i:Nat)(f:Pr)(m:p.A[i]?=some f)(R:b.ways[i]?=some (QQ p i f))(o:List Str)(O:∀x,SpecP prog 171 [.ip b.cells,.int .i64 i,Gz (netR p i f),.str x] (fun r=>r=.bool (A9 p i f b.M b.P o x))):SpecH prog 99 [.p (.ip b.cells),.p (.int .i64 i)] [] (fun r H=>OneRow (Gy (TA p i f b.M b.P o)) False r H):=by
 refine sH Yb func99 rfl call99 ?_;conv=>whnf
 have G:b.s.p=p:=by rw[Y];exact(QY p).1
 have hg:=(XZ h).1;have T:=TY h m;have F:=Td (QQ p i f) f (cntL f.body+2) (x0r h m) (PM h m) (by omega);have z:SpecP prog 169 [.ip (QQ p i f).cells] (fun r=>r=Gz (netR p i f)):=F;have E:SpecH prog 170 ([eStrs p.B].map .p) [] (OneRow (Gy p.B) (p.B=[])):=WR p.B (by omega);have I:(b.ways.map fun w=>AV.ip w.cells)[i]?=some (.ip (QQ p i f).cells):=by rw[x6a,R];rfl
 generalize QQ p i f=w at*
 generalize netR p i f=net at*
 repeat' ((first|(refine IdxK.at (k:=i) rfl I rfl ?_)|refine cP z ?_);conv=>whnf)
 obtain⟨L,C⟩ : ∃L,L=p.B++[WO]:=⟨_,rfl⟩;have N:L.length<=17:=by rw[C,x6f];simp;omega
 have c:TA p i f b.M b.P o=L.filter (A9 p i f b.M b.P o):=by unfold TA;rw[C]
 rw[c];generalize A9 p i f b.M b.P o=ned at*
 refine JA 0 rfl E (.cons (.p (Sub.of_eq (by rw[G]))) .nil) (fun d=>?_) (fun q e sz es Q=>?_);rotate_left;obtain⟨rfl,rfl,rfl⟩:=Q
 rotate_right
 all_goals
  conv=>whnf
  repeat' ((first|(refine iM fun _=>?_)|refine x6d rfl ?_|refine aD ?_|refine bP ?_|refine QP (es:=[]) rfl (by simp) ?_|refine QP (by simp) (by simp;omega) ?_);conv=>whnf)
 all_goals
  refine LoopK.inv QW (fun x:Nat×List Str=>⟨[(0,.p (.ip b.cells)),(1,.p (.int .i64 i)),(5,.hd 0 0 x.2.length),(6,.p (Gz net)),(27,.p (eStrs L)),(28,.p (.int .i64 (L.map AV.str).length)),(29,.p (.int .i64 x.1))],[(0,.own 9 1 (x.2.map .str))]⟩) (fun x=>x.1<=L.length/\x.2=(L.take x.1).filter ned/\x.2.length<=x.1) (fun x=>L.length-x.1) (0,[])
   (by first
     |exact Le.trans (Le.of_eq (by rw[C,d];rfl)) (fzL (L:=L) rfl)
     |exact Le.trans (Le.of_eq (by rw[C];simp only[x6l,x6f];rfl)) (fzL (L:=L) rfl)
     |trace_state) ⟨x6t _,by simp,by simp⟩ ?_
  rintro⟨j,u⟩ ⟨J,v,K⟩;simp only at J v K⊢;have V:(L.map AV.str).length=L.length:=x6j _;rcases x6c j L.length with m|m
  .have g:=x7x m;have y:=O L[j];have Z:(L.map AV.str)[j]?=some (.str L[j]):=by simp[m]
   cases t:ned L[j];all_goals
    rw[t]at y;conv=>whnf
    repeat' (first|((first|refine x6d rfl ?_|refine aD ?_|refine bP ?_|(refine iA fun _=>?_)|refine wI ?_|refine cP y ?_|refine QP (by simp) (by rw[x6j];omega) ?_|refine Br.tt ?_|refine Br.ff ?_);conv=>whnf)|(apply bD<;>intro _<;>first|omega|conv=>whnf))
   all_goals first
    |exact⟨(j+1,u++[L[j]]),⟨m,by simp only;rw[g,x9t,x9j t,v];rfl,by simp;omega⟩,by simp only;omega,Le.of_eq (by simp only[x6f,x6l];rfl)⟩
    |exact⟨(j+1,u),⟨m,by simp only;rw[g,x9t,x9f (by rw[t];decide),v];simp,by simp only;omega⟩,by simp only;omega,Le.of_eq rfl⟩
  .rw [x7w m]at v;subst v;conv=>whnf
   repeat' (apply bD<;>intro _<;>first|omega|conv=>whnf)
   all_goals exact x8y _ (x6e _) (OneRow.str rfl)
def bkI(p:Pg)(I:List (List Str)):Book:=⟨sheetOf p,[],[],[],I,[]⟩
def usB(p:Pg)(I:List (List Str)):List (List Str):=(sheetOf p).l.map fun it=>WN (Vh (bkI p I) it.s)
def niA(p:Pg)(D U O:List (List Str))(i:Nat):List Str:=WN (TA p i (prA p i) D U (O.getD i []))
def niB(p:Pg)(D U O:List (List Str)):List (List Str):=(List.range p.A.length).map (niA p D U O)
def rdI(p:Pg)(D O I:List (List Str)):List (List Str):=niB p D (usB p I) O
def itI(p:Pg)(D O:List (List Str)):Nat->List (List Str)
 |0=>List.replicate p.A.length []
 |k+1=>rdI p D O (itI p D O k)
structure OkI(p:Pg)(I:List (List Str)):Prop where
 len:I.length=p.A.length
 rise:∀o∈I,o.Pairwise ltT
 sub:∀i,∀n∈I.getD i [],comB p n=true
theorem OkI.len25{p:Pg}{I:List (List Str)}(t:QS p=true)(h:OkI p I)(i:Nat):(I.getD i []).length<=25:=by
 have q:=DH (m:=WO::p.B) (HC (Xs h.rise i)) fun n u=>by
  rcases Y1.1 (h.sub i n u)with rfl|r
  .exact x6g
  .exact x6b _ r
 have v:=(XZ t).1;rw[x7g]at q;omega
theorem OkI.use{p:Pg}{I:List (List Str)}(m:QS p=true)(h:OkI p I){b:Book}(w:b.s=sheetOf p)(r:b.ins=I){t:S}(u:t∈VJ p)(q:t.kind=4):UseOk b t:=by
 obtain⟨k,c,y,_⟩:=FL m u q;have z:=(Xj m u q).2;have e:b.s.p=p:=by rw[w];exact(QY p).1
 have v:inAt b t=I.getD (caI p t).toNat []:=by unfold inAt;rw[e,r]
 refine⟨by rw[e];omega,by rw[e,r,h.len];omega,by omega,?_⟩;rw[v];have:=h.len25 m (caI p t).toNat;omega
def IF{p:Pg}{I:List (List Str)}{b:Book}(k:b.s=sheetOf p)(h:b.ins=I)(t:S):Vh b t=Vh (bkI p I) t:=by
 unfold Vh inAt bkI;rw[k,h]
def ID{p:Pg}{I:List (List Str)}(h:leO I I'){t:S}{n:Str}(k:n∈Vh (bkI p I) t):n∈Vh (bkI p I') t:=by
 unfold Vh at k⊢;split at k
 .rw [if_pos (by assumption)];rcases x6s.1 k with k|k
  .exact x7e _ k
  .exact x8u _ (h _ _ k)
 .rw [if_neg (by assumption)];exact k
def q1b{p:Pg}{I:List (List Str)}(h:leO I I'):leO (usB p I) (usB p I'):=fun i n q=>by
 obtain⟨it,k,m⟩:=GV.1 q;exact GV.2 ⟨it,k,WM.2 (ID h (WM.1 m))⟩
def Eh{p:Pg}{i:Nat}{f:Pr}{U m:List (List Str)}{o:List Str}{x:Str}(h:leO U m){a:Int}(k:hitN p i f U o x a=true):hitN p i f m o x a=true:=by
 unfold hitN at k⊢;cases q:decide (a=(cntL f.body+2:Nat)-1)with
 |true=>rw[q]at k;exact k
 | false=>
   rw[q]at k;cases r:decide (0<a)with
   | true=>
     rw[r]at k;exact JG.2 (h _ _ (JG.1 k))
   |false=>rw[r]at k;cases k
def T2{p:Pg}{D U O:List (List Str)}{i:Nat}(m:i<p.A.length){n:Str}:n∈(niB p D U O).getD i []↔comB p n=true/\A9 p i (prA p i) D U (O.getD i []) n=true:=by
 unfold niB;rw[GV];have e:n∈niA p D U O i↔comB p n=true/\A9 p i (prA p i) D U (O.getD i []) n=true:=by
  unfold niA TA;rw[WM,x7o,Y1,x6s,x6p,or_comm]
 rw[<-e];constructor
 .rintro ⟨x,k,q⟩;rw[x9b m]at k;cases k;exact q
 .exact fun h=>⟨i,x9b m,h⟩
def EF{p:Pg}{D U O:List (List Str)}{i:Nat}(m:¬i<p.A.length){n:Str}(h:n∈(niB p D U O).getD i []):False:=by
 obtain⟨x,k,_⟩:=GV.1 h;rw[x7a (by simpa using m)]at k;cases k
def q0n{p:Pg}(m:QS p=true){D O I:List (List Str)}(h:leO I I'):leO (rdI p D O I) (rdI p D O I'):=fun i n q=>by
 by_cases k:i<p.A.length
 .obtain ⟨r,s⟩:=(T2 k).1 q;obtain⟨a,t,u⟩:=(Z3 m (Fy k)).1 s;exact(T2 k).2 ⟨r,(Z3 m (Fy k)).2 ⟨a,t,Eh (q1b h) u⟩⟩
 .exact (EF k q).elim
theorem q2p{p:Pg}(m:QS p=true)(D O:List (List Str)):∀k,leO (itI p D O k) (itI p D O (k+1))
 | 0=>fun i n h=>by
   unfold itI at h;rw[x6h,x7c]at h;split at h<;>cases h
 |k+1=>q0n m (q2p m D O k)
def q2r(p:Pg)(D U O:List (List Str)):OkI p (niB p D U O):=by
 refine⟨by unfold niB;rw[x6j,x9c],fun o m=>?_,fun i n k=>?_⟩
 .obtain ⟨i,_,rfl⟩:=x6r.1 m;exact JO _
 .by_cases h:i<p.A.length
  .exact ((T2 h).1 k).1
  .exact (EF h k).elim
def Jm(p:Pg)(D O:List (List Str)):∀k,OkI p (itI p D O k)
 | 0=>by
   refine⟨by unfold itI;rw[x8j],fun o m=>?_,fun i n h=>?_⟩
   .rw [z0q m];exact .nil
   .unfold itI at h;rw[x6h,x7c]at h;split at h<;>cases h
 |k+1=>q2r p _ _ _
theorem OkI.tot{p:Pg}{I:List (List Str)}(m:QS p=true)(h:OkI p I):Go.Ab.tot I<=400:=by
 have q:=Pq (O:=I) fun o t=>by
  obtain⟨i,r,rfl⟩:=x8v.1 t;have:=h.len25 m i
  rwa[x6h,x6k r]at this
 have u:=(XZ m).2.1;rw[h.len]at q;omega
def TO{p:Pg}(r:QS p=true){D O:List (List Str)}{k:Nat}(h:itI p D O (k+1)≠itI p D O k):Go.Ab.tot (itI p D O k)<Go.Ab.tot (itI p D O (k+1)):=by
 obtain⟨s,q⟩:=Ii (O:=itI p D O k) (O':=itI p D O (k+1)) (by rw[(Jm p D O k).len,(Jm p D O (k+1)).len]) (Jm p D O k).rise (Jm p D O (k+1)).rise (q2p r D O k);rcases x6c (Go.Ab.tot (itI p D O k)) (Go.Ab.tot (itI p D O (k+1)))with m|m
 .exact m
 .exact absurd (q m).symm h
def wysB(p:Pg):List Way:=(List.range p.A.length).map fun i=>QQ p i (prA p i)
def Tn{p:Pg}{i:Nat}(h:i<p.A.length):(wysB p)[i]?=some (QQ p i (prA p i)):=by
 unfold wysB;rw[x6a,x9b h];rfl
structure BookR(p:Pg)(b:Book):Prop where
 s:b.s=sheetOf p
 ways:b.ways=wysB p
 N:∃k,b.N=itO p k
 fixO:rdO p b.N=b.N
 M:b.M=dfB p b.N
 ins:∃k,b.ins=itI p b.M b.N k
 fixI:rdI p b.M b.N b.ins=b.ins
 P:b.P=usB p b.ins
theorem Bv{p:Pg}{k:Nat}(h:rdO p (itO p k)=itO p k):∀m,itO p (k+m)=itO p k
 |0=>rfl
 | m+1=>by
   show rdO p (itO p (k+m))=_;rw[Bv h m,h]
theorem Bz{p:Pg}{D O:List (List Str)}{k:Nat}(h:rdI p D O (itI p D O k)=itI p D O k):∀m,itI p D O (k+m)=itI p D O k
 |0=>rfl
 | m+1=>by
   show rdI p D O (itI p D O (k+m))=_;rw[Bz h m,h]
theorem BookR.uniq{p:Pg}{b c:Book}(q:BookR p b)(r:BookR p c):b=c:=by
 obtain⟨k,v⟩:=q.N;obtain⟨m,t⟩:=r.N;have w:b.N=c.N:=by
  have y:=Bv (p:=p) (k:=k) (by rw[<-v];exact q.fixO) m;have z:=Bv (p:=p) (k:=m) (by rw[<-t];exact r.fixO) k;rw[v,t,<-y,<-z,z2h]
 have e:b.M=c.M:=by rw[q.M,r.M,w]
 obtain⟨k,v⟩:=q.ins;obtain⟨m,t⟩:=r.ins;have A:b.ins=c.ins:=by
  have g:=q.fixI;have u:=r.fixI;rw[<-w,<-e]at t u;have y:=Bz (p:=p) (D:=b.M) (O:=b.N) (k:=k) (by rw[<-v];exact g) m;have z:=Bz (p:=p) (D:=b.M) (O:=b.N) (k:=m) (by rw[<-t];exact u) k;rw[v,t,<-y,<-z,z2h]
 have C:b.P=c.P:=by rw[q.P,r.P,A]
 have B:b.s=c.s:=by rw[q.s,r.s]
 have E:b.ways=c.ways:=by rw[q.ways,r.ways]
 cases b;cases c;simp only at w e A C B E;subst w e A C B E;rfl
noncomputable def bookOf(p:Pg):Book:=@Classical.epsilon _ ⟨bkO p []⟩ (BookR p)
theorem BookR.eq{p:Pg}{b:Book}(h:BookR p b):b=bookOf p:=h.uniq (@Classical.epsilon_spec _ (BookR p) ⟨b,h⟩)
def q4e{p:Pg}(q:QS p=true):∃k,itO p (k+1)=itO p k:=by
 refine z0k fun h=>?_;have m:∀k,k<=Go.Ab.tot (itO p k):=fun k=>by
  induction k with
  |zero=>exact x6t _
  | succ k u=>
    have:=S4 (p:=p) (k:=k) fun r=>h ⟨k,r⟩;omega
 have s:=(Jl p 401).tot q;have t:=m 401;omega
def q4a{p:Pg}(m:QS p=true)(D O:List (List Str)):∃k,itI p D O (k+1)=itI p D O k:=by
 refine z0k fun h=>?_;have q:∀k,k<=Go.Ab.tot (itI p D O k):=fun k=>by
  induction k with
  |zero=>exact x6t _
  | succ k u=>
    have:=TO m (p:=p) (D:=D) (O:=O) (k:=k) fun r=>h ⟨k,r⟩;omega
 have s:=(Jm p D O 401).tot m;have t:=q 401;omega
def FN{p:Pg}(q:QS p=true):BookR p (bookOf p):=by
 obtain⟨k,r⟩:=q4e q;obtain⟨m,s⟩:=q4a q (dfB p (itO p k)) (itO p k);have h:BookR p ⟨sheetOf p,wysB p,dfB p (itO p k),usB p (itI p (dfB p (itO p k)) (itO p k) m),itI p (dfB p (itO p k)) (itO p k) m,itO p k⟩:=⟨rfl,rfl,⟨k,rfl⟩,r,rfl,⟨m,rfl⟩,s,rfl⟩;rw[<-h.eq];exact h
def AQ{p:Pg}(q:QS p=true):OkO p (bookOf p).N/\OkI p (bookOf p).ins:=by
 have h:=FN q;obtain⟨k,r⟩:=h.N;obtain⟨m,s⟩:=h.ins;exact⟨r▸Jl p k,s▸Jm p _ _ m⟩
end Go.Ab
