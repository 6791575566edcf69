/- run: the machine; whose frame is on top, where a variable is, events. -/
import Derived.Test.YtgljdhjopolmcaaGreatInN21
set_option linter.all false
set_option maxRecDepth 100000
set_option maxHeartbeats 16000000
namespace Go.Ab
open Go.Proofs.Tryz
open Go.Proofs
variable {nb:List Nat}{tape vs w watch:List Int}
structure Fm where
 D:Nat
 names:List Str
 E:List Nat
 call:Int
structure Mc where
 stack:List Fm
 mem:List Int
 fin:Int
 steps:Int
 reads:Int
 out:List Int
 trace:List (Int×List Int)
def YS(bs:List Nat)(vs:List Nat):List AV:=vs.map fun v=>cpA (bs.getD v 0)
def evA(e:Int×List Int):AV:=.agg [.int .i64 e.1,XZ e.2]
def fmA(bs:List Nat)(f:Fm):AV:=.ip [.int .i64 f.D,eStrs f.names,.sl (YS bs f.E),.int .i64 f.call]
def ZI(bs:List Nat)(mem:List Int):List (Nat×AV):=bs.zip (mem.map (.int .i64))
def mO(p:Pg)(tape watch:List Int)(g s v:Nat)(M:Mc):Chunk:=.obj 113 [.p (.ip (sheetOf p).cells),.hd 1001 0 g,.p (XZ tape),.p (XZ watch),.hd 2001 0 s,.hd 2002 0 v,.p (.int .i64 M.fin),.p (.int .i64 M.steps),.p (.int .i64 M.reads),.hd 2003 0 M.out.length,.hd 2004 0 M.trace.length]
def mH(p:Pg)(tape watch:List Int)(bs:List Nat)(vs:List Int)(M:Mc):Heap:=[(1000,mO p tape watch p.B.length M.stack.length vs.length M),(1001,.own 114 1 (YS bs (List.range p.B.length))),(2001,.own 171 1 (M.stack.map (fmA bs))),(2002,.own 2 1 (vs.map (.int .i64))),
 (2003,.own 2 1 (M.out.map (.int .i64))),(2004,.own 183 2 (M.trace.map evA)),(2500,.ext (.cells 2 (ZI bs M.mem)))]
structure OkF(M:Mc)(f:Fm):Prop where
 len:f.E.length=f.names.length
 rng:∀v∈f.E,v<M.mem.length
structure OkM(p:Pg)(bs:List Nat)(M:Mc):Prop where
 bl:bs.length=M.mem.length
 fr:∀f∈M.stack,OkF M f
 gl:p.B.length<=M.mem.length
 sl:M.stack.length<=1000
 nl:∀f∈M.stack,f.names.length<=100000
def IA{bs vs:List Nat}{i v:Nat}(h:vs[i]?=some v):(YS bs vs)[i]?=some (cpA (bs.getD v 0)):=by
 unfold YS;rw[x9x,h];rfl
def q0f{bs:List Nat}{mem:List Int}(i:bs.length=mem.length){v:Nat}(h:v<mem.length):(bs.getD v 0,AV.int .i64 (mem.getD v 0))∈ZI bs mem:=by
 unfold ZI;refine z2z.2 ⟨v,?_⟩;rw[List.getElem?_zip_eq_some];refine⟨?_,?_⟩
 .rw [x8n,x8p (by omega)];rfl
 .rw [x9x,x8p h];show some (AV.int .i64 mem[v])=some (AV.int .i64 (mem.getD v 0));rw[x8n,x8p h];rfl
def KA(p:Pg)(tape watch:List Int)(bs:List Nat)(vs:List Int)(M:Mc)(st:List Fm)(f:Fm)(i:M.stack=st++[f])(k:M.stack.length<=1000):aH 113 [.ptr 1000 0] (mH p tape watch bs vs M) (.p (fmA bs f)) (mH p tape watch bs vs M):=by
 refine sK Wi func113 ?_;conv=>whnf
 have l:M.stack.length=st.length+1:=by rw[i,x8m];rfl
 have h:(M.stack.map (fmA bs))[st.length]?=some (fmA bs f):=by rw[i,x9x,x9n (x9h _),z3n];rfl
 have j:(M.stack.map (fmA bs)).length=M.stack.length:=x8b _;repeat' ((first|(refine gX ?_;intros)|refine dA ?_|refine iO st.length ?_|refine lO h ?_)<;>conv=>whnf)
 all_goals first
  |exact z0f _ (x9b _) ⟨rfl,rfl⟩
def WA(p:Pg)(tape watch:List Int)(bs:List Nat)(vs:List Int)(M:Mc)(st:List Fm)(f:Fm)(m:M.stack=st++[f])(l:M.stack.length<=1000)(name:Str)(i v:Nat)(k:idxF (fun y=>name==y) f.names=i)(n:f.E[i]?=some v):aH 108 [.ptr 1000 0,.p (.str name)] (mH p tape watch bs vs M) (.p (cpA (bs.getD v 0))) (mH p tape watch bs vs M):=by
 refine sK Q1 func108 ?_;conv=>whnf
 have hT:=KA p tape watch bs vs M st f m l;have h:=XW f.names name;rw[k]at h;have j:=IA (bs:=bs) n;repeat' ((first|refine dA ?_|refine cP h ?_|refine iT j ?_|(refine cH rH0 0 hT ?_))<;>conv=>whnf)
 all_goals first
  |exact z0f _ (x9b _) ⟨rfl,rfl⟩
def QJ(watch:List Int)(M:Mc)(id:Int)(h:List Int):Mc:=bif watch.any fun x=>decide (id=x)then {M with trace:=M.trace++[(id,h)]}else M
def XR(p:Pg)(tape watch:List Int)(bs:List Nat)(vs:List Int)(M:Mc)(id:Int)(h:List Int)(k:M.trace.length<=10000000):aH 110 [.ptr 1000 0,.j id,.p (XZ h)] (mH p tape watch bs vs M) (.p (.tup [])) (mH p tape watch bs vs (QJ watch M id h)):=by
 refine sK LO func110 ?_;conv=>whnf
 have i:=FY watch id;unfold QJ;cases l:watch.any fun x=>decide (id=x);all_goals
  rw[l]at i;repeat' ((first|refine gX ?_|refine cP i ?_|refine pA (n:=M.trace.length) 1 32 (by rw[x8b]) ?_|refine Br.tt ?_|refine Br.ff ?_)<;>conv=>whnf)
 all_goals first
  |exact z0f _ (x9b _) ⟨rfl,rfl⟩
  |exact z0f _ (x9b _) ⟨rfl,by simp only[x9z];unfold mH mO;simp only[x8m,x8a];rfl⟩
def q0s(M:Mc)(f:Fm):Str->Int:=Us f.names (f.E.map fun v=>M.mem.getD v 0)
def QD(M:Mc)(f:Fm)(x:X):Int×Bool:=evX (q0s M f) x
def endM(M:Mc)(c:Int):Mc:={M with fin:=c}
def Rs(M:Mc)(f:Fm)(x:X):Mc:=bif (QD M f x).2 then M else endM M 4
def x1q{N:Nat}{sl:List (Nat×LV)}{p:Pg}{bs:List Nat}{M:Mc}:
  Le N ⟨sl,[(1000,mO p tape watch p.B.length M.stack.length 0 M),(1001,.own 114 1 (YS bs (List.range p.B.length))),(2001,.own 171 1 (M.stack.map (fmA bs))),(2002,.own 2 1 (vs.map (.int .i64))),(2003,.own 2 1 (M.out.map (.int .i64))),(2004,.own 183 2 (M.trace.map evA)),(2500,.ext (.cells 2 (ZI bs M.mem)))]⟩
   ⟨sl,mH p tape watch bs [] M⟩:=
 Le.cut (.same (.same (.same (.cut (List.nil_prefix) (.same (.same (.same .nil)))))))
def YM(p:Pg)(tape watch:List Int)(bs:List Nat)(vs:List Int)(M:Mc)(st:List Fm)(f:Fm)(A:M.stack=st++[f])(m:OkM p bs M)(x:X):SpecH prog 109 [.ptr 1000 0,.p (.agg x.cells)] (mH p tape watch bs vs M) (fun r H=>∃a,r=.p (q4d (QD M f x))/\H=mH p tape watch bs a (Rs M f x)):=by
 refine sK Q2 func109 ?_;conv=>whnf
 have e:f∈M.stack:=by rw[A];exact z0w _ (x9q.2 rfl)
 have hT:=KA p tape watch bs vs M st f A m.sl;have d:=m.fr f e;have C:=m.nl f e;have g:=d.len;have D:(YS bs f.E).length=f.E.length:=x8b _;have t:=fun(j:Nat) (q:j<f.E.length)=>IA (bs:=bs) (vs:=f.E) (i:=j) (v:=f.E[j]) (x8p q);have u:=fun(j:Nat) (q:j<f.E.length)=>q0f (bs:=bs) m.bl (d.rng _ (x9w q));repeat' ((first|(refine gX ?_;intros)|refine z4i 0 0 rfl rfl (x9h 0) (x8i _) ?_|(refine cH rH0 0 hT ?_))<;>conv=>whnf)
 refine LoopK.inv ZP (fun j:Nat=>⟨[(0,.ptr 1000 0),(3,.p (.ip x.cells)),(6,.p (fmA bs f)),(24,.p (.sl (YS bs f.E))),(25,.p (.int .i64 (YS bs f.E).length)),(26,.j j)],mH p tape watch bs ((f.E.take j).map fun v=>M.mem.getD v 0) M⟩) (fun j=>j<=f.E.length) (fun j=>f.E.length-j) 0 ?_ (x8i _) ?_
 .exact x1q
 intro j q;have z:((f.E.take j).map fun v=>M.mem.getD v 0).length=j:=by rw[x8b,x9s];omega
 rcases x8o j f.E.length with h|h
 .have y:(f.E.take (j+1)).map (fun v=>M.mem.getD v 0)=(f.E.take j).map (fun v=>M.mem.getD v 0)++[M.mem.getD f.E[j] 0]:=by rw[x9v h,x8a];rfl
  have k:=t j h;have l:=u j h;generalize(f.E.take j).map (fun v=>M.mem.getD v 0)=W at*
  generalize M.mem.getD f.E[j] 0=n at*
  generalize bs.getD f.E[j] 0=b at*
  conv=>whnf
  repeat' ((first|refine dA ?_|refine x9p rfl ?_|refine aD ?_|refine bP ?_|refine wI ?_|refine iT k ?_|refine GH rfl rfl ?_|refine RS (kc:=2500) ZP rfl rfl rfl rfl rfl l ?_|refine Xg (by simp) (by rw[x8b];omega) ?_|(apply bD<;>intro _<;>try omega)|refine x9p ?_ ?_)<;>conv=>whnf)
  all_goals first
   |exact⟨j+1,h,by omega,Le.of_eq (by rw[y];unfold mH mO;simp only[x8m,x8a];rfl)⟩
 .rw [x9u h]at z⊢;have c:=q6p x f.names (f.E.map fun v=>M.mem.getD v 0);have B:evX (Us f.names (f.E.map fun v=>M.mem.getD v 0)) x=QD M f x:=rfl;rw[B]at c;unfold Rs;generalize f.E.map (fun v=>M.mem.getD v 0)=W at*
  generalize QD M f x=ev at*
  obtain⟨n,F⟩:=ev;cases F;all_goals
   conv=>whnf
   repeat' ((first|refine dA ?_|refine x9p rfl ?_|(refine QH c (.cons (.p (Sub.refl _)) (.cons (.p (Sub.refl _)) (.cons (.hd rfl (by simp)) .nil))) (by rintro _ rfl;rfl) ?_;rintro _ rfl)|refine Br.tt ?_|refine Br.ff ?_|(apply bD<;>intro _<;>try omega))<;>conv=>whnf)
  all_goals first
   |contradiction
   |exact z0f _ (x9b _) ⟨W,rfl,rfl⟩
def J5(watch:List Int)(M:Mc)(f:Fm)(t:S):Int×Mc:=bif t.has then(bif (QD M f t.x).2 then((QD M f t.x).1,QJ watch M t.id [(QD M f t.x).1])else((QD M f t.x).1,endM M 4))else(0,QJ watch M t.id [])
def U0(p:Pg)(tape watch:List Int)(bs:List Nat)(vs:List Int)(M:Mc)(st:List Fm)(f:Fm)(q:M.stack=st++[f])(m:OkM p bs M)(i:M.trace.length<=10000000)(t:S):SpecH prog 53 [.ptr 1000 0,.p (.agg t.cells)] (mH p tape watch bs vs M) (fun r H=>∃h,r=.p (.int .i64 (J5 watch M f t).1)/\H=mH p tape watch bs h (J5 watch M f t).2):=by
 refine sK Q0 func53 ?_;conv=>whnf
 have l:=YM p tape watch bs vs M st f q m t.x;have j:=XR p tape watch bs vs M t.id [] i;unfold J5 Rs at*
 generalize QD M f t.x=ev at*
 obtain⟨n,u⟩:=ev;have k:=fun h=>XR p tape watch bs h M t.id [n] i;cases v:t.has
 .simp only[x9k];repeat' ((first|refine Br.tt ?_|(refine cH rH0 0 j ?_))<;>conv=>whnf)
  all_goals first
   |contradiction
   |(exfalso;simp_all;done)
   |exact z0f _ (x9b _) ⟨vs,rfl,rfl⟩
 .cases u;all_goals
   simp only[x9z,x9k]at l⊢;repeat' ((first|refine gX ?_|refine Br.tt ?_|refine Br.ff ?_|(refine cJ rH0 0 l ?_;rintro l' H' ⟨h,rfl,rfl⟩)|(refine cH rH0 0 (k h) ?_))<;>conv=>whnf)
  all_goals first
   |contradiction
   |(exfalso;simp_all;done)
   |exact z0f _ (x9b _) ⟨h,rfl,rfl⟩
def KV(p:Pg)(k:Nat)(f:Pr)(ps:List Nat)(call:Int)(M:Mc):Mc:={M with stack:=M.stack++[⟨k,varsS p f,List.range p.B.length++ps++List.range' M.mem.length f.E.length,call⟩],mem:=M.mem++List.replicate f.E.length 0}
def Qn(p:Pg)(k:Nat)(f:Pr):Int:=if offN p.A k<offN p.A k+cntL f.body then(offN p.A k:Int)+1 else -1
def mHq(p:Pg)(tape watch:List Int)(bs:List Nat)(vs:List Int)(M:Mc)(ps:List AV):Heap:=mH p tape watch bs vs M++[(2005,.own 114 1 ps)]
def opC(p:Pg)(tape watch:List Int)(bs:List Nat)(vs:List Int)(M:Mc)(ps:List Nat)(nb:List Nat):Heap:=[(1000,mO p tape watch p.B.length M.stack.length vs.length M),(1001,.own 114 1 (YS bs (List.range p.B.length))),(2001,.own 171 1 (M.stack.map (fmA bs))),(2002,.own 2 1 (vs.map (.int .i64))),
 (2003,.own 2 1 (M.out.map (.int .i64))),(2004,.own 183 2 (M.trace.map evA)),(2500,.ext (.cells 2 (ZI bs M.mem++nb.map fun b=>(b,.int .i64 0)))),(2005,.own 114 1 (YS bs ps))]
def opR(p:Pg)(bs ps nb:List Nat):List AV:=YS bs (List.range p.B.length)++YS bs ps++nb.map cpA
def opS(p:Pg)(tape watch:List Int)(bs:List Nat)(vs:List Int)(M:Mc)(k:Nat)(f:Pr)(ps:List Nat)(call:Int)(j:Nat)(nb:List Nat):St:=⟨[(0,.ptr 1000 0),(1,.j k),(10,.ptr 0 0),(52,.p (.int .i64 (f.E.map AV.str).length)),(53,.j j)],
 (1,.own 114 1 (opR p bs ps nb))::(0,.obj 173 [.p (.int .i64 k),.p (eStrs (varsS p f)),.hd 1 0 (p.B.length+ps.length+j),.j call])::opC p tape watch bs vs M ps nb⟩
def opF(p:Pg)(tape watch:List Int)(bs:List Nat)(vs:List Int)(M:Mc)(k:Nat)(f:Pr)(ps:List Nat)(call:Int)(j:Nat)(nb:List Nat):St:=⟨[(0,.ptr 1000 0),(1,.j k),(10,.p (.ip [.int .i64 k,eStrs (varsS p f),.sl (opR p bs ps nb),.int .i64 call])),(52,.p (.int .i64 (f.E.map AV.str).length)),(53,.j j)],opC p tape watch bs vs M ps nb⟩
def IH{p:Pg}{bs ps:List Nat}:(opR p bs ps nb).length=p.B.length+ps.length+nb.length:=by
 unfold opR YS;simp only[x8m,x8b,z2q]
def x1d{N:Nat}{p:Pg}{bs:List Nat}{M:Mc}{k:Nat}{f:Pr}{ps:List Nat}{call:Int}{j:Nat}(l:j=nb.length):Le N (opS p tape watch bs vs M k f ps call j nb) (opF p tape watch bs vs M k f ps call j nb):=by
 have h:Le N (opS p tape watch bs vs M k f ps call j nb) ⟨[(0,.ptr 1000 0),(1,.p (.int .i64 k)),(10,.ptr 0 0),(52,.p (.int .i64 (f.E.map AV.str).length)),(53,.p (.int .i64 j))],
   (0,.obj 173 ([.int .i64 k,eStrs (varsS p f),.sl (opR p bs ps nb),.int .i64 call].map .p))::opC p tape watch bs vs M ps nb⟩:=
  NT (k:=1) rfl (.cons (.keep rfl) (.cons (.keep rfl) (.cons (.keep rfl) (.cons (.keep rfl) (.cons (.keep rfl) .nil)))))
   (.drop (.obj (by decide) (.cons (.keep rfl) (.cons (.keep rfl) (.cons (.row (by rw[IH,l])) (.cons (.keep rfl) .nil))))
     (.obj (by decide) (.cons (.keep rfl) (.cons (.keep rfl) (.cons (.keep rfl) (.cons (.keep rfl) (.cons (.keep rfl) (.cons (.keep rfl) (.cons (.keep rfl) (.cons (.keep rfl) (.cons (.keep rfl) (.cons (.keep rfl) (.cons (.keep rfl) .nil)))))))))))
       (.own (by decide) (.own (by decide) (.own (by decide) (.own (by decide) (.own (by decide) (.ext (by decide) (.own (by decide) .nil))))))))))
 obtain⟨s',rfl,i⟩:=Le.fz (N:=N) (s:=⟨[(0,.ptr 1000 0),(1,.p (.int .i64 k)),(10,.ptr 0 0),(52,.p (.int .i64 (f.E.map AV.str).length)),(53,.p (.int .i64 j))],
   (0,.obj 173 ([.int .i64 k,eStrs (varsS p f),.sl (opR p bs ps nb),.int .i64 call].map .p))::opC p tape watch bs vs M ps nb⟩) (k:=0) (e:=173) (cs:=[.int .i64 k,eStrs (varsS p f),.sl (opR p bs ps nb),.int .i64 call]) rfl
  (K:=fun s=>s=opF p tape watch bs vs M k f ps call j nb) (by
    show _=_;rfl)
 exact h.trans i
def Za{bs vs:List Nat}(h:∀v∈vs,v<bs.length):YS (bs++nb) vs=YS bs vs:=by
 unfold YS;refine z5q fun v i=>?_;rw[x8n,x8n,x9d (h v i)]
def C6{bs:List Nat}:YS (bs++nb) (List.range' bs.length nb.length)=nb.map cpA:=by
 unfold YS;refine z3m fun i=>?_;rw[x9x,x9x];rcases x8o i nb.length with h|h
 .rw [z2e h,x8p h];simp only[z1e,z5v];rw[x8n,x9n (by omega),Nat.add_sub_cancel_left,x8p h];rfl
 .rw [z0x (by simpa using h),z0x h];rfl
def ES{bs:List Nat}{f:Fm}(h:∀v∈f.E,v<bs.length):fmA (bs++nb) f=fmA bs f:=by
 unfold fmA;rw[Za h]
def Mf{bs:List Nat}{mem:List Int}(h:bs.length=mem.length):ZI (bs++nb) (mem++List.replicate nb.length 0)=ZI bs mem++nb.map fun b=>(b,.int .i64 0):=by
 unfold ZI;rw[x8a,List.zip_append (by rw[x8b];exact h),z2u];congr 1;clear h;induction nb with
 |nil=>rfl
 |cons b r i=>rw[x9f,List.replicate_succ,List.zip_cons_cons,x9c,i]
def ID{p:Pg}{bs:List Nat}{M:Mc}{k:Nat}{f:Pr}{ps:List Nat}{call:Int}(h:OkM p bs M)(j:∀v∈ps,v<M.mem.length)(q:nb.length=f.E.length):
  mHq p tape watch (bs++nb) vs (KV p k f ps call M) (YS (bs++nb) ps)=[(1000,mO p tape watch p.B.length (M.stack.length+1) vs.length M),(1001,.own 114 1 (YS bs (List.range p.B.length))),(2001,.own 171 1 (M.stack.map (fmA bs)++[.ip [.int .i64 k,eStrs (varsS p f),.sl (opR p bs ps nb),.int .i64 call]])),(2002,.own 2 1 (vs.map (.int .i64))),
 (2003,.own 2 1 (M.out.map (.int .i64))),(2004,.own 183 2 (M.trace.map evA)),(2500,.ext (.cells 2 (ZI bs M.mem++nb.map fun b=>(b,.int .i64 0)))),(2005,.own 114 1 (YS bs ps))]:=by
 have l:=Za (bs:=bs) (nb:=nb) (vs:=List.range p.B.length) fun v i=>by
  have:=z1i.1 i;have:=h.gl;have:=h.bl;omega
 have m:=Za (bs:=bs) (nb:=nb) (vs:=ps) fun v i=>by rw[h.bl];exact j v i
 have r:M.stack.map (fmA (bs++nb))=M.stack.map (fmA bs):=z5q fun f x=>ES fun v i=>by rw[h.bl];exact(h.fr f x).rng v i
 have t:=Mf (nb:=nb) h.bl;have u:fmA (bs++nb) ⟨k,varsS p f,List.range p.B.length++ps++List.range' M.mem.length f.E.length,call⟩=.ip [.int .i64 k,eStrs (varsS p f),.sl (opR p bs ps nb),.int .i64 call]:=by
  unfold fmA opR;have:YS (bs++nb) (List.range p.B.length++ps++List.range' M.mem.length f.E.length)=YS bs (List.range p.B.length)++YS bs ps++nb.map cpA:=by
   have n:∀a b:List Nat,YS (bs++nb) (a++b)=YS (bs++nb) a++YS (bs++nb) b:=fun a b=>x8a;rw[n,n,l,m,<-q,<-h.bl,C6]
  rw[this]
 unfold mHq mH KV;simp only[x8a,x9c,z3p,x8m,x9f,z1p];rw[l,m,r,u,<-q,t];rfl
def BY(p:Pg)(tape watch:List Int)(bs:List Nat)(vs:List Int)(M:Mc)(K:OkM p bs M)(hsl:M.stack.length<=500)(k:Nat)(f:Pr)(F:p.A[k]?=some f)(Q:aP 106 [.agg p.cells,.str f.name] (eStrs (varsS p f)))(V:p.B.length<=1000)(hvl:f.E.length<=1000)(ps:List Nat)(Y:ps.length<=1000)(g:∀v∈ps,v<M.mem.length)(call:Int):SpecH prog 51 [.ptr 1000 0,.j k,.hd 2005 0 ps.length,.j call] (mHq p tape watch bs vs M (YS bs ps)) (fun r H=>∃nb,r=.p (.int .i64 (Qn p k f))/\H=mHq p tape watch (bs++nb) vs (KV p k f ps call M) (YS (bs++nb) ps)/\nb.length=f.E.length):=by
 refine sK Xt func51 ?_;conv=>whnf
 have Z:(sheetOf p).p=p:=(QY p).1;have a:(p.A.map fun f=>AV.agg f.cells)[k]?=some (.agg f.cells):=by rw[x9x,F];rfl
 obtain⟨_,_,_,G,D⟩:=QY p;obtain⟨s1,s2,s3,s4⟩:=D k f F;have u:=BQ (sheetOf p) k (offN p.A k) (offN p.A k+cntL f.body) s1 s2;have l:(YS bs (List.range p.B.length)).length=p.B.length:=by unfold YS;rw[x8b,z2q]
 have e:(YS bs ps).length=ps.length:=x8b _;repeat' ((first|(refine iM fun _=>?_)|refine dA ?_|refine x9p rfl ?_|refine aD ?_|refine iT a ?_|refine cP Q ?_|refine z5w (es:=[]) rfl l.symm (by show(0+p.B.length)*8<=140737488355328;omega) (by show 0+p.B.length<=9223372036854775807;omega) (fun x m=>by obtain⟨y,_,rfl⟩:=x8c.1 m;exact⟨rfl,rfl⟩) ?_|refine z5w (es:=[]++YS bs (List.range p.B.length)) (by rw[z1g,l];omega) e.symm (by show(0+p.B.length+ps.length)*8<=140737488355328;omega) (by show 0+p.B.length+ps.length<=9223372036854775807;omega) (fun x m=>by obtain⟨y,_,rfl⟩:=x8c.1 m;exact⟨rfl,rfl⟩) ?_)<;>conv=>whnf)
 all_goals
  have U:(f.E.map AV.str).length=f.E.length:=x8b _;have L:(M.stack.map (fmA bs)).length=M.stack.length:=x8b _;refine LoopK.inv ZP (fun x:Nat×List Nat×Bool=>bif x.2.2 then opF p tape watch bs vs M k f ps call x.1 x.2.1 else opS p tape watch bs vs M k f ps call x.1 x.2.1) (fun x=>x.1<=f.E.length/\x.2.1.length=x.1/\(x.2.2=true↔x.1=f.E.length)) (fun x=>f.E.length-x.1) (0,[],decide (0=f.E.length)) ?_ ⟨x8i _,rfl,z3a⟩ ?_
  .have C:Le Tryz.f51.ntmps (opS p tape watch bs vs M k f ps call 0 []) (bif decide (0=f.E.length)then opF p tape watch bs vs M k f ps call 0 []else opS p tape watch bs vs M k f ps call 0 []):=by
    cases decide (0=f.E.length)
    .exact Le.refl _
    .exact x1d rfl
   refine Le.trans (Le.of_eq ?_) C;unfold opS opR opC;simp only[z3p,z0k,z1g,z0t,z2o];rfl
  rintro⟨j,nb,fz⟩ ⟨J,i,q⟩;simp only at J i q⊢;cases fz with
  | false=>
    have hj:j<f.E.length:=by
     rcases x8o j f.E.length with h|h
     .exact h
     .have:=q.2 (by omega);cases this
    have O:=IH (p:=p) (bs:=bs) (ps:=ps) (nb:=nb);have z:∀b,opR p bs ps (nb++[b])=opR p bs ps nb++[cpA b]:=fun b=>by unfold opR;rw[x8a,x9l,x9l,x9l];rfl
    have t:∀b,opC p tape watch bs vs M ps (nb++[b])=[(1000,mO p tape watch p.B.length M.stack.length vs.length M),(1001,.own 114 1 (YS bs (List.range p.B.length))),(2001,.own 171 1 (M.stack.map (fmA bs))),(2002,.own 2 1 (vs.map (.int .i64))),(2003,.own 2 1 (M.out.map (.int .i64))),(2004,.own 183 2 (M.trace.map evA)),(2500,.ext (.cells 2 ((ZI bs M.mem++nb.map fun b=>(b,.int .i64 0))++[(b,.int .i64 0)]))),(2005,.own 114 1 (YS bs ps))]:=fun b=>by unfold opC;rw[x8a,<-x9l];rfl
    have fin:∀b,∃x:Nat×List Nat×Bool,(x.1<=f.E.length/\x.2.1.length=x.1/\(x.2.2=true↔x.1=f.E.length))/\f.E.length-x.1<f.E.length-j/\Le Tryz.f51.ntmps (opS p tape watch bs vs M k f ps call (j+1) (nb++[b])) (bif x.2.2 then opF p tape watch bs vs M k f ps call x.1 x.2.1 else opS p tape watch bs vs M k f ps call x.1 x.2.1):=fun b=>by
     rcases x8o (j+1) f.E.length with h|h
     .exact ⟨(j+1,nb++[b],false),⟨by simp only;omega,by simp[i],⟨fun h=>(by cases h),fun I=>by simp only at I;omega⟩⟩,by simp only;omega,Le.refl _⟩
     .exact ⟨(j+1,nb++[b],true),⟨by simp only;omega,by simp[i],⟨fun _=>by simp only;omega,fun _=>rfl⟩⟩,by simp only;omega,x1d (by simp[i])⟩
    simp only[x9k];unfold opS at fin⊢;simp only[z,t]at fin;generalize opR p bs ps nb=R at*
    conv=>whnf
    repeat' ((first|refine gX ?_|refine pA (es:=R) (n:=p.B.length+ps.length+j) 1 8 (by omega) ?_|refine V1 ZP 2 2500 ?_|(refine⟨⟨rfl,rfl⟩,fun b hb=>?_⟩)|(apply bD<;>intro _<;>try omega))<;>conv=>whnf)
    all_goals first
     | (obtain⟨x,m,hμ,c⟩:=fin b
        exact⟨x,m,hμ,Le.trans (Le.of_eq rfl) c⟩)
  | true=>
    obtain rfl:j=f.E.length:=q.1 rfl;have d:=ID (tape:=tape) (watch:=watch) (vs:=vs) (k:=k) (f:=f) (call:=call) (nb:=nb) K g i;simp only[x9z];unfold opF opC;generalize opR p bs ps nb=R at*
    conv=>whnf
    repeat' ((first|refine gX ?_|refine pA (n:=M.stack.length) 1 8 (by omega) ?_|refine cP u ?_|(apply bD<;>intro _<;>try omega))<;>conv=>whnf)
    all_goals first
     |exact z0f _ (x9b _) ⟨nb,rfl,d.symm,i⟩
def varM(f:Fm)(name:Str):Nat:=f.E.getD (idxF (fun y=>name==y) f.names).toNat 0
def argsM(f:Fm):List Arg->List Nat->Mc->List Nat×Mc×Bool
 |[],ps,M=>(ps,M,true)
 |a::r,ps,M=>bif a.ref then argsM f r (ps++[varM f a.name]) M else bif (QD M f a.x).2 then argsM f r (ps++[M.mem.length]) {M with mem:=M.mem++[(QD M f a.x).1]}else(ps,endM M 4,false)
def Vf{α:Type}{q:α->Bool}{l:List α}(h:0<=idxF q l):(idxF q l).toNat<l.length:=by
 unfold idxF at*
 cases j:l.any q with
 |false=>rw[j,x9k]at h;omega
 | true=>
   rw[x9z];obtain⟨x,k,i⟩:=z0g.1 j;have:=z3g ⟨x,k,i⟩;omega
def Bm{M:Mc}{id:Int}{v:List Int}:(QJ w M id v).stack=M.stack:=by
 unfold QJ;cases w.any fun x=>decide (id=x)<;>rfl
def LF{M:Mc}{id:Int}{v:List Int}:(QJ w M id v).mem=M.mem:=by
 unfold QJ;cases w.any fun x=>decide (id=x)<;>rfl
def q0a{M:Mc}{id:Int}{v:List Int}:(QJ w M id v).trace.length<=M.trace.length+1:=by
 unfold QJ;cases w.any fun x=>decide (id=x)
 .exact Nat.le_succ _
 .show (M.trace++[(id,v)]).length<=_;rw[x8m];exact x9h _
theorem OkM.same{p:Pg}{bs:List Nat}{M M':Mc}(h:OkM p bs M)(j:M'.stack=M.stack)(l:M'.mem=M.mem):OkM p bs M':=
 ⟨by rw[l];exact h.bl,fun f i=>⟨(h.fr f (j▸i)).len,fun v m=>by rw[l];exact(h.fr f (j▸i)).rng v m⟩,by rw[l];exact h.gl,by rw[j];exact h.sl,fun f i=>h.nl f (j▸i)⟩
theorem OkM.cell{p:Pg}{bs:List Nat}{M:Mc}(h:OkM p bs M)(b:Nat)(n:Int):OkM p (bs++[b]) {M with mem:=M.mem++[n]}:=
 ⟨by simp[h.bl],fun f i=>⟨(h.fr f i).len,fun v j=>by have:=(h.fr f i).rng v j;simp;omega⟩,by have:=h.gl;simp;omega,h.sl,h.nl⟩
def Eb{p:Pg}{bs:List Nat}{M:Mc}{n:Int}{b:Nat}(h:OkM p bs M):
  mH p tape watch (bs++[b]) vs {M with mem:=M.mem++[n]}=[(1000,mO p tape watch p.B.length M.stack.length vs.length M),(1001,.own 114 1 (YS bs (List.range p.B.length))),(2001,.own 171 1 (M.stack.map (fmA bs))),(2002,.own 2 1 (vs.map (.int .i64))),
 (2003,.own 2 1 (M.out.map (.int .i64))),(2004,.own 183 2 (M.trace.map evA)),(2500,.ext (.cells 2 (ZI bs M.mem++[(b,.int .i64 n)])))]:=by
 have j:=Za (bs:=bs) (nb:=[b]) (vs:=List.range p.B.length) fun v i=>by
  have:=z1i.1 i;have:=h.gl;have:=h.bl;omega
 have k:M.stack.map (fmA (bs++[b]))=M.stack.map (fmA bs):=z5q fun f m=>ES fun v i=>by rw[h.bl];exact(h.fr f m).rng v i
 have l:ZI (bs++[b]) (M.mem++[n])=ZI bs M.mem++[(b,.int .i64 n)]:=by
  unfold ZI;rw[x8a,List.zip_append (by rw[x8b];exact h.bl)];rfl
 unfold mH;simp only;rw[j,k,l];rfl
def YJ(p:Pg)(watch:List Int)(M:Mc)(f:Fm)(t:S)(k:Nat)(g:Pr):Int×Mc:=bif (argsM f t.args [] M).2.2 then(if 100<(argsM f t.args [] M).2.1.stack.length then(-1,endM (argsM f t.args [] M).2.1 5)else(Qn p k g,KV p k g (argsM f t.args [] M).1 t.id (QJ watch (argsM f t.args [] M).2.1 t.id [])))else(-1,(argsM f t.args [] M).2.1)
structure CallI(p:Pg)(M0:Mc)(f:Fm)(t:S)(j:Nat)(ps bs:List Nat)(M:Mc):Prop where
 le:j<=t.args.length
 ok:OkM p bs M
 sk:M.stack=M0.stack
 tr:M.trace=M0.trace
 ag:argsM f (t.args.drop j) ps M=argsM f t.args [] M0
 pl:ps.length=j
 pr:∀v∈ps,v<M.mem.length
def q5r:Info:={keep:=I_run_machine_call.keep,sched:=I_run_machine_call.sched,frz:=fun i=>bif Nat.beq i 10 then []else I_run_machine_call.frz i}
def Yf(p:Pg)(tape watch:List Int)(bs:List Nat)(vs:List Int)(M:Mc)(st:List Fm)(f:Fm)(hs:M.stack=st++[f])(hM:OkM p bs M)(hsl:M.stack.length<=101)(htl:M.trace.length<=10000000)(t:S)(hal:t.args.length<=100)(har:∀a∈t.args,a.ref=true->0<=idxF (fun y=>a.name==y) f.names)(k:Nat)(g:Pr)(hk:p.A[k]?=some g)(hki:idxF (fun f=>f.name==t.D) p.A=k)(hV:aP 106 [.agg p.cells,.str g.name] (eStrs (varsS p g)))(hgl:p.B.length<=1000)(hvl:g.E.length<=1000):SpecH prog 52 [.ptr 1000 0,.p (.agg t.cells)] (mH p tape watch bs vs M) (fun r H=>∃bs' G,r=.p (.int .i64 (YJ p watch M f t k g).1)/\H=mH p tape watch bs' G (YJ p watch M f t k g).2/\bs'.length=(YJ p watch M f t k g).2.mem.length):=by
 refine sK q5r func52 ?_;conv=>whnf
 have hlA:(t.args.map fun a=>AV.agg a.cells).length=t.args.length:=x8b _;have hPr:aP 33 [.ip (sheetOf p).cells,.str t.D] (.int .i64 k):=by
  have:=XE (sheetOf p) t.D;rw[show(sheetOf p).p=p from rfl,hki]at this;exact this
 repeat' ((refine iM fun _=>?_)<;>conv=>whnf)
 refine LoopK.inv ZP (fun x:Nat×List Nat×List Nat×List Int×Mc=>⟨[(0,.ptr 1000 0),(3,.p (.ip t.cells)),(5,.hd 0 0 x.2.1.length),(12,.p (.sl (t.args.map fun a=>.agg a.cells))),(13,.p (.int .i64 (t.args.map fun a=>AV.agg a.cells).length)),(14,.j x.1)],mH p tape watch x.2.2.1 x.2.2.2.1 x.2.2.2.2++[(0,.own 114 1 (YS x.2.2.1 x.2.1))]⟩)
  (fun x=>CallI p M f t x.1 x.2.1 x.2.2.1 x.2.2.2.2) (fun x=>t.args.length-x.1) (0,[],bs,vs,M) ?_ ⟨x8i _,hM,rfl,rfl,rfl,rfl,by simp⟩ ?_
 .exact lM [(0,.own 114 1 [])] (hnd:=by simp[mH])
 rintro⟨j,ps,h,z,i⟩ hI;simp only at hI⊢;obtain⟨h1,q,K,Z,l,hpl,J⟩:=hI;have Y:i.stack=st++[f]:=K.trans hs;rcases x8o j t.args.length with hj|hj
 .have hdr:t.args.drop j=t.args[j]::t.args.drop (j+1):=QG hj;rw[hdr,argsM]at l;have hW:=YM p tape watch h z i st f Y q t.args[j].x;have hArl:=har t.args[j] (x9w hj);have hf:f∈i.stack:=by rw[Y];exact z0w _ (x9q.2 rfl)
  have hF:=q.fr f hf;have C:(YS h ps).length=ps.length:=x8b _;cases F:t.args[j].ref with
  | true=>
    rw[F,x9z]at l;have h0:=hArl F;have hlt:=Vf h0;have hvi:(idxF (fun y=>t.args[j].name==y) f.names).toNat<f.E.length:=by rw[hF.len];exact hlt
    have hWh:=WA p tape watch h z i st f Y q.sl t.args[j].name (idxF (fun y=>t.args[j].name==y) f.names).toNat (varM f t.args[j].name) (z2h h0).symm (by unfold varM;rw[x8n,x8p hvi];rfl);have hvr:varM f t.args[j].name<i.mem.length:=by
     refine hF.rng _ ?_;unfold varM;rw[x8n,x8p hvi];exact x9w hvi
    have V:YS h (ps++[varM f t.args[j].name])=YS h ps++[cpA (h.getD (varM f t.args[j].name) 0)]:=x8a;have fin:∃x:Nat×List Nat×List Nat×List Int×Mc,CallI p M f t x.1 x.2.1 x.2.2.1 x.2.2.2.2/\t.args.length-x.1<t.args.length-j/\x=(j+1,ps++[varM f t.args[j].name],h,z,i):=
     ⟨(j+1,ps++[varM f t.args[j].name],h,z,i),⟨hj,q,K,Z,l,by simp[hpl],fun v c=>by
       rcases x8e.1 c with c|c
       .exact J v c
       .rw [x9q.1 c];exact hvr⟩,by simp only;omega,rfl⟩
    clear l;generalize varM f t.args[j].name=vv at*
    generalize h.getD vv 0=cb at*
    generalize YS h ps=R at*
    conv=>whnf
    repeat' ((first|(refine gX ?_;intros)|refine pA (n:=ps.length) 1 8 C.symm ?_|((first|apply bD|apply bB)<;>intro _<;>try omega)|(refine cH rH0 0 hWh ?_))<;>conv=>whnf)
    all_goals first
     | (have Q:t.args[j].ref=false:=by assumption
        rw[F]at Q;cases Q)
     | (obtain⟨x,hx,hμ,rfl⟩:=fin
        exact⟨_,hx,hμ,Le.of_eq (by simp only[V,x8m,x9f,z1p]<;>rfl)⟩)
  | false =>
    rw[F,x9k]at l;have hch:=fun(I:List Int) (b:Nat)=>Eb (tape:=tape) (watch:=watch) (vs:=I) (n:=(QD i f t.args[j].x).1) (b:=b) q;have hpe:=fun(b:Nat)=>Za (bs:=h) (nb:=[b]) (vs:=ps) fun v c=>by rw[q.bl];exact J v c
    have hpb:∀b,YS (h++[b]) [i.mem.length]=[cpA b]:=fun b=>by
     unfold YS;rw[x9c,z3p,x8n,<-q.bl,x9n (x9h _),z3n];rfl
    have V:∀b,YS (h++[b]) (ps++[i.mem.length])=YS h ps++[cpA b]:=fun b=>by
     rw[show YS (h++[b]) (ps++[i.mem.length])=YS (h++[b]) ps++YS (h++[b]) [i.mem.length]from x8a,hpe,hpb]
    unfold Rs at hW;cases d:(QD i f t.args[j].x).2 with
    | false=>
      rw[d,x9k]at l hW;have m:YJ p watch M f t k g=(-1,endM i 4):=by
       unfold YJ;rw[<-l];rfl
      have u:h.length=(YJ p watch M f t k g).2.mem.length:=by rw[m];exact q.bl
      rw[m]at u⊢;generalize hev:QD i f t.args[j].x=ev at*
      obtain⟨n,ok⟩:=ev;simp only at d;subst d;clear l hch;conv=>whnf
      repeat' ((first|(refine gX ?_;intros)|refine Br.tt ?_|((first|apply bD|apply bB)<;>intro _<;>try omega)|(refine cJ rH0 0 hW ?_;rintro l' H' ⟨G,rfl,rfl⟩))<;>conv=>whnf)
      all_goals first
       |contradiction
       |(exfalso;simp_all;done)
       |exact z0f _ (x9b _) ⟨h,G,rfl,rfl,u⟩
    | true=>
      rw [d,x9z]at l hW;have fin:∀(I:List Int)(b:Nat),∃x:Nat×List Nat×List Nat×List Int×Mc,CallI p M f t x.1 x.2.1 x.2.2.1 x.2.2.2.2/\t.args.length-x.1<t.args.length-j/\x=(j+1,ps++[i.mem.length],h++[b],I,{i with mem:=i.mem++[(QD i f t.args[j].x).1]}):=fun I b=>
       ⟨(j+1,ps++[i.mem.length],h++[b],I,{i with mem:=i.mem++[(QD i f t.args[j].x).1]}),⟨hj,q.cell b _,K,Z,l,by simp[hpl],fun v c=>by
         rcases x8e.1 c with c|c
         .have:=J v c;simp;omega
         .rw [x9q.1 c];simp⟩,by simp only;omega,rfl⟩
      generalize hev:QD i f t.args[j].x=ev at*
      obtain⟨n,ok⟩:=ev;simp only at d;subst d;have C:(YS h ps).length=ps.length:=x8b _;clear l;conv=>whnf
      repeat' ((first|(refine gX ?_;intros)|refine pA (n:=ps.length) 1 8 C.symm ?_|refine Br.ff ?_|(refine cJ rH0 0 hW ?_;rintro l' H' ⟨G,rfl,rfl⟩)|refine V1 ZP 1 2500 ?_|(refine⟨⟨rfl,rfl⟩,fun b hb=>?_⟩)|((first|apply bD|apply bB)<;>intro _<;>try omega))<;>conv=>whnf)
      all_goals first
       |contradiction
       | (have Q:t.args[j].ref=true:=(by assumption)
          rw[F]at Q;cases Q)
       | (have Q:(!true)=true:=(by assumption)
          cases Q)
       | (obtain⟨x,hx,hμ,rfl⟩:=fin G b
          exact⟨_,hx,hμ,Le.of_eq (by simp only[V,hch,x8m,x9f,z1p]<;>rfl)⟩)
 .obtain rfl:j=t.args.length:=by omega
  rw[x9j (x9h _),argsM]at l;have O:=Bm (w:=watch) (M:=i) (id:=t.id) (v:=[]);have e:=LF (w:=watch) (M:=i) (id:=t.id) (v:=[]);have hsl1:i.stack.length<=101:=by rw[K];exact hsl
  have hE0:=XR p tape watch h z i t.id [] (by rw[Z];exact htl);have hOp:=BY p tape watch h z (QJ watch i t.id []) (q.same O e) (by rw[O];omega) k g hk hV hgl hvl ps (by omega) (fun v c=>by rw[e];exact J v c) t.id;have hML:(i.stack.map (fmA h)).length=i.stack.length:=x8b _;by_cases L:100<i.stack.length
  .have m:YJ p watch M f t k g=(-1,endM i 5):=by
    unfold YJ;rw[<-l];simp only[x9z];rw[if_pos L]
   have u:h.length=(YJ p watch M f t k g).2.mem.length:=by rw[m];exact q.bl
   rw[m]at u⊢;clear l;conv=>whnf
   repeat' ((first|(refine gX ?_;intros)|(apply bD<;>intro _<;>try omega))<;>conv=>whnf)
   all_goals first
    |(exfalso;omega)
    |exact z0f _ (x9b _) ⟨h,z,rfl,rfl,u⟩
  .have m:YJ p watch M f t k g=(Qn p k g,KV p k g ps t.id (QJ watch i t.id [])):=by
    unfold YJ;rw[<-l];simp only[x9z];rw[if_neg L]
   have u:∀nb:List Nat,nb.length=g.E.length->(h++nb).length=(YJ p watch M f t k g).2.mem.length:=fun nb U=>by
    rw[m];unfold KV;simp only[x8m,z0b];rw[e,q.bl,U]
   rw[m]at u⊢;clear l;conv=>whnf
   repeat' ((first|(refine iM fun _=>?_)|refine dA ?_|refine cP hPr ?_|(apply bD<;>intro _<;>try omega)|(refine cH rH0 0 hE0 ?_)|(refine cJ [(1000,1000),(1001,1001),(2001,2001),(2002,2002),(2003,2003),(2004,2004),(2500,2500),(2005,0)] 0 hOp ?_;rintro l' H' ⟨nb,rfl,rfl,U⟩))<;>conv=>whnf)
   all_goals first
    |(exfalso;omega)
    |exact z0f _ (x9b _) ⟨h++nb,z,rfl,rfl,u nb U⟩
section
variable {P:Program}{T:Tab}{N:Nat}{o:Oper}{s:St}
def q2g{l:List (Nat×AV)}(h:(l.map (·.1)).Nodup){i j:Nat}{x y:Nat×AV}(q:l[i]?=some x)(r:l[j]?=some y)(p:x.1=y.1):i=j:=by
 have m:(l.map (·.1))[i]?=some x.1:=by rw[x9x,q];rfl
 have n:(l.map (·.1))[j]?=some y.1:=by rw[x9x,r];rfl
 have k:i<(l.map (·.1)).length:=(x8t.1 m).1;exact(List.getElem?_inj k h).1 (by rw[m,n,p])
def PJ(hT:TabOK P T){K:St->Prop}{t:TypeId}{x v:Operand}(Y:o.op=.store t x v)(R:o.dst=none){i:TyI}(hi:T.get t=some i)(Z:i.size=1){b:Nat}(hx:QR s.sl x=.p (cpA b)){c:AV}(hv:QR s.sl v=.p c)(f:c.one=true){kc:Nat}{e:TypeId}{l:List (Nat×AV)}(hg:getH s.H kc=some (.ext (.cells e l))){m:Nat}{c0:AV}(I:l[m]?=some (b,c0))(h:Pc s.H kc (.ext (.cells e (l.set m (b,c)))) fun H=>K ⟨s.sl,H⟩):OpK P N s o K:=by
 refine⟨fun σ β a w g Q=>?_⟩;have D:=QW g.G x;rw[hx]at D;have O:=QW g.G v;rw[hv]at O;have q:XC.holds (.cells e l) σ (β kc) w:=g.heap.chunks kc _ (QF hg);obtain⟨ic,u,h3,h4,h5,h6⟩:=q.2 _ (x9y I);have F:kc∈s.H.map (·.1):=x8c.2 ⟨_,QF hg,rfl⟩;obtain⟨H',hK,g1,g2,g3⟩:=FV g.heap.nodup h;have n:Rep σ c (a.eval v):=by cases O with|p O=>exact O
 have k:(a.eval v).cells=#[a.eval v]:=by
  have:=n.oneCell f;generalize a.eval v=u at this;cases u<;>first|rfl|cases this
 have C:∀u'∈(a.eval v).cells.toList,u'.oneCell'=true:=fun u' hu=>by
  rw[k]at hu;have:u'=a.eval v:=by simpa using hu
  rw[this];exact n.oneCell f
 have hxe:a.eval x=.pointer (some ⟨b,0,none⟩):=by
  generalize a.eval x=z at D;cases D with
  | p D=>cases D with
    |raw=>rfl
 have J:(execOp a.eval o).run P w=.ok .skip (w.setRow b #[a.eval v]):=by
  have L:=run_storeCells_at P b 0 e (a.eval v).cells.toList 0 #[u] w h5 (by rw[k];simp) C;have hsz:(sizeOf t).run P w=.ok 1 w:=by rw[<-Z];exact(hT _ _ hi).sizeOf w
  simp only[z2o,k]at L;have M:Sem.run P (storeCells ⟨b,0,none⟩ [a.eval v]) w=Result.ok () (w.setRow b #[a.eval v]):=by simpa using L
  simp[execOp,Y,Instr.storeAt,Instr.sureAddr,hxe,storeVar,hsz,k,M]
 have E:(l.set m (b,c)).map (·.1)=l.map (·.1):=by
  rw[z0o];refine z3m fun j=>?_;rw[z1o];by_cases r:m=j
  .subst r;have B:m<l.length:=(x8t.1 I).1;rw[if_pos rfl,if_pos (by rw[x8b];exact B),x9x,I];rfl
  .rw [if_neg r]
 obtain⟨g4,g5⟩:=I2 g.heap F h3 h4 (vs:=#[a.eval v]) g1 g2 fun d U=>by
  rw[g3 d U];show XC.holds (.cells e (l.set m (b,c))) σ (β kc) _;refine⟨by rw[E];exact q.1,fun y hy=>?_⟩;obtain⟨j,r⟩:=z2z.1 hy;rw[z1o]at r;by_cases A:m=j
  .subst A;have B:m<l.length:=(x8t.1 I).1;rw[if_pos rfl,if_pos B]at r;cases r;exact⟨ic,a.eval v,h3,h4,setRow_heap w b _ _ _ _ h5,n⟩
  .rw [if_neg A]at r;have V:y.1≠b:=fun he=>A (q2g q.1 I r he.symm);obtain⟨i1,u1,q1,q2,q3,q4⟩:=q.2 y (x9y r);exact⟨i1,u1,q1,q2,(setRow_other w b y.1 _ V).trans q3,q4⟩
 refine Jx J ⟨σ,β,⟨s.sl,H'⟩,hK,⟨?_,?_,?_,g4⟩,g5⟩
 .rw [R];exact g.size
 .rw [R];exact g.defers
 .rw [R];exact g.G
end
theorem SpecH.post{P:Program}{f:FuncId}{args:List LV}{H:Heap}{R R':LV->Heap->Prop}(h:SpecH P f args H R)(g:∀l H',R l H'->∃j,R' l j/\Le 1 ⟨[(0,l)],H'⟩ ⟨[(0,l)],j⟩):SpecH P f args H R':=by
 refine⟨h.go,fun σ β w v b c e=>(h.ok σ β w v b c e).mono fun C w' B=>?_⟩;obtain⟨l,u,σ',β',H',A,x,t,r,m⟩:=B;obtain⟨j,y,a⟩:=g l H' x;obtain⟨σ2,β2,q,z⟩:=a σ' β' {tmps:=#[u],defers:=[]} w' ⟨rfl,rfl,fun i=>by
  match i with
  |0=>simpa[getS]using t
  |i+1=>exact .p (by simpa[getS]using Rep.any _),r⟩
 exact⟨l,u,σ2,β2,j,A,y,by simpa[getS]using q.G 0,q.heap,m.trans z⟩
theorem CSub.pre{e:TypeId}{sz:Nat}{es es':List AV}(h:es' <+: es):CSub (.own e sz es) (.own e sz es'):=fun σ β w k a=>by
 rcases a with⟨j,l⟩|⟨i,vs,j,l,r,u,v,y,z⟩
 .rw [l]at h;exact .inl ⟨j,List.prefix_nil.1 h⟩
 .exact .inr ⟨i,vs,j,l,r,u,z1q h.length_le v,y,fun m x q=>z m x (by
   obtain⟨t,rfl⟩:=h;rw[x9d (x8t.1 q).1];exact q)⟩
def setM(M:Mc)(v:Nat)(n:Int):Mc:={M with mem:=M.mem.set v n}
def HN{bs:List Nat}{mem:List Int}(i:bs.length=mem.length){v:Nat}(h:v<mem.length):(ZI bs mem)[v]?=some (bs.getD v 0,.int .i64 (mem.getD v 0)):=by
 unfold ZI;rw[List.getElem?_zip_eq_some];refine⟨?_,?_⟩
 .rw [x8n,x8p (by omega)];rfl
 .rw [x9x,x8p h];show some (AV.int .i64 mem[v])=some (AV.int .i64 (mem.getD v 0));rw[x8n,x8p h];rfl
def En{bs:List Nat}{mem:List Int}(m:bs.length=mem.length){v:Nat}(h:v<mem.length)(n:Int):ZI bs (mem.set v n)=(ZI bs mem).set v (bs.getD v 0,.int .i64 n):=by
 have p:(ZI bs mem).length=mem.length:=by unfold ZI;rw[List.length_zip,x8b];omega
 refine z3m fun j=>?_;rw[z1o];by_cases k:v=j
 .subst k;rw[if_pos rfl,if_pos (by omega),HN (by rw[z0h];exact m) (by rw[z0h];exact h)];rw[x8n (l:=mem.set v n),z1m h];rfl
 .rw [if_neg k];rcases x8o j mem.length with i|i
  .rw [HN (by rw[z0h];exact m) (by rw[z0h];exact i),HN m i];rw[x8n (l:=mem.set v n),z0c k,<-x8n]
  .rw [z0x (by unfold ZI;rw[List.length_zip,x8b,z0h];omega),z0x (by omega)]
def mHs(p:Pg)(tape watch:List Int)(bs:List Nat)(vs:List Int)(M:Mc)(es:List AV):Heap:=[(1000,mO p tape watch p.B.length M.stack.length vs.length M),(1001,.own 114 1 (YS bs (List.range p.B.length))),(2001,.own 171 1 es),(2002,.own 2 1 (vs.map (.int .i64))),
 (2003,.own 2 1 (M.out.map (.int .i64))),(2004,.own 183 2 (M.trace.map evA)),(2500,.ext (.cells 2 (ZI bs M.mem)))]
def Pa{p:Pg}{bs:List Nat}{M:Mc}{v:Nat}{n:Int}{es:List AV}(i:bs.length=M.mem.length)(h:v<M.mem.length):mHs p tape watch bs vs (setM M v n) es=[(1000,mO p tape watch p.B.length M.stack.length vs.length M),(1001,.own 114 1 (YS bs (List.range p.B.length))),(2001,.own 171 1 es),(2002,.own 2 1 (vs.map (.int .i64))),
 (2003,.own 2 1 (M.out.map (.int .i64))),(2004,.own 183 2 (M.trace.map evA)),(2500,.ext (.cells 2 ((ZI bs M.mem).set v (bs.getD v 0,.int .i64 n))))]:=by
 unfold mHs setM;simp only;rw[En i h];rfl
def popM(M:Mc)(st:List Fm):Mc:={M with stack:=st}
inductive CloseP(p:Pg)(M:Mc)(st:List Fm)(f:Fm)(gave:Int):Int->Mc->Prop
 |done (h:f.call=0):CloseP p M st f gave (-1) (endM (popM M st) 1)
 |drop {it:Item} (h:1<=f.call) (hit:(sheetOf p).l[(f.call-1).toNat]?=some it) (hn:it.s.name=[]):CloseP p M st f gave it.next (popM M st)
 |keep {it:Item} {st':List Fm} {g:Fm} (h:1<=f.call) (hit:(sheetOf p).l[(f.call-1).toNat]?=some it) (hn:it.s.name≠[]) (hg:st=st'++[g]) (hi:0<=idxF (fun y=>it.s.name==y) g.names):CloseP p M st f gave it.next (setM (popM M st) (varM g it.s.name) gave)
def Vo(p:Pg)(tape watch:List Int)(bs:List Nat)(vs:List Int)(M:Mc)(st:List Fm)(f:Fm)(b:M.stack=st++[f])(u:OkM p bs M)(L:f.call<=100000)(h:Int)(t:Int)(M':Mc)(K:CloseP p M st f h t M'):SpecH prog 55 [.ptr 1000 0,.j h] (mH p tape watch bs vs M) (fun r H=>∃es,st.map (fmA bs) <+: es/\r=.p (.int .i64 t)/\H=mHs p tape watch bs vs M' es):=by
 refine sK LI func55 ?_;conv=>whnf
 have hT:=KA p tape watch bs vs M st f b u.sl;have R:M.stack.length=st.length+1:=by rw[b,x8m];rfl
 have k:st.map (fmA bs) <+: M.stack.map (fmA bs):=by rw[b,x8a];exact List.prefix_append _ _
 have O:(M.stack.map (fmA bs)).length=M.stack.length:=x8b _;have hsl:=u.sl;cases K with
 | done Q=>
   repeat' ((first|(refine gX ?_;intros)|refine dA ?_|refine z4i 0 st.length rfl (by show(M.stack.length:Int)-1=_;omega) (x8i _) (by omega) ?_|(apply bD<;>intro _<;>try omega)|(refine cH rH0 0 hT ?_))<;>conv=>whnf)
   all_goals first
    |(exfalso;omega)
    |exact z0f _ (x9b _) ⟨_,k,rfl,rfl⟩
 | @drop it J m q=>
   have e:((sheetOf p).l.map fun i=>AV.agg i.cells)[(f.call-1).toNat]?=some (.agg it.cells):=by rw[x9x,m];rfl
   have B:(it.s.name==[])=true:=by rw[q];rfl
   repeat' ((first|(refine iM fun _=>?_)|refine dA ?_|refine x9p rfl ?_|refine wI ?_|refine z4i 0 st.length rfl (by show(M.stack.length:Int)-1=_;omega) (x8i _) (by omega) ?_|refine iT e ?_|((first|apply bD|apply bN)<;>intro _<;>try omega)|(refine cH rH0 0 hT ?_))<;>conv=>whnf)
   all_goals first
    |(exfalso;omega)
    |(exfalso;simp_all;done)
    |exact z0f _ (x9b _) ⟨_,k,rfl,rfl⟩
 | @keep it F g J m q x I=>
   have e:((sheetOf p).l.map fun i=>AV.agg i.cells)[(f.call-1).toNat]?=some (.agg it.cells):=by rw[x9x,m];rfl
   have B:(it.s.name==[])=false:=z2t.2 q;have A:g∈M.stack:=by rw[b,x];simp
   have G:=u.fr g A;have D:(idxF (fun y=>it.s.name==y) g.names).toNat<g.E.length:=by rw[G.len];exact Vf I
   have z:g.E[(idxF (fun y=>it.s.name==y) g.names).toNat]?=some (varM g it.s.name):=by unfold varM;rw[x8n,x8p D];rfl
   have c:=WA p tape watch bs vs (popM M st) F g x (by show st.length<=1000;omega) it.s.name (idxF (fun y=>it.s.name==y) g.names).toNat (varM g it.s.name) (z2h I).symm z;have a:varM g it.s.name<M.mem.length:=G.rng _ (x9y z);have d:=HN u.bl a;have C:=Pa (p:=p) (tape:=tape) (watch:=watch) (vs:=vs) (M:=popM M st) (v:=varM g it.s.name) (n:=h) (es:=st.map (fmA bs)) u.bl a;generalize varM g it.s.name=vv at*
   repeat' ((first|(refine iM fun _=>?_)|refine dA ?_|refine x9p rfl ?_|refine wI ?_|refine z4i 0 st.length rfl (by show(M.stack.length:Int)-1=_;omega) (x8i _) (by omega) ?_|refine iT e ?_|refine GH rfl rfl ?_|refine PJ (kc:=2500) ZP rfl rfl rfl rfl rfl rfl rfl rfl d ?_|((first|apply bD|apply bN)<;>intro _<;>try omega)|(refine cH rH0 0 hT ?_)|(refine cH rH0 0 c ?_ (hH:=by refine x9m (j:=1000) rfl rfl ?_ ?_;exact CSub.refl _;refine x9m (j:=1001) rfl rfl ?_ ?_;exact CSub.refl _;refine x9m (j:=2001) rfl rfl ?_ ?_;exact CSub.pre k;refine x9m (j:=2002) rfl rfl ?_ ?_;exact CSub.refl _;refine x9m (j:=2003) rfl rfl ?_ ?_;exact CSub.refl _;refine x9m (j:=2004) rfl rfl ?_ ?_;exact CSub.refl _;refine x9m (j:=2500) rfl rfl ?_ ?_;exact CSub.refl _;exact z1x)))<;>conv=>whnf)
   all_goals first
    |(exfalso;omega)
    |(exfalso;simp_all;done)
    |exact z0f _ (x9b _) ⟨_,List.prefix_refl _,rfl,C.symm⟩
def Gf(l:List S)(o:Int):aP 112 [eSs l,.int .i64 o] (.int .i64 (GU l o)):=by
 refine sC RB func112 ?_;conv=>whnf
 cases l with
 | nil=>
   repeat' ((first|(refine iM fun _=>?_)|(apply bD<;>intro _<;>try omega))<;>conv=>whnf)
   all_goals first
    |(exfalso;simp_all[S.avs];done)
    |exact RetK.int rfl
 | cons t r=>
   have h:(S.avs (t::r))[0]?=some (.agg t.cells):=by rw[S.avs_eq];rfl
   have j:(S.avs (t::r)).length=r.length+1:=by rw[S.avs_len];rfl
   have i:GU (t::r) o=t.id:=rfl;rw[i];repeat' ((first|(refine iM fun _=>?_)|refine iT h ?_|(apply bD<;>intro _<;>try omega))<;>conv=>whnf)
   all_goals first
    |(exfalso;omega)
    |exact RetK.int rfl
def doM(p:Pg)(tape watch:List Int)(M:Mc)(f:Fm)(g:Pr)(it:Item):Int×Mc:=
 if it.s.kind=7 then((((sheetOf p).l[(it.loop-1).toNat]?).map Item.next).getD 0,QJ watch M it.s.id [])
 else if it.s.kind=8 then(it.loop,QJ watch M it.s.id [])
 else if it.s.kind=10 then((atB g it.s.name).1,QJ watch M it.s.id [])
 else if it.s.kind=2 then(if(tape.length:Int)<=M.reads then(-1,endM M 3)else(it.next,QJ watch (setM {M with reads:=M.reads+1} (varM f it.s.name) (tape.getD M.reads.toNat 0)) it.s.id [tape.getD M.reads.toNat 0]))
 else bif (QD M f it.s.x).2 then
  (if it.s.kind=1 then(it.next,setM (QJ watch M it.s.id [(QD M f it.s.x).1]) (varM f it.s.name) (QD M f it.s.x).1)
   else if it.s.kind=3 then(it.next,{QJ watch M it.s.id [(QD M f it.s.x).1]with out:=(QJ watch M it.s.id [(QD M f it.s.x).1]).out++[(QD M f it.s.x).1]})
   else if it.s.kind=5 then(if(QD M f it.s.x).1≠0 then GU it.s.I it.next else GU it.s.L it.next,QJ watch M it.s.id [(QD M f it.s.x).1])
   else if it.s.kind=6 then(if(QD M f it.s.x).1≠0 then GU it.s.I it.s.id else it.next,QJ watch M it.s.id [(QD M f it.s.x).1])
   else(it.next,QJ watch M it.s.id [(QD M f it.s.x).1]))
 else(-1,endM M 4)
structure DoOk(p:Pg)(f:Fm)(g:Pr)(it:Item):Prop where
 lp:it.s.kind=7->1<=it.loop/\it.loop<=100000/\∃l,(sheetOf p).l[(it.loop-1).toNat]?=some l
 pr:∃k:Nat,it.D=k/\p.A[k]?=some g
 nm:it.s.kind=1\/it.s.kind=2->0<=idxF (fun y=>it.s.name==y) f.names
def q4b{M:Mc}{id:Int}{v:List Int}:(QJ w M id v).out=M.out:=by
 unfold QJ;cases w.any fun x=>decide (id=x)<;>rfl
def Hl(p:Pg)(hcp:cntP p.A<=1000)(tape watch:List Int)(htp:tape.length<=10000000)(bs:List Nat)(vs:List Int)(M:Mc)(st:List Fm)(f:Fm)(Z:M.stack=st++[f])(C:OkM p bs M)(e:M.trace.length<=10000000)(hol:M.out.length<=10000000)(hrd:0<=M.reads)(hr2:M.reads<=10000000)(g:Pr)(it:Item)(V:DoOk p f g it):SpecH prog 54 [.ptr 1000 0,.p (.agg it.cells)] (mH p tape watch bs vs M) (fun r H=>∃h,r=.p (.int .i64 (doM p tape watch M f g it).1)/\H=mH p tape watch bs h (doM p tape watch M f g it).2):=by
 refine sK Yw func54 ?_;conv=>whnf
 have a:=XR p tape watch bs vs M it.s.id [] e;have hf:f∈M.stack:=by rw[Z];exact z0w _ (x9q.2 rfl)
 have Y:=C.fr f hf;obtain⟨kp,hkp,hgp⟩:=V.pr;unfold doM;by_cases F:it.s.kind=7
 .obtain ⟨hl1,hl2,lp,Q⟩:=V.lp F;have hg:((sheetOf p).l.map fun i=>AV.agg i.cells)[(it.loop-1).toNat]?=some (.agg lp.cells):=by rw[x9x,Q];rfl
  rw[Q];simp only[F,if_true,z1e,z1k];repeat' ((first|refine dA ?_|refine x9p rfl ?_|refine wI ?_|refine iT hg ?_|(apply bD<;>intro _<;>try omega)|(refine cH rH0 0 a ?_))<;>conv=>whnf)
  all_goals first
   |(exfalso;omega)
   |exact z0f _ (x9b _) ⟨vs,rfl,rfl⟩
 by_cases h8:it.s.kind=8
 .rw [if_neg F,if_pos h8];repeat' ((first|refine x9p rfl ?_|(apply bD<;>intro _<;>try omega)|(refine cH rH0 0 a ?_))<;>conv=>whnf)
  all_goals first
   |(exfalso;omega)
   |exact z0f _ (x9b _) ⟨vs,rfl,rfl⟩
 by_cases D:it.s.kind=10
 .have hAt:=DJ p kp g hgp hcp it.s.name;rw[if_neg F,if_neg h8,if_pos D];generalize atB g it.s.name=ab at*
  obtain⟨a1,a2⟩:=ab;repeat' ((first|refine dA ?_|refine x9p rfl ?_|refine cP hAt ?_ (ha:=.cons (Sub.refl _) (.cons (Sub.int hkp) (.cons (Sub.refl _) .nil)))|(apply bD<;>intro _<;>try omega)|(refine cH rH0 0 a ?_))<;>conv=>whnf)
  all_goals first
   |(exfalso;omega)
   |exact z0f _ (x9b _) ⟨vs,rfl,rfl⟩
 rw[if_neg F,if_neg h8,if_neg D];have htm:(tape.map (AV.int .i64)).length=tape.length:=x8b _;by_cases h2:it.s.kind=2
 .rw [if_pos h2];have O:=V.nm (.inr h2);have B:(idxF (fun y=>it.s.name==y) f.names).toNat<f.E.length:=by rw[Y.len];exact Vf O
  have m:f.E[(idxF (fun y=>it.s.name==y) f.names).toNat]?=some (varM f it.s.name):=by unfold varM;rw[x8n,x8p B];rfl
  have c:=WA p tape watch bs vs {M with reads:=M.reads+1} st f Z C.sl it.s.name (idxF (fun y=>it.s.name==y) f.names).toNat (varM f it.s.name) (z2h O).symm m;have q:varM f it.s.name<M.mem.length:=Y.rng _ (x9y m);have d:=HN C.bl q;by_cases R:(tape.length:Int)<=M.reads
  .rw [if_pos R];repeat' ((first|(refine gX ?_;intros)|refine dA ?_|(apply bD<;>intro _<;>try omega))<;>conv=>whnf)
   all_goals first
    |(exfalso;omega)
    |exact z0f _ (x9b _) ⟨vs,rfl,rfl⟩
  .rw [if_neg R];have hgt:(tape.map (AV.int .i64))[M.reads.toNat]?=some (.int .i64 (tape.getD M.reads.toNat 0)):=by
    rw[x9x,x8n,x8p (by omega)];rfl
   generalize tape.getD M.reads.toNat 0=n at*
   have u:=Pa (p:=p) (tape:=tape) (watch:=watch) (vs:=vs) (M:={M with reads:=M.reads+1}) (v:=varM f it.s.name) (n:=n) (es:=M.stack.map (fmA bs)) C.bl q;have G:=XR p tape watch bs vs (setM {M with reads:=M.reads+1} (varM f it.s.name) n) it.s.id [n] e;rw[show mH p tape watch bs vs (setM {M with reads:=M.reads+1} (varM f it.s.name) n)=mHs p tape watch bs vs (setM {M with reads:=M.reads+1} (varM f it.s.name) n) (M.stack.map (fmA bs))from rfl,u]at G;generalize varM f it.s.name=vv at*
   repeat' ((first|(refine iM fun _=>?_)|refine dA ?_|refine x9p rfl ?_|refine aD ?_|refine bP ?_|refine wI ?_|refine iT hgt ?_|refine GH rfl rfl ?_|refine PJ (kc:=2500) ZP rfl rfl rfl rfl rfl rfl rfl rfl d ?_|(apply bD<;>intro _<;>try omega)|(refine cH rH0 0 c ?_)|(refine cH rH0 0 G ?_))<;>conv=>whnf)
   all_goals first
    |(exfalso;omega)
    |exact z0f _ (x9b _) ⟨vs,rfl,rfl⟩
 rw[if_neg h2];have t:=YM p tape watch bs vs M st f Z C it.s.x;unfold Rs at t;cases j:(QD M f it.s.x).2 with
 | false=>
   rw[j,x9k]at t;simp only[x9k];generalize QD M f it.s.x=ev at*
   obtain⟨n,ok⟩:=ev;simp only at j;subst j;repeat' ((first|refine x9p rfl ?_|refine Br.tt ?_|(apply bD<;>intro _<;>try omega)|(refine cJ rH0 0 t ?_;rintro l' H' ⟨h,rfl,rfl⟩))<;>conv=>whnf)
   all_goals first
    |(exfalso;omega)
    |exact z0f _ (x9b _) ⟨h,rfl,rfl⟩
 | true =>
   rw[j,x9z]at t;simp only[x9z];generalize QD M f it.s.x=ev at*
   obtain⟨n,ok⟩:=ev;simp only at j;subst j;simp only;have k:=fun h=>XR p tape watch bs h M it.s.id [n] e;have K:=Bm (w:=watch) (M:=M) (id:=it.s.id) (v:=[n]);have J:=LF (w:=watch) (M:=M) (id:=it.s.id) (v:=[n]);have heo:=q4b (w:=watch) (M:=M) (id:=it.s.id) (v:=[n]);have b:=C.same K J;generalize QJ watch M it.s.id [n]=M1 at*
   have hol1:M1.out.length<=10000000:=by rw[heo];exact hol
   have hom:(M1.out.map (AV.int .i64)).length=M1.out.length:=x8b _;by_cases h1:it.s.kind=1
   .rw [if_pos h1];have O:=V.nm (.inl h1);have B:(idxF (fun y=>it.s.name==y) f.names).toNat<f.E.length:=by rw[Y.len];exact Vf O
    have m:f.E[(idxF (fun y=>it.s.name==y) f.names).toNat]?=some (varM f it.s.name):=by unfold varM;rw[x8n,x8p B];rfl
    have c:=fun h=>WA p tape watch bs h M1 st f (K.trans Z) b.sl it.s.name (idxF (fun y=>it.s.name==y) f.names).toNat (varM f it.s.name) (z2h O).symm m;have q:varM f it.s.name<M1.mem.length:=by rw[J];exact Y.rng _ (x9y m)
    have d:=HN b.bl q;have u:=fun h=>Pa (p:=p) (tape:=tape) (watch:=watch) (vs:=h) (M:=M1) (v:=varM f it.s.name) (n:=n) (es:=M1.stack.map (fmA bs)) b.bl q;have U:∀h,mH p tape watch bs h (setM M1 (varM f it.s.name) n)=_:=fun h=>(show mH p tape watch bs h (setM M1 (varM f it.s.name) n)=mHs p tape watch bs h (setM M1 (varM f it.s.name) n) (M1.stack.map (fmA bs))from rfl).trans (u h);clear u;generalize varM f it.s.name=vv at*
    repeat' ((first|refine gX ?_|refine GH rfl rfl ?_|refine PJ (kc:=2500) ZP rfl rfl rfl rfl rfl rfl rfl rfl d ?_|refine Br.ff ?_|(apply bD<;>intro _<;>try omega)|(refine cJ rH0 0 t ?_;rintro l' H' ⟨h,rfl,rfl⟩)|(refine cH rH0 0 (k h) ?_)|(refine cH rH0 0 (c h) ?_))<;>conv=>whnf)
    all_goals first
     |(exfalso;omega)
     |exact z0f _ (x9b _) ⟨h,rfl,(U h).symm⟩
   rw[if_neg h1];by_cases h3:it.s.kind=3
   .rw [if_pos h3];repeat' ((first|refine gX ?_|refine Xg (by rw[x8b]) (by rw[x8b];omega) ?_|refine Br.ff ?_|(apply bD<;>intro _<;>try omega)|(refine cJ rH0 0 t ?_;rintro l' H' ⟨h,rfl,rfl⟩)|(refine cH rH0 0 (k h) ?_))<;>conv=>whnf)
    all_goals first
     |(exfalso;omega)
     |exact z0f _ (x9b _) ⟨h,rfl,by unfold mH mO;simp only[x8m,x8a];rfl⟩
   rw[if_neg h3];have hF1:=Gf it.s.I it.next;have hF2:=Gf it.s.L it.next;have hF3:=Gf it.s.I it.s.id;by_cases h5:it.s.kind=5
   .rw [if_pos h5];generalize GU it.s.I it.next=q1 at*
    generalize GU it.s.L it.next=q2 at*
    repeat' ((first|refine gX ?_|refine cP hF1 ?_|refine cP hF2 ?_|refine Br.ff ?_|((first|apply bD|apply bE)<;>intro _<;>try omega)|(refine cJ rH0 0 t ?_;rintro l' H' ⟨h,rfl,rfl⟩)|(refine cH rH0 0 (k h) ?_))<;>conv=>whnf)
    all_goals first
     |(exfalso;omega)
     | (have z:¬n=0:=(by assumption)
        exact z0f _ (z2v (Sub.int (if_pos z).symm)) ⟨h,rfl,rfl⟩)
     | (have z:n=0:=(by assumption)
        exact z0f _ (z2v (Sub.int (if_neg (fun hh=>hh z)).symm)) ⟨h,rfl,rfl⟩)
     |(exfalso;simp_all;done)
   by_cases h6:it.s.kind=6
   .rw [if_neg h5,if_pos h6];generalize GU it.s.I it.s.id=q3 at*
    repeat' ((first|refine gX ?_|refine cP hF3 ?_|refine Br.ff ?_|((first|apply bD|apply bE)<;>intro _<;>try omega)|(refine cJ rH0 0 t ?_;rintro l' H' ⟨h,rfl,rfl⟩)|(refine cH rH0 0 (k h) ?_))<;>conv=>whnf)
    all_goals first
     |(exfalso;omega)
     | (have z:¬n=0:=(by assumption)
        exact z0f _ (z2v (Sub.int (if_pos z).symm)) ⟨h,rfl,rfl⟩)
     | (have z:n=0:=(by assumption)
        exact z0f _ (z2v (Sub.int (if_neg (fun hh=>hh z)).symm)) ⟨h,rfl,rfl⟩)
     |(exfalso;simp_all;done)
   rw[if_neg h5,if_neg h6];repeat' ((first|refine gX ?_|refine Br.ff ?_|(apply bD<;>intro _<;>try omega)|(refine cJ rH0 0 t ?_;rintro l' H' ⟨h,rfl,rfl⟩)|(refine cH rH0 0 (k h) ?_))<;>conv=>whnf)
   all_goals first
    |(exfalso;omega)
    |exact z0f _ (x9b _) ⟨h,rfl,rfl⟩
end Go.Ab
