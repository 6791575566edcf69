/- run: a procedure begins. -/
import Derived.Test.YtonbdgcjnecapaaGreatRchR8
import Derived.Test.YtonbdgcjnecapaaGreatRchR11
import Derived.Test.YtonbdgcjnecapaaGreatRchR14
import Derived.Test.YtonbdgcjnecapaaGreatRchR19
import Derived.Test.YtonbdgcjnecapaaGreatRchR24
set_option linter.all false
set_option maxRecDepth 100000
set_option maxHeartbeats 16000000
namespace Go.Ab
open Go.Proofs.Tryz
open Go.Proofs
variable {nb:List Nat}{tape vs w watch:List Int}
def GK(p:Pg)(k:Nat)(f:Pr)(ps:List Nat)(call:Int)(M:Mc):Mc:={M with stack:=M.stack++[⟨k,varsS p f,List.range p.B.length++ps++List.range' M.mem.length f.F.length,call⟩],mem:=M.mem++List.replicate f.F.length 0}
def Wh(p:Pg)(k:Nat)(f:Pr):Int:=if QP p.A k<QP p.A k+cntL f.body then(QP p.A k:Int)+1 else -1
def mHq(p:Pg)(tape watch:List Int)(bs:List Nat)(vs:List Int)(M:Mc)(ps:List AV):Heap:=mH p tape watch bs vs M++[(2005,.own 146 1 ps)]
def opC(p:Pg)(tape watch:List Int)(bs:List Nat)(vs:List Int)(M:Mc)(ps:List Nat)(nb:List Nat):Heap:=[(1000,mO p tape watch p.B.length M.stack.length vs.length M),(1001,.own 146 1 (UO bs (List.range p.B.length))),(2001,.own 194 1 (M.stack.map (fmA bs))),(2002,.own 2 1 (vs.map (.int .i64))),
 (2003,.own 2 1 (M.out.map (.int .i64))),(2004,.own 76 2 (M.trace.map evA)),(2500,.ext (.cells 2 (ZP bs M.mem++nb.map fun b=>(b,.int .i64 0)))),(2005,.own 146 1 (UO bs ps))]
def opR(p:Pg)(bs ps nb:List Nat):List AV:=UO bs (List.range p.B.length)++UO bs ps++nb.map cpA
def opS(p:Pg)(tape watch:List Int)(bs:List Nat)(vs:List Int)(M:Mc)(k:Nat)(f:Pr)(ps:List Nat)(call:Int)(j:Nat)(nb:List Nat):St:=⟨[(0,.ptr 1000 0),(1,.j k),(10,.ptr 0 0),(52,.p (.int .i64 (f.F.map AV.str).length)),(53,.j j)],
 (1,.own 146 1 (opR p bs ps nb))::(0,.obj 196 [.p (.int .i64 k),.p (eStrs (varsS p f)),.hd 1 0 (p.B.length+ps.length+j),.j call])::opC p tape watch bs vs M ps nb⟩
def opF(p:Pg)(tape watch:List Int)(bs:List Nat)(vs:List Int)(M:Mc)(k:Nat)(f:Pr)(ps:List Nat)(call:Int)(j:Nat)(nb:List Nat):St:=⟨[(0,.ptr 1000 0),(1,.j k),(10,.p (.ip [.int .i64 k,eStrs (varsS p f),.sl (opR p bs ps nb),.int .i64 call])),(52,.p (.int .i64 (f.F.map AV.str).length)),(53,.j j)],opC p tape watch bs vs M ps nb⟩
def Ea{p:Pg}{bs ps:List Nat}:(opR p bs ps nb).length=p.B.length+ps.length+nb.length:=by
 unfold opR UO;simp only[x7u,x7z,x9t]
def x0p{N:Nat}{p:Pg}{bs:List Nat}{M:Mc}{k:Nat}{f:Pr}{ps:List Nat}{call:Int}{j:Nat}(l:j=nb.length):Le N (opS p tape watch bs vs M k f ps call j nb) (opF p tape watch bs vs M k f ps call j nb):=by
 have h:Le N (opS p tape watch bs vs M k f ps call j nb) ⟨[(0,.ptr 1000 0),(1,.p (.int .i64 k)),(10,.ptr 0 0),(52,.p (.int .i64 (f.F.map AV.str).length)),(53,.p (.int .i64 j))],
   (0,.obj 196 ([.int .i64 k,eStrs (varsS p f),.sl (opR p bs ps nb),.int .i64 call].map .p))::opC p tape watch bs vs M ps nb⟩:=
  IA (k:=1) rfl (.cons (.keep rfl) (.cons (.keep rfl) (.cons (.keep rfl) (.cons (.keep rfl) (.cons (.keep rfl) .nil)))))
   (.drop (.obj (by decide) (.cons (.keep rfl) (.cons (.keep rfl) (.cons (.row (by rw[Ea,l])) (.cons (.keep rfl) .nil))))
     (.obj (by decide) (.cons (.keep rfl) (.cons (.keep rfl) (.cons (.keep rfl) (.cons (.keep rfl) (.cons (.keep rfl) (.cons (.keep rfl) (.cons (.keep rfl) (.cons (.keep rfl) (.cons (.keep rfl) (.cons (.keep rfl) (.cons (.keep rfl) .nil)))))))))))
       (.own (by decide) (.own (by decide) (.own (by decide) (.own (by decide) (.own (by decide) (.ext (by decide) (.own (by decide) .nil))))))))))
 obtain⟨s',rfl,i⟩:=Le.fz (N:=N) (s:=⟨[(0,.ptr 1000 0),(1,.p (.int .i64 k)),(10,.ptr 0 0),(52,.p (.int .i64 (f.F.map AV.str).length)),(53,.p (.int .i64 j))],
   (0,.obj 196 ([.int .i64 k,eStrs (varsS p f),.sl (opR p bs ps nb),.int .i64 call].map .p))::opC p tape watch bs vs M ps nb⟩) (k:=0) (e:=196) (cs:=[.int .i64 k,eStrs (varsS p f),.sl (opR p bs ps nb),.int .i64 call]) rfl
  (K:=fun s=>s=opF p tape watch bs vs M k f ps call j nb) (by
    show _=_;rfl)
 exact h.trans i
def Q5{bs vs:List Nat}(h:∀v∈vs,v<bs.length):UO (bs++nb) vs=UO bs vs:=by
 unfold UO;refine z2f fun v i=>?_;rw[x7w,x7w,x8c (h v i)]
def TK{bs:List Nat}:UO (bs++nb) (List.range' bs.length nb.length)=nb.map cpA:=by
 unfold UO;refine z2g fun i=>?_;rw[x7k,x7k];rcases x7m i nb.length with h|h
 .rw [List.getElem?_range' h,x7x h];simp only[z0o,z4y];rw[x7w,x8f (by omega),Nat.add_sub_cancel_left,x7x h];rfl
 .rw [x9z (by simpa using h),x9z h];rfl
def AX{bs:List Nat}{f:Fm}(h:∀v∈f.F,v<bs.length):fmA (bs++nb) f=fmA bs f:=by
 unfold fmA;rw[Q5 h]
def Pj{bs:List Nat}{mem:List Int}(h:bs.length=mem.length):ZP (bs++nb) (mem++List.replicate nb.length 0)=ZP bs mem++nb.map fun b=>(b,.int .i64 0):=by
 unfold ZP;rw[x7n,List.zip_append (by rw[x7z];exact h),z0n];congr 1;clear h;induction nb with
 |nil=>rfl
 |cons b r i=>rw[x8j,z1i,List.zip_cons_cons,x8v,i]
def Ei{p:Pg}{bs:List Nat}{M:Mc}{k:Nat}{f:Pr}{ps:List Nat}{call:Int}(h:OkM p bs M)(j:∀v∈ps,v<M.mem.length)(n:nb.length=f.F.length):
  mHq p tape watch (bs++nb) vs (GK p k f ps call M) (UO (bs++nb) ps)=[(1000,mO p tape watch p.B.length (M.stack.length+1) vs.length M),(1001,.own 146 1 (UO bs (List.range p.B.length))),(2001,.own 194 1 (M.stack.map (fmA bs)++[.ip [.int .i64 k,eStrs (varsS p f),.sl (opR p bs ps nb),.int .i64 call]])),(2002,.own 2 1 (vs.map (.int .i64))),
 (2003,.own 2 1 (M.out.map (.int .i64))),(2004,.own 76 2 (M.trace.map evA)),(2500,.ext (.cells 2 (ZP bs M.mem++nb.map fun b=>(b,.int .i64 0)))),(2005,.own 146 1 (UO bs ps))]:=by
 have l:=Q5 (bs:=bs) (nb:=nb) (vs:=List.range p.B.length) fun v i=>by
  have:=x8n.1 i;have:=h.gl;have:=h.bl;omega
 have e2:=Q5 (bs:=bs) (nb:=nb) (vs:=ps) fun v i=>by rw[h.bl];exact j v i
 have q:M.stack.map (fmA (bs++nb))=M.stack.map (fmA bs):=z2f fun f u=>AX fun v i=>by rw[h.bl];exact(h.fr f u).rng v i
 have r:=Pj (nb:=nb) h.bl;have t:fmA (bs++nb) ⟨k,varsS p f,List.range p.B.length++ps++List.range' M.mem.length f.F.length,call⟩=.ip [.int .i64 k,eStrs (varsS p f),.sl (opR p bs ps nb),.int .i64 call]:=by
  unfold fmA opR;have:UO (bs++nb) (List.range p.B.length++ps++List.range' M.mem.length f.F.length)=UO bs (List.range p.B.length)++UO bs ps++nb.map cpA:=by
   have m:∀a b:List Nat,UO (bs++nb) (a++b)=UO (bs++nb) a++UO (bs++nb) b:=fun a b=>x7n;rw[m,m,l,e2,<-n,<-h.bl,TK]
  rw[this]
 unfold mHq mH GK;simp only[x7n,x8v,z2q,x7u,x8j,z0p];rw[l,e2,q,t,<-n,r];rfl
def FQ(p:Pg)(tape watch:List Int)(bs:List Nat)(vs:List Int)(M:Mc)(K:OkM p bs M)(Z:M.stack.length<=500)(k:Nat)(f:Pr)(E:p.A[k]?=some f)(Q:SpecP prog 135 [.agg p.cells,.str f.name] (fun r=>r=eStrs (varsS p f)))(V:p.B.length<=1000)(hvl:f.F.length<=1000)(ps:List Nat)(Y:ps.length<=1000)(g:∀v∈ps,v<M.mem.length)(call:Int):SpecH prog 76 [.ptr 1000 0,.j k,.hd 2005 0 ps.length,.j call] (mHq p tape watch bs vs M (UO bs ps)) (fun r H=>∃nb,r=.p (.int .i64 (Wh p k f))/\H=mHq p tape watch (bs++nb) vs (GK p k f ps call M) (UO (bs++nb) ps)/\nb.length=f.F.length):=by
 refine sH MM func76 rfl call76 ?_;conv=>whnf
 have hsp:(sheetOf p).p=p:=(QU p).1;have a:(p.A.map fun f=>AV.agg f.cells)[k]?=some (.agg f.cells):=by rw[x7k,E];rfl
 obtain⟨_,_,_,G,D⟩:=QU p;obtain⟨s1,s2,s3,s4⟩:=D k f E;have u:=HS (sheetOf p) k (QP p.A k) (QP p.A k+cntL f.body) s1 s2;have m:(UO bs (List.range p.B.length)).length=p.B.length:=by unfold UO;rw[x7z,x9t]
 have e:(UO bs ps).length=ps.length:=x7z _;repeat' ((first|(refine iM fun _=>?_)|refine dA ?_|refine x7g rfl ?_|refine aD ?_|(refine IdxK.at (k:=k) rfl a rfl ?_)|refine cP Q ?_|refine z0w (es:=[]) rfl m.symm (by show(0+p.B.length)*8<=140737488355328;omega) (by show 0+p.B.length<=9223372036854775807;omega) (fun x i=>by obtain⟨y,_,rfl⟩:=x7d.1 i;exact⟨rfl,rfl⟩) ?_|refine z0w (es:=[]++UO bs (List.range p.B.length)) (by rw[z0i,m];omega) e.symm (by show(0+p.B.length+ps.length)*8<=140737488355328;omega) (by show 0+p.B.length+ps.length<=9223372036854775807;omega) (fun x i=>by obtain⟨y,_,rfl⟩:=x7d.1 i;exact⟨rfl,rfl⟩) ?_);conv=>whnf)
 all_goals
  have U:(f.F.map AV.str).length=f.F.length:=x7z _;have L:(M.stack.map (fmA bs)).length=M.stack.length:=x7z _;refine LoopK.inv QV (fun x:Nat×List Nat×Bool=>bif x.2.2 then opF p tape watch bs vs M k f ps call x.1 x.2.1 else opS p tape watch bs vs M k f ps call x.1 x.2.1) (fun x=>x.1<=f.F.length/\x.2.1.length=x.1/\(x.2.2=true↔x.1=f.F.length)) (fun x=>f.F.length-x.1) (0,[],decide (0=f.F.length)) ?_ ⟨x7p _,rfl,z2v⟩ ?_
  .have C:Le Tryz.f76.ntmps (opS p tape watch bs vs M k f ps call 0 []) (bif decide (0=f.F.length)then opF p tape watch bs vs M k f ps call 0 []else opS p tape watch bs vs M k f ps call 0 []):=by
    cases decide (0=f.F.length)
    .exact Le.refl _
    .exact x0p rfl
   refine Le.trans (Le.of_eq ?_) C;unfold opS opR opC;simp only[z2q,x9q,z0i,z0q,z2x];rfl
  rintro⟨j,nb,fz⟩ ⟨J,l,q⟩;simp only at J l q⊢;cases fz with
  | false=>
    have hj:j<f.F.length:=by
     rcases x7m j f.F.length with h|h
     .exact h
     .have:=q.2 (by omega);cases this
    have O:=Ea (p:=p) (bs:=bs) (ps:=ps) (nb:=nb);have z:∀b,opR p bs ps (nb++[b])=opR p bs ps nb++[cpA b]:=fun b=>by unfold opR;rw[x7n,x8w,x8w,x8w];rfl
    have t:∀b,opC p tape watch bs vs M ps (nb++[b])=[(1000,mO p tape watch p.B.length M.stack.length vs.length M),(1001,.own 146 1 (UO bs (List.range p.B.length))),(2001,.own 194 1 (M.stack.map (fmA bs))),(2002,.own 2 1 (vs.map (.int .i64))),(2003,.own 2 1 (M.out.map (.int .i64))),(2004,.own 76 2 (M.trace.map evA)),(2500,.ext (.cells 2 ((ZP bs M.mem++nb.map fun b=>(b,.int .i64 0))++[(b,.int .i64 0)]))),(2005,.own 146 1 (UO bs ps))]:=fun b=>by unfold opC;rw[x7n,<-x8w];rfl
    have fin:∀b,∃x:Nat×List Nat×Bool,(x.1<=f.F.length/\x.2.1.length=x.1/\(x.2.2=true↔x.1=f.F.length))/\f.F.length-x.1<f.F.length-j/\Le Tryz.f76.ntmps (opS p tape watch bs vs M k f ps call (j+1) (nb++[b])) (bif x.2.2 then opF p tape watch bs vs M k f ps call x.1 x.2.1 else opS p tape watch bs vs M k f ps call x.1 x.2.1):=fun b=>by
     rcases x7m (j+1) f.F.length with h|h
     .exact ⟨(j+1,nb++[b],false),⟨by simp only;omega,by simp[l],⟨fun h=>(by cases h),fun I=>by simp only at I;omega⟩⟩,by simp only;omega,Le.refl _⟩
     .exact ⟨(j+1,nb++[b],true),⟨by simp only;omega,by simp[l],⟨fun _=>by simp only;omega,fun _=>rfl⟩⟩,by simp only;omega,x0p (by simp[l])⟩
    simp only[x7o];unfold opS at fin⊢;simp only[z,t]at fin;generalize opR p bs ps nb=R at*
    conv=>whnf
    repeat' (first|((first|refine x7g rfl ?_|refine aD ?_|refine bP ?_|refine wI ?_|refine z0w (es:=R) (n:=p.B.length+ps.length+j) (by omega) rfl (by show(p.B.length+ps.length+j+1)*8<=140737488355328;omega) (by show p.B.length+ps.length+j+1<=9223372036854775807;omega) (fun x i=>by rcases x7y.1 i with rfl;exact⟨rfl,rfl⟩) ?_);conv=>whnf)|(apply bD<;>intro _<;>first|omega|conv=>whnf)|(refine X6 QV 2 2500 ?_;conv=>whnf)|(refine⟨⟨rfl,rfl⟩,fun b hb=>?_⟩;conv=>whnf))
    all_goals first
     | (obtain⟨x,i,hμ,c⟩:=fin b
        exact⟨x,i,hμ,Le.trans (Le.of_eq rfl) c⟩)
  | true=>
    obtain rfl:j=f.F.length:=q.1 rfl;have d:=Ei (tape:=tape) (watch:=watch) (vs:=vs) (k:=k) (f:=f) (call:=call) (nb:=nb) K g l;simp only[x7c];unfold opF opC;generalize opR p bs ps nb=R at*
    conv=>whnf
    repeat' (first|((first|refine x7g rfl ?_|refine aD ?_|refine bP ?_|refine z0w (n:=M.stack.length) (by omega) rfl (by show(M.stack.length+1)*8<=140737488355328;omega) (by show M.stack.length+1<=9223372036854775807;omega) (fun x i=>by rcases x7y.1 i with rfl;exact⟨rfl,rfl⟩) ?_|refine cP u ?_);conv=>whnf)|(apply bD<;>intro _<;>first|omega|conv=>whnf))
    all_goals first
     |exact x9h _ (x8z _) ⟨nb,rfl,d.symm,l⟩
def varM(f:Fm)(name:Str):Nat:=f.F.getD (idxF (fun y=>name==y) f.names).toNat 0
def argsM(f:Fm):List Arg->List Nat->Mc->List Nat×Mc×Bool
 |[],ps,M=>(ps,M,true)
 |a::r,ps,M=>bif a.ref then argsM f r (ps++[varM f a.name]) M else bif (QE M f a.x).2 then argsM f r (ps++[M.mem.length]) {M with mem:=M.mem++[(QE M f a.x).1]}else(ps,endM M 4,false)
def Y9{α:Type}{q:α->Bool}{l:List α}(h:0<=idxF q l):(idxF q l).toNat<l.length:=by
 unfold idxF at*
 cases j:l.any q with
 |false=>rw[j,x7o]at h;omega
 | true=>
   rw[x7c];obtain⟨x,k,i⟩:=x8e.1 j;have:=List.findIdx_lt_length_of_exists ⟨x,k,i⟩;omega
def Fh{M:Mc}{id:Int}{v:List Int}:(QH w M id v).stack=M.stack:=by
 unfold QH;cases w.any fun x=>decide (id=x)<;>rfl
def G0{M:Mc}{id:Int}{v:List Int}:(QH w M id v).mem=M.mem:=by
 unfold QH;cases w.any fun x=>decide (id=x)<;>rfl
def Ol{M:Mc}{id:Int}{v:List Int}:(QH w M id v).trace.length<=M.trace.length+1:=by
 unfold QH;cases w.any fun x=>decide (id=x)
 .exact z4v _
 .show (M.trace++[(id,v)]).length<=_;rw[x7u];exact x7s _
theorem OkM.same{p:Pg}{bs:List Nat}{M M':Mc}(h:OkM p bs M)(j:M'.stack=M.stack)(l:M'.mem=M.mem):OkM p bs M':=
 ⟨by rw[l];exact h.bl,fun f i=>⟨(h.fr f (j▸i)).len,fun v m=>by rw[l];exact(h.fr f (j▸i)).rng v m⟩,by rw[l];exact h.gl,by rw[j];exact h.sl,fun f i=>h.nl f (j▸i)⟩
theorem OkM.cell{p:Pg}{bs:List Nat}{M:Mc}(h:OkM p bs M)(b:Nat)(n:Int):OkM p (bs++[b]) {M with mem:=M.mem++[n]}:=
 ⟨by simp[h.bl],fun f i=>⟨(h.fr f i).len,fun v j=>by have:=(h.fr f i).rng v j;simp;omega⟩,by have:=h.gl;simp;omega,h.sl,h.nl⟩
def A7{p:Pg}{bs:List Nat}{M:Mc}{n:Int}{b:Nat}(h:OkM p bs M):
  mH p tape watch (bs++[b]) vs {M with mem:=M.mem++[n]}=[(1000,mO p tape watch p.B.length M.stack.length vs.length M),(1001,.own 146 1 (UO bs (List.range p.B.length))),(2001,.own 194 1 (M.stack.map (fmA bs))),(2002,.own 2 1 (vs.map (.int .i64))),
 (2003,.own 2 1 (M.out.map (.int .i64))),(2004,.own 76 2 (M.trace.map evA)),(2500,.ext (.cells 2 (ZP bs M.mem++[(b,.int .i64 n)])))]:=by
 have j:=Q5 (bs:=bs) (nb:=[b]) (vs:=List.range p.B.length) fun v i=>by
  have:=x8n.1 i;have:=h.gl;have:=h.bl;omega
 have k:M.stack.map (fmA (bs++[b]))=M.stack.map (fmA bs):=z2f fun f m=>AX fun v i=>by rw[h.bl];exact(h.fr f m).rng v i
 have l:ZP (bs++[b]) (M.mem++[n])=ZP bs M.mem++[(b,.int .i64 n)]:=by
  unfold ZP;rw[x7n,List.zip_append (by rw[x7z];exact h.bl)];rfl
 unfold mH;simp only;rw[j,k,l];rfl
def FY(p:Pg)(watch:List Int)(M:Mc)(f:Fm)(t:S)(k:Nat)(g:Pr):Int×Mc:=bif (argsM f t.args [] M).2.2 then(if 100<(argsM f t.args [] M).2.1.stack.length then(-1,endM (argsM f t.args [] M).2.1 5)else(Wh p k g,GK p k g (argsM f t.args [] M).1 t.id (QH watch (argsM f t.args [] M).2.1 t.id [])))else(-1,(argsM f t.args [] M).2.1)
structure CallI(p:Pg)(M0:Mc)(f:Fm)(t:S)(j:Nat)(ps bs:List Nat)(M:Mc):Prop where
 le:j<=t.args.length
 ok:OkM p bs M
 sk:M.stack=M0.stack
 tr:M.trace=M0.trace
 ag:argsM f (t.args.drop j) ps M=argsM f t.args [] M0
 pl:ps.length=j
 pr:∀v∈ps,v<M.mem.length
def q4j:Info:={keep:=I_run_machine_call.keep,sched:=I_run_machine_call.sched,frz:=fun i=>bif Nat.beq i 10 then []else I_run_machine_call.frz i}
def Wl(p:Pg)(tape watch:List Int)(bs:List Nat)(vs:List Int)(M:Mc)(st:List Fm)(f:Fm)(hs:M.stack=st++[f])(hM:OkM p bs M)(hsl:M.stack.length<=101)(htl:M.trace.length<=10000000)(t:S)(hal:t.args.length<=100)(har:∀a∈t.args,a.ref=true->0<=idxF (fun y=>a.name==y) f.names)(k:Nat)(g:Pr)(hk:p.A[k]?=some g)(hki:idxF (fun f=>f.name==t.D) p.A=k)(hV:SpecP prog 135 [.agg p.cells,.str g.name] (fun r=>r=eStrs (varsS p g)))(hgl:p.B.length<=1000)(hvl:g.F.length<=1000):SpecH prog 77 [.ptr 1000 0,.p (.agg t.cells)] (mH p tape watch bs vs M) (fun r H=>∃bs' G,r=.p (.int .i64 (FY p watch M f t k g).1)/\H=mH p tape watch bs' G (FY p watch M f t k g).2/\bs'.length=(FY p watch M f t k g).2.mem.length):=by
 refine sH q4j func77 rfl call77 ?_;conv=>whnf
 have hlA:(t.args.map fun a=>AV.agg a.cells).length=t.args.length:=x7z _;have hPr:SpecP prog 51 [.ip (sheetOf p).cells,.str t.D] (fun r=>r=.int .i64 k):=by
  have:=XM (sheetOf p) t.D;rw[show(sheetOf p).p=p from rfl,hki]at this;exact this
 repeat' (refine iM fun _=>?_;conv=>whnf)
 refine LoopK.inv QV (fun x:Nat×List Nat×List Nat×List Int×Mc=>⟨[(0,.ptr 1000 0),(3,.p (.ip t.cells)),(5,.hd 0 0 x.2.1.length),(12,.p (.sl (t.args.map fun a=>.agg a.cells))),(13,.p (.int .i64 (t.args.map fun a=>AV.agg a.cells).length)),(14,.j x.1)],mH p tape watch x.2.2.1 x.2.2.2.1 x.2.2.2.2++[(0,.own 146 1 (UO x.2.2.1 x.2.1))]⟩)
  (fun x=>CallI p M f t x.1 x.2.1 x.2.2.1 x.2.2.2.2) (fun x=>t.args.length-x.1) (0,[],bs,vs,M) ?_ ⟨x7p _,hM,rfl,rfl,rfl,rfl,by simp⟩ ?_
 .exact Le.mk [(0,.own 146 1 [])] (by simp[Chunk.new0];rfl) (by simp) (by simp[mH]) (.r (.r (.cons (.nil x7v) (.r (.r (.r .nil)))))) (.cons rfl (.refl _) (.cons rfl (.refl _) (.cons rfl (.refl _) (.cons rfl (.refl _) (.cons rfl (.refl _) (.cons rfl (.refl _) (.cons rfl (.refl _) (.new x7v .nil))))))))
 rintro⟨j,ps,h,z,i⟩ hI;simp only at hI⊢;obtain⟨h1,q,K,Z,l,hpl,J⟩:=hI;have Y:i.stack=st++[f]:=K.trans hs;rcases x7m j t.args.length with hj|hj
 .have hdr:t.args.drop j=t.args[j]::t.args.drop (j+1):=QG hj;rw[hdr,argsM]at l;have hW:=UT p tape watch h z i st f Y q t.args[j].x;have hArl:=har t.args[j] (x7l hj);have hf:f∈i.stack:=by rw[Y];exact x8s _ (x7y.2 rfl)
  have hF:=q.fr f hf;have C:(UO h ps).length=ps.length:=x7z _;cases E:t.args[j].ref with
  | true=>
    rw[E,x7c]at l;have h0:=hArl E;have hlt:=Y9 h0;have hvi:(idxF (fun y=>t.args[j].name==y) f.names).toNat<f.F.length:=by rw[hF.len];exact hlt
    have hWh:=WH p tape watch h z i st f Y q.sl t.args[j].name (idxF (fun y=>t.args[j].name==y) f.names).toNat (varM f t.args[j].name) (z0f h0).symm (by unfold varM;rw[x7w,x7x hvi];rfl);have hvr:varM f t.args[j].name<i.mem.length:=by
     refine hF.rng _ ?_;unfold varM;rw[x7w,x7x hvi];exact x7l hvi
    have V:UO h (ps++[varM f t.args[j].name])=UO h ps++[cpA (h.getD (varM f t.args[j].name) 0)]:=x7n;have fin:∃x:Nat×List Nat×List Nat×List Int×Mc,CallI p M f t x.1 x.2.1 x.2.2.1 x.2.2.2.2/\t.args.length-x.1<t.args.length-j/\x=(j+1,ps++[varM f t.args[j].name],h,z,i):=
     ⟨(j+1,ps++[varM f t.args[j].name],h,z,i),⟨hj,q,K,Z,l,by simp[hpl],fun v c=>by
       rcases x7b.1 c with c|c
       .exact J v c
       .rw [x7y.1 c];exact hvr⟩,by simp only;omega,rfl⟩
    clear l;generalize varM f t.args[j].name=vv at*
    generalize h.getD vv 0=cb at*
    generalize UO h ps=R at*
    conv=>whnf
    repeat' (first|((first|refine x7g rfl ?_|refine aD ?_|refine bP ?_|(refine iA fun _=>?_)|refine wI ?_|refine z0w (n:=ps.length) C.symm rfl (by show(ps.length+1)*8<=140737488355328;omega) (by show ps.length+1<=9223372036854775807;omega) (fun x hx=>by rcases x7y.1 hx with rfl;exact⟨rfl,rfl⟩) ?_);conv=>whnf)|(apply bD<;>intro _<;>first|omega|conv=>whnf)|(apply bB<;>intro _<;>conv=>whnf)|(refine cH rH0 0 hWh ?_;conv=>whnf))
    all_goals first
     | (have Q:t.args[j].ref=false:=by assumption
        rw[E]at Q;cases Q)
     | (obtain⟨x,hx,hμ,rfl⟩:=fin
        exact⟨_,hx,hμ,Le.of_eq (by simp only[V,x7u,x8j,z0p]<;>rfl)⟩)
  | false =>
    rw[E,x7o]at l;have hch:=fun(I:List Int) (b:Nat)=>A7 (tape:=tape) (watch:=watch) (vs:=I) (n:=(QE i f t.args[j].x).1) (b:=b) q;have hpe:=fun(b:Nat)=>Q5 (bs:=h) (nb:=[b]) (vs:=ps) fun v c=>by rw[q.bl];exact J v c
    have hpb:∀b,UO (h++[b]) [i.mem.length]=[cpA b]:=fun b=>by
     unfold UO;rw[x8v,z2q,x7w,<-q.bl,x8f (x7s _),z1a];rfl
    have V:∀b,UO (h++[b]) (ps++[i.mem.length])=UO h ps++[cpA b]:=fun b=>by
     rw[show UO (h++[b]) (ps++[i.mem.length])=UO (h++[b]) ps++UO (h++[b]) [i.mem.length]from x7n,hpe,hpb]
    unfold L3 at hW;cases d:(QE i f t.args[j].x).2 with
    | false=>
      rw[d,x7o]at l hW;have m:FY p watch M f t k g=(-1,endM i 4):=by
       unfold FY;rw[<-l];rfl
      have u:h.length=(FY p watch M f t k g).2.mem.length:=by rw[m];exact q.bl
      rw[m]at u⊢;generalize hev:QE i f t.args[j].x=ev at*
      obtain⟨n,ok⟩:=ev;simp only at d;subst d;clear l hch;conv=>whnf
      repeat' (first|((first|refine x7g rfl ?_|(refine iA fun _=>?_)|refine Br.tt ?_);conv=>whnf)|(apply bD<;>intro _<;>first|omega|conv=>whnf)|(apply bB<;>intro _<;>conv=>whnf)|(refine cJ rH0 0 hW ?_;rintro l' H' ⟨G,rfl,rfl⟩;conv=>whnf))
      all_goals first
       |contradiction
       |(exfalso;simp_all;done)
       |exact x9h _ (x8z _) ⟨h,G,rfl,rfl,u⟩
    | true=>
      rw [d,x7c]at l hW;have fin:∀(I:List Int)(b:Nat),∃x:Nat×List Nat×List Nat×List Int×Mc,CallI p M f t x.1 x.2.1 x.2.2.1 x.2.2.2.2/\t.args.length-x.1<t.args.length-j/\x=(j+1,ps++[i.mem.length],h++[b],I,{i with mem:=i.mem++[(QE i f t.args[j].x).1]}):=fun I b=>
       ⟨(j+1,ps++[i.mem.length],h++[b],I,{i with mem:=i.mem++[(QE i f t.args[j].x).1]}),⟨hj,q.cell b _,K,Z,l,by simp[hpl],fun v c=>by
         rcases x7b.1 c with c|c
         .have:=J v c;simp;omega
         .rw [x7y.1 c];simp⟩,by simp only;omega,rfl⟩
      generalize hev:QE i f t.args[j].x=ev at*
      obtain⟨n,ok⟩:=ev;simp only at d;subst d;have C:(UO h ps).length=ps.length:=x7z _;clear l;conv=>whnf
      repeat' (first|((first|refine x7g rfl ?_|refine aD ?_|refine bP ?_|(refine iA fun _=>?_)|refine wI ?_|refine z0w (n:=ps.length) C.symm rfl (by show(ps.length+1)*8<=140737488355328;omega) (by show ps.length+1<=9223372036854775807;omega) (fun x hx=>by rcases x7y.1 hx with rfl;exact⟨rfl,rfl⟩) ?_|refine Br.ff ?_);conv=>whnf)|(apply bD<;>intro _<;>first|omega|conv=>whnf)|(apply bB<;>intro _<;>conv=>whnf)|(refine cJ rH0 0 hW ?_;rintro l' H' ⟨G,rfl,rfl⟩;conv=>whnf)|(refine X6 QV 1 2500 ?_;conv=>whnf)|(refine⟨⟨rfl,rfl⟩,fun b hb=>?_⟩;conv=>whnf))
      all_goals first
       |contradiction
       | (have Q:t.args[j].ref=true:=(by assumption)
          rw[E]at Q;cases Q)
       | (have Q:(!true)=true:=(by assumption)
          cases Q)
       | (obtain⟨x,hx,hμ,rfl⟩:=fin G b
          exact⟨_,hx,hμ,Le.of_eq (by simp only[V,hch,x7u,x8j,z0p]<;>rfl)⟩)
 .obtain rfl:j=t.args.length:=by omega
  rw[x7e (x7s _),argsM]at l;have O:=Fh (w:=watch) (M:=i) (id:=t.id) (v:=[]);have e:=G0 (w:=watch) (M:=i) (id:=t.id) (v:=[]);have hsl1:i.stack.length<=101:=by rw[K];exact hsl
  have hE0:=XN p tape watch h z i t.id [] (by rw[Z];exact htl);have hOp:=FQ p tape watch h z (QH watch i t.id []) (q.same O e) (by rw[O];omega) k g hk hV hgl hvl ps (by omega) (fun v c=>by rw[e];exact J v c) t.id;have hML:(i.stack.map (fmA h)).length=i.stack.length:=x7z _;by_cases L:100<i.stack.length
  .have m:FY p watch M f t k g=(-1,endM i 5):=by
    unfold FY;rw[<-l];simp only[x7c];rw[if_pos L]
   have u:h.length=(FY p watch M f t k g).2.mem.length:=by rw[m];exact q.bl
   rw[m]at u⊢;clear l;conv=>whnf
   repeat' (first|((first|(refine iM fun _=>?_)|refine x7g rfl ?_);conv=>whnf)|(apply bD<;>intro _<;>first|omega|conv=>whnf))
   all_goals first
    |(exfalso;omega)
    |exact x9h _ (x8z _) ⟨h,z,rfl,rfl,u⟩
  .have m:FY p watch M f t k g=(Wh p k g,GK p k g ps t.id (QH watch i t.id [])):=by
    unfold FY;rw[<-l];simp only[x7c];rw[if_neg L]
   have u:∀nb:List Nat,nb.length=g.F.length->(h++nb).length=(FY p watch M f t k g).2.mem.length:=fun nb U=>by
    rw[m];unfold GK;simp only[x7u,x9w];rw[e,q.bl,U]
   rw[m]at u⊢;clear l;conv=>whnf
   repeat' (first|((first|(refine iM fun _=>?_)|refine dA ?_|refine cP hPr ?_);conv=>whnf)|(apply bD<;>intro _<;>first|omega|conv=>whnf)|(refine cH rH0 0 hE0 ?_;conv=>whnf)|(refine cJ [(1000,1000),(1001,1001),(2001,2001),(2002,2002),(2003,2003),(2004,2004),(2500,2500),(2005,0)] 0 hOp ?_;rintro l' H' ⟨nb,rfl,rfl,U⟩;conv=>whnf))
   all_goals first
    |(exfalso;omega)
    |exact x9h _ (x8z _) ⟨h++nb,z,rfl,rfl,u nb U⟩
section
variable {P:Program}{T:Tab}{N:Nat}{o:Oper}{s:St}
def q0f{l:List (Nat×AV)}(h:(l.map (·.1)).Nodup){i j:Nat}{x y:Nat×AV}(q:l[i]?=some x)(r:l[j]?=some y)(p:x.1=y.1):i=j:=by
 have m:(l.map (·.1))[i]?=some x.1:=by rw[x7k,q];rfl
 have n:(l.map (·.1))[j]?=some y.1:=by rw[x7k,r];rfl
 have k:i<(l.map (·.1)).length:=(x7h.1 m).1;exact(List.getElem?_inj k h).1 (by rw[m,n,p])
def FL(hT:TabOK P T){K:St->Prop}{t:TypeId}{x v:Operand}(Y:o.op=.store t x v)(R:o.dst=none){i:TyI}(hi:T.get t=some i)(Z:i.size=1){b:Nat}(hx:QN s.sl x=.p (cpA b)){c:AV}(hv:QN s.sl v=.p c)(f:c.one=true){kc:Nat}{e:TypeId}{l:List (Nat×AV)}(hg:getH s.H kc=some (.ext (.cells e l))){m:Nat}{c0:AV}(I:l[m]?=some (b,c0))(h:Jq s.H kc (.ext (.cells e (l.set m (b,c)))) fun H=>K ⟨s.sl,H⟩):OpK P N s o K:=by
 refine⟨fun σ β a w g Q=>?_⟩;have D:=QQ g.E x;rw[hx]at D;have O:=QQ g.E v;rw[hv]at O;have q:XC.holds (.cells e l) σ (β kc) w:=g.heap.chunks kc _ (QJ hg);obtain⟨ic,u,h3,h4,h5,h6⟩:=q.2 _ (x7t I);have G:kc∈s.H.map (·.1):=x7d.2 ⟨_,QJ hg,rfl⟩;obtain⟨H',hK,g1,g2,g3⟩:=US g.heap.nodup h;have n:Rep σ c (a.eval v):=by cases O with|p O=>exact O
 have k:(a.eval v).cells=#[a.eval v]:=by
  have:=n.oneCell f;generalize a.eval v=u at this;cases u<;>first|rfl|cases this
 have C:∀u'∈(a.eval v).cells.toList,u'.oneCell'=true:=fun u' hu=>by
  rw[k]at hu;have:u'=a.eval v:=by simpa using hu
  rw[this];exact n.oneCell f
 have hxe:a.eval x=.pointer (some ⟨b,0,none⟩):=by
  generalize a.eval x=z at D;cases D with
  | p D=>cases D with
    |raw=>rfl
 have J:(execOp a.eval o).run P w=.ok .skip (w.setRow b #[a.eval v]):=by
  have L:=run_storeCells_at P b 0 e (a.eval v).cells.toList 0 #[u] w h5 (by rw[k];simp) C;have hsz:(sizeOf t).run P w=.ok 1 w:=by rw[<-Z];exact(hT _ _ hi).sizeOf w
  simp only[z2x,k]at L;have M:Sem.run P (storeCells ⟨b,0,none⟩ [a.eval v]) w=Result.ok () (w.setRow b #[a.eval v]):=by simpa using L
  simp[execOp,Y,Instr.storeAt,Instr.sureAddr,hxe,storeVar,hsz,k,M]
 have F:(l.set m (b,c)).map (·.1)=l.map (·.1):=by
  rw[x8o];refine z2g fun j=>?_;rw[z1n];by_cases r:m=j
  .subst r;have B:m<l.length:=(x7h.1 I).1;rw[if_pos rfl,if_pos (by rw[x7z];exact B),x7k,I];rfl
  .rw [if_neg r]
 obtain⟨g4,g5⟩:=AT g.heap G h3 h4 (vs:=#[a.eval v]) g1 g2 fun d U=>by
  rw[g3 d U];show XC.holds (.cells e (l.set m (b,c))) σ (β kc) _;refine⟨by rw[F];exact q.1,fun y hy=>?_⟩;obtain⟨j,r⟩:=x9c.1 hy;rw[z1n]at r;by_cases A:m=j
  .subst A;have B:m<l.length:=(x7h.1 I).1;rw[if_pos rfl,if_pos B]at r;cases r;exact⟨ic,a.eval v,h3,h4,setRow_heap w b _ _ _ _ h5,n⟩
  .rw [if_neg A]at r;have V:y.1≠b:=fun he=>A (q0f q.1 I r he.symm);obtain⟨i1,u1,q1,q2,q3,q4⟩:=q.2 y (x7t r);exact⟨i1,u1,q1,q2,(setRow_other w b y.1 _ V).trans q3,q4⟩
 refine Qd J ⟨σ,β,⟨s.sl,H'⟩,hK,⟨?_,?_,?_,g4⟩,g5⟩
 .rw [R];exact g.size
 .rw [R];exact g.defers
 .rw [R];exact g.E
end
theorem SpecH.post{P:Program}{f:FuncId}{args:List LV}{H:Heap}{R R':LV->Heap->Prop}(h:SpecH P f args H R)(g:∀l H',R l H'->∃j,R' l j/\Le 1 ⟨[(0,l)],H'⟩ ⟨[(0,l)],j⟩):SpecH P f args H R':=by
 refine⟨h.go,fun σ β w v b c e=>(h.ok σ β w v b c e).mono fun C w' B=>?_⟩;obtain⟨l,u,σ',β',H',A,x,t,r,m⟩:=B;obtain⟨j,y,a⟩:=g l H' x;obtain⟨σ2,β2,q,z⟩:=a σ' β' {tmps:=#[u],defers:=[]} w' ⟨rfl,rfl,fun i=>by
  match i with
  |0=>simpa[getS]using t
  |i+1=>exact .p (by simpa[getS]using Rep.any _),r⟩
 exact⟨l,u,σ2,β2,j,A,y,by simpa[getS]using q.E 0,q.heap,m.trans z⟩
theorem CSub.pre{e:TypeId}{sz:Nat}{es es':List AV}(h:es' <+: es):CSub (.own e sz es) (.own e sz es'):=fun σ β w k a=>by
 rcases a with⟨j,l⟩|⟨i,vs,j,l,r,u,v,y,z⟩
 .rw [l]at h;exact .inl ⟨j,List.prefix_nil.1 h⟩
 .exact .inr ⟨i,vs,j,l,r,u,x8m h.length_le v,y,fun m x q=>z m x (by
   obtain⟨t,rfl⟩:=h;rw[x8c (x7h.1 q).1];exact q)⟩
def setM(M:Mc)(v:Nat)(n:Int):Mc:={M with mem:=M.mem.set v n}
def GU{bs:List Nat}{mem:List Int}(i:bs.length=mem.length){v:Nat}(h:v<mem.length):(ZP bs mem)[v]?=some (bs.getD v 0,.int .i64 (mem.getD v 0)):=by
 unfold ZP;rw[List.getElem?_zip_eq_some];refine⟨?_,?_⟩
 .rw [x7w,x7x (by omega)];rfl
 .rw [x7k,x7x h];show some (AV.int .i64 mem[v])=some (AV.int .i64 (mem.getD v 0));rw[x7w,x7x h];rfl
def A9{bs:List Nat}{mem:List Int}(m:bs.length=mem.length){v:Nat}(h:v<mem.length)(n:Int):ZP bs (mem.set v n)=(ZP bs mem).set v (bs.getD v 0,.int .i64 n):=by
 have p:(ZP bs mem).length=mem.length:=by unfold ZP;rw[List.length_zip,x7z];omega
 refine z2g fun j=>?_;rw[z1n];by_cases k:v=j
 .subst k;rw[if_pos rfl,if_pos (by omega),GU (by rw[x9d];exact m) (by rw[x9d];exact h)];rw[x7w (l:=mem.set v n),x9j h];rfl
 .rw [if_neg k];rcases x7m j mem.length with i|i
  .rw [GU (by rw[x9d];exact m) (by rw[x9d];exact i),GU m i];rw[x7w (l:=mem.set v n),x9p k,<-x7w]
  .rw [x9z (by unfold ZP;rw[List.length_zip,x7z,x9d];omega),x9z (by omega)]
def mHs(p:Pg)(tape watch:List Int)(bs:List Nat)(vs:List Int)(M:Mc)(es:List AV):Heap:=[(1000,mO p tape watch p.B.length M.stack.length vs.length M),(1001,.own 146 1 (UO bs (List.range p.B.length))),(2001,.own 194 1 es),(2002,.own 2 1 (vs.map (.int .i64))),
 (2003,.own 2 1 (M.out.map (.int .i64))),(2004,.own 76 2 (M.trace.map evA)),(2500,.ext (.cells 2 (ZP bs M.mem)))]
def Dp{p:Pg}{bs:List Nat}{M:Mc}{v:Nat}{n:Int}{es:List AV}(i:bs.length=M.mem.length)(h:v<M.mem.length):mHs p tape watch bs vs (setM M v n) es=[(1000,mO p tape watch p.B.length M.stack.length vs.length M),(1001,.own 146 1 (UO bs (List.range p.B.length))),(2001,.own 194 1 es),(2002,.own 2 1 (vs.map (.int .i64))),
 (2003,.own 2 1 (M.out.map (.int .i64))),(2004,.own 76 2 (M.trace.map evA)),(2500,.ext (.cells 2 ((ZP bs M.mem).set v (bs.getD v 0,.int .i64 n))))]:=by
 unfold mHs setM;simp only;rw[A9 i h];rfl
def popM(M:Mc)(st:List Fm):Mc:={M with stack:=st}
inductive CloseP(p:Pg)(M:Mc)(st:List Fm)(f:Fm)(gave:Int):Int->Mc->Prop
 |done (h:f.call=0):CloseP p M st f gave (-1) (endM (popM M st) 1)
 |drop {it:Item} (h:1<=f.call) (hit:(sheetOf p).l[(f.call-1).toNat]?=some it) (hn:it.s.name=[]):CloseP p M st f gave it.next (popM M st)
 |keep {it:Item} {st':List Fm} {g:Fm} (h:1<=f.call) (hit:(sheetOf p).l[(f.call-1).toNat]?=some it) (hn:it.s.name≠[]) (hg:st=st'++[g]) (hi:0<=idxF (fun y=>it.s.name==y) g.names):CloseP p M st f gave it.next (setM (popM M st) (varM g it.s.name) gave)
def Z3(p:Pg)(tape watch:List Int)(bs:List Nat)(vs:List Int)(M:Mc)(st:List Fm)(f:Fm)(b:M.stack=st++[f])(u:OkM p bs M)(L:f.call<=100000)(h:Int)(at_:Int)(M':Mc)(K:CloseP p M st f h at_ M'):SpecH prog 80 [.ptr 1000 0,.j h] (mH p tape watch bs vs M) (fun r H=>∃es,st.map (fmA bs) <+: es/\r=.p (.int .i64 at_)/\H=mHs p tape watch bs vs M' es):=by
 refine sH PS func80 rfl call80 ?_;conv=>whnf
 have hT:=JR p tape watch bs vs M st f b u.sl;have U:M.stack.length=st.length+1:=by rw[b,x7u];rfl
 have m:st.map (fmA bs) <+: M.stack.map (fmA bs):=by rw[b,x7n];exact List.prefix_append _ _
 have O:(M.stack.map (fmA bs)).length=M.stack.length:=x7z _;have Q:=u.sl;cases K with
 | done R=>
   repeat' (first|((first|(refine iM fun _=>?_)|refine dA ?_|refine x7g rfl ?_|refine wI ?_|refine z3d 0 st.length rfl (by show(M.stack.length:Int)-1=_;omega) (x7p _) (by omega) ?_);conv=>whnf)|(apply bD<;>intro _<;>first|omega|conv=>whnf)|(refine cH rH0 0 hT ?_;conv=>whnf))
   all_goals first
    |(exfalso;omega)
    |exact x9h _ (x8z _) ⟨_,m,rfl,rfl⟩
 | @drop it J q t=>
   have e:((sheetOf p).l.map fun i=>AV.agg i.cells)[(f.call-1).toNat]?=some (.agg it.cells):=by rw[x7k,q];rfl
   have B:(it.s.name==[])=true:=by rw[t];rfl
   repeat' (first|((first|(refine iM fun _=>?_)|refine dA ?_|refine x7g rfl ?_|refine wI ?_|refine z3d 0 st.length rfl (by show(M.stack.length:Int)-1=_;omega) (x7p _) (by omega) ?_|(refine IdxK.at (k:=(f.call-1).toNat) (by omega) e rfl ?_));conv=>whnf)|(apply bD<;>intro _<;>first|omega|conv=>whnf)|(apply bN<;>intro _<;>conv=>whnf)|(refine cH rH0 0 hT ?_;conv=>whnf))
   all_goals first
    |(exfalso;omega)
    |(exfalso;simp_all;done)
    |exact x9h _ (x8z _) ⟨_,m,rfl,rfl⟩
 | @keep it E g J q t x I=>
   have e:((sheetOf p).l.map fun i=>AV.agg i.cells)[(f.call-1).toNat]?=some (.agg it.cells):=by rw[x7k,q];rfl
   have B:(it.s.name==[])=false:=z1o.2 t;have A:g∈M.stack:=by rw[b,x];simp
   have G:=u.fr g A;have D:(idxF (fun y=>it.s.name==y) g.names).toNat<g.F.length:=by rw[G.len];exact Y9 I
   have z:g.F[(idxF (fun y=>it.s.name==y) g.names).toNat]?=some (varM g it.s.name):=by unfold varM;rw[x7w,x7x D];rfl
   have c:=WH p tape watch bs vs (popM M st) E g x (by show st.length<=1000;omega) it.s.name (idxF (fun y=>it.s.name==y) g.names).toNat (varM g it.s.name) (z0f I).symm z;have a:varM g it.s.name<M.mem.length:=G.rng _ (x7t z);have d:=GU u.bl a;have C:=Dp (p:=p) (tape:=tape) (watch:=watch) (vs:=vs) (M:=popM M st) (v:=varM g it.s.name) (n:=h) (es:=st.map (fmA bs)) u.bl a;generalize varM g it.s.name=vv at*
   repeat' (first|((first|(refine iM fun _=>?_)|refine dA ?_|refine x7g rfl ?_|refine wI ?_|refine z3d 0 st.length rfl (by show(M.stack.length:Int)-1=_;omega) (x7p _) (by omega) ?_|(refine IdxK.at (k:=(f.call-1).toNat) (by omega) e rfl ?_)|refine JO rfl rfl ?_|refine FL (kc:=2500) QV rfl rfl rfl rfl rfl rfl rfl rfl d ?_);conv=>whnf)|(apply bD<;>intro _<;>first|omega|conv=>whnf)|(apply bN<;>intro _<;>conv=>whnf)|(refine cH rH0 0 hT ?_;conv=>whnf)|(refine cH rH0 0 c ?_ (hH:=by refine x8u (j:=1000) rfl rfl ?_ ?_;exact CSub.refl _;refine x8u (j:=1001) rfl rfl ?_ ?_;exact CSub.refl _;refine x8u (j:=2001) rfl rfl ?_ ?_;exact CSub.pre m;refine x8u (j:=2002) rfl rfl ?_ ?_;exact CSub.refl _;refine x8u (j:=2003) rfl rfl ?_ ?_;exact CSub.refl _;refine x8u (j:=2004) rfl rfl ?_ ?_;exact CSub.refl _;refine x8u (j:=2500) rfl rfl ?_ ?_;exact CSub.refl _;exact z0z);conv=>whnf))
   all_goals first
    |(exfalso;omega)
    |(exfalso;simp_all;done)
    |exact x9h _ (x8z _) ⟨_,List.prefix_refl _,rfl,C.symm⟩
def J6(l:List S)(o:Int):SpecP prog 141 [eSs l,.int .i64 o] (fun r=>r=.int .i64 (LR l o)):=by
 refine sB Lj func141 rfl call141 ?_;conv=>whnf
 cases l with
 | nil=>
   repeat' (first|(refine iM fun _=>?_;conv=>whnf)|(apply bD<;>intro _<;>first|omega|conv=>whnf))
   all_goals first
    |(exfalso;simp_all[S.avs];done)
    |exact RetK.int rfl
 | cons t r=>
   have h:(S.avs (t::r))[0]?=some (.agg t.cells):=by rw[S.avs_eq];rfl
   have j:(S.avs (t::r)).length=r.length+1:=by rw[S.avs_len];rfl
   have i:LR (t::r) o=t.id:=rfl;rw[i];repeat' (first|((first|(refine iM fun _=>?_)|(refine IdxK.at (k:=0) rfl h rfl ?_));conv=>whnf)|(apply bD<;>intro _<;>first|omega|conv=>whnf))
   all_goals first
    |(exfalso;omega)
    |exact RetK.int rfl
def doM(p:Pg)(tape watch:List Int)(M:Mc)(f:Fm)(g:Pr)(it:Item):Int×Mc:=
 if it.s.kind=7 then((((sheetOf p).l[(it.loop-1).toNat]?).map Item.next).getD 0,QH watch M it.s.id [])
 else if it.s.kind=8 then(it.loop,QH watch M it.s.id [])
 else if it.s.kind=10 then((atB g it.s.name).1,QH watch M it.s.id [])
 else if it.s.kind=2 then(if(tape.length:Int)<=M.reads then(-1,endM M 3)else(it.next,QH watch (setM {M with reads:=M.reads+1} (varM f it.s.name) (tape.getD M.reads.toNat 0)) it.s.id [tape.getD M.reads.toNat 0]))
 else bif (QE M f it.s.x).2 then
  (if it.s.kind=1 then(it.next,setM (QH watch M it.s.id [(QE M f it.s.x).1]) (varM f it.s.name) (QE M f it.s.x).1)
   else if it.s.kind=3 then(it.next,{QH watch M it.s.id [(QE M f it.s.x).1]with out:=(QH watch M it.s.id [(QE M f it.s.x).1]).out++[(QE M f it.s.x).1]})
   else if it.s.kind=5 then(if(QE M f it.s.x).1≠0 then LR it.s.L it.next else LR it.s.M it.next,QH watch M it.s.id [(QE M f it.s.x).1])
   else if it.s.kind=6 then(if(QE M f it.s.x).1≠0 then LR it.s.L it.s.id else it.next,QH watch M it.s.id [(QE M f it.s.x).1])
   else(it.next,QH watch M it.s.id [(QE M f it.s.x).1]))
 else(-1,endM M 4)
structure DoOk(p:Pg)(f:Fm)(g:Pr)(it:Item):Prop where
 lp:it.s.kind=7->1<=it.loop/\it.loop<=100000/\∃l,(sheetOf p).l[(it.loop-1).toNat]?=some l
 pr:∃k:Nat,it.D=k/\p.A[k]?=some g
 nm:it.s.kind=1\/it.s.kind=2->0<=idxF (fun y=>it.s.name==y) f.names
def q2c{M:Mc}{id:Int}{v:List Int}:(QH w M id v).out=M.out:=by
 unfold QH;cases w.any fun x=>decide (id=x)<;>rfl
def K8(p:Pg)(hcp:cntP p.A<=1000)(tape watch:List Int)(htp:tape.length<=10000000)(bs:List Nat)(vs:List Int)(M:Mc)(st:List Fm)(f:Fm)(Z:M.stack=st++[f])(D:OkM p bs M)(B:M.trace.length<=10000000)(hol:M.out.length<=10000000)(hrd:0<=M.reads)(hr2:M.reads<=10000000)(g:Pr)(it:Item)(V:DoOk p f g it):SpecH prog 79 [.ptr 1000 0,.p (.agg it.cells)] (mH p tape watch bs vs M) (fun r H=>∃h,r=.p (.int .i64 (doM p tape watch M f g it).1)/\H=mH p tape watch bs h (doM p tape watch M f g it).2):=by
 refine sH Ww func79 rfl call79 ?_;conv=>whnf
 have b:=XN p tape watch bs vs M it.s.id [] B;have hf:f∈M.stack:=by rw[Z];exact x8s _ (x7y.2 rfl)
 have Y:=D.fr f hf;obtain⟨kp,hkp,hgp⟩:=V.pr;unfold doM;by_cases G:it.s.kind=7
 .obtain ⟨hl1,hl2,lp,Q⟩:=V.lp G;have hg:((sheetOf p).l.map fun i=>AV.agg i.cells)[(it.loop-1).toNat]?=some (.agg lp.cells):=by rw[x7k,Q];rfl
  rw[Q];simp only[G,if_true,z0o,x9u];repeat' (first|((first|refine dA ?_|refine x7g rfl ?_|refine wI ?_|(refine IdxK.at (k:=(it.loop-1).toNat) (by omega) hg rfl ?_));conv=>whnf)|(apply bD<;>intro _<;>first|omega|conv=>whnf)|(refine cH rH0 0 b ?_;conv=>whnf))
  all_goals first
   |(exfalso;omega)
   |exact x9h _ (x8z _) ⟨vs,rfl,rfl⟩
 by_cases h8:it.s.kind=8
 .rw [if_neg G,if_pos h8];repeat' (first|(refine x7g rfl ?_;conv=>whnf)|(apply bD<;>intro _<;>first|omega|conv=>whnf)|(refine cH rH0 0 b ?_;conv=>whnf))
  all_goals first
   |(exfalso;omega)
   |exact x9h _ (x8z _) ⟨vs,rfl,rfl⟩
 by_cases E:it.s.kind=10
 .have hAt:=HV p kp g hgp hcp it.s.name;rw[if_neg G,if_neg h8,if_pos E];generalize atB g it.s.name=ab at*
  obtain⟨a1,a2⟩:=ab;repeat' (first|((first|refine dA ?_|refine x7g rfl ?_|(refine CallK.pure hAt (.cons (Sub.refl _) (.cons (Sub.int hkp) (.cons (Sub.refl _) .nil))) ?_;rintro _ rfl));conv=>whnf)|(apply bD<;>intro _<;>first|omega|conv=>whnf)|(refine cH rH0 0 b ?_;conv=>whnf))
  all_goals first
   |(exfalso;omega)
   |exact x9h _ (x8z _) ⟨vs,rfl,rfl⟩
 rw[if_neg G,if_neg h8,if_neg E];have htm:(tape.map (AV.int .i64)).length=tape.length:=x7z _;by_cases h2:it.s.kind=2
 .rw [if_pos h2];have O:=V.nm (.inr h2);have C:(idxF (fun y=>it.s.name==y) f.names).toNat<f.F.length:=by rw[Y.len];exact Y9 O
  have q:f.F[(idxF (fun y=>it.s.name==y) f.names).toNat]?=some (varM f it.s.name):=by unfold varM;rw[x7w,x7x C];rfl
  have d:=WH p tape watch bs vs {M with reads:=M.reads+1} st f Z D.sl it.s.name (idxF (fun y=>it.s.name==y) f.names).toNat (varM f it.s.name) (z0f O).symm q;have t:varM f it.s.name<M.mem.length:=Y.rng _ (x7t q);have e:=GU D.bl t;by_cases R:(tape.length:Int)<=M.reads
  .rw [if_pos R];repeat' (first|((first|(refine iM fun _=>?_)|refine dA ?_|refine x7g rfl ?_);conv=>whnf)|(apply bD<;>intro _<;>first|omega|conv=>whnf))
   all_goals first
    |(exfalso;omega)
    |exact x9h _ (x8z _) ⟨vs,rfl,rfl⟩
  .rw [if_neg R];have hgt:(tape.map (AV.int .i64))[M.reads.toNat]?=some (.int .i64 (tape.getD M.reads.toNat 0)):=by
    rw[x7k,x7w,x7x (by omega)];rfl
   generalize tape.getD M.reads.toNat 0=n at*
   have z:=Dp (p:=p) (tape:=tape) (watch:=watch) (vs:=vs) (M:={M with reads:=M.reads+1}) (v:=varM f it.s.name) (n:=n) (es:=M.stack.map (fmA bs)) D.bl t;have I:=XN p tape watch bs vs (setM {M with reads:=M.reads+1} (varM f it.s.name) n) it.s.id [n] B;rw[show mH p tape watch bs vs (setM {M with reads:=M.reads+1} (varM f it.s.name) n)=mHs p tape watch bs vs (setM {M with reads:=M.reads+1} (varM f it.s.name) n) (M.stack.map (fmA bs))from rfl,z]at I;generalize varM f it.s.name=vv at*
   repeat' (first|((first|(refine iM fun _=>?_)|refine dA ?_|refine x7g rfl ?_|refine aD ?_|refine bP ?_|refine wI ?_|(refine IdxK.at (k:=M.reads.toNat) (by omega) hgt rfl ?_)|refine JO rfl rfl ?_|refine FL (kc:=2500) QV rfl rfl rfl rfl rfl rfl rfl rfl e ?_);conv=>whnf)|(apply bD<;>intro _<;>first|omega|conv=>whnf)|(refine cH rH0 0 d ?_;conv=>whnf)|(refine cH rH0 0 I ?_;conv=>whnf))
   all_goals first
    |(exfalso;omega)
    |exact x9h _ (x8z _) ⟨vs,rfl,rfl⟩
 rw[if_neg h2];have u:=UT p tape watch bs vs M st f Z D it.s.x;unfold L3 at u;cases j:(QE M f it.s.x).2 with
 | false=>
   rw[j,x7o]at u;simp only[x7o];generalize QE M f it.s.x=ev at*
   obtain⟨n,ok⟩:=ev;simp only at j;subst j;repeat' (first|((first|refine x7g rfl ?_|refine Br.tt ?_);conv=>whnf)|(apply bD<;>intro _<;>first|omega|conv=>whnf)|(refine cJ rH0 0 u ?_;rintro l' H' ⟨h,rfl,rfl⟩;conv=>whnf))
   all_goals first
    |(exfalso;omega)
    |exact x9h _ (x8z _) ⟨h,rfl,rfl⟩
 | true =>
   rw[j,x7c]at u;simp only[x7c];generalize QE M f it.s.x=ev at*
   obtain⟨n,ok⟩:=ev;simp only at j;subst j;simp only;have m:=fun h=>XN p tape watch bs h M it.s.id [n] B;have K:=Fh (w:=watch) (M:=M) (id:=it.s.id) (v:=[n]);have J:=G0 (w:=watch) (M:=M) (id:=it.s.id) (v:=[n]);have heo:=q2c (w:=watch) (M:=M) (id:=it.s.id) (v:=[n]);have c:=D.same K J;generalize QH watch M it.s.id [n]=M1 at*
   have hol1:M1.out.length<=10000000:=by rw[heo];exact hol
   have hom:(M1.out.map (AV.int .i64)).length=M1.out.length:=x7z _;by_cases h1:it.s.kind=1
   .rw [if_pos h1];have O:=V.nm (.inl h1);have C:(idxF (fun y=>it.s.name==y) f.names).toNat<f.F.length:=by rw[Y.len];exact Y9 O
    have q:f.F[(idxF (fun y=>it.s.name==y) f.names).toNat]?=some (varM f it.s.name):=by unfold varM;rw[x7w,x7x C];rfl
    have d:=fun h=>WH p tape watch bs h M1 st f (K.trans Z) c.sl it.s.name (idxF (fun y=>it.s.name==y) f.names).toNat (varM f it.s.name) (z0f O).symm q;have t:varM f it.s.name<M1.mem.length:=by rw[J];exact Y.rng _ (x7t q)
    have e:=GU c.bl t;have z:=fun h=>Dp (p:=p) (tape:=tape) (watch:=watch) (vs:=h) (M:=M1) (v:=varM f it.s.name) (n:=n) (es:=M1.stack.map (fmA bs)) c.bl t;have U:∀h,mH p tape watch bs h (setM M1 (varM f it.s.name) n)=_:=fun h=>(show mH p tape watch bs h (setM M1 (varM f it.s.name) n)=mHs p tape watch bs h (setM M1 (varM f it.s.name) n) (M1.stack.map (fmA bs))from rfl).trans (z h);clear z;generalize varM f it.s.name=vv at*
    repeat' (first|((first|refine x7g rfl ?_|refine aD ?_|refine bP ?_|refine JO rfl rfl ?_|refine FL (kc:=2500) QV rfl rfl rfl rfl rfl rfl rfl rfl e ?_|refine Br.ff ?_);conv=>whnf)|(apply bD<;>intro _<;>first|omega|conv=>whnf)|(refine cJ rH0 0 u ?_;rintro l' H' ⟨h,rfl,rfl⟩;conv=>whnf)|(refine cH rH0 0 (m h) ?_;conv=>whnf)|(refine cH rH0 0 (d h) ?_;conv=>whnf))
    all_goals first
     |(exfalso;omega)
     |exact x9h _ (x8z _) ⟨h,rfl,(U h).symm⟩
   rw[if_neg h1];by_cases h3:it.s.kind=3
   .rw [if_pos h3];repeat' (first|((first|refine x7g rfl ?_|refine aD ?_|refine bP ?_|refine XX (by rw[x7z]) (by rw[x7z];omega) ?_|refine Br.ff ?_);conv=>whnf)|(apply bD<;>intro _<;>first|omega|conv=>whnf)|(refine cJ rH0 0 u ?_;rintro l' H' ⟨h,rfl,rfl⟩;conv=>whnf)|(refine cH rH0 0 (m h) ?_;conv=>whnf))
    all_goals first
     |(exfalso;omega)
     |exact x9h _ (x8z _) ⟨h,rfl,by unfold mH mO;simp only[x7u,x7n];rfl⟩
   rw[if_neg h3];have hF1:=J6 it.s.L it.next;have hF2:=J6 it.s.M it.next;have hF3:=J6 it.s.L it.s.id;by_cases h5:it.s.kind=5
   .rw [if_pos h5];generalize LR it.s.L it.next=q1 at*
    generalize LR it.s.M it.next=q2 at*
    repeat' (first|((first|refine x7g rfl ?_|refine aD ?_|refine bP ?_|refine cP hF1 ?_|refine cP hF2 ?_|refine Br.ff ?_);conv=>whnf)|(apply bD<;>intro _<;>first|omega|conv=>whnf)|(apply bE<;>intro _<;>first|omega|conv=>whnf)|(refine cJ rH0 0 u ?_;rintro l' H' ⟨h,rfl,rfl⟩;conv=>whnf)|(refine cH rH0 0 (m h) ?_;conv=>whnf))
    all_goals first
     |(exfalso;omega)
     | (have a:¬n=0:=(by assumption)
        exact x9h _ (z1u (Sub.int (if_pos a).symm)) ⟨h,rfl,rfl⟩)
     | (have a:n=0:=(by assumption)
        exact x9h _ (z1u (Sub.int (if_neg (fun hh=>hh a)).symm)) ⟨h,rfl,rfl⟩)
     |(exfalso;simp_all;done)
   by_cases h6:it.s.kind=6
   .rw [if_neg h5,if_pos h6];generalize LR it.s.L it.s.id=q3 at*
    repeat' (first|((first|refine x7g rfl ?_|refine aD ?_|refine bP ?_|refine cP hF3 ?_|refine Br.ff ?_);conv=>whnf)|(apply bD<;>intro _<;>first|omega|conv=>whnf)|(apply bE<;>intro _<;>first|omega|conv=>whnf)|(refine cJ rH0 0 u ?_;rintro l' H' ⟨h,rfl,rfl⟩;conv=>whnf)|(refine cH rH0 0 (m h) ?_;conv=>whnf))
    all_goals first
     |(exfalso;omega)
     | (have a:¬n=0:=(by assumption)
        exact x9h _ (z1u (Sub.int (if_pos a).symm)) ⟨h,rfl,rfl⟩)
     | (have a:n=0:=(by assumption)
        exact x9h _ (z1u (Sub.int (if_neg (fun hh=>hh a)).symm)) ⟨h,rfl,rfl⟩)
     |(exfalso;simp_all;done)
   rw[if_neg h5,if_neg h6];repeat' (first|((first|refine x7g rfl ?_|refine aD ?_|refine bP ?_|refine Br.ff ?_);conv=>whnf)|(apply bD<;>intro _<;>first|omega|conv=>whnf)|(refine cJ rH0 0 u ?_;rintro l' H' ⟨h,rfl,rfl⟩;conv=>whnf)|(refine cH rH0 0 (m h) ?_;conv=>whnf))
   all_goals first
    |(exfalso;omega)
    |exact x9h _ (x8z _) ⟨h,rfl,rfl⟩
end Go.Ab
