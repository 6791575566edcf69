/- scope: the first name that stands for nothing. -/
import Derived.Test.YtonbdgcjnecapaaGreatRchC9
set_option linter.all false
set_option maxRecDepth 100000
set_option maxHeartbeats 16000000
namespace Go.Ab
open Go.Proofs.Tryz
open Go.Proofs
variable {α β:Type}{a c d:Int}{b:Bool}{f:Pr}{its:List Item}{j k:Nat}{l seen:List Str}{p:Pg}
def Ku(c at_:Int):AV:=.agg [.int .i64 c,.int .i64 at_]
def procsN(p:Pg):List Str:=p.A.map Pr.name
def ZF(p:Pg):Bool:=ZG p.D||(ZG (procsN p)||(!((procsN p).any fun s=>mainS==s)||match p.A.find? (fun f=>mainS==f.name)with
 |some f=>decide (0<f.B.length)
 |none=>true))
def WN(p:Pg)(f:Pr):Option Int:=
 bif ZG (Jc f)||(Jc f).any (fun n=>p.D.any fun s=>n==s)then some 0 else((flL f.body).find? fun t=> !knownB p f (procsN p) t).map S.id
def XX(p:Pg):Int×Int:=
 bif JJ p then bif ZF p then(5,0)else match p.A.findSome? (WN p)with
  |some a=>(5,a)
  |none=>(0,0)
 else(1,0)
def Ri{l:List α}{p:α->Bool}(h:l.any p=true):∃(k:Nat) (hk:k<l.length),Xr p l=k/\p l[k]=true/\l.find? p=some l[k]:=by
 have i:l.findIdx p<l.length:=by
  rw[List.findIdx_lt_length];exact x2e.1 h
 refine⟨l.findIdx p,i,by unfold Xr;rw[h];rfl,List.findIdx_getElem,?_⟩;rw[List.find?_eq_some_iff_getElem];exact⟨List.findIdx_getElem,l.findIdx p,i,rfl,fun j m=>by simpa using List.not_of_lt_findIdx m⟩
def IZ(h:(procsN p).any (fun s=>mainS==s)=true):∃(k:Nat) (m:k<p.A.length),Xr (fun s=>mainS==s) (procsN p)=k/\p.A.find? (fun f=>mainS==f.name)=some p.A[k]:=by
 have i:p.A.any (fun f=>mainS==f.name)=true:=by simpa[procsN,List.any_map,Function.comp_def]using h
 obtain⟨k,m,n,_,o⟩:=Ri i;refine⟨k,m,?_,o⟩;rw[<-n];unfold Xr;rw[h,i];simp[procsN,List.findIdx_map,Function.comp_def]
def Ti(p:Pg)(o:p.A[j]?=some f)(v:cntP p.A<=1000):SpecP prog 150 [.ip (sheetOf p).cells,.int .i64 j] (fun r=>r=VC (itL j 0 (-1) 0 (QR p.A j) f.body)):=by
 obtain⟨_,q,s,t,h⟩:=QJ p;obtain⟨i,m,u,n⟩:=h j f o;have:=LA (sheetOf p) j _ _ i m (by omega) (by omega) (by omega);rw[n]at this;exact this
def VU(l:List Item):(l.map fun i=>AV.agg i.cells).length=l.length:=x0j _
def Uz{l:List α}{f:α->Option β}(i:j<l.length)(h:f l[j]=none):(l.drop (j+1)).findSome? f=(l.drop j).findSome? f:=by
 rw[QB i,List.findSome?_cons,h]
def VY{l:List α}{f:α->Option β}{b:β}(i:j<l.length)(h:f l[j]=some b):(l.drop j).findSome? f=some b:=by
 rw[QB i,List.findSome?_cons,h]
def W4{l:List α}{f:α->Option β}(h:l.length<=j):(l.drop j).findSome? f=none:=by
 rw[x1q h];rfl
def BV{q:S->Bool}(l:List Item):(l.find? fun m=>q m.s).map (fun m=>m.s.id)=((l.map Item.s).find? q).map S.id:=by
 rw[List.find?_map];cases h:l.find? (q∘Item.s)with
 |none=>rw[show(l.find? fun m=>q m.s)=none from h];rfl
 |some i=>rw[show(l.find? fun m=>q m.s)=some i from h];rfl
def CZ{l:List Pr}(t:j<l.length)(h:wPr l[j]<=20000){b:Int}{n:Nat}(i:k<(itL a b c d n l[j].body).length):(itL a b c d n l[j].body)[k].s.args.length<=20000:=by
 have m:(itL a b c d n l[j].body)[k].s∈flL l[j].body:=by
  rw[<-Q4 a b c d n];exact x0n.2 ⟨_,x0s i,rfl⟩
 have o:=Ml _ _ m;have q:=Ef (itL a b c d n l[j].body)[k].s;have r:=Qt (itL a b c d n l[j].body)[k].s.args;unfold wPr at h;omega
def QC{H:Heap}{b:Int}(h:a=c)(i:b=d):RetK H (.p (.agg [.int .i64 a,.int .i64 b])) (fun r=>r=Ku c d):=⟨_,.p (Sub.refl _),by rw[h,i];rfl⟩
def JD(p:Pg)(T:Fit p):SpecP prog 89 [.agg p.cells] (fun r=>r=Ku (XX p).1 (XX p).2):=by
 refine sB Hj func89 rfl call89 ?_;conv=>whnf
 repeat' (first|((first|(refine iM fun _=>?_)|refine cP (Dh _) ?_|refine x0h rfl ?_);conv=>whnf)|(apply bN<;>intro _<;>conv=>whnf))
 rotate_left 1
 .exact QC (by simp[XX, *]) (by simp[XX, *])
 have x:JJ p=true:=by assumption
 obtain⟨hg,Y,R⟩:=WO x;have hl:(p.A.map fun f=>AV.agg f.cells).length=p.A.length:=x0j _;have V:(procsN p).length=p.A.length:=by simp[procsN]
 refine LoopK.inv QK (fun i:Nat×List Str=>⟨[(1,.p (.ip p.cells)),(2,.ptr 1 0),(3,.hd 0 0 i.2.length),(18,.p (.sl (p.A.map fun f=>.agg f.cells))),(19,.p (.int .i64 (p.A.map fun f=>AV.agg f.cells).length)),(20,.p (.int .i64 i.1))],[(0,.own 9 1 (i.2.map .str)),(1,.obj 85 [.p (.int .i64 0),.p (.int .i64 0)])]⟩)
  (fun i=>i.1<=p.A.length/\i.2=(procsN p).take i.1) (fun i=>p.A.length-i.1) (0,[])
  (Le.mk [(0,.own 9 1 [])] (by simp[Chunk.new0];rfl) (by simp) (by simp) (.r (.r (.cons (.nil x0k) (.r (.r (.r .nil)))))) (.new x0k (.cons rfl (.refl _) .nil)))
  ⟨x0l _,by simp⟩ ?_
 rintro⟨j,v⟩ ⟨J,w⟩;simp only at J w⊢;have Q:v.length<=16:=by rw[w];simp;omega
 conv=>whnf
 repeat' (first|((first|refine x0h rfl ?_|refine aD ?_|refine bP ?_|(refine iA fun _=>?_)|refine wI ?_|refine XQ (by simp) (by simp;omega) ?_|(refine XM (WZ v mainS) (.cons (.hd rfl (by simp)) (.cons (.p (Sub.refl _)) .nil)) (by rintro _ rfl;rfl) ?_;rintro _ rfl)|(refine XM (MZ v) (.cons (.hd rfl (by simp)) .nil) (by rintro _ rfl;rfl) ?_;rintro _ rfl)|refine cP (MZ _) ?_);conv=>whnf)|(apply bD<;>intro _<;>first|omega|conv=>whnf)|(apply bB<;>intro _<;>conv=>whnf))
 .exact ⟨(j+1,v++[p.A[j].name]),⟨by simp only;omega,by simp only;rw[w,x0a (by omega)];simp[procsN]⟩,by simp only;omega,Le.of_eq (by simp only[x0g,x0c];rfl)⟩
 all_goals
  have C:v=procsN p:=by rw[w,x1w (by omega)]
  clear w;subst C
 .have o:ZF p=true:=by unfold ZF;rw[show ZG p.D=true by assumption];rfl
  exact QC (by unfold XX;rw[x,o];rfl) (by unfold XX;rw[x,o];rfl)
 .have o:ZF p=true:=by unfold ZF;rw[show ZG p.D=false by assumption,show ZG (procsN p)=true by assumption];rfl
  exact QC (by unfold XX;rw[x,o];rfl) (by unfold XX;rw[x,o];rfl)
 .have h:((procsN p).any fun s=>mainS==s)=false:=by
   rw[<-Ui];simp;omega
  have o:ZF p=true:=by unfold ZF;rw[show ZG p.D=false by assumption,show ZG (procsN p)=false by assumption,h];rfl
  exact QC (by unfold XX;rw[x,o];rfl) (by unfold XX;rw[x,o];rfl)
 have h:((procsN p).any fun s=>mainS==s)=true:=by
  rw[<-Ui];simp;omega
 obtain⟨k,y,F,m⟩:=IZ h;have G:(p.A.map fun f=>AV.agg f.cells)[k]?=some (.agg p.A[k].cells):=by simp[y]
 have I:(p.A[k].B.map fun a=>AV.agg a.cells).length=p.A[k].B.length:=x0j _;refine IdxK.at F G rfl ?_;conv=>whnf
 repeat' (first|((first|(refine iM fun _=>?_)|refine x0h rfl ?_|(refine CallK.pure (JI p (by omega) (by omega)) (.cons (Sub.refl _) .nil) ?_;rintro _ rfl));conv=>whnf)|(apply bD<;>intro _<;>first|omega|conv=>whnf))
 .have o:ZF p=true:=by
   unfold ZF;rw[show ZG p.D=false by assumption,show ZG (procsN p)=false by assumption,h,m];have:0<p.A[k].B.length:=by omega
   simp[this]
  exact QC (by unfold XX;rw[x,o];rfl) (by unfold XX;rw[x,o];rfl)
 have o:ZF p=false:=by
  unfold ZF;rw[show ZG p.D=false by assumption,show ZG (procsN p)=false by assumption,h,m];have:¬0<p.A[k].B.length:=by omega
  simp[this]
 have N:XX p=match p.A.findSome? (WN p)with
  |some a=>(5,a)
  |none=>(0,0):=by unfold XX;rw[x,o];rfl
 rw[N];refine LoopK.inv QK (fun j:Nat=>⟨[(1,.p (.ip p.cells)),(2,.ptr 1 0),(3,.hd 0 0 (procsN p).length),(7,.p (.ip (sheetOf p).cells)),(57,.p (.sl (p.A.map fun f=>.agg f.cells))),(58,.p (.int .i64 (p.A.map fun f=>AV.agg f.cells).length)),(59,.p (.int .i64 j))],[(0,.own 9 1 ((procsN p).map .str)),(1,.obj 85 [.p (.int .i64 0),.p (.int .i64 0)])]⟩)
  (fun j=>j<=p.A.length/\(p.A.drop j).findSome? (WN p)=p.A.findSome? (WN p)) (fun j=>p.A.length-j) 0 (Le.of_eq rfl) ⟨x0l _,rfl⟩ ?_
 clear J F m G I;rintro j ⟨J,w⟩;rcases x0t j p.A.length with q|q;rotate_left 1
 .have e:p.A.findSome? (WN p)=none:=by rw[<-w,W4 q]
  rw[e];conv=>whnf
  repeat' (first|(refine x0h rfl ?_;conv=>whnf)|(apply bD<;>intro _<;>first|omega|conv=>whnf))
  exact QC rfl rfl
 have E:=T.pr (x0s q);have H:=JK.1 (Lx x (x0s q));conv=>whnf
 repeat' (first|((first|(refine iM fun _=>?_)|refine cP (MZ _) ?_|refine x0h rfl ?_|(refine iA fun _=>?_)|(refine CallK.pure (Am (p.A[j]'q) (by have:=H.1;omega) (by have:=H.2.1;omega)) (.cons (Sub.refl _) .nil) ?_;rintro _ rfl)|refine cP (VM (Jc (p.A[j]'q)) 149 (.ip p.cells) (fun n=>p.D.any fun s=>n==s) (Dq p)) ?_|(refine CallK.pure (Ti p (f:=p.A[j]'q) (by simp) (by omega)) (.cons (Sub.refl _) (.cons (Sub.refl _) .nil)) ?_;rintro _ rfl));conv=>whnf)|(apply bD<;>intro _<;>first|omega|conv=>whnf)|(apply bB<;>intro _<;>conv=>whnf))
 .have e:WN p p.A[j]=some 0:=by
   unfold WN;rw[show ZG (Jc p.A[j])=true by assumption];rfl
  have e2:=VY q e;rw[w]at e2;rw[e2];exact QC rfl rfl
 .have e:WN p p.A[j]=some 0:=by
   unfold WN;rw[show ZG (Jc p.A[j])=false by assumption,show((Jc p.A[j]).any fun n=>p.D.any fun s=>n==s)=true by assumption];rfl
  have e2:=VY q e;rw[w]at e2;rw[e2];exact QC rfl rfl
 have u:WN p p.A[j]=((flL p.A[j].body).find? fun t=> !knownB p p.A[j] (procsN p) t).map S.id:=by
  unfold WN;rw[show ZG (Jc p.A[j])=false by assumption,show((Jc p.A[j]).any fun n=>p.D.any fun s=>n==s)=false by assumption];rfl
 have z:∀k (y:k<(itL (j:Nat) 0 (-1) 0 (QR p.A j) p.A[j].body).length),(itL (j:Nat) 0 (-1) 0 (QR p.A j) p.A[j].body)[k].s.args.length<=20000:=fun k y=>CZ q E y;rw[<-Q4 (j:Nat) 0 (-1) 0 (QR p.A j),<-BV]at u;have L:(itL (j:Nat) 0 (-1) 0 (QR p.A j) p.A[j].body).length<=20000:=by
  have:=Rx p.A[j].body;unfold wPr at E;rw[ZH];omega
 generalize O:itL (j:Nat) 0 (-1) 0 (QR p.A j) p.A[j].body=its at u z L⊢;have U:=VU its;refine LoopK.inv QK (fun k:Nat=>⟨[(1,.p (.ip p.cells)),(2,.ptr 1 0),(3,.hd 0 0 (procsN p).length),(7,.p (.ip (sheetOf p).cells)),(9,.p (.ip (p.A[j]'q).cells)),(57,.p (.sl (p.A.map fun f=>.agg f.cells))),(58,.p (.int .i64 (p.A.map fun f=>AV.agg f.cells).length)),(59,.p (.int .i64 j)),(76,.p (VC its)),(77,.p (.int .i64 (its.map fun i=>AV.agg i.cells).length)),(78,.p (.int .i64 k))],[(0,.own 9 1 ((procsN p).map .str)),(1,.obj 85 [.p (.int .i64 0),.p (.int .i64 0)])]⟩)
  (fun k=>k<=its.length/\(its.drop k).find? (fun g=> !knownB p p.A[j] (procsN p) g.s)=its.find? fun g=> !knownB p p.A[j] (procsN p) g.s) (fun k=>its.length-k) 0 (Le.of_eq rfl) ⟨x0l _,rfl⟩ ?_
 rintro k ⟨Z,K⟩;rcases x0t k its.length with y|y;rotate_left 1
 .rw [<-K,BW y]at u;conv=>whnf
  repeat' (first|(refine wI ?_;conv=>whnf)|(apply bD<;>intro _<;>first|omega|conv=>whnf))
  exact⟨j+1,⟨by omega,by rw[<-w,Uz q u]⟩,by omega,Le.of_eq rfl⟩
 have M:=z k y;conv=>whnf
 repeat' (first|((first|refine x0h rfl ?_|(refine iA fun _=>?_)|refine wI ?_|(refine XM (Lh p p.A[j] (procsN p) its[k].s M) (.cons (.p (Sub.refl _)) (.cons (.p (Sub.refl _)) (.cons (.hd rfl (by simp)) (.cons (.p (Sub.refl _)) .nil)))) (by rintro _ rfl;rfl) ?_;rintro _ rfl));conv=>whnf)|(apply bD<;>intro _<;>first|omega|conv=>whnf)|(apply bN<;>intro _<;>conv=>whnf))
 .exact ⟨k+1,⟨by omega,by rw[<-K,Xg (p:=fun g:Item=> !knownB p p.A[j] (procsN p) g.s) y (by simp;assumption)]⟩,by omega,Le.of_eq rfl⟩
 .have P:=BU (p:=fun g:Item=> !knownB p p.A[j] (procsN p) g.s) y (by simp;assumption);rw[<-K,P]at u;have e2:=VY q u;rw[w]at e2;rw[e2];exact QC rfl rfl
def q3r:LV->Option Bool
 |.p .tt=>some true
 |.p .ff=>some false
 |.p (.bool b)=>some b
 |_=>none
def R6{σ:Mem}{β:Lab}{l:LV}{v:Value}(h:RepL σ β l v)(i:q3r l=some b):v=.bool b:=by
 cases h with
 |p h=>cases h<;>simp[q3r]at i<;>subst i<;>rfl
 |_=>simp[q3r]at i
def FP{P:Program}{T:Tab}{B:Bool}{s:St}{o:Oper}{K:LV->Prop}(hT:TabOK P T){t u:TypeId}{x y:Operand}(h:o.op=.binOp .neq t x y u){i:TyI}(C:T.get t=some i)(z:i.desc=.bool){a:Bool}(D:q3r (QL s.sl x)=some a)(E:q3r (QL s.sl y)=some b)(v:K (.p (.bool (a != b)))):ValO P B s o K:=by
 refine⟨fun σ β F w m _=>⟨_,.bool (a != b),v,.p (.bool _),fun w' _ _=>?_⟩⟩;have q:=R6 (QZ m x) D;have r:=R6 (QZ m y) E;have n:=hT.of C;rw[z]at n;have A:(eqGuard .neq t x y (.bool a) (.bool b)).run P w'=.ok () w':=by unfold eqGuard;rfl
 have g:(Op.equal t (.bool a) (.bool b)).run P w'=.ok (a==b) w':=by
  have e:Op.equal t (.bool a) (.bool b)=Op.equalIn (9999+1) t (.bool a) (.bool b):=rfl;rw[e,Op.equalIn,Sem.run_bind,run_underlying n,Result.andThen_ok];rfl
 simp only[execOp,h,q,r,Sem.run_bind,A,Result.andThen_ok,binOp];simp[g];cases a<;>cases b<;>rfl
def Sk(l:List Param)(args:List Arg):Bool:=decide (l.map Param.ref=args.map Arg.ref)
def TG(l:List Param)(args:List Arg):SpecP prog 212 [.sl (l.map fun a=>.agg a.cells),I0 args] (fun r=>r=.bool (Sk l args)):=by
 refine sB B3 func212 rfl call212 ?_;conv=>whnf
 repeat' (first|(refine iM fun _=>?_;conv=>whnf)|(apply bE<;>intro _<;>first|omega|conv=>whnf))
 all_goals
  have t:(l.map fun a=>AV.agg a.cells).length=l.length:=x0j _;have q:(args.map fun a=>AV.agg a.cells).length=args.length:=x0j _
 .have o:l.length=args.length:=by omega
  refine LoopK.inv QK (fun j:Nat=>⟨[(1,.p (I0 args)),(12,.p (.sl (l.map fun a=>.agg a.cells))),(13,.p (.int .i64 (l.map fun a=>AV.agg a.cells).length)),(14,.p (.int .i64 j))],[]⟩) (fun j=>j<=l.length/\(l.map Param.ref).take j=(args.map Arg.ref).take j) (fun j=>l.length-j) 0 (Le.of_eq rfl) ⟨x0l _,rfl⟩ ?_;rintro j ⟨s,m⟩;rcases x0t j l.length with n|n
  .conv=>whnf
   repeat' (first|((first|refine dA ?_|refine x0h rfl ?_|(refine iA fun _=>?_)|refine wI ?_|refine FP QK rfl rfl rfl rfl rfl ?_);conv=>whnf)|(apply bD<;>intro _<;>first|omega|conv=>whnf)|(apply bE<;>intro _<;>first|omega|conv=>whnf))
   .have h:l[j].ref=(args[j]'(by omega)).ref:=by assumption
    exact⟨j+1,⟨by omega,by
     rw[x0a (by simp;omega),x0a (by simp;omega),m];simp[h]⟩,by omega,Le.of_eq rfl⟩
   .have h:¬l[j].ref=(args[j]'(by omega)).ref:=by assumption
    exact RetK.ff (by
     unfold Sk;rw[x2c];intro i;have:(l.map Param.ref)[j]?=(args.map Arg.ref)[j]?:=by rw[i]
     rw[x0d,x0d,x0u n,x0u (by omega)]at this;simp at this;exact h this)
  .conv=>whnf
   repeat' (apply bD<;>intro _<;>first|omega|conv=>whnf)
   exact RetK.tt (by
    unfold Sk;rw[x1n]
    rwa[x1w (by simp;omega),x1w (by simp;omega)]at m)
 .exact RetK.ff (by
   unfold Sk;rw[x2c];intro i;have:=x2o List.length i;simp at this;omega)
def FS(p:Pg)(s:S):Bool:=decide (s.kind=4)&&match p.A.find? (fun f=>f.name==s.C)with
 |some f=>Sk f.B s.args
 |none=>false
def TK(p:Pg)(s:S):SpecP prog 152 [.agg p.cells,.agg s.cells] (fun r=>r=.bool (FS p s)):=by
 refine sB B2 func152 rfl call152 ?_;conv=>whnf
 repeat' (first|(refine iM fun _=>?_;conv=>whnf)|(apply bE<;>intro _<;>first|omega|conv=>whnf))
 .have m:(p.A.map fun f=>AV.agg f.cells).length=p.A.length:=x0j _;refine LoopK.inv QK (fun j:Nat=>⟨[(3,.p (.ip s.cells)),(11,.p (.sl (p.A.map fun f=>.agg f.cells))),(12,.p (.int .i64 (p.A.map fun f=>AV.agg f.cells).length)),(13,.p (.int .i64 j))],[]⟩) (fun j=>j<=p.A.length/\(p.A.drop j).find? (fun f=>f.name==s.C)=p.A.find? (fun f=>f.name==s.C)) (fun j=>p.A.length-j) 0 (Le.of_eq rfl) ⟨x0l _,rfl⟩ ?_;rintro j ⟨i,h⟩;conv=>whnf
  repeat' (first|((first|refine cP (TG _ _) ?_|refine x0h rfl ?_|(refine iA fun _=>?_)|refine wI ?_);conv=>whnf)|(apply bD<;>intro _<;>first|omega|conv=>whnf)|(apply bB<;>intro _<;>conv=>whnf))
  .have e:=BU (p:=fun f:Pr=>f.name==s.C) (l:=p.A) (j:=j) (by omega) (by assumption);rw[h]at e;exact RetK.bool (by unfold FS;rw[e];simp[*])
  .exact ⟨j+1,⟨by omega,by rw[<-h,Xg (p:=fun f:Pr=>f.name==s.C) (by omega) (by assumption)]⟩,by omega,Le.of_eq rfl⟩
  .have e:p.A.find? (fun f=>f.name==s.C)=none:=by rw[<-h,BW (by omega)]
   exact RetK.ff (by unfold FS;rw[e];simp)
 .exact RetK.ff (by unfold FS;simp[*])
def YQ(p:Pg):List S:=p.A.flatMap fun f=>flL f.body
theorem OD:∀(l:List Pr)(i:Nat)(acc:List Item)(lo hi:List Int),(Jj i acc lo hi l).1.map Item.s=acc.map Item.s++l.flatMap fun f=>flL f.body
 |[],i,acc,lo,hi=>by rw[Jj];simp
 | f::r,i,acc,lo,hi=>by
   rw[Jj,OD r,Qg,x0c,Q4,x1o,x1k]
def YJ(p:Pg):(sheetOf p).l.map Item.s=YQ p:=by
 have:=OD p.A 0 [] [] [];unfold sheetOf YQ;simpa using this
def Gs(o:Fit p)(q:k<(sheetOf p).l.length):wS (sheetOf p).l[k].s<=20000:=by
 have h:(sheetOf p).l[k].s∈YQ p:=by
  rw[<-YJ];exact x0n.2 ⟨_,x0s q,rfl⟩
 unfold YQ at h;obtain⟨f,i,m⟩:=x1p.1 h;have r:=Ml _ _ m;have n:=o.pr i;unfold wPr at n;omega
def UT(p:Pg):Int×Int:=
 if(XX p).1≠0 then(1,0)else match(YQ p).find? fun t=>decide (t.kind=4) && !FS p t with
  |some t=>(6,t.id)
  |none=>(0,0)
def KV(h:(XX p).1=0):JJ p=true/\ZF p=false/\p.A.findSome? (WN p)=none:=by
 unfold XX at h;cases m:JJ p<;>rw[m]at h
 .cases h
 cases i:ZF p<;>rw[i]at h
 .refine ⟨rfl,rfl,?_⟩;simp only[x1u,x1g]at h;split at h
  .cases h
  .assumption
 .cases h
def U2(p:Pg)(y:Fit p):SpecP prog 90 [.agg p.cells] (fun r=>r=Ku (UT p).1 (UT p).2):=by
 refine sB Hx func90 rfl call90 ?_;conv=>whnf
 repeat' (first|((first|refine cP (JD p y) ?_|refine x0h rfl ?_);conv=>whnf)|(apply bE<;>intro _<;>first|omega|conv=>whnf))
 rotate_left 1
 .have e:UT p=(1,0):=by unfold UT;rw[if_pos (by assumption)]
  exact QC (by rw[e]) (by rw[e])
 have D:(XX p).1=0:=by assumption
 obtain⟨A,F,B⟩:=KV D;obtain⟨G,C,x⟩:=WO A;have w:UT p=match(YQ p).find? fun t=>decide (t.kind=4) && !FS p t with
  |some t=>(6,t.id)
  |none=>(0,0):=by unfold UT;rw[if_neg (by omega)]
 repeat' ((first|(refine iM fun _=>?_)|(refine CallK.pure (JI p (by omega) (by omega)) (.cons (Sub.refl _) .nil) ?_;rintro _ rfl));conv=>whnf)
 have g:=VU (sheetOf p).l;have z:(sheetOf p).l.length<=200:=by have:=(QJ p).2.2.2.1;omega
 have m:=BV (q:=fun t=>decide (t.kind=4) && !FS p t) (sheetOf p).l;rw[YJ]at m;have u:UT p=match((sheetOf p).l.find? fun h=>decide (h.s.kind=4) && !FS p h.s).map (fun h=>h.s.id)with
  |some a=>(6,a)
  |none=>(0,0):=by
  rw[w,m];cases(YQ p).find? fun t=>decide (t.kind=4) && !FS p t<;>rfl
 rw[u];refine LoopK.inv QK (fun k:Nat=>⟨[(1,.p (.ip p.cells)),(2,.ptr 1 0),(14,.p (VC (sheetOf p).l)),(15,.p (.int .i64 ((sheetOf p).l.map fun i=>AV.agg i.cells).length)),(16,.p (.int .i64 k))],[(1,.obj 85 [.p (.int .i64 0),.p (.int .i64 0)])]⟩)
  (fun k=>k<=(sheetOf p).l.length/\((sheetOf p).l.drop k).find? (fun h=>decide (h.s.kind=4) && !FS p h.s)=(sheetOf p).l.find? fun h=>decide (h.s.kind=4) && !FS p h.s) (fun k=>(sheetOf p).l.length-k) 0 (Le.of_eq rfl) ⟨x0l _,rfl⟩ ?_
 rintro k ⟨E,o⟩;rcases x0t k (sheetOf p).l.length with n|n;rotate_left 1
 .rw [<-o,BW n];conv=>whnf
  repeat' (first|(refine x0h rfl ?_;conv=>whnf)|(apply bD<;>intro _<;>first|omega|conv=>whnf))
  exact QC rfl rfl
 conv=>whnf
 repeat' (first|((first|refine cP (TK _ _) ?_|refine x0h rfl ?_|(refine iA fun _=>?_)|refine wI ?_);conv=>whnf)|(apply bD<;>intro _<;>first|omega|conv=>whnf)|(apply bN<;>intro _<;>conv=>whnf))
 all_goals first
  | (have v:=BU (p:=fun h:Item=>decide (h.s.kind=4) && !FS p h.s) n (by simp[*])
     rw[<-o,v];exact QC rfl rfl)
  |exact⟨k+1,⟨by omega,by rw[<-o,Xg (p:=fun h:Item=>decide (h.s.kind=4) && !FS p h.s) n (by simp[*])]⟩,by omega,Le.of_eq rfl⟩
def JV:List Str->List Str->Option (List Str)
 |seen,[]=>some seen
 |seen,n::r=>bif seen.any (fun s=>n==s)then none else JV (seen++[n]) r
def Ik(i:j<l.length)(h:(seen.any fun s=>l[j]==s)=true):JV seen (l.drop j)=none:=by
 rw[QB i,JV,h];rfl
def CU(i:j<l.length)(h:(seen.any fun s=>l[j]==s)=false):JV seen (l.drop j)=JV (seen++[l[j]]) (l.drop (j+1)):=by
 rw[QB i,JV,h];rfl
theorem Pi:∀{l seen out:List Str},JV seen l=some out->out=seen++l
 |[],seen,out,h=>by rw[JV]at h;cases h;simp
 | n::r,seen,out,h=>by
   rw[JV]at h;cases i:(seen.any fun s=>n==s)<;>rw[i]at h
   .have:=Pi h;simpa using this
   .cases h
def CY(t:Nat)(seen l:List Str)(r:LV)(H:Heap):Prop:=
 match JV seen l with
 |some out=>r=.tup [.hd 2000 0 out.length,.p .tt]/\H=SU t out
 |none=>∃out,r=.tup [.hd 2000 0 out.length,.p .ff]/\H=SU t out
def Y3{t:Nat}{Q:LV->Heap->Prop}(m:JV seen l=some (seen++l)->Q (.tup [.hd 2000 0 (seen++l).length,.p .tt]) (SU t (seen++l)))(n:JV seen l=none->∀out,Q (.tup [.hd 2000 0 out.length,.p .ff]) (SU t out)):∀l' H',CY t seen l l' H'->Q l' H':=by
 intro l' H' h;unfold CY at h;cases i:JV seen l with
 | some out=>
   rw[i]at h;obtain⟨rfl,rfl⟩:=h;have:=Pi i;subst this;exact m i
 | none=>
   rw[i]at h;obtain⟨out,rfl,rfl⟩:=h;exact n i out
def Po(seen l:List Str)(o:seen.length+l.length<=1000000000):
  SpecH prog 154 [.hd 2000 0 seen.length,.p (eStrs l)] (SU 9 seen) (CY 9 seen l):=by
 refine sH My func154 rfl call154 ?_;conv=>whnf
 repeat' (refine iM fun _=>?_;conv=>whnf)
 have s:(l.map AV.str).length=l.length:=x0j _;refine LoopK.inv QK (fun i:Nat×List Str=>⟨[(0,.hd 2000 0 i.2.length),(8,.p (eStrs l)),(9,.p (.int .i64 (l.map AV.str).length)),(10,.p (.int .i64 i.1))],SU 9 i.2⟩) (fun i=>i.1<=l.length/\i.2.length+(l.length-i.1)=seen.length+l.length/\JV i.2 (l.drop i.1)=JV seen l) (fun i=>l.length-i.1) (0,seen) (Le.of_eq rfl) ⟨x0l _,by simp,rfl⟩ ?_;rintro⟨j,h⟩ ⟨q,r,m⟩;simp only at q r m⊢;rcases x0t j l.length with n|n
 .conv=>whnf
  repeat' (first|((first|refine x0h rfl ?_|refine aD ?_|refine bP ?_|(refine iA fun _=>?_)|refine wI ?_|(refine XM (QV h (l[j]'n)) (.cons (.hd rfl (by simp)) (.cons (.p (Sub.refl _)) .nil)) (by rintro _ rfl;rfl) ?_;rintro _ rfl)|refine XQ (by simp) (by simp;omega) ?_);conv=>whnf)|(apply bD<;>intro _<;>first|omega|conv=>whnf)|(apply bB<;>intro _<;>conv=>whnf))
  .exact ⟨_,.refl _,by unfold CY;rw[<-m,Ik n (by assumption)];exact⟨h,rfl,rfl⟩⟩
  .exact ⟨(j+1,h++[l[j]]),⟨by simp only;omega,by simp;omega,by simp only;rw[<-m,CU n (by assumption)]⟩,by simp only;omega,Le.of_eq (by simp only[SU,x0g,x0c];rfl)⟩
 .conv=>whnf
  repeat' (apply bD<;>intro _<;>first|omega|conv=>whnf)
  rw[x1q n,JV]at m;exact⟨_,.refl _,by unfold CY;rw[<-m];exact⟨rfl,rfl⟩⟩
def atB(f:Pr)(h:Str):Int×Bool:=
 match(flL f.body).find? fun t=>t.M.any fun s=>h==s with
 |some t=>(t.id,true)
 |none=>bif f.fin.any fun s=>h==s then(-1,true)else(0,false)
theorem RetK.tup2{H:Heap}{k:IntKind}{m n:Int}{x:AV}(h:m=n)(i:Sub x (.bool b)):RetK H (.p (.tup [.int k m,x])) (fun r=>r=.tup [.int k n,.bool b]):=
 ⟨_,.p (Sub.tup (SubL.cons (Sub.int h) (SubL.cons i SubL.nil))),rfl⟩
def LC(p:Pg)(j:Nat)(f:Pr)(x:p.A[j]?=some f)(g:cntP p.A<=1000)(h:Str):SpecP prog 140 [.ip (sheetOf p).cells,.int .i64 j,.str h] (fun r=>r=.tup [.int .i64 (atB f h).1,.bool (atB f h).2]):=by
 refine sB Vh func140 rfl call140 ?_;conv=>whnf
 repeat' ((first|(refine iM fun _=>?_)|refine cP (Ti p x g) ?_);conv=>whnf)
 have n:=BV (q:=fun t=>t.M.any fun s=>h==s) (itL (j:Nat) 0 (-1) 0 (QR p.A j) f.body);rw[Q4]at n;have w:(itL (j:Nat) 0 (-1) 0 (QR p.A j) f.body).length<=1000:=by
  have:=(QJ p).2.2.2.2 j f x;rw[ZH];omega
 generalize z:itL (j:Nat) 0 (-1) 0 (QR p.A j) f.body=its at n w⊢;have B:=VU its;have v:atB f h=match(its.find? fun m=>m.s.M.any fun s=>h==s).map (fun m=>m.s.id)with
  |some a=>(a,true)
  |none=>bif f.fin.any fun s=>h==s then(-1,true)else(0,false):=by
  unfold atB;rw[n];cases(flL f.body).find? fun t=>t.M.any fun s=>h==s<;>rfl
 rw[v];refine LoopK.inv QK (fun k:Nat=>⟨[(0,.p (.ip (sheetOf p).cells)),(1,.p (.int .i64 j)),(2,.p (.str h)),(12,.p (VC its)),(13,.p (.int .i64 (its.map fun i=>AV.agg i.cells).length)),(14,.p (.int .i64 k))],[]⟩)
  (fun k=>k<=its.length/\(its.drop k).find? (fun m=>m.s.M.any fun s=>h==s)=its.find? fun m=>m.s.M.any fun s=>h==s) (fun k=>its.length-k) 0 (Le.of_eq rfl) ⟨x0l _,rfl⟩ ?_
 rintro k ⟨C,u⟩;rcases x0t k its.length with o|o
 .conv=>whnf
  repeat' (first|((first|refine cP (QV _ _) ?_|refine x0h rfl ?_|(refine iA fun _=>?_)|refine wI ?_);conv=>whnf)|(apply bD<;>intro _<;>first|omega|conv=>whnf)|(apply bB<;>intro _<;>conv=>whnf))
  .have e:=BU (p:=fun m:Item=>m.s.M.any fun s=>h==s) o (by assumption);rw[<-u,e];exact RetK.tup2 rfl (Sub.tt rfl)
  .exact ⟨k+1,⟨by omega,by rw[<-u,Xg (p:=fun m:Item=>m.s.M.any fun s=>h==s) o (by assumption)]⟩,by omega,Le.of_eq rfl⟩
 .rw [<-u,BW o];have y:(p.A.map fun f=>AV.agg f.cells)[j]?=some (.agg f.cells):=by simp[x]
  conv=>whnf
  repeat' (first|((first|refine cP (QV _ _) ?_|(refine IdxK.at rfl y rfl ?_));conv=>whnf)|(apply bD<;>intro _<;>first|omega|conv=>whnf)|(apply bB<;>intro _<;>conv=>whnf))
  .exact RetK.tup2 (by simp[*]) (Sub.tt (by simp[*]))
  .exact RetK.tup2 (by simp[*]) (Sub.ff (by simp[*]))
def JU(f:Pr)(h:Item):Bool:=if h.s.kind=7\/h.s.kind=8 then !(h.loop==0)else if h.s.kind=10 then(atB f h.s.name).2 else true
def TI(p:Pg)(j:Nat)(f:Pr)(m:p.A[j]?=some f)(i:cntP p.A<=1000)(h:Item)(n:h.C=j):SpecP prog 155 [.ip (sheetOf p).cells,.agg h.cells] (fun r=>r=.bool (JU f h)):=by
 refine sB Bq func155 rfl call155 ?_;conv=>whnf
 repeat' (first|(refine CallK.pure (LC p j f m i h.s.name) (.cons (Sub.refl _) (.cons (Sub.int n) (.cons (Sub.refl _) .nil))) ?_;rintro _ rfl;conv=>whnf)|(apply bD<;>intro _<;>first|omega|conv=>whnf))
 all_goals first
  |exact RetK.bool (by simp[JU, *];rfl)
  |exact RetK.bool (by simp[JU, *])
  |exact RetK.tt (by simp[JU, *])
def TO(p:Pg)(m:Fit p)(h:(XX p).1=0):SpecP prog 153 [.agg p.cells] (fun r=>r=.ip (sheetOf p).cells):=by
 refine sB Zl func153 rfl call153 ?_;conv=>whnf
 obtain⟨n,s,o⟩:=KV h;obtain⟨t,q,i⟩:=WO n;repeat' (first|((first|refine cP (JD p m) ?_|(refine CallK.pure (JI p (by omega) (by omega)) (.cons (Sub.refl _) .nil) ?_;rintro _ rfl));conv=>whnf)|(apply bE<;>intro _<;>first|omega|conv=>whnf))
 exact RetK.p rfl
def Fd(p:Pg)(i:Fit p)(h:(XX p).1≠0):SpecP prog 153 [.agg p.cells] (fun r=>r=.nilp):=by
 refine sB Zl func153 rfl call153 ?_;conv=>whnf
 repeat' (first|(refine cP (JD p i) ?_;conv=>whnf)|(apply bE<;>intro _<;>first|omega|conv=>whnf))
 exact RetK.p rfl
mutual
theorem Ij(C up nx loop:Int)(n:Nat):∀(t:S)(it:Item),it∈itS C up nx loop n t->it.C=C
 | .mk id kind M name pr x has args F L,it,h=>by
   rw[itS]at h;rcases x0p.1 h with rfl|h
   ·rfl
   ·rcases x0r.1 h with h|h
    ·exact BK _ _ _ _ _ F it h
    ·exact BK _ _ _ _ _ L it h
theorem BK(C up nx loop:Int)(n:Nat):∀(l:List S)(it:Item),it∈itL C up nx loop n l->it.C=C
 |[],it,h=>by rw[itL]at h;cases h
 | t::r,it,h=>by
   rw[itL]at h;rcases x0r.1 h with h|h
   ·exact Ij _ _ _ _ _ t it h
   ·exact BK _ _ _ _ _ r it h
end
def PV(f:Pr):List Item->List Str->Except Int (List Str)
 |[],seen=>.ok seen
 | it::r,seen=>match JV seen it.s.M with
   |none=>.error it.s.id
   |some s=>bif JU f it then PV f r s else .error it.s.id
def KQ(p:Pg)(j:Nat):Option Int:=
 match p.A[j]?with
 |none=>none
 | some f=>match PV f (itL (j:Nat) 0 (-1) 0 (QR p.A j) f.body) []with
   |.error id=>some id
   | .ok seen=>match JV seen f.fin with
     |none=>some 0
     |some _=>none
def Wi(p:Pg):Int×Int:=
 if(XX p).1≠0 then(1,0)else match(List.range p.A.length).findSome? (KQ p)with
  |some a=>(7,a)
  |none=>(0,0)
def Ig(i:k<its.length)(h:JV seen its[k].s.M=none):PV f (its.drop k) seen=.error its[k].s.id:=by
 rw[QB i,PV,h]
def CK{s:List Str}(i:k<its.length)(h:JV seen its[k].s.M=some s)(m:JU f its[k]=false):PV f (its.drop k) seen=.error its[k].s.id:=by
 rw[QB i,PV,h];simp only[m,x1g]
def CG{s:List Str}(i:k<its.length)(h:JV seen its[k].s.M=some s)(m:JU f its[k]=true):PV f (its.drop k) seen=PV f (its.drop (k+1)) s:=by
 rw[QB i,PV,h];simp only[m,x1u]
def L4{l:List Pr}(t:j<l.length)(h:wPr l[j]<=20000){b:Int}{n:Nat}(i:k<(itL a b c d n l[j].body).length):(itL a b c d n l[j].body)[k].s.M.length<=20000:=by
 have m:(itL a b c d n l[j].body)[k].s∈flL l[j].body:=by
  rw[<-Q4 a b c d n];exact x0n.2 ⟨_,x0s i,rfl⟩
 have o:=Ml _ _ m;have q:=Ef (itL a b c d n l[j].body)[k].s;have r:=Df (itL a b c d n l[j].body)[k].s.M;unfold wPr at h;omega
def TE(p:Pg)(D:Fit p):SpecP prog 91 [.agg p.cells] (fun r=>r=Ku (Wi p).1 (Wi p).2):=by
 refine sB B9 func91 rfl call91 ?_;conv=>whnf
 rcases Decidable.em ((XX p).1=0)with B|B;rotate_left 1
 ·
  repeat' ((first|refine cP (Fd p D B) ?_|refine x0h rfl ?_);conv=>whnf)
  have e:Wi p=(1,0):=by unfold Wi;rw[if_pos B]
  exact QC (by rw[e]) (by rw[e])
 obtain⟨O,T,P⟩:=KV B;obtain⟨U,Q,K⟩:=WO O;have J:Wi p=match(List.range p.A.length).findSome? (KQ p)with
  |some a=>(7,a)
  |none=>(0,0):=by unfold Wi;rw[if_neg (by omega)]
 rw[J];have V:(p.A.map fun f=>AV.agg f.cells).length=p.A.length:=x0j _;repeat' ((first|(refine iM fun _=>?_)|refine cP (TO p D B) ?_);conv=>whnf)
 refine LoopK.inv QK (fun j:Nat=>⟨[(2,.ptr 1 0),(3,.p (.ip (sheetOf p).cells)),(16,.p (.sl (p.A.map fun f=>.agg f.cells))),(17,.p (.int .i64 (p.A.map fun f=>AV.agg f.cells).length)),(18,.p (.int .i64 j))],[(1,.obj 85 [.p (.int .i64 0),.p (.int .i64 0)])]⟩)
  (fun j=>j<=p.A.length/\((List.range p.A.length).drop j).findSome? (KQ p)=(List.range p.A.length).findSome? (KQ p)) (fun j=>p.A.length-j) 0 (Le.of_eq rfl) ⟨x0l _,rfl⟩ ?_
 rintro j ⟨R,z⟩;rcases x0t j p.A.length with u|u;rotate_left 1
 .have e:(List.range p.A.length).findSome? (KQ p)=none:=by rw[<-z,W4 (by simpa using u)]
  rw[e];conv=>whnf
  repeat' (first|(refine x0h rfl ?_;conv=>whnf)|(apply bD<;>intro _<;>first|omega|conv=>whnf))
  exact QC rfl rfl
 have g:=D.pr (x0s u);have o:j<(List.range p.A.length).length:=by simpa using u
 have t:(List.range p.A.length)[j]=j:=by simp
 have q:p.A[j]?=some p.A[j]:=by simp[u]
 conv=>whnf
 repeat' (first|((first|(refine iM fun _=>?_)|refine x0h rfl ?_|(refine iA fun _=>?_)|(refine CallK.pure (Ti p (f:=p.A[j]'u) q (by omega)) (.cons (Sub.refl _) (.cons (Sub.refl _) .nil)) ?_;rintro _ rfl));conv=>whnf)|(apply bD<;>intro _<;>first|omega|conv=>whnf))
 have v:∀k (n:k<(itL (j:Nat) 0 (-1) 0 (QR p.A j) p.A[j].body).length),(itL (j:Nat) 0 (-1) 0 (QR p.A j) p.A[j].body)[k].s.M.length<=20000:=fun k n=>L4 u g n;have w:∀k (n:k<(itL (j:Nat) 0 (-1) 0 (QR p.A j) p.A[j].body).length),(itL (j:Nat) 0 (-1) 0 (QR p.A j) p.A[j].body)[k].C=j:=fun k n=>BK _ _ _ _ _ _ _ (x0s n);have E:(itL (j:Nat) 0 (-1) 0 (QR p.A j) p.A[j].body).length<=200:=by
  have:=(QJ p).2.2.2.2 j _ q;rw[ZH];omega
 have h:KQ p j=match PV p.A[j] (itL (j:Nat) 0 (-1) 0 (QR p.A j) p.A[j].body) []with
  |.error id=>some id
  | .ok seen=>match JV seen p.A[j].fin with
    |none=>some 0
    |some _=>none:=by
  unfold KQ;rw[q]
 generalize G:itL (j:Nat) 0 (-1) 0 (QR p.A j) p.A[j].body=its at v w E h⊢;have L:=VU its;refine LoopK.inv QK (fun i:Nat×List Str=>⟨[(2,.ptr 1 0),(3,.p (.ip (sheetOf p).cells)),(5,.p (.ip (p.A[j]'u).cells)),(6,.hd 0 0 i.2.length),(16,.p (.sl (p.A.map fun f=>.agg f.cells))),(17,.p (.int .i64 (p.A.map fun f=>AV.agg f.cells).length)),(18,.p (.int .i64 j)),(25,.p (VC its)),(26,.p (.int .i64 (its.map fun i=>AV.agg i.cells).length)),(27,.p (.int .i64 i.1))],[(0,.own 9 1 (i.2.map .str)),(1,.obj 85 [.p (.int .i64 0),.p (.int .i64 0)])]⟩)
  (fun i=>i.1<=its.length/\i.2.length<=20000*i.1/\PV p.A[j] (its.drop i.1) i.2=PV p.A[j] its []) (fun i=>its.length-i.1) (0,[])
  (Le.mk [(0,.own 9 1 [])] (by simp[Chunk.new0];rfl) (by simp) (by simp) (.r (.r (.r (.cons (.nil x0k) (.r (.r (.r (.r (.r (.r .nil)))))))))) (.new x0k (.cons rfl (.refl _) .nil)))
  ⟨x0l _,by simp,rfl⟩ ?_
 rintro⟨k,x⟩ ⟨H,I,y⟩;simp only at H I y⊢;rcases x0t k its.length with n|n
 .have N:=v k n;conv=>whnf
  repeat' (first|((first|refine x0h rfl ?_|(refine iA fun _=>?_)|refine wI ?_|(refine CallK.pure (TI p j p.A[j] q (by omega) its[k] (w k n)) (.cons (Sub.refl _) (.cons (Sub.refl _) .nil)) ?_;rintro _ rfl));conv=>whnf)|(apply bD<;>intro _<;>first|omega|conv=>whnf)|(apply bN<;>intro _<;>conv=>whnf)|(refine CallK.heap [(2000,0)] 0 (by repeat' (first|exact x1m|refine x1x ?_ ?_|exact x1v _|exact x1d Sub.nils|exact x1d (Sub.tt rfl)|exact x1d (Sub.ff rfl)|exact x1d (Sub.int (by omega)))) (by refine x0e (j:=0) rfl rfl ?_ ?_;exact CSub.refl _;exact x1l) (Po x its[k].s.M (by omega)) rfl rfl (Y3 (fun m=>?_) (fun m out=>?_))<;>conv=>whnf))
  .exact ⟨(k+1,x++its[k].s.M),⟨by simp only;omega,by simp;omega,by simp only;rw[<-y,CG n m (by assumption)]⟩,by simp only;omega,Le.of_eq rfl⟩
  .rw [<-y,CK n m (by assumption)]at h;have e2:=VY (f:=KQ p) o (by rw[t];exact h);rw[z]at e2;rw[e2];exact QC rfl rfl
  .rw [<-y,Ig n m]at h;have e2:=VY (f:=KQ p) o (by rw[t];exact h);rw[z]at e2;rw[e2];exact QC rfl rfl
 .have F:p.A[j].fin.length<=20000:=by
   have:=Df p.A[j].fin;unfold wPr at g;omega
  rw[x1q n,PV]at y;rw[<-y]at h;simp only at h;conv=>whnf
  repeat' (first|((first|refine x0h rfl ?_|refine wI ?_);conv=>whnf)|(apply bD<;>intro _<;>first|omega|conv=>whnf)|(refine CallK.heap [(2000,0)] 0 (by repeat' (first|exact x1m|refine x1x ?_ ?_|exact x1v _|exact x1d Sub.nils|exact x1d (Sub.tt rfl)|exact x1d (Sub.ff rfl)|exact x1d (Sub.int (by omega)))) (by refine x0e (j:=0) rfl rfl ?_ ?_;exact CSub.refl _;exact x1l) (Po x p.A[j].fin (by omega)) rfl rfl (Y3 (fun m=>?_) (fun m out=>?_))<;>conv=>whnf))
  .rw [m]at h;exact⟨j+1,⟨by omega,by rw[<-z,Uz (f:=KQ p) o (by rw[t];exact h)]⟩,by omega,Le.of_eq rfl⟩
  .rw [m]at h;have e2:=VY (f:=KQ p) o (by rw[t];exact h);rw[z]at e2;rw[e2];exact QC rfl rfl
theorem BsK.pureL{es:List AV}{sz:Nat}{out:List LV}{i m:Prop}(r:(es.all fun x=>x.cells.length==sz)=true)(q:out=(es.flatMap AV.cells).map .p)(o:i):BsK es sz out i m:=.pure (fun x h=>by simpa using x2w.1 r x h) q o
end Go.Ab
