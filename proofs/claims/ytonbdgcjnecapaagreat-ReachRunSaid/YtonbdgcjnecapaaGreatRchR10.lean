/- scope: the first name that stands for nothing. -/
import Derived.Test.YtonbdgcjnecapaaGreatRchR9
set_option linter.all false
set_option maxRecDepth 100000
set_option maxHeartbeats 16000000
namespace Go.Ab
open Go.Proofs.Tryz
open Go.Proofs
variable {α β:Type}{a c d:Int}{b:Bool}{f:Pr}{its:List Item}{j k:Nat}{l seen:List Str}{p:Pg}
def Kc(c at_:Int):AV:=.agg [.int .i64 c,.int .i64 at_]
def procsN(p:Pg):List Str:=p.A.map Pr.name
def XI(p:Pg):Bool:=ZD p.B||(ZD (procsN p)||(!((procsN p).any fun s=>mainS==s)||match p.A.find? (fun f=>mainS==f.name)with
 |some f=>decide (0<f.C.length)
 |none=>true))
def WN(p:Pg)(f:Pr):Option Int:=
 bif ZD (Qb f)||(Qb f).any (fun n=>p.B.any fun s=>n==s)then some 0 else((flL f.body).find? fun t=> !knownB p f (procsN p) t).map S.id
def QI(p:Pg):Int×Int:=
 bif KR p then bif XI p then(5,0)else match p.A.findSome? (WN p)with
  |some a=>(5,a)
  |none=>(0,0)
 else(1,0)
def Tx{l:List α}{p:α->Bool}(h:l.any p=true):∃(k:Nat) (hk:k<l.length),idxF p l=k/\p l[k]=true/\l.find? p=some l[k]:=by
 have i:l.findIdx p<l.length:=by
  rw[List.findIdx_lt_length];exact x8e.1 h
 refine⟨l.findIdx p,i,by unfold idxF;rw[h];rfl,List.findIdx_getElem,?_⟩;rw[List.find?_eq_some_iff_getElem];exact⟨List.findIdx_getElem,l.findIdx p,i,rfl,fun j m=>by simpa using List.not_of_lt_findIdx m⟩
def Tm(h:(procsN p).any (fun s=>mainS==s)=true):∃(k:Nat) (m:k<p.A.length),idxF (fun s=>mainS==s) (procsN p)=k/\p.A.find? (fun f=>mainS==f.name)=some p.A[k]:=by
 have i:p.A.any (fun f=>mainS==f.name)=true:=by simpa[procsN,List.any_map,Function.comp_def]using h
 obtain⟨k,m,n,_,o⟩:=Tx i;refine⟨k,m,?_,o⟩;rw[<-n];unfold idxF;rw[h,i];simp[procsN,List.findIdx_map,Function.comp_def]
def Sd(p:Pg)(o:p.A[j]?=some f)(v:cntP p.A<=1000):SpecP prog 150 [.ip (sheetOf p).cells,.int .i64 j] (fun r=>r=VL (itL j 0 (-1) 0 (QP p.A j) f.body)):=by
 obtain⟨_,q,s,t,h⟩:=QU p;obtain⟨i,m,u,n⟩:=h j f o;have:=LD (sheetOf p) j _ _ i m (by omega) (by omega) (by omega);rw[n]at this;exact this
def VV(l:List Item):(l.map fun i=>AV.agg i.cells).length=l.length:=x7z _
def Uf{l:List α}{f:α->Option β}(i:j<l.length)(h:f l[j]=none):(l.drop (j+1)).findSome? f=(l.drop j).findSome? f:=by
 rw[QG i,List.findSome?_cons,h]
def VU{l:List α}{f:α->Option β}{b:β}(i:j<l.length)(h:f l[j]=some b):(l.drop j).findSome? f=some b:=by
 rw[QG i,List.findSome?_cons,h]
def Zc{l:List α}{f:α->Option β}(h:l.length<=j):(l.drop j).findSome? f=none:=by
 rw[x7e h];rfl
def BY{q:S->Bool}(l:List Item):(l.find? fun it=>q it.s).map (fun it=>it.s.id)=((l.map Item.s).find? q).map S.id:=by
 rw[List.find?_map];cases h:l.find? (q∘Item.s)with
 |none=>rw[show(l.find? fun it=>q it.s)=none from h];rfl
 |some i=>rw[show(l.find? fun it=>q it.s)=some i from h];rfl
def AE{l:List Pr}(t:j<l.length)(h:wPr l[j]<=21000){b:Int}{n:Nat}(i:k<(itL a b c d n l[j].body).length):(itL a b c d n l[j].body)[k].s.args.length<=21000:=by
 have m:(itL a b c d n l[j].body)[k].s∈flL l[j].body:=by
  rw[<-BI a b c d n];exact x7d.2 ⟨_,x7l i,rfl⟩
 have o:=Pl _ _ m;have q:=RJ (itL a b c d n l[j].body)[k].s;have r:=DS (itL a b c d n l[j].body)[k].s.args;unfold wPr at h;omega
def QS{H:Heap}{b:Int}(h:a=c)(i:b=d):RetK H (.p (.agg [.int .i64 a,.int .i64 b])) (fun r=>r=Kc c d):=⟨_,.p (Sub.refl _),by rw[h,i];rfl⟩
def JT(p:Pg)(R:Fit p):SpecP prog 89 [.agg p.cells] (fun r=>r=Kc (QI p).1 (QI p).2):=by
 refine sB Hc func89 rfl call89 ?_;conv=>whnf
 repeat' (first|((first|(refine iM fun _=>?_)|refine cP (Vp _) ?_|refine x7g rfl ?_);conv=>whnf)|(apply bN<;>intro _<;>conv=>whnf))
 rotate_left 1
 .exact QS (by simp[QI, *]) (by simp[QI, *])
 have x:KR p=true:=by assumption
 obtain⟨Z,V,Q⟩:=WO x;have hl:(p.A.map fun f=>AV.agg f.cells).length=p.A.length:=x7z _;have U:(procsN p).length=p.A.length:=by simp[procsN]
 refine LoopK.inv QV (fun i:Nat×List Str=>⟨[(1,.p (.ip p.cells)),(2,.ptr 1 0),(3,.hd 0 0 i.2.length),(18,.p (.sl (p.A.map fun f=>.agg f.cells))),(19,.p (.int .i64 (p.A.map fun f=>AV.agg f.cells).length)),(20,.j i.1)],[(0,.own 9 1 (i.2.map .str)),(1,.obj 85 [.p (.int .i64 0),.j 0])]⟩)
  (fun i=>i.1<=p.A.length/\i.2=(procsN p).take i.1) (fun i=>p.A.length-i.1) (0,[])
  (Le.mk [(0,.own 9 1 [])] (by simp[Chunk.new0];rfl) (by simp) (by simp) (.r (.r (.cons (.nil x7v) (.r (.r (.r .nil)))))) (.new x7v (.cons rfl (.refl _) .nil)))
  ⟨x7p _,by simp⟩ ?_
 rintro⟨j,v⟩ ⟨I,w⟩;simp only at I w⊢;have P:v.length<=16:=by rw[w];simp;omega
 conv=>whnf
 repeat' (first|((first|refine x7g rfl ?_|refine aD ?_|refine bP ?_|(refine iA fun _=>?_)|refine wI ?_|refine QO (by simp) (by simp;omega) ?_|(refine XH (XZ v mainS) (.cons (.hd rfl (by simp)) (.cons (.p (Sub.refl _)) .nil)) (by rintro _ rfl;rfl) ?_;rintro _ rfl)|(refine XH (NI v) (.cons (.hd rfl (by simp)) .nil) (by rintro _ rfl;rfl) ?_;rintro _ rfl)|refine cP (NI _) ?_);conv=>whnf)|(apply bD<;>intro _<;>first|omega|conv=>whnf)|(apply bB<;>intro _<;>conv=>whnf))
 .exact ⟨(j+1,v++[p.A[j].name]),⟨by simp only;omega,by simp only;rw[w,x7r (by omega)];simp[procsN]⟩,by simp only;omega,Le.of_eq (by simp only[x7u,x7n];rfl)⟩
 all_goals
  have g:v=procsN p:=by rw[w,x7a (by omega)]
  clear w;subst g
 .have o:XI p=true:=by unfold XI;rw[show ZD p.B=true by assumption];rfl
  exact QS (by unfold QI;rw[x,o];rfl) (by unfold QI;rw[x,o];rfl)
 .have o:XI p=true:=by unfold XI;rw[show ZD p.B=false by assumption,show ZD (procsN p)=true by assumption];rfl
  exact QS (by unfold QI;rw[x,o];rfl) (by unfold QI;rw[x,o];rfl)
 .have h:((procsN p).any fun s=>mainS==s)=false:=by
   rw[<-Xd];simp;omega
  have o:XI p=true:=by unfold XI;rw[show ZD p.B=false by assumption,show ZD (procsN p)=false by assumption,h];rfl
  exact QS (by unfold QI;rw[x,o];rfl) (by unfold QI;rw[x,o];rfl)
 have h:((procsN p).any fun s=>mainS==s)=true:=by
  rw[<-Xd];simp;omega
 obtain⟨k,y,E,m⟩:=Tm h;have F:(p.A.map fun f=>AV.agg f.cells)[k]?=some (.agg p.A[k].cells):=by simp[y]
 have H:(p.A[k].C.map fun a=>AV.agg a.cells).length=p.A[k].C.length:=x7z _;refine IdxK.at E F rfl ?_;conv=>whnf
 repeat' (first|((first|(refine iM fun _=>?_)|refine x7g rfl ?_|(refine CallK.pure (HW p (by omega) (by omega)) (.cons (Sub.refl _) .nil) ?_;rintro _ rfl));conv=>whnf)|(apply bD<;>intro _<;>first|omega|conv=>whnf))
 .have o:XI p=true:=by
   unfold XI;rw[show ZD p.B=false by assumption,show ZD (procsN p)=false by assumption,h,m];have:0<p.A[k].C.length:=by omega
   simp[this]
  exact QS (by unfold QI;rw[x,o];rfl) (by unfold QI;rw[x,o];rfl)
 have o:XI p=false:=by
  unfold XI;rw[show ZD p.B=false by assumption,show ZD (procsN p)=false by assumption,h,m];have:¬0<p.A[k].C.length:=by omega
  simp[this]
 have M:QI p=match p.A.findSome? (WN p)with
  |some a=>(5,a)
  |none=>(0,0):=by unfold QI;rw[x,o];rfl
 rw[M];refine LoopK.inv QV (fun j:Nat=>⟨[(1,.p (.ip p.cells)),(2,.ptr 1 0),(3,.hd 0 0 (procsN p).length),(7,.p (.ip (sheetOf p).cells)),(57,.p (.sl (p.A.map fun f=>.agg f.cells))),(58,.p (.int .i64 (p.A.map fun f=>AV.agg f.cells).length)),(59,.j j)],[(0,.own 9 1 ((procsN p).map .str)),(1,.obj 85 [.p (.int .i64 0),.j 0])]⟩)
  (fun j=>j<=p.A.length/\(p.A.drop j).findSome? (WN p)=p.A.findSome? (WN p)) (fun j=>p.A.length-j) 0 (Le.of_eq rfl) ⟨x7p _,rfl⟩ ?_
 clear I E m F H;rintro j ⟨I,w⟩;rcases x7m j p.A.length with q|q;rotate_left 1
 .have e:p.A.findSome? (WN p)=none:=by rw[<-w,Zc q]
  rw[e];conv=>whnf
  repeat' (first|(refine x7g rfl ?_;conv=>whnf)|(apply bD<;>intro _<;>first|omega|conv=>whnf))
  exact QS rfl rfl
 have D:=R.pr (x7l q);have G:=YV.1 (Ru x (x7l q));conv=>whnf
 repeat' (first|((first|(refine iM fun _=>?_)|refine cP (NI _) ?_|refine x7g rfl ?_|(refine iA fun _=>?_)|(refine CallK.pure (My (p.A[j]'q) (by have:=G.1;omega) (by have:=G.2.1;omega)) (.cons (Sub.refl _) .nil) ?_;rintro _ rfl)|refine cP (VF (Qb (p.A[j]'q)) 149 (.ip p.cells) (fun n=>p.B.any fun s=>n==s) (Db p)) ?_|(refine CallK.pure (Sd p (f:=p.A[j]'q) (by simp) (by omega)) (.cons (Sub.refl _) (.cons (Sub.refl _) .nil)) ?_;rintro _ rfl));conv=>whnf)|(apply bD<;>intro _<;>first|omega|conv=>whnf)|(apply bB<;>intro _<;>conv=>whnf))
 .have e:WN p p.A[j]=some 0:=by
   unfold WN;rw[show ZD (Qb p.A[j])=true by assumption];rfl
  have e2:=VU q e;rw[w]at e2;rw[e2];exact QS rfl rfl
 .have e:WN p p.A[j]=some 0:=by
   unfold WN;rw[show ZD (Qb p.A[j])=false by assumption,show((Qb p.A[j]).any fun n=>p.B.any fun s=>n==s)=true by assumption];rfl
  have e2:=VU q e;rw[w]at e2;rw[e2];exact QS rfl rfl
 have u:WN p p.A[j]=((flL p.A[j].body).find? fun t=> !knownB p p.A[j] (procsN p) t).map S.id:=by
  unfold WN;rw[show ZD (Qb p.A[j])=false by assumption,show((Qb p.A[j]).any fun n=>p.B.any fun s=>n==s)=false by assumption];rfl
 have z:∀k (y:k<(itL (j:Nat) 0 (-1) 0 (QP p.A j) p.A[j].body).length),(itL (j:Nat) 0 (-1) 0 (QP p.A j) p.A[j].body)[k].s.args.length<=21000:=fun k y=>AE q D y;rw[<-BI (j:Nat) 0 (-1) 0 (QP p.A j),<-BY]at u;have K:(itL (j:Nat) 0 (-1) 0 (QP p.A j) p.A[j].body).length<=21000:=by
  have:=Pf p.A[j].body;unfold wPr at D;rw[ZC];omega
 generalize N:itL (j:Nat) 0 (-1) 0 (QP p.A j) p.A[j].body=its at u z K⊢;have T:=VV its;refine LoopK.inv QV (fun k:Nat=>⟨[(1,.p (.ip p.cells)),(2,.ptr 1 0),(3,.hd 0 0 (procsN p).length),(7,.p (.ip (sheetOf p).cells)),(9,.p (.ip (p.A[j]'q).cells)),(57,.p (.sl (p.A.map fun f=>.agg f.cells))),(58,.p (.int .i64 (p.A.map fun f=>AV.agg f.cells).length)),(59,.j j),(76,.p (VL its)),(77,.p (.int .i64 (its.map fun i=>AV.agg i.cells).length)),(78,.j k)],[(0,.own 9 1 ((procsN p).map .str)),(1,.obj 85 [.p (.int .i64 0),.j 0])]⟩)
  (fun k=>k<=its.length/\(its.drop k).find? (fun it=> !knownB p p.A[j] (procsN p) it.s)=its.find? fun it=> !knownB p p.A[j] (procsN p) it.s) (fun k=>its.length-k) 0 (Le.of_eq rfl) ⟨x7p _,rfl⟩ ?_
 rintro k ⟨Y,J⟩;rcases x7m k its.length with y|y;rotate_left 1
 .rw [<-J,BU y]at u;conv=>whnf
  repeat' (first|(refine wI ?_;conv=>whnf)|(apply bD<;>intro _<;>first|omega|conv=>whnf))
  exact⟨j+1,⟨by omega,by rw[<-w,Uf q u]⟩,by omega,Le.of_eq rfl⟩
 have L:=z k y;conv=>whnf
 repeat' (first|((first|refine x7g rfl ?_|(refine iA fun _=>?_)|refine wI ?_|(refine XH (Rt p p.A[j] (procsN p) its[k].s L) (.cons (.p (Sub.refl _)) (.cons (.p (Sub.refl _)) (.cons (.hd rfl (by simp)) (.cons (.p (Sub.refl _)) .nil)))) (by rintro _ rfl;rfl) ?_;rintro _ rfl));conv=>whnf)|(apply bD<;>intro _<;>first|omega|conv=>whnf)|(apply bN<;>intro _<;>conv=>whnf))
 .exact ⟨k+1,⟨by omega,by rw[<-J,Xz (p:=fun it:Item=> !knownB p p.A[j] (procsN p) it.s) y (by simp;assumption)]⟩,by omega,Le.of_eq rfl⟩
 .have O:=BJ (p:=fun it:Item=> !knownB p p.A[j] (procsN p) it.s) y (by simp;assumption);rw[<-J,O]at u;have e2:=VU q u;rw[w]at e2;rw[e2];exact QS rfl rfl
def q8l:LV->Option Bool
 |.p .tt=>some true
 |.p .ff=>some false
 |.p (.bool b)=>some b
 |_=>none
def RM{σ:Mem}{β:Lab}{l:LV}{v:Value}(h:RepL σ β l v)(i:q8l l=some b):v=.bool b:=by
 cases h with
 |p h=>cases h<;>simp[q8l]at i<;>subst i<;>rfl
 |_=>simp[q8l]at i
def P5{P:Program}{T:Tab}{B:Bool}{s:St}{o:Oper}{K:LV->Prop}(hT:TabOK P T){t u:TypeId}{x y:Operand}(h:o.op=.binOp .neq t x y u){i:TyI}(C:T.get t=some i)(z:i.desc=.bool){a:Bool}(D:q8l (QN s.sl x)=some a)(E:q8l (QN s.sl y)=some b)(v:K (.p (.bool (a != b)))):ValO P B s o K:=by
 refine⟨fun σ β F w m _=>⟨_,.bool (a != b),v,.p (.bool _),fun w' _ _=>?_⟩⟩;have q:=RM (QQ m x) D;have r:=RM (QQ m y) E;have n:=hT.of C;rw[z]at n;have A:(eqGuard .neq t x y (.bool a) (.bool b)).run P w'=.ok () w':=by unfold eqGuard;rfl
 have g:(Op.equal t (.bool a) (.bool b)).run P w'=.ok (a==b) w':=by
  have e:Op.equal t (.bool a) (.bool b)=Op.equalIn (9999+1) t (.bool a) (.bool b):=rfl;rw[e,Op.equalIn,Sem.run_bind,run_underlying n,Result.andThen_ok];rfl
 simp only[execOp,h,q,r,Sem.run_bind,A,Result.andThen_ok,binOp];simp[g];cases a<;>cases b<;>rfl
def Cu(l:List Param)(args:List Arg):Bool:=decide (l.map Param.ref=args.map Arg.ref)
def Se(l:List Param)(args:List Arg):SpecP prog 212 [.sl (l.map fun a=>.agg a.cells),Am args] (fun r=>r=.bool (Cu l args)):=by
 refine sB By func212 rfl call212 ?_;conv=>whnf
 repeat' (first|(refine iM fun _=>?_;conv=>whnf)|(apply bE<;>intro _<;>first|omega|conv=>whnf))
 all_goals
  have t:(l.map fun a=>AV.agg a.cells).length=l.length:=x7z _;have q:(args.map fun a=>AV.agg a.cells).length=args.length:=x7z _
 .have o:l.length=args.length:=by omega
  refine LoopK.inv QV (fun j:Nat=>⟨[(1,.p (Am args)),(12,.p (.sl (l.map fun a=>.agg a.cells))),(13,.p (.int .i64 (l.map fun a=>AV.agg a.cells).length)),(14,.j j)],[]⟩) (fun j=>j<=l.length/\(l.map Param.ref).take j=(args.map Arg.ref).take j) (fun j=>l.length-j) 0 (Le.of_eq rfl) ⟨x7p _,rfl⟩ ?_;rintro j ⟨s,m⟩;rcases x7m j l.length with n|n
  .conv=>whnf
   repeat' (first|((first|refine dA ?_|refine x7g rfl ?_|(refine iA fun _=>?_)|refine wI ?_|refine P5 QV rfl rfl rfl rfl rfl ?_);conv=>whnf)|(apply bD<;>intro _<;>first|omega|conv=>whnf)|(apply bE<;>intro _<;>first|omega|conv=>whnf))
   .have h:l[j].ref=(args[j]'(by omega)).ref:=by assumption
    exact⟨j+1,⟨by omega,by
     rw[x7r (by simp;omega),x7r (by simp;omega),m];simp[h]⟩,by omega,Le.of_eq rfl⟩
   .have h:¬l[j].ref=(args[j]'(by omega)).ref:=by assumption
    exact RetK.ff (by
     unfold Cu;rw[z0k];intro i;have:(l.map Param.ref)[j]?=(args.map Arg.ref)[j]?:=by rw[i]
     rw[x7k,x7k,x7x n,x7x (by omega)]at this;simp at this;exact h this)
  .conv=>whnf
   repeat' (apply bD<;>intro _<;>first|omega|conv=>whnf)
   exact RetK.tt (by
    unfold Cu;rw[x8l]
    rwa[x7a (by simp;omega),x7a (by simp;omega)]at m)
 .exact RetK.ff (by
   unfold Cu;rw[z0k];intro i;have:=x9l List.length i;simp at this;omega)
def FC(p:Pg)(s:S):Bool:=decide (s.kind=4)&&match p.A.find? (fun f=>f.name==s.D)with
 |some f=>Cu f.C s.args
 |none=>false
def Sa(p:Pg)(s:S):SpecP prog 152 [.agg p.cells,.agg s.cells] (fun r=>r=.bool (FC p s)):=by
 refine sB Bu func152 rfl call152 ?_;conv=>whnf
 repeat' (first|(refine iM fun _=>?_;conv=>whnf)|(apply bE<;>intro _<;>first|omega|conv=>whnf))
 .have m:(p.A.map fun f=>AV.agg f.cells).length=p.A.length:=x7z _;refine LoopK.inv QV (fun j:Nat=>⟨[(3,.p (.ip s.cells)),(11,.p (.sl (p.A.map fun f=>.agg f.cells))),(12,.p (.int .i64 (p.A.map fun f=>AV.agg f.cells).length)),(13,.j j)],[]⟩) (fun j=>j<=p.A.length/\(p.A.drop j).find? (fun f=>f.name==s.D)=p.A.find? (fun f=>f.name==s.D)) (fun j=>p.A.length-j) 0 (Le.of_eq rfl) ⟨x7p _,rfl⟩ ?_;rintro j ⟨i,h⟩;conv=>whnf
  repeat' (first|((first|refine cP (Se _ _) ?_|refine x7g rfl ?_|(refine iA fun _=>?_)|refine wI ?_);conv=>whnf)|(apply bD<;>intro _<;>first|omega|conv=>whnf)|(apply bB<;>intro _<;>conv=>whnf))
  .have e:=BJ (p:=fun f:Pr=>f.name==s.D) (l:=p.A) (j:=j) (by omega) (by assumption);rw[h]at e;exact RetK.bool (by unfold FC;rw[e];simp[*])
  .exact ⟨j+1,⟨by omega,by rw[<-h,Xz (p:=fun f:Pr=>f.name==s.D) (by omega) (by assumption)]⟩,by omega,Le.of_eq rfl⟩
  .have e:p.A.find? (fun f=>f.name==s.D)=none:=by rw[<-h,BU (by omega)]
   exact RetK.ff (by unfold FC;rw[e];simp)
 .exact RetK.ff (by unfold FC;simp[*])
def VD(p:Pg):List S:=p.A.flatMap fun f=>flL f.body
theorem q3f:∀(l:List Pr)(i:Nat)(acc:List Item)(lo hi:List Int),(Jr i acc lo hi l).1.map Item.s=acc.map Item.s++l.flatMap fun f=>flL f.body
 |[],i,acc,lo,hi=>by rw[Jr];simp
 | f::r,i,acc,lo,hi=>by
   rw[Jr,q3f r,Q8,x7n,BI,x9v,x8w]
def JS(p:Pg):(sheetOf p).l.map Item.s=VD p:=by
 have:=q3f p.A 0 [] [] [];unfold sheetOf VD;simpa using this
def H9(o:Fit p)(q:k<(sheetOf p).l.length):wS (sheetOf p).l[k].s<=21000:=by
 have h:(sheetOf p).l[k].s∈VD p:=by
  rw[<-JS];exact x7d.2 ⟨_,x7l q,rfl⟩
 unfold VD at h;obtain⟨f,i,m⟩:=x8h.1 h;have r:=Pl _ _ m;have n:=o.pr i;unfold wPr at n;omega
def VZ(p:Pg):Int×Int:=
 if(QI p).1≠0 then(1,0)else match(VD p).find? fun t=>decide (t.kind=4) && !FC p t with
  |some t=>(6,t.id)
  |none=>(0,0)
def KK(h:(QI p).1=0):KR p=true/\XI p=false/\p.A.findSome? (WN p)=none:=by
 unfold QI at h;cases m:KR p<;>rw[m]at h
 .cases h
 cases i:XI p<;>rw[i]at h
 .refine ⟨rfl,rfl,?_⟩;simp only[x7c,x7o]at h;split at h
  .cases h
  .assumption
 .cases h
def U8(p:Pg)(x:Fit p):SpecP prog 90 [.agg p.cells] (fun r=>r=Kc (VZ p).1 (VZ p).2):=by
 refine sB Hn func90 rfl call90 ?_;conv=>whnf
 repeat' (first|((first|refine cP (JT p x) ?_|refine x7g rfl ?_);conv=>whnf)|(apply bE<;>intro _<;>first|omega|conv=>whnf))
 rotate_left 1
 .have e:VZ p=(1,0):=by unfold VZ;rw[if_pos (by assumption)]
  exact QS (by rw[e]) (by rw[e])
 have C:(QI p).1=0:=by assumption
 obtain⟨g,E,A⟩:=KK C;obtain⟨F,B,w⟩:=WO g;have v:VZ p=match(VD p).find? fun t=>decide (t.kind=4) && !FC p t with
  |some t=>(6,t.id)
  |none=>(0,0):=by unfold VZ;rw[if_neg (by omega)]
 repeat' ((first|(refine iM fun _=>?_)|(refine CallK.pure (HW p (by omega) (by omega)) (.cons (Sub.refl _) .nil) ?_;rintro _ rfl));conv=>whnf)
 have z:=VV (sheetOf p).l;have y:(sheetOf p).l.length<=200:=by have:=(QU p).2.2.2.1;omega
 have h:=BY (q:=fun t=>decide (t.kind=4) && !FC p t) (sheetOf p).l;rw[JS]at h;have o:VZ p=match((sheetOf p).l.find? fun it=>decide (it.s.kind=4) && !FC p it.s).map (fun it=>it.s.id)with
  |some a=>(6,a)
  |none=>(0,0):=by
  rw[v,h];cases(VD p).find? fun t=>decide (t.kind=4) && !FC p t<;>rfl
 rw[o];refine LoopK.inv QV (fun k:Nat=>⟨[(1,.p (.ip p.cells)),(2,.ptr 1 0),(14,.p (VL (sheetOf p).l)),(15,.p (.int .i64 ((sheetOf p).l.map fun i=>AV.agg i.cells).length)),(16,.j k)],[(1,.obj 85 [.p (.int .i64 0),.j 0])]⟩)
  (fun k=>k<=(sheetOf p).l.length/\((sheetOf p).l.drop k).find? (fun it=>decide (it.s.kind=4) && !FC p it.s)=(sheetOf p).l.find? fun it=>decide (it.s.kind=4) && !FC p it.s) (fun k=>(sheetOf p).l.length-k) 0 (Le.of_eq rfl) ⟨x7p _,rfl⟩ ?_
 rintro k ⟨D,n⟩;rcases x7m k (sheetOf p).l.length with m|m;rotate_left 1
 .rw [<-n,BU m];conv=>whnf
  repeat' (first|(refine x7g rfl ?_;conv=>whnf)|(apply bD<;>intro _<;>first|omega|conv=>whnf))
  exact QS rfl rfl
 conv=>whnf
 repeat' (first|((first|refine cP (Sa _ _) ?_|refine x7g rfl ?_|(refine iA fun _=>?_)|refine wI ?_);conv=>whnf)|(apply bD<;>intro _<;>first|omega|conv=>whnf)|(apply bN<;>intro _<;>conv=>whnf))
 all_goals first
  | (have u:=BJ (p:=fun it:Item=>decide (it.s.kind=4) && !FC p it.s) m (by simp[*])
     rw[<-n,u];exact QS rfl rfl)
  |exact⟨k+1,⟨by omega,by rw[<-n,Xz (p:=fun it:Item=>decide (it.s.kind=4) && !FC p it.s) m (by simp[*])]⟩,by omega,Le.of_eq rfl⟩
def VT:List Str->List Str->Option (List Str)
 |seen,[]=>some seen
 |seen,n::r=>bif seen.any (fun s=>n==s)then none else VT (seen++[n]) r
def OL(i:j<l.length)(h:(seen.any fun s=>l[j]==s)=true):VT seen (l.drop j)=none:=by
 rw[QG i,VT,h];rfl
def E0(i:j<l.length)(h:(seen.any fun s=>l[j]==s)=false):VT seen (l.drop j)=VT (seen++[l[j]]) (l.drop (j+1)):=by
 rw[QG i,VT,h];rfl
theorem LC:∀{l seen out:List Str},VT seen l=some out->out=seen++l
 |[],seen,out,h=>by rw[VT]at h;cases h;simp
 | n::r,seen,out,h=>by
   rw[VT]at h;cases i:(seen.any fun s=>n==s)<;>rw[i]at h
   .have:=LC h;simpa using this
   .cases h
def E1(t:Nat)(seen l:List Str)(r:LV)(H:Heap):Prop:=
 match VT seen l with
 |some out=>r=.tup [.hd 2000 0 out.length,.p .tt]/\H=CW t out
 |none=>∃out,r=.tup [.hd 2000 0 out.length,.p .ff]/\H=CW t out
def Yu{t:Nat}{Q:LV->Heap->Prop}(m:VT seen l=some (seen++l)->Q (.tup [.hd 2000 0 (seen++l).length,.p .tt]) (CW t (seen++l)))(n:VT seen l=none->∀out,Q (.tup [.hd 2000 0 out.length,.p .ff]) (CW t out)):∀l' H',E1 t seen l l' H'->Q l' H':=by
 intro l' H' h;unfold E1 at h;cases i:VT seen l with
 | some out=>
   rw[i]at h;obtain⟨rfl,rfl⟩:=h;have:=LC i;subst this;exact m i
 | none=>
   rw[i]at h;obtain⟨out,rfl,rfl⟩:=h;exact n i out
def Nf(seen l:List Str)(o:seen.length+l.length<=1000000000):
  SpecH prog 154 [.hd 2000 0 seen.length,.p (eStrs l)] (CW 9 seen) (E1 9 seen l):=by
 refine sH Lu func154 rfl call154 ?_;conv=>whnf
 repeat' (refine iM fun _=>?_;conv=>whnf)
 have s:(l.map AV.str).length=l.length:=x7z _;refine LoopK.inv QV (fun i:Nat×List Str=>⟨[(0,.hd 2000 0 i.2.length),(8,.p (eStrs l)),(9,.p (.int .i64 (l.map AV.str).length)),(10,.j i.1)],CW 9 i.2⟩) (fun i=>i.1<=l.length/\i.2.length+(l.length-i.1)=seen.length+l.length/\VT i.2 (l.drop i.1)=VT seen l) (fun i=>l.length-i.1) (0,seen) (Le.of_eq rfl) ⟨x7p _,by simp,rfl⟩ ?_;rintro⟨j,h⟩ ⟨q,r,m⟩;simp only at q r m⊢;rcases x7m j l.length with n|n
 .conv=>whnf
  repeat' (first|((first|refine x7g rfl ?_|refine aD ?_|refine bP ?_|(refine iA fun _=>?_)|refine wI ?_|(refine XH (QX h (l[j]'n)) (.cons (.hd rfl (by simp)) (.cons (.p (Sub.refl _)) .nil)) (by rintro _ rfl;rfl) ?_;rintro _ rfl)|refine QO (by simp) (by simp;omega) ?_);conv=>whnf)|(apply bD<;>intro _<;>first|omega|conv=>whnf)|(apply bB<;>intro _<;>conv=>whnf))
  .exact ⟨_,.refl _,by unfold E1;rw[<-m,OL n (by assumption)];exact⟨h,rfl,rfl⟩⟩
  .exact ⟨(j+1,h++[l[j]]),⟨by simp only;omega,by simp;omega,by simp only;rw[<-m,E0 n (by assumption)]⟩,by simp only;omega,Le.of_eq (by simp only[CW,x7u,x7n];rfl)⟩
 .conv=>whnf
  repeat' (apply bD<;>intro _<;>first|omega|conv=>whnf)
  rw[x7e n,VT]at m;exact⟨_,.refl _,by unfold E1;rw[<-m];exact⟨rfl,rfl⟩⟩
def atB(f:Pr)(h:Str):Int×Bool:=
 match(flL f.body).find? fun t=>t.G.any fun s=>h==s with
 |some t=>(t.id,true)
 |none=>bif f.fin.any fun s=>h==s then(-1,true)else(0,false)
theorem RetK.tup2{H:Heap}{k:IntKind}{m n:Int}{x:AV}(h:m=n)(i:Sub x (.bool b)):RetK H (.p (.tup [.int k m,x])) (fun r=>r=.tup [.int k n,.bool b]):=
 ⟨_,.p (Sub.tup (SubL.cons (Sub.int h) (SubL.cons i SubL.nil))),rfl⟩
def HV(p:Pg)(j:Nat)(f:Pr)(w:p.A[j]?=some f)(e:cntP p.A<=1000)(h:Str):SpecP prog 140 [.ip (sheetOf p).cells,.int .i64 j,.str h] (fun r=>r=.tup [.int .i64 (atB f h).1,.bool (atB f h).2]):=by
 refine sB Vn func140 rfl call140 ?_;conv=>whnf
 repeat' ((first|(refine iM fun _=>?_)|refine cP (Sd p w e) ?_);conv=>whnf)
 have m:=BY (q:=fun t=>t.G.any fun s=>h==s) (itL (j:Nat) 0 (-1) 0 (QP p.A j) f.body);rw[BI]at m;have v:(itL (j:Nat) 0 (-1) 0 (QP p.A j) f.body).length<=1000:=by
  have:=(QU p).2.2.2.2 j f w;rw[ZC];omega
 generalize y:itL (j:Nat) 0 (-1) 0 (QP p.A j) f.body=its at m v⊢;have g:=VV its;have u:atB f h=match(its.find? fun it=>it.s.G.any fun s=>h==s).map (fun it=>it.s.id)with
  |some a=>(a,true)
  |none=>bif f.fin.any fun s=>h==s then(-1,true)else(0,false):=by
  unfold atB;rw[m];cases(flL f.body).find? fun t=>t.G.any fun s=>h==s<;>rfl
 rw[u];refine LoopK.inv QV (fun k:Nat=>⟨[(0,.p (.ip (sheetOf p).cells)),(1,.j j),(2,.p (.str h)),(12,.p (VL its)),(13,.p (.int .i64 (its.map fun i=>AV.agg i.cells).length)),(14,.j k)],[]⟩)
  (fun k=>k<=its.length/\(its.drop k).find? (fun it=>it.s.G.any fun s=>h==s)=its.find? fun it=>it.s.G.any fun s=>h==s) (fun k=>its.length-k) 0 (Le.of_eq rfl) ⟨x7p _,rfl⟩ ?_
 rintro k ⟨B,o⟩;rcases x7m k its.length with n|n
 .conv=>whnf
  repeat' (first|((first|refine cP (QX _ _) ?_|refine x7g rfl ?_|(refine iA fun _=>?_)|refine wI ?_);conv=>whnf)|(apply bD<;>intro _<;>first|omega|conv=>whnf)|(apply bB<;>intro _<;>conv=>whnf))
  .have z:=BJ (p:=fun it:Item=>it.s.G.any fun s=>h==s) n (by assumption);rw[<-o,z];exact RetK.tup2 rfl (Sub.tt rfl)
  .exact ⟨k+1,⟨by omega,by rw[<-o,Xz (p:=fun it:Item=>it.s.G.any fun s=>h==s) n (by assumption)]⟩,by omega,Le.of_eq rfl⟩
 .rw [<-o,BU n];have x:(p.A.map fun f=>AV.agg f.cells)[j]?=some (.agg f.cells):=by simp[w]
  conv=>whnf
  repeat' (first|((first|refine cP (QX _ _) ?_|(refine IdxK.at rfl x rfl ?_));conv=>whnf)|(apply bD<;>intro _<;>first|omega|conv=>whnf)|(apply bB<;>intro _<;>conv=>whnf))
  .exact RetK.tup2 (by simp[*]) (Sub.tt (by simp[*]))
  .exact RetK.tup2 (by simp[*]) (Sub.ff (by simp[*]))
def VS(f:Pr)(it:Item):Bool:=if it.s.kind=7\/it.s.kind=8 then !(it.loop==0)else if it.s.kind=10 then(atB f it.s.name).2 else true
def SM(p:Pg)(j:Nat)(f:Pr)(i:p.A[j]?=some f)(h:cntP p.A<=1000)(it:Item)(m:it.D=j):SpecP prog 155 [.ip (sheetOf p).cells,.agg it.cells] (fun r=>r=.bool (VS f it)):=by
 refine sB Bd func155 rfl call155 ?_;conv=>whnf
 repeat' (first|(refine CallK.pure (HV p j f i h it.s.name) (.cons (Sub.refl _) (.cons (Sub.int m) (.cons (Sub.refl _) .nil))) ?_;rintro _ rfl;conv=>whnf)|(apply bD<;>intro _<;>first|omega|conv=>whnf))
 all_goals first
  |exact RetK.bool (by simp[VS, *];rfl)
  |exact RetK.bool (by simp[VS, *])
  |exact RetK.tt (by simp[VS, *])
def SL(p:Pg)(m:Fit p)(h:(QI p).1=0):SpecP prog 153 [.agg p.cells] (fun r=>r=.ip (sheetOf p).cells):=by
 refine sB Zg func153 rfl call153 ?_;conv=>whnf
 obtain⟨n,s,o⟩:=KK h;obtain⟨t,q,i⟩:=WO n;repeat' (first|((first|refine cP (JT p m) ?_|(refine CallK.pure (HW p (by omega) (by omega)) (.cons (Sub.refl _) .nil) ?_;rintro _ rfl));conv=>whnf)|(apply bE<;>intro _<;>first|omega|conv=>whnf))
 exact RetK.p rfl
def D1(p:Pg)(i:Fit p)(h:(QI p).1≠0):SpecP prog 153 [.agg p.cells] (fun r=>r=.nilp):=by
 refine sB Zg func153 rfl call153 ?_;conv=>whnf
 repeat' (first|(refine cP (JT p i) ?_;conv=>whnf)|(apply bE<;>intro _<;>first|omega|conv=>whnf))
 exact RetK.p rfl
mutual
theorem OM(D up nx loop:Int)(n:Nat):∀(t:S)(it:Item),it∈itS D up nx loop n t->it.D=D
 | .mk id kind G name pr x has args L M,it,h=>by
   rw[itS]at h;rcases x7f.1 h with rfl|h
   ·rfl
   ·rcases x7b.1 h with h|h
    ·exact HJ _ _ _ _ _ L it h
    ·exact HJ _ _ _ _ _ M it h
theorem HJ(D up nx loop:Int)(n:Nat):∀(l:List S)(it:Item),it∈itL D up nx loop n l->it.D=D
 |[],it,h=>by rw[itL]at h;cases h
 | t::r,it,h=>by
   rw[itL]at h;rcases x7b.1 h with h|h
   ·exact OM _ _ _ _ _ t it h
   ·exact HJ _ _ _ _ _ r it h
end
def YR(f:Pr):List Item->List Str->Except Int (List Str)
 |[],seen=>.ok seen
 | it::r,seen=>match VT seen it.s.G with
   |none=>.error it.s.id
   |some s=>bif VS f it then YR f r s else .error it.s.id
def YZ(p:Pg)(j:Nat):Option Int:=
 match p.A[j]?with
 |none=>none
 | some f=>match YR f (itL (j:Nat) 0 (-1) 0 (QP p.A j) f.body) []with
   |.error id=>some id
   | .ok seen=>match VT seen f.fin with
     |none=>some 0
     |some _=>none
def BO(p:Pg):Int×Int:=
 if(QI p).1≠0 then(1,0)else match(List.range p.A.length).findSome? (YZ p)with
  |some a=>(7,a)
  |none=>(0,0)
def OR(i:k<its.length)(h:VT seen its[k].s.G=none):YR f (its.drop k) seen=.error its[k].s.id:=by
 rw[QG i,YR,h]
def E4{s:List Str}(i:k<its.length)(h:VT seen its[k].s.G=some s)(m:VS f its[k]=false):YR f (its.drop k) seen=.error its[k].s.id:=by
 rw[QG i,YR,h];simp only[m,x7o]
def E5{s:List Str}(i:k<its.length)(h:VT seen its[k].s.G=some s)(m:VS f its[k]=true):YR f (its.drop k) seen=YR f (its.drop (k+1)) s:=by
 rw[QG i,YR,h];simp only[m,x7c]
def Rx{l:List Pr}(t:j<l.length)(h:wPr l[j]<=21000){b:Int}{n:Nat}(i:k<(itL a b c d n l[j].body).length):(itL a b c d n l[j].body)[k].s.G.length<=21000:=by
 have m:(itL a b c d n l[j].body)[k].s∈flL l[j].body:=by
  rw[<-BI a b c d n];exact x7d.2 ⟨_,x7l i,rfl⟩
 have o:=Pl _ _ m;have q:=RJ (itL a b c d n l[j].body)[k].s;have r:=BT (itL a b c d n l[j].body)[k].s.G;unfold wPr at h;omega
def SN(p:Pg)(C:Fit p):SpecP prog 91 [.agg p.cells] (fun r=>r=Kc (BO p).1 (BO p).2):=by
 refine sB Bf func91 rfl call91 ?_;conv=>whnf
 rcases Decidable.em ((QI p).1=0)with B|B;rotate_left 1
 ·
  repeat' ((first|refine cP (D1 p C B) ?_|refine x7g rfl ?_);conv=>whnf)
  have e:BO p=(1,0):=by unfold BO;rw[if_pos B]
  exact QS (by rw[e]) (by rw[e])
 obtain⟨O,T,P⟩:=KK B;obtain⟨U,Q,L⟩:=WO O;have K:BO p=match(List.range p.A.length).findSome? (YZ p)with
  |some a=>(7,a)
  |none=>(0,0):=by unfold BO;rw[if_neg (by omega)]
 rw[K];have V:(p.A.map fun f=>AV.agg f.cells).length=p.A.length:=x7z _;repeat' ((first|(refine iM fun _=>?_)|refine cP (SL p C B) ?_);conv=>whnf)
 refine LoopK.inv QV (fun j:Nat=>⟨[(2,.ptr 1 0),(3,.p (.ip (sheetOf p).cells)),(16,.p (.sl (p.A.map fun f=>.agg f.cells))),(17,.p (.int .i64 (p.A.map fun f=>AV.agg f.cells).length)),(18,.j j)],[(1,.obj 85 [.p (.int .i64 0),.j 0])]⟩)
  (fun j=>j<=p.A.length/\((List.range p.A.length).drop j).findSome? (YZ p)=(List.range p.A.length).findSome? (YZ p)) (fun j=>p.A.length-j) 0 (Le.of_eq rfl) ⟨x7p _,rfl⟩ ?_
 rintro j ⟨R,z⟩;rcases x7m j p.A.length with u|u;rotate_left 1
 .have e:(List.range p.A.length).findSome? (YZ p)=none:=by rw[<-z,Zc (by simpa using u)]
  rw[e];conv=>whnf
  repeat' (first|(refine x7g rfl ?_;conv=>whnf)|(apply bD<;>intro _<;>first|omega|conv=>whnf))
  exact QS rfl rfl
 have g:=C.pr (x7l u);have o:j<(List.range p.A.length).length:=by simpa using u
 have t:(List.range p.A.length)[j]=j:=by simp
 have q:p.A[j]?=some p.A[j]:=by simp[u]
 conv=>whnf
 repeat' (first|((first|(refine iM fun _=>?_)|refine x7g rfl ?_|(refine iA fun _=>?_)|(refine CallK.pure (Sd p (f:=p.A[j]'u) q (by omega)) (.cons (Sub.refl _) (.cons (Sub.refl _) .nil)) ?_;rintro _ rfl));conv=>whnf)|(apply bD<;>intro _<;>first|omega|conv=>whnf))
 have v:∀k (n:k<(itL (j:Nat) 0 (-1) 0 (QP p.A j) p.A[j].body).length),(itL (j:Nat) 0 (-1) 0 (QP p.A j) p.A[j].body)[k].s.G.length<=21000:=fun k n=>Rx u g n;have w:∀k (n:k<(itL (j:Nat) 0 (-1) 0 (QP p.A j) p.A[j].body).length),(itL (j:Nat) 0 (-1) 0 (QP p.A j) p.A[j].body)[k].D=j:=fun k n=>HJ _ _ _ _ _ _ _ (x7l n);have E:(itL (j:Nat) 0 (-1) 0 (QP p.A j) p.A[j].body).length<=200:=by
  have:=(QU p).2.2.2.2 j _ q;rw[ZC];omega
 have h:YZ p j=match YR p.A[j] (itL (j:Nat) 0 (-1) 0 (QP p.A j) p.A[j].body) []with
  |.error id=>some id
  | .ok seen=>match VT seen p.A[j].fin with
    |none=>some 0
    |some _=>none:=by
  unfold YZ;rw[q]
 generalize H:itL (j:Nat) 0 (-1) 0 (QP p.A j) p.A[j].body=its at v w E h⊢;have M:=VV its;refine LoopK.inv QV (fun i:Nat×List Str=>⟨[(2,.ptr 1 0),(3,.p (.ip (sheetOf p).cells)),(5,.p (.ip (p.A[j]'u).cells)),(6,.hd 0 0 i.2.length),(16,.p (.sl (p.A.map fun f=>.agg f.cells))),(17,.p (.int .i64 (p.A.map fun f=>AV.agg f.cells).length)),(18,.j j),(25,.p (VL its)),(26,.p (.int .i64 (its.map fun i=>AV.agg i.cells).length)),(27,.j i.1)],[(0,.own 9 1 (i.2.map .str)),(1,.obj 85 [.p (.int .i64 0),.j 0])]⟩)
  (fun i=>i.1<=its.length/\i.2.length<=21000*i.1/\YR p.A[j] (its.drop i.1) i.2=YR p.A[j] its []) (fun i=>its.length-i.1) (0,[])
  (Le.mk [(0,.own 9 1 [])] (by simp[Chunk.new0];rfl) (by simp) (by simp) (.r (.r (.r (.cons (.nil x7v) (.r (.r (.r (.r (.r (.r .nil)))))))))) (.new x7v (.cons rfl (.refl _) .nil)))
  ⟨x7p _,by simp,rfl⟩ ?_
 rintro⟨k,x⟩ ⟨I,J,y⟩;simp only at I J y⊢;rcases x7m k its.length with n|n
 .have N:=v k n;conv=>whnf
  repeat' (first|((first|refine x7g rfl ?_|(refine iA fun _=>?_)|refine wI ?_|(refine CallK.pure (SM p j p.A[j] q (by omega) its[k] (w k n)) (.cons (Sub.refl _) (.cons (Sub.refl _) .nil)) ?_;rintro _ rfl));conv=>whnf)|(apply bD<;>intro _<;>first|omega|conv=>whnf)|(apply bN<;>intro _<;>conv=>whnf)|(refine CallK.heap [(2000,0)] 0 (by repeat' (first|exact z0v|refine x8y ?_ ?_|exact x8z _|exact z1u Sub.nils|exact z1u (Sub.tt rfl)|exact z1u (Sub.ff rfl)|exact z1u (Sub.int (by omega)))) (by refine x8u (j:=0) rfl rfl ?_ ?_;exact CSub.refl _;exact z0z) (Nf x its[k].s.G (by omega)) rfl rfl (Yu (fun m=>?_) (fun m out=>?_))<;>conv=>whnf))
  .exact ⟨(k+1,x++its[k].s.G),⟨by simp only;omega,by simp;omega,by simp only;rw[<-y,E5 n m (by assumption)]⟩,by simp only;omega,Le.of_eq rfl⟩
  .rw [<-y,E4 n m (by assumption)]at h;have e2:=VU (f:=YZ p) o (by rw[t];exact h);rw[z]at e2;rw[e2];exact QS rfl rfl
  .rw [<-y,OR n m]at h;have e2:=VU (f:=YZ p) o (by rw[t];exact h);rw[z]at e2;rw[e2];exact QS rfl rfl
 .have F:p.A[j].fin.length<=21000:=by
   have:=BT p.A[j].fin;unfold wPr at g;omega
  rw[x7e n,YR]at y;rw[<-y]at h;simp only at h;conv=>whnf
  repeat' (first|((first|refine x7g rfl ?_|refine wI ?_);conv=>whnf)|(apply bD<;>intro _<;>first|omega|conv=>whnf)|(refine CallK.heap [(2000,0)] 0 (by repeat' (first|exact z0v|refine x8y ?_ ?_|exact x8z _|exact z1u Sub.nils|exact z1u (Sub.tt rfl)|exact z1u (Sub.ff rfl)|exact z1u (Sub.int (by omega)))) (by refine x8u (j:=0) rfl rfl ?_ ?_;exact CSub.refl _;exact z0z) (Nf x p.A[j].fin (by omega)) rfl rfl (Yu (fun m=>?_) (fun m out=>?_))<;>conv=>whnf))
  .rw [m]at h;exact⟨j+1,⟨by omega,by rw[<-z,Uf (f:=YZ p) o (by rw[t];exact h)]⟩,by omega,Le.of_eq rfl⟩
  .rw [m]at h;have e2:=VU (f:=YZ p) o (by rw[t];exact h);rw[z]at e2;rw[e2];exact QS rfl rfl
theorem BsK.pureL{es:List AV}{sz:Nat}{out:List LV}{i m:Prop}(r:(es.all fun x=>x.cells.length==sz)=true)(q:out=(es.flatMap AV.cells).map .p)(o:i):BsK es sz out i m:=.pure (fun x h=>by simpa using x8a.1 r x h) q o
end Go.Ab
