/- LAW: to which places facts come, told once; flows put in order whatever row they came in. -/
import Derived.Maps.RangeRun
import Derived.Test.YtgpjfppgphaobaaGreatEndA20
set_option linter.all false
set_option maxRecDepth 100000
set_option maxHeartbeats 16000000
namespace Go.Ab
open Go.Proofs.Tryz
open Go.Proofs
variable {α:Type}{D I' O U:List (List Str)}{K:St->Prop}{e sz:Nat}{l:List (List UInt8×List AV)}{t:TypeId}
open Classical in
noncomputable def comC(n:Nat)(steps:List (Int×Int))(at_:List Nat):List (List Int):=(List.range n).map fun c=>((List.range at_.length).filter fun f=>decide (SolP (QA n steps).1 ((gnC n at_ at_.length).map (Zl (at_.length/64+1))) ((klC n at_ at_.length).map (Zl (at_.length/64+1))) f (c:Nat))).map Int.ofNat
theorem ComR.eq{n:Nat}{steps:List (Int×Int)}{at_:List Nat}{r:AV}(h:ComR n steps at_ r):r=eMat (comC n steps at_):=by
 obtain⟨u,j,m,rfl⟩:=h;congr 1;unfold comC;refine z0l (by simp[m]) fun c o v=>?_;have q:c<u.length:=by simpa using o
 rw[x8i,x8i,z0q];unfold YP;congr 1;refine z0y fun f i=>?_;have i:=x5a.1 i;have:=j (c:Nat) (by omega) (by omega) f (Nat.lt_succ_of_le (Nat.div_le_div_right (by omega)));rw[x5u,x3i,x3e q,x5b]at this;rw[x8s,this];simp
def IG(n:Nat)(steps:List (Int×Int))(at_:List Nat):(comC n steps at_).length=n:=by unfold comC;simp
theorem Wh{n:Nat}{steps:List (Int×Int)}{at_:List Nat}{r:List Int}(h:r∈comC n steps at_):r.length<=at_.length/\∀f∈r,0<=f/\f<at_.length:=by
 unfold comC at h;obtain⟨c,_,rfl⟩:=x4y.1 h;refine⟨by rw[x3a];exact x5y (x6p _ _) (by simp),fun f i=>?_⟩;obtain⟨x,j,rfl⟩:=x4y.1 i;have:=x5a.1 (x5h.1 j).1;exact⟨Int.natCast_nonneg _,by show(x:Int)<_;omega⟩
def EQ{l l':List Fl}(h:l.Perm l')(k:∀s∈l,okFl s):GL l=GL l':=by
 have p:∀m:List Fl,(GL m).Pairwise fun x y=>¬ltF y x:=fun m=>by
  unfold GL;refine(x9e ?_ ?_ m).imp fun h=>?_
  .intro a b c i j;simp only[x7w,x7j]at i j⊢;rw[PH]at i j⊢;exact ltF.neg j i
  .intro a b;simp only[x7r,x7w,x7j];rw[PH,PH];by_cases i:ltF b a
   .exact .inr fun j=>ltF.irr a (ltF.trans a b a j i)
   .exact .inl i
  .rw [<-PH];simpa using h
 have r:(GL l).Perm (GL l'):=(x6a l _).trans (h.trans (x6a l' _).symm);refine r.eq_of_pairwise (fun a b ha q i j=>?_) (p l) (p l');have n:a∈l:=(x6a l _).mem_iff.1 ha;have o:b∈l:=h.mem_iff.2 ((x6a l' _).mem_iff.1 q);exact ltF.total (k a n) (k b o) j i
def bkI(p:Pg)(I:List (List Str)):Book:=⟨sheetOf p,[],[],[],I,[]⟩
def usB(p:Pg)(I:List (List Str)):List (List Str):=(sheetOf p).l.map fun h=>VK (Qf (bkI p I) h.s)
def niA(p:Pg)(D U O:List (List Str))(i:Nat):List Str:=VK (RD p i (prA p i) D U (O.getD i []))
def niB(p:Pg)(D U O:List (List Str)):List (List Str):=(List.range p.A.length).map (niA p D U O)
def rdI(p:Pg)(D O I:List (List Str)):List (List Str):=niB p D (usB p I) O
def itI(p:Pg)(D O:List (List Str)):Nat->List (List Str)
 |0=>List.replicate p.A.length []
 |k+1=>rdI p D O (itI p D O k)
structure OkI(p:Pg)(I:List (List Str)):Prop where
 len:I.length=p.A.length
 rise:∀o∈I,o.Pairwise ltT
 sub:∀i,∀n∈I.getD i [],comB p n=true
theorem OkI.len25{p:Pg}{I:List (List Str)}(q:QL p=true)(h:OkI p I)(i:Nat):(I.getD i []).length<=25:=by
 have j:=YG (m:=JE::p.F) (YV (DX h.rise i)) fun n r=>by
  rcases MO.1 (h.sub i n r)with rfl|o
  ·exact x4z
  ·exact x4x _ o
 have u:=(XF q).1;rw[x5g]at j;omega
theorem OkI.use{p:Pg}{I:List (List Str)}(i:QL p=true)(h:OkI p I){b:Book}(r:b.s=sheetOf p)(m:b.ins=I){t:S}(o:t∈VH p)(j:t.kind=4):UseOk b t:=by
 obtain⟨k,w,u,_⟩:=ME i o j;have v:=(FM i o j).2;have e:b.s.p=p:=by rw[r];exact(QU p).1
 have q:inAt b t=I.getD (caI p t).toNat []:=by unfold inAt;rw[e,m]
 refine⟨by rw[e];omega,by rw[e,m,h.len];omega,by omega,?_⟩;rw[q];have:=h.len25 i (caI p t).toNat;omega
def I1{p:Pg}{I:List (List Str)}{b:Book}(i:b.s=sheetOf p)(h:b.ins=I)(t:S):Qf b t=Qf (bkI p I) t:=by
 unfold Qf inAt bkI;rw[i,h]
theorem I2{p:Pg}{I:List (List Str)}(h:leO I I'){t:S}{n:Str}(i:n∈Qf (bkI p I) t):n∈Qf (bkI p I') t:=by
 unfold Qf at i⊢;split at i
 ·rw[if_pos (by assumption)];rcases x4g.1 i with i|i
  ·exact x5c _ i
  ·exact x6f _ (h _ _ i)
 ·rw[if_neg (by assumption)];exact i
def q1k{p:Pg}{I:List (List Str)}(h:leO I I'):leO (usB p I) (usB p I'):=fun i n m=>by
 obtain⟨o,j,k⟩:=KZ.1 m;exact KZ.2 ⟨o,j,XA.2 (I2 h (XA.1 k))⟩
def Ag{p:Pg}{i:Nat}{f:Pr}{j:List (List Str)}{o:List Str}{x:Str}(h:leO U j){a:Int}(ha:hitN p i f U o x a=true):hitN p i f j o x a=true:=by
 unfold hitN at ha⊢;cases k:decide (a=(QJ f.body+2:Nat)-1)with
 |true=>rw[k]at ha;exact ha
 | false=>
   rw[k]at ha;cases m:decide (0<a)with
   | true=>
     rw[m]at ha;exact HU.2 (h _ _ (HU.1 ha))
   |false=>rw[m]at ha;cases ha
def Lk{p:Pg}{i:Nat}(k:i<p.A.length){n:Str}:n∈(niB p D U O).getD i []↔comB p n=true/\Cq p i (prA p i) D U (O.getD i []) n=true:=by
 unfold niB;rw[KZ];have e:n∈niA p D U O i↔comB p n=true/\Cq p i (prA p i) D U (O.getD i []) n=true:=by
  unfold niA RD;rw[XA,x5h,MO,x4g,x4w,or_comm]
 rw[<-e];constructor
 .rintro ⟨x,j,m⟩;rw[x7z k]at j;cases j;exact m
 .exact fun h=>⟨i,x7z k,h⟩
def AH{p:Pg}{i:Nat}(k:¬i<p.A.length){n:Str}(h:n∈(niB p D U O).getD i []):False:=by
 obtain⟨x,j,_⟩:=KZ.1 h;rw[x6j (by simpa using k)]at j;cases j
def OO{p:Pg}(k:QL p=true){I:List (List Str)}(h:leO I I'):leO (rdI p D O I) (rdI p D O I'):=fun i n m=>by
 by_cases j:i<p.A.length
 .obtain ⟨o,q⟩:=(Lk j).1 m;obtain⟨a,r,s⟩:=(LS k (ZG j)).1 q;exact(Lk j).2 ⟨o,(LS k (ZG j)).2 ⟨a,r,Ag (q1k h) s⟩⟩
 .exact (AH j m).elim
theorem q2z{p:Pg}(j:QL p=true)(D O:List (List Str)):∀k,leO (itI p D O k) (itI p D O (k+1))
 | 0=>fun i n h=>by
   unfold itI at h;rw[x3i,x5v]at h;split at h<;>cases h
 |k+1=>OO j (q2z j D O k)
def q2h(p:Pg)(D U O:List (List Str)):OkI p (niB p D U O):=by
 refine⟨by unfold niB;rw[x3a,x6l],fun o k=>?_,fun i n j=>?_⟩
 .obtain ⟨i,_,rfl⟩:=x4y.1 k;exact ZM _
 .by_cases h:i<p.A.length
  .exact ((Lk h).1 j).1
  .exact (AH h j).elim
def Ui(p:Pg)(D O:List (List Str)):∀k,OkI p (itI p D O k)
 | 0=>by
   refine⟨by unfold itI;rw[x5e],fun o j=>?_,fun i n h=>?_⟩
   .rw [x6v j];exact .nil
   .unfold itI at h;rw[x3i,x5v]at h;split at h<;>cases h
 |k+1=>q2h p _ _ _
theorem OkI.tot{p:Pg}{I:List (List Str)}(j:QL p=true)(h:OkI p I):Go.Ab.tot I<=400:=by
 have m:=D7 (O:=I) fun o r=>by
  obtain⟨i,q,rfl⟩:=x6u.1 r;have:=h.len25 j i
  rwa[x3i,x3e q]at this
 have u:=(XF j).2.1;rw[h.len]at m;omega
def RM{p:Pg}(m:QL p=true){k:Nat}(h:itI p D O (k+1)≠itI p D O k):Go.Ab.tot (itI p D O k)<Go.Ab.tot (itI p D O (k+1)):=by
 obtain⟨n,j⟩:=EB (O:=itI p D O k) (O':=itI p D O (k+1)) (by rw[(Ui p D O k).len,(Ui p D O (k+1)).len]) (Ui p D O k).rise (Ui p D O (k+1)).rise (q2z m D O k);rcases x4f (Go.Ab.tot (itI p D O k)) (Go.Ab.tot (itI p D O (k+1)))with i|i
 .exact i
 .exact absurd (j i).symm h
def wysB(p:Pg):List Way:=(List.range p.A.length).map fun i=>QQ p i (prA p i)
def NO{p:Pg}{i:Nat}(h:i<p.A.length):(wysB p)[i]?=some (QQ p i (prA p i)):=by
 unfold wysB;rw[x4q,x7z h];rfl
structure BookR(p:Pg)(b:Book):Prop where
 s:b.s=sheetOf p
 ways:b.ways=wysB p
 za:∃k,b.za=itO p k
 fixO:rdO p b.za=b.za
 M:b.M=dfB p b.za
 ins:∃k,b.ins=itI p b.M b.za k
 fixI:rdI p b.M b.za b.ins=b.ins
 zb:b.zb=usB p b.ins
theorem Fu{p:Pg}{k:Nat}(h:rdO p (itO p k)=itO p k):∀m,itO p (k+m)=itO p k
 |0=>rfl
 | m+1=>by
   show rdO p (itO p (k+m))=_;rw[Fu h m,h]
theorem Fw{p:Pg}{D O:List (List Str)}{k:Nat}(h:rdI p D O (itI p D O k)=itI p D O k):∀m,itI p D O (k+m)=itI p D O k
 |0=>rfl
 | m+1=>by
   show rdI p D O (itI p D O (k+m))=_;rw[Fw h m,h]
theorem BookR.uniq{p:Pg}{b c:Book}(i:BookR p b)(j:BookR p c):b=c:=by
 obtain⟨k,r⟩:=i.za;obtain⟨m,o⟩:=j.za;have u:b.za=c.za:=by
  have v:=Fu (p:=p) (k:=k) (by rw[<-r];exact i.fixO) m;have w:=Fu (p:=p) (k:=m) (by rw[<-o];exact j.fixO) k;rw[r,o,<-v,<-w,z0p]
 have x:b.M=c.M:=by rw[i.M,j.M,u]
 obtain⟨k,r⟩:=i.ins;obtain⟨m,o⟩:=j.ins;have z:b.ins=c.ins:=by
  have y:=i.fixI;have q:=j.fixI;rw[<-u,<-x]at o q;have v:=Fw (p:=p) (D:=b.M) (O:=b.za) (k:=k) (by rw[<-r];exact y) m;have w:=Fw (p:=p) (D:=b.M) (O:=b.za) (k:=m) (by rw[<-o];exact q) k;rw[r,o,<-v,<-w,z0p]
 have f:b.zb=c.zb:=by rw[i.zb,j.zb,z]
 have a:b.s=c.s:=by rw[i.s,j.s]
 have g:b.ways=c.ways:=by rw[i.ways,j.ways]
 cases b;cases c;simp only at u x z f a g;subst u x z f a g;rfl
noncomputable def QY(p:Pg):Book:=@Classical.epsilon _ ⟨bkO p []⟩ (BookR p)
theorem BookR.eq{p:Pg}{b:Book}(h:BookR p b):b=QY p:=h.uniq (@Classical.epsilon_spec _ (BookR p) ⟨b,h⟩)
theorem q4j{p:Pg}(j:QL p=true):∃k,itO p (k+1)=itO p k:=by
 refine x7p fun h=>?_;have i:∀k,k<=Go.Ab.tot (itO p k):=fun k=>by
  induction k with
  |zero=>exact x4j _
  | succ k q=>
    have:=RL (p:=p) (k:=k) fun m=>h ⟨k,m⟩;omega
 have n:=(Uo p 401).tot j;have o:=i 401;omega
theorem q4y{p:Pg}(i:QL p=true)(D O:List (List Str)):∃k,itI p D O (k+1)=itI p D O k:=by
 refine x7p fun h=>?_;have j:∀k,k<=Go.Ab.tot (itI p D O k):=fun k=>by
  induction k with
  |zero=>exact x4j _
  | succ k q=>
    have:=RM i (p:=p) (D:=D) (O:=O) (k:=k) fun m=>h ⟨k,m⟩;omega
 have n:=(Ui p D O 401).tot i;have o:=j 401;omega
def WH{p:Pg}(i:QL p=true):BookR p (QY p):=by
 obtain⟨k,j⟩:=q4j i;obtain⟨m,n⟩:=q4y i (dfB p (itO p k)) (itO p k);have h:BookR p ⟨sheetOf p,wysB p,dfB p (itO p k),usB p (itI p (dfB p (itO p k)) (itO p k) m),itI p (dfB p (itO p k)) (itO p k) m,itO p k⟩:=⟨rfl,rfl,⟨k,rfl⟩,j,rfl,⟨m,rfl⟩,n,rfl⟩;rw[<-h.eq];exact h
def KR{p:Pg}(i:QL p=true):OkO p (QY p).za/\OkI p (QY p).ins:=by
 have h:=WH i;obtain⟨k,j⟩:=h.za;obtain⟨m,n⟩:=h.ins;exact⟨j▸Uo p k,n▸Ui p _ _ m⟩
def Iu(p:Pg)(i:Nat)(f:Pr)(D:List (List Str))(I:List Str)(a:Nat):List Str:=
 if a=0 then VK (I++f.B.map Param.name)else if a=QJ f.body+1 then []else bif (QQ p i f).live.getD a false then D.getD (QS p.A i+a-1) []else []
def q1x(p:Pg)(i:Nat)(f:Pr)(U:List (List Str))(O:List Str)(a:Nat):List Str:=
 if a=QJ f.body+1 then VK (O++[retS])else if a=0 then []else bif (QQ p i f).live.getD a false then U.getD (QS p.A i+a-1) []else []
def Rb(l:List Str)(h:l.length<=1000000):SpecH prog 165 ([eStrs l].map .p) [] (OneRow (Jg l) (l=[])):=XX l h
theorem Nd(l:List Str)(h:l.length<=1000000):aH 104 [.hd 1000 0 l.length] [(1000,.own 9 1 (l.map .str))] (.hd 1000 0 (VK l).length) [(1000,.own 9 1 ((VK l).map .str))]:=Un l (by omega)
theorem Ug(b:Book)(p:Pg)(hp:b.s=sheetOf p)(h:QL p=true)(i:Nat)(f:Pr)(y:p.A[i]?=some f)(hW:b.ways[i]?=some (QQ p i f))(I:List Str)(V:b.ins[i]?=some I)(Y:I.length<=1000)(hD:b.M.length=(sheetOf p).l.length)(a:Nat)(ha:a<QJ f.body+2):aP 177 [.ip b.cells,.int .i64 i,.int .i64 a] (eStrs (Iu p i f b.M I a)):=by
 refine sC Qs func177 ?_;conv=>whnf
 have g:b.s.p=p:=by rw[hp];exact(QU p).1
 obtain⟨hsp,_,_,R,hs⟩:=QU p;obtain⟨_,_,hle,_⟩:=hs i f y;have hcn:=(XF h).2.2;have hT:=q2e h y;have C:(b.s.p.A.map fun f=>AV.agg f.cells)[i]?=some (.agg f.cells):=by rw[g,x4q,y];rfl
 have o:(b.ways.map fun w=>AV.ip w.cells)[i]?=some (.ip (QQ p i f).cells):=by rw[x4q,hW];rfl
 have E:(b.ins.map eStrs)[i]?=some (eStrs I):=by rw[x4q,V];rfl
 have r:=ZC (QQ p i f) f hT.hj hT.hc (by have:=hT.hn2;have:=hT.hn;have:=hT.hw;omega) a (by omega);have z:=Rb I (by omega);have hll:(QQ p i f).live.length=QJ f.body+2:=by show(Qw _ (List.replicate (QJ f.body+2) false)).length=_;rw[Xc];simp
 have hwn:(QQ p i f).n=(QJ f.body+2:Nat):=rfl;have G:((QQ p i f).live.map bv)[a]?=some (bv ((QQ p i f).live.getD a false)):=by
  rw[x4q,x3i,x3e (by omega)];rfl
 have v:f.B.length<=8:=((GF (QB h).1).pr f (x4p y)).1;unfold Iu;by_cases L:a=0
 ·subst L;rw[if_pos rfl];repeat' ((first|refine iT o ?_|refine iT E ?_|(apply bD<;>intro _<;>try omega))<;>conv=>whnf)
  have hpm:(f.B.map fun x=>AV.agg x.cells).length=f.B.length:=x3a _;refine VL 0 rfl z (.cons (.p (Sub.refl _)) .nil) (fun u=>?_) (fun q e sz es Z=>?_);rotate_left;obtain⟨rfl,rfl,rfl⟩:=Z
  rotate_right
  all_goals
   conv=>whnf
   repeat' ((first|(refine iM fun _=>?_)|refine iT C ?_)<;>conv=>whnf)
  all_goals
   refine lJ (fun k:Nat=>⟨[(8,.hd 0 0 (I++(f.B.take k).map Param.name).length),(40,.p (.sl (f.B.map fun a=>AV.agg a.cells))),(41,.p (.int .i64 (f.B.map fun a=>AV.agg a.cells).length)),(42,.j k)],[(0,.own 9 1 ((I++(f.B.take k).map Param.name).map .str))]⟩) (fun k=>k<=f.B.length) (fun k=>f.B.length-k) 0 (by first
     |exact Le.of_eq (by simp;rfl)
     | (rw[u]
        exact lM [(0,.own 9 1 [])])
     |trace_state) (x4j _) ?_
   intro k hk;have hpl:f.B.length<=8:=v;have d:(I++(f.B.take k).map Param.name).length<=1100:=by rw[x3o,x3a,x5z];omega
   rcases x4f k f.B.length with m|m
   ·have J:I++(f.B.take (k+1)).map Param.name=(I++(f.B.take k).map Param.name)++[f.B[k].name]:=by rw[x4k m,x4d,x4r];rfl
    generalize I++(f.B.take k).map Param.name=acc at*
    conv=>whnf
    repeat' ((first|(refine gX ?_;intros)|refine WK (by simp) (by rw[x3a];omega) ?_|(apply bD<;>intro _<;>try omega))<;>conv=>whnf)
    all_goals first
     |exact⟨k+1,m,by omega,Le.of_eq (by rw[J];simp only[x3o,x4d];rfl)⟩
   ·rw[x4b m]at d⊢;have c:=Nd (I++f.B.map Param.name) (by omega);generalize I++f.B.map Param.name=acc at*
    conv=>whnf
    repeat' ((first|(apply bD<;>intro _<;>try omega)|(refine cH rH1 0 c ?_))<;>conv=>whnf)
    all_goals first
     |exact⟨_,.hd rfl (by simp),rfl⟩
 ·rw [if_neg L];by_cases Q:a=QJ f.body+1
  ·rw[if_pos Q];repeat' ((first|refine wI ?_|refine iT o ?_|(apply bD<;>intro _<;>try omega))<;>conv=>whnf)
   all_goals first
    |(exfalso;omega)
    |exact⟨_,.p Sub.nils,rfl⟩
  ·rw[if_neg Q];have H:QF (QQ p i f).p (QQ p i f).j (QQ p i f).n a=((QS p.A i+a:Nat):Int):=by
    show QF p i (QJ f.body+2:Nat) a=_;unfold QF loI;rw[if_neg (by omega),if_neg (by omega)];omega
   rw[H]at r;have F:(b.M.map eStrs)[QS p.A i+a-1]?=some (eStrs (b.M.getD (QS p.A i+a-1) [])):=by
    rw[x4q,x3i,x3e (by omega)];rfl
   generalize(QQ p i f).live.getD a false=lv at*
   cases lv;all_goals
    repeat' ((first|refine dA ?_|refine wI ?_|refine iT o ?_|refine iT G ?_|refine cP r ?_|refine iT F ?_|(apply bD<;>intro _<;>try omega))<;>conv=>whnf)
    all_goals first
     |(exfalso;omega)
     |contradiction
     |exact⟨_,.p Sub.nils,rfl⟩
     |exact⟨_,.p (Sub.refl _),rfl⟩
theorem Uh(b:Book)(p:Pg)(Y:b.s=sheetOf p)(h:QL p=true)(i:Nat)(f:Pr)(g:p.A[i]?=some f)(H:b.ways[i]?=some (QQ p i f))(O:List Str)(C:b.za[i]?=some O)(E:O.length<=900000)(V:b.zb.length=(sheetOf p).l.length)(a:Nat)(ha:a<QJ f.body+2):aP 129 [.ip b.cells,.int .i64 i,.int .i64 a] (eStrs (q1x p i f b.zb O a)):=by
 refine sC Qc func129 ?_;conv=>whnf
 obtain⟨Q,_,_,B,M⟩:=QU p;obtain⟨_,_,J,_⟩:=M i f g;have I:=(XF h).2.2;have hT:=q2e h g;have k:(b.ways.map fun w=>AV.ip w.cells)[i]?=some (.ip (QQ p i f).cells):=by rw[x4q,H];rfl
 have v:(b.za.map eStrs)[i]?=some (eStrs O):=by rw[x4q,C];rfl
 have m:=ZC (QQ p i f) f hT.hj hT.hc (by have:=hT.hn2;have:=hT.hn;have:=hT.hw;omega) a (by omega);have u:=Rb O (by omega);have L:(QQ p i f).live.length=QJ f.body+2:=by show(Qw _ (List.replicate (QJ f.body+2) false)).length=_;rw[Xc];simp
 have R:(QQ p i f).n=(QJ f.body+2:Nat):=rfl;have y:((QQ p i f).live.map bv)[a]?=some (bv ((QQ p i f).live.getD a false)):=by
  rw[x4q,x3i,x3e (by omega)];rfl
 unfold q1x;by_cases c:a=QJ f.body+1
 ·rw[if_pos c];have o:=Nd (O++[retS]) (by simp;omega);have F:(O.map AV.str).length=O.length:=x3a _;repeat' ((first|refine wI ?_|refine iT k ?_|refine iT v ?_|(apply bD<;>intro _<;>try omega))<;>conv=>whnf)
  all_goals try (exfalso;omega)
  refine VL 0 rfl u (.cons (.p (Sub.refl _)) .nil) (fun r=>?_) (fun q e sz es G=>?_);rotate_left;obtain⟨rfl,rfl,rfl⟩:=G
  rotate_right
  subst r;all_goals
   conv=>whnf
   repeat' ((first|refine gX ?_|refine WK (es:=[]) rfl (by simp) ?_|refine pS ?_|(refine cH rH1 0 o ?_)|(refine cH rH1 0 o ?_ (ha:=(x5w (x8o (by simp;rfl)) x6e)) (hH:=x5x (j:=0) rfl rfl (CSub.of_eq (by simp;rfl)) x6z)))<;>conv=>whnf)
   all_goals first
    |exact⟨_,.hd rfl (by simp),rfl⟩
 ·rw [if_neg c];by_cases d:a=0
  ·rw[if_pos d];repeat' ((first|refine wI ?_|refine iT k ?_|(apply bD<;>intro _<;>try omega))<;>conv=>whnf)
   all_goals first
    |(exfalso;omega)
    |exact⟨_,.p Sub.nils,rfl⟩
  ·rw[if_neg d];have z:QF (QQ p i f).p (QQ p i f).j (QQ p i f).n a=((QS p.A i+a:Nat):Int):=by
    show QF p i (QJ f.body+2:Nat) a=_;unfold QF loI;rw[if_neg (by omega),if_neg (by omega)];omega
   rw[z]at m;have x:(b.zb.map eStrs)[QS p.A i+a-1]?=some (eStrs (b.zb.getD (QS p.A i+a-1) [])):=by
    rw[x4q,x3i,x3e (by omega)];rfl
   generalize(QQ p i f).live.getD a false=lv at*
   cases lv;all_goals
    repeat' ((first|refine dA ?_|refine wI ?_|refine iT k ?_|refine iT y ?_|refine cP m ?_|refine iT x ?_|(apply bD<;>intro _<;>try omega))<;>conv=>whnf)
    all_goals first
     |(exfalso;omega)
     |contradiction
     |exact⟨_,.p Sub.nils,rfl⟩
     |exact⟨_,.p (Sub.refl _),rfl⟩
section
variable {P:Program}{T:Tab}{N:Nat}
def Dd(l:List (List UInt8×List AV))(k:List UInt8):List AV:=(M4 l k).getD []
theorem SA{s s':St}{σ:Mem}{β:Lab}{ac:Act}{w:World}(V:Rel N σ β s ac w){k p:Nat}(hu:WY p s=true){i i':BInfo}{o2:Option BInfo}(hi:β k=some i){c0:Chunk}(hg:getH s.H k=some c0)(F:i'.blk=i.blk/\i'.cap=i.cap/\i'.sz=i.sz)(hhas:∀b,i'.has b->i.has b)(f:∀J,o2=some J->∀b,J.has b->i.has b/\¬i'.has b)(hpin:ZN k=false){c c2:Chunk}(h:KT s k p c c2 fun s2=>s2=s')(hc:∀β':Lab,β' k=some i'->β' p=o2->c.holds σ β' w k/\c2.holds σ β' w p):
  ∃β',Rel N σ β' s' ac w/\Later σ β s.H w σ β' s'.H w/\β' p=o2/\β' k=some i'/\∀l v,l.xfree k=true->l.free p=true->RepL σ β l v->RepL σ β' l v:=by
 obtain⟨sl,h,hsl⟩:=WR (by rfl) h;obtain⟨H2,rfl,Y,R⟩:=WT h;obtain⟨hu1,hu2⟩:=XI hu;have hu3:=YR hu;have hk1:=QP hg;have hne:k≠p:=fun he=>(hu1 k _ (QG hg)).1 he;have hnm:p∉s.H.map (·.1):=fun hk=>by
  obtain⟨⟨j,c⟩,I,rfl⟩:=x4y.1 hk;exact(hu1 j c I).1 rfl
 have Q:∀j∈H2.map (·.1),j∈s.H.map (·.1)/\j≠p:=fun j y=>by
  refine⟨Y.subset y,fun he=>?_⟩;obtain⟨⟨j',c⟩,I,rfl⟩:=x4y.1 y;exact(R j' c I).1 he
 let β':Lab:=(β.set k (some i')).set p o2;have z:∀j,j≠k->j≠p->β' j=β j:=fun j o r=>by simp[β',Lab.set,o,r]
 have q:β' k=some i':=by simp[β',Lab.set,hne]
 have n:β' p=o2:=by simp[β',Lab.set]
 have hlv:∀l v,l.xfree k=true->l.free p=true->RepL σ β l v->RepL σ β' l v:=fun l v o r hl=>(hl.subs (i':=i') hi F o).set o2 r;have hkf:∀l:LV,l.free p=true->(l.xkill k).free p=true:=fun l h=>by
  unfold LV.xkill;cases l.xfree k
  ·rfl
  ·exact h
 have A:∀j L,β' j=some L->(j=k\/j=p\/j∈s.H.map (·.1))->∀b,L.has b->∃C Z,C∈s.H.map (·.1)/\β C=some Z/\Z.has b/\(j≠k->j≠p->C=j)/\(j=k\/j=p->C=k):=fun j L x y b F=>by
  by_cases o:j=k
  ·subst o;rw[q]at x;cases x;exact⟨_,i,hk1,hi,hhas b F,fun h=>absurd rfl h,fun _=>rfl⟩
  ·by_cases r:j=p
   ·subst r;rw[n]at x;exact⟨k,i,hk1,hi,(f L x b F).1,fun _ h=>absurd rfl h,fun _=>rfl⟩
   ·rw[z j o r]at x;exact⟨j,L,(y.resolve_left o).resolve_left r,x,F,fun _ _=>rfl,fun h=>absurd h (by simp[o,r])⟩
 have a:∀j∈((p,c2)::H2).map (·.1),j=k\/j=p\/j∈s.H.map (·.1):=fun j y=>by
  simp only[x4o,x4v]at y;rcases y with y|y
  ·exact .inr (.inl y)
  ·exact .inr (.inr (Q j y).1)
 obtain⟨hck,hck2⟩:=hc β' q n;refine⟨β',⟨V.size,V.defers,fun j=>?_,⟨V.heap.mem,fun j c y=>?_,?_,fun j y L x b F=>?_,fun j y j' hj' i1 J o r b hb1 hb2=>?_⟩⟩,⟨Mem.le_refl σ,Frm.refl _ _,fun _ h0 o=>absurd h0 o,fun b ⟨j,y,L,x,F⟩=>?_,fun j h0 o=>z j (Ns hpin j h0 o) (by omega)⟩,n,q,hlv⟩
 ·show RepL σ β' (getS sl j) _;rw[hsl];exact hlv _ _ (WX k _) (hkf _ (hu2 j)) ((V.E j).xkill k)
 ·rcases x4v.1 y with he|y
  ·cases he;exact hck2
  ·obtain⟨G,⟨rfl,rfl⟩|⟨o,c0,r,rfl⟩⟩:=R j c y
   ·exact hck
   ·have hfr:=(hu1 j c0 r);have g:=V.heap.chunks j c0 r;cases c0 with
    | obj e' cs=>
      obtain⟨J,vs2,hi2,hh2,hn2,hc2⟩:=g;refine⟨J,vs2,(z j o G).trans hi2,hh2,by simpa using hn2,fun m l I=>?_⟩;rw[x4q]at I;cases hq:cs[m]?with
      |none=>rw[hq]at I;cases I
      | some l'=>
        rw[hq]at I;cases I;obtain⟨u,h5,h6⟩:=hc2 m l' hq;exact⟨u,h5,hlv _ _ (WX k _) (hkf _ (XH hfr.2 m l' hq)) (h6.xkill k)⟩
    | own e' sz' es'=>
      rcases g with⟨h5,h6⟩|⟨J,vs2,hi2,rest⟩
      ·exact .inl ⟨(z j o G).trans h5,h6⟩
      ·exact .inr ⟨J,vs2,(z j o G).trans hi2,rest⟩
    | ext d=>
      show d.holds σ (β' j) w;rw[z j o G];exact g
 ·simp only[x4o,x6q];exact⟨fun hk=>(Q p hk).2 rfl,Y.nodup V.heap.nodup⟩
 ·obtain⟨C,Z,o,r,h3,_⟩:=A j L x (a j y) b F;exact V.heap.apart C o Z r b h3
 ·obtain⟨C,Z,h3,h4,h5,h6,h7⟩:=A j i1 o (a j y) b hb1;obtain⟨j1,i3,h8,h9,h10,h11,h12⟩:=A j' J r (a j' hj') b hb2;have hj01:=V.heap.inj C h3 j1 h8 Z i3 h4 h9 b h5 h10;by_cases M:j=k<;>by_cases e2:j'=k
  ·rw[M,e2]
  ·by_cases B:j'=p
   ·subst M B;rw[q]at o;cases o;rw[n]at r;exact absurd hb1 (f J r b hb2).2
   ·have:=h7 (.inl M);have:=h11 e2 B;exact absurd (by omega) e2
  ·by_cases B:j=p
   ·subst e2 B;rw[q]at r;cases r;rw[n]at o;exact absurd hb2 (f i1 o b hb1).2
   ·have:=h12 (.inl e2);have:=h6 M B;exact absurd (by omega) M
  ·by_cases B:j=p<;>by_cases e4:j'=p
   ·rw[B,e4]
   ·have:=h7 (.inr B);have:=h11 e2 e4;exact absurd (by omega) e2
   ·have:=h12 (.inr e4);have:=h6 M B;exact absurd (by omega) M
   ·have:=h6 M B;have:=h11 e2 e4;omega
 ·obtain⟨C,Z,o,r,h3,_⟩:=A j L x (a j y) b F;exact .inl ⟨C,o,Z,r,h3⟩
def B5{s:St}{o:Oper}(e sz:Nat)(m:o.op=.makeMap t none)(h:HT 60 0 s fun k=>setD N s.sl o.dst (.ext k .map) fun sl=>K ⟨sl,(k,.ext (.mapr e sz [] none))::s.H⟩):OpK P N s o K:=by
 refine⟨fun σ β a w y Q=>?_⟩;obtain⟨k,q,h⟩:=YX h;have i:(Chunk.ext (.mapr e sz [] none)).holds σ (β.set k (some ⟨w.heap.size,0,0,[],x4j _⟩)) (w.alloc (.map #[] 0)) k:=
  ⟨⟨w.heap.size,0,0,[],x4j _⟩,#[],0,by simp[Lab.set],heap_alloc_new w _,⟨.nil,fun x z=>by cases z⟩,rfl,rfl,.nil,fun a b c h=>by simp at h,fun a x h=>by simp at h⟩
 obtain⟨n,r⟩:=y.new q rfl rfl i;obtain⟨sl,p,j⟩:=n.setD (v:=.ext k .map) (u:=.map (some w.heap.size)) (.ext k .map ⟨w.heap.size,0,0,[],x4j _⟩ _ (by simp[Lab.set]) rfl) h;exact XT (w':=w.alloc (.map #[] 0)) (by simp[execOp,m,Instr.makeMap]) ⟨σ,_,_,p,j,r⟩
theorem Ar{l:List (List UInt8×α)}{es:Array MapEntry}(o:es.size=l.length)(j:∀(m:Nat)(x:List UInt8×α),l[m]?=some x->∃e:MapEntry,es[m]?=some e/\e.key=JQ x.1):es.toList.map (·.key)=l.map (fun x=>JQ x.1):=by
 apply z0u;intro m;rw[x4q,x4q];cases i:l[m]?with
 | none=>
   have:es.toList[m]?=none:=by
    rw[x8g]at i⊢;simp;omega
   rw[this];rfl
 | some x=>
   obtain⟨e,k,n⟩:=j m x i;have h:es.toList[m]?=some e:=by simpa using k
   rw[h];simp[n]
def Az{l:List (List UInt8×α)}{k:List UInt8}(h:(l.findIdx? fun x=>decide (k=x.1))=none):M4 l k=none:=by
 unfold M4;rw[x9y]at h;rw[x9b.2 fun x i=>by simpa using h x i];rfl
def Be{l:List (List UInt8×α)}{k:List UInt8}{j:Nat}(h:(l.findIdx? fun x=>decide (k=x.1))=some j):∃x,l[j]?=some x/\x.1=k/\M4 l k=some x.2:=by
 obtain⟨m,n,o⟩:=x8b.1 h;refine⟨l[j],x3e m,(by simpa using n:k=l[j].1).symm,?_⟩;unfold M4;have:l.find? (fun x=>decide (k=x.1))=some l[j]:=List.find?_eq_some_iff_getElem.2 ⟨n,j,m,rfl,fun i p=>by simpa using o i p⟩;rw[this];rfl
def RS{l:List (List UInt8×α)}(h:(l.map (·.1)).Nodup){i j:Nat}{x y:List UInt8×α}(o:l[i]?=some x)(p:l[j]?=some y)(n:x.1=y.1):i=j:=by
 have k:=(x4u.1 o);have m:=(x4u.1 p);obtain⟨k,rfl⟩:=k;obtain⟨m,rfl⟩:=m;refine(List.getElem_inj (h₀:=by simpa using k) (h₁:=by simpa using m) h).1 ?_;simpa using n
theorem Cf(hT:TabOK P T){s:St}{o:Oper}{x ix:Operand}(J:Nat)(hop:o.op=.lookup t x ix false){k:Nat}(hx:QD s.sl x=.ext k .map)(hg:getH s.H k=some (.ext (.mapr e sz l none))){ks:List UInt8}(hk:QD s.sl ix=.p (.str ks)){i ik ie:TyI}{kt et:TypeId}(ht:T.get t=some i)(hd:i.desc=.map kt et)(htk:T.get kt=some ik)(hdk:ik.desc=.string)(hte:T.get et=some ie)(hze:ie.zero=.slice none 0 0)(hu:WY J s=true)(hpin:ZN k=false)(h:KT s k J (.ext (.mapr e sz l (some ks))) (.own e sz (Dd l ks)) fun s2=>setD N s2.sl o.dst (.hd J 0 (Dd l ks).length) fun sl=>K ⟨sl,s2.H⟩):OpK P N s o K:=by
 obtain⟨s2,h,he⟩:=Kt h;refine⟨fun σ β a w hr Q=>?_⟩;have hx':=QX hr.E x;have hk':=QX hr.E ix;rw[hx]at hx';rw[hk]at hk';have hkv:=Tc hk';generalize hxe:a.eval x=xv at hx';cases hx' with
 | ext _ _ d _ hbi hd'=>
   obtain rfl:xv=.map (some d.blk):=hd';obtain⟨bi',es,V,M,hh,hbo,h1,h2,h3,h4,h5⟩:=hr.heap.chunks k _ (QG hg);rw[hbi]at M;cases M;have Z:=Ar h1 fun m x hm=>let ⟨Y,g1,g2,_⟩:=h5 m x hm;⟨Y,g1,g2⟩;have hu':=hT.of ht;have G:=hT.of htk;rw[hd]at hu';rw[hdk]at G;have n:=FS ks es.toList l 0 Z;let i':BInfo:=⟨d.blk,d.cap,d.sz,List.zipWith (fun(x:List UInt8×List AV) o=>if x.1=ks then none else o) l d.subs,d.ok⟩;have z:∀(p:Nat)(x:List UInt8×List AV),l[p]?=some x->i'.subs[p]?=if x.1=ks then some none else d.subs[p]?:=fun p x f=>by
    show(List.zipWith _ l d.subs)[p]?=_;have F:p<d.subs.length:=by rw[h2];exact(x4u.1 f).1
    rw[List.getElem?_zipWith,f,x3e F];simp only;split<;>rfl
   have u:∀(p b c:Nat),i'.subs[p]?=some (some (b,c))->d.subs[p]?=some (some (b,c))/\∃x,l[p]?=some x/\x.1≠ks:=fun p b c f=>by
    have F:p<l.length:=by
     have:=(x4u.1 f).1;simp only[i',z0e]at this;omega
    have C:=z p _ (x3e F);rw[f]at C;split at C
    ·cases C
    ·rename_i h7;exact⟨C.symm,_,x3e F,h7⟩
   have hhas:∀b,i'.has b->d.has b:=fun b g=>by
    rcases g with g|⟨c,g⟩
    ·exact .inl g
    ·obtain⟨p,f⟩:=x7x.1 g;exact .inr ⟨c,x4p (u p b c f).1⟩
   have hmapr:∀β':Lab,β' k=some i'->(Chunk.ext (.mapr e sz l (some ks))).holds σ β' w k:=fun β' I=>by
    refine⟨i',es,V,I,hh,hbo,h1,by show(List.zipWith _ l d.subs).length=_;rw[z0e,h2];omega,h3,fun p b c f=>?_,fun p x f=>?_⟩
    ·obtain⟨C,_⟩:=u p b c f;exact⟨(h4 p b c C).1,fun p' c' hp'=>(h4 p b c C).2 p' c' (u p' b c' hp').1⟩
    ·obtain⟨Y,g1,g2,_,g4⟩:=h5 p x f;refine⟨Y,g1,g2,fun hq=>?_,fun hq=>?_⟩
     ·rw[z p x f,if_pos (x8z hq).symm]
     ·obtain⟨b,c,ws,q1,q2⟩:=g4 (by simp);refine⟨b,c,ws,?_,q2⟩;rw[z p x f,if_neg (fun hh=>hq (by rw[hh]))];exact q1
   obtain⟨o2,L,ho2,hrun,hown,hrep⟩ : ∃(o2:Option BInfo) (L:Value),(∀R,o2=some R->R.subs=[]/\∃(p c:Nat) (x:List UInt8×List AV),l[p]?=some x/\x.1=ks/\d.subs[p]?=some (some (R.blk,c)))/\(execOp a.eval o).run P w=.ok (.value L) w/\
     (∀β':Lab,β' J=o2->(Chunk.own e sz (Dd l ks)).holds σ β' w J)/\∀β':Lab,β' J=o2->RepL σ β' (.hd J 0 (Dd l ks).length) L:=by
    have B:∀(L:Value)(r:Option (Nat×Value)),(Instr.findKey kt (JQ ks) es.toList).run P w=.ok r w->(r=none->L=.slice none 0 0)->(∀q,r=some q->L=q.2)->(execOp a.eval o).run P w=.ok (.value L) w:=fun L r hfk hn hs=>by
     have hlk:(Instr.lookup t (.map (some d.blk)) (JQ ks) false).run P w=.ok L w:=by
      unfold Instr.lookup;rw[Sem.run_bind,run_underlying hu',Result.andThen_ok];simp only[Sem.run_bind,ZB hh,Result.andThen_ok,Sem.run_pure,JJ G,hfk];cases r with
      | none=>
        rw[hn rfl];simp only[Sem.run_bind,TyOK.zeroValue (hT _ _ hte),hze,Result.andThen_ok,Sem.run_pure];rfl
      | some q=>
        rw[hs q rfl];rfl
     simp only[execOp,hop,hxe,hkv,Sem.run_bind,hlk,Result.andThen_ok];rfl
    cases hj:l.findIdx? fun x=>decide (ks=x.1)with
    | none=>
      rw[hj]at n;have v:Dd l ks=[]:=by unfold Dd;rw[Az hj];rfl
      refine⟨none,.slice none 0 0,fun R h=>(by cases h),B _ none ?_ (fun _=>rfl) (fun q h=>by cases h),fun β' I=>.inl ⟨I,v⟩,fun β' I=>?_⟩
      ·unfold Instr.findKey;rw[Sem.run_bind,run_underlying G,Result.andThen_ok,n];rfl
      ·rw[v];exact .hdn J I
    | some j=>
      rw[hj]at n;obtain⟨y,hy1,hy2,hy3⟩:=Be hj;have v:Dd l ks=y.2:=by unfold Dd;rw[hy3];rfl
      obtain⟨Y,g1,g2,_,g4⟩:=h5 j y hy1;obtain⟨b,c,ws,q1,q2,q3,q4,q5,q6,q7⟩:=g4 (by simp);have g1':es.toList[j]?=some Y:=by simpa using g1
      simp only[g1',x7t,x5b]at n;refine⟨some ⟨b,c,sz,[],q6⟩,Y.val,fun R h=>?_,B _ (some (0+j,Y.val)) ?_ (fun h=>by cases h) (fun q h=>by cases h;rfl),fun β' I=>?_,fun β' I=>?_⟩
      ·cases h;exact⟨rfl,j,c,y,hy1,hy2,q1⟩
      ·unfold Instr.findKey;rw[Sem.run_bind,run_underlying G,Result.andThen_ok,n];rfl
      ·rw[v];exact .inr ⟨⟨b,c,sz,[],q6⟩,ws,I,rfl,q3,q4,q5,q6,q7⟩
      ·rw[v,q2];have:=z1v (σ:=σ) (β:=β') J 0 y.2.length ⟨b,c,sz,[],q6⟩ 0 I (by simpa using q5) (.inl (by simp));simpa using this
   obtain⟨β',hr',hl,hb2,_,_⟩:=SA (i':=i') (o2:=o2) hr hu hbi hg ⟨rfl,rfl,rfl⟩ hhas (fun R h b g=>by
    obtain⟨C,p,c,x,h7,h8,h9⟩:=ho2 R h;have he:R.blk=b:=by
     rcases g with g|⟨c,g⟩
     ·exact g
     ·rw[C]at g;cases g
    subst he;refine⟨.inr ⟨c,x4p h9⟩,fun A=>?_⟩;rcases A with A|⟨c',A⟩
    ·exact(h4 p _ c h9).1 A
    ·obtain⟨p',hp'⟩:=x7x.1 A;obtain⟨h10,x',h11,h12⟩:=u p' _ c' hp';obtain rfl:=(h4 p _ c h9).2 p' c' h10;rw[h7]at h11;cases h11;exact h12 h8) hpin he fun β' g1 g2=>⟨hmapr β' g1,hown β' g2⟩
   obtain⟨sl,hK,hr''⟩:=hr'.setD (hrep β' hb2) h;exact XT hrun ⟨σ,β',_,hK,hr'',hl⟩
theorem Ip(hT:TabOK P T){s:St}{o:Oper}{x ix vx:Operand}(hop:o.op=.mapUpdate t x ix vx)(hdst:o.dst=none){k:Nat}(hx:QD s.sl x=.ext k .map){ks:List UInt8}(hg:getH s.H k=some (.ext (.mapr e sz l (some ks))))(hk:QD s.sl ix=.p (.str ks)){Z n:Nat}(hvx:QD s.sl vx=.hd Z 0 n){f:List AV}(hg2:getH s.H Z=some (.own e sz f))(hn:n=f.length)(hpos:0<n){i ik:TyI}{kt et:TypeId}(ht:T.get t=some i)(hd:i.desc=.map kt et)(htk:T.get kt=some ik)(hdk:ik.desc=.string)(hpin:(ZN k||ZN Z)=false)(hne:k≠Z)(h:AU s k Z (.ext (.mapr e sz (PP l ks f) none)) K):OpK P N s o K:=by
 refine⟨fun σ β a w M Q=>?_⟩;obtain⟨sl,h,hsl⟩:=WR (by rfl) h;obtain⟨H2,hK,hsub,hmem⟩:=WT h;simp only[x8p]at hpin;have hx':=QX M.E x;have hk':=QX M.E ix;have hv':=QX M.E vx;rw[hx]at hx';rw[hk]at hk';rw[hvx]at hv';have hkv:=Tc hk';have hk1:=QP hg;have hk2:=QP hg2;generalize hxe:a.eval x=xv at hx';generalize hve:a.eval vx=vv at hv';cases hx' with
 |ext _ _ d _ hbi hd'=>
 obtain rfl:xv=.map (some d.blk):=hd';obtain⟨bi',es,R,hbi',hh,hbo,G,h2,h3,h4,h5⟩:=M.heap.chunks k _ (QG hg);rw[hbi]at hbi';cases hbi';obtain⟨A,ws,V,hvv,r1,r2,r3,r4,r5⟩ : ∃A ws,β Z=some A/\vv=.slice (some ⟨A.blk,0,none⟩) f.length A.cap/\w.heap[A.blk]?=some (.cells ws e (0,0))/\ws.size=A.cap*sz/\f.length<=A.cap/\A.cap<=maxLen/\
   ∀(m:Nat)(x:AV),f[m]?=some x->x.cells.length=sz/\∀(j:Nat)(c':AV),x.cells[j]?=some c'->∃u:Value,ws[m*sz+j]?=some u/\Rep σ c' u:=by
  rcases M.heap.chunks Z _ (QG hg2)with⟨_,hes⟩|⟨A,ws,V,g1,g2,g3,g4,g5,g6⟩
  ·rw[hes]at hn;simp at hn;omega
  ·rcases hv'.hdI with⟨hk,_⟩|⟨i3,oo,hk,hl,ho,r⟩
   ·rw[V]at hk;cases hk
   ·rw[V]at hk;cases hk;have hoo:oo=0:=by
     rcases ho with ho|ho
     ·simpa using ho
     ·omega
    subst hoo;exact⟨A,ws,V,by rw[r,hn];simp,g2,by rw[g3],g4,g5,g6⟩
 have hkeys:=Ar G fun m x hm=>let ⟨e',g1,g2,_⟩:=h5 m x hm;⟨e',g1,g2⟩;have hu':=hT.of ht;have huk:=hT.of htk;rw[hd]at hu';rw[hdk]at huk;have F:=FS ks es.toList l 0 hkeys;have hlt:=(M.heap.apart k hk1 d hbi d.blk d.has_blk).2;obtain⟨es',q,B,hrun,hbo',hsz,hsl',hnd',hent⟩ : ∃(es':Array MapEntry) (q:Nat) (B:List (Option (Nat×Nat))),(Instr.mapUpdate t (.map (some d.blk)) (JQ ks) vv).run P w=.ok () {w with heap:=w.heap.setIfInBounds d.blk (.map es' q)}/\MS es' q/\es'.size=(PP l ks f).length/\B.length=(PP l ks f).length/\((PP l ks f).map (·.1)).Nodup/\
   ∀(m:Nat)(x:List UInt8×List AV),(PP l ks f)[m]?=some x->∃e':MapEntry,es'[m]?=some e'/\e'.key=JQ x.1/\(x.1=ks->e'.val=vv/\B[m]?=some (some (A.blk,A.cap))/\x.2=f)/\(x.1≠ks->l[m]?=some x/\es[m]?=some e'/\B[m]?=d.subs[m]?):=by
  cases L:l.findIdx? fun x=>decide (ks=x.1)with
  | none=>
    rw[L]at F;rw[J6 L];refine⟨es.push {key:=JQ ks,val:=vv,born:=R},R+1,d.subs++[some (A.blk,A.cap)],?_,NX hbo rfl,by simpa using G,by simp[h2],?_,fun m y hy=>?_⟩
    ·have hfk:(Instr.findKey kt (JQ ks) es.toList).run P w=.ok none w:=by
      unfold Instr.findKey;rw[Sem.run_bind,run_underlying huk,Result.andThen_ok,F];rfl
     unfold Instr.mapUpdate;rw[Sem.run_bind,run_underlying hu',Result.andThen_ok];simp only[Sem.run_bind,ZB hh,Result.andThen_ok,Sem.run_pure,JJ huk,hfk,JK _ hh]
    ·rw[x4d,x7u];refine⟨h3,by simp,fun u hu v hv=>?_⟩;simp only[x4o,z0d,x4w]at hv;obtain⟨z,hz,rfl⟩:=x4y.1 hu;have:=x9y.1 L z hz;intro r;rw[r,hv]at this;simp at this
    ·rw[x7e]at hy;split at hy
     ·rename_i hm;obtain⟨e',g1,g2,_⟩:=h5 m y hy;have hyk:y.1≠ks:=fun r=>by
       have:=x9y.1 L y (x4p hy);rw[r]at this;simp at this
      have hms:m<es.size:=by omega
      exact⟨e',by rw[x9z,if_neg (by omega)];exact g1,g2,fun r=>absurd r hyk,fun _=>⟨hy,g1,by rw[x5i (by omega)]⟩⟩
     ·rename_i hm;have hm0:m-l.length=0:=by
       have:=(x4u.1 hy).1;simp at this;omega
      rw[hm0]at hy;simp at hy;subst hy;exact⟨{key:=JQ ks,val:=vv,born:=R},by rw[x9z,if_pos (by omega)],rfl,fun _=>⟨rfl,by rw[x5t (by omega),h2,hm0];rfl,rfl⟩,fun r=>absurd rfl r⟩
  | some j=>
    rw[L]at F;obtain⟨y,hy1,hy2⟩:=Na (v:=f) L;obtain⟨y',hy3,hy4,_⟩:=Be L;rw[hy1]at hy3;cases hy3;rw[hy2];obtain⟨e',g1,g2,g3,_⟩:=h5 j y hy1;have g1':es.toList[j]?=some e':=by simpa using g1
    have hjlt:j<es.size:=(x4t.1 g1).1;simp only[g1',x7t,x5b,x6i]at F;have hek:e'.key=JQ ks:=by rw[g2,hy4];rfl
    refine⟨es.modify j fun e=>{e with key:=JQ ks,val:=vv},R,d.subs.set j (some (A.blk,A.cap)),?_,GE hbo j fun _=>rfl,by simpa using G,by simp[h2],?_,fun m z hz=>?_⟩
    ·have hfk:(Instr.findKey kt (JQ ks) es.toList).run P w=.ok (some (j,e'.val)) w:=by
      unfold Instr.findKey;rw[Sem.run_bind,run_underlying huk,Result.andThen_ok,F];rfl
     have hkt:(Instr.keyThatStays (((es[j]?).map (·.key)).getD (JQ ks)) (JQ ks)).run P w=.ok (JQ ks) w:=by
      rw[g1];simp only[x7t,x5b,hek];unfold Instr.keyThatStays;have:Instr.sameBits 10000 (JQ ks) (JQ ks)=true:=by
       unfold JQ;show((⟨ks.toArray⟩:ByteArray)==⟨ks.toArray⟩)=true;rw[MA];simp
      rw[if_pos this];rfl
     unfold Instr.mapUpdate;rw[Sem.run_bind,run_underlying hu',Result.andThen_ok];simp only[Sem.run_bind,ZB hh,Result.andThen_ok,Sem.run_pure,JJ huk,hfk,hkt,JK _ hh]
    ·rw[x5d];have:(l.map (·.1)).set j y.1=l.map (·.1):=by
      apply z0u;intro m;by_cases hm:m=j
      ·subst hm;have hml:m<l.length:=(x4u.1 hy1).1;rw[x5f (by simpa using hml),x4q,hy1];rfl
      ·rw[x5p (x7d hm)]
     rw[this];exact h3
    ·by_cases hm:m=j
     ·subst hm;rw[x5f (by omega)]at hz;cases hz;exact⟨{e' with key:=JQ ks,val:=vv},by simp[x7l,g1],by rw[hy4],fun _=>⟨rfl,by rw[x5f (by omega)],rfl⟩,fun r=>absurd hy4 r⟩
     ·rw[x5p (x7d hm)]at hz;obtain⟨e'',g4,g5,_⟩:=h5 m z hz;have hzk:z.1≠ks:=fun r=>hm (RS h3 hz hy1 (by rw[r,hy4]));exact⟨e'',by rw[x7l,if_neg (x7d hm)];exact g4,g5,fun r=>absurd r hzk,fun _=>⟨hz,g4,by rw[x5p (x7d hm)]⟩⟩
 have hrun':(execOp a.eval o).run P w=.ok .skip {w with heap:=w.heap.setIfInBounds d.blk (.map es' q)}:=by
  simp only[execOp,hop,hxe,hkv,hve,Sem.run_bind,hrun,Result.andThen_ok];rfl
 let w':World:={w with heap:=w.heap.setIfInBounds d.blk (.map es' q)};let i':BInfo:=⟨d.blk,d.cap,d.sz,B,d.ok⟩;let β':Lab:=(β.set Z none).set k (some i');have hset:∀j,j≠k->j≠Z->β' j=β j:=fun j G h2=>by simp[β',Lab.set,G,h2]
 have hsetk:β' k=some i':=by simp[β',Lab.set]
 have g:∀b,b≠d.blk->w'.heap[b]?=w.heap[b]?:=fun b J=>x7n (x7d J);have Y:∀(p b c:Nat),B[p]?=some (some (b,c))->(b=A.blk/\∃x,(PP l ks f)[p]?=some x/\x.1=ks)\/(d.subs[p]?=some (some (b,c))/\∃x,(PP l ks f)[p]?=some x/\x.1≠ks):=fun p b c hp=>by
  have hlt:p<(PP l ks f).length:=by
   have:=(x4u.1 hp).1;omega
  have hq:=x3e hlt;obtain⟨e',_,_,g3,g4⟩:=hent p _ hq;by_cases r:((PP l ks f)[p]).1=ks
  ·obtain⟨_,g5,_⟩:=g3 r;rw[hp]at g5;cases g5;exact .inl ⟨rfl,_,hq,r⟩
  ·obtain⟨_,_,g5⟩:=g4 r;rw[hp]at g5;exact .inr ⟨g5.symm,_,hq,r⟩
 have hhas:∀b,i'.has b->d.has b\/A.has b:=fun b J=>by
  rcases J with J|⟨c,J⟩
  ·exact .inl (.inl J)
  ·obtain⟨p,hp⟩:=x7x.1 J;rcases Y p b c hp with⟨h6,_⟩|⟨h6,_⟩
   ·exact .inr (.inl h6.symm)
   ·exact .inl (.inr ⟨c,x4p h6⟩)
 have C:∀b,d.has b->¬A.has b:=fun b h6 h7=>hne (M.heap.inj k hk1 Z hk2 d A hbi V b h6 h7);have hlab:∀j∈H2.map (·.1),j∈s.H.map (·.1)/\j≠Z:=fun j L=>by
  refine⟨hsub.subset L,fun r=>?_⟩;obtain⟨⟨j',c⟩,hm,rfl⟩:=x4y.1 L;exact(hmem j' c hm).1 r
 have hwas:∀j,j≠Z->∀ij,β' j=some ij->∀b,ij.has b->(∃i0,β j=some i0/\i0.has b)\/(j=k/\A.has b):=fun j L ij I b J=>by
  by_cases hjk:j=k
  ·subst hjk;rw[hsetk]at I;cases I;rcases hhas b J with G|G
   ·exact .inl ⟨d,hbi,G⟩
   ·exact .inr ⟨rfl,G⟩
  ·rw[hset j hjk L]at I;exact .inl ⟨ij,I,J⟩
 have hlv:∀l v,RepL σ β l v->RepL σ β' ((l.kill Z).xkill k) v:=fun l v hl=>by
  have G:=((hl.kill Z).set none (LV.kill_free Z l)).xkill k;exact G.subs (i:=d) (by simp[Lab.set,hne,hbi]) ⟨rfl,rfl,rfl⟩ (WX k _)
 have hheap:HRel σ β' H2 w':=by
  refine⟨fun b c J=>?_,fun j c L=>?_,hsub.nodup M.heap.nodup,fun j L ij I b J=>?_,fun j L j' hj' i1 i2' G h2 b hb1 hb2=>?_⟩
  ·obtain⟨e',fr,h6⟩:=M.heap.mem b c J;exact⟨e',fr,(g b fun r=>by rw[r,(M.heap.apart k hk1 d hbi d.blk d.has_blk).1]at J;cases J).trans h6⟩
  ·obtain⟨hj2,⟨rfl,rfl⟩|⟨hjk,c0,hm0,rfl⟩⟩:=hmem j c L
   ·refine⟨i',es',q,hsetk,by show(w.heap.setIfInBounds d.blk _)[d.blk]?=_;simp[hlt],hbo',hsz,hsl',hnd',fun p b c hp=>?_,fun p x hp=>?_⟩
    ·rcases Y p b c hp with⟨h6,x,h7,h8⟩|⟨h6,x,h7,h8⟩
     ·refine⟨fun r=>C d.blk d.has_blk (.inl (by rw[<-h6];exact r.symm)),fun p' c' hp'=>?_⟩;rcases Y p' b c' hp' with⟨_,x',h9,h10⟩|⟨h9,_⟩
      ·exact RS hnd' h9 h7 (by rw[h10,h8])
      ·exact absurd (.inl h6.symm) (C b (.inr ⟨c',x4p h9⟩))
     ·refine⟨(h4 p b c h6).1,fun p' c' hp'=>?_⟩;rcases Y p' b c' hp' with⟨h9,_⟩|⟨h9,_⟩
      ·exact absurd (.inl h9.symm) (C b (.inr ⟨c,x4p h6⟩))
      ·exact(h4 p b c h6).2 p' c' h9
    ·obtain⟨e',g1,g2,g3,g4⟩:=hent p x hp;refine⟨e',g1,g2,fun hh=>(by cases hh),fun _=>?_⟩;by_cases r:x.1=ks
     ·obtain⟨g5,g6,g7⟩:=g3 r;refine⟨A.blk,A.cap,ws,g6,by rw[g5,hvv,g7],(g _ fun hh=>C d.blk d.has_blk (.inl hh)).trans r1,r2,by rw[g7];exact r3,r4,by rw[g7];exact r5⟩
     ·obtain⟨g5,g6,g7⟩:=g4 r;obtain⟨e'',q1,_,_,q4⟩:=h5 p x g5;rw[g6]at q1;cases q1;obtain⟨b,c,ws',q5,q6,q7,q8⟩:=q4 fun hh=>r (x8z hh).symm;exact⟨b,c,ws',by rw[g7];exact q5,q6,(g b fun hh=>(h4 p b c q5).1 hh.symm).trans q7,q8⟩
   ·have hjl:j∈s.H.map (·.1):=x4y.2 ⟨_,hm0,rfl⟩;refine(M.heap.chunks j c0 hm0).mapL (Mem.le_refl σ) hlv (hset j hjk hj2) fun ij I b J=>g b fun r=>hjk ?_;exact M.heap.inj j hjl k hk1 ij d I hbi b J (.inl r.symm)
  ·obtain⟨G,h2⟩:=hlab j L;have hsz':w'.heap.size=w.heap.size:=by simp[w']
   rw[hsz'];rcases hwas j h2 ij I b J with⟨i0,h3,h4⟩|⟨_,h4⟩
   ·exact M.heap.apart j G i0 h3 b h4
   ·exact M.heap.apart Z hk2 A V b h4
  ·obtain⟨h3,h4⟩:=hlab j L;obtain⟨h5,h6⟩:=hlab j' hj';rcases hwas j h4 i1 G b hb1 with⟨i3,h7,h8⟩|⟨e1,h8⟩<;>rcases hwas j' h6 i2' h2 b hb2 with⟨i4,h9,h10⟩|⟨e2,h10⟩
   ·exact M.heap.inj j h3 j' h5 i3 i4 h7 h9 b h8 h10
   ·exact absurd (M.heap.inj j h3 Z hk2 i3 A h7 V b h8 h10) h4
   ·exact absurd (M.heap.inj j' h5 Z hk2 i4 A h9 V b h10 h8) h6
   ·rw[e1,e2]
 refine PV hrun' ⟨σ,β',⟨sl,H2⟩,hK,⟨?_,?_,?_,hheap⟩,Mem.le_refl σ,⟨rfl,rfl,rfl,x4m _,by simp,fun b _ hn=>g b fun r=>hn ⟨k,hk1,d,hbi,.inl r.symm⟩⟩,fun b h0 G=>absurd h0 G,fun b ⟨j,L,ij,I,J⟩=>?_,fun j h0 G=>hset j (Ns hpin.1 j h0 G) (Ns hpin.2 j h0 G)⟩
 ·rw[hdst];exact M.size
 ·rw[hdst];exact M.defers
 ·rw[hdst];exact fun j=>by show RepL σ β' (getS sl j) _;rw[hsl];exact hlv _ _ (M.E j)
 ·obtain⟨G,h2⟩:=hlab j L;rcases hwas j h2 ij I b J with⟨i0,h3,h4⟩|⟨_,h4⟩
  ·exact .inl ⟨j,G,i0,h3,h4⟩
  ·exact .inl ⟨Z,hk2,A,V,h4⟩
end
def N4(l:List (Str×List AV))(x:Str×Nat):List (Str×List AV):=PP l x.1 (Dd l x.1++[.int .i64 x.2])
def prsG(G:Nat->List Str)(n:Nat):List (Str×Nat):=(List.range n).flatMap fun a=>(G a).map fun s=>(s,a)
def mapG(l:List (Str×Nat)):List (Str×List AV):=l.foldl N4 []
def DH(l:List (Str×Nat))(x:Str×Nat):mapG (l++[x])=N4 (mapG l) x:=by unfold mapG;rw[x7s];rfl
def Yh(G:Nat->List Str)(n:Nat):prsG G (n+1)=prsG G n++(G n).map fun s=>(s,n):=by
 unfold prsG;rw[x8x,x6m];simp
def Aw{l:List (Str×List AV)}{k j:Str}{v:List AV}:M4 (PP l k v) j=if j=k then some v else M4 l j:=by
 induction l with
 |nil=>rw[PP];unfold M4;by_cases h:j=k<;>simp[h]
 | cons x r m=>
   rw[PP];by_cases h:k=x.1
   .rw [if_pos h];unfold M4;by_cases i:j=k
    .simp [i,<-h]
    .have:¬j=x.1:=fun e=>i (e.trans h.symm);simp[i,this]
   .rw [if_neg h];unfold M4 at m⊢;rw[x9o,x9o];by_cases i:j=x.1
    .have:¬j=k:=fun e=>h (e.symm.trans i);simp[i,this];intro e;exact absurd e.symm h
    .rw [x5r i];exact m
def OX(l:List (Str×List AV))(x:Str×Nat)(j:Str):Dd (N4 l x) j=if j=x.1 then Dd l x.1++[.int .i64 x.2]else Dd l j:=by
 unfold N4 Dd;rw[Aw];split<;>rfl
def T5(l:List (Str×Nat))(j:Str):Dd (mapG l) j=(l.filter fun x=>decide (x.1=j)).map fun x=>.int .i64 x.2:=by
 have key:∀l:List (Str×Nat),Dd (mapG l.reverse) j=(l.reverse.filter fun x=>decide (x.1=j)).map fun x=>AV.int .i64 x.2:=fun l=>by
  induction l with
  |nil=>rfl
  | cons x r i=>
    rw[List.reverse_cons,DH,OX,x6y,x4d,<-i];by_cases h:j=x.1
    .subst h;simp
    .have:¬x.1=j:=fun e=>h e.symm;simp[h,this]
 have:=key l.reverse
 rwa[z0r]at this
def Oo(l:List (Str×Nat))(j:Str):(Dd (mapG l) j).length<=l.length:=by
 rw[T5,x3a];exact x6p _ _
theorem Tk{G:Nat->List Str}(h:∀a,(G a).length<=1000):∀n,(prsG G n).length<=1000*n
 |0=>x4j _
 | n+1=>by
   have:=Tk h n;have:=h n;rw[Yh,x3o,x3a];omega
theorem Ud(b:Book)(p:Pg)(i:Nat)(f:Pr)(n:Nat)(M:n<=5000)(A:b.ways[i]?=some (QQ p i f))(d:(QQ p i f).n=n)(G:Nat->List Str)(g:∀a,a<n->SpecP prog 177 [.ip b.cells,.int .i64 i,.int .i64 a] (fun r=>r=eStrs (G a)))(q:∀a,(G a).length<=1000):SpecH prog 128 [.p (.ip b.cells),.j i] [] (fun r H=>r=.tup [.ext 0 .map,.p (.int .i64 (prsG G n).length)]/\H=[(0,.ext (.mapr 3 1 (mapG (prsG G n)) none))]):=by
 refine sH Qe func128 rfl call128 ?_;conv=>whnf
 have y:(b.ways.map fun w=>AV.ip w.cells)[i]?=some (.ip (QQ p i f).cells):=by rw[x4q,A];rfl
 repeat' ((first|refine B5 3 1 rfl ?_|(refine IdxK.at (k:=i) rfl y rfl ?_));conv=>whnf)
 refine LoopK.inv XM (fun a:Nat=>⟨[(0,.p (.ip b.cells)),(1,.j i),(4,.ext 0 .map),(5,.p (.int .i64 (prsG G a).length)),(19,.j n),(20,.j a)],[(0,.ext (.mapr 3 1 (mapG (prsG G a)) none))]⟩) (fun a=>a<=n) (fun a=>n-a) 0 (Le.of_eq (by rw[d];rfl)) (x4j _) ?_;intro a ha;have B:(prsG G a).length<=1000*a:=Tk q a;rcases x4f a n with v|v
 ·have x:=g a v;have C:=q a;have c:=Yh G a;generalize prsG G a=acc at*
  generalize G a=L at*
  have F:(L.map AV.str).length=L.length:=x3a _;conv=>whnf
  repeat' (first|((first|(refine iM fun _=>?_)|refine cP x ?_);conv=>whnf)|(apply bD<;>intro _<;>first|omega|conv=>whnf))
  refine LoopK.inv XM (fun j:Nat=>⟨[(0,.p (.ip b.cells)),(1,.j i),(4,.ext 0 .map),(5,.p (.int .i64 (acc++(L.take j).map fun s=>(s,a)).length)),(6,.j a),(19,.j n),(20,.j a),(26,.p (eStrs L)),(27,.p (.int .i64 (L.map AV.str).length)),(28,.j j)],[(0,.ext (.mapr 3 1 (mapG (acc++(L.take j).map fun s=>(s,a))) none))]⟩) (fun j=>j<=L.length) (fun j=>L.length-j) 0 (Le.of_eq (by simp;rfl)) (x4j _) ?_;intro j J;rcases x4f j L.length with u|u
  ·have z:acc++(L.take (j+1)).map (fun s=>(s,a))=(acc++(L.take j).map fun s=>(s,a))++[(L[j],a)]:=by rw[x4k u,x4d,x4r];rfl
   have E:(acc++(L.take j).map fun s=>(s,a)).length<=5002000:=by rw[x3o,x3a,x5z];omega
   generalize(acc++(L.take j).map fun s=>(s,a))=o at*
   have h:=DH o (L[j],a);unfold N4 at h;have I:=Oo o L[j];simp only at h;generalize mapG o=m at*
   conv=>whnf
   repeat' (first|((first|refine x4e rfl ?_|refine aD ?_|refine bP ?_|(refine iA fun _=>?_)|refine wI ?_|refine Cf XM 1 rfl rfl rfl rfl rfl rfl rfl rfl rfl rfl rfl rfl ?_|refine MQ rfl (by omega) ?_|refine Ip XM rfl rfl rfl rfl rfl rfl rfl (by simp) (Nat.succ_pos _) rfl rfl rfl rfl rfl (by decide) ?_);conv=>whnf)|(apply bD<;>intro _<;>first|omega|conv=>whnf))
   all_goals first
    |exact⟨j+1,u,by omega,Le.of_eq (by rw[z,h,x3o];rfl)⟩
  ·rw[x4b u,<-c];conv=>whnf
   repeat' (first|(refine wI ?_;conv=>whnf)|(apply bD<;>intro _<;>first|omega|conv=>whnf))
   all_goals first
    |exact⟨a+1,v,by omega,Le.of_eq rfl⟩
 ·obtain rfl:a=n:=by omega
  conv=>whnf
  repeat' (apply bD<;>intro _<;>first|omega|conv=>whnf)
  all_goals first
   |exact x6n _ (x4c _) ⟨rfl,rfl⟩
section
variable {P:Program}{T:Tab}{N:Nat}
def Lm{k:Nat}{sl:List (Nat×LV)}(hsl:(sl.all fun x=>x.2.xfree k)=true)(i:Nat):(getS sl i).xfree k=true:=by
 induction sl with
 |nil=>rfl
 | cons x r h=>
   simp only[List.all_cons,x4n]at hsl;obtain⟨j,l⟩:=x;simp only[getS];cases j==i
   .exact h hsl.2
   .exact hsl.1
def Ck{sl:List (Nat×LV)}{H H':Heap}(k:Nat)(hg:getH H k=some (.ext (.mapr e sz l none)))(hpin:ZN k=false)(hsl:(sl.all fun x=>x.2.xfree k)=true)(hH:(H.all fun x=>match x.2 with |.obj _ cs=>LV.xfree.xfreeAll k cs|_=>true)=true)(h':H'=H.map fun x=>bif x.1==k then(k,.ext (Iy (l.map fun y=>(y.1,AV.sl y.2))))else x):Le N ⟨sl,H⟩ ⟨sl,H'⟩:=fun σ β a w B=>by
 have Z:=QP hg;have A:H'.map (·.1)=H.map (·.1):=by
  rw[h',x8t];apply x9s;intro x F;simp only[Function.comp];cases h:x.1==k with
  |true=>simp at h;simp[h]
  |false=>rfl
 have hmem:∀j c,(j,c)∈H'->(j=k/\c=.ext (Iy (l.map fun y=>(y.1,AV.sl y.2))))\/(j≠k/\(j,c)∈H):=fun j c n=>by
  rw[h']at n;obtain⟨x,F,he⟩:=x4y.1 n;cases h:x.1==k with
  | true=>
    rw[h,x4s]at he;cases he;exact .inl ⟨rfl,rfl⟩
  | false=>
    rw[h,x5q]at he;subst he;exact .inr ⟨by simpa using h,F⟩
 obtain⟨i,es,M,hi,hh,hbo,h1,h2,h3,h4,h5⟩:=B.heap.chunks k _ (QG hg);let S:Nat->Prop:=fun b=>∃c,some (b,c)∈i.subs;have hrow:∀(p b c:Nat),i.subs[p]?=some (some (b,c))->∃ws,w.heap[b]?=some (.cells ws e (0,0)):=fun p b c g=>by
  have hlt:p<l.length:=by rw[<-h2];exact(x4u.1 g).1
  obtain⟨e',_,_,_,g4⟩:=h5 p _ (x3e hlt);obtain⟨b',c',ws,q1,_,q3,_⟩:=g4 (by simp);rw[g]at q1;cases q1;exact⟨ws,q3⟩
 have R:∀b,S b->∃ws,w.heap[b]?=some (.cells ws e (0,0)):=fun b ⟨c,h⟩=>by
  obtain⟨p,g⟩:=x7x.1 h;exact hrow p b c g
 have s:∀b,S b->i.has b:=fun b h=>.inr h;let τ:Mem:=fun b=>@ite _ (S b) (Classical.propDecidable _) (match w.heap[b]?with
  |some (.cells c _ _)=>some c
  |_=>none) (σ b)
 have L:∀b c e fr,S b->w.heap[b]?=some (.cells c e fr)->τ b=some c:=fun b c e fr h hh=>by
  show @ite _ (S b) (Classical.propDecidable _) _ _=_;rw[if_pos h,hh]
 have z:∀b,¬S b->τ b=σ b:=fun b h=>by
  show @ite _ (S b) (Classical.propDecidable _) _ _=_;rw[if_neg h]
 have G:σ.le τ:=fun b c h=>by
  rw[z b]
  .exact h
  .intro hib;rw[(B.heap.apart k Z i hi b (s b hib)).1]at h;cases h
 let i':BInfo:=⟨i.blk,i.cap,i.sz,[],i.ok⟩;have q:∀j,j≠k->(β.set k (some i')) j=β j:=fun j n=>by simp[Lab.set,n]
 have C:(β.set k (some i')) k=some i':=by simp[Lab.set]
 have hhas:∀b,i'.has b->b=i.blk:=fun b h=>by
  rcases h with h|⟨c,h⟩
  .exact h.symm
  .cases h
 have hblk:¬S i.blk:=fun⟨c,h⟩=>by
  obtain⟨p,g⟩:=x7x.1 h;exact(h4 p _ c g).1 rfl
 have f:∀j∈H.map (·.1),∀I,(β.set k (some i')) j=some I->∀b,I.has b->(∃i0,β j=some i0/\i0.has b)/\¬S b:=fun j hin I n b h=>by
  by_cases r:j=k
  .subst r;rw[C]at n;cases n;obtain rfl:=hhas b h;exact⟨⟨i,hi,i.has_blk⟩,hblk⟩
  .rw [q j r]at n;exact⟨⟨I,n,h⟩,fun J=>r (B.heap.inj j hin k Z I i n hi b h (s b J))⟩
 have o:∀j∈H'.map (·.1),j∈H.map (·.1):=fun j n=>A▸n;refine⟨τ,β.set k (some i'),⟨B.size,B.defers,fun j=>((B.E j).subs (i':=i') hi ⟨rfl,rfl,rfl⟩ (Lm hsl j)).mono G,⟨fun b c h=>?_,fun j c n=>?_,by rw[A];exact B.heap.nodup,fun j n I Y b h=>?_,fun j n j' hj' i1 i2 g1 Q b hb1 hb2=>?_⟩⟩,
  G,Frm.refl _ _,fun b g0 g1=>?_,fun b ⟨j,n,I,Y,h⟩=>?_,fun j g0 g1=>q j (Ns hpin j g0 g1)⟩
 .by_cases J:S b
  .obtain ⟨ws,hw⟩:=R b J;rw[L b ws e (0,0) J hw]at h;cases h;exact⟨_,_,hw⟩
  .rw [z b J]at h;exact B.heap.mem b c h
 .rcases hmem j c n with⟨rfl,rfl⟩|⟨r,hm⟩
  .refine ⟨i',es,M,C,hh,hbo,by simpa using h1,fun p x g=>?_⟩;rw[x8t,x4q]at g;cases hq:l[p]?with
   |none=>rw[hq]at g;cases g
   | some y=>
     rw[hq]at g;cases g;obtain⟨e',g1,Q,_,g4⟩:=h5 p y hq;obtain⟨b,c,ws,q1,q2,q3,q4,q5,q6,q7⟩:=g4 (by simp);refine⟨e',g1,Q,?_⟩;show Rep τ (.sl y.2) e'.val;rw[q2];refine .sl y.2 b 0 c sz ws (fun m j=>(ws[m*sz+j]?).getD undef) (L b ws _ _ ⟨c,x4p q1⟩ q3) q5 q6 (fun m x F=>(q7 m x F).1) (fun m x j c' F n=>?_) fun m x j c' F n=>?_
     .obtain ⟨u,r4,_⟩:=(q7 m x F).2 j c' n;simp[r4]
     .obtain ⟨u,r4,r5⟩:=(q7 m x F).2 j c' n;simpa[r4]using r5.mono G
  .have F:=x6w.1 hH (j,c) hm;have v:=(B.heap.chunks j c hm).mono (w':=w) G fun _ _ _ _=>rfl;cases c with
   | obj e' cs=>
     obtain⟨i2,vs2,V,hh2,hn2,hc2⟩:=v;refine⟨i2,vs2,(q j r).trans V,hh2,hn2,fun m l hm=>?_⟩;obtain⟨u,g5,g6⟩:=hc2 m l hm;exact⟨u,g5,g6.subs hi ⟨rfl,rfl,rfl⟩ (YT F m l hm)⟩
   | own e' sz' es'=>
     rcases v with⟨g5,g6⟩|⟨i2,vs2,V,rest⟩
     .exact .inl ⟨(q j r).trans g5,g6⟩
     .exact .inr ⟨i2,vs2,(q j r).trans V,rest⟩
   | ext d=>
     show d.holds τ ((β.set k (some i')) j) w;rw[q j r];exact v
 .obtain ⟨⟨i0,g1,Q⟩,g3⟩:=f j (o j n) I Y b h;rw[z b g3];exact B.heap.apart j (o j n) i0 g1 b Q
 .obtain ⟨⟨i3,q1,q2⟩,_⟩:=f j (o j n) i1 g1 b hb1;obtain⟨⟨i4,q3,q4⟩,_⟩:=f j' (o j' hj') i2 Q b hb2;exact B.heap.inj j (o j n) j' (o j' hj') i3 i4 q1 q3 b q2 q4
 .by_cases J:S b
  .exact .inl ⟨k,Z,i,hi,s b J⟩
  .rw [z b J]at g1;exact absurd g0 g1
 .obtain ⟨⟨i0,g1,Q⟩,_⟩:=f j (o j n) I Y b h;exact .inl ⟨j,o j n,i0,g1,Q⟩
theorem OpK.range(hT:TabOK P T){s:St}{o:Oper}{K:St->Prop}{t:TypeId}{x:Operand}(hop:o.op=.range t x){k:Nat}(hx:QD s.sl x=.ext k .map){l:List (List UInt8×AV)}(hg:getH s.H k=some (.ext (Iy l))){i:TyI}{kt et:TypeId}(ht:T.get t=some i)(hd:i.desc=.map kt et)(hpin:ZN k=false)(h:Y8 (LV.kill k) s.sl fun sl=>Xh k 99999 (LV.kill k) (.ext (.iter l none)) s.H fun H=>setD N sl o.dst (.ext k .iter) fun sl=>K ⟨sl,H⟩):OpK P N s o K:=by
 refine⟨fun σ β a w G Q=>?_⟩;obtain⟨sl,h,hsl⟩:=WR (by rfl) h;obtain⟨H2,h,hsub,hmem⟩:=WT h;have hx':=QX G.E x;rw[hx]at hx';generalize hxe:a.eval x=xv at hx';cases hx' with
 |ext _ _ B _ J hd'=>
 obtain rfl:xv=.map (some B.blk):=hd';obtain⟨bi',es,A,hbi',hh,hbo,h1,h2⟩:=G.heap.chunks k _ (QG hg);rw[J]at hbi';cases hbi';have V:=QP hg;have hu:=hT.of ht;rw[hd]at hu;let R:Obj:=.mapIter (some B.blk) A #[] A;let i':BInfo:=⟨w.heap.size,0,0,[some (B.blk,0)],x4j _⟩;have y:∀j,j≠k->(β.set k (some i')) j=β j:=fun j C=>by simp[Lab.set,C]
 have r:(β.set k (some i')) k=some i':=by simp[Lab.set]
 have hlt:=(G.heap.apart k V B J B.blk B.has_blk).2;have I:∀b,b<w.heap.size->(w.alloc R).heap[b]?=w.heap[b]?:=fun b q=>(by first|exact heap_alloc_old w R q|exact heap_alloc_old w R b q);have hsize:(w.alloc R).heap.size=w.heap.size+1:=by
  show(w.heap.push R).size=_;simp
 have L:∀b,i'.has b->b=w.heap.size\/b=B.blk:=fun b q=>by
  rcases q with q|⟨c,q⟩
  ·exact .inl q.symm
  ·have q:some (b,c)∈[some (B.blk,0)]:=q;rw[x4w]at q;cases q;exact .inr rfl
 have g:∀j∈H2.map (·.1),j∈s.H.map (·.1):=fun j C=>hsub.subset C;have M:∀j∈s.H.map (·.1),j≠k->∀F,β j=some F->∀b,F.has b->b<w.heap.size:=fun j C _ F m b q=>(G.heap.apart j C F m b q).2;have hrun:(execOp a.eval o).run P w=.ok (.value (.pointer (some ⟨w.heap.size,0,none⟩))) (w.alloc R):=by
  have hr1:(Instr.range t (.map (some B.blk))).run P w=.ok (.pointer (some ⟨w.heap.size,0,none⟩)) (w.alloc R):=by
   unfold Instr.range;simp only[Sem.run_bind,run_underlying hu,Result.andThen_ok,ZB hh,Sem.run_pure];rfl
  simp only[execOp,hop,hxe,Sem.run_bind,hr1,Result.andThen_ok];rfl
 have hr2:Rel N σ (β.set k (some i')) ⟨sl,H2⟩ a (w.alloc R):=by
  refine⟨G.size,G.defers,fun j=>?_,⟨fun b c q=>?_,fun j c C=>?_,hsub.nodup G.heap.nodup,fun j C F m b q=>?_,fun j C j' hj' i1 i2 g1 g2 b hb1 hb2=>?_⟩⟩
  ·show RepL _ _ (getS sl j) _;rw[hsl];exact((G.E j).kill k).set _ (LV.kill_free k _)
  ·obtain⟨e,fr,h3⟩:=G.heap.mem b c q;exact⟨e,fr,(I b (x4t.1 h3).1).trans h3⟩
  ·obtain⟨_,⟨rfl,rfl⟩|⟨z,c0,hm,rfl⟩⟩:=hmem j c C
   ·have Z:es.filter (fun x=> !(#[]:Array Nat).contains x.born)=es:=Array.filter_eq_self.2 fun x _=>by simp
    refine⟨i',B.blk,es,A,A,#[],r,rfl,heap_alloc_new w R,(I _ hlt).trans hh,hbo.1,hbo.2,x4m _,by rw[Z];simpa using h1,fun p x hp=>?_,fun x hx=>by cases hx⟩;rw[Z];obtain⟨e,q1,q2,q3⟩:=h2 p (JQ x.1,x.2) (by rw[x4q,hp];rfl);exact⟨e,q1,q2,q3⟩
   ·have hjl:j∈s.H.map (·.1):=x4y.2 ⟨_,hm,rfl⟩;exact(G.heap.chunks j c0 hm).mapL (f:=LV.kill k) (Mem.le_refl σ) (fun l v hl=>(hl.kill k).set _ (LV.kill_free k _)) (y j z) fun F m b q=>I b (M j hjl z F m b q)
  ·rw [hsize];by_cases z:j=k
   ·subst z;rw[r]at m;cases m;rcases L b q with rfl|rfl
    ·refine⟨?_,by omega⟩;cases hq:σ w.heap.size with
     |none=>rfl
     | some c=>
       obtain⟨e,fr,h3⟩:=G.heap.mem _ c hq;have:=(x4t.1 h3).1;omega
    ·have:=G.heap.apart _ V B J B.blk B.has_blk;exact⟨this.1,by omega⟩
   ·rw[y j z]at m;have:=G.heap.apart j (g j C) F m b q;exact⟨this.1,by omega⟩
  ·have key:∀j∈s.H.map (·.1),j≠k->∀F,β j=some F->∀b,F.has b->i'.has b->False:=fun j C z F m b q hb'=>by
    rcases L b hb' with rfl|rfl
    ·have:=M j C z F m _ q;omega
    ·exact z (G.heap.inj j C k V F B m J _ q B.has_blk)
   by_cases e1:j=k<;>by_cases e2:j'=k
   ·rw[e1,e2]
   ·subst e1;rw[r]at g1;cases g1;rw[y j' e2]at g2;exact(key j' (g j' hj') e2 i2 g2 b hb2 hb1).elim
   ·subst e2;rw[r]at g2;cases g2;rw[y j e1]at g1;exact(key j (g j C) e1 i1 g1 b hb1 hb2).elim
   ·rw[y j e1]at g1;rw[y j' e2]at g2;exact G.heap.inj j (g j C) j' (g j' hj') i1 i2 g1 g2 b hb1 hb2
 have Y:Later σ β s.H w σ (β.set k (some i')) H2 (w.alloc R):=by
  refine⟨Mem.le_refl σ,⟨rfl,rfl,rfl,x4m _,by omega,fun b q _=>I b q⟩,fun b g0 g1=>absurd g0 g1,fun b ⟨j,C,F,m,q⟩=>?_,fun j g0 g1=>y j (Ns hpin j g0 g1)⟩;by_cases z:j=k
  ·subst z;rw[r]at m;cases m;rcases L b q with rfl|rfl
   ·exact .inr (x4m _)
   ·exact .inl ⟨_,V,B,J,B.has_blk⟩
  ·rw[y j z]at m;exact .inl ⟨j,g j C,F,m,q⟩
 obtain⟨sl',hK,hr''⟩:=hr2.setD (v:=.ext k .iter) (u:=.pointer (some ⟨w.heap.size,0,none⟩)) (.ext k .iter i' _ r rfl) h;exact XT hrun ⟨σ,_,_,hK,hr'',Y⟩
theorem Zg:∀(L:List MapEntry)(j:Nat)(h:j<L.length),(L.map (·.born)).Nodup->L.filter (fun x=>decide (x.born≠L[j].born))=L.eraseIdx j
 | x::r,0,_,hn=>by
   rw[x4o,x6q]at hn;rw[x7b (by simp)];show r.filter _=r;rw[List.filter_eq_self];intro y n;have:y.born≠x.born:=fun i=>hn.1 (i▸x7g n);simpa using this
 | x::r,j+1,h,hn=>by
   rw[x4o,x6q]at hn;have m:j<r.length:=by simpa using h
   have k:x.born≠r[j].born:=fun i=>hn.1 (i▸x7g (x4h m));rw[x7y (by simpa using k)];show x::r.filter _=x::r.eraseIdx j;congr 1;exact Zg r j m hn.2
def Ac(es:Array MapEntry)(seen:Array Nat)(b:Nat):(es.filter fun x=> !(seen.push b).contains x.born).toList=(es.filter fun x=> !seen.contains x.born).toList.filter fun x=>decide (x.born≠b):=by
 rw[z0c,z0c,List.filter_filter];apply z0y;intro x _;simp only[Array.contains_push,Bool.not_or];rw[Bool.and_comm];congr 1;by_cases h:x.born=b<;>simp[h]
theorem OpK.next{s:St}{o:Oper}{x:Operand}(hop:o.op=.next x false){k:Nat}(hx:QD s.sl x=.ext k .iter){l:List (List UInt8×AV)}{cur:Option (List UInt8×AV)}(hg:getH s.H k=some (.ext (.iter l cur)))(hlen:∀y∈l,y.1.length<=maxLen)(h0:l=[]->setD N s.sl o.dst (.p (.tup [.ff])) fun sl=>K ⟨sl,s.H⟩)(h1:∀(j:Nat)(R:j<l.length),Wv s.H k (.ext (.iter (l.eraseIdx j) (some l[j]))) fun H=>setD N s.sl o.dst (.p (.tup [.tt,.str l[j].1,l[j].2])) fun sl=>K ⟨sl,H⟩):OpK P N s o K:=by
 refine⟨fun σ β a w C Q=>?_⟩;have hx':=QX C.E x;rw[hx]at hx';generalize hxe:a.eval x=xv at hx';cases hx' with
 |ext _ _ I _ L hd'=>
 obtain rfl:xv=.pointer (some ⟨I.blk,0,none⟩):=hd';obtain⟨bi',m,es,q,z,seen,hbi',hsub,hh,hm,hnd,M,hsc,hsz,hent,hcur⟩:=C.heap.chunks k _ (QG hg);rw[L]at hbi';cases hbi';have hk1:=QP hg;have hne:I.blk≠m:=fun J=>by rw[<-J,hh]at hm;cases hm
 rcases run_next_at (P:=P) w o.type I.blk m z q seen es q hh hm M hsc with⟨hz,Z⟩|⟨e,J,w1,hw1,Z⟩
 .have hl0:l=[]:=x6k (by rw[<-hsz];exact hz);have A:(execOp a.eval o).run P w=.ok (.value (.tuple #[.bool false])) w:=by
   simp only[execOp,hop,hxe,Sem.run_bind,Z,Result.andThen_ok];rfl
  obtain⟨sl,hK,hr'⟩:=C.setD (v:=.p (.tup [.ff])) (u:=.tuple #[.bool false]) (.p (.tup [.ff] #[.bool false] (fun _=>.bool false) rfl (fun j c R=>by
   match j,R with
   |0,R=>rfl
   |j+1,R=>simp at R) fun j c R=>by
   match j,R with
   |0,R=>cases R;exact .ff
   |j+1,R=>simp at R)) (h0 hl0)
  exact XT A ⟨σ,β,_,hK,hr',Later.refl _ _ _ _⟩
 .have hleft:leftOf es seen=es.filter fun x=> !seen.contains x.born:=rfl;rw[hleft]at J;obtain⟨j,V,hje⟩:=x6u.1 J;have hjl:j<l.length:=by rw[<-hsz,<-x6g];exact V
  obtain⟨e2,q1,q2,q3⟩:=hent j _ (x3e hjl);have he2:e2=e:=by
   have q1':(es.filter fun x=> !seen.contains x.born).toList[j]?=some e2:=by rw[x7f];exact q1
   rw[x3e V,hje]at q1';exact(x8z q1').symm
  subst he2;have hmemes:e2∈es.toList:=by
   rw[z0c]at J;exact(x5h.1 J).1
  have h:=h1 j hjl;obtain⟨H',h,g3,g4,g5⟩:=VO C.heap.nodup h;have hw1h:w1.heap=w.heap:=by rcases hw1 with rfl|rfl<;>rfl
  let w':World:=ChangeMaps.setBlock w1 I.blk (.mapIter (some m) z (seen.push e2.born) q);have F:w'.heap=w.heap.setIfInBounds I.blk (.mapIter (some m) z (seen.push e2.born) q):=by
   show w1.heap.setIfInBounds _ _=_;rw[hw1h]
  have hot:∀b,b≠I.blk->w'.heap[b]?=w.heap[b]?:=fun b hb=>by rw[F];exact x7n (x7d hb)
  have hlt:=(C.heap.apart k hk1 I L I.blk I.has_blk).2;have A:(execOp a.eval o).run P w=.ok (.value (.tuple #[.bool true,e2.key,e2.val])) w':=by
   simp only[execOp,hop,hxe,Sem.run_bind,Z,Result.andThen_ok];rfl
  have hborns:((es.filter fun x=> !seen.contains x.born).toList.map (·.born)).Nodup:=by
   rw[z0c];exact(List.filter_sublist.map _).nodup hnd
  have B:(es.filter fun x=> !(seen.push e2.born).contains x.born).toList=(es.filter fun x=> !seen.contains x.born).toList.eraseIdx j:=by
   rw[Ac];have:=Zg _ j V hborns;rw[hje]at this;exact this
  have hheap:HRel σ β H' w':=by
   refine⟨fun b c hb=>?_,fun j' c f=>?_,by rw[g3];exact C.heap.nodup,fun j' f i' hi' b hb=>?_,fun j' f j'' hj''=>C.heap.inj j' (g3▸f) j'' (g3▸hj'')⟩
   .obtain ⟨e',fr,h6⟩:=C.heap.mem b c hb;exact⟨e',fr,(hot b fun J=>by rw[J,hh]at h6;cases h6).trans h6⟩
   .by_cases hjk:j'=k
    .subst hjk;rw[g5 c f];refine⟨I,m,es,q,z,seen.push e2.born,L,hsub,by rw[F];simp[hlt],(hot m (x7d hne)).trans hm,hnd,M,hsc,?_,fun p y hp=>?_,fun y hy=>?_⟩
     .rw [<-x6g,B,List.length_eraseIdx,List.length_eraseIdx,x6g,hsz]
     .have G:(l.eraseIdx j)[p]?=some y:=hp;rw[List.getElem?_eraseIdx]at G;have key:∀p',l[p']?=some y->∃e:MapEntry,(es.filter fun x=> !seen.contains x.born).toList[p']?=some e/\e.key=.string ⟨y.1.toArray⟩/\Rep σ y.2 e.val:=fun p' G=>by
       obtain⟨e,r1,r2,r3⟩:=hent p' y G;exact⟨e,by rw[x7f];exact r1,r2,r3⟩
      have hget:(es.filter fun x=> !(seen.push e2.born).contains x.born)[p]?=((es.filter fun x=> !seen.contains x.born).toList.eraseIdx j)[p]?:=by
       rw[<-B,x7f]
      rw[hget,List.getElem?_eraseIdx];split at G
      .rename_i Y;rw[if_pos Y];exact key p G
      .rename_i Y;rw[if_neg Y];exact key (p+1) G
     .cases hy;exact⟨e2,hmemes,seen,rfl,q2,q3⟩
    .have hm':=g4 j' c f hjk;exact(C.heap.chunks j' c hm').mono (Mem.le_refl σ) fun i' hi' b hb=>hot b fun J=>hjk (C.heap.inj j' (x4y.2 ⟨_,hm',rfl⟩) k hk1 i' I hi' L b hb (.inl J.symm))
   .have hsz':w'.heap.size=w.heap.size:=by rw[F];simp
    rw[hsz'];exact C.heap.apart j' (g3▸f) i' hi' b hb
  have hkl:l[j].1.length<=maxLen:=hlen _ (x4h hjl);have hr1:Rel N σ β ⟨s.sl,H'⟩ a w':=⟨C.size,C.defers,C.E,hheap⟩;obtain⟨sl,hK,hr'⟩:=hr1.setD (v:=.p (.tup [.tt,.str l[j].1,l[j].2])) (u:=.tuple #[.bool true,e2.key,e2.val]) (.p (.tup [.tt,.str l[j].1,l[j].2] #[.bool true,e2.key,e2.val] (fun i=>(#[.bool true,e2.key,e2.val]:Array Value).getD i undef) rfl (fun i c g=>by
   match i,g with
   |0,g=>rfl
   |1,g=>rfl
   |2,g=>rfl
   |i+3,g=>simp at g) fun i c g=>by
   match i,g with
   |0,g=>cases g;exact .tt
   |1,g=>cases g;show Rep σ _ e2.key;rw[q2];exact .str _ hkl
   |2,g=>cases g;exact q3
   |i+3,g=>simp at g)) h
  refine XT A ⟨σ,β,_,hK,hr',Mem.le_refl σ,⟨?_,?_,?_,?_,by rw[F];simp,fun b _ hn=>hot b fun J=>hn ⟨k,hk1,I,L,.inl J.symm⟩⟩,fun b g0 g1=>absurd g0 g1,fun b ⟨j',f,r⟩=>.inl ⟨j',g3▸f,r⟩,fun _ _ _=>rfl⟩
  .rcases hw1 with rfl|rfl<;>rfl
  .rcases hw1 with rfl|rfl<;>rfl
  .rcases hw1 with rfl|rfl<;>rfl
  .rcases hw1 with rfl|rfl
   .exact x4m _
   .exact Nat.le_succ _
theorem OpK.entry{s:St}{o:Oper}{x:Operand}(J:o.op=.entry x){k:Nat}(hx:QD s.sl x=.ext k .iter){l:List (List UInt8×AV)}{y:List UInt8×AV}(hg:getH s.H k=some (.ext (.iter l (some y))))(B:y.1.length<=maxLen)(h:setD N s.sl o.dst (.p (.tup [.str y.1,y.2])) fun sl=>K ⟨sl,s.H⟩):OpK P N s o K:=by
 refine⟨fun σ β a w L Q=>?_⟩;have b:=QX L.E x;rw[hx]at b;generalize R:a.eval x=xv at b;cases b with
 |ext _ _ V _ F I=>
 obtain rfl:xv=.pointer (some ⟨V.blk,0,none⟩):=I;obtain⟨bi',m,es,r,g,seen,q,Z,hh,hm,hnd,G,hsc,hsz,Y,A⟩:=L.heap.chunks k _ (QG hg);rw[F]at q;cases q;obtain⟨e,he,f,rfl,q2,q3⟩:=A y rfl;have C:=run_entry_at (P:=P) w V.blk m g f es r e hh hm he hnd;have z:(execOp a.eval o).run P w=.ok (.value (.tuple #[e.key,e.val])) w:=by
  simp only[execOp,J,R,Sem.run_bind,C,Result.andThen_ok];rfl
 obtain⟨sl,hK,M⟩:=L.setD (v:=.p (.tup [.str y.1,y.2])) (u:=.tuple #[e.key,e.val]) (.p (.tup [.str y.1,y.2] #[e.key,e.val] (fun i=>(#[e.key,e.val]:Array Value).getD i undef) rfl (fun i c j=>by
  match i,j with
  |0,j=>rfl
  |1,j=>rfl
  |i+2,j=>simp at j) fun i c j=>by
  match i,j with
  |0,j=>cases j;show Rep σ _ e.key;rw[q2];exact .str _ B
  |1,j=>cases j;exact q3
  |i+2,j=>simp at j)) h
 exact XT z ⟨σ,β,_,hK,M,Later.refl _ _ _ _⟩
end
end Go.Ab
