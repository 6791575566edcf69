/- The reference's names of an expression. -/
import Derived.Test.YtgljdhjopolmcaaGreatRcA17
set_option linter.all false
set_option maxRecDepth 100000
set_option maxHeartbeats 16000000
namespace Go.Ab
open Go.Proofs.Tryz
open Go.Proofs
variable {p:Pg}
def spo(out:List Str)(s:Str):List Str:=if(out.any fun y=>s==y)=false then out++[s]else out
def q4u(x:X)(out:List Str):B3 x out=BY x.kids (if x.op=2 then spo out x.name else out):=by
 rw[Ma];unfold spo;by_cases h:x.op=2
 .rw [if_pos h];by_cases i:(out.any fun y=>x.name==y)=false
  .rw [if_pos ⟨h,i⟩,if_pos i]
  .rw [if_neg (fun j=>i j.2),if_neg i]
 .rw [if_neg h,if_neg (fun j=>h j.1)]
def Zp(out:List Str)(s:Str)(q:out.length<=1073741824):aH 307 [.hd 2000 0 out.length,.p (.str s)] (Lv 9 out) (.hd 2000 0 (spo out s).length) (Lv 9 (spo out s)):=by
 refine sK MZ func307 ?_;conv=>whnf
 repeat' ((refine iM fun _=>?_)<;>conv=>whnf)
 have o:(out.map AV.str).length=out.length:=z0s _;refine lI (fun j:Nat=>⟨[(0,.hd 2000 0 out.length),(1,.p (.str s)),(7,.hd 2000 0 out.length),(8,.j out.length),(9,.j j)],Lv 9 out⟩) (fun j=>j<=out.length/\(out.drop j).any (fun y=>s==y)=out.any fun y=>s==y) (fun j=>out.length-j) 0 ⟨z1q _,rfl⟩ ?_;rintro j ⟨n,i⟩;rcases z1w j out.length with h|h
 .have g:(out.map AV.str)[j]?=some (.str out[j]):=by simp[h]
  conv=>whnf
  repeat' ((first|refine gX ?_|refine iO j ?_|refine lO g ?_|((first|apply bD|apply bB)<;>intro _<;>try omega))<;>conv=>whnf)
  .have k:(s==out[j])=true:=by rw[Bool.beq_comm];assumption
   have e:=Z0 (p:=fun y=>s==y) h k;rw[i]at e;have m:spo out s=out:=by unfold spo;rw[if_neg (by rw[e];decide)]
   exact⟨_,.refl _,by rw[m];exact⟨rfl,rfl⟩⟩
  .have k:(s==out[j])=false:=by rw[Bool.beq_comm];assumption
   exact nX (j+1) ⟨by omega,by rw[<-i,X9 (p:=fun y=>s==y) h k]⟩
 .have e:=DZ (p:=fun y=>s==y) (l:=out) h;rw[i]at e;have m:spo out s=out++[s]:=by unfold spo;rw[if_pos e]
  rw[m];conv=>whnf
  repeat' ((first|refine gX ?_|refine pS ?_|(apply bD<;>intro _<;>try omega))<;>conv=>whnf)
  exact⟨_,.refl _,by simp only[Lv,z0e,z1v];exact⟨rfl,rfl⟩⟩
def J9:∀(n:Nat)(_:n<=20)(x:X)(_:UD n x=true)(out:List Str)(_:out.length+2^n<=1073741824),
  aH 278 [.p (.agg x.cells),.hd 2000 0 out.length] (Lv 9 out) (.hd 2000 0 (B3 x out).length) (Lv 9 (B3 x out)):=by
 intro n;induction n with
 |zero=>intro _ x h;rw[UD]at h;cases h
 | succ n g=>
   intro B x d out C;have D:2^(n+1)=2*2^n:=by rw[Nat.pow_succ];omega
   have w:0<2^n:=Nat.pow_pos (by decide);obtain⟨t,u,o⟩:=Y5 d;have e:=X.avs_len x.kids;have q:∀j,j<x.kids.length->(x.kids.length-j)*2^n=(x.kids.length-(j+1))*2^n+2^n:=fun j m=>by
    rw[show x.kids.length-j=(x.kids.length-(j+1))+1 by omega,z3d,z8p]
   have v:x.kids.length*2^n<=2*2^n:=z2c _ t;have y:(spo out x.name).length<=out.length+1:=by unfold spo;split<;>simp
   have s:=q4u x out;have f:x.op=2->x.kids.length*2^n=0:=fun h=>by rw[u h,Nat.zero_mul]
   rw[s];have c:=Zp out x.name (by omega);have k:(if x.op=2 then spo out x.name else out).length+x.kids.length*2^n<=1073741824:=by
    split
    .rename_i h;have:=f h;omega
    .omega
   clear s;refine sK Xc func278 ?_;conv=>whnf
   generalize spo out x.name=o2 at*
   repeat' ((first|(refine iM fun _=>?_)|(apply bD<;>intro _<;>try omega)|(refine cH rH2 0 c ?_))<;>conv=>whnf)
   all_goals
    first
    |rw[if_pos (by assumption)]at k⊢
    |rw[if_neg (by assumption)]at k⊢
   rotate_left 1;generalize out=o2 at*
   all_goals
    refine lI (fun i:Nat×List Str=>⟨[(1,.hd 2000 0 i.2.length),(2,.p (.ip x.cells)),(15,.p (.int .i64 (X.avs x.kids).length)),(16,.j i.1)],Lv 9 i.2⟩) (fun i=>i.1<=x.kids.length/\BY (x.kids.drop i.1) i.2=BY x.kids o2/\i.2.length+(x.kids.length-i.1)*2^n<=1073741824) (fun i=>x.kids.length-i.1) (0,o2) ⟨z1q _,rfl,by simpa using k⟩ ?_;rintro⟨j,l⟩ ⟨z,r,a⟩;simp only at z r a⊢;rcases z1w j x.kids.length with m|m
    .have A:=q j m;have s:=SP n x.kids[j] l (o _ (z1h m));have b:=g (by omega) x.kids[j] (o _ (z1h m)) l (by omega);conv=>whnf
     repeat' ((first|(refine gX ?_;intros)|(apply bD<;>intro _<;>try omega)|(refine cH rH2 0 b ?_))<;>conv=>whnf)
     all_goals exact nX (j+1,B3 x.kids[j] l) ⟨by simp only;omega,by simp only;rw[<-r,Pp m],by simp only;omega⟩
    .rw [Th (by omega)]at r;conv=>whnf
     repeat' (apply bD<;>intro _<;>first|omega|conv=>whnf)
     exact⟨_,.refl _,by rw[r];exact⟨rfl,rfl⟩⟩
def PO(x:X):aP 227 [.agg x.cells] (.bool (EU x)):=by
 refine sC JB func227 ?_;conv=>whnf
 repeat' ((first|refine cP (BR 20 (by omega) x) ?_ (ha:=.cons (Sub.refl _) (.cons (Sub.refl _) .nil))|refine cP (BT (wX x+1) x (by omega)) ?_ (ha:=.cons (Sub.refl _) .nil)|(apply bD<;>intro _<;>try omega))<;>conv=>whnf)
 all_goals rw[<-SO]
 all_goals first
  |exact RetK.bool (by unfold mayXR;rw[z2t (by omega)];rfl)
  |exact RetK.ff (by unfold mayXR;rw[z2r (by omega)];rfl)
def N5(x:X):SpecH prog 223 ([AV.agg x.cells].map .p) [] (OneRow (Kh (QC x)) (QC x=[])):=by
 refine sK Qd func223 ?_;conv=>whnf
 have h:=PO x;cases i:EU x with
 | false=>
   have e:QC x=[]:=by unfold QC;rw[i];rfl
   rw[i]at h;rw[e];repeat' ((first|refine cP h ?_|(apply bN<;>intro _))<;>conv=>whnf)
   all_goals first
    |exact z4g _ (z2x _) (.inl ⟨rfl,rfl,rfl⟩)
    |(exfalso;simp_all;done)
 | true=>
   have e:QC x=B3 x []:=by unfold QC;rw[i];rfl
   rw[i]at h;rw[e];repeat' ((first|refine cP h ?_|(apply bN<;>intro _))<;>conv=>whnf)
   all_goals first
    |(exfalso;simp_all;done)
    | (refine CallK.nil 5 9 1 rfl (.cons rfl (.row .nil)) ?_
       refine cJ [(2000,5)] 0 (J9 20 (by omega) x (by assumption) [] (by simp)) ?_;rintro l' H' ⟨rfl,rfl⟩;conv=>whnf
       exact z4g _ (z2x _) (UI rfl))
def JJ(x:X):aP 223 [.agg x.cells] (eStrs (QC x)):=(N5 x).toP (fun h=>by rw[h];rfl) fun _ _ _ _ h=>h.2.2
def Dx{s:S}(h:oneOk s=true->False):oneOk s=false:=by
 cases i:oneOk s with
 |false=>rfl
 |true=>exact(h i).elim
def Zb(s:S):aP 169 [.agg s.cells] (.bool (oneOk s)):=by
 refine sC Wz func169 ?_;conv=>whnf
 have n:(s.args.map fun a=>AV.agg a.cells).length=s.args.length:=z0s _;have r:((S.avs s.L).length:Int)=s.L.length:=by rw[S.avs_len]
 have o:((S.avs s.M).length:Int)=s.M.length:=by rw[S.avs_len]
 repeat' ((first|(refine iM fun _=>?_)|refine cP (ZJ _) ?_|refine cP (JK _) ?_|refine cP (BS _) ?_|refine cP (GD _) ?_|refine FV ZI rfl rfl rfl rfl rfl ?_|((first|apply bD|apply bE|apply bN|apply bB)<;>intro _<;>try omega))<;>conv=>whnf)
 all_goals simp only[show(ByteArray.mk #[]).data.toList=[]from rfl]at*
 all_goals first
  | (refine RetK.ff (Dx fun h=>?_)
     obtain⟨f1,f2,f3,f4,f5,f6,f7,f8,f9,f10,f11,f12,f13,f14⟩:=KP h;first
      |omega
      |(exfalso;simp_all[hasXB];done)
      |(exfalso;simp_all[hasXB];omega)
      | (rename_i b
         by_cases v:s.kind=4
         .have k:=Yv (f9 v);simp_all
          done
         .have k:=f10 v;simp_all
          done))
  |skip
 all_goals
  have G:s.args.all argR=true->(s.L.length=0\/s.kind=5\/s.kind=6)->(s.M.length=0\/s.kind=5)->oneOk s=true:=fun g1 t u=>by
   refine q5c ⟨by assumption,by omega,by omega,fun q=>?_,fun q=>?_,fun q=>?_,fun q=>?_,fun q=>?_,fun q=>?_,fun q=>?_,g1,fun q=>?_,t,u⟩;all_goals clear n r o g1 t u
   all_goals first
    |omega
    |assumption
    |(simp_all[hasXB];done)
    |(simp_all[hasXB];omega)
    | (have m:(s.kind==4) = !(s.D==[]):=by assumption
       have y:(s.kind==4)=false:=z6p.2 (by assumption);rw[y]at m
       revert m
       cases(s.D==[])<;>simp
       done)
  refine lI (fun j:Nat=>⟨[(1,.p (.ip s.cells)),(143,.p (.sl (s.args.map fun a=>.agg a.cells))),(144,.p (.int .i64 (s.args.map fun a=>AV.agg a.cells).length)),(145,.j j)],[]⟩) (fun j=>j<=s.args.length/\(s.args.drop j).all argR=s.args.all argR) (fun j=>s.args.length-j) 0 ⟨z1q _,rfl⟩ ?_;rintro j ⟨z,l⟩;rcases z1w j s.args.length with i|i
  .conv=>whnf
   repeat' ((first|refine cP (Kb _) ?_|(refine gX ?_;intros)|((first|apply bD|apply bN)<;>intro _<;>try omega))<;>conv=>whnf)
   all_goals first
    |exact nX (j+1) ⟨i,by rw[DX i (by assumption)];exact l⟩
    | (refine RetK.ff (Dx fun h=>?_)
       have m:=z3x.1 (KP h).args _ (z1h i);simp_all)
  .rw [DQ i]at l;have G:=G l.symm;conv=>whnf
   repeat' ((first|(refine iM fun _=>?_)|(apply bD<;>intro _<;>try omega))<;>conv=>whnf)
   all_goals first
    |exact RetK.tt (G (by omega) (by omega))
    | (refine RetK.ff (Dx fun h=>?_)
       have w:=(KP h).L;have x:=(KP h).M;omega)
    | (refine RetK.bool ?_
       first
        |rw[z4z,z4n]
        |rw[z4z,z2z]
       exact⟨fun q=>G (by omega) (by omega),fun h=>by have w:=(KP h).L;have x:=(KP h).M;omega⟩)
def LX(h:UG p=true->False):UG p=false:=by
 cases i:UG p with
 |false=>rfl
 |true=>exact(h i).elim
def HS(p:Pg):aP 101 [.agg p.cells] (.bool (UG p)):=by
 refine sC W8 func101 ?_;conv=>whnf
 have H:(p.C.map AV.str).length=p.C.length:=z0s _;have J:(p.A.map fun f=>AV.agg f.cells).length=p.A.length:=z0s _;repeat' ((first|(refine iM fun _=>?_)|refine cP (JK _) ?_|((first|apply bD|apply bN)<;>intro _<;>try omega))<;>conv=>whnf)
 all_goals first
  | (refine RetK.ff (LX fun h=>?_)
     have F:=KD h;have w:=F.gl;have y:=F.pl;have z:=F.gn;first
      |omega
      |(simp_all;done))
  |skip
 have d:p.C.length<=16:=by omega
 have e:p.A.length<=16:=by omega
 have D:namesB p.C=true:=by assumption
 refine lI (fun j:Nat=>⟨[(1,.p (.ip p.cells)),(26,.p (.sl (p.A.map fun f=>.agg f.cells))),(27,.p (.int .i64 (p.A.map fun f=>AV.agg f.cells).length)),(28,.j j)],[]⟩) (fun j=>j<=p.A.length/\∀m (o:m<p.A.length),m<j->DG p.A[m]=true) (fun j=>p.A.length-j) 0 ⟨z1q _,fun m o h=>absurd h (z8g _)⟩ ?_;rintro j ⟨Q,b⟩;rcases z1w j p.A.length with r|r
 .have K:(p.A[j].B.map fun a=>AV.agg a.cells).length=p.A[j].B.length:=z0s _;have M:(p.A[j].R.map AV.str).length=p.A[j].R.length:=z0s _;conv=>whnf
  repeat' ((first|(refine gX ?_;intros)|refine cP (JK _) ?_|refine cP (ZJ _) ?_|((first|apply bD|apply bN)<;>intro _<;>try omega))<;>conv=>whnf)
  all_goals first
   | (refine RetK.ff (LX fun h=>?_)
      obtain⟨w,y,z,N,O,P⟩:=(KD h).pr _ (z1h r);first
       |omega
       |(simp_all;done))
   |skip
  have t:(p.A[j].B.all fun a=>isName a.name)=true->DG p.A[j]=true:=fun g=>HD.2 ⟨by omega,by omega,by assumption,by assumption,by assumption,g⟩;refine lI (fun k:Nat=>⟨[(1,.p (.ip p.cells)),(26,.p (.sl (p.A.map fun f=>.agg f.cells))),(27,.p (.int .i64 (p.A.map fun f=>AV.agg f.cells).length)),(28,.j j),(61,.p (.sl (p.A[j].B.map fun a=>.agg a.cells))),(62,.p (.int .i64 (p.A[j].B.map fun a=>AV.agg a.cells).length)),(63,.j k)],[]⟩) (fun k=>k<=p.A[j].B.length/\(p.A[j].B.drop k).all (fun a=>isName a.name)=p.A[j].B.all fun a=>isName a.name) (fun k=>p.A[j].B.length-k) 0 ⟨z1q _,rfl⟩ ?_;rintro k ⟨E,v⟩;rcases z1w k p.A[j].B.length with l|l
  .conv=>whnf
   repeat' ((first|refine cP (ZJ _) ?_|(refine gX ?_;intros)|((first|apply bD|apply bN)<;>intro _<;>try omega))<;>conv=>whnf)
   .exact nX (k+1) ⟨l,by rw[<-v,DX (p:=fun a:Param=>isName a.name) l (by assumption)]⟩
   .refine RetK.ff (LX fun h=>?_);have n:=z3x.1 ((KD h).pr _ (z1h r)).2.2.2.2.2 _ (z1h l);simp_all
  .rw [DQ l]at v;have u:=t v.symm;conv=>whnf
   repeat' ((first|refine wI ?_|(apply bD<;>intro _<;>try omega))<;>conv=>whnf)
   refine nX (j+1) ⟨r,fun m o I=>?_⟩;rcases z1w m j with n|n
   .exact b m o n
   .obtain rfl:m=j:=by omega
    exact u
 .have t : ∀f∈p.A,DG f=true:=fun f G=>by
   obtain⟨m,o,rfl⟩:=z2e.1 G;exact b m o (by omega)
  conv=>whnf
  have L:=WU (allR p);repeat' ((first|(refine iM fun _=>?_)|refine cP (GU _) ?_|(apply bD<;>intro _<;>try omega))<;>conv=>whnf)
  .refine RetK.ff (LX fun h=>?_);have:=(KD h).len;omega
  have u:(allR p).length<=200:=by omega
  refine lI (fun k:Nat=>⟨[(7,.p (VY (allR p))),(79,.p (.int .i64 ((allR p).map fun i=>AV.agg i.cells).length)),(80,.j k)],[]⟩) (fun k=>k<=(allR p).length/\∀(m:Nat)(x:RI),m<k->(allR p)[m]?=some x->x.s.id=(m:Int)+1/\x.deep<=12/\oneOk x.s=true) (fun k=>(allR p).length-k) 0 ⟨z1q _,fun m x h=>absurd h (z8g _)⟩ ?_;rintro k ⟨E,c⟩;rcases z1w k (allR p).length with l|l
  .conv=>whnf
   have F:=fun h:UG p=true=>(KD h).its k _ (z0c l);repeat' ((first|(refine gX ?_;intros)|refine cP (Zb (allR p)[k].s) ?_|((first|apply bD|apply bE|apply bN)<;>intro _<;>try omega))<;>conv=>whnf)
   all_goals first
    | (refine nX (k+1) ⟨l,fun m x o q=>?_⟩
       rcases z1w m k with n|n
       .exact c m x n q
       .obtain rfl:m=k:=by omega
        rw[z0c l]at q;obtain rfl:=z3q q;exact⟨by omega,by omega,by assumption⟩)
    | (refine RetK.ff (LX fun h=>?_)
       obtain⟨w,y,z⟩:=F h;first
        |omega
        | (simp_all
           done))
  .conv=>whnf
   repeat' (apply bD<;>intro _<;>first|omega|conv=>whnf)
   exact RetK.tt (x4f d e D t u fun m x q=>c m x (by have:=(z1k.1 q).1;omega) q)
def Yn(p:Pg)(n:Str):Pr×Bool:=bif UG p then JF p n else(Pr0,false)
def UK(p:Pg)(n:Str):aP 45 [.agg p.cells,.str n] (.tup [.agg (Yn p n).1.cells,.bool (Yn p n).2]):=by
 refine sC Xa func45 ?_;conv=>whnf
 have m:(p.A.map fun f=>AV.agg f.cells).length=p.A.length:=z0s _;repeat' ((first|(refine gX ?_;intros)|refine cP (HS _) ?_|(apply bB<;>intro _))<;>conv=>whnf)
 .have k:Yn p n=JF p n:=by unfold Yn;rw[show UG p=true by assumption];rfl
  rw[k];refine lI (fun j:Nat=>⟨[(1,.p (.str n)),(4,.ptr 1 0),(11,.p (.sl (p.A.map fun f=>.agg f.cells))),(12,.p (.int .i64 (p.A.map fun f=>AV.agg f.cells).length)),(13,.j j)],[(1,.obj 62 [.p (.str []),.p .nils,.p .nils,.p .nils,.p .nils])]⟩) (fun j=>j<=p.A.length/\(p.A.drop j).find? (fun f=>f.name==n)=p.A.find? fun f=>f.name==n) (fun j=>p.A.length-j) 0 ⟨z1q _,rfl⟩ ?_;rintro j ⟨o,h⟩;rcases z1w j p.A.length with i|i
  .rw [QP i,z6k]at h;conv=>whnf
   repeat' ((first|(refine gX ?_;intros)|((first|apply bD|apply bB)<;>intro _<;>try omega))<;>conv=>whnf)
   .have l:(p.A[j].name==n)=true:=by assumption
    rw[l]at h;exact⟨_,.p (Sub.tup (SubL.cons (Sub.refl _) (SubL.cons (Sub.tt rfl) SubL.nil))),by unfold JF;rw[<-h];first|done|rfl⟩
   .have l:(p.A[j].name==n)=false:=by assumption
    rw[l]at h;exact nX (j+1) ⟨i,h⟩
  .rw [z1b i,List.find?_nil]at h;conv=>whnf
   repeat' ((first|refine z1s rfl ?_|(apply bD<;>intro _<;>try omega))<;>conv=>whnf)
   exact⟨_,.p (Sub.tup (SubL.cons Cb (SubL.cons (Sub.ff rfl) SubL.nil))),by unfold JF;rw[<-h];first|done|rfl⟩
 .have k:Yn p n=(Pr0,false):=by unfold Yn;rw[show UG p=false by assumption];rfl
  rw[k];exact⟨_,.p (Sub.tup (SubL.cons Cb (SubL.cons (Sub.ff rfl) SubL.nil))),rfl⟩
def Cr{l:List Str}(h:¬l.Nodup):XS l=true:=by
 cases i:XS l with
 |true=>rfl
 |false=>exact absurd (WC.1 i) h
def ZA(l:List Str):aP 233 [eStrs l] (.bool (XS l)):=by
 refine sC Qe func233 ?_;conv=>whnf
 refine iM fun _=>?_;have x:(l.map AV.str).length=l.length:=z0s _;conv=>whnf
 refine lI (fun j:Nat=>⟨[(0,.p (eStrs l)),(6,.p (.int .i64 (l.map AV.str).length)),(7,.j j)],[]⟩) (fun j=>j<=l.length/\(l.take j).Nodup) (fun j=>l.length-j) 0 ⟨z1q _,by simp⟩ ?_;rintro j ⟨v,m⟩;rcases z1w j l.length with n|n
 .conv=>whnf
  repeat' (apply bD<;>intro _<;>first|omega|conv=>whnf)
  refine lI (fun k:Nat=>⟨[(0,.p (eStrs l)),(3,.j j),(4,.j k),(6,.p (.int .i64 (l.map AV.str).length)),(7,.j j)],[]⟩) (fun k=>k<=j/\∀s∈l.take k,s≠l[j]) (fun k=>j-k) 0 ⟨z1q _,fun s i=>by rw[z5f]at i;cases i⟩ ?_;rintro k ⟨w,o⟩;rcases z1w k j with t|t
  .conv=>whnf
   repeat' ((first|refine dA ?_|(refine gX ?_;intros)|((first|apply bD|apply bB)<;>intro _<;>try omega))<;>conv=>whnf)
   .refine RetK.tt (Cr fun u=>?_);have h:l[j]=l[k]:=eq_of_beq (by assumption);have:=(List.getElem_inj u).1 h;omega
   .have h:(l[j]==l[k])=false:=by assumption
    refine nX (k+1) ⟨by omega,fun s i=>?_⟩;rcases(QO (by omega)).1 i with q|rfl
    .exact o s q
    .exact fun e=>by rw[e]at h;simp at h
  .obtain rfl:k=j:=by omega
   conv=>whnf
   repeat' ((first|refine wI ?_|(apply bD<;>intro _<;>try omega))<;>conv=>whnf)
   refine nX (k+1) ⟨by omega,?_⟩;rw[z1y n,z3v];exact⟨m,by simp,fun a ha b r e=>o a ha (by rw[e];exact z0i.1 r)⟩
 .rw [z1f n]at m;conv=>whnf
  repeat' (apply bD<;>intro _<;>first|omega|conv=>whnf)
  exact RetK.ff (WC.2 m)
def Zr(f:Pr)(l:f.B.length<=1000000):aP 234 [.agg f.cells] (eStrs (f.B.map Param.name)):=by
 refine sC MK func234 ?_;conv=>whnf
 refine iM fun _=>?_;have n:(f.B.map fun a=>AV.agg a.cells).length=f.B.length:=z0s _;conv=>whnf
 refine lJ (fun j:Nat=>⟨[(3,.hd 0 0 j),(7,.p (.sl (f.B.map fun a=>AV.agg a.cells))),(8,.p (.int .i64 (f.B.map fun a=>AV.agg a.cells).length)),(9,.j j)],[(0,.own 9 1 (((f.B.map Param.name).take j).map .str))]⟩) (fun j=>j<=f.B.length) (fun j=>f.B.length-j) 0 (lM [(0,.own 9 1 [])]) (z1q _) ?_;intro j m;rcases z1w j f.B.length with h|h
 .have k:((f.B.map Param.name).take (j+1))=(f.B.map Param.name).take j++[f.B[j].name]:=by
   rw[z1y (by simpa using h),z4b]
  have i:((f.B.map Param.name).take j).length=j:=by simp;omega
  generalize(f.B.map Param.name).take j=acc at*
  conv=>whnf
  repeat' ((first|(refine gX ?_;intros)|refine XK (by simp;omega) (by simp;omega) ?_|(apply bD<;>intro _<;>try omega))<;>conv=>whnf)
  exact⟨j+1,by omega,by omega,Le.of_eq (by rw[k];simp;rfl)⟩
 .rw [z1f (by simpa using h)];conv=>whnf
  repeat' (apply bD<;>intro _<;>first|omega|conv=>whnf)
  exact⟨_,.hd rfl (by simp;omega),rfl⟩
def Jq(p:Pg)(f:Pr)(name:Str):aP 236 [.agg p.cells,.agg f.cells,.str name] (.int .i64 (DJ p f name)):=by
 refine sC Xi func236 ?_;conv=>whnf
 repeat' ((refine iM fun _=>?_)<;>conv=>whnf)
 have l:(f.B.map fun a=>AV.agg a.cells).length=f.B.length:=z0s _;refine lI (fun j:Nat=>⟨[(2,.p (.str name)),(3,.p (.ip p.cells)),(4,.p (.ip f.cells)),(10,.p (.sl (f.B.map fun a=>.agg a.cells))),(11,.p (.int .i64 (f.B.map fun a=>AV.agg a.cells).length)),(12,.j j)],[]⟩) (fun j=>j<=f.B.length/\(f.B.drop j).find? (fun a=>a.name==name)=f.B.find? fun a=>a.name==name) (fun j=>f.B.length-j) 0 ⟨z1q _,rfl⟩ ?_;rintro j ⟨k,h⟩;rcases z1w j f.B.length with i|i
 .conv=>whnf
  repeat' ((first|(refine gX ?_;intros)|((first|apply bD|apply bB)<;>intro _<;>try omega))<;>conv=>whnf)
  all_goals first
   |(exfalso;simp_all;done)
   | (have e:=FG (p:=fun a:Param=>a.name==name) i (by assumption)
      rw[h]at e;exact RetK.int (by unfold DJ;rw[e];simp[*]))
   |(refine nX (j+1) ⟨by omega,by rw[<-h,MM (p:=fun a:Param=>a.name==name) i (by assumption)]⟩)
 .have e:f.B.find? (fun a=>a.name==name)=none:=by rw[<-h,FK (by omega)]
  conv=>whnf
  repeat' ((first|refine cP (QF _ _) ?_|((first|apply bD|apply bB)<;>intro _<;>try omega))<;>conv=>whnf)
  all_goals
   simp only[Jr]at*
   exact RetK.int (by unfold DJ;rw[e];simp[*])
def BC(t:S)(ha:t.args.length<=21000):aP 235 [.agg t.cells] (eStrs (WW t)):=by
 refine sC Xe func235 ?_;conv=>whnf
 repeat' ((first|(refine gX ?_;intros)|refine cP (JJ _) ?_|refine XM _ (by simp) (by have:=ZM t.x;simp;omega) ?_|refine XK (by simp) (by simp) ?_|((first|apply bE|apply bN)<;>intro _<;>try omega))<;>conv=>whnf)
 all_goals simp only[show(ByteArray.mk #[]).data.toList=[]from rfl]at*
 all_goals
  have n:(t.args.map fun a=>AV.agg a.cells).length=t.args.length:=z0s _;refine lJ (NU t 9) (fun j=>j<=t.args.length) (fun j=>t.args.length-j) 0 (Le.of_eq ?_) (z1q _) ?_
  .first
    | (have e:Mw t 0=QC t.x:=by simp[Mw,BG,show t.kind=10 by assumption]
       rw[NU,e];simp only[z3m,z0s,z0e,z1v,z4v];rfl)
    | (have e:Mw t 0=QC t.x:=by simp[Mw,BG,show t.name=[] by simpa using(show(t.name==[])=true by assumption)]
       rw[NU,e];simp only[z3m,z0s,z0e,z1v,z4v];rfl)
    | (have e:Mw t 0=[t.name]++QC t.x:=by
        have:(t.name==[])=false:=by assumption
        simp[Mw,BG,show ¬t.kind=10 by assumption,this]
       rw[NU,e];simp only[z3m,z0s,z0e,z1v,z4v];rfl)
  intro j l;have k:=Co t l ha;conv=>whnf
  repeat' ((first|refine cP (JJ _) ?_|(refine gX ?_;intros)|refine XM _ (by simp) (by have:=ZM (t.args[j]'(by omega)).x;simp;omega) ?_|refine pS ?_|((first|apply bD|apply bB)<;>intro _<;>try omega))<;>conv=>whnf)
  all_goals first
   |exact⟨_,.hd rfl (by simp),by
      have:t.args.take j=t.args:=z1f (by omega);rw[WW,<-this];rfl⟩
   | (have m:j<t.args.length:=by omega
      have h:=RG m;refine⟨j+1,by show j+1<=_;omega,by show t.args.length-(j+1)<t.args.length-j;omega,Le.of_eq ?_⟩;first
       | (have i:KB t.args[j]=[t.args[j].name]++QC t.args[j].x:=by rw[KB,show t.args[j].ref=true by assumption];rfl
          rw[NU,h,i];simp only[z0e,z1v,z0s,<-z1m,<-z4l];rfl)
       | (have i:KB t.args[j]=QC t.args[j].x:=by rw[KB,show t.args[j].ref=false by assumption];rfl
          rw[NU,h,i];simp only[z0e,z1v,z0s];rfl))
def VX(p:Pg)(n:Str):aP 232 [.agg p.cells,.str n] (.tup [.agg (JF p n).1.cells,.bool (JF p n).2]):=by
 refine sC Qa func232 ?_;conv=>whnf
 have l:(p.A.map fun f=>AV.agg f.cells).length=p.A.length:=z0s _;repeat' ((refine iM fun _=>?_)<;>conv=>whnf)
 refine lI (fun j:Nat=>⟨[(1,.p (.str n)),(4,.ptr 1 0),(9,.p (.sl (p.A.map fun f=>.agg f.cells))),(10,.p (.int .i64 (p.A.map fun f=>AV.agg f.cells).length)),(11,.j j)],[(1,.obj 62 [.p (.str []),.p .nils,.p .nils,.p .nils,.p .nils])]⟩) (fun j=>j<=p.A.length/\(p.A.drop j).find? (fun f=>f.name==n)=p.A.find? fun f=>f.name==n) (fun j=>p.A.length-j) 0 ⟨z1q _,rfl⟩ ?_;rintro j ⟨m,h⟩;rcases z1w j p.A.length with i|i
 .rw [QP i,z6k]at h;conv=>whnf
  repeat' ((first|(refine gX ?_;intros)|((first|apply bD|apply bB)<;>intro _<;>try omega))<;>conv=>whnf)
  .have k:(p.A[j].name==n)=true:=by assumption
   rw[k]at h;exact⟨_,.p (Sub.tup (SubL.cons (Sub.refl _) (SubL.cons (Sub.tt rfl) SubL.nil))),by unfold JF;rw[<-h];first|done|rfl⟩
  .have k:(p.A[j].name==n)=false:=by assumption
   rw[k]at h;exact nX (j+1) ⟨i,h⟩
 .rw [z1b i,List.find?_nil]at h;conv=>whnf
  repeat' ((first|refine z1s rfl ?_|(apply bD<;>intro _<;>try omega))<;>conv=>whnf)
  exact⟨_,.p (Sub.tup (SubL.cons Cb (SubL.cons (Sub.ff rfl) SubL.nil))),by unfold JF;rw[<-h];first|done|rfl⟩
def q3i(p:Pg)(s:S):JI p s=(decide (s.kind=4)&&((JF p s.D).2&&Df (JF p s.D).1.B s.args)):=by
 unfold JI JF;cases p.A.find? (fun f=>f.name==s.D)<;>rfl
def KT(p:Pg)(s:S):aP 237 [.agg p.cells,.agg s.cells] (.bool (JI p s)):=by
 refine sC PQ func237 ?_;conv=>whnf
 have z:=VX p s.D;have y:=q3i p s;rw[y];generalize(JF p s.D).2=ok at*
 generalize(JF p s.D).1=q at*
 have b:(s.args.map fun a=>AV.agg a.cells).length=s.args.length:=z0s _;have c:(q.B.map fun a=>AV.agg a.cells).length=q.B.length:=z0s _;repeat' ((first|(refine gX ?_;intros)|refine cP z ?_|((first|apply bE|apply bN)<;>intro _<;>try omega))<;>conv=>whnf)
 all_goals first
  |(refine RetK.ff ?_;simp_all;done)
  | (refine RetK.ff ?_
     have:Df q.B s.args=false:=by
      unfold Df;rw[z4h];intro o;have:=z2b List.length o;simp at this;omega
     rw[this];simp)
  |skip
 have m:s.kind=4:=by omega
 have x:s.args.length=q.B.length:=by omega
 have t:ok=true:=by assumption
 rw[t,z2t m,z6z,z6z];refine lI (fun j:Nat=>⟨[(3,.p (.ip s.cells)),(5,.p (.ip q.cells)),(33,.p (.int .i64 (s.args.map fun a=>AV.agg a.cells).length)),(34,.j j)],[]⟩) (fun j=>j<=s.args.length/\∀k (m:k<j) (u:k<s.args.length) (n:k<q.B.length),s.args[k].ref=q.B[k].ref) (fun j=>s.args.length-j) 0 ⟨z1q _,fun k m=>absurd m (z8g _)⟩ ?_;rintro j ⟨n,v⟩;rcases z1w j s.args.length with w|w
 .have r:j<q.B.length:=by omega
  conv=>whnf
  repeat' ((first|refine dA ?_|(refine gX ?_;intros)|refine FV ZI rfl rfl rfl rfl rfl ?_|((first|apply bD|apply bE)<;>intro _<;>try omega))<;>conv=>whnf)
  all_goals first
   | (refine RetK.ff ?_
      unfold Df;rw[z4h];intro o;have i:=z2b (fun l=>l[j]?) o;simp only[z1u,z0c w,z0c r,z3i]at i;have h:=z3q i;simp_all
      done)
   | (refine nX (j+1) ⟨by omega,fun k m u n=>?_⟩
      rcases z1w k j with h|h
      .exact v k h u n
      .obtain rfl:k=j:=by omega
       simp_all)
 .conv=>whnf
  repeat' (apply bD<;>intro _<;>first|omega|conv=>whnf)
  refine RetK.tt ?_;unfold Df;rw[z2z];refine z8x (by simp;omega) fun k i h=>?_;simp only[z0s]at i h;rw[z4b,z4b,v k (by omega) h i]
def Zl(f:Pr)(t:∀x∈UV f,x.s.E.length<=21000)(w:f.fin.length<=21000):aP 239 [.agg f.cells] (eStrs ((UV f).flatMap (fun x=>x.s.E)++f.fin)):=by
 refine sC MJ func239 ?_;conv=>whnf
 have q:=XU f;have u:=BU f;generalize UV f=L at*
 have r:=WU L;repeat' ((first|(refine iM fun _=>?_)|refine cP q ?_)<;>conv=>whnf)
 refine lJ (fun x:Nat×List Str=>⟨[(1,.p (.ip f.cells)),(3,.hd 0 0 x.2.length),(7,.p (VY L)),(8,.p (.int .i64 (L.map fun i=>AV.agg i.cells).length)),(9,.j x.1)],[(0,.own 9 1 (x.2.map .str))]⟩) (fun x=>x.1<=L.length/\x.2=(L.take x.1).flatMap (fun x=>x.s.E)/\x.2.length<=21000*x.1) (fun x=>L.length-x.1) (0,[]) (lM [(0,.own 9 1 [])]) ⟨z1q _,by simp,by simp⟩ ?_;rintro⟨j,h⟩ ⟨m,k,n⟩;simp only at m k n⊢;rcases z1w j L.length with l|l
 .have v:=t _ (z1h l);have o:h++L[j].s.E=(L.take (j+1)).flatMap (fun x=>x.s.E):=by rw[z1y l,z3g,<-k];simp
  conv=>whnf
  repeat' ((first|(refine gX ?_;intros)|refine XM _ (by simp) (by simp;omega) ?_|(apply bD<;>intro _<;>try omega))<;>conv=>whnf)
  exact⟨(j+1,h++L[j].s.E),⟨by simp only;omega,o,by simp;omega⟩,by simp only;omega,Le.of_eq (by simp;rfl)⟩
 .rw [z1f l]at k;conv=>whnf
  repeat' ((first|refine aD ?_|refine XM _ (by simp) (by simp;omega) ?_|(apply bD<;>intro _<;>try omega))<;>conv=>whnf)
  exact⟨_,.hd rfl (by simp),by rw[<-k];simp[eStrs]⟩
def Xq(l:List RI)(fin:List Str)(h:Str):Int×Bool:=match l.find? fun x=>inS x.s.E h with
 |some x=>(x.s.id,true)
 |none=>if inS fin h=true then(-1,true)else(0,false)
def Uu(l:List RI)(fin:List Str)(h:Str):aP 294 [VY l,eStrs fin,.str h] (.tup [.int .i64 (Xq l fin h).1,.bool (Xq l fin h).2]):=by
 refine sC Qp func294 ?_;conv=>whnf
 refine iM fun _=>?_;have n:=WU l;conv=>whnf
 refine lI (fun j:Nat=>⟨[(1,.p (eStrs fin)),(2,.p (.str h)),(10,.p (VY l)),(11,.p (.int .i64 (l.map fun i=>AV.agg i.cells).length)),(12,.j j)],[]⟩) (fun j=>j<=l.length/\(l.drop j).find? (fun x=>inS x.s.E h)=l.find? fun x=>inS x.s.E h) (fun j=>l.length-j) 0 ⟨z1q _,rfl⟩ ?_;rintro j ⟨o,m⟩;rcases z1w j l.length with k|k
 .conv=>whnf
  repeat' ((first|refine cP (QF _ _) ?_|(refine gX ?_;intros)|((first|apply bD|apply bB)<;>intro _<;>try omega))<;>conv=>whnf)
  .have e:=FG (p:=fun x:RI=>inS x.s.E h) k (by assumption);rw[m]at e;exact RetK.tup2 (by unfold Xq;rw[e]) (Sub.tt (by unfold Xq;rw[e]))
  .exact nX (j+1) ⟨by omega,by rw[<-m,MM (p:=fun x:RI=>inS x.s.E h) k (by assumption)]⟩
 .have e:l.find? (fun x=>inS x.s.E h)=none:=by rw[<-m,FK k]
  conv=>whnf
  repeat' ((first|refine cP (QF _ _) ?_|((first|apply bD|apply bB)<;>intro _<;>try omega))<;>conv=>whnf)
  .exact RetK.tup2 (by unfold Xq;rw[e];simp[*]) (Sub.tt (by unfold Xq;rw[e];simp[*]))
  .exact RetK.tup2 (by unfold Xq;rw[e];simp[*]) (Sub.ff (by unfold Xq;rw[e];simp[*]))
def HC(l:List RI)(id:Int):aP 238 [VY l,.int .i64 id] (.tup [.int .i64 (Sf l.reverse id).1,.bool (Sf l.reverse id).2]):=by
 refine sC MW func238 ?_;conv=>whnf
 refine iM fun _=>?_;have r:=WU l;conv=>whnf
 repeat' (refine wI ?_;conv=>whnf)
 refine lJ (fun n:Nat=>⟨[(0,.p (VY l)),(1,.j id),(6,.j ((n:Int)-1))],[]⟩) (fun n=>n<=l.length/\Sf (l.take n).reverse id=Sf l.reverse id) (fun n=>n) l.length (Le.of_eq (by rw[r])) ⟨z1l _,by rw[z4k]⟩ ?_;rintro n ⟨w,q⟩;cases n with
 | zero=>
   rw[<-q];conv=>whnf
   repeat' (apply bD<;>intro _<;>first|omega|conv=>whnf)
   exact RetK.tup2 rfl (Sub.ff rfl)
 | succ n=>
   have v:n<l.length:=by omega
   have h:=RR v id;have s:((n+1:Nat):Int)-1=(n:Nat):=by omega
   rw[s];conv=>whnf
   repeat' ((first|(refine iA fun _=>?_)|refine Wr.eq (m:=(n:Int)-1) rfl (by omega) (by omega) ?_|((first|apply bD|apply bE)<;>intro _<;>try omega))<;>conv=>whnf)
   rotate_left 1
   .rw [if_neg (by assumption)]at h;exact nX n ⟨by omega,by rw[<-h];exact q⟩
   rw[if_pos (by omega)]at h;refine lI (fun x:Nat×Int=>⟨[(0,.p (VY l)),(1,.j id),(6,.j n),(7,.j x.2),(8,.j ((x.1:Int)-1))],[]⟩) (fun x=>x.1<=n/\DW (l.take x.1).reverse x.2=DW (l.take n).reverse l[n].O) (fun x=>x.1) (n,l[n].O) ⟨z1l _,rfl⟩ ?_;rintro⟨m,i⟩ ⟨t,o⟩;simp only at t o⊢;cases m with
   | zero=>
     have e:DW (l.take 0).reverse i=(0,false):=rfl;rw[e]at o;rw[<-o,if_neg (by decide)]at h;conv=>whnf
     repeat' ((first|refine Wr.eq (m:=(n:Int)-1) rfl (by omega) (by omega) ?_|(apply bD<;>intro _<;>try omega))<;>conv=>whnf)
     exact nX n ⟨by omega,by rw[<-h];exact q⟩
   | succ m=>
     have u:m<l.length:=by omega
     have k:=Eu u i;have e2:((m+1:Nat):Int)-1=(m:Nat):=by omega
     rw[e2];conv=>whnf
     repeat' ((first|(refine iA fun _=>?_)|refine Wr.eq (m:=(n:Int)-1) rfl (by omega) (by omega) ?_|refine Wr.eq (m:=(m:Int)-1) rfl (by omega) (by omega) ?_|((first|apply bD|apply bE)<;>intro _<;>try omega))<;>conv=>whnf)
     all_goals first
      | (rw[if_pos (by omega)]at k
         rw[k]at o;rw[<-o,if_neg (by decide)]at h;exact nX n ⟨by omega,by rw[<-h];exact q⟩)
      | (rw[if_neg (by assumption),if_neg (by assumption)]at k
         exact nX (m,i) ⟨by simp only;omega,by rw[<-k];exact o⟩)
      | (rw[if_neg (by assumption),if_pos (by omega),if_pos (by assumption)]at k
         rw[k]at o;rw[<-o,if_pos rfl]at h;rw[<-q,h];exact RetK.tup2 rfl (Sub.tt rfl))
      | (rw[if_neg (by assumption),if_pos (by omega),if_neg (by assumption)]at k
         exact nX (m,l[m].O) ⟨by simp only;omega,by rw[<-k];exact o⟩)
def pureL:LV->LV
 |.p a=>.p a
 |_=>.p .any
def EC:List (Nat×LV)->List (Nat×LV)
 |[]=>[]
 |(j,l)::r=>(j,pureL l)::EC r
theorem TR:∀(sl:List (Nat×LV))(i:Nat),getS (EC sl) i=pureL (getS sl i)
 |[],i=>rfl
 | (j,l)::r,i=>by
   rw[EC,getS,getS];cases j==i with
   |true=>rfl
   |false=>exact TR r i
def XG{P:Program}{N:Nat}{g:FuncId}{args:List LV}{o:Option Nat}{s:St}{K:St->Prop}{avs:List AV}{R:AV->Prop}(F:SpecP P g avs R)(ha:FrzL s.H args avs)(h:∀c,R c->setD N (EC s.sl) o (.p c) fun sl=>K ⟨sl,[]⟩):CallK P N g args o s K:=by
 refine⟨fun σ β a w f m Y Z=>⟨F.go m,?_⟩⟩;obtain⟨t,q⟩:=ha.get;obtain⟨τ,E,J,L,M⟩:=V1 f.heap;refine(F.ok τ w m (Y.trans t) (fun j c C=>?_) J).mono fun e w' ⟨c,u,σ',U,Q,z,r,V,n,v⟩=>?_
 .obtain ⟨l,A,d⟩:=q j c C;exact M l _ c (Z j l A) d
 .have D:Rel N σ' β ⟨EC s.sl,[]⟩ a w':=⟨f.size,f.defers,fun i=>by
   show RepL σ' β (getS (EC s.sl) i) _;rw[TR];have:=f.G i;generalize getS s.sl i=l at this⊢;cases l with
   |p x=>exact this.mono (Mem.le_trans E r)
   |_=>exact .p (.any _),⟨V,fun k c h=>(by cases h),z7v,fun k h=>(by cases h),fun k h=>(by cases h)⟩⟩
  obtain⟨sl,O,y⟩:=D.setD (.p z) (h c Q);refine⟨u,σ',β,_,U,O,y,Mem.le_trans E r,⟨n.os,n.tape,n.output,n.drawn,n.size,fun b T _=>n.block b T id⟩,fun b I A=>?_,fun b ⟨j,C,_⟩=>(by cases C),fun _ _ _=>rfl⟩;by_cases d:τ b=none
  .exact .inr (v b d A)
  .rcases L b d with B|B
   .exact absurd I B
   .exact .inl B
def Yi(l:List Str)(f:l.length<=1000000000):SpecH prog 83 ([eStrs l].map .p) [] (OneRow (Kh (QA l)) False):=by
 refine sK MU func83 ?_;conv=>whnf
 refine iM fun _=>?_;have c:(l.map AV.str).length=l.length:=z0s _;conv=>whnf
 refine lJ (fun x:Nat×List Str=>⟨[(0,.p (eStrs l)),(3,.hd 0 0 x.2.length),(9,.p (.int .i64 (l.map AV.str).length)),(10,.j x.1)],[(0,.own 9 1 (x.2.map .str))]⟩) (fun x=>x.1<=l.length/\RiseI ltT l x.2 x.1) (fun x=>l.length-x.1) (0,[]) (lM [(0,.own 9 1 [])]) ⟨z1q _,RiseI.zero⟩ ?_;rintro⟨i,out⟩ ⟨v,s⟩;simp only at v s⊢;have e:=s.len ltT.irr;rcases z1w i l.length with b|b
 .conv=>whnf
  repeat' ((first|(refine iM fun _=>?_)|(apply bD<;>intro _<;>try omega))<;>conv=>whnf)
  refine lJ (fun x:Nat×Option Str=>⟨[(0,.p (eStrs l)),(3,.hd 0 0 out.length),(4,.p (.str (x.2.getD []))),(5,.p (.bool x.2.isSome)),(9,.p (.int .i64 (l.map AV.str).length)),(10,.j i),(12,.p (eStrs l)),(13,.p (.int .i64 (l.map AV.str).length)),(14,.j x.1)],[(0,.own 9 1 (out.map .str))]⟩) (fun x=>x.1<=l.length/\LeastI ltT l out x.1 x.2) (fun x=>l.length-x.1) (0,none) (lE (hsl:=.r (.r (.r (.cons (.p (Sub.ff rfl)) (.r (.r (.r (.r (.r .nil)))))))))) ⟨z1q _,LeastI.zero⟩ ?_;rintro⟨k,o⟩ ⟨w,n⟩;simp only at w n⊢;rcases z1w k l.length with q|q
  .have t:inS out l[k]=true->l[k]∈out:=XP.1;have u:inS out l[k]=false->l[k]∉out:=fun h d=>by rw[XP.2 d]at h;cases h
   cases o with
   | none=>
     simp only[z6v,z5s];conv=>whnf
     repeat' ((first|(refine gX ?_;intros)|(refine QB (QF out (l[k]'q)) (.cons (.hd rfl (by simp)) (.cons (.p (Sub.refl _)) .nil)) (by rintro _ rfl;rfl) ?_;rintro _ rfl)|((first|apply bD|apply bN|apply bB)<;>intro _<;>try omega))<;>conv=>whnf)
     all_goals first
      |(exfalso;simp_all;done)
      |exact nX (k+1,none) ⟨by simp only;omega,n.old q (t (by assumption))⟩
      |exact⟨(k+1,some l[k]),⟨by simp only;omega,n.first q (u (by assumption))⟩,by simp only;omega,(lE (hsl:=.r (.r (.r (.cons (.p (Sub.tt rfl)) (.r (.r (.r (.r (.r .nil))))))))))⟩
   | some m=>
     simp only[z2l,z6u];conv=>whnf
     repeat' ((first|(refine gX ?_;intros)|(refine QB (QF out (l[k]'q)) (.cons (.hd rfl (by simp)) (.cons (.p (Sub.refl _)) .nil)) (by rintro _ rfl;rfl) ?_;rintro _ rfl)|((first|apply bD|apply bN|apply bB)<;>intro _<;>try omega))<;>conv=>whnf)
     all_goals first
      |(exfalso;simp_all;done)
      |exact nX (k+1,some m) ⟨by simp only;omega,n.old q (t (by assumption))⟩
      |exact⟨(k+1,some l[k]),⟨by simp only;omega,n.less ltT.trans q (u (by assumption)) (by assumption)⟩,by simp only;omega,(lE (hsl:=.r (.r (.r (.cons (.p (Sub.tt rfl)) (.r (.r (.r (.r (.r .nil))))))))))⟩
      | (have a:Op.bytesLess l[k] m=false:=by assumption
         exact nX (k+1,some m) ⟨by simp only;omega,n.more (fun _ _=>ltT.total) q (fun h=>by unfold ltT at h;rw[a]at h;cases h)⟩)
  .obtain rfl:k=l.length:=by omega
   cases o with
   | none=>
     simp only[z6v,z5s];conv=>whnf
     repeat' ((first|refine gX ?_|((first|apply bD|apply bB)<;>intro _<;>try omega))<;>conv=>whnf)
     all_goals first
      |(exfalso;simp_all;done)
      |exact nX (i+1,out) ⟨by simp only;omega,s.stay n⟩
   | some m=>
     simp only[z2l,z6u];conv=>whnf
     repeat' ((first|refine gX ?_|refine pS ?_|((first|apply bD|apply bB)<;>intro _<;>try omega))<;>conv=>whnf)
     all_goals first
      |(exfalso;simp_all;done)
      |exact⟨(i+1,out++[m]),⟨by simp only;omega,s.snoc n⟩,by simp only;omega,Le.of_eq (by simp only[z0e,z1v];rfl)⟩
 .obtain ⟨y,z⟩:=s.all ltT.irr (by omega);rw[<-Vp y z];conv=>whnf
  repeat' (apply bD<;>intro _<;>first|omega|conv=>whnf)
  exact z4g _ (z2x _) (OneRow.str rfl)
def XQ(l:List Str)(i:l.length<=1000000000):aP 83 [eStrs l] (eStrs (QA l)):=(Yi l i).toP (fun h=>h.elim) fun _ _ _ _ h=>h.2.2
def Jh(f:Pr):List Str:=((UV f).filter fun x=>decide (x.s.kind=4)).map fun x=>x.s.D
def Ej(f:Pr):(Jh f).length<=201:=by
 unfold Jh;rw[z0s];exact z2g (z2s _ _) (BU f)
def Ug(p:Pg)(n:Str):aP 323 [.agg p.cells,.str n] (eStrs (QA (Jh (JF p n).1))):=by
 refine sC Qt func323 ?_;conv=>whnf
 have v:=VX p n;generalize(JF p n).2=ok at*
 generalize(JF p n).1=f at*
 have t:=XU f;have y:=Ej f;have z:=BU f;have l:Jh f=((UV f).filter fun x=>decide (x.s.kind=4)).map fun x=>x.s.D:=rfl;have w:=XQ (Jh f) (by omega);generalize Jh f=C at*
 generalize UV f=L at*
 have u:=WU L;repeat' ((first|(refine gX ?_;intros)|refine cP v ?_|refine cP t ?_)<;>conv=>whnf)
 refine lJ (fun x:Nat×List Str=>⟨[(7,.hd 0 0 x.2.length),(17,.p (VY L)),(18,.p (.int .i64 (L.map fun i=>AV.agg i.cells).length)),(19,.j x.1)],[(0,.own 9 1 (x.2.map .str))]⟩) (fun x=>x.1<=L.length/\x.2=((L.take x.1).filter fun x=>decide (x.s.kind=4)).map (fun x=>x.s.D)/\x.2.length<=x.1) (fun x=>L.length-x.1) (0,[]) (lM [(0,.own 9 1 [])]) ⟨z1q _,by simp,by simp⟩ ?_;rintro⟨j,h⟩ ⟨q,k,r⟩;simp only at q k r⊢;rcases z1w j L.length with m|m
 .have o:=z1y m;conv=>whnf
  repeat' ((first|(refine gX ?_;intros)|refine pS ?_|(apply bD<;>intro _<;>try omega))<;>conv=>whnf)
  all_goals first
   |exact⟨(j+1,h++[L[j].s.D]),⟨by simp only;omega,by simp only;rw[o,z2j,z1v,<-k];congr 1;rw[z2m (by simp;assumption)];rfl,by simp;omega⟩,by simp only;omega,Le.of_eq (by simp only[z0e,z1v];rfl)⟩
   |exact nX (j+1,h) ⟨by simp only;omega,by simp only;rw[o,z2j,z1v,<-k,z2n (by simp;assumption)];simp,by simp only;omega⟩
 .rw [z1f m,<-l]at k;subst k;conv=>whnf
  repeat' ((first|(refine XG w (.cons (.hd rfl (by simp)) .nil) ?_;rintro _ rfl)|(apply bD<;>intro _<;>try omega))<;>conv=>whnf)
  exact RetK.p rfl
def IG(i:UG p=true){f:Pr}(h:f∈p.A):QA (Jh f)=JP f:=by
 unfold Jh JP FU QA;rw[VL i h,<-show(flatU f).map RI.s=flL f.body from NN 1 0 false f.body,List.filter_map,z4e];rfl
def Al{k:Nat}(i:k<p.A.length){n:Str}(h:p.A.find? (fun f=>f.name==n)=some p.A[k]):JF p n=(p.A[k],true):=by
 unfold JF;rw[h]
def q3d(j:UG p=true){k:Nat}(i:k<p.A.length){n:Str}(h:p.A.find? (fun f=>f.name==n)=some p.A[k]):aP 323 [.agg p.cells,.str n] (eStrs (JP p.A[k])):=by
 have:=Ug p n;rw[Al i h,IG j (z1h i)]at this;exact this
def Zm(p:Pg)(n:Str)(I:(XZ p).1=0)(T:n∈procsN p):aP 309 [.agg p.cells,.str n] (eStrs (E8 p n)):=by
 refine sC MY func309 ?_;conv=>whnf
 obtain⟨H,hb,Y⟩:=UA I;obtain⟨hg,hpl,O⟩:=ZR H;have V:(procsN p).length=p.A.length:=by simp[procsN]
 repeat' ((first|refine z1s rfl ?_|refine aD ?_|refine z5l (fun x hx=>by rcases z0i.1 hx with rfl;rfl) rfl ?_)<;>conv=>whnf)
 refine lI (fun i:Nat×List Str=>⟨[(2,.p (.ip p.cells)),(5,.hd 0 0 i.2.length),(6,.j i.1)],[(0,.own 9 1 (i.2.map .str))]⟩) (fun i=>i.1<=i.2.length/\i.2.Nodup/\(∀s∈i.2,s∈procsN p)/\UM p (p.A.length+1-i.1) i.1 i.2=UM p (p.A.length+1) 0 [n]) (fun i=>p.A.length+1-i.1) (0,[n]) ⟨z1q _,by simp,by simpa using T,rfl⟩ ?_;rintro⟨j,out⟩ ⟨J,e,f,u⟩;simp only at J e f u⊢;have Z:=PT e f;rcases z1w j out.length with t|t
 .obtain ⟨k,D,Q,z,U⟩:=Vd (f _ (z1h t));have C:=P3 p.A[k];have N:QY p.A[k].body<=200:=by
   have:=(QK p).2.2.2.2 k p.A[k] (by simp);omega
  have M:=q3d H D z;have g:(out.map AV.str)[j]?=some (.str out[j]):=by simp[t]
  conv=>whnf
  repeat' ((first|(refine gX ?_;intros)|refine dA ?_|refine z4u j rfl t ?_|refine lO g ?_|refine cP M ?_|(apply bD<;>intro _<;>try omega))<;>conv=>whnf)
  have d:∀s∈JP p.A[k],s∈procsN p:=fun s h=>MF I (z1h D) h;have B:=RA D z;have E:UM p (p.A.length+1-j) j out=UM p (p.A.length+1-(j+1)) (j+1) (VE out (JP p.A[k])):=by
   rw[show p.A.length+1-j=(p.A.length+1-(j+1))+1 by omega,UM,z0c t];simp only;rw[B]
  rw[E]at u;obtain⟨a,b,rr,c⟩:=DI (JP p.A[k]) e f d;generalize JP p.A[k]=cs at d u a b c C⊢;have G:(cs.map AV.str).length=cs.length:=z0s _;refine lI (fun i:Nat×List Str=>⟨[(2,.p (.ip p.cells)),(5,.hd 0 0 i.2.length),(6,.j j),(22,.p (eStrs cs)),(23,.p (.int .i64 (cs.map AV.str).length)),(24,.j i.1)],[(0,.own 9 1 (i.2.map .str))]⟩) (fun i=>i.1<=cs.length/\i.2.length<=out.length+i.1/\VE i.2 (cs.drop i.1)=VE out cs) (fun i=>cs.length-i.1) (0,out) ⟨z1q _,by simp,rfl⟩ ?_;rintro⟨m,l⟩ ⟨K,L,v⟩;simp only at K L v⊢;rcases z1w m cs.length with o|o
  .have r:=Xo (out:=l) o;rw[<-Jr]at r;conv=>whnf
   repeat' ((first|(refine gX ?_;intros)|(refine QB (QF l (cs[m]'o)) (.cons (.hd rfl (by simp)) (.cons (.p (Sub.refl _)) .nil)) (by rintro _ rfl;rfl) ?_;rintro _ rfl)|refine pS ?_|((first|apply bD|apply bN)<;>intro _<;>try omega))<;>conv=>whnf)
   all_goals first
    |exact nX (m+1,l) ⟨by simp only;omega,by simp only;omega,by simp only;rw[<-v,r,if_pos (by assumption)]⟩
    |exact⟨(m+1,l++[cs[m]]),⟨by simp only;omega,by simp;omega,by simp only;rw[<-v,r,if_neg (by simp[*])]⟩,by simp only;omega,Le.of_eq (by simp only[z0e,z1v];rfl)⟩
  .rw [z1b o,VE]at v;subst v;have R:j<(VE out cs).length:=by rw[c,z0e];omega
   conv=>whnf
   repeat' ((first|refine wI ?_|(apply bD<;>intro _<;>try omega))<;>conv=>whnf)
   all_goals exact nX (j+1,VE out cs) ⟨by simp only;omega,a,b,u⟩
 .have y:out=UM p (p.A.length+1) 0 [n]:=by
   rw[<-u];cases P:p.A.length+1-j with
   |zero=>rw[UM]
   |succ q=>rw[UM,z3u t]
  have w:QA out=E8 p n:=by
   unfold E8;rw[<-y,Cf e]
  have F:=XQ out (by omega);rw[w]at F;conv=>whnf
  repeat' ((first|(refine iM fun _=>?_)|(refine XG F (.cons (.hd rfl (by simp)) .nil) ?_;rintro _ rfl)|(apply bD<;>intro _<;>try omega))<;>conv=>whnf)
  all_goals exact RetK.p rfl
def q4y(p:Pg)(t:S):By p t=(WW t).filter fun v=>inS p.C v:=by
 unfold By;congr 1;funext v;exact(Jr _ _).symm
def X8(p:Pg)(hf:Fit p)(N:(XZ p).1=0)(n:Str)(T:n∈procsN p):aP 282 [.agg p.cells,.str n] (eStrs (KX p n)):=by
 refine sC NP func282 ?_;conv=>whnf
 obtain⟨R,hb,hns⟩:=UA N;obtain⟨hg,hpl,hcn⟩:=ZR R;obtain⟨B,c⟩:=CZ N T;have O:=Zm p n N T;have E:KX p n=QA (KZ p n):=rfl;have e:KZ p n=(E8 p n).flatMap (Yq p):=rfl;rw[E];generalize E8 p n=ns at B c e O⊢;have hnl:(ns.map AV.str).length=ns.length:=z0s _;repeat' ((first|(refine iM fun _=>?_)|refine cP O ?_)<;>conv=>whnf)
 refine lJ (fun i:Nat×List Str=>⟨[(2,.p (.ip p.cells)),(5,.hd 0 0 i.2.length),(16,.p (eStrs ns)),(17,.p (.int .i64 (ns.map AV.str).length)),(18,.j i.1)],[(0,.own 9 1 (i.2.map .str))]⟩) (fun i=>i.1<=ns.length/\i.2.length<=4221000*i.1/\i.2++(ns.drop i.1).flatMap (Yq p)=KZ p n) (fun i=>ns.length-i.1) (0,[]) (lM [(0,.own 9 1 [])]) ⟨z1q _,by simp,by rw[e];rfl⟩ ?_;rintro⟨j,t⟩ ⟨U,V,y⟩;simp only at U V y⊢;rcases z1w j ns.length with f|f;rotate_left 1
 .have b:t=KZ p n:=by
   rw[z1b f]at y;simpa using y
  have hS:=XQ t (by omega);rw[<-b];conv=>whnf
  repeat' ((first|(refine XG hS (.cons (.hd rfl (by simp)) .nil) ?_;rintro _ rfl)|(apply bD<;>intro _<;>try omega))<;>conv=>whnf)
  all_goals exact RetK.p rfl
 obtain⟨k,H,hik,d,hnk⟩:=Vd (c _ (z1h f));have F:Yq p ns[j]=(flL p.A[k].body).flatMap (By p):=by unfold Yq;rw[d]
 rw[KG f,F]at y;have D:=hf.pr (z1h H);have Q:=VX p ns[j];rw[Al H d]at Q;have P:=XU p.A[k];have w:(UV p.A[k]).map RI.s=flL p.A[k].body:=by rw[VL R (z1h H)];exact NN 1 0 false _
 have M:=BU p.A[k];have r:∀x∈UV p.A[k],wS x.s<=21000:=fun x hx=>by
  have I:x.s∈flL p.A[k].body:=by
   rw[<-w];exact z1z.2 ⟨_,hx,rfl⟩
  have:=Hn _ _ I;unfold wPr at D;omega
 rw[<-w]at y;generalize UV p.A[k]=its at r M y P;have hil:=WU its;conv=>whnf
 repeat' ((first|(refine gX ?_;intros)|refine cP Q ?_|refine cP P ?_|(apply bD<;>intro _<;>try omega))<;>conv=>whnf)
 refine lI (fun i:Nat×List Str=>⟨[(2,.p (.ip p.cells)),(5,.hd 0 0 i.2.length),(16,.p (eStrs ns)),(17,.p (.int .i64 (ns.map AV.str).length)),(18,.j j),(29,.p (VY its)),(30,.p (.int .i64 (its.map fun i=>AV.agg i.cells).length)),(31,.j i.1)],[(0,.own 9 1 (i.2.map .str))]⟩) (fun i=>i.1<=its.length/\i.2.length<=t.length+21000*i.1/\i.2++(((its.drop i.1).map RI.s).flatMap (By p)++(ns.drop (j+1)).flatMap (Yq p))=KZ p n) (fun i=>its.length-i.1) (0,t) ⟨z1q _,by simp,y⟩ ?_;rintro⟨m,l⟩ ⟨Y,Z,z⟩;simp only at Y Z z⊢;rcases z1w m its.length with u|u;rotate_left 1
 .rw [z1b u]at z;conv=>whnf
  repeat' ((first|refine wI ?_|(apply bD<;>intro _<;>try omega))<;>conv=>whnf)
  exact nX (j+1,l) ⟨by simp only;omega,by simp only;omega,by simpa using z⟩
 have hw:=r _ (z1h u);have J:its[m].s.args.length<=21000:=by
  have:=R8 its[m].s;have:=HM its[m].s.args;omega
 have K:=Ay its[m].s;rw[z2v u,z1t,z2d,z1m]at z;have G:=q4y p its[m].s;have a:=BC its[m].s J;rw[G]at z;generalize WW its[m].s=vs at K z a;have hvl:(vs.map AV.str).length=vs.length:=z0s _;conv=>whnf
 repeat' ((first|(refine gX ?_;intros)|refine cP a ?_|(apply bD<;>intro _<;>try omega))<;>conv=>whnf)
 refine lI (fun i:Nat×List Str=>⟨[(2,.p (.ip p.cells)),(5,.hd 0 0 i.2.length),(16,.p (eStrs ns)),(17,.p (.int .i64 (ns.map AV.str).length)),(18,.j j),(29,.p (VY its)),(30,.p (.int .i64 (its.map fun i=>AV.agg i.cells).length)),(31,.j m),(37,.p (eStrs vs)),(38,.p (.int .i64 (vs.map AV.str).length)),(39,.j i.1)],[(0,.own 9 1 (i.2.map .str))]⟩) (fun i=>i.1<=vs.length/\i.2.length<=l.length+i.1/\i.2++((vs.drop i.1).filter (fun v=>inS p.C v)++(((its.drop (m+1)).map RI.s).flatMap (By p)++(ns.drop (j+1)).flatMap (Yq p)))=KZ p n) (fun i=>vs.length-i.1) (0,l) ⟨z1q _,by simp,z⟩ ?_;rintro⟨q,o⟩ ⟨h9,g,h⟩;simp only at h9 g h⊢;rcases z1w q vs.length with L|L
 .rw [z2v L,z8z]at h;conv=>whnf
  repeat' ((first|refine cP (QF _ _) ?_|(refine gX ?_;intros)|refine pS ?_|((first|apply bD|apply bB)<;>intro _<;>try omega))<;>conv=>whnf)
  .exact ⟨(q+1,o++[vs[q]]),⟨by simp only;omega,by simp;omega,by rw[if_pos (by assumption)]at h;simpa using h⟩,by simp only;omega,Le.of_eq (by simp only[z0e,z1v];rfl)⟩
  .exact nX (q+1,o) ⟨by simp only;omega,by simp only;omega,by rw[if_neg (by simp[*])]at h;exact h⟩
 .rw [z1b L]at h;conv=>whnf
  repeat' ((first|refine wI ?_|(apply bD<;>intro _<;>try omega))<;>conv=>whnf)
  exact nX (m+1,o) ⟨by simp only;omega,by simp only;omega,by simpa using h⟩
def apR(h:List Str):List Arg->List Str->Bool
 |[],_=>true
 |a::r,seen=>bif a.ref then(bif inS seen a.name||inS h a.name then false else apR h r (seen++[a.name]))else apR h r seen
theorem q7p(h:List Str)(nm:Str):∀(l:List Arg)(pre seen:List Str),(pre=[]/\nm=[]\/pre=[nm])->(∀a∈l,a.ref=true->a.name≠[])->apR h l (pre++seen)=XI nm h l seen
 |[],_,_,_,_=>rfl
 | a::r,pre,seen,hp,ha=>by
   have j:=fun s=>q7p h nm r pre s hp fun b n=>ha b (z1x _ n);rw[apR,XI];cases o:a.ref with
   |false=>exact j seen
   | true=>
     have i:=ha a z1j o;have k:inS (pre++seen) a.name=((a.name==nm)||(seen.any fun s=>a.name==s)):=by
      rw[Jr,List.any_append];rcases hp with⟨rfl,rfl⟩|rfl
      .have:(a.name==([]:Str))=false:=z6p.2 i;rw[this];rfl
      .simp
     have m:(inS (pre++seen) a.name||inS h a.name)=((seen.any fun s=>a.name==s)||((a.name==nm)||h.any fun s=>a.name==s)):=by
      rw[k,Jr];cases(a.name==nm)<;>cases(seen.any fun s=>a.name==s)<;>rfl
     rw[z1n,z1n,m,z1m,j (seen++[a.name])]
def IV(p:Pg)(t:S):Bool:=JI p t&&XI t.name (KX p t.D) t.args []
def Uj(p:Pg)(z:Fit p)(c:(XZ p).1=0)(t:S)(s:t.D∈procsN p)(ha:t.args.length<=21000)(r:∀a∈t.args,a.ref=true->a.name≠[]):aP 240 [.agg p.cells,.agg t.cells] (.bool (IV p t)):=by
 refine sC Ql func240 ?_;conv=>whnf
 have q:=KT p t;have y:(t.args.map fun a=>AV.agg a.cells).length=t.args.length:=z0s _;have hT:=X8 p z c t.D s;have k:=fun pre h=>q7p (KX p t.D) t.name t.args pre [] h r;unfold IV;generalize KX p t.D=G at*
 cases n:JI p t with
 | false=>
   rw[n]at q;repeat' ((first|(refine gX ?_;intros)|refine cP q ?_|(apply bN<;>intro _))<;>conv=>whnf)
   all_goals first
    |(exfalso;simp_all;done)
    |exact RetK.ff rfl
 | true=>
   rw[n]at q;rw[z6z];repeat' ((first|(refine gX ?_;intros)|refine cP q ?_|refine XK (by simp) (by simp) ?_|(apply bN<;>intro _))<;>conv=>whnf)
   all_goals simp only[show(ByteArray.mk #[]).data.toList=[]from rfl]at*
   all_goals first
    |(exfalso;simp_all;done)
    |skip
   all_goals
    first
    | (have u:(t.name==[])=false:=by assumption
       have k:=k [t.name] (.inr rfl);rw[z2y]at k;rw[<-k];generalize i:([t.name]:List Str)=pre at k)
    | (have u:(t.name==[])=true:=by assumption
       have k:=k [] (.inl ⟨rfl,by simpa using u⟩);rw[z2y]at k;rw[<-k];generalize i:([]:List Str)=pre at k)
    have b:pre.length<=1:=by rw[<-i];simp
    refine lJ (fun x:Nat×List Str=>⟨[(2,.p (.ip p.cells)),(3,.p (.ip t.cells)),(5,.hd 0 0 x.2.length),(21,.p (.sl (t.args.map fun a=>.agg a.cells))),(22,.p (.int .i64 (t.args.map fun a=>AV.agg a.cells).length)),(23,.j x.1)],[(0,.own 9 1 (x.2.map .str))]⟩) (fun x=>x.1<=t.args.length/\x.2.length<=x.1+1/\apR G (t.args.drop x.1) x.2=apR G t.args pre) (fun x=>t.args.length-x.1) (0,pre) (by subst i;first|exact Le.of_eq rfl|exact(lM [(0,.own 9 1 [])])) ⟨z1q _,by simp only;omega,rfl⟩ ?_;rintro⟨j,l⟩ ⟨v,w,m⟩;simp only at v w m⊢;rcases z1w j t.args.length with o|o
    .rw [z2v o,apR]at m;rw[<-m];conv=>whnf
     repeat' ((first|refine dA ?_|(refine gX ?_;intros)|(refine QB (QF l (t.args[j]'o).name) (.cons (.hd rfl (by simp)) (.cons (.p (Sub.refl _)) .nil)) (by rintro _ rfl;rfl) ?_;rintro _ rfl)|refine cP hT ?_|refine cP (QF G (t.args[j]'o).name) ?_|refine pS ?_|((first|apply bD|apply bB)<;>intro _<;>try omega))<;>conv=>whnf)
     all_goals first
      |(exfalso;simp_all;done)
      |exact RetK.ff (by simp[*])
      |exact⟨(j+1,l++[t.args[j].name]),⟨by simp only;omega,by simp;omega,by simp only;simp[*]⟩,by simp only;omega,Le.of_eq (by simp only[z0e,z1v];rfl)⟩
      |exact nX (j+1,l) ⟨by simp only;omega,by simp only;omega,by simp only;simp[*]⟩
    .rw [z1b o,apR]at m;rw[<-m];conv=>whnf
     repeat' (apply bD<;>intro _<;>first|omega|conv=>whnf)
     exact RetK.tt rfl
def XW(c a:Int):aP 231 [.int .i64 c,.int .i64 a] (MP c a):=by
 refine sC Qs func231 ?_;conv=>whnf
 repeat' (refine z1s rfl ?_;conv=>whnf)
 exact QI rfl rfl
def ZH{H:Heap}{a b:Int}{P:Prop}(h:a=0↔P):RetK H (.p (.agg [.int .i64 a,.int .i64 b])) (fun r=>∃c d,r=MP c d/\(c=0↔P)):=⟨_,.p (Sub.refl _),a,b,rfl,h⟩
def fltR(P:Prop)(r:AV):Prop:=∃c d,r=MP c d/\(c=0↔P)
def Uk(p:Pg)(z:UG p=true):SpecP prog 174 [.agg p.cells] (fun r=>fltR (∀t∈WE p,t.kind=4->JI p t=true) r):=by
 refine sC Qr func174 ?_;conv=>whnf
 have v:=GU p;have n:=RN z;rw[<-n];generalize allR p=L at*
 have y:=WU L;repeat' ((first|(refine iM fun _=>?_)|refine cP v ?_)<;>conv=>whnf)
 refine lI (fun j:Nat=>⟨[(1,.p (.ip p.cells)),(2,.ptr 1 0),(6,.p (VY L)),(7,.p (.int .i64 (L.map fun i=>AV.agg i.cells).length)),(8,.j j)],[(1,.obj 68 [.p (.int .i64 0),.j 0])]⟩) (fun j=>j<=L.length/\∀x∈L.take j,x.s.kind=4->JI p x.s=true) (fun j=>L.length-j) 0 ⟨z1q _,fun x k=>by rw[z5f]at k;cases k⟩ ?_;rintro j ⟨b,q⟩;rcases z1w j L.length with l|l
 .have w:=KT p L[j].s;have m:L[j].s∈L.map RI.s:=z1z.2 ⟨_,z1h l,rfl⟩;have o:(L[j].s.kind=4->JI p L[j].s=true)->∀x∈L.take (j+1),x.s.kind=4->JI p x.s=true:=fun h x k=>by
   rcases(QO l).1 k with u|rfl
   .exact q x u
   .exact h
  conv=>whnf
  repeat' ((first|(refine gX ?_;intros)|refine cP w ?_|refine cP (XW 6 _) ?_|((first|apply bD|apply bN)<;>intro _<;>try omega))<;>conv=>whnf)
  all_goals first
   |exact nX (j+1) ⟨l,o fun h=>by first|assumption|omega⟩
   | (refine ZH ⟨fun h=>by omega,fun h=>?_⟩
      have:=h _ m (by omega);simp_all
      done)
 .conv=>whnf
  repeat' ((first|refine z1s rfl ?_|(apply bD<;>intro _<;>try omega))<;>conv=>whnf)
  refine ZH ⟨fun _ t a=>?_,fun _=>rfl⟩;obtain⟨x,k,rfl⟩:=z1z.1 a;exact q x (by rw[z1f l];exact k)
def LN(p:Pg)(C:Fit p)(g:(XZ p).1=0)(q:∀t∈WE p,t.kind=4->JI p t=true):SpecP prog 176 [.agg p.cells] (fun r=>fltR (∀t∈WE p,t.kind=4->XI t.name (KX p t.D) t.args []=true) r):=by
 refine sC PX func176 ?_;conv=>whnf
 obtain⟨d,P,K⟩:=UA g;have G:=GU p;have l:=RN d;have y:∀x∈allR p,oneOk x.s=true:=fun x k=>by rw[Y2 d]at k;exact(IZ d x k).2
 have c:∀x∈allR p,x.s.kind=4->aP 240 [.agg p.cells,.agg x.s.cells] (.bool (XI x.s.name (KX p x.s.D) x.s.args [])):=fun x k E=>by
  have b:x.s∈WE p:=by rw[<-l];exact z1z.2 ⟨x,k,rfl⟩
  have z:=b;unfold WE at z;obtain⟨f,u,v⟩:=z1c.1 z;have e:=(Ys g u v E).1;have Q:=Hn _ _ v;have B:=C.pr u;have O:=R8 x.s;have F:=HM x.s.args;have m:=Uj p C g x.s e (by unfold wPr at B;omega) fun a ha M J=>by
   have n:=z3x.1 (KP (y x k)).args a ha;unfold argR at n;rw[M,z1n,J]at n;simp at n;have:=Yv n.1;cases this
  unfold IV at m;rw[q _ b E,z6z]at m;exact m
 rw[<-l];clear l q y;generalize allR p=L at*
 have I:=WU L;repeat' ((first|(refine iM fun _=>?_)|refine cP G ?_)<;>conv=>whnf)
 refine lI (fun j:Nat=>⟨[(1,.p (.ip p.cells)),(2,.ptr 1 0),(6,.p (VY L)),(7,.p (.int .i64 (L.map fun i=>AV.agg i.cells).length)),(8,.j j)],[(1,.obj 68 [.p (.int .i64 0),.j 0])]⟩) (fun j=>j<=L.length/\∀x∈L.take j,x.s.kind=4->XI x.s.name (KX p x.s.D) x.s.args []=true) (fun j=>L.length-j) 0 ⟨z1q _,fun x k=>by rw[z5f]at k;cases k⟩ ?_;rintro j ⟨F,m⟩;rcases z1w j L.length with o|o
 .have H:=c _ (z1h o);have w:L[j].s∈L.map RI.s:=z1z.2 ⟨_,z1h o,rfl⟩;have A:(L[j].s.kind=4->XI L[j].s.name (KX p L[j].s.D) L[j].s.args []=true)->∀x∈L.take (j+1),x.s.kind=4->XI x.s.name (KX p x.s.D) x.s.args []=true:=fun h x k=>by
   rcases(QO o).1 k with n|rfl
   .exact m x n
   .exact h
  conv=>whnf
  repeat' ((first|(refine gX ?_;intros)|refine cP (H (by omega)) ?_ (ha:=.cons (Sub.refl _) (.cons (Sub.refl _) .nil))|refine cP (XW 8 _) ?_|((first|apply bD|apply bN)<;>intro _<;>try omega))<;>conv=>whnf)
  all_goals first
   |exact nX (j+1) ⟨o,A fun h=>by first|assumption|omega⟩
   | (refine ZH ⟨fun h=>by omega,fun h=>?_⟩
      have:=h _ w (by omega);simp_all
      done)
 .conv=>whnf
  repeat' ((first|refine z1s rfl ?_|(apply bD<;>intro _<;>try omega))<;>conv=>whnf)
  refine ZH ⟨fun _ t N=>?_,fun _=>rfl⟩;obtain⟨x,k,rfl⟩:=z1z.1 N;exact m x (by rw[z1f o];exact k)
def SA(p:Pg):WZ p=false↔XS p.C=false/\XS (procsN p)=false/\(JF p mainS).2=true/\(JF p mainS).1.B.length=0:=by
 unfold WZ JF;have h:(procsN p).any (fun s=>mainS==s)=(p.A.find? fun f=>f.name==mainS).isSome:=by
  unfold procsN;rw[z4z,List.find?_isSome,List.any_map,z3z];simp only[Function.comp,z4n];exact⟨fun⟨x,a,b⟩=>⟨x,a,b.symm⟩,fun⟨x,a,b⟩=>⟨x,a,b.symm⟩⟩
 have i:(p.A.find? fun f=>mainS==f.name)=p.A.find? fun f=>f.name==mainS:=by
  congr 1;funext f;exact Bool.beq_comm
 rw[h,i];cases p.A.find? fun f=>f.name==mainS with
 |none=>simp
 |some f=>simp
def A8(i:Fit p){f:Pr}(h:f∈p.A):f.B.length<=21000/\f.R.length<=21000/\f.fin.length<=21000/\p.C.length<=21000:=by
 have j:=i.pr h;have m:=PC f.R;have n:=PC f.fin;have o:=PC p.C;have k:wPg p<=21000:=i;have q:f.B.length<=x3j f.B:=by
  generalize f.B=l;induction l with
  |nil=>exact z1q _
  | cons a r s=>
    rw[x3j,z2k];omega
 unfold wPr at j;unfold wPg at k;omega
def Uy(p:Pg)(hf:Fit p):SpecP prog 173 [.agg p.cells] (fun r=>fltR ((XZ p).1=0) r):=by
 refine sC Qm func173 ?_;conv=>whnf
 have hM:=HS p;cases O:UG p with
 | false=>
   rw[O]at hM;repeat' ((first|(refine gX ?_;intros)|refine cP hM ?_|refine cP (XW 1 0) ?_|(apply bN<;>intro _))<;>conv=>whnf)
   all_goals first
    |(exfalso;simp_all;done)
    | (refine ZH ⟨fun h=>by omega,fun h=>?_⟩
       have:=(UA h).1;rw[O]at this;cases this)
 | true =>
   rw[O]at hM;obtain⟨hg,hpl,hcn⟩:=ZR O;rw[q0p O,SA];have hpll:(p.A.map fun f=>AV.agg f.cells).length=p.A.length:=z0s _;repeat' ((first|(refine iM fun _=>?_)|refine cP hM ?_|(apply bN<;>intro _))<;>conv=>whnf)
   all_goals first
    |(exfalso;simp_all;done)
    |skip
   refine lJ (fun x:Nat×List Str=>⟨[(1,.p (.ip p.cells)),(2,.ptr 1 0),(3,.hd 0 0 x.2.length),(19,.p (.sl (p.A.map fun f=>.agg f.cells))),(20,.p (.int .i64 (p.A.map fun f=>AV.agg f.cells).length)),(21,.j x.1)],[(0,.own 9 1 (x.2.map .str)),(1,.obj 68 [.p (.int .i64 0),.j 0])]⟩) (fun x=>x.1<=p.A.length/\x.2=(procsN p).take x.1) (fun x=>p.A.length-x.1) (0,[]) (lM [(0,.own 9 1 [])]) ⟨z1q _,by simp⟩ ?_;rintro⟨j,g⟩ ⟨Z,y⟩;simp only at Z y⊢;have hpn:(procsN p).length=p.A.length:=by simp[procsN]
   rcases z1w j p.A.length with N|N
   .have e1:(procsN p).take (j+1)=g++[p.A[j].name]:=by
     rw[z1y (by omega),<-y];simp[procsN]
    have hal:g.length<=16:=by rw[y,z1r];omega
    conv=>whnf
    repeat' ((first|(refine gX ?_;intros)|refine pS ?_|(apply bD<;>intro _<;>try omega))<;>conv=>whnf)
    all_goals exact⟨(j+1,g++[p.A[j].name]),⟨by simp only;omega,by simp only;rw[e1]⟩,by simp only;omega,Le.of_eq (by simp only[z0e,z1v];rfl)⟩
   rw[z1f (by omega)]at y;subst y;have hN:=VX p mainS;have hmq:∀q:Prop,((JF p mainS).2=true/\(JF p mainS).1.B.length=0/\q)->q:=fun q h=>h.2.2;have U:=ZA p.C;have V:=ZA (procsN p);generalize(JF p mainS).2=mk at*
   generalize(JF p mainS).1=mf at*
   have hmfl:(mf.B.map fun a=>AV.agg a.cells).length=mf.B.length:=z0s _;conv=>whnf
   repeat' ((first|(refine gX ?_;intros)|refine cP hN ?_|refine cP U ?_|(refine QB V (.cons (.hd rfl (by simp)) .nil) (by rintro _ rfl;rfl) ?_;rintro _ rfl)|refine cP (XW 5 0) ?_|((first|apply bD|apply bN|apply bB)<;>intro _<;>try omega))<;>conv=>whnf)
   all_goals first
    | (refine ZH ⟨fun h=>by omega,fun⟨⟨P,L,Q,M⟩,h8⟩=>?_⟩
       exfalso;simp_all
       done)
    | (refine ZH ⟨fun h=>by omega,fun⟨⟨P,L,Q,M⟩,h8⟩=>?_⟩
       omega)
    |skip
   have G1:XS p.C=false:=by assumption
   have G2:XS (procsN p)=false:=by assumption
   have G3:mk=true:=by assumption
   have G4:mf.B.length=0:=by omega
   have c:(((XS p.C=false/\XS (procsN p)=false/\mk=true/\mf.B.length=0)/\∀f∈p.A,ScopeOK p f) ↔ ∀f∈p.A,ScopeOK p f):=⟨fun h=>h.2,fun h=>⟨⟨G1,G2,G3,G4⟩,h⟩⟩;rw[c];clear c U V hN hmq G1 G2 G3 G4;refine lI (fun j:Nat=>⟨[(1,.p (.ip p.cells)),(2,.ptr 1 0),(3,.hd 0 0 (procsN p).length),(55,.p (.sl (p.A.map fun f=>.agg f.cells))),(56,.p (.int .i64 (p.A.map fun f=>AV.agg f.cells).length)),(57,.j j)],[(0,.own 9 1 ((procsN p).map .str)),(1,.obj 68 [.p (.int .i64 0),.j 0])]⟩) (fun j=>j<=p.A.length/\∀f∈p.A.take j,ScopeOK p f) (fun j=>p.A.length-j) 0 ⟨z1q _,fun f h=>by rw[z5f]at h;cases h⟩ ?_;rintro j ⟨Z,y⟩;rcases z1w j p.A.length with N|N;rotate_left 1
   .rw [z1f N]at y;conv=>whnf
    repeat' ((first|refine z1s rfl ?_|(apply bD<;>intro _<;>try omega))<;>conv=>whnf)
    exact ZH ⟨fun _=>y,fun _=>rfl⟩
   have o:=z1h N;obtain⟨w1,w2,w3,w4⟩:=A8 hf o;have Y:=hf.pr o;have hPm:=Zr p.A[j] (by omega);have hF:=XU p.A[j];have k:(UV p.A[j]).map RI.s=flL p.A[j].body:=by rw[VL O o];exact NN 1 0 false _
   have hrl:=BU p.A[j];have E:∀x∈UV p.A[j],x.s.args.length<=21000:=fun x w=>by
    have z:x.s∈flL p.A[j].body:=by
     rw[<-k];exact z1z.2 ⟨_,w,rfl⟩
    have P:=Hn _ _ z;have L:=R8 x.s;have Q:=HM x.s.args;unfold wPr at Y;omega
   have F:allV p p.A[j]=p.C++((p.A[j].B.map Param.name)++p.A[j].R):=rfl;have hT:=ZA (allV p p.A[j]);rw[F]at hT;have hnd:=WC (l:=allV p p.A[j]);rw[F]at hnd;have d:¬ScopeOK p p.A[j]->¬∀f∈p.A,ScopeOK p f:=fun h Z=>h (Z _ o);have H:ScopeOK p p.A[j]->∀f∈p.A.take (j+1),ScopeOK p f:=fun h f hfq=>by
    rcases(QO N).1 hfq with P|rfl
    .exact y f P
    .exact h
   have J:((p.C++((p.A[j].B.map Param.name)++p.A[j].R)).Nodup/\∀x∈UV p.A[j],knownB p p.A[j] (procsN p) x.s=true)↔ScopeOK p p.A[j]:=by
    constructor
    .rintro ⟨a,b⟩;exact⟨a,fun t ht=>by
      rw[<-k]at ht;obtain⟨x,w,rfl⟩:=z1z.1 ht;exact b x w⟩
    .rintro ⟨a,b⟩;exact⟨a,fun x w=>b _ (by rw[<-k];exact z1z.2 ⟨x,w,rfl⟩)⟩
   have hkd:=fun v=>Jq p p.A[j] v;have hkn:∀t:S,knownB p p.A[j] (procsN p) t=((WW t).all (fun n=> !(DJ p p.A[j] n==0))&&(decide (t.kind≠4)||(!(t.D==mainS)&&inS (procsN p) t.D))):=fun t=>by rw[Jr];rfl
   clear F Y k o;generalize UV p.A[j]=its at*
   generalize ScopeOK p p.A[j]=SK at*
   have hil:=WU its;rw[show eStrs (p.C++((p.A[j].B.map Param.name)++p.A[j].R))=AV.sl (p.C.map .str++(p.A[j].B.map Param.name).map .str++p.A[j].R.map .str) by unfold eStrs;rw[z1v,z1v,z1m]]at hT;conv=>whnf
   repeat' ((first|(refine iM fun _=>?_)|refine dA ?_|refine z1s rfl ?_|refine aD ?_|(refine iA fun _=>?_)|refine cP hPm ?_|refine z5l (fun x w=>by cases w) rfl ?_|refine XM _ (by simp) (by simp;omega) ?_|(refine QB hT (.cons (.hd rfl (by simp<;>omega)) .nil) (by rintro _ rfl;rfl) ?_;rintro _ rfl)|refine cP (XW 5 0) ?_|refine cP hF ?_|((first|apply bD|apply bB)<;>intro _<;>try omega))<;>conv=>whnf)
   all_goals first
    | (refine ZH ⟨fun h=>by omega,fun T=>absurd T (d fun hS=>?_)⟩
       have:=hnd.2 (J.2 hS).1;simp_all
       done)
    |skip
   have hND:=hnd.1 (by assumption);have G:∀x∈its,knownB p p.A[j] (procsN p) x.s=false->¬∀f∈p.A,ScopeOK p f:=fun x w h=>d fun hS=>by
    have:=(J.2 hS).2 x w;rw[this]at h;cases h
   clear hT hnd;refine lI (fun m:Nat=>⟨[(1,.p (.ip p.cells)),(2,.ptr 1 0),(3,.hd 0 0 (procsN p).length),(9,.p (.ip p.A[j].cells)),(55,.p (.sl (p.A.map fun f=>.agg f.cells))),(56,.p (.int .i64 (p.A.map fun f=>AV.agg f.cells).length)),(57,.j j),(74,.p (VY its)),(75,.p (.int .i64 (its.map fun i=>AV.agg i.cells).length)),(76,.j m)],[(0,.own 9 1 ((procsN p).map .str)),(1,.obj 68 [.p (.int .i64 0),.j 0])]⟩) (fun m=>m<=its.length/\∀x∈its.take m,knownB p p.A[j] (procsN p) x.s=true) (fun m=>its.length-m) 0 ⟨z1q _,fun x h=>by rw[z5f]at h;cases h⟩ ?_;rintro m ⟨P,L⟩;rcases z1w m its.length with u|u;rotate_left 1
   .rw [z1f u]at L;conv=>whnf
    repeat' ((first|refine wI ?_|(apply bD<;>intro _<;>try omega))<;>conv=>whnf)
    exact nX (j+1) ⟨by omega,H (J.1 ⟨hND,L⟩)⟩
   have hna:=E _ (z1h u);have hSd:=BC its[m].s hna;have hB:=G _ (z1h u);have K:knownB p p.A[j] (procsN p) its[m].s=true->∀x∈its.take (m+1),knownB p p.A[j] (procsN p) x.s=true:=fun h x w=>by
    rcases(QO u).1 w with Q|rfl
    .exact L x Q
    .exact h
   rw[hkn]at hB K;have hIn:=QF (procsN p) its[m].s.D;generalize WW its[m].s=vs at*
   have hvl:(vs.map AV.str).length=vs.length:=z0s _;conv=>whnf
   repeat' ((first|(refine gX ?_;intros)|refine cP hSd ?_|(apply bD<;>intro _<;>try omega))<;>conv=>whnf)
   refine lI (fun q:Nat=>⟨[(1,.p (.ip p.cells)),(2,.ptr 1 0),(3,.hd 0 0 (procsN p).length),(9,.p (.ip p.A[j].cells)),(11,.p (.ip its[m].cells)),(55,.p (.sl (p.A.map fun f=>.agg f.cells))),(56,.p (.int .i64 (p.A.map fun f=>AV.agg f.cells).length)),(57,.j j),(74,.p (VY its)),(75,.p (.int .i64 (its.map fun i=>AV.agg i.cells).length)),(76,.j m),(82,.p (eStrs vs)),(83,.p (.int .i64 (vs.map AV.str).length)),(84,.j q)],[(0,.own 9 1 ((procsN p).map .str)),(1,.obj 68 [.p (.int .i64 0),.j 0])]⟩) (fun q=>q<=vs.length/\(vs.drop q).all (fun n=> !(DJ p p.A[j] n==0))=vs.all fun n=> !(DJ p p.A[j] n==0)) (fun q=>vs.length-q) 0 ⟨z1q _,rfl⟩ ?_;rintro q ⟨Q,M⟩;rcases z1w q vs.length with hq|hq
   .have hK:=hkd vs[q];conv=>whnf
    repeat' ((first|(refine gX ?_;intros)|refine cP hK ?_|refine cP (XW 5 _) ?_|(apply bD<;>intro _<;>try omega))<;>conv=>whnf)
    all_goals first
     | (refine ZH ⟨fun h=>by omega,fun T=>absurd T (hB ?_)⟩
        have I:DJ p p.A[j] vs[q]=0:=by assumption
        have e:=Wf (p:=fun n=> !(DJ p p.A[j] n==0)) hq (by rw[I];rfl);rw[<-M,e];rfl)
     | (have I:¬DJ p p.A[j] vs[q]=0:=by assumption
        exact nX (q+1) ⟨by omega,by rw[<-M,DX (p:=fun n=> !(DJ p p.A[j] n==0)) hq (by simpa using I)]⟩)
   .rw [DQ hq]at M;rw[<-M,z6z]at hB K;conv=>whnf
    repeat' ((first|refine gX ?_|(refine QB hIn (.cons (.hd rfl (by simp)) (.cons (.p (Sub.refl _)) .nil)) (by rintro _ rfl;rfl) ?_;rintro _ rfl)|refine cP (XW 5 _) ?_|((first|apply bD|apply bN|apply bB)<;>intro _<;>try omega))<;>conv=>whnf)
    all_goals
     have z:(its[m].s.D==mainS)=(its[m].s.D==[109,97,105,110]):=rfl
    all_goals first
     | (refine ZH ⟨fun h=>by omega,fun T=>absurd T (hB ?_)⟩
        rw[z];simp_all
        done)
     | (refine nX (m+1) ⟨by omega,K ?_⟩
        rw[z];simp_all
        done)
end Go.Ab
