/- give: what a call defines. -/
import Derived.Test.YtgljdhjopolmcaaGreatRcA16
set_option linter.all false
set_option maxRecDepth 100000
set_option maxHeartbeats 16000000
open List (length)
namespace Go.Ab
open Go.Proofs.Tryz
open Go.Proofs
variable {a i:Int}{e:Bool}{j:Nat}{y:RI}
def NZ(b:Book)(t:S):aP 142 [.ip b.cells,.agg t.cells] (.int .i64 (Zs (fun f=>f.name==t.D) b.s.p.A)):=by
 refine sC W1 func142 ?_;conv=>whnf
 have h:=VK b.s t.D;repeat' ((first|refine dA ?_|refine cP h ?_)<;>conv=>whnf)
 all_goals exact RetK.p rfl
def x5i(O:List Str)(x:Arg×Param):Bool:=x.1.ref&&inS O x.2.name
def B5(t:S)(f:Pr)(O:List Str)(j:Nat):List Str:=(((t.args.zip f.B).take j).filter (x5i O)).map fun x=>x.1.name
def SU(p:Pg)(t:S)(f:Pr)(O:List Str):List Str:=(if t.name=[]then []else [t.name])++B5 t f O t.args.length++O.filter (comB p)
def Lg(t:S)(f:Pr)(O:List Str)(j:Nat):(B5 t f O j).length<=j:=by
 unfold B5;rw[z0s];exact z2g (z2s _ _) (by rw[z1r];omega)
def TC{t:S}{f:Pr}{O:List Str}(l:j<t.args.length)(m:j<f.B.length):B5 t f O (j+1)=B5 t f O j++(if t.args[j].ref=true/\inS O f.B[j].name=true then [t.args[j].name]else []):=by
 have k:j<(t.args.zip f.B).length:=by rw[List.length_zip];omega
 unfold B5;rw[z1y k,z2j,z1v];congr 1;have e:(t.args.zip f.B)[j]=(t.args[j],f.B[j]):=List.getElem_zip;rw[e];by_cases h:t.args[j].ref=true/\inS O f.B[j].name=true
 .rw [if_pos h,z2m (by unfold x5i;simp[h])];rfl
 .rw [if_neg h,z2n (by unfold x5i;simpa using h)];rfl
def Ku(b:Book)(t:S)(i:Nat)(f:Pr)(O:List Str)(Z:Zs (fun f=>f.name==t.D) b.s.p.A=i)(Y:b.s.p.A[i]?=some f)(R:b.F[i]?=some O)(hs:O.Pairwise ltT)(hl:O.length<=1000000)(ha:t.args.length<=f.B.length)(U:t.args.length<=1000000):SpecH prog 137 [.p (.ip b.cells),.p (.agg t.cells)] [] (fun r H=>OneRow (Kh (SU b.s.p t f O)) False r H):=by
 refine sK W3 func137 ?_;conv=>whnf
 have L:=NZ b t;rw[Z]at L;have hH:=fun x=>V3 O x hs (by omega);have E:=fun x=>NW b x;have w:(b.F.map eStrs)[i]?=some (eStrs O):=by rw[z1u,R];rfl
 have J:(b.s.p.A.map fun f=>AV.agg f.cells)[i]?=some (.agg f.cells):=by rw[z1u,Y];rfl
 have V:(t.args.map fun a=>AV.agg a.cells).length=t.args.length:=z0s _;have T:(O.map AV.str).length=O.length:=z0s _;repeat' ((first|(refine gX ?_;intros)|refine XK (es:=[]) rfl (by simp) ?_|refine cP L ?_|(apply bN<;>intro _))<;>conv=>whnf)
 all_goals
  refine LoopK.inv ZI (fun x:Nat×List Str=>⟨[(0,.p (.ip b.cells)),(5,.hd 0 0 x.2.length),(6,.j i),(23,.p (.sl (t.args.map fun a=>.agg a.cells))),(24,.p (.int .i64 (t.args.map fun a=>AV.agg a.cells).length)),(25,.j x.1)],[(0,.own 9 1 (x.2.map .str))]⟩) (fun x=>x.1<=t.args.length/\x.2=(if t.name=[]then []else [t.name])++B5 t f O x.1) (fun x=>t.args.length-x.1) (0,if t.name=[]then []else [t.name]) ?_ ⟨z1q _,by simp[B5]⟩ ?_
  .first
    | (have k:(t.name==[])=true:=by assumption
       rw[if_pos (eq_of_beq k)];exact lM [(0,.own 9 1 [])])
    | (have k:(t.name==[])=false:=by assumption
       rw[if_neg (by simpa using k)];exact Le.of_eq rfl)
  rintro⟨j,h⟩ ⟨N,n⟩;simp only at N n⊢;have M:h.length<=j+1:=by
   rw[n,z0e];have:=Lg t f O j;split<;>simp<;>omega
  rcases z1w j t.args.length with c|c
  .have d:j<f.B.length:=by omega
   have m:=TC (O:=O) c d;have I:=hH f.B[j].name;have K:(f.B.map fun a=>AV.agg a.cells)[j]?=some (.agg f.B[j].cells):=by rw[z1u,z0c d];rfl
   conv=>whnf
   repeat' ((first|refine dA ?_|(refine gX ?_;intros)|refine iT w ?_|refine iT J ?_|refine iT K ?_|refine cP I ?_|refine XK (by simp) (by rw[z0s];omega) ?_|((first|apply bD|apply bB)<;>intro _<;>try omega))<;>conv=>whnf)
   all_goals first
    | (have k:t.args[j].ref=true:=by assumption
       have l:inS O f.B[j].name=true:=by assumption
       exact⟨(j+1,h++[t.args[j].name]),⟨c,by simp only;rw[m,if_pos (show t.args[j].ref=true/\inS O f.B[j].name=true from⟨k,l⟩),n,z1m]⟩,by simp only;omega,Le.of_eq (by simp only[z0e,z1v];rfl)⟩)
    | (have l:inS O f.B[j].name=false:=by assumption
       exact nX (j+1,h) ⟨c,by simp only;rw[m,if_neg (show ¬(t.args[j].ref=true/\inS O f.B[j].name=true)from fun z=>by rw[l]at z;cases z.2),z2y];exact n⟩)
    | (have k:t.args[j].ref=false:=by assumption
       exact nX (j+1,h) ⟨c,by simp only;rw[m,if_neg (show ¬(t.args[j].ref=true/\inS O f.B[j].name=true)from fun z=>by rw[k]at z;cases z.1),z2y];exact n⟩)
  .obtain rfl:j=t.args.length:=by omega
   conv=>whnf
   repeat' ((first|(refine iM fun _=>?_)|refine iT w ?_|(apply bD<;>intro _<;>try omega))<;>conv=>whnf)
   refine lI (fun x:Nat×List Str=>⟨[(0,.p (.ip b.cells)),(5,.hd 0 0 x.2.length),(70,.p (eStrs O)),(71,.p (.int .i64 (O.map AV.str).length)),(72,.j x.1)],[(0,.own 9 1 (x.2.map .str))]⟩) (fun x=>x.1<=O.length/\x.2=h++(O.take x.1).filter (comB b.s.p)/\x.2.length<=h.length+x.1) (fun x=>O.length-x.1) (0,h) ⟨z1q _,by simp,by simp⟩ ?_;rintro⟨q,o⟩ ⟨P,u,Q⟩;simp only at P u Q⊢;rcases z1w q O.length with C|C
   .have g:=z1y C;have G:=E O[q];conv=>whnf
    repeat' ((first|(refine gX ?_;intros)|refine cP G ?_|refine XK (by simp) (by rw[z0s];omega) ?_|((first|apply bD|apply bB)<;>intro _<;>try omega))<;>conv=>whnf)
    all_goals first
     | (have k:comB b.s.p O[q]=true:=by assumption
        exact⟨(q+1,o++[O[q]]),⟨C,by simp only;rw[g,z2j,z2m k,u,z1m];rfl,by simp;omega⟩,by simp only;omega,Le.of_eq (by simp only[z0e,z1v];rfl)⟩)
     | (have k:comB b.s.p O[q]=false:=by assumption
        exact nX (q+1,o) ⟨C,by simp only;rw[g,z2j,z2n (by rw[k];decide),u];simp,by simp only;omega⟩)
   .rw [z1f C]at u;have v:o=SU b.s.p t f O:=by rw[u,n];rfl
    subst v;conv=>whnf
    repeat' (apply bD<;>intro _<;>first|omega|conv=>whnf)
    all_goals exact z4g _ (z2x _) (OneRow.str rfl)
def EI:Str:=[36,114,101,116]
def caI(p:Pg)(t:S):Int:=Zs (fun f=>f.name==t.D) p.A
def caP(p:Pg)(t:S):Pr:=p.A.getD (caI p t).toNat Pr0
def caO(b:Book)(t:S):List Str:=b.F.getD (caI b.s.p t).toNat []
def YP(b:Book)(t:S):List Str:=if t.kind=1 then [t.name]else if t.kind=2 then [t.name,VW]else if t.kind=9 then [EI]else if t.kind=4 then SU b.s.p t (caP b.s.p t) (caO b t)else []
structure CallOk(b:Book)(t:S):Prop where
 i0:0<=caI b.s.p t
 i1:(caI b.s.p t).toNat<b.s.p.A.length
 io:b.s.p.A.length<=b.F.length
 rise:(caO b t).Pairwise ltT
 len:(caO b t).length<=1000000
 args:t.args.length<=(caP b.s.p t).B.length
 al:t.args.length<=1000000
def IK{b:Book}{t:S}(h:CallOk b t):SpecH prog 137 ([AV.ip b.cells,.agg t.cells].map .p) [] (OneRow (Kh (SU b.s.p t (caP b.s.p t) (caO b t))) False):=by
 have k:=h.i1;have l:=h.io;refine Ku b t (caI b.s.p t).toNat (caP b.s.p t) (caO b t) ?_ ?_ ?_ h.rise h.len h.args h.al
 .rw [z5d h.i0];rfl
 .unfold caP;rw[z0a,z0c k];rfl
 .unfold caO;rw[z0a,z0c (by omega)];rfl
def Bw(b:Book)(t:S)(l:t.kind=4->CallOk b t):SpecH prog 70 [.p (.ip b.cells),.p (.agg t.cells)] [] (fun r H=>OneRow (Kh (YP b t)) (YP b t=[]) r H):=by
 refine sK K6 func70 ?_;conv=>whnf
 have m:=fun h=>IK (l h);repeat' ((first|refine z1s rfl ?_|refine aD ?_|refine z5l (fun x k=>by rcases z0i.1 k with rfl;rfl) rfl ?_|refine z5l (fun x k=>by rcases z1g.1 k with rfl|k;rfl;rcases z0i.1 k with rfl;rfl) rfl ?_|(refine ZV 0 rfl (m (by assumption)) (.cons (.p (Sub.refl _)) (.cons (.p (Sub.refl _)) .nil)) (fun h=>h.elim) ?_;rintro _ _ _ _ ⟨rfl,rfl,rfl⟩)|(apply bD<;>intro _<;>try omega))<;>conv=>whnf)
 .rw [show YP b t=[t.name] by unfold YP;rw[if_pos (by assumption)]];exact z4g _ (z2x _) (JS (L:=[t.name]) rfl)
 .rw [show YP b t=[t.name,VW] by unfold YP;rw[if_neg (by assumption),if_pos (by assumption)]];exact z4g _ (z2x _) (JS (L:=[t.name,VW]) rfl)
 .rw [show YP b t=[EI] by unfold YP;rw[if_neg (by assumption),if_neg (by assumption),if_pos (by assumption)]];exact z4g _ (z2x _) (JS (L:=[EI]) rfl)
 .rw [show YP b t=SU b.s.p t (caP b.s.p t) (caO b t) by unfold YP;rw[if_neg (by assumption),if_neg (by assumption),if_neg (by assumption),if_pos (by assumption)]];exact z4g _ (z2x _) (JS (by rw[z0s]))
 .exact z4g _ (z2x _) (.inl ⟨rfl,rfl,by unfold YP;rw[if_neg (by assumption),if_neg (by assumption),if_neg (by assumption),if_neg (by assumption)]⟩)
def outB(p:Pg)(f:Pr)(n:Str):Bool:=comB p n||decide ((⟨n,true⟩:Param)∈f.B)
def DV(D:List (List Str))(id:Int):List Str:=D.getD (id-1).toNat []
def x4t(p:Pg)(i:Nat)(f:Pr)(D:List (List Str))(it:Item):List Str:=bif (QQ p i f).live.getD (ixI p i f it.s.id).toNat false then(DV D it.s.id).filter (outB p f)else []
def Sp(p:Pg)(i:Nat)(f:Pr)(D:List (List Str))(h:List Item):List Str:=h.flatMap (x4t p i f D)
def OI{p:Pg}{i:Nat}{f:Pr}{D:List (List Str)}{h:List Item}{k:Nat}(l:k<h.length):Sp p i f D (h.take (k+1))=Sp p i f D (h.take k)++x4t p i f D h[k]:=by
 unfold Sp;rw[z1y l,z3g];simp
def Ak{p:Pg}{i:Nat}{f:Pr}{D:List (List Str)}(l:∀d∈D,d.length<=1000)(k:List Item):(Sp p i f D k).length<=k.length*1000:=by
 refine WM k fun it _=>?_;unfold x4t;cases(QQ p i f).live.getD (ixI p i f it.s.id).toNat false with
 |false=>exact z1q _
 | true=>
   refine z2g (z2s _ _) ?_;unfold DV;rcases z1w (it.s.id-1).toNat D.length with h|h
   .rw [z0a,z0c h];exact l _ (z1h h)
   .rw [z0a,z3u h];exact z1q _
def Bv(b:Book)(p:Pg)(Z:b.s=sheetOf p)(h:QM p=true)(i:Nat)(f:Pr)(I:p.A[i]?=some f)(hW:b.ways[i]?=some (QQ p i f))(hD:b.N.length=(sheetOf p).l.length)(V:∀d∈b.N,d.length<=1000):SpecH prog 71 [.p (.ip b.cells),.j i] [] (fun r H=>OneRow (Kh (Sp p i f b.N (itsOf p i f))) False r H):=by
 refine sK K7 func71 ?_;conv=>whnf
 obtain⟨R,_,_,Y,hs⟩:=QK p;obtain⟨s1,s2,s3,s4⟩:=hs i f I;have hcn:=(XF h).2.2;have L:=Wi (sheetOf p) i (QL p.A i) (QL p.A i+QY f.body) s1 s2 (by omega) (by omega) (by omega);rw[s4]at L;have T:itL (i:Nat) 0 (-1) 0 (QL p.A i) f.body=itsOf p i f:=rfl;rw[T,<-Z]at L;have G:b.s.p=p:=by rw[Z,R]
 have C:=fun x=>NW b x;rw[G]at C;have M:(b.s.p.A.map fun f=>AV.agg f.cells)[i]?=some (.agg f.cells):=by rw[G,z1u,I];rfl
 have O:(b.ways.map fun w=>AV.ip w.cells)[i]?=some (.ip (QQ p i f).cells):=by rw[z1u,hW];rfl
 have hIl:((itsOf p i f).map fun i=>AV.agg i.cells).length=(itsOf p i f).length:=z0s _;have hil:(itsOf p i f).length<=200:=by
  have U:=z2b length s4;rw[T,z3n,z1r]at U;omega
 have F:∀k,(Sp p i f b.N ((itsOf p i f).take k)).length<=200*1000:=fun k=>by
  have U:=Ak (p:=p) (i:=i) (f:=f) V ((itsOf p i f).take k);have h2:((itsOf p i f).take k).length*1000<=200*1000:=z2c _ (by rw[z1r];omega);omega
 repeat' ((first|(refine iM fun _=>?_)|refine z1s rfl ?_|refine iT M ?_|refine cP L ?_)<;>conv=>whnf)
 refine lJ (fun k:Nat=>⟨[(0,.p (.ip b.cells)),(1,.j i),(5,.hd 0 0 (Sp p i f b.N ((itsOf p i f).take k)).length),(6,.p (.ip f.cells)),(27,.p (YC (itsOf p i f))),(28,.p (.int .i64 ((itsOf p i f).map fun i=>AV.agg i.cells).length)),(29,.j k)],[(0,.own 9 1 ((Sp p i f b.N ((itsOf p i f).take k)).map .str))]⟩) (fun k=>k<=(itsOf p i f).length) (fun k=>(itsOf p i f).length-k) 0 (lM [(0,.own 9 1 [])]) (z1q _) ?_;intro k hk;have hak:=F k;rcases z1w k (itsOf p i f).length with m|m;rotate_left 1
 .rw [z1f m];conv=>whnf
  repeat' (apply bD<;>intro _<;>first|omega|conv=>whnf)
  all_goals exact z4g _ (z2x _) (OneRow.str rfl)
 have t:=OI (p:=p) (i:=i) (f:=f) (D:=b.N) m;have hb:=ZX (QV h).1 I (X2 (z1h m));have K:=Rx p i f h I (itsOf p i f)[k].s.id (.inr (.inr hb));have Q:x4t p i f b.N (itsOf p i f)[k]=bif (QQ p i f).live.getD (ixI p i f (itsOf p i f)[k].s.id).toNat false then(DV b.N (itsOf p i f)[k].s.id).filter (outB p f)else []:=rfl;have u:((itsOf p i f)[k].s.id-1).toNat<b.N.length:=by omega
 have P:(b.N.map eStrs)[((itsOf p i f)[k].s.id-1).toNat]?=some (eStrs (DV b.N (itsOf p i f)[k].s.id)):=by
  unfold DV;rw[z1u,z0a,z0c u];rfl
 have hDl:(DV b.N (itsOf p i f)[k].s.id).length<=1000:=by
  unfold DV;rw[z0a,z0c u];exact V _ (z1h u)
 generalize(QQ p i f).live.getD (ixI p i f (itsOf p i f)[k].s.id).toNat false=lv at*
 rw[Q]at t;generalize DV b.N (itsOf p i f)[k].s.id=D at*
 generalize Sp p i f b.N ((itsOf p i f).take k)=acc at*
 have hDm:(D.map AV.str).length=D.length:=z0s _;cases lv;all_goals
  conv=>whnf
  repeat' ((first|(refine gX ?_;intros)|refine dA ?_|refine iT O ?_|refine cP K ?_|refine iT P ?_|((first|apply bD|apply bN)<;>intro _<;>try omega))<;>conv=>whnf)
 all_goals first
  |contradiction
  |exact⟨k+1,m,by omega,Le.of_eq (by rw[t,z1o,z2y];rfl)⟩
  |skip
 all_goals
  rw[z1n]at t;refine lI (fun x:Nat×List Str=>⟨[(0,.p (.ip b.cells)),(1,.j i),(5,.hd 0 0 x.2.length),(6,.p (.ip f.cells)),(27,.p (YC (itsOf p i f))),(28,.p (.int .i64 ((itsOf p i f).map fun i=>AV.agg i.cells).length)),(29,.j k),(54,.p (eStrs D)),(55,.p (.int .i64 (D.map AV.str).length)),(56,.j x.1)],[(0,.own 9 1 (x.2.map .str))]⟩) (fun x=>x.1<=D.length/\x.2=acc++(D.take x.1).filter (outB p f)/\x.2.length<=acc.length+x.1) (fun x=>D.length-x.1) (0,acc) ⟨z1q _,by simp,by simp⟩ ?_;rintro⟨q,o⟩ ⟨h4,z,h6⟩;simp only at h4 z h6⊢;rcases z1w q D.length with c|c
  .have v:=z1y c;have J:=C D[q];have E:=UR f.B ⟨D[q],true⟩;have n:outB p f D[q]=(comB p D[q]||decide ((⟨D[q],true⟩:Param)∈f.B)):=rfl;generalize hdc:decide ((⟨D[q],true⟩:Param)∈f.B)=dc at E n;conv=>whnf
   repeat' ((first|(refine gX ?_;intros)|refine cP J ?_|refine cP E ?_ (ha:=.cons (Sub.refl _) (.cons (Sub.agg (.cons (Sub.refl _) (.cons (Sub.tt rfl) .nil))) .nil))|refine XK (by simp) (by rw[z0s];omega) ?_|((first|apply bD|apply bB)<;>intro _<;>try omega))<;>conv=>whnf)
   all_goals first
    | (have g:outB p f D[q]=true:=by rw[n,show comB p D[q]=true by assumption];rfl
       exact⟨(q+1,o++[D[q]]),⟨c,by simp only;rw[v,z2j,z2m g,z,z1m];rfl,by simp;omega⟩,by simp only;omega,Le.of_eq (by simp only[z0e,z1v];rfl)⟩)
    | (have g:outB p f D[q]=true:=by rw[n,show dc=true by assumption,z8h]
       exact⟨(q+1,o++[D[q]]),⟨c,by simp only;rw[v,z2j,z2m g,z,z1m];rfl,by simp;omega⟩,by simp only;omega,Le.of_eq (by simp only[z0e,z1v];rfl)⟩)
    | (have g:outB p f D[q]=false:=by rw[n,show comB p D[q]=false by assumption,show dc=false by assumption];rfl
       exact nX (q+1,o) ⟨c,by simp only;rw[v,z2j,z2n (by rw[g];decide),z];simp,by simp only;omega⟩)
  .rw [z1f c,<-t]at z;subst z;conv=>whnf
   repeat' ((first|refine wI ?_|(apply bD<;>intro _<;>try omega))<;>conv=>whnf)
   all_goals exact nX (k+1) m
def ON(x:X):SpecH prog 141 ([AV.agg x.cells].map .p) [] (OneRow (Kh (QC x)) (QC x=[])):=by
 refine sK Jw func141 ?_;conv=>whnf
 repeat' ((first|refine cP (LD _) ?_|(apply bN<;>intro _))<;>conv=>whnf)
 .refine CallK.nil 5 9 1 rfl (.cons rfl (.row .nil)) ?_;refine cJ [(2000,5)] 0 (De 20 (by omega) x (by assumption) [] (by simp)) ?_;rintro l' H' ⟨rfl,rfl⟩;conv=>whnf
  have e:QC x=B3 x []:=by
   unfold QC;rw[show EU x=true by assumption];rfl
  rw[e];exact z4g _ (z2x _) (UI rfl)
 .have e:QC x=[]:=by
   unfold QC;rw[show EU x=false by assumption];rfl
  exact z4g _ (z2x _) (.inl ⟨rfl,rfl,e⟩)
def usA(a:Arg):List Str:=(if a.ref=true then [a.name]else [])++QC a.x
def inAt(b:Book)(t:S):List Str:=b.ins.getD (caI b.s.p t).toNat []
def Rp(t:S):List Str:=QC t.x++(if t.kind=2 then [VW]else [])
def KA(b:Book)(t:S):List Str:=if t.kind=4 then Rp t++t.args.flatMap usA++inAt b t else Rp t
def Ct(a:Arg):(usA a).length<=1048577:=by
 have:=ZM a.x;unfold usA;rw[z0e];split<;>simp<;>omega
def R6(t:S):(Rp t).length<=1048577:=by
 have:=ZM t.x;unfold Rp;rw[z0e];split<;>simp<;>omega
def H5(t:S)(j:Nat):List Str:=Rp t++(t.args.take j).flatMap usA
def q2o(t:S)(ha:t.args.length<=21000):(H5 t j).length<=23000000000:=by
 have h:=R6 t;have k:=HK Ct (t.args.take j);have l:(t.args.take j).length*1048577<=21000*1048577:=z2c _ (by simp;omega);unfold H5;simp only[z0e];omega
def RH{t:S}(h:j<t.args.length):H5 t (j+1)=H5 t j++usA t.args[j]:=by
 unfold H5;rw[z1y h,z3g,z1m];simp
theorem OneRow.es{L:List Str}{es:List AV}{n:Nat}{nil:Prop}(l:es=L.map .str)(h:n=L.length):OneRow (Kh L) nil (.hd 0 0 n) [(0,.own 9 1 es)]:=by
 subst l;exact JS h
structure UseOk(b:Book)(t:S):Prop where
 i0:0<=caI b.s.p t
 ii:(caI b.s.p t).toNat<b.ins.length
 al:t.args.length<=21000
 len:(inAt b t).length<=1000000
def Bu(b:Book)(t:S)(g:t.kind=4->UseOk b t):SpecH prog 73 [.p (.ip b.cells),.p (.agg t.cells)] [] (fun r H=>OneRow (Kh (KA b t)) (KA b t=[]) r H):=by
 refine sK K8 func73 ?_;conv=>whnf
 have C:=ON t.x;have c:=NZ b t;have B:Zs (fun f=>f.name==t.D) b.s.p.A=caI b.s.p t:=rfl;rw[B]at c;have J:=ZM t.x;conv=>whnf
 refine ZV 0 rfl C (.cons (.p (Sub.refl _)) .nil) (fun l=>?_) (fun q e sz es E=>?_);rotate_left;obtain⟨rfl,rfl,rfl⟩:=E
 rotate_right
 all_goals
  conv=>whnf
  repeat' ((first|(refine gX ?_;intros)|refine XK (es:=[]) rfl (by simp) ?_|refine pS ?_|((first|apply bD|apply bE)<;>intro _<;>try omega))<;>conv=>whnf)
 .have e:KA b t=[VW]:=by unfold KA Rp;rw[if_neg (by assumption),if_pos (by assumption),l];rfl
  rw[e];exact z4g _ (z2x _) (JS (L:=[VW]) rfl)
 rotate_left
 .have e:KA b t=[]:=by unfold KA Rp;rw[if_neg (by assumption),if_neg (by assumption),l];rfl
  exact z4g _ (z2x _) (.inl ⟨rfl,rfl,e⟩)
 .have e:KA b t=QC t.x++[VW]:=by unfold KA Rp;rw[if_neg (by assumption),if_pos (by assumption)]
  rw[e];exact z4g _ (z2x _) (OneRow.es (by rw[z1v];rfl) (by simp))
 rotate_left
 .have e:KA b t=QC t.x:=by unfold KA Rp;rw[if_neg (by assumption),if_neg (by assumption),z2y]
  rw[e];exact z4g _ (z2x _) (OneRow.es rfl (by simp))
 all_goals
  have n:t.kind=4:=by assumption
  have u:=g n;have z:H5 t 0=QC t.x:=by unfold H5 Rp;rw[if_neg (by omega),z5f,z6w,z2y,z2y]
  have M:(t.args.map fun a=>AV.agg a.cells).length=t.args.length:=z0s _;have F:(b.ins.map eStrs)[(caI b.s.p t).toNat]?=some (eStrs (inAt b t)):=by
   unfold inAt;rw[z1u,z0a,z0c u.ii];rfl
  have hi0:=u.i0;have G:=u.len;have v:=u.al;refine LoopK.inv ZI (fun j:Nat=>⟨[(0,.p (.ip b.cells)),(3,.p (.ip t.cells)),(5,.hd 0 0 (H5 t j).length),(22,.p (.sl (t.args.map fun a=>.agg a.cells))),(23,.p (.int .i64 (t.args.map fun a=>AV.agg a.cells).length)),(24,.j j)],[(0,.own 9 1 ((H5 t j).map .str))]⟩) (fun j=>j<=t.args.length) (fun j=>t.args.length-j) 0 ?_ (z1q _) ?_
  .first
    | (rw[z,l]
       exact lM [(0,.own 9 1 [])])
    | (rw[z]
       exact Le.of_eq (by rw[z0s];rfl))
  intro j K;have d:=q2o t (j:=j) v;have m:t.args.length<=j->KA b t=H5 t j++inAt b t:=fun h=>by
   unfold KA H5;rw[if_pos n,z1f h]
  have o:=fun h=>RH (t:=t) (j:=j) h;generalize H5 t j=acc at*
  rcases z1w j t.args.length with k|k
  .have I:=ZM t.args[j].x;conv=>whnf
   repeat' ((first|refine cP (J1 _) ?_|(refine gX ?_;intros)|refine XM _ (by simp) (by simp;omega) ?_|refine pS ?_|((first|apply bD|apply bB)<;>intro _<;>try omega))<;>conv=>whnf)
   all_goals
    refine⟨j+1,k,by omega,Le.of_eq ?_⟩;first
     | (have w:usA t.args[j]=[t.args[j].name]++QC t.args[j].x:=by rw[usA,if_pos (by assumption)]
        rw[o k,w];simp only[z0e,z1v,z0s,<-z1m,<-z4l];rfl)
     | (have w:usA t.args[j]=QC t.args[j].x:=by rw[usA,if_neg (by rw[show t.args[j].ref=false by assumption];decide)];rfl
        rw[o k,w];simp only[z0e,z1v,z0s];rfl)
  .rw [m k];conv=>whnf
   repeat' ((first|refine dA ?_|refine aD ?_|refine cP c ?_|refine iT F ?_|refine XM _ (by simp) (by simp;omega) ?_|(apply bD<;>intro _<;>try omega))<;>conv=>whnf)
   all_goals exact z4g _ (z2x _) (OneRow.es (by rw[z1v]) (by simp))
def JD(w:Way)(f:Pr):List (Int×Int):=(BW w f).map (ixP w.p w.j f w.n)
def Ca(w:Way)(f:Pr)(n:Nat)(h:WayT w f n)(E:∀t∈JD w f,(0<=t.1/\t.1<n)/\0<=t.2/\t.2<n)(l:(BW w f).length<=1000000):aP 143 [.ip w.cells] (eMat (Vj n (JD w f))):=by
 refine sC Mx func143 ?_;conv=>whnf
 have G:=h.hw;have D:=h.hn;have C:=h.hn2;have A:=K2 w f n h;have d:=GA w f h.hj h.hc (by omega) (BW w f) l;have F:(avP (JD w f)).length=(JD w f).length:=by unfold avP;rw[z0s]
 have g:(JD w f).length<=1000000:=by unfold JD;rw[z0s];exact l
 have z:(BW w f).map (ixP w.p w.j f w.n)=JD w f:=rfl;rw[z]at d;repeat' ((first|(refine gX ?_;intros)|refine z6t n (by omega) (by show 24*_<=140737488355328;omega) (by unfold maxLen;omega) ?_|refine cP A ?_|refine cP d ?_)<;>conv=>whnf)
 refine lJ (fun j:Nat=>⟨[(3,.hd 0 0 n),(14,.p (.sl (avP (JD w f)))),(15,.p (.int .i64 (avP (JD w f)).length)),(16,.j j)],[(0,.ext (.mat 54 3 1 (avI (Vj n ((JD w f).take j))) []))]⟩) (fun j=>j<=(JD w f).length) (fun j=>(JD w f).length-j) 0 (by
   refine Le.trans (OB n rfl) ?_;exact lE (hH:=.cons rfl (.of_eq (by simp[avI,Vj])) .nil)) (z1q _) ?_
 intro j M;rcases z1w j (JD w f).length with s|s
 .have q:(avP (JD w f))[j]?=some (.agg [.int .i64 (JD w f)[j].1,.int .i64 (JD w f)[j].2]):=by simp[avP,s]
  obtain⟨⟨I,J⟩,K,L⟩:=E _ (z1h s);have r:Vj n ((JD w f).take (j+1))=nxE (Vj n ((JD w f).take j)) (JD w f)[j]:=by
   unfold Vj;rw[z1y s,z7q];rfl
  have c:=D9 n ((JD w f).take j);have k:=TH n ((JD w f).take j) (JD w f)[j].1.toNat;generalize(JD w f)[j]=t at q I J K L r k;generalize Vj n ((JD w f).take j)=rows at r c k⊢;obtain⟨a,ha⟩ : ∃a:Nat,t.1=a:=⟨t.1.toNat,by omega⟩;have o:a<rows.length:=by omega
  have m:(avI rows)[a]?=some (rows[a].map (.int .i64)):=by unfold avI;rw[z1u,z0c o];rfl
  have u:(avI rows).set a (rows[a].map (.int .i64)++[.int .i64 t.2])=avI (nxE rows t):=by
   unfold nxE avI;rw[ha,z3y,z0a,z0c o,z2l,z3w,z1v];rfl
  have B:rows[a].length<=1000000:=by
   rw[ha,z3y,z0a,z0c o,z2l,z1r]at k;omega
  rw[ha]at q;conv=>whnf
  repeat' ((first|refine z1s rfl ?_|refine aD ?_|refine wI ?_|refine DrawK.of ZI mixed (.cons 0 false (.cons 1 false (.cons 2 false (.cons 3 false (.cons 4 false (.cons 5 false (.cons 6 false (.cons 8 false (.cons 9 false (.alo 7 (.cons 10 true (.cons 11 true (.cons 12 true (.cons 13 true .nil)))))))))))))) (by kernel_rfl) ?_|refine iT q ?_|refine z4u 0 rfl (by decide) ?_|refine z4u 1 rfl (by decide) ?_|refine iO a ?_|refine RowK.mk a _ (by omega) m (by simp) ?_|refine z5l (fun x H=>by rcases z0i.1 H with rfl;rfl) rfl ?_|refine OpK.focus ZI 27 0 a 2 rfl rfl m (by simp) rfl rfl ?_|refine DN rfl (by rw[z0s];omega) ?_|(refine MG ZI rfl rfl rfl rfl rfl rfl rfl rfl rfl (by decide) a [] (by omega) (by unfold avI;rw[z0s];omega) (by simp) ⟨by simp,by simp,by simp⟩ ?_)|(apply bD<;>intro _<;>try omega))<;>conv=>whnf)
  all_goals exact⟨j+1,s,by omega,Le.of_eq (by rw[r,<-u];rfl)⟩
 .have b:(JD w f).take j=JD w f:=z1f s;rw[b];have v:=D9 n (JD w f);conv=>whnf
  repeat' (apply bD<;>intro _<;>first|omega|conv=>whnf)
  exact⟨_,.mat rfl (by unfold avI;rw[z0s,v]),rfl⟩
section
variable {p:Pg}{j:Nat}{f:Pr}
def dR(p:Pg)(j:Nat)(f:Pr):Int->Int->Prop:=stR (BW (QQ p j f) f)
def T2(h:QM p=true)(m:p.A[j]?=some f){b:Int}:dR p j f a b↔wR p j f a b\/∃l∈trapsW (QQ p j f) f,∃t∈flL f.body,t.id∈l/\t.kind=10/\a=t.id/\b = -1:=by
 constructor
 .rintro ⟨s,r,rfl,rfl⟩;rcases z0o.1 ((BH (Mg h m)).2.1 s r)with n|n
  .obtain ⟨l,q,t,u,k,o,rfl⟩:=(U4 h m).1 n;exact .inr ⟨l,q,t,u,k,o,rfl,rfl⟩
  .exact .inl ⟨s,n,rfl,rfl⟩
 .rintro (⟨s,r,rfl,rfl⟩|⟨l,q,t,u,k,o,rfl,rfl⟩)
  .exact IP h m (z0o.2 (.inr r))
  .exact IP h m (s:=⟨t.id,-1,3⟩) (z0o.2 (.inl ((U4 h m).2 ⟨l,q,t,u,k,o,rfl⟩)))
def Kz(h:QM p=true)(k:p.A[j]?=some f){b:Int}(n:dR p j f a b):plP p j f a/\plP p j f b:=by
 have m:x5m p j f a b:=by
  rcases(T2 h k).1 n with l|l
  .exact (RK h k).2 (.inl l)
  .exact (RK h k).2 (.inr (.inr (.inl l)))
 exact⟨(q2i h k m).1,(q2i h k m).2.1⟩
def PB(h:QM p=true)(m:p.A[j]?=some f):∀t∈JD (QQ p j f) f,(0<=t.1/\t.1<(QY f.body+2:Nat))/\0<=t.2/\t.2<(QY f.body+2:Nat):=fun t o=>by
 obtain⟨s,n,rfl⟩:=z1z.1 o;obtain⟨k,l⟩:=Kz h m ⟨s,n,rfl,rfl⟩;exact⟨ZO k,ZO l⟩
def Ly(h:QM p=true)(t:p.A[j]?=some f){b:Int}(ha:plP p j f a)(r:plP p j f b):(ixI p j f a,ixI p j f b)∈JD (QQ p j f) f↔dR p j f a b:=by
 constructor
 .intro n;obtain⟨s,k,l⟩:=z1z.1 n;obtain⟨o,q⟩:=Kz h t ⟨s,k,rfl,rfl⟩;have m:ixI p j f s.src=ixI p j f a:=z2b Prod.fst l;have e2:ixI p j f s.dst=ixI p j f b:=z2b Prod.snd l;exact⟨s,k,UP o ha m,UP q r e2⟩
 .rintro ⟨s,k,rfl,rfl⟩;exact z1z.2 ⟨s,k,rfl⟩
end
def itemR(l:List RI)(id:Int):RI:=(l.find? fun x=>decide (x.s.id=id)).getD RI0
def inI(i:Int)(e:Bool)(y:RI):Bool:=decide (y.O=i)&&(y.M==e)
def stdR(l:List RI)(x:RI):List Int:=(l.filter (inI x.O x.M)).map fun y=>y.s.id
def nextIn:List Int->Int->Option Int
 |a::b::r,x=>if a=x then some b else nextIn (b::r) x
 |_,_=>none
inductive BehP(l:List RI):Int->Int->Prop
 |next {id v:Int} (h:nextIn (stdR l (itemR l id)) id=some v):BehP l id v
 |exit {id:Int} (h:nextIn (stdR l (itemR l id)) id=none) (h0:(itemR l id).O=0):BehP l id (-1)
 |loop {id:Int} (h:nextIn (stdR l (itemR l id)) id=none) (h0:(itemR l id).O≠0) (hk:(itemR l (itemR l id).O).s.kind=6):BehP l id (itemR l id).O
 |up {id v:Int} (h:nextIn (stdR l (itemR l id)) id=none) (h0:(itemR l id).O≠0) (hk:(itemR l (itemR l id).O).s.kind≠6) (hb:BehP l (itemR l id).O v):BehP l id v
def x0m(l:List RI)(id:Int)(e:Bool)(o:Int):Int:=((l.find? (inI id e)).map fun y=>y.s.id).getD o
def Ot{l:List RI}(o:(l.map fun x=>x.s.id).Nodup){x:RI}(m:x∈l):itemR l x.s.id=x:=by
 unfold itemR;cases h:l.find? fun y=>decide (y.s.id=x.s.id)with
 | none=>
   have:=z3l.1 h x m;simp at this
 | some y=>
   have n:=z3b h;have k:=z4a h;simp only[z2z]at k;exact LZ o y n x m k
mutual
theorem Oq(d i:Int)(e:Bool):∀(t:S){nest m:Int}{n:Nat},Gh nest n t=some m->∀x∈fuS d i e t,(x.s=t/\x.O=i/\x.M=e)\/((n:Int)+1<=x.O/\x.O<=(n:Int)+WG t)
 | .mk id kind E name pr x has args L M,nest,m,n,h,y,hy=>by
   obtain⟨_,hid,m1,h3,h4⟩:=WJ h;have hid:id=(n:Int)+1:=hid;have hc:WG (.mk id kind E name pr x has args L M)=1+QY L+QY M:=VU _;have hm1:=WP _ _ L h3;have h3':WY (nest+1) ((n+1:Nat):Int) L=some m1:=by rw[<-h3];rfl
   have h4':WY (nest+1) ((n+1+QY L:Nat):Int) M=some m:=by
    rw[<-h4,hm1];congr 1
   rw[fuS]at hy;rcases z1g.1 hy with rfl|hy
   ·exact .inl ⟨rfl,rfl,rfl⟩
   rcases z0o.1 hy with hy|hy
   ·have:=DY (d+1) id false L h3' y hy;refine .inr ?_;rcases this with h5|h5<;>omega
   ·have:=DY (d+1) id true M h4' y hy;refine .inr ?_;rcases this with h5|h5<;>omega
theorem DY(d i:Int)(e:Bool):∀(l:List S){nest m:Int}{n:Nat},WY nest n l=some m->∀x∈fuL d i e l,(x.O=i)\/((n:Int)+1<=x.O/\x.O<=(n:Int)+QY l)
 |[],_,_,_,_,y,hy=>by rw[fuL]at hy;cases hy
 | t::r,nest,m,n,h,y,hy=>by
   obtain⟨_,m1,h1,h2⟩:=ZY h;have hm1:=GC _ _ t h1;have h2':WY nest ((n+WG t:Nat):Int) r=some m:=by rw[<-h2,hm1];rfl
   have hc:QY (t::r)=WG t+QY r:=by rw[QY]
   rw[fuL]at hy;rcases z0o.1 hy with hy|hy
   ·rcases Oq d i e t h1 y hy with h5|h5
    ·exact .inl h5.2.1
    ·refine .inr ?_;omega
   ·rcases DY d i e r h2' y hy with h5|h5
    ·exact .inl h5
    ·refine .inr ?_;omega
end
def VJ{α:Type}{l:List α}{q:α->Bool}(h:∀x∈l,q x=false):l.filter q=[]:=by
 rw[List.filter_eq_nil_iff];intro x k;rw[h x k];decide
def V6(h:y.O≠i):inI i e y=false:=by
 unfold inI;rw[z2r h];rfl
def x0p(h:y.M≠e):inI i e y=false:=by
 unfold inI;rw[z6p.2 h];exact Bool.and_false _
def x0n(h:y.O=i)(k:y.M=e):inI i e y=true:=by
 unfold inI;rw[z2t h,k];simp
theorem q4b(d i:Int)(e:Bool):∀(l:List S){nest m:Int}{n:Nat},WY nest n l=some m->i<=n->((fuL d i e l).filter (inI i e)).map (fun y=>y.s.id)=l.map S.id
 |[],_,_,_,_,_=>by rw[fuL];rfl
 | t::r,nest,m,n,h,hi=>by
   obtain⟨_,F,A,C⟩:=ZY h;obtain⟨_,E,G,B,D⟩:=WJ A;have w:=GC _ _ t A;have k:WY nest ((n+WG t:Nat):Int) r=some m:=by rw[<-C,w];rfl
   have z:=WP _ _ t.L B;have o:WY (nest+1) ((n+1:Nat):Int) t.L=some G:=by rw[<-B];rfl
   have u:WY (nest+1) ((n+1+QY t.L:Nat):Int) t.M=some F:=by rw[<-D,z];congr 1
   have b:=VJ (l:=fuL (d+1) t.id false t.L) (q:=inI i e) fun x g=>V6 (by rcases DY _ _ _ _ o x g with v|v<;>omega);have c:=VJ (l:=fuL (d+1) t.id true t.M) (q:=inI i e) fun x g=>V6 (by rcases DY _ _ _ _ u x g with v|v<;>omega);rw[fuL,Pb,z5t,z2m (show inI i e (⟨t,d,i,e⟩:RI)=true from x0n rfl rfl),z2j,z2j,b,c,z2y,z4v,z1t,q4b d i e r k (by omega),z1t]
theorem Ff(d i:Int)(e k:Bool)(C:e≠k):∀(l:List S){nest m:Int}{n:Nat},WY nest n l=some m->i<=n->(fuL d i e l).filter (inI i k)=[]
 |[],_,_,_,_,_=>by rw[fuL];rfl
 | t::r,nest,m,n,h,hi=>by
   obtain⟨_,G,A,D⟩:=ZY h;obtain⟨_,F,H,B,E⟩:=WJ A;have w:=GC _ _ t A;have o:WY nest ((n+WG t:Nat):Int) r=some m:=by rw[<-D,w];rfl
   have z:=WP _ _ t.L B;have s:WY (nest+1) ((n+1:Nat):Int) t.L=some H:=by rw[<-B];rfl
   have u:WY (nest+1) ((n+1+QY t.L:Nat):Int) t.M=some G:=by rw[<-E,z];congr 1
   have b:=VJ (l:=fuL (d+1) t.id false t.L) (q:=inI i k) fun x g=>V6 (by rcases DY _ _ _ _ s x g with v|v<;>omega);have c:=VJ (l:=fuL (d+1) t.id true t.M) (q:=inI i k) fun x g=>V6 (by rcases DY _ _ _ _ u x g with v|v<;>omega);rw[fuL,Pb,z5t,z2n (by rw[x0p C];decide),z2j,z2j,b,c,z2y,z4v,Ff d i e k C r o (by omega)]
mutual
theorem x6m(d i:Int)(e:Bool):∀(t:S){nest m:Int}{n:Nat},Gh nest n t=some m->i<=n->∀u∈flS t,∀b,((fuS d i e t).filter (inI u.id b)).map (fun y=>y.s.id)=(bif b then u.M else u.L).map S.id
 | .mk id kind E name pr x has args L M,nest,m,n,h,hi,u,hu,b=>by
   obtain⟨_,hid,m1,h3,h4⟩:=WJ h;have hid:id=(n:Int)+1:=hid;have hm1:=WP _ _ L h3;have h3':WY (nest+1) ((n+1:Nat):Int) L=some m1:=by rw[<-h3];rfl
   have h4':WY (nest+1) ((n+1+QY L:Nat):Int) M=some m:=by
    rw[<-h4,hm1];congr 1
   have rg:∀{l:List S}{q:Nat}{nest m:Int},WY nest q l=some m->∀u∈flL l,(q:Int)+1<=u.id/\u.id<=(q:Int)+QY l:=fun {l q nest m} hr u hu=>by
    have h2:u.id∈GM q (QY l):=by
     rw[<-GS nest l hr];exact z1z.2 ⟨u,hu,rfl⟩
    have:=V5 h2;omega
   have hne:u.id≠i:=by
    rw[flS]at hu;rcases z1g.1 hu with rfl|hu
    ·show id≠i;omega
    rcases z0o.1 hu with hu|hu
    ·have:=rg h3' u hu;omega
    ·have:=rg h4' u hu;omega
   rw[fuS,z2n (by rw[V6 (z5q hne)];decide),z2j,z1v];rw[flS]at hu;rcases z1g.1 hu with rfl|hu
   ·show List.map _ (List.filter (inI id b) _)++List.map _ (List.filter (inI id b) _)=_;cases b with
    |true=>rw[Ff (d+1) id false true (by decide) L h3' (by omega),q4b (d+1) id true M h4' (by omega)];rfl
    |false=>rw[Ff (d+1) id true false (by decide) M h4' (by omega),q4b (d+1) id false L h3' (by omega),z5h,z2y];rfl
   rcases z0o.1 hu with hu|hu
   ·have hr:=rg h3' u hu;have hn2:=VJ (l:=fuL (d+1) id true M) (q:=inI u.id b) fun x hx=>V6 (by rcases DY _ _ _ _ h4' x hx with h5|h5<;>omega);rw[hn2,q5z (d+1) id false L h3' (by omega) u hu b,z5h,z2y]
   ·have hr:=rg h4' u hu;have hn2:=VJ (l:=fuL (d+1) id false L) (q:=inI u.id b) fun x hx=>V6 (by rcases DY _ _ _ _ h3' x hx with h5|h5<;>omega);rw[hn2,q5z (d+1) id true M h4' (by omega) u hu b,z5h,z4v]
theorem q5z(d i:Int)(e:Bool):∀(l:List S){nest m:Int}{n:Nat},WY nest n l=some m->i<=n->∀u∈flL l,∀b,((fuL d i e l).filter (inI u.id b)).map (fun y=>y.s.id)=(bif b then u.M else u.L).map S.id
 |[],_,_,_,_,_,u,hu,_=>by rw[flL]at hu;cases hu
 | t::r,nest,m,n,h,hi,u,hu,b=>by
   obtain⟨_,m1,h1,h2⟩:=ZY h;have hm1:=GC _ _ t h1;have h2':WY nest ((n+WG t:Nat):Int) r=some m:=by rw[<-h2,hm1];rfl
   have rg:∀{l:List S}{q:Nat}{nest m:Int},WY nest q l=some m->∀u∈flL l,(q:Int)+1<=u.id/\u.id<=(q:Int)+QY l:=fun {l q nest m} hr u hu=>by
    have h2:u.id∈GM q (QY l):=by
     rw[<-GS nest l hr];exact z1z.2 ⟨u,hu,rfl⟩
    have:=V5 h2;omega
   rw[fuL,z2j,z1v];rw[flL]at hu;rcases z0o.1 hu with hu|hu
   ·have hr:(n:Int)+1<=u.id/\u.id<=(n:Int)+WG t:=by
     have h5:WY nest n [t]=some m1:=by
      rw[WY,if_neg (by have:=(ZY h).1;omega),h1];simp only;rw[WY]
     have:=rg h5 u (by rw[flL,flL,z2y];exact hu);rw[QY,QY]at this;omega
    have hn2:=VJ (l:=fuL d i e r) (q:=inI u.id b) fun x hx=>V6 (by rcases DY _ _ _ _ h2' x hx with h5|h5<;>omega);rw[hn2,x6m d i e t h1 hi u hu b,z5h,z2y]
   ·have hr:=rg h2' u hu;have hn2:=VJ (l:=fuS d i e t) (q:=inI u.id b) fun x hx=>V6 (by rcases Oq _ _ _ _ h1 x hx with h5|h5<;>omega);rw[hn2,q5z d i e r h2' (by omega) u hu b,z5h,z4v]
end
theorem TG:∀(pre:List Int){a:Int}{r:List Int},(pre++a::r).Nodup->nextIn (pre++a::r) a=r.head?
 |[],a,[],_=>rfl
 |[],a,b::r,_=>by show(if a=a then some b else _)=_;rw[if_pos rfl];rfl
 | x::pre,a,r,hn=>by
   have h:(x::(pre++a::r)).Nodup:=hn;rw[z2i]at h;have k:x≠a:=fun e=>h.1 (e▸z0o.2 (.inr z1j));have m:=TG pre h.2;show nextIn (x::(pre++a::r)) a=_;cases l:pre++a::r with
   |nil=>simp at l
   | cons y q=>
     rw[l]at m;show(if x=a then some y else nextIn (y::q) a)=_;rw[if_neg k,m]
def x8c(L:List RI)(i nx:Int):Prop:=(i=0/\nx = -1)\/(i≠0/\(itemR L i).s.kind=6/\nx=i)\/(i≠0/\(itemR L i).s.kind≠6/\BehP L i nx)
mutual
theorem x9d{Lr:List RI}(hN:(Lr.map fun x=>x.s.id).Nodup)(hK:∀x∈Lr,∀b,(Lr.filter (inI x.s.id b)).map (fun y=>y.s.id)=(bif b then x.s.M else x.s.L).map S.id)(D d i:Int)(e:Bool):∀(t:S){nest m:Int}(nx lp:Int)(n:Nat),Gh nest n t=some m->(∀x∈fuS d i e t,x∈Lr)->BehP Lr t.id nx->∀it∈itS D i nx lp n t,BehP Lr it.s.id it.next
 | .mk id kind E name pr x has args L M,nest,m,nx,lp,n,h,hL,hb,it,hi=>by
   obtain⟨_,hid,m1,h3,h4⟩:=WJ h;have hid:id=(n:Int)+1:=hid;have hm1:=WP _ _ L h3;have h3':WY (nest+1) ((n+1:Nat):Int) L=some m1:=by rw[<-h3];rfl
   have h4':WY (nest+1) ((n+1+QY L:Nat):Int) M=some m:=by
    rw[<-h4,hm1];congr 1
   rw[fuS]at hL;have hx:=hL _ z1j;have hit:=Ot hN hx;have k1:=hK _ hx false;have k2:=hK _ hx true;have haft:x8c Lr id (if kind=6 then(n:Int)+1 else nx):=by
    have hit':itemR Lr id=⟨.mk id kind E name pr x has args L M,d,i,e⟩:=hit;by_cases hk:kind=6
    ·rw[if_pos hk];exact .inr (.inl ⟨by omega,by rw[hit'];exact hk,hid.symm⟩)
    ·rw[if_neg hk];exact .inr (.inr ⟨by omega,by rw[hit'];exact hk,hb⟩)
   rw[itS]at hi;rcases z1g.1 hi with rfl|hi
   ·exact hb
   rw[<-hid]at hi;rcases z0o.1 hi with hi|hi
   ·exact x5l hN hK D (d+1) id false L _ _ (n+1) [] h3' (fun y hy=>hL y (z1x _ (z0o.2 (.inl hy)))) k1 (by rw[hid]at haft⊢;exact haft) it hi
   ·exact x5l hN hK D (d+1) id true M _ _ (n+1+QY L) [] h4' (fun y hy=>hL y (z1x _ (z0o.2 (.inr hy)))) k2 (by rw[hid]at haft⊢;exact haft) it hi
theorem x5l{Lr:List RI}(hN:(Lr.map fun x=>x.s.id).Nodup)(hK:∀x∈Lr,∀b,(Lr.filter (inI x.s.id b)).map (fun y=>y.s.id)=(bif b then x.s.M else x.s.L).map S.id)(D d i:Int)(e:Bool):∀(l:List S){nest m:Int}(nx lp:Int)(n:Nat)(pre:List S),WY nest n l=some m->(∀x∈fuL d i e l,x∈Lr)->(Lr.filter (inI i e)).map (fun y=>y.s.id)=(pre++l).map S.id->x8c Lr i nx->∀it∈itL D i nx lp n l,BehP Lr it.s.id it.next
 |[],_,_,_,_,_,_,_,_,_,_,it,hi=>by rw[itL]at hi;cases hi
 | t::r,nest,m,nx,lp,n,pre,h,hL,hR,ha,it,hi=>by
   obtain⟨_,m1,h1,h2⟩:=ZY h;have hm1:=GC _ _ t h1;have h2':WY nest ((n+WG t:Nat):Int) r=some m:=by rw[<-h2,hm1];rfl
   rw[fuL]at hL;have hx:(⟨t,d,i,e⟩:RI)∈Lr:=hL _ (z0o.2 (.inl (by rw[Pb];exact z1j)));have hit:itemR Lr t.id=⟨t,d,i,e⟩:=Ot hN hx;have hnd:((pre++t::r).map S.id).Nodup:=by
    rw[<-hR];exact(z7k.map _).nodup hN
   have hnx:nextIn (stdR Lr (itemR Lr t.id)) t.id=r.head?.map S.id:=by
    unfold stdR;rw[hit,hR];rw[z1v,z1t]at hnd⊢;rw[TG _ hnd,List.head?_map]
   have hb:BehP Lr t.id (if r.isEmpty then nx else n+1+WG t):=by
    cases r with
    | nil=>
      show BehP Lr t.id nx;rw[List.head?_nil,Option.map_none]at hnx;have hin:(itemR Lr t.id).O=i:=by rw[hit]
      rcases ha with⟨h5,h6⟩|⟨h5,h6,h7⟩|⟨h5,h6,h7⟩
      ·rw[h6];exact .exit hnx (by rw[hin];exact h5)
      ·rw[h7];have:=BehP.loop hnx (by rw[hin];exact h5) (by rw[hin];exact h6)
       rwa[hin]at this
      ·exact .up hnx (by rw[hin];exact h5) (by rw[hin];exact h6) (by rw[hin];exact h7)
    | cons u r=>
      rw[if_neg (by simp)];refine .next ?_
      rw[hnx];obtain⟨_,m3,h8,_⟩:=ZY h2';have hu:=(WJ h8).2.1;show some u.id=_;rw[hu];congr 1;omega
   rw[itL]at hi;rcases z0o.1 hi with hi|hi
   ·exact x9d hN hK D d i e t _ lp n h1 (fun y hy=>hL y (z0o.2 (.inl hy))) hb it hi
   ·exact x5l hN hK D d i e r nx lp (n+WG t) (pre++[t]) h2' (fun y hy=>hL y (z0o.2 (.inr hy))) (by rw[hR,z1m];rfl) ha it hi
end

def DW:List RI->Int->Int×Bool
 |[],_=>(0,false)
 |x::r,i=>if i=0 then(0,false)else if x.s.id=i then(if x.s.kind=6 then(i,true)else DW r x.O)else DW r i
def Sf:List RI->Int->Int×Bool
 |[],_=>(0,false)
 |x::r,id=>if x.s.id=id then(if(DW r x.O).2 then DW r x.O else Sf r id)else Sf r id
def Eu{l:List RI}{n:Nat}(h:n<l.length)(i:Int):DW (l.take (n+1)).reverse i=if i=0 then(0,false)else if l[n].s.id=i then(if l[n].s.kind=6 then(i,true)else DW (l.take n).reverse l[n].O)else DW (l.take n).reverse i:=by
 rw[z1y h,List.reverse_append];show DW (l[n]::(l.take n).reverse) i=_;rw[DW]
def RR{l:List RI}{n:Nat}(h:n<l.length)(i:Int):Sf (l.take (n+1)).reverse i=if l[n].s.id=i then(if(DW (l.take n).reverse l[n].O).2 then DW (l.take n).reverse l[n].O else Sf (l.take n).reverse i)else Sf (l.take n).reverse i:=by
 rw[z1y h,List.reverse_append];show Sf (l[n]::(l.take n).reverse) i=_;rw[Sf]
def Ey:∀(l:List RI),DW l 0=(0,false)
 |[]=>rfl
 |x::r=>by rw[DW,if_pos rfl]
theorem Bo:∀(l r:List RI){i:Int},i≠0->(∀x∈l,x.s.id≠i)->DW (l++r) i=DW r i
 |[],_,_,_,_=>rfl
 |x::l,r,i,h0,h=>by rw[z5t,DW,if_neg h0,if_neg (h x z1j),Bo l r h0 fun y k=>h y (z1x _ k)]
mutual
theorem x9m(D d i:Int)(e:Bool):∀(t:S){nest m:Int}(nx lp:Int)(n:Nat),Gh nest n t=some m->(itS D i nx lp n t).map (fun it=>(it.s,it.up))=(fuS d i e t).map fun x=>(x.s,x.O)
 | .mk id kind E name pr x has args L M,nest,m,nx,lp,n,h=>by
   obtain⟨_,hid,m1,h3,h4⟩:=WJ h;have hid:id=(n:Int)+1:=hid;have hm1:=WP _ _ L h3;have h3':WY (nest+1) ((n+1:Nat):Int) L=some m1:=by rw[<-h3];rfl
   have h4':WY (nest+1) ((n+1+QY L:Nat):Int) M=some m:=by
    rw[<-h4,hm1];congr 1
   rw[itS,fuS,z1t,z1t,z1v,z1v,<-hid,x4c D (d+1) id false L _ _ _ h3',x4c D (d+1) id true M _ _ _ h4']
theorem x4c(D d i:Int)(e:Bool):∀(l:List S){nest m:Int}(nx lp:Int)(n:Nat),WY nest n l=some m->(itL D i nx lp n l).map (fun it=>(it.s,it.up))=(fuL d i e l).map fun x=>(x.s,x.O)
 |[],_,_,_,_,_,_=>by rw[itL,fuL];rfl
 | t::r,nest,m,nx,lp,n,h=>by
   obtain⟨_,m1,h1,h2⟩:=ZY h;have hm1:=GC _ _ t h1;have h2':WY nest ((n+WG t:Nat):Int) r=some m:=by rw[<-h2,hm1];rfl
   rw[itL,fuL,z1v,z1v,x9m D d i e t _ _ _ h1,x4c D d i e r _ _ _ h2']
end

mutual
theorem lpS(D:Int):∀(t:S){nest m:Int}(up nx lp:Int)(n:Nat),Gh nest n t=some m->∀it∈itS D up nx lp n t,(it.up=up/\it.loop=lp)\/∃iu∈itS D up nx lp n t,iu.s.id=it.up/\iu.s.id<it.s.id/\it.loop=if iu.s.kind=6 then iu.s.id else iu.loop
 | .mk id kind E name pr x has args L M,nest,m,up,nx,lp,n,h,it,hi=>by
   obtain⟨_,hid,m1,h3,h4⟩:=WJ h;have hid:id=(n:Int)+1:=hid;have hm1:=WP _ _ L h3;have h3':WY (nest+1) ((n+1:Nat):Int) L=some m1:=by rw[<-h3];rfl
   have h4':WY (nest+1) ((n+1+QY L:Nat):Int) M=some m:=by
    rw[<-h4,hm1];congr 1
   rw[itS]at hi⊢;rcases z1g.1 hi with rfl|hi
   ·exact .inl ⟨rfl,rfl⟩
   rcases z0o.1 hi with hi|hi
   ·have hr:=Ob h3' hi;rcases lpL D L _ _ _ (n+1) h3' it hi with⟨h5,h6⟩|⟨iu,h5,h6⟩
    ·refine .inr ⟨_,z1j,?_,?_,?_⟩
     ·rw[h5];exact hid
     ·show id<_;omega
     ·rw[h6];show(if kind=6 then(n:Int)+1 else lp)=if kind=6 then id else lp;rw[hid]
    ·exact .inr ⟨iu,z1x _ (z0o.2 (.inl h5)),h6⟩
   ·have hr:=Ob h4' hi;rcases lpL D M _ _ _ (n+1+QY L) h4' it hi with⟨h5,h6⟩|⟨iu,h5,h6⟩
    ·refine .inr ⟨_,z1j,?_,?_,?_⟩
     ·rw[h5];exact hid
     ·show id<_;omega
     ·rw[h6];show(if kind=6 then(n:Int)+1 else lp)=if kind=6 then id else lp;rw[hid]
    ·exact .inr ⟨iu,z1x _ (z0o.2 (.inr h5)),h6⟩
theorem lpL(D:Int):∀(l:List S){nest m:Int}(up nx lp:Int)(n:Nat),WY nest n l=some m->∀it∈itL D up nx lp n l,(it.up=up/\it.loop=lp)\/∃iu∈itL D up nx lp n l,iu.s.id=it.up/\iu.s.id<it.s.id/\it.loop=if iu.s.kind=6 then iu.s.id else iu.loop
 |[],nest,m,up,nx,lp,n,h,it,hi=>by rw[itL]at hi;cases hi
 | t::r,nest,m,up,nx,lp,n,h,it,hi=>by
   obtain⟨_,m1,h1,h2⟩:=ZY h;have hm1:=GC _ _ t h1;have h2':WY nest ((n+WG t:Nat):Int) r=some m:=by rw[<-h2,hm1];rfl
   rw[itL]at hi⊢;rcases z0o.1 hi with hi|hi
   ·rcases lpS D t up _ lp n h1 it hi with h5|⟨iu,h5,h6⟩
    ·exact .inl h5
    ·exact .inr ⟨iu,z0o.2 (.inl h5),h6⟩
   ·rcases lpL D r up nx lp (n+WG t) h2' it hi with h5|⟨iu,h5,h6⟩
    ·exact .inl h5
    ·exact .inr ⟨iu,z0o.2 (.inr h5),h6⟩
end
section
variable {p:Pg}{j:Nat}{f:Pr}
def Wo(h:UG p=true)(k:p.A[j]?=some f):(flatU f).map (fun x=>x.s.id)=GM (QL p.A j) (QY f.body):=by
 obtain⟨m,l⟩:=Zu h k;rw[<-GS 1 f.body l];have:=NN 1 0 false f.body;rw[<-this,z4e];rfl
def Eb(h:UG p=true)(k:p.A[j]?=some f):((flatU f).map fun x=>x.s.id).Nodup:=by
 rw[Wo h k];exact Yw _ _
def Ki{t:S}(h:t∈flL f.body):∃x∈flatU f,x.s=t:=by
 rw[<-show(flatU f).map RI.s=flL f.body from NN 1 0 false f.body]at h;exact z1z.1 h
def Tw(h:UG p=true)(k:p.A[j]?=some f):∀x∈flatU f,∀b,((flatU f).filter (inI x.s.id b)).map (fun y=>y.s.id)=(bif b then x.s.M else x.s.L).map S.id:=fun x n b=>by
 obtain⟨m,l⟩:=Zu h k;refine q5z 1 0 false f.body l (by omega) x.s ?_ b;rw[<-NN 1 0 false f.body];exact z1z.2 ⟨x,n,rfl⟩
def Py(h:UG p=true)(k:p.A[j]?=some f):((flatU f).filter (inI 0 false)).map (fun y=>y.s.id)=f.body.map S.id:=by
 obtain⟨m,l⟩:=Zu h k;exact q4b 1 0 false f.body l (by omega)
def CP(h:UG p=true)(k:p.A[j]?=some f){it:Item}(l:it∈itsOf p j f):BehP (flatU f) it.s.id it.next:=by
 obtain⟨m,n⟩:=Zu h k;exact x5l (Eb h k) (Tw h k) (j:Nat) 1 0 false f.body (-1) 0 (QL p.A j) [] n (fun x o=>o) (by rw[Py h k];rfl) (.inl ⟨rfl,rfl⟩) it l
def T7{l:List RI}{q:RI->Bool}:((l.find? q).map fun y=>y.s.id)=((l.filter q).map fun y=>y.s.id).head?:=by
 rw[List.head?_map,List.head?_filter]
def Ps(l:List S)(o:Int):((l.map S.id).head?).getD o=Bj l o:=by
 cases l<;>rfl
def Y7(h:UG p=true)(k:p.A[j]?=some f){t:S}(l:t∈flL f.body)(b:Bool)(o:Int):x0m (flatU f) t.id b o=Bj (bif b then t.M else t.L) o:=by
 obtain⟨x,m,rfl⟩:=Ki l;unfold x0m;rw[T7,Tw h k x m b,Ps]
def SD(h:UG p=true)(k:p.A[j]?=some f)(o:Int):x0m (flatU f) 0 false o=Bj f.body o:=by
 unfold x0m;rw[T7,Py h k,Ps]
def Ht(h:UG p=true)(G:p.A[j]?=some f){it:Item}(d:it∈itsOf p j f):Sf (flatU f).reverse it.s.id=(it.loop,decide (it.loop≠0)):=by
 obtain⟨m,Z⟩:=Zu h G;have o:=x4c (j:Nat) 1 0 false f.body (-1) 0 (QL p.A j) Z;have g:=Wo h G;have B:=fun it d=>lpL (j:Nat) f.body 0 (-1) 0 (QL p.A j) Z it d;have hib:=fun it (d:it∈itsOf p j f)=>ZX h G (X2 d);have V:=fun a (ha:a∈itsOf p j f) b (hb:b∈itsOf p j f) J=>Om h G ha hb J;have e1:itL (j:Nat) 0 (-1) 0 (QL p.A j) f.body=itsOf p j f:=rfl;have e2:fuL 1 0 false f.body=flatU f:=rfl;rw[e1]at o B;rw[e2]at o;have Y:(itsOf p j f).length=(flatU f).length:=by simpa using z2b length o
 have at_:∀(k:Nat)(t:k<(flatU f).length),((itsOf p j f)[k]'(by omega)).s=(flatU f)[k].s/\((itsOf p j f)[k]'(by omega)).up=(flatU f)[k].O:=fun k t=>by
  have c:=z2b (fun l=>l[k]?) o;simp only[z1u,z0c t,z0c (show k<(itsOf p j f).length by omega),z3i]at c;have R:=z3q c;exact⟨z2b Prod.fst R,z2b Prod.snd R⟩
 have r:∀(k:Nat)(t:k<(flatU f).length),(flatU f)[k].s.id=(QL p.A j:Int)+1+k:=fun k t=>by
  have c:=z2b (fun l=>l[k]?) g;have K:k<QY f.body:=by have:=UU 1 0 false f.body;rw[e2]at this;omega
  unfold GM at c;simp only[z1u,z0c t,z3i,z5c K]at c;have:=z3q c;omega
 have key:∀(k:Nat)(t:k<(flatU f).length),DW ((flatU f).take k).reverse (flatU f)[k].O=(((itsOf p j f)[k]'(by omega)).loop,decide (((itsOf p j f)[k]'(by omega)).loop≠0)):=fun k=>by
  induction k using Nat.strongRecOn with
  | _ k N=>
    intro t;obtain⟨H,w⟩:=at_ k t;have L:=r k t;rcases B _ (z1h (show k<(itsOf p j f).length by omega))with⟨I,v⟩|⟨iu,I,v,T,h8⟩
    .rw [<-w,I,v,Ey];rfl
    .obtain ⟨q,hq,rfl⟩:=z2e.1 I;obtain⟨P,b2⟩:=at_ q (by omega);have hqi:=r q (by omega);rw[H]at T;rw[P]at v T;have M:q<k:=by omega
     have E:(flatU f).take k=(flatU f).take q++(flatU f)[q]::((flatU f).take k).drop (q+1):=by
      have U:((flatU f).take k).take q++((flatU f).take k).drop q=(flatU f).take k:=z6i q _;rw[List.take_take,Nat.min_eq_left (by omega),z2v (by rw[z1r];omega),z7s]at U;exact U.symm
     have hi0:(flatU f)[k].O≠0:=by rw[<-w,<-v];omega
     have D:((flatU f).take k).reverse=(((flatU f).take k).drop (q+1)).reverse++(flatU f)[q]::((flatU f).take q).reverse:=by
      rw[E];have:((flatU f).take q++(flatU f)[q]::((flatU f).take k).drop (q+1)).drop (q+1)=((flatU f).take k).drop (q+1):=by rw[<-E]
      rw[this,List.reverse_append,z7x,z1m];rfl
     rw[D,Bo _ _ hi0 (fun x hx=>by
      obtain⟨z,hz,rfl⟩:=z2e.1 (List.mem_reverse.1 hx);rw[z3n,z1r]at hz;rw[List.getElem_drop,z7s,r _ (by omega),<-w,<-v];omega)]
     rw[DW,if_neg hi0,if_pos (by rw[<-w,<-v])];rw[h8,P];split
     .rename_i hk6;rw[<-w,<-v,z2t (by omega)]
     .exact N q M (by omega)
 obtain⟨k,t,rfl⟩:=z2e.1 d;have u:k<(flatU f).length:=by omega
 obtain⟨H,w⟩:=at_ k u;have F:∀(n:Nat),n<=(flatU f).length->Sf ((flatU f).take n).reverse (flatU f)[k].s.id=if k<n then(((itsOf p j f)[k]'(by omega)).loop,decide (((itsOf p j f)[k]'(by omega)).loop≠0))else(0,false):=fun n=>by
  induction n with
  |zero=>intro _;rfl
  | succ n N=>
    intro hn;rw[RR (show n<(flatU f).length by omega),N (by omega)];have L:=r k u;have hni:=r n (by omega);by_cases J:n=k
    .subst J;rw[if_pos rfl,key n u,if_neg (Nat.lt_irrefl n),if_pos (z7y n)];by_cases Q:((itsOf p j f)[n]'(by omega)).loop=0
     .rw [Q];rfl
     .rw [z2t Q,if_pos rfl]
    .rw [if_neg (show ¬(flatU f)[n].s.id=(flatU f)[k].s.id by omega)];by_cases C:k<n
     .rw [if_pos C,if_pos (show k<n+1 by omega)]
     .rw [if_neg C,if_neg (show ¬k<n+1 by omega)]
 have:=F (flatU f).length (z1l _);rw[z4k,if_pos u]at this;rw[H];exact this
end
def Jr(l:List Str)(x:Str):inS l x=l.any fun s=>x==s:=by
 unfold inS;congr 1;funext s;exact Bool.beq_comm
def WC{l:List Str}:XS l=false↔l.Nodup:=by
 refine⟨AS,fun h=>?_⟩;unfold XS;rw[z5e];intro i n;rw[z2h]at n;rw[z6n,z5e];intro s q m;rw[z0c n]at m;have m:l[i]=s:=eq_of_beq m;obtain⟨k,o,rfl⟩:=z2e.1 q;rw[z1r]at o;rw[z7s]at m;have:=(List.getElem_inj h).1 m;omega
theorem Zz:∀(l seen:List Str),seen.Nodup->((YI seen l).isSome=true↔(seen++l).Nodup)
 |[],seen,h=>by rw[YI,z2y];exact⟨fun _=>h,fun _=>rfl⟩
 | n::r,seen,h=>by
   rw[YI];cases o:(seen.any fun s=>n==s)with
   | true=>
     rw[z1n];obtain⟨s,x,k⟩:=z3z.1 o;have k:n=s:=eq_of_beq k;refine⟨fun h=>by(cases h),fun m=>?_⟩;rw[z3v]at m;exact absurd rfl (m.2.2 s x n z1j |> fun u=>k▸u)
   | false=>
     rw[z1o];have w:n∉seen:=fun v=>by
      have:=z5e.1 o n v;simp at this
     have q:(seen++[n]).Nodup:=by
      rw[z3v];exact⟨h,by simp,fun a ha b t e=>w (by rw[<-z0i.1 t,<-e];exact ha)⟩
     rw[Zz r (seen++[n]) q,z1m];rfl
theorem TQ(f:Pr):∀(its:List Item)(seen:List Str),seen.Nodup->((∃s,GQ f its seen=.ok s)↔(∀it∈its,YG f it=true)/\(seen++its.flatMap fun it=>it.s.E).Nodup)
 | [],seen,h=>by
   rw[GQ];refine⟨fun _=>⟨fun _ u=>(by cases u),by simpa using h⟩,fun _=>⟨seen,rfl⟩⟩
 | it::r,seen,h=>by
   have n:=Zz it.s.E seen h;rw[GQ];cases o:YI seen it.s.E with
   | none=>
     rw[o]at n;refine⟨fun⟨s,q⟩=>by(cases q),fun⟨_,k⟩=>?_⟩;have:(seen++it.s.E).Nodup:=by
      rw[z2d,<-z1m]at k;exact(z3v.1 k).1
     have:=n.2 this;cases this
   | some s=>
     obtain rfl:=V8 o;rw[o]at n;have v:=n.1 rfl;simp only;cases t:YG f it with
     | false=>
       rw[z1o];refine⟨fun⟨s,q⟩=>by(cases q),fun⟨l,_⟩=>?_⟩;have:=l it z1j;rw[t]at this;cases this
     | true=>
       rw[z1n,TQ f r _ v,z2d,z1m];constructor
       .rintro ⟨l,k⟩;refine⟨fun x m=>?_,k⟩;rcases z1g.1 m with rfl|m
        .exact t
        .exact l x m
       .rintro ⟨l,k⟩;exact⟨fun x m=>l x (z1x _ m),k⟩
theorem Pe(f:Pr):∀(its:List Item)(seen s:List Str),GQ f its seen=.ok s->s=seen++its.flatMap fun it=>it.s.E
 |[],seen,s,h=>by rw[GQ]at h;cases h;simp
 | it::r,seen,s,h=>by
   rw[GQ]at h;cases k:YI seen it.s.E with
   |none=>rw[k]at h;cases h
   | some m=>
     obtain rfl:=V8 k;rw[k]at h;simp only at h;cases l:YG f it with
     |false=>rw[l]at h;cases h
     | true=>
       rw[l,z1n]at h;rw[Pe f r _ s h,z2d,z1m]
def Fi(f:Pr):List Str:=(flL f.body).flatMap S.E++f.fin
def NV(p:Pg)(j:Nat)(f:Pr):Prop:=(∀it∈itsOf p j f,YG f it=true)/\(Fi f).Nodup
def Pc(p:Pg)(j:Nat)(f:Pr):((itsOf p j f).flatMap fun it=>it.s.E)=(flL f.body).flatMap S.E:=by
 unfold itsOf;rw[<-X1 (j:Nat) 0 (-1) 0 (QL p.A j) f.body,List.flatMap_map]
def Pa{p:Pg}{f:Pr}(v:p.A[j]?=some f):KH p j=none↔NV p j f:=by
 unfold KH NV Fi;rw[v];simp only;have k:=TQ f (itsOf p j f) [] z7v;rw[z4v,Pc]at k;have t:GQ f (itL (j:Nat) 0 (-1) 0 (QL p.A j) f.body) []=GQ f (itsOf p j f) []:=rfl;rw[t];cases r:GQ f (itsOf p j f) []with
 | error id=>
   rw[r]at k;refine⟨fun h=>by(cases h),fun⟨o,q⟩=>?_⟩;obtain⟨s,m⟩:=k.2 ⟨o,(z3v.1 q).1⟩;cases m
 | ok seen=>
   rw[r]at k;have m:=Pe f _ _ _ r;rw[z4v,Pc]at m;obtain⟨o,q⟩:=k.1 ⟨seen,rfl⟩;have n:=Zz f.fin seen (by rw[m];exact q);simp only;rw[<-m];cases l:YI seen f.fin with
   | none=>
     rw[l]at n;refine⟨fun h=>by(cases h),fun⟨_,u⟩=>?_⟩;have:=n.2 u;cases this
   | some s=>
     rw[l]at n;exact⟨fun _=>⟨o,n.1 rfl⟩,fun _=>rfl⟩
def q4e{p:Pg}(o:(XZ p).1=0):(X3 p).1=0 ↔ ∀j f,p.A[j]?=some f->NV p j f:=by
 unfold X3;rw[if_neg (by omega)];cases m:(List.range p.A.length).findSome? (KH p)with
 | some a=>
   refine⟨fun h=>by simp at h,fun h=>?_⟩;obtain⟨j,k,n⟩:=List.exists_of_findSome?_eq_some m;rw[z2h]at k;have:=(Pa (z0c k)).2 (h j _ (z0c k));rw[this]at n;cases n
 | none=>
   refine⟨fun _ j f k=>?_,fun _=>rfl⟩;have l:j<p.A.length:=(z1k.1 k).1;exact(Pa k).1 (z5g.1 m j (z2h.2 l))
def allV(p:Pg)(f:Pr):List Str:=p.C++N8 f
structure ScopeOK(p:Pg)(f:Pr):Prop where
 nd:(allV p f).Nodup
 kn:∀t∈flL f.body,knownB p f (procsN p) t=true
def Dd{p:Pg}{f:Pr}(v:XS p.C=false):UJ p f=none↔ScopeOK p f:=by
 unfold UJ;have q:(XS (N8 f)||(N8 f).any (fun n=>p.C.any fun s=>n==s))=false↔(allV p f).Nodup:=by
  unfold allV;rw[z6j,WC,z3v,z5e];have k:=WC.1 v;constructor
  .rintro ⟨a,b⟩;refine⟨k,a,fun x m y o e=>b y o ?_⟩;rw[z3z];exact⟨x,m,by rw[e];exact z4p _⟩
  .rintro ⟨_,a,b⟩;refine⟨a,fun y o w=>?_⟩;obtain⟨x,m,u⟩:=z3z.1 w;exact b x m y o (eq_of_beq u).symm
 cases r:(XS (N8 f)||(N8 f).any (fun n=>p.C.any fun s=>n==s))with
 | true=>
   rw[z1n];refine⟨fun h=>by(cases h),fun h=>?_⟩;have:=q.2 h.nd;rw[r]at this;cases this
 | false=>
   rw[z1o,z7r,z3l];constructor
   .exact fun h=>⟨q.1 r,fun t l=>by have:=h t l;simpa using this⟩
   .intro h t l;rw[h.kn t l];decide
def q0p{p:Pg}(q:UG p=true):(XZ p).1=0↔WZ p=false/\∀f∈p.A,ScopeOK p f:=by
 unfold XZ;rw[q,z1n];cases l:WZ p with
 |true=>rw[z1n];exact⟨fun h=>by simp at h,fun h=>by cases h.1⟩
 | false=>
   have n:XS p.C=false:=by
    unfold WZ at l;rw[z6j]at l;exact l.1
   rw[z1o];cases m:p.A.findSome? (UJ p)with
   | some a=>
     refine⟨fun h=>by simp at h,fun h=>?_⟩;obtain⟨f,k,o⟩:=List.exists_of_findSome?_eq_some m;rw[(Dd n).2 (h.2 f k)]at o;cases o
   |none=>exact⟨fun _=>⟨rfl,fun f k=>(Dd n).1 (z5g.1 m f k)⟩,fun _=>rfl⟩
def Hx{p:Pg}(q:(XZ p).1=0):(YZ p).1=0 ↔ ∀t∈WE p,t.kind=4->JI p t=true:=by
 unfold YZ;rw[if_neg (by omega)];cases l:(WE p).find? fun t=>decide (t.kind=4) && !JI p t with
 | some t=>
   have m:=z3b l;have k:=z4a l;simp only[z1p,z2z,z4w]at k;refine⟨fun h=>by simp at h,fun h=>?_⟩;have:=h t m k.1;rw[k.2]at this;cases this
 | none=>
   refine⟨fun _ t o n=>?_,fun _=>rfl⟩;have:=z3l.1 l t o;simp only[z1p,z2z,z4w,not_and]at this;simpa using this n
def IX{p:Pg}(ha:(YZ p).1=0):(DO p).1=0 ↔ ∀t∈WE p,t.kind=4->XI t.name (KX p t.D) t.args []=true:=by
 unfold DO;rw[if_neg (by omega)];cases l:(WE p).find? fun t=>decide (t.kind=4) && !XI t.name (KX p t.D) t.args []with
 | some t=>
   have m:=z3b l;have k:=z4a l;simp only[z1p,z2z,z4w]at k;refine⟨fun h=>by simp at h,fun h=>?_⟩;have:=h t m k.1;rw[k.2]at this;cases this
 | none=>
   refine⟨fun _ t o n=>?_,fun _=>rfl⟩;have:=z3l.1 l t o;simp only[z1p,z2z,z4w,not_and]at this;simpa using this n
def Mj{p:Pg}:QM p=true↔UG p=true/\(XZ p).1=0/\(YZ p).1=0/\(X3 p).1=0/\(DO p).1=0:=by
 refine⟨QV,fun⟨h,l,m,n,k⟩=>?_⟩;unfold QM q9d;rw[z2z,if_neg (by rw[h];decide),if_neg (by omega),if_neg (by omega),if_neg (by omega)];exact k
def RN{p:Pg}(h:UG p=true):(allR p).map RI.s=WE p:=by
 rw[Y2 h];exact q7b p.A
def x1q{l:List Nat}{a:Nat}(h:a∈l):a<=EV l:=by
 induction l with
 |nil=>cases h
 | cons b r k=>
   rw[EV];rcases z1g.1 h with rfl|h
   .omega
   .have:=k h;omega
theorem Pd:∀(n:Nat)(x:X)(k:Nat),wX x<k->BV n x<=n->Qi k x=true->UD n x=true
 |0,x,k,_,h,_=>by rw[BV]at h;omega
 |n+1,x,0,hk,_,_=>by omega
 | n+1,x,k+1,hk,h,hf=>by
   rw[BV]at h;rw[Qi,z1p,z3x]at hf;obtain⟨q,l⟩:=hf;have v:wX x=1+wXs x.kids:=by cases x;rw[wX];rfl
   have u:∀y∈x.kids,UD n y=true:=fun y r=>Pd n y k (by have:=Cc _ _ r;omega) (by have:=x1q (z1z.2 ⟨y,r,rfl⟩:BV n y∈x.kids.map (BV n));omega) (l y r);unfold BF at q;simp only[z1p,z4f,z2z,z4n]at q;obtain⟨⟨⟨⟨t,w⟩,z⟩,m⟩,b⟩:=q;rw[UD,z1p,z2z];refine⟨t.symm,?_⟩;split
   .rename_i s;rw[s,z2r (by decide)]at m;simp_all
   .rename_i s;split
    .rename_i o;rw[z2t o]at m;simp_all
    .rename_i o;rw[z2r o]at m;simp_all
def SO(x:X):mayXR x=EU x:=by
 rw[z4z];refine⟨fun h=>?_,OP⟩;unfold mayXR at h;rw[z1p,z2z]at h;exact Pd 20 x _ (z7y _) h.1 h.2
def q9b(a:Arg):argR a=V4 a:=by
 unfold argR V4 GJ NK;rw[SO];cases a.ref<;>rfl
def q5c{s:S}(h:OneF s):oneOk s=true:=by
 obtain⟨f1,f2,f3,f4,f5,f6,f7,f8,f9,f10,f11,f12,f13,f14⟩:=h;have q:s.args.all V4=true:=by
  rw[z3x]at f11⊢;exact fun a ha=>by rw[<-q9b];exact f11 a ha
 rw[SO]at f4;have k:s.kind=1\/s.kind=2\/s.kind=3\/s.kind=4\/s.kind=5\/s.kind=6\/s.kind=7\/s.kind=8\/s.kind=9\/s.kind=10:=by omega
 have t:∀{α:Type}(l:List α),l.length=0->decide (0<l.length)=false:=fun l h=>z2r (by omega);have o:¬(s.kind=1\/s.kind=2\/s.kind=10)->s.kind≠4->(s.name==[])=true:=fun E F=>by
  rcases f8 E with h|h
  .exact h
  .exact absurd h.1 F
 have m:s.kind≠9->s.has=false:=fun h=>by
  cases H:s.has with
  |false=>rfl
  |true=>exact absurd (f6 H) h
 unfold oneOk;rw[z1p];refine⟨?_,f1⟩;have key:∀(f:Flds),V0 s.kind s.has (s.name==[])=some f->f.has=false->(f.L=false->s.L.length=0)->(f.M=false->s.M.length=0)->(s.kind≠4->s.args.length=0)->GJ s.name f.name=true->GJ s.D f.D=true->NK s.x f.x=true->UW s=true:=fun f G w z b c d g A=>by
  rw[Pw G,w,d,g,A,q];have B:(!f.L&&decide (0<s.L.length))=false:=by
   cases r:f.L with
   |true=>rfl
   |false=>rw[t _ (z r)];rfl
  have e2:(!f.M&&decide (0<s.M.length))=false:=by
   cases r:f.M with
   |true=>rfl
   |false=>rw[t _ (b r)];rfl
  have C:(!decide (s.kind=4)&&decide (0<s.args.length))=false:=by
   by_cases u:s.kind=4
   .rw [z2t u];rfl
   .rw [t _ (c u)];exact Bool.and_false _
  rw[B,e2,C];rfl
 have n:s.kind≠4->GJ s.D false=true:=fun h=>f10 h;rcases k with k|k|k|k|k|k|k|k|k|k
 .exact key ⟨true,false,true,s.has,false,false⟩ (by rw[k];rfl) (m (by omega)) (fun _=>by omega) (fun _=>by omega) f12 (f7 (by omega)) (n (by omega)) (f4 (by unfold hasXB;rw[k];rfl))
 .exact key ⟨true,false,false,s.has,false,false⟩ (by rw[k];rfl) (m (by omega)) (fun _=>by omega) (fun _=>by omega) f12 (f7 (by omega)) (n (by omega)) (f5 (by unfold hasXB;rw[k];rfl))
 .exact key ⟨false,false,true,s.has,false,false⟩ (by rw[k];rfl) (m (by omega)) (fun _=>by omega) (fun _=>by omega) f12 (o (by omega) (by omega)) (n (by omega)) (f4 (by unfold hasXB;rw[k];rfl))
 .refine key ⟨!(s.name==[]),true,false,s.has,false,false⟩ (by rw[k];rfl) (m (by omega)) (fun _=>by omega) (fun _=>by omega) f12 ?_ (f9 k) (f5 (by unfold hasXB;rw[k];rfl));rcases f8 (by omega)with h|h
  .rw [h];exact h
  .rw [Yv h.2];exact h.2
 .exact key ⟨false,false,true,s.has,true,true⟩ (by rw[k];rfl) (m (by omega)) (fun h=>by cases h) (fun h=>by cases h) f12 (o (by omega) (by omega)) (n (by omega)) (f4 (by unfold hasXB;rw[k];rfl))
 .exact key ⟨false,false,true,s.has,true,false⟩ (by rw[k];rfl) (m (by omega)) (fun h=>by cases h) (fun _=>by omega) f12 (o (by omega) (by omega)) (n (by omega)) (f4 (by unfold hasXB;rw[k];rfl))
 .exact key ⟨false,false,false,s.has,false,false⟩ (by rw[k];rfl) (m (by omega)) (fun _=>by omega) (fun _=>by omega) f12 (o (by omega) (by omega)) (n (by omega)) (f5 (by unfold hasXB;rw[k];rfl))
 .exact key ⟨false,false,false,s.has,false,false⟩ (by rw[k];rfl) (m (by omega)) (fun _=>by omega) (fun _=>by omega) f12 (o (by omega) (by omega)) (n (by omega)) (f5 (by unfold hasXB;rw[k];rfl))
 .refine key ⟨false,false,s.has,false,false,false⟩ (by rw[k];rfl) rfl (fun _=>by omega) (fun _=>by omega) f12 (o (by omega) (by omega)) (n (by omega)) ?_;cases v:s.has with
  |true=>exact f4 (by unfold hasXB;rw[k,v];rfl)
  |false=>exact f5 (by unfold hasXB;rw[k,v];rfl)
 .exact key ⟨true,false,false,s.has,false,false⟩ (by rw[k];rfl) (m (by omega)) (fun _=>by omega) (fun _=>by omega) f12 (f7 (by omega)) (n (by omega)) (f5 (by unfold hasXB;rw[k];rfl))
def q4q:∀(k:Nat)(l:List S)(i:Int)(e:Bool)(out:List RI),(flF k i e l out).length<=200->(∀x∈flF k i e l out,x.deep<=12)->flF k i e l out=out++fuL (13-(k:Int)) i e l:=by
 intro k;induction k with
 | zero=>
   intro l i e out m h;cases l with
   |nil=>rw[fuL,z2y];rfl
   | cons s r=>
     exfalso;have b:flF 0 i e (s::r) out=flF 0 i e r (if out.length<=200 then out++[⟨s,13,i,e⟩]else out):=rfl;rw[b]at m h;have u:=(ML 0 i e r (if out.length<=200 then out++[⟨s,13,i,e⟩]else out)).1;by_cases w:out.length<=200
     .rw [if_pos w]at m h u;have v:∀(r:List S)(o:List RI)(x:RI),x∈o->x∈flF 0 i e r o:=fun r=>by
       induction r with
       |nil=>exact fun o x n=>n
       | cons a r z=>
         intro o x n;show x∈flF 0 i e r (if o.length<=200 then o++[⟨a,13,i,e⟩]else o);refine z _ _ ?_;split
         .exact z0o.2 (.inl n)
         .exact n
      have:=h _ (v r _ ⟨s,13,i,e⟩ (z0o.2 (.inr (z0i.2 rfl))));simp at this
     .rw [if_neg w]at m u;omega
 | succ k z=>
   intro l;induction l with
   |nil=>intro i e out m h;rw[fuL,z2y];rfl
   | cons s r c=>
     intro i e out m h;have b:flF (k+1) i e (s::r) out=flF (k+1) i e r (if out.length<=200 then flF k s.id true s.M (flF k s.id false s.L (out++[⟨s,13-((k+1:Nat):Int),i,e⟩]))else out):=rfl;rw[b]at m h⊢;have u:=(ML (k+1) i e r (if out.length<=200 then flF k s.id true s.M (flF k s.id false s.L (out++[⟨s,13-((k+1:Nat):Int),i,e⟩]))else out)).1;have w:out.length<=200:=by
      refine z3t fun D=>?_;rw[if_neg D]at u m;omega
     rw[if_pos w]at m h u⊢;have d:=c i e _ m h;rw[d]at h;have q:∀x∈flF k s.id true s.M (flF k s.id false s.L (out++[⟨s,13-((k+1:Nat):Int),i,e⟩])),x.deep<=12:=fun x n=>h x (z0o.2 (.inl n));have g:=z s.M s.id true _ (by omega) q;rw[g]at q;have t:∀x∈flF k s.id false s.L (out++[⟨s,13-((k+1:Nat):Int),i,e⟩]),x.deep<=12:=fun x n=>q x (z0o.2 (.inl n));have C:=(ML k s.id true s.M (flF k s.id false s.L (out++[⟨s,13-((k+1:Nat):Int),i,e⟩]))).1;have B:=z s.L s.id false _ (by omega) t;have A:(13:Int)-((k+1:Nat):Int)+1=13-(k:Int):=by omega
     rw[d,g,B,fuL,Pb,A];simp
mutual
theorem x1c(d i:Int)(e:Bool)(seen:Nat):∀(t:S),(fuS d i e t).map (fun x=>x.s.id)=GM seen (WG t)->(∀x∈fuS d i e t,x.deep<=12/\oneOk x.s=true)->seen+WG t<=200->Gh d seen t=some ((seen+WG t:Nat):Int)
 | .mk id kind E name D x has args L M,h1,h2,h3=>by
   have hc:WG (.mk id kind E name D x has args L M)=1+QY L+QY M:=VU _;rw[fuS]at h1 h2;rw[hc]at h1 h3⊢;have hsp:GM seen (1+QY L+QY M)=((seen:Int)+1)::(GM (seen+1) (QY L)++GM (seen+1+QY L) (QY M)):=by
    rw[<-PJ];unfold GM;rw[show 1+QY L+QY M=(QY L+QY M)+1 by omega,List.range'_succ,z1t];congr 1
   rw[hsp,z1t,z1v]at h1;have hid:id=(seen:Int)+1:=(List.cons.inj h1).1;have h1':=(List.cons.inj h1).2;have hlen:((fuL (d+1) id false L).map fun x=>x.s.id).length=(GM (seen+1) (QY L)).length:=by
    rw[z0s,UU];unfold GM;simp
   obtain⟨ha,hb⟩:=List.append_inj h1' hlen;have hok:=h2 _ z1j;have r1:=Ld (d+1) id false (seen+1) L ha (fun x hx=>h2 x (z1x _ (z0o.2 (.inl hx)))) (by omega);have r2:=Ld (d+1) id true (seen+1+QY L) M hb (fun x hx=>h2 x (z1x _ (z0o.2 (.inr hx)))) (by omega);have hoo:=hok.2;unfold oneOk at hoo;rw[z1p]at hoo;rw[Gh,if_neg (by omega),if_neg (by omega),show namesB E=true from hoo.2,z1n,show UW (.mk id kind E name D x has args L M)=true from hoo.1,z1n];have e1:(seen:Int)+1=((seen+1:Nat):Int):=by omega
   rw[e1,r1];simp only;rw[r2];congr 1;omega
theorem Ld(d i:Int)(e:Bool)(seen:Nat):∀(l:List S),(fuL d i e l).map (fun x=>x.s.id)=GM seen (QY l)->(∀x∈fuL d i e l,x.deep<=12/\oneOk x.s=true)->seen+QY l<=200->WY d seen l=some ((seen+QY l:Nat):Int)
 |[],_,_,_=>by rw[WY,QY];rfl
 | t::r,h1,h2,h3=>by
   rw[fuL]at h1 h2;have hc:QY (t::r)=WG t+QY r:=by rw[QY]
   rw[hc]at h1 h3⊢;rw[PJ,z1v]at h1;have hlen:((fuS d i e t).map fun x=>x.s.id).length=(GM seen (WG t)).length:=by
    have:=UU d i e [t];rw[fuL,fuL,z2y,QY,QY]at this;rw[z0s,this];unfold GM;simp
   obtain⟨ha,hb⟩:=List.append_inj h1 hlen;have hd:d<=12:=by
    have:(⟨t,d,i,e⟩:RI)∈fuS d i e t++fuL d i e r:=z0o.2 (.inl (by rw[Pb];exact z1j));exact(h2 _ this).1
   have r1:=x1c d i e seen t ha (fun x hx=>h2 x (z0o.2 (.inl hx))) (by omega);have r2:=Ld d i e (seen+WG t) r hb (fun x hx=>h2 x (z0o.2 (.inr hx))) (by omega);rw[WY,if_neg (by omega),r1];simp only;rw[r2];congr 1;omega
end
theorem TW:∀(l:List Pr)(seen:Nat),(∀f∈l,DG f=true)->((l.flatMap flatU).map fun x=>x.s.id)=GM seen (cntP l)->(∀x∈l.flatMap flatU,x.deep<=12/\oneOk x.s=true)->seen+cntP l<=200->(ZK seen l).isSome=true
 |[],_,_,_,_,_=>rfl
 | f::r,seen,h1,h2,h3,h4=>by
   rw[z2d]at h2 h3;have n:cntP (f::r)=QY f.body+cntP r:=by rw[cntP]
   rw[n]at h2 h4;rw[PJ,z1v]at h2;have h:((flatU f).map fun x=>x.s.id).length=(GM seen (QY f.body)).length:=by
    unfold flatU;rw[z0s,UU];unfold GM;simp
   obtain⟨ha,m⟩:=List.append_inj h2 h;have q:=Ld 1 0 false seen f.body ha (fun x k=>h3 x (z0o.2 (.inl k))) (by omega);have t:=TW r (seen+QY f.body) (fun g o=>h1 g (z1x _ o)) m (fun x k=>h3 x (z0o.2 (.inr k))) (by omega);rw[ZK,h1 f z1j,z1n,q];exact t
def E9:∀(l:List Pr)(out:List RI),(MH l out).length<=200->(∀x∈MH l out,x.deep<=12)->MH l out=out++l.flatMap flatU:=by
 intro l;induction l with
 |nil=>intro out _ _;show out=_;simp
 | cons f r m=>
   intro out h k;have mono:∀(r:List Pr)(o:List RI),o.length<=(MH r o).length:=fun r=>by
    induction r with
    |nil=>exact fun o=>z1l _
    | cons g r m=>
      intro o;show _<=(MH r (if o.length<=200 then o++UV g else o)).length;have:=m (if o.length<=200 then o++UV g else o);split at this
      .rw [if_pos (by assumption)];simp only[z0e]at this;omega
      .rw [if_neg (by assumption)];exact this
   have q:MH (f::r) out=MH r (if out.length<=200 then out++UV f else out):=rfl;rw[q]at h k⊢;have n:=mono r (if out.length<=200 then out++UV f else out);have v:out.length<=200:=by
    refine z3t fun w=>?_;rw[if_neg w]at n h;omega
   rw[if_pos v]at h k n⊢;have s:=m _ h k;rw[s]at k h⊢;simp only[z0e]at h;have t:=q4q 12 f.body 0 false [] (by show(UV f).length<=200;omega) (fun x z=>k x (z0o.2 (.inl (z0o.2 (.inr z)))));have u:UV f=flatU f:=by simpa[UV,flatU]using t
   rw[u];simp
def x4f{p:Pg}(u:p.C.length<=16)(v:p.A.length<=16)(w:namesB p.C=true)(z:∀f∈p.A,DG f=true)(b:(allR p).length<=200)(t:∀(k:Nat)(x:RI),(allR p)[k]?=some x->x.s.id=(k:Int)+1/\x.deep<=12/\oneOk x.s=true):UG p=true:=by
 have l:∀x∈allR p,x.deep<=12/\oneOk x.s=true:=fun x r=>by
  obtain⟨k,h,rfl⟩:=z2e.1 r;exact(t k _ (z0c h)).2
 have n:allR p=p.A.flatMap flatU:=by
  have:=E9 p.A [] b (fun x r=>(l x r).1);simpa[allR]using this
 have o:(p.A.flatMap flatU).map (fun x=>x.s.id)=GM 0 (cntP p.A):=by
  refine z7t fun k=>?_;rw[z1u,<-n];rcases z1w k (allR p).length with h|h
  .have m:k<cntP p.A:=by rw[<-Wh,<-n];exact h
   rw[z0c h];have:=(t k _ (z0c h)).1;unfold GM;rw[z1u,z5c m];simp only[z3i,this];congr 1;omega
  .have m:cntP p.A<=k:=by rw[<-Wh,<-n];exact h
   rw[z3u h,z3u (by unfold GM;simpa using m)];rfl
 have q:0+cntP p.A<=200:=by rw[<-Wh,<-n];omega
 have:=TW p.A 0 z o (fun x r=>l x (by rw[n];exact r)) q;unfold UG;rw[z2t u,z2t v,w];exact this
end Go.Ab
