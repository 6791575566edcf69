/- give: the book; names that are common; who lives. -/
import Derived.Test.YtmfnbgbblkhneaaGreatInoR5
import Derived.Test.YtmfnbgbblkhneaaGreatInoR9
import Derived.Test.YtmfnbgbblkhneaaGreatInoR10
import Derived.Test.YtmfnbgbblkhneaaGreatInoR13
import Derived.Test.YtmfnbgbblkhneaaGreatInoR16
import Derived.Test.YtmfnbgbblkhneaaGreatInoR18
set_option linter.unusedSimpArgs false
set_option linter.unusedVariables false
set_option maxRecDepth 100000
set_option maxHeartbeats 16000000
open List (length sum_cons)
namespace Go.Ab
open Go.Proofs.Tryz
open Go.Proofs
variable {I' O':List (List Str)}{j:Nat}{l:List Bool}
structure Book where
 s:Sheet
 ways:List Way
 defs:List (List Str)
 uses:List (List Str)
 ins:List (List Str)
 outs:List (List Str)
def Book.cells(b:Book):List AV:=[.ip b.s.cells,.sl (b.ways.map fun w=>.ip w.cells),.sl (b.defs.map eStrs),.sl (b.uses.map eStrs),.sl (b.ins.map eStrs),.sl (b.outs.map eStrs)]
def XD:Str:=[36,105,110]
def comB(p:Pg)(n:Str):Bool:=(n==XD)||p.globals.any fun s=>n==s
theorem GR(b:Book)(n:Str):SpecP prog 146 [.ip b.cells,.str n] (fun r=>r=.bool (comB b.s.p n)):=by
 refine sB PK func146 rfl call146 ?_;conv=>whnf
 repeat' (first|(refine cP (QX _ _) ?_;conv=>whnf)|(apply bB<;>intro _<;>conv=>whnf))
 all_goals first
  | (have h9:(n==XD)=true:=by assumption
     exact RetK.tt (by unfold comB;rw[h9];rfl))
  | (have h9:(n==XD)=false:=by assumption
     exact RetK.bool (by unfold comB;rw[h9,Bool.false_or]))
theorem Km(p:Pg)(j:Nat)(f:Pr)(h:XX p=true)(hj:p.procs[j]?=some f)(id:Int)(hid:plP p j f id):SpecP prog 145 [.ip (QQ p j f).cells,.int .i64 id] (fun r=>r=.bool ((QQ p j f).live.getD (ixI p j f id).toNat false)):=by
 refine sB Z3 func145 rfl call145 ?_;conv=>whnf
 have hT:=Og h hj;have hI:=MJ (QQ p j f) f hT.hj hT.hc (by have:=hT.hn2;have:=hT.hn;have:=hT.hw;omega) id;have he:YJ (loI (QQ p j f).p (QQ p j f).j) (hiI (QQ p j f).p (QQ p j f).j f) (QQ p j f).n id=ixI p j f id:=rfl;rw[he]at hI;have hr:=KX hid;have hll:(QQ p j f).live.length=cntL f.body+2:=by show(GA _ (List.replicate (cntL f.body+2) false)).length=_;rw[Lv];simp
 generalize ixI p j f id=ix at*
 have hg:((QQ p j f).live.map bv)[ix.toNat]?=some (bv ((QQ p j f).live.getD ix.toNat false)):=by
  rw[q4x,q3p,q3b (by omega)];rfl
 generalize(QQ p j f).live.getD ix.toNat false=v at*
 cases v;all_goals
  repeat' ((first|refine dA ?_|refine cP hI ?_|(refine IdxK.at (k:=ix.toNat) (by omega) hg rfl ?_));conv=>whnf)
 all_goals first
  |exact RetK.tt rfl
  |exact RetK.ff rfl
theorem De(l:List Str)(hlen:l.length<=1000000000):SpecH prog 86 [.hd 1000 0 l.length] [(1000,.own 9 1 (l.map .str))] (fun r H=>r=.hd 1000 0 (UQ l).length/\H=[(1000,.own 9 1 ((UQ l).map .str))]):=by
 refine sH Yf func86 rfl call86 ?_;conv=>whnf
 repeat' (first|(refine CallK.heap [(1000,1000)] 0 (by repeat' (first|exact q4d|refine q3i ?_ ?_|exact q3e _|exact q4q Sub.nils|exact q4q (Sub.tt rfl)|exact q4q (Sub.ff rfl)|exact q4q (Sub.int (by omega)))) (by refine q3h (j:=1000) rfl rfl ?_ ?_;exact CSub.refl _;exact q4b) (GG l hlen) rfl rfl ?_;rintro l' H' ⟨rfl,rfl⟩;conv=>whnf)|(refine CallK.heap [(1000,1000)] 0 (q3i (q8u (by rw[VM];rfl)) q4d) (by refine q3h (j:=1000) rfl rfl ?_ ?_;exact CSub.refl _;exact q4b) (JH (UO l) (by rw[VM];omega)) rfl rfl ?_;rintro l' H' ⟨rfl,rfl⟩;conv=>whnf))
 all_goals first
  |exact q5u _ (q3e _) ⟨rfl,rfl⟩
theorem GL(b:Book)(t:S):SpecP prog 149 [.ip b.cells,.agg t.cells] (fun r=>r=.int .i64 (idxF (fun f=>f.name==t.proc) b.s.p.procs)):=by
 refine sB PJ func149 rfl call149 ?_;conv=>whnf
 have hP:=XN b.s t.proc;repeat' ((first|refine dA ?_|refine cP hP ?_);conv=>whnf)
 all_goals exact RetK.p rfl
def Oy(O:List Str)(x:Arg×Param):Bool:=x.1.ref&&inS O x.2.name
def Lq(t:S)(f:Pr)(O:List Str)(j:Nat):List Str:=(((t.args.zip f.params).take j).filter (Oy O)).map fun x=>x.1.name
def Ax(p:Pg)(t:S)(f:Pr)(O:List Str):List Str:=(if t.name=[]then []else [t.name])++Lq t f O t.args.length++O.filter (comB p)
theorem Nv(t:S)(f:Pr)(O:List Str)(j:Nat):(Lq t f O j).length<=j:=by
 unfold Lq;rw[q3f];exact q5p (q7x _ _) (by rw[q4l];omega)
theorem TY{t:S}{f:Pr}{O:List Str}(h1:j<t.args.length)(h2:j<f.params.length):Lq t f O (j+1)=Lq t f O j++(if t.args[j].ref=true/\inS O f.params[j].name=true then [t.args[j].name]else []):=by
 have hz:j<(t.args.zip f.params).length:=by rw[List.length_zip];omega
 unfold Lq;rw[q4y hz,q6s,q4z];congr 1;have e:(t.args.zip f.params)[j]=(t.args[j],f.params[j]):=List.getElem_zip;rw[e];by_cases h:t.args[j].ref=true/\inS O f.params[j].name=true
 ·rw[if_pos h,q6x (by unfold Oy;simp[h])];rfl
 ·rw[if_neg h,q6d (by unfold Oy;simpa using h)];rfl
theorem X5(b:Book)(t:S)(i:Nat)(f:Pr)(O:List Str)(hi:idxF (fun f=>f.name==t.proc) b.s.p.procs=i)(hf:b.s.p.procs[i]?=some f)(hO:b.outs[i]?=some O)(hs:O.Pairwise ltT)(hl:O.length<=1000000)(ha:t.args.length<=f.params.length)(hal:t.args.length<=1000000):SpecH prog 144 [.p (.ip b.cells),.p (.agg t.cells)] [] (fun r H=>OneRow (Yx (Ax b.s.p t f O)) False r H):=by
 refine sH PG func144 rfl call144 ?_;conv=>whnf
 have hC:=GL b t;rw[hi]at hC;have hH:=fun x=>Xj O x hs (by omega);have hCo:=fun x=>GR b x;have hg1:(b.outs.map eStrs)[i]?=some (eStrs O):=by rw[q4x,hO];rfl
 have hg2:(b.s.p.procs.map fun f=>AV.agg f.cells)[i]?=some (.agg f.cells):=by rw[q4x,hf];rfl
 have ham:(t.args.map fun a=>AV.agg a.cells).length=t.args.length:=q3f _;have hOm:(O.map AV.str).length=O.length:=q3f _;repeat' (first|((first|(refine iM fun _=>?_)|refine q3l rfl ?_|refine aD ?_|refine bP ?_|refine XW (es:=[]) rfl (by simp) ?_|refine cP hC ?_);conv=>whnf)|(apply bN<;>intro _<;>conv=>whnf))
 all_goals
  refine LoopK.inv QY (fun x:Nat×List Str=>⟨[(0,.p (.ip b.cells)),(5,.hd 0 0 x.2.length),(6,.p (.int .i64 i)),(23,.p (.sl (t.args.map fun a=>.agg a.cells))),(24,.p (.int .i64 (t.args.map fun a=>AV.agg a.cells).length)),(25,.p (.int .i64 x.1))],[(0,.own 9 1 (x.2.map .str))]⟩) (fun x=>x.1<=t.args.length/\x.2=(if t.name=[]then []else [t.name])++Lq t f O x.1) (fun x=>t.args.length-x.1) (0,if t.name=[]then []else [t.name]) ?_ ⟨q3o _,by simp[Lq]⟩ ?_
  ·first
    | (have h9:(t.name==[])=true:=by assumption
       rw[if_pos (eq_of_beq h9)];exact Le.mk [(0,.own 9 1 [])] (by simp[Chunk.new0];rfl) (by simp) (by simp) (.r (.cons (.nil q3d) (.r (.r (.r (.r .nil)))))) (.new q3d .nil))
    | (have h9:(t.name==[])=false:=by assumption
       rw[if_neg (by simpa using h9)];exact Le.of_eq rfl)
  rintro⟨j,acc⟩ ⟨h2,h3⟩;simp only at h2 h3⊢;have hal2:acc.length<=j+1:=by
   rw[h3,q3m];have:=Nv t f O j;split<;>simp<;>omega
  rcases q4w j t.args.length with hj|hj
  ·have hjp:j<f.params.length:=by omega
   have hst:=TY (O:=O) hj hjp;have hHj:=hH f.params[j].name;have hg3:(f.params.map fun a=>AV.agg a.cells)[j]?=some (.agg f.params[j].cells):=by rw[q4x,q3b hjp];rfl
   conv=>whnf
   repeat' (first|((first|refine dA ?_|refine q3l rfl ?_|refine aD ?_|refine bP ?_|(refine iA fun _=>?_)|refine wI ?_|(refine IdxK.at (k:=i) rfl hg1 rfl ?_)|(refine IdxK.at (k:=i) rfl hg2 rfl ?_)|(refine IdxK.at (k:=j) rfl hg3 rfl ?_)|refine cP hHj ?_|refine XW (by simp) (by rw[q3f];omega) ?_);conv=>whnf)|(apply bD<;>intro _<;>first|omega|conv=>whnf)|(apply bB<;>intro _<;>conv=>whnf))
   all_goals first
    | (have h9:t.args[j].ref=true:=by assumption
       have h10:inS O f.params[j].name=true:=by assumption
       exact⟨(j+1,acc++[t.args[j].name]),⟨hj,by simp only;rw[hst,if_pos (show t.args[j].ref=true/\inS O f.params[j].name=true from⟨h9,h10⟩),h3,q4c]⟩,by simp only;omega,Le.of_eq (by simp only[q3m,q4z];rfl)⟩)
    | (have h10:inS O f.params[j].name=false:=by assumption
       exact⟨(j+1,acc),⟨hj,by simp only;rw[hst,if_neg (show ¬(t.args[j].ref=true/\inS O f.params[j].name=true)from fun hh=>by rw[h10]at hh;cases hh.2),q5c];exact h3⟩,by simp only;omega,Le.of_eq rfl⟩)
    | (have h9:t.args[j].ref=false:=by assumption
       exact⟨(j+1,acc),⟨hj,by simp only;rw[hst,if_neg (show ¬(t.args[j].ref=true/\inS O f.params[j].name=true)from fun hh=>by rw[h9]at hh;cases hh.1),q5c];exact h3⟩,by simp only;omega,Le.of_eq rfl⟩)
  ·obtain rfl:j=t.args.length:=by omega
   conv=>whnf
   repeat' (first|((first|(refine iM fun _=>?_)|(refine IdxK.at (k:=i) rfl hg1 rfl ?_));conv=>whnf)|(apply bD<;>intro _<;>first|omega|conv=>whnf))
   refine LoopK.inv QY (fun x:Nat×List Str=>⟨[(0,.p (.ip b.cells)),(5,.hd 0 0 x.2.length),(70,.p (eStrs O)),(71,.p (.int .i64 (O.map AV.str).length)),(72,.p (.int .i64 x.1))],[(0,.own 9 1 (x.2.map .str))]⟩) (fun x=>x.1<=O.length/\x.2=acc++(O.take x.1).filter (comB b.s.p)/\x.2.length<=acc.length+x.1) (fun x=>O.length-x.1) (0,acc) (Le.of_eq rfl) ⟨q3o _,by simp,by simp⟩ ?_;rintro⟨q,o⟩ ⟨h4,h5,h6⟩;simp only at h4 h5 h6⊢;rcases q4w q O.length with hq|hq
   ·have hn1:=q4y hq;have hCq:=hCo O[q];conv=>whnf
    repeat' (first|((first|refine q3l rfl ?_|refine aD ?_|refine bP ?_|(refine iA fun _=>?_)|refine wI ?_|refine cP hCq ?_|refine XW (by simp) (by rw[q3f];omega) ?_);conv=>whnf)|(apply bD<;>intro _<;>first|omega|conv=>whnf)|(apply bB<;>intro _<;>conv=>whnf))
    all_goals first
     | (have h9:comB b.s.p O[q]=true:=by assumption
        exact⟨(q+1,o++[O[q]]),⟨hq,by simp only;rw[hn1,q6s,q6x h9,h5,q4c];rfl,by simp;omega⟩,by simp only;omega,Le.of_eq (by simp only[q3m,q4z];rfl)⟩)
     | (have h9:comB b.s.p O[q]=false:=by assumption
        exact⟨(q+1,o),⟨hq,by simp only;rw[hn1,q6s,q6d (by rw[h9];decide),h5];simp,by simp only;omega⟩,by simp only;omega,Le.of_eq rfl⟩)
   ·rw[q4g hq]at h5;have hfin:o=Ax b.s.p t f O:=by rw[h5,h3];rfl
    subst hfin;conv=>whnf
    repeat' (apply bD<;>intro _<;>first|omega|conv=>whnf)
    all_goals exact q5u _ (q3e _) (OneRow.str rfl)
def Ei:Str:=[36,114,101,116]
def caI(p:Pg)(t:S):Int:=idxF (fun f=>f.name==t.proc) p.procs
def caP(p:Pg)(t:S):Pr:=p.procs.getD (caI p t).toNat Pr0
def caO(b:Book)(t:S):List Str:=b.outs.getD (caI b.s.p t).toNat []
def HV(b:Book)(t:S):List Str:=if t.kind=1 then [t.name]else if t.kind=2 then [t.name,XD]else if t.kind=9 then [Ei]else if t.kind=4 then Ax b.s.p t (caP b.s.p t) (caO b t)else []
structure CallOk(b:Book)(t:S):Prop where
 i0:0<=caI b.s.p t
 i1:(caI b.s.p t).toNat<b.s.p.procs.length
 io:b.s.p.procs.length<=b.outs.length
 rise:(caO b t).Pairwise ltT
 len:(caO b t).length<=1000000
 args:t.args.length<=(caP b.s.p t).params.length
 al:t.args.length<=1000000
theorem Rn{b:Book}{t:S}(h:CallOk b t):SpecH prog 144 ([AV.ip b.cells,.agg t.cells].map .p) [] (OneRow (Yx (Ax b.s.p t (caP b.s.p t) (caO b t))) False):=by
 have h1:=h.i1;have h2:=h.io;refine X5 b t (caI b.s.p t).toNat (caP b.s.p t) (caO b t) ?_ ?_ ?_ h.rise h.len h.args h.al
 ·rw[q6i h.i0];rfl
 ·unfold caP;rw[q3p,q3b h1];rfl
 ·unfold caO;rw[q3p,q3b (by omega)];rfl
theorem Vd(b:Book)(t:S)(h4:t.kind=4->CallOk b t):SpecH prog 87 [.p (.ip b.cells),.p (.agg t.cells)] [] (fun r H=>OneRow (Yx (HV b t)) (HV b t=[]) r H):=by
 refine sH Qe func87 rfl call87 ?_;conv=>whnf
 have hC:=fun h=>Rn (h4 h);repeat' (first|((first|refine q3l rfl ?_|refine aD ?_|refine q8i (fun x hx=>by rcases q3r.1 hx with rfl;rfl) rfl ?_|refine q8i (fun x hx=>by rcases q3t.1 hx with rfl|hx;rfl;rcases q3r.1 hx with rfl;rfl) rfl ?_|(refine JP 0 rfl (hC (by assumption)) (.cons (.p (Sub.refl _)) (.cons (.p (Sub.refl _)) .nil)) (fun h=>h.elim) ?_;rintro _ _ _ _ ⟨rfl,rfl,rfl⟩));conv=>whnf)|(apply bD<;>intro _<;>first|omega|conv=>whnf))
 ·rw[show HV b t=[t.name] by unfold HV;rw[if_pos (by assumption)]];exact q5u _ (q3e _) (VC (L:=[t.name]) rfl)
 ·rw[show HV b t=[t.name,XD] by unfold HV;rw[if_neg (by assumption),if_pos (by assumption)]];exact q5u _ (q3e _) (VC (L:=[t.name,XD]) rfl)
 ·rw[show HV b t=[Ei] by unfold HV;rw[if_neg (by assumption),if_neg (by assumption),if_pos (by assumption)]];exact q5u _ (q3e _) (VC (L:=[Ei]) rfl)
 ·rw[show HV b t=Ax b.s.p t (caP b.s.p t) (caO b t) by unfold HV;rw[if_neg (by assumption),if_neg (by assumption),if_neg (by assumption),if_pos (by assumption)]];exact q5u _ (q3e _) (VC (by rw[q3f]))
 ·exact q5u _ (q3e _) (.inl ⟨rfl,rfl,by unfold HV;rw[if_neg (by assumption),if_neg (by assumption),if_neg (by assumption),if_neg (by assumption)]⟩)
def outB(p:Pg)(f:Pr)(n:Str):Bool:=comB p n||decide ((⟨n,true⟩:Param)∈f.params)
def PE(D:List (List Str))(id:Int):List Str:=D.getD (id-1).toNat []
def IM(p:Pg)(i:Nat)(f:Pr)(D:List (List Str))(it:Item):List Str:=bif (QQ p i f).live.getD (ixI p i f it.s.id).toNat false then(PE D it.s.id).filter (outB p f)else []
def Fe(p:Pg)(i:Nat)(f:Pr)(D:List (List Str))(its:List Item):List Str:=its.flatMap (IM p i f D)
theorem TX{p:Pg}{i:Nat}{f:Pr}{D:List (List Str)}{its:List Item}{k:Nat}(hk:k<its.length):Fe p i f D (its.take (k+1))=Fe p i f D (its.take k)++IM p i f D its[k]:=by
 unfold Fe;rw[q4y hk,List.flatMap_append];simp
theorem N4{p:Pg}{i:Nat}{f:Pr}{D:List (List Str)}(hD:∀d∈D,d.length<=1000)(its:List Item):(Fe p i f D its).length<=its.length*1000:=by
 refine WR its fun it _=>?_;unfold IM;cases(QQ p i f).live.getD (ixI p i f it.s.id).toNat false with
 |false=>exact q3o _
 | true=>
   refine q5p (q7x _ _) ?_;unfold PE;rcases q4w (it.s.id-1).toNat D.length with h|h
   ·rw[q3p,q3b h];exact hD _ (q4u h)
   ·rw[q3p,q5w h];exact q3o _
theorem Vb(b:Book)(p:Pg)(hp:b.s=sheetOf p)(h:XX p=true)(i:Nat)(f:Pr)(hj:p.procs[i]?=some f)(hW:b.ways[i]?=some (QQ p i f))(hD:b.defs.length=(sheetOf p).l.length)(hd:∀d∈b.defs,d.length<=1000):SpecH prog 88 [.p (.ip b.cells),.p (.int .i64 i)] [] (fun r H=>OneRow (Yx (Fe p i f b.defs (itsOf p i f))) False r H):=by
 refine sH Qi func88 rfl call88 ?_;conv=>whnf
 obtain⟨hsp,_,_,hlen,hs⟩:=QU p;obtain⟨s1,s2,s3,s4⟩:=hs i f hj;have hcn:=(XS h).2.2;have hO:=NX (sheetOf p) i (QL p.procs i) (QL p.procs i+cntL f.body) s1 s2 (by omega) (by omega) (by omega);rw[s4]at hO;have e1:itL (i:Nat) 0 (-1) 0 (QL p.procs i) f.body=itsOf p i f:=rfl;rw[e1,<-hp]at hO;have hbp:b.s.p=p:=by rw[hp,hsp]
 have hCo:=fun x=>GR b x;rw[hbp]at hCo;have hg1:(b.s.p.procs.map fun f=>AV.agg f.cells)[i]?=some (.agg f.cells):=by rw[hbp,q4x,hj];rfl
 have hg2:(b.ways.map fun w=>AV.ip w.cells)[i]?=some (.ip (QQ p i f).cells):=by rw[q4x,hW];rfl
 have hIl:((itsOf p i f).map fun i=>AV.agg i.cells).length=(itsOf p i f).length:=q3f _;have hil:(itsOf p i f).length<=200:=by
  have h1:=q5i length s4;rw[e1,q6u,q4l]at h1;omega
 have hall:∀k,(Fe p i f b.defs ((itsOf p i f).take k)).length<=200*1000:=fun k=>by
  have h1:=N4 (p:=p) (i:=i) (f:=f) hd ((itsOf p i f).take k);have h2:((itsOf p i f).take k).length*1000<=200*1000:=q5j _ (by rw[q4l];omega);omega
 repeat' ((first|(refine iM fun _=>?_)|refine q3l rfl ?_|(refine IdxK.at (k:=i) rfl hg1 rfl ?_)|refine cP hO ?_);conv=>whnf)
 refine LoopK.inv QY (fun k:Nat=>⟨[(0,.p (.ip b.cells)),(1,.p (.int .i64 i)),(5,.hd 0 0 (Fe p i f b.defs ((itsOf p i f).take k)).length),(6,.p (.ip f.cells)),(27,.p (VH (itsOf p i f))),(28,.p (.int .i64 ((itsOf p i f).map fun i=>AV.agg i.cells).length)),(29,.p (.int .i64 k))],[(0,.own 9 1 ((Fe p i f b.defs ((itsOf p i f).take k)).map .str))]⟩) (fun k=>k<=(itsOf p i f).length) (fun k=>(itsOf p i f).length-k) 0
  (Le.mk [(0,.own 9 1 [])] (by simp[Chunk.new0];rfl) (by simp) (by simp) (.r (.r (.cons (.nil q3d) (.r (.r (.r (.r .nil))))))) (.new q3d .nil)) (q3o _) ?_
 intro k hk;have hak:=hall k;rcases q4w k (itsOf p i f).length with hk2|hk2;rotate_left 1
 ·rw[q4g hk2];conv=>whnf
  repeat' (apply bD<;>intro _<;>first|omega|conv=>whnf)
  all_goals exact q5u _ (q3e _) (OneRow.str rfl)
 have hst:=TX (p:=p) (i:=i) (f:=f) (D:=b.defs) hk2;have hb:=VK (QD h).1 hj (KQ (q4u hk2));have hLv:=Km p i f h hj (itsOf p i f)[k].s.id (.inr (.inr hb));have hoi:IM p i f b.defs (itsOf p i f)[k]=bif (QQ p i f).live.getD (ixI p i f (itsOf p i f)[k].s.id).toNat false then(PE b.defs (itsOf p i f)[k].s.id).filter (outB p f)else []:=rfl;have hdl:((itsOf p i f)[k].s.id-1).toNat<b.defs.length:=by omega
 have hg3:(b.defs.map eStrs)[((itsOf p i f)[k].s.id-1).toNat]?=some (eStrs (PE b.defs (itsOf p i f)[k].s.id)):=by
  unfold PE;rw[q4x,q3p,q3b hdl];rfl
 have hDl:(PE b.defs (itsOf p i f)[k].s.id).length<=1000:=by
  unfold PE;rw[q3p,q3b hdl];exact hd _ (q4u hdl)
 generalize(QQ p i f).live.getD (ixI p i f (itsOf p i f)[k].s.id).toNat false=lv at*
 rw[hoi]at hst;generalize PE b.defs (itsOf p i f)[k].s.id=D at*
 generalize Fe p i f b.defs ((itsOf p i f).take k)=acc at*
 have hDm:(D.map AV.str).length=D.length:=q3f _;cases lv;all_goals
  conv=>whnf
  repeat' (first|((first|(refine iM fun _=>?_)|refine dA ?_|refine q3l rfl ?_|(refine iA fun _=>?_)|refine wI ?_|(refine IdxK.at (k:=i) rfl hg2 rfl ?_)|refine cP hLv ?_|(refine IdxK.at (k:=((itsOf p i f)[k].s.id-1).toNat) (by omega) hg3 rfl ?_));conv=>whnf)|(apply bD<;>intro _<;>first|omega|conv=>whnf)|(apply bN<;>intro _<;>conv=>whnf))
 all_goals first
  |contradiction
  |exact⟨k+1,hk2,by omega,Le.of_eq (by rw[hst,q4f,q5c];rfl)⟩
  |skip
 all_goals
  rw[q4v]at hst;refine LoopK.inv QY (fun x:Nat×List Str=>⟨[(0,.p (.ip b.cells)),(1,.p (.int .i64 i)),(5,.hd 0 0 x.2.length),(6,.p (.ip f.cells)),(27,.p (VH (itsOf p i f))),(28,.p (.int .i64 ((itsOf p i f).map fun i=>AV.agg i.cells).length)),(29,.p (.int .i64 k)),(54,.p (eStrs D)),(55,.p (.int .i64 (D.map AV.str).length)),(56,.p (.int .i64 x.1))],[(0,.own 9 1 (x.2.map .str))]⟩) (fun x=>x.1<=D.length/\x.2=acc++(D.take x.1).filter (outB p f)/\x.2.length<=acc.length+x.1) (fun x=>D.length-x.1) (0,acc) (Le.of_eq rfl) ⟨q3o _,by simp,by simp⟩ ?_;rintro⟨q,o⟩ ⟨h4,h5,h6⟩;simp only at h4 h5 h6⊢;rcases q4w q D.length with hq|hq
  ·have hn1:=q4y hq;have hCq:=hCo D[q];have hKq:=WL f.params ⟨D[q],true⟩;have hob:outB p f D[q]=(comB p D[q]||decide ((⟨D[q],true⟩:Param)∈f.params)):=rfl;generalize hdc:decide ((⟨D[q],true⟩:Param)∈f.params)=dc at hKq hob;conv=>whnf
   repeat' (first|((first|refine q3l rfl ?_|refine aD ?_|refine bP ?_|(refine iA fun _=>?_)|refine wI ?_|refine cP hCq ?_|(refine CallK.pure hKq (.cons (Sub.refl _) (.cons (Sub.agg (.cons (Sub.refl _) (.cons (Sub.tt rfl) .nil))) .nil)) ?_;rintro _ rfl)|refine XW (by simp) (by rw[q3f];omega) ?_);conv=>whnf)|(apply bD<;>intro _<;>first|omega|conv=>whnf)|(apply bB<;>intro _<;>conv=>whnf))
   all_goals first
    | (have h9:outB p f D[q]=true:=by rw[hob,show comB p D[q]=true by assumption];rfl
       exact⟨(q+1,o++[D[q]]),⟨hq,by simp only;rw[hn1,q6s,q6x h9,h5,q4c];rfl,by simp;omega⟩,by simp only;omega,Le.of_eq (by simp only[q3m,q4z];rfl)⟩)
    | (have h9:outB p f D[q]=true:=by rw[hob,show dc=true by assumption,Bool.or_true]
       exact⟨(q+1,o++[D[q]]),⟨hq,by simp only;rw[hn1,q6s,q6x h9,h5,q4c];rfl,by simp;omega⟩,by simp only;omega,Le.of_eq (by simp only[q3m,q4z];rfl)⟩)
    | (have h9:outB p f D[q]=false:=by rw[hob,show comB p D[q]=false by assumption,show dc=false by assumption];rfl
       exact⟨(q+1,o),⟨hq,by simp only;rw[hn1,q6s,q6d (by rw[h9];decide),h5];simp,by simp only;omega⟩,by simp only;omega,Le.of_eq rfl⟩)
  ·rw[q4g hq,<-hst]at h5;subst h5;conv=>whnf
   repeat' (first|(refine wI ?_;conv=>whnf)|(apply bD<;>intro _<;>first|omega|conv=>whnf))
   all_goals exact⟨k+1,hk2,by omega,Le.of_eq rfl⟩
theorem Th(x:X):SpecH prog 148 ([AV.agg x.cells].map .p) [] (OneRow (Yx (XI x)) (XI x=[])):=by
 refine sH Qq func148 rfl call148 ?_;conv=>whnf
 repeat' (first|(refine cP (JV _) ?_;conv=>whnf)|(apply bN<;>intro _<;>conv=>whnf))
 ·refine CallK.nil 5 9 1 rfl (.cons rfl (.row .nil)) ?_;refine CallK.heap [(2000,5)] 0 (by repeat' (first|exact q4d|refine q3i ?_ ?_|exact q3e _|exact q4q Sub.nils|exact q4q (Sub.tt rfl)|exact q4q (Sub.ff rfl)|exact q4q (Sub.int (by omega)))) (by refine q3h (j:=5) rfl rfl ?_ ?_;exact CSub.refl _;exact q4b) (V3 20 (by omega) x (by assumption) [] (by simp)) rfl rfl ?_;rintro l' H' ⟨rfl,rfl⟩;conv=>whnf
  have e:XI x=Hq x []:=by
   unfold XI;rw[show Li x=true by assumption];rfl
  rw[e];exact q5u _ (q3e _) (BZ rfl)
 ·have e:XI x=[]:=by
   unfold XI;rw[show Li x=false by assumption];rfl
  exact q5u _ (q3e _) (.inl ⟨rfl,rfl,e⟩)
def usA(a:Arg):List Str:=(if a.ref=true then [a.name]else [])++XI a.x
def inAt(b:Book)(t:S):List Str:=b.ins.getD (caI b.s.p t).toNat []
def So(t:S):List Str:=XI t.x++(if t.kind=2 then [XD]else [])
def Q5(b:Book)(t:S):List Str:=if t.kind=4 then So t++t.args.flatMap usA++inAt b t else So t
theorem Sf(a:Arg):(usA a).length<=1048577:=by
 have:=VZ a.x;unfold usA;rw[q3m];split<;>simp<;>omega
theorem Nr(t:S):(So t).length<=1048577:=by
 have:=VZ t.x;unfold So;rw[q3m];split<;>simp<;>omega
def Lc(t:S)(j:Nat):List Str:=So t++(t.args.take j).flatMap usA
theorem SV(t:S)(ha:t.args.length<=20000):(Lc t j).length<=21000000000:=by
 have h1:=Nr t;have h2:=KE Sf (t.args.take j);have h3:(t.args.take j).length*1048577<=20000*1048577:=q5j _ (by simp;omega);unfold Lc;simp only[q3m];omega
theorem Rv{t:S}(hj:j<t.args.length):Lc t (j+1)=Lc t j++usA t.args[j]:=by
 unfold Lc;rw[q4y hj,List.flatMap_append,q4c];simp
theorem OneRow.es{L:List Str}{es:List AV}{n:Nat}{nil:Prop}(he:es=L.map .str)(h:n=L.length):OneRow (Yx L) nil (.hd 0 0 n) [(0,.own 9 1 es)]:=by
 subst he;exact VC h
structure UseOk(b:Book)(t:S):Prop where
 i0:0<=caI b.s.p t
 ii:(caI b.s.p t).toNat<b.ins.length
 al:t.args.length<=20000
 len:(inAt b t).length<=1000000
theorem Vp(b:Book)(t:S)(h4:t.kind=4->UseOk b t):SpecH prog 90 [.p (.ip b.cells),.p (.agg t.cells)] [] (fun r H=>OneRow (Yx (Q5 b t)) (Q5 b t=[]) r H):=by
 refine sH Qo func90 rfl call90 ?_;conv=>whnf
 have hN:=Th t.x;have hC:=GL b t;have hI:idxF (fun f=>f.name==t.proc) b.s.p.procs=caI b.s.p t:=rfl;rw[hI]at hC;have hnx:=VZ t.x;conv=>whnf
 refine JP 0 rfl hN (.cons (.p (Sub.refl _)) .nil) (fun hnil=>?_) (fun q e sz es hR=>?_);rotate_left;obtain⟨rfl,rfl,rfl⟩:=hR
 rotate_right
 all_goals
  conv=>whnf
  repeat' (first|((first|(refine iM fun _=>?_)|refine q3l rfl ?_|refine aD ?_|refine bP ?_|refine XW (es:=[]) rfl (by simp) ?_|refine XW (by simp) (by simp;omega) ?_);conv=>whnf)|(apply bD<;>intro _<;>first|omega|conv=>whnf)|(apply bE<;>intro _<;>first|omega|conv=>whnf))
 ·have e:Q5 b t=[XD]:=by unfold Q5 So;rw[if_neg (by assumption),if_pos (by assumption),hnil];rfl
  rw[e];exact q5u _ (q3e _) (VC (L:=[XD]) rfl)
 rotate_left
 ·have e:Q5 b t=[]:=by unfold Q5 So;rw[if_neg (by assumption),if_neg (by assumption),hnil];rfl
  exact q5u _ (q3e _) (.inl ⟨rfl,rfl,e⟩)
 ·have e:Q5 b t=XI t.x++[XD]:=by unfold Q5 So;rw[if_neg (by assumption),if_pos (by assumption)]
  rw[e];exact q5u _ (q3e _) (OneRow.es (by rw[q4z];rfl) (by simp))
 rotate_left
 ·have e:Q5 b t=XI t.x:=by unfold Q5 So;rw[if_neg (by assumption),if_neg (by assumption),q5c]
  rw[e];exact q5u _ (q3e _) (OneRow.es rfl (by simp))
 all_goals
  have hk4:t.kind=4:=by assumption
  have hU:=h4 hk4;have e0:Lc t 0=XI t.x:=by unfold Lc So;rw[if_neg (by omega),List.take_zero,List.flatMap_nil,q5c,q5c]
  have hl:(t.args.map fun a=>AV.agg a.cells).length=t.args.length:=q3f _;have hg:(b.ins.map eStrs)[(caI b.s.p t).toNat]?=some (eStrs (inAt b t)):=by
   unfold inAt;rw[q4x,q3p,q3b hU.ii];rfl
  have hi0:=hU.i0;have hil:=hU.len;have hia:=hU.al;refine LoopK.inv QY (fun j:Nat=>⟨[(0,.p (.ip b.cells)),(3,.p (.ip t.cells)),(5,.hd 0 0 (Lc t j).length),(22,.p (.sl (t.args.map fun a=>.agg a.cells))),(23,.p (.int .i64 (t.args.map fun a=>AV.agg a.cells).length)),(24,.p (.int .i64 j))],[(0,.own 9 1 ((Lc t j).map .str))]⟩) (fun j=>j<=t.args.length) (fun j=>t.args.length-j) 0 ?_ (q3o _) ?_
  ·first
    | (rw[e0,hnil]
       exact Le.mk [(0,.own 9 1 [])] (by simp[Chunk.new0];rfl) (by simp) (by simp) (.r (.r (.cons (.nil q3d) (.r (.r (.r .nil)))))) (.new q3d .nil))
    | (rw[e0]
       exact Le.of_eq (by rw[q3f];rfl))
  intro j hj;have hacc:=SV t (j:=j) hia;have hfin:t.args.length<=j->Q5 b t=Lc t j++inAt b t:=fun h=>by
   unfold Q5 Lc;rw[if_pos hk4,q4g h]
  have hst:=fun h=>Rv (t:=t) (j:=j) h;generalize Lc t j=acc at*
  rcases q4w j t.args.length with hj2|hj2
  ·have hnl:=VZ t.args[j].x;conv=>whnf
   repeat' (first|((first|refine cP (Q3 _) ?_|refine q3l rfl ?_|refine aD ?_|refine bP ?_|(refine iA fun _=>?_)|refine wI ?_|refine JD _ (by simp) (by simp;omega) ?_|refine XW (by simp) (by simp;omega) ?_);conv=>whnf)|(apply bD<;>intro _<;>first|omega|conv=>whnf)|(apply bB<;>intro _<;>conv=>whnf))
   all_goals
    refine⟨j+1,hj2,by omega,Le.of_eq ?_⟩;first
     | (have hn:usA t.args[j]=[t.args[j].name]++XI t.args[j].x:=by rw[usA,if_pos (by assumption)]
        rw[hst hj2,hn];simp only[q3m,q4z,q3f,<-q4c,<-q5e];rfl)
     | (have hn:usA t.args[j]=XI t.args[j].x:=by rw[usA,if_neg (by rw[show t.args[j].ref=false by assumption];decide)];rfl
        rw[hst hj2,hn];simp only[q3m,q4z,q3f];rfl)
  ·rw[hfin hj2];conv=>whnf
   repeat' (first|((first|refine dA ?_|refine aD ?_|refine cP hC ?_|(refine IdxK.at (k:=(caI b.s.p t).toNat) (by omega) hg rfl ?_)|refine JD _ (by simp) (by simp;omega) ?_);conv=>whnf)|(apply bD<;>intro _<;>first|omega|conv=>whnf))
   all_goals exact q5u _ (q3e _) (OneRow.es (by rw[q4z]) (by simp))
def JF(w:Way)(f:Pr):List (Int×Int):=(HN w f).map (ixP w.p w.j f w.n)
theorem Bm(w:Way)(f:Pr)(n:Nat)(h:WayT w f n)(hp:∀t∈JF w f,(0<=t.1/\t.1<n)/\0<=t.2/\t.2<n)(hlen:(HN w f).length<=1000000):SpecP prog 150 [.ip w.cells] (fun r=>r=V9 (NP n (JF w f))):=by
 refine sB Yc func150 rfl call150 ?_;conv=>whnf
 have hwn:=h.hw;have hn5:=h.hn;have hn2:=h.hn2;have hA:=Fr w f n h;have hP:=GF w f h.hj h.hc (by omega) (HN w f) hlen;have hpl:(avP (JF w f)).length=(JF w f).length:=by unfold avP;rw[q3f]
 have hpl2:(JF w f).length<=1000000:=by unfold JF;rw[q3f];exact hlen
 have hPe:(HN w f).map (ixP w.p w.j f w.n)=JF w f:=rfl;rw[hPe]at hP;repeat' ((first|(refine iM fun _=>?_)|refine aR ?_|refine MkK.mk n (by omega) (by show 24*_<=140737488355328;omega) (by unfold maxLen;omega) ?_|refine cP hA ?_|refine cP hP ?_);conv=>whnf)
 refine LoopK.inv QY (fun j:Nat=>⟨[(3,.hd 0 0 n),(14,.p (.sl (avP (JF w f)))),(15,.p (.int .i64 (avP (JF w f)).length)),(16,.p (.int .i64 j))],[(0,.ext (.mat 29 3 1 (avI (NP n ((JF w f).take j))) []))]⟩) (fun j=>j<=(JF w f).length) (fun j=>(JF w f).length-j) 0
  (by
    refine Le.trans (Tj n rfl) ?_;exact Le.mk [] (by simp) (by simp) (by simp) (.r (.r (.r (.r .nil)))) (.cons rfl (.of_eq (by simp[avI,NP])) .nil)) (q3o _) ?_
 intro j h2;rcases q4w j (JF w f).length with hj|hj
 ·have hme:(avP (JF w f))[j]?=some (.agg [.int .i64 (JF w f)[j].1,.int .i64 (JF w f)[j].2]):=by simp[avP,hj]
  obtain⟨⟨q1,q2⟩,q3,q4⟩:=hp _ (q4u hj);have hst:NP n ((JF w f).take (j+1))=nxE (NP n ((JF w f).take j)) (JF w f)[j]:=by
   unfold NP;rw[q4y hj,List.foldl_append];rfl
  have hrl:=Wg n ((JF w f).take j);have hcnt:=Ha n ((JF w f).take j) (JF w f)[j].1.toNat;generalize(JF w f)[j]=t at hme q1 q2 q3 q4 hst hcnt;generalize NP n ((JF w f).take j)=rows at hst hrl hcnt⊢;obtain⟨a,ha⟩ : ∃a:Nat,t.1=a:=⟨t.1.toNat,by omega⟩;have hal:a<rows.length:=by omega
  have hrow:(avI rows)[a]?=some (rows[a].map (.int .i64)):=by unfold avI;rw[q4x,q3b hal];rfl
  have hput:(avI rows).set a (rows[a].map (.int .i64)++[.int .i64 t.2])=avI (nxE rows t):=by
   unfold nxE avI;rw[ha,Int.toNat_natCast,q3p,q3b hal,q7u,q5a,q4z];rfl
  have hcl:rows[a].length<=1000000:=by
   rw[ha,Int.toNat_natCast,q3p,q3b hal,q7u,q4l]at hcnt;omega
  rw[ha]at hme;conv=>whnf
  repeat' (first|((first|refine q3l rfl ?_|refine aD ?_|refine wI ?_|refine DrawK.of QY mixed (.cons 0 false (.cons 1 false (.cons 2 false (.cons 3 false (.cons 4 false (.cons 5 false (.cons 6 false (.cons 8 false (.cons 9 false (.alo 7 (.cons 10 true (.cons 11 true (.cons 12 true (.cons 13 true .nil)))))))))))))) (by kernel_rfl) ?_|(refine IdxK.at (k:=j) rfl hme rfl ?_)|refine q5z 0 rfl (by decide) ?_|refine q5z 1 rfl (by decide) ?_|refine q5z a rfl (by omega) ?_|refine RowK.mk a _ (by omega) hrow (by simp) ?_|refine q8i (fun x hx=>by rcases q3r.1 hx with rfl;rfl) rfl ?_|refine OpK.focus QY 27 0 a 2 rfl rfl hrow (by simp) rfl rfl ?_|refine ZD rfl (by rw[q3f];omega) ?_|(refine Z6 QY rfl rfl rfl rfl rfl rfl rfl rfl rfl (by decide) a [] (by omega) (by unfold avI;rw[q3f];omega) (by simp) ⟨by simp,by simp,by simp⟩ ?_));conv=>whnf)|(apply bD<;>intro _<;>first|omega|conv=>whnf))
  all_goals exact⟨j+1,hj,by omega,Le.of_eq (by rw[hst,<-hput];rfl)⟩
 ·have hje:(JF w f).take j=JF w f:=q4g hj;rw[hje];have hNl:=Wg n (JF w f);conv=>whnf
  repeat' (apply bD<;>intro _<;>first|omega|conv=>whnf)
  exact⟨_,.mat rfl (by unfold avI;rw[q3f,hNl]),rfl⟩
section
variable {p:Pg}{j:Nat}{f:Pr}
def dR(p:Pg)(j:Nat)(f:Pr):Int->Int->Prop:=stR (HN (QQ p j f) f)
theorem Iw(h:XX p=true)(hj:p.procs[j]?=some f){a b:Int}:dR p j f a b↔wR p j f a b\/∃l∈trapsW (QQ p j f) f,∃t∈flL f.body,t.id∈l/\t.kind=10/\a=t.id/\b = -1:=by
 constructor
 ·rintro⟨s,hs,rfl,rfl⟩;rcases q3a.1 ((HO (J4 h hj)).2.1 s hs)with h1|h1
  ·obtain⟨l,hl,t,ht,hid,hk,rfl⟩:=(MU h hj).1 h1;exact .inr ⟨l,hl,t,ht,hid,hk,rfl,rfl⟩
  ·exact .inl ⟨s,h1,rfl,rfl⟩
 ·rintro(⟨s,hs,rfl,rfl⟩|⟨l,hl,t,ht,hid,hk,rfl,rfl⟩)
  ·exact Ra h hj (q3a.2 (.inr hs))
  ·exact Ra h hj (s:=⟨t.id,-1,3⟩) (q3a.2 (.inl ((MU h hj).2 ⟨l,hl,t,ht,hid,hk,rfl⟩)))
theorem Ot(h:XX p=true)(hj:p.procs[j]?=some f){a b:Int}(hd:dR p j f a b):plP p j f a/\plP p j f b:=by
 have hA:O7 p j f a b:=by
  rcases(Iw h hj).1 hd with h1|h1
  ·exact(Rx h hj).2 (.inl h1)
  ·exact(Rx h hj).2 (.inr (.inr (.inl h1)))
 exact⟨(I2 h hj hA).1,(I2 h hj hA).2.1⟩
theorem FW(h:XX p=true)(hj:p.procs[j]?=some f):∀t∈JF (QQ p j f) f,(0<=t.1/\t.1<(cntL f.body+2:Nat))/\0<=t.2/\t.2<(cntL f.body+2:Nat):=fun t ht=>by
 obtain⟨s,hs,rfl⟩:=q3s.1 ht;obtain⟨h1,h2⟩:=Ot h hj ⟨s,hs,rfl,rfl⟩;exact⟨KX h1,KX h2⟩
end


section
variable {p:Pg}{j:Nat}{f:Pr}
end
theorem Rk{p:Pg}(hs:(QI p).1=0):(UY p).1=0 ↔ ∀t∈YP p,t.kind=4->HM p t=true:=by
 unfold UY;rw[if_neg (by omega)];cases hf:(YP p).find? fun t=>decide (t.kind=4) && !HM p t with
 | some t=>
   have h1:=q7j hf;have h2:=q7s hf;simp only[q4k,q4o,q6y]at h2;refine⟨fun h=>by simp at h,fun h=>?_⟩;have:=h t h1 h2.1;rw[h2.2]at this;cases this
 | none=>
   refine⟨fun _ t ht hk=>?_,fun _=>rfl⟩;have:=List.find?_eq_none.1 hf t ht;simp only[q4k,q4o,q6y,not_and]at this;simpa using this hk
section
variable {p:Pg}{j:Nat}{f:Pr}{n:Str}
end
section
variable {p:Pg}{j:Nat}{f:Pr}
end
section
variable {p:Pg}{j:Nat}{f:Pr}
end
def bkO(p:Pg)(O:List (List Str)):Book:=⟨sheetOf p,[],[],[],[],O⟩
def prA(p:Pg)(i:Nat):Pr:=p.procs.getD i Pr0
theorem N9{p:Pg}{i:Nat}(h:i<p.procs.length):p.procs[i]?=some (prA p i):=by
 unfold prA;rw[q3p,q3b h];rfl
theorem UT{p:Pg}{i:Nat}{f:Pr}(h:p.procs[i]?=some f):prA p i=f:=by
 unfold prA;rw[q3p,h];rfl
def dfB(p:Pg)(O:List (List Str)):List (List Str):=(sheetOf p).l.map fun it=>UQ (HV (bkO p O) it.s)
def otA(p:Pg)(D:List (List Str))(i:Nat):List Str:=UQ (Fe p i (prA p i) D (itsOf p i (prA p i)))
def otB(p:Pg)(D:List (List Str)):List (List Str):=(List.range p.procs.length).map (otA p D)
def rdO(p:Pg)(O:List (List Str)):List (List Str):=otB p (dfB p O)
def itO(p:Pg):Nat->List (List Str)
 |0=>List.replicate p.procs.length []
 |k+1=>rdO p (itO p k)
theorem KK{l:List Str}(h:l.Pairwise ltT):l.Nodup:=List.Pairwise.imp (S:=fun a b=>a≠b) (fun {a b} (h1:ltT a b)=>fun(h2:a=b)=>W8 b (by rw[h2]at h1;exact h1)) h
theorem Wl(l:List Str):(UQ l).length<=l.length:=FG (KK (YZ l)) fun s hs=>WM.1 hs
structure OkO(p:Pg)(O:List (List Str)):Prop where
 len:O.length=p.procs.length
 rise:∀o∈O,o.Pairwise ltT
 sub:∀i,i<p.procs.length->∀n∈O.getD i [],outB p (prA p i) n=true
theorem NW{O:List (List Str)}(h:∀o∈O,o.Pairwise ltT)(i:Nat):(O.getD i []).Pairwise ltT:=by
 rw[q3p];rcases q4w i O.length with h1|h1
 ·rw[q3b h1];exact h _ (q4u h1)
 ·rw[q5w h1];exact .nil
theorem Xv{p:Pg}{n:Str}:comB p n=true↔n=XD\/n∈p.globals:=by
 unfold comB;simp only[q8w,q7g,q5l,exists_eq_right']
theorem N3{p:Pg}{f:Pr}{n:Str}:outB p f n=true↔(n=XD\/n∈p.globals)\/(⟨n,true⟩:Param)∈f.params:=by
 unfold outB;rw[q8w,Xv,q4o]
theorem LM{p:Pg}(h:XX p=true)(i:Nat):(prA p i).params.length<=8:=by
 rcases q4w i p.procs.length with h1|h1
 ·exact(KZ.1 (B4 (QD h).1 (q4n (N9 h1)))).1
 ·unfold prA;rw[q3p,q5w h1];decide
theorem OkO.len25{p:Pg}{O:List (List Str)}(hc:XX p=true)(h:OkO p O)(i:Nat):(O.getD i []).length<=25:=by
 rcases q4w i p.procs.length with h1|h1
 ·have h2:=FG (m:=XD::p.globals++(prA p i).params.map Param.name) (KK (NW h.rise i)) fun n hn=>by
   rcases N3.1 (h.sub i h1 n hn)with(rfl|h3)|h3
   ·exact q4i _ q3d
   ·exact q4i _ (q3n _ h3)
   ·exact q5y _ (q3s.2 ⟨_,h3,rfl⟩)
  have h3:=LM hc i;have h4:=(XS hc).1;rw[q3m,q4m,q3f]at h2;omega
 ·rw[q3p,q5w (by rw[h.len];exact h1)];exact q3o _
theorem PS{p:Pg}(h:XX p=true){t:S}(ht:t∈YP p)(h4:t.kind=4):∃k,k<p.procs.length/\caI p t=(k:Nat)/\caP p t=prA p k/\(prA p k).name=t.proc/\(prA p k).params.map Param.ref=t.args.map Arg.ref:=by
 obtain⟨_,hs,ha,_⟩:=QD h;have hf:=(Rk hs).1 ha t ht h4;unfold HM at hf;rw[q4k]at hf;have hf2:=hf.2;cases hq:p.procs.find? (fun f=>f.name==t.proc)with
 |none=>rw[hq]at hf2;cases hf2
 | some f=>
   rw[hq]at hf2;have hn:t.proc∈QB p:=q3s.2 ⟨f,q7j hq,by simpa using q7s hq⟩;obtain⟨k,hk,h1,_,h3,h5⟩:=Jj hn;rw[hq]at h3;have hkf:p.procs[k]=f:=(q7c h3).symm;have hp:prA p k=f:=by rw[<-hkf];exact UT (q3b hk)
   have hci:caI p t=(k:Nat):=h1;refine⟨k,hk,hci,?_,?_,?_⟩
   ·unfold caP;rw[hci];rfl
   ·rw[hp,<-hkf];exact h5
   ·rw[hp];unfold Lx at hf2;exact of_decide_eq_true hf2
theorem PT{p:Pg}(h:XX p=true){t:S}(ht:t∈YP p)(h4:t.kind=4):t.args.length=(caP p t).params.length/\t.args.length<=8:=by
 obtain⟨k,_,_,h2,_,h3⟩:=PS h ht h4;have h5:=q5i length h3;rw[q3f,q3f]at h5;have:=LM h k;rw[h2];omega
theorem OkO.call{p:Pg}{O:List (List Str)}(hc:XX p=true)(h:OkO p O){b:Book}(hs:b.s=sheetOf p)(ho:b.outs=O){t:S}(ht:t∈YP p)(h4:t.kind=4):CallOk b t:=by
 obtain⟨k,hk,h1,h2,_⟩:=PS hc ht h4;obtain⟨h5,h6⟩:=PT hc ht h4;have e:b.s.p=p:=by rw[hs];exact(QU p).1
 have hO:caO b t=O.getD (caI p t).toNat []:=by unfold caO;rw[e,ho]
 refine⟨by rw[e];omega,by rw[e];omega,by rw[e,ho,h.len];exact q4h _,?_,?_,by rw[e];omega,by omega⟩
 ·rw[hO];exact NW h.rise _
 ·rw[hO];have:=h.len25 hc (caI p t).toNat;omega
theorem Ro{p:Pg}{O:List (List Str)}{b:Book}(hs:b.s=sheetOf p)(ho:b.outs=O)(t:S):HV b t=HV (bkO p O) t:=by
 unfold HV caO bkO;rw[hs,ho]
theorem J5{p:Pg}{O:List (List Str)}(hc:XX p=true)(h:OkO p O){t:S}(ht:t∈YP p):(HV (bkO p O) t).length<=34:=by
 unfold HV
 (repeat' split)<;>try (simp;done)
 rename_i h4;have hr:=Nv t (caP p t) (caO (bkO p O) t) t.args.length;have h6:=(PT hc ht h4).2;have h7:=h.len25 hc (caI p t).toNat;have h8:((caO (bkO p O) t).filter (comB p)).length<=(O.getD (caI p t).toNat []).length:=q7x _ _;show((if t.name=[]then []else [t.name])++Lq t (caP p t) (caO (bkO p O) t) t.args.length++(caO (bkO p O) t).filter (comB p)).length<=34;rw[q3m,q3m];have h9:(if t.name=[]then []else [t.name]).length<=1:=by split<;>simp
 omega
theorem Dm(p:Pg)(O:List (List Str)):(dfB p O).length=(sheetOf p).l.length:=q3f _
def leO(O O':List (List Str)):Prop:=∀i n,n∈O.getD i []->n∈O'.getD i []
theorem Ji{t:S}{f:Pr}{O:List Str}{n:Str}:n∈Lq t f O t.args.length ↔ ∃x∈(t.args.zip f.params).take t.args.length,(x.1.ref=true/\x.2.name∈O)/\x.1.name=n:=by
 unfold Lq Oy;simp only[q3s,q5q,q4k,HA,and_assoc]
theorem RX{p:Pg}{O:List (List Str)}(h:leO O O'){t:S}{n:Str}(hn:n∈HV (bkO p O) t):n∈HV (bkO p O') t:=by
 unfold HV at hn⊢
 (repeat' split at hn)
 ·rw[if_pos (by assumption)];exact hn
 ·rw[if_neg (by assumption),if_pos (by assumption)];exact hn
 ·rw[if_neg (by assumption),if_neg (by assumption),if_pos (by assumption)];exact hn
 ·rw[if_neg (by assumption),if_neg (by assumption),if_neg (by assumption),if_pos (by assumption)];unfold Ax at hn⊢;rcases q3a.1 hn with hn|hn
  ·rcases q3a.1 hn with hn|hn
   ·exact q4i _ (q4i _ hn)
   ·refine q4i _ (q5y _ ?_);obtain⟨x,h1,⟨h2,h3⟩,h4⟩:=Ji.1 hn;exact Ji.2 ⟨x,h1,⟨h2,h _ _ h3⟩,h4⟩
  ·obtain⟨h1,h2⟩:=q5q.1 hn;exact q5y _ (q5q.2 ⟨h _ _ h1,h2⟩)
 ·cases hn
theorem YA{α β:Type}{f:α->List β}{l:List α}{i:Nat}{n:β}:n∈(l.map f).getD i [] ↔ ∃x,l[i]?=some x/\n∈f x:=by
 rw[q3p,q4x];cases l[i]?with
 |none=>simp
 |some x=>simp
theorem SM{p:Pg}{O:List (List Str)}(h:leO O O'):leO (dfB p O) (dfB p O'):=fun i n hn=>by
 obtain⟨it,h1,h2⟩:=YA.1 hn;exact YA.2 ⟨it,h1,WM.2 (RX h (WM.1 h2))⟩
def lvB(p:Pg)(i:Nat)(id:Int):Bool:=(QQ p i (prA p i)).live.getD (ixI p i (prA p i) id).toNat false
theorem Cs{p:Pg}{i:Nat}{D:List (List Str)}{n:Str}:n∈Fe p i (prA p i) D (itsOf p i (prA p i)) ↔ ∃it∈itsOf p i (prA p i),lvB p i it.s.id=true/\n∈PE D it.s.id/\outB p (prA p i) n=true:=by
 unfold Fe;rw[q5g];refine exists_congr fun it=>and_congr_right fun _=>?_;unfold IM lvB;cases(QQ p i (prA p i)).live.getD (ixI p i (prA p i) it.s.id).toNat false with
 |false=>simp
 |true=>simp[q5q]
theorem Jc{p:Pg}{D:List (List Str)}{i:Nat}(hi:i<p.procs.length){n:Str}:n∈(otB p D).getD i [] ↔ ∃it∈itsOf p i (prA p i),lvB p i it.s.id=true/\n∈PE D it.s.id/\outB p (prA p i) n=true:=by
 unfold otB;rw[YA,<-Cs];constructor
 ·rintro⟨x,h1,h2⟩;rw[q7l hi]at h1;cases h1;exact WM.1 h2
 ·exact fun h=>⟨i,q7l hi,WM.2 h⟩
theorem Ct{p:Pg}{D D':List (List Str)}(h:leO D D'):leO (otB p D) (otB p D'):=fun i n hn=>by
 rcases q4w i p.procs.length with hi|hi
 ·obtain⟨it,h1,h2,h3,h4⟩:=(Jc hi).1 hn;exact(Jc hi).2 ⟨it,h1,h2,h _ _ h3,h4⟩
 ·obtain⟨x,h1,_⟩:=YA.1 hn;rw[q5w (by simpa using hi)]at h1;cases h1
theorem CW{p:Pg}{O:List (List Str)}(h:leO O O'):leO (rdO p O) (rdO p O'):=Ct (SM h)
theorem An(p:Pg):∀k,leO (itO p k) (itO p (k+1))
 | 0=>fun i n hn=>by
   unfold itO at hn;rw[q3p,q4s]at hn;split at hn<;>cases hn
 |k+1=>CW (An p k)
theorem Ai(p:Pg)(D:List (List Str)):OkO p (otB p D):=by
 refine⟨by unfold otB;rw[q3f,q7q],fun o ho=>?_,fun i hi n hn=>?_⟩
 ·obtain⟨i,_,rfl⟩:=q3s.1 ho;exact YZ _
 ·obtain⟨it,_,_,_,h⟩:=(Jc hi).1 hn;exact h
theorem W2(p:Pg):∀k,OkO p (itO p k)
 | 0=>by
   refine⟨by unfold itO;rw[q5d],fun o ho=>?_,fun i hi n hn=>?_⟩
   ·rw[q6l ho];exact .nil
   ·unfold itO at hn;rw[q3p,q4s]at hn;split at hn<;>cases hn
 |k+1=>Ai p _
def tot(O:List (List Str)):Nat:=(O.map length).sum
theorem Cu{a b:List Str}{O:List (List Str)}(h:leO (a::O) (b::O')):(∀n∈a,n∈b)/\leO O O':=⟨fun n hn=>h 0 n hn,fun i n hn=>h (i+1) n hn⟩
theorem CC{a b:List Str}(ha:a.Pairwise ltT)(hb:b.Pairwise ltT)(hs:∀n∈a,n∈b)(hl:b.length<=a.length):a=b:=by
 refine K0 W8 ltT.trans ha hb fun s=>⟨hs s,fun h=>?_⟩;refine q7e fun hn=>?_;have:=FG (l:=s::a) (m:=b) (q5h.2 ⟨hn,KK ha⟩) fun n h'=>by
  rcases q3t.1 h' with rfl|h'
  ·exact h
  ·exact hs n h'
 rw[q4m]at this;omega
theorem S9:∀{O O':List (List Str)},O.length=O'.length->(∀o∈O,o.Pairwise ltT)->(∀o∈O',o.Pairwise ltT)->leO O O'->tot O<=tot O'/\(tot O'<=tot O->O=O')
 |[],[],_,_,_,_=>⟨q4h _,fun _=>rfl⟩
 |[],_::_,h,_,_,_=>by cases h
 |_::_,[],h,_,_,_=>by cases h
 | a::O,b::O',hl,h1,h2,h=>by
   obtain⟨h3,h4⟩:=Cu h;obtain⟨h5,h6⟩:=S9 (O:=O) (O':=O') (by simpa using hl) (fun o ho=>h1 o (q3n _ ho)) (fun o ho=>h2 o (q3n _ ho)) h4;have ha:=h1 a q3d;have hb:=h2 b q3d;have h7:=FG (KK ha) h3;have e:∀(x:List Str)(l:List (List Str)),tot (x::l)=x.length+tot l:=fun x l=>by unfold tot;rw[q4t,sum_cons]
   rw[e,e];exact⟨by omega,fun h8=>by rw[CC ha hb h3 (by omega),h6 (by omega)]⟩
theorem Ky:∀{O:List (List Str)},(∀o∈O,o.length<=25)->tot O<=25*O.length
 |[],_=>q4h _
 | a::O,h=>by
   have h1:=Ky (O:=O) fun o ho=>h o (q3n _ ho);have h2:=h a q3d;have e:tot (a::O)=a.length+tot O:=by unfold tot;rw[q4t,sum_cons]
   rw[e,q4m];omega
theorem OkO.tot{p:Pg}{O:List (List Str)}(hc:XX p=true)(h:OkO p O):Go.Ab.tot O<=400:=by
 have h1:=Ky (O:=O) fun o ho=>by
  obtain⟨i,hi,rfl⟩:=q6k.1 ho;have:=h.len25 hc i
  rwa[q3p,q3b hi]at this
 have h2:=(XS hc).2.1;rw[h.len]at h1;omega
theorem Pt{p:Pg}{k:Nat}(h:itO p (k+1)≠itO p k):Go.Ab.tot (itO p k)<Go.Ab.tot (itO p (k+1)):=by
 obtain⟨h1,h2⟩:=S9 (O:=itO p k) (O':=itO p (k+1)) (by rw[(W2 p k).len,(W2 p (k+1)).len]) (W2 p k).rise (W2 p (k+1)).rise (An p k);rcases q4w (Go.Ab.tot (itO p k)) (Go.Ab.tot (itO p (k+1)))with h3|h3
 ·exact h3
 ·exact absurd (h2 h3).symm h
section
variable (p:Pg)(i:Nat)(f:Pr)(D U:List (List Str))(o:List Str)(x:Str)
def idN(a:Int):Int:=ZY p i (cntL f.body+2:Nat) a
def hitN(a:Int):Bool:=bif decide (a=(cntL f.body+2:Nat)-1)then inS o x else bif decide (0<a)then inS (PE U (idN p i f a)) x else false
def NN(a:Int):Bool:=bif decide (a=(cntL f.body+2:Nat)-1)then false else bif decide (0<a)then !inS (PE D (idN p i f a)) x else true
def netR(p:Pg)(i:Nat)(f:Pr):List (List Int):=NP (cntL f.body+2) (JF (QQ p i f) f)
def OH:List (Int×Int):=(JF (QQ p i f) f).filter fun t=>NN p i f D x t.1
def R0:Bool:=(GT 0 (ZF (QC (cntL f.body+2) (OH p i f D x)).1 [0])).any (hitN p i f U o x)
end
section
variable {p:Pg}{i:Nat}{f:Pr}{D U:List (List Str)}{o:List Str}{x:Str}
def nR(p:Pg)(i:Nat)(f:Pr)(D:List (List Str))(x:Str)(a b:Int):Prop:=NN p i f D x a=true/\(a,b)∈JF (QQ p i f) f
theorem ND(h:XX p=true)(hj:p.procs[i]?=some f):R0 p i f D U o x=true ↔ ∃a,Rch (nR p i f D x) 0 a/\hitN p i f U o x a=true:=by
 unfold R0;rw[q5l];refine exists_congr fun a=>and_congr_left fun _=>?_;rw[Za (by omega)];have e:∀a b,((a,b)∈OH p i f D x/\ZB (cntL f.body+2) b=true)↔nR p i f D x a b:=fun a b=>by
  unfold OH nR;rw[q5q];constructor
  ·exact fun h1=>⟨h1.1.2,h1.1.1⟩
  ·intro h1;have h2:=(FW h hj _ h1.2).2;exact⟨⟨h1.2,h1.1⟩,by unfold ZB;simp;omega⟩
 exact⟨fun h1=>h1.mono fun a b h2=>(e a b).1 h2,fun h1=>h1.mono fun a b h2=>(e a b).2 h2⟩
theorem B8(h:XX p=true)(hj:p.procs[i]?=some f){S:Int->Prop}(h0:S 0)(h1:∀a,S a->hitN p i f U o x a=false)(h2:∀a b,S a->nR p i f D x a b->S b):R0 p i f D U o x=false:=by
 cases hq:R0 p i f D U o x with
 |false=>rfl
 | true=>
   obtain⟨a,h3,h4⟩:=(ND h hj).1 hq;rw[h1 a (Rch.closed h2 h0 h3)]at h4;cases h4
structure NedI(p:Pg)(i:Nat)(f:Pr)(D U:List (List Str))(o:List Str)(x:Str)(n:Nat)(seen:List Bool)(todo:List Int):Prop where
 len:seen.length=n
 rng:∀a∈todo,0<=a/\a<(n:Int)
 way:∀a:Int,(a=0\/seen.getD a.toNat false=true/\0<=a)->Rch (nR p i f D x) 0 a
 td:∀a∈todo,a=0\/seen.getD a.toNat false=true/\0<=a
 done:∀a:Int,(a=0\/seen.getD a.toNat false=true/\0<=a)->a∉todo->hitN p i f U o x a=false/\∀b,nR p i f D x a b->seen.getD b.toNat false=true
structure NedJ(p:Pg)(i:Nat)(f:Pr)(D U:List (List Str))(o:List Str)(x:Str)(n:Nat)(a:Int)(k:Nat)(seen:List Bool)(todo:List Int):Prop where
 len:seen.length=n
 rng:∀a∈todo,0<=a/\a<(n:Int)
 way:∀a:Int,(a=0\/seen.getD a.toNat false=true/\0<=a)->Rch (nR p i f D x) 0 a
 td:∀a∈todo,a=0\/seen.getD a.toNat false=true/\0<=a
 me:Rch (nR p i f D x) 0 a
 done:∀b:Int,(b=0\/seen.getD b.toNat false=true/\0<=b)->b∉todo->b≠a->hitN p i f U o x b=false/\∀c,nR p i f D x b c->seen.getD c.toNat false=true
 row:∀c∈((netR p i f).getD a.toNat []).take k,seen.getD c.toNat false=true
theorem EV{k:Nat}(h:(l.set k true).getD j false=true):j=k\/l.getD j false=true:=by
 rcases Nat.decEq j k with hne|rfl
 ·right
  rwa[q3p,q6c (q7t hne),<-q3p]at h
 ·exact .inl rfl
theorem Da{k:Nat}(h:l.getD j false=true):(l.set k true).getD j false=true:=by
 rcases Nat.decEq j k with hne|rfl
 ·rwa[q3p,q6c (q7t hne),<-q3p]
 ·have hl:j<l.length:=by
   rcases q4w j l.length with h1|h1
   ·exact h1
   ·rw[q3p,q5w h1]at h;cases h
  rw[q3p,q6e hl];rfl
theorem AU{k:Nat}(h:k<l.length):(l.set k true).getD k false=true:=by
 rw[q3p,q6e h];rfl
variable {n:Nat}{seen:List Bool}{todo:List Int}{a:Int}
theorem NedI.start(n:Nat)(hn:0<n):NedI p i f D U o x n (List.replicate n false) [0]:=by
 have hno:∀k:Nat,(List.replicate n false).getD k false=true->False:=fun k h=>by
  rw[q3p,q4s]at h;split at h<;>cases h
 refine⟨q5d,fun a ha=>by rw[q3r.1 ha];omega,fun a ha=>?_,fun a ha=>.inl (q3r.1 ha),fun a ha hn=>?_⟩
 ·rcases ha with rfl|⟨h,_⟩
  ·exact .refl
  ·exact(hno _ h).elim
 ·rcases ha with rfl|⟨h,_⟩
  ·exact absurd (q3r.2 rfl) hn
  ·exact(hno _ h).elim
theorem NedI.stop(h:XX p=true)(hj:p.procs[i]?=some f)(hI:NedI p i f D U o x n seen []):R0 p i f D U o x=false:=by
 refine B8 h hj (S:=fun a=>a=0\/seen.getD a.toNat false=true/\0<=a) (.inl rfl) (fun a ha=>(hI.done a ha (by simp)).1) fun a b ha hb=>?_;have h1:=(hI.done a ha (by simp)).2 b hb;have h2:=(FW h hj _ hb.2).2;exact .inr ⟨h1,h2.1⟩
theorem NedI.skip(hI:NedI p i f D U o x n seen (todo++[a]))(h1:hitN p i f U o x a=false)(h2:NN p i f D x a=false):NedI p i f D U o x n seen todo:=by
 refine⟨hI.len,fun b hb=>hI.rng b (q4i _ hb),hI.way,fun b hb=>hI.td b (q4i _ hb),fun b hb hn=>?_⟩;by_cases he:b=a
 ·subst he;exact⟨h1,fun c hc=>by rw[hc.1]at h2;cases h2⟩
 ·exact hI.done b hb fun hm=>(q3a.1 hm).elim hn fun hm=>he (q3r.1 hm)
theorem NedI.open(hI:NedI p i f D U o x n seen (todo++[a])):NedJ p i f D U o x n a 0 seen todo:=
 ⟨hI.len,fun b hb=>hI.rng b (q4i _ hb),hI.way,fun b hb=>hI.td b (q4i _ hb),hI.way a (hI.td a (q5y _ (q3r.2 rfl))),
   fun b hb hn he=>hI.done b hb fun hm=>(q3a.1 hm).elim hn fun hm=>he (q3r.1 hm),fun c hc=>by rw[List.take_zero]at hc;cases hc⟩
theorem NedJ.shut(h:XX p=true)(hj:p.procs[i]?=some f){k:Nat}(hJ:NedJ p i f D U o x n a k seen todo)(hk:((netR p i f).getD a.toNat []).length<=k)(h1:hitN p i f U o x a=false):NedI p i f D U o x n seen todo:=by
 refine⟨hJ.len,hJ.rng,hJ.way,hJ.td,fun b hb hm=>?_⟩;by_cases he:b=a
 ·subst he;refine⟨h1,fun c hc=>hJ.row c ?_⟩;rw[q4g hk];exact(Wh fun t ht=>(FW h hj t ht).1).2 ⟨(b,c),hc.2,by have:=(FW h hj _ hc.2).1;simp only at this⊢;omega,rfl⟩
 ·exact hJ.done b hb hm he
theorem NedJ.old{k:Nat}(hJ:NedJ p i f D U o x n a k seen todo)(hk:k<((netR p i f).getD a.toNat []).length)(hs:seen.getD (((netR p i f).getD a.toNat [])[k]).toNat false=true):NedJ p i f D U o x n a (k+1) seen todo:=by
 refine⟨hJ.len,hJ.rng,hJ.way,hJ.td,hJ.me,hJ.done,fun c hc=>?_⟩;rcases(GY hk).1 hc with h1|rfl
 ·exact hJ.row c h1
 ·exact hs
theorem NedJ.new{k:Nat}(hJ:NedJ p i f D U o x n a k seen todo)(hk:k<((netR p i f).getD a.toNat []).length){c:Int}(hc:c=((netR p i f).getD a.toNat [])[k])(hr:0<=c/\c<(n:Int))(hR:nR p i f D x a c):NedJ p i f D U o x n a (k+1) (seen.set c.toNat true) (todo++[c]):=by
 have hl:c.toNat<seen.length:=by rw[hJ.len];omega
 have hold:∀b:Int,(b=0\/(seen.set c.toNat true).getD b.toNat false=true/\0<=b)->b=c\/(b=0\/seen.getD b.toNat false=true/\0<=b):=fun b hb=>by
  rcases hb with h1|⟨h1,h2⟩
  ·exact .inr (.inl h1)
  ·rcases EV h1 with h3|h3
   ·exact .inl (by omega)
   ·exact .inr (.inr ⟨h3,h2⟩)
 refine⟨by rw[q5s];exact hJ.len,fun b hb=>?_,fun b hb=>?_,fun b hb=>?_,hJ.me,fun b hb hm he=>?_,fun b hb=>?_⟩
 ·rcases q3a.1 hb with h1|h1
  ·exact hJ.rng b h1
  ·rw[q3r.1 h1];exact hr
 ·rcases hold b hb with rfl|h1
  ·exact .tail hJ.me hR
  ·exact hJ.way b h1
 ·rcases q3a.1 hb with h1|h1
  ·rcases hJ.td b h1 with h2|h2
   ·exact .inl h2
   ·exact .inr ⟨Da h2.1,h2.2⟩
  ·rw[q3r.1 h1];exact .inr ⟨AU hl,hr.1⟩
 ·rcases hold b hb with rfl|h1
  ·exact absurd (q5y _ (q3r.2 rfl)) hm
  ·obtain⟨h2,h3⟩:=hJ.done b h1 (fun h=>hm (q4i _ h)) he;exact⟨h2,fun d hd=>Da (h3 d hd)⟩
 ·rcases(GY hk).1 hb with h1|h1
  ·exact Da (hJ.row b h1)
  ·rw[h1,<-hc];exact AU hl
end
def Pb(p:Pg)(i:Nat)(f:Pr)(D U:List (List Str))(o:List Str):List Str:=(p.globals++[XD]).filter (R0 p i f D U o)
theorem fzL{N:Nat}{a b c d e:AV}{L:List Str}{n:Nat}(hn:n=(L.map AV.str).length):
  Le N ⟨[(0,.p a),(1,.p b),(5,.p .nils),(6,.p c),(27,.hd 0 0 n),(28,.p d),(29,.p e)],[(0,.own 9 1 (L.map .str))]⟩ ⟨[(0,.p a),(1,.p b),(5,.hd 0 0 0),(6,.p c),(27,.p (eStrs L)),(28,.p d),(29,.p e)],[(0,.own 9 1 [])]⟩:=by
 subst hn;obtain⟨s',rfl,hle⟩:=Le.row (N:=N) (s:=⟨[(0,.p a),(1,.p b),(5,.p .nils),(6,.p c),(27,.hd 0 0 (L.map AV.str).length),(28,.p d),(29,.p e)],[(0,.own 9 1 (L.map .str))]⟩) (k:=0) (e:=9) (sz:=1) (es:=L.map .str) (zs:=[27]) rfl
  (K:=fun s=>s=⟨[(0,.p a),(1,.p b),(5,.p .nils),(6,.p c),(27,.p (eStrs L)),(28,.p d),(29,.p e)],[]⟩) ⟨rfl,rfl⟩
 exact hle.trans (Le.mk [(0,.own 9 1 [])] (by simp[Chunk.new0];rfl) (by simp) (by simp) (.r (.r (.cons (.nil q3d) (.r (.r (.r (.r .nil))))))) (.new q3d .nil))
theorem Jz(b:Book)(p:Pg)(hp:b.s=sheetOf p)(h:XX p=true)(i:Nat)(f:Pr)(hj:p.procs[i]?=some f)(hW:b.ways[i]?=some (QQ p i f))(o:List Str)(hN:∀x,SpecP prog 152 [.ip b.cells,.int .i64 i,V9 (netR p i f),.str x] (fun r=>r=.bool (R0 p i f b.defs b.uses o x))):SpecH prog 91 [.p (.ip b.cells),.p (.int .i64 i)] [] (fun r H=>OneRow (Yx (Pb p i f b.defs b.uses o)) False r H):=by
 refine sH Xe func91 rfl call91 ?_;conv=>whnf
 have hbp:b.s.p=p:=by rw[hp];exact(QU p).1
 have hg:=(XS h).1;have hdl:=P9 h hj;have hNt:=Bm (QQ p i f) f (cntL f.body+2) (Og h hj) (FW h hj) (by omega);have hNt2:SpecP prog 150 [.ip (QQ p i f).cells] (fun r=>r=V9 (netR p i f)):=hNt;have hCl:SpecH prog 151 ([eStrs p.globals].map .p) [] (OneRow (Yx p.globals) (p.globals=[])):=ZC p.globals (by omega);have hg1:(b.ways.map fun w=>AV.ip w.cells)[i]?=some (.ip (QQ p i f).cells):=by rw[q4x,hW];rfl
 generalize QQ p i f=w at*
 generalize netR p i f=net at*
 repeat' ((first|(refine IdxK.at (k:=i) rfl hg1 rfl ?_)|refine cP hNt2 ?_);conv=>whnf)
 obtain⟨L,hL⟩ : ∃L,L=p.globals++[XD]:=⟨_,rfl⟩;have hLl:L.length<=17:=by rw[hL,q3m];simp;omega
 have hfin:Pb p i f b.defs b.uses o=L.filter (R0 p i f b.defs b.uses o):=by unfold Pb;rw[hL]
 rw[hfin];generalize R0 p i f b.defs b.uses o=ned at*
 refine JP 0 rfl hCl (.cons (.p (Sub.of_eq (by rw[hbp]))) .nil) (fun hnil=>?_) (fun q e sz es hR=>?_);rotate_left;obtain⟨rfl,rfl,rfl⟩:=hR
 rotate_right
 all_goals
  conv=>whnf
  repeat' ((first|(refine iM fun _=>?_)|refine q3l rfl ?_|refine aD ?_|refine bP ?_|refine XW (es:=[]) rfl (by simp) ?_|refine XW (by simp) (by simp;omega) ?_);conv=>whnf)
 all_goals
  refine LoopK.inv QY (fun x:Nat×List Str=>⟨[(0,.p (.ip b.cells)),(1,.p (.int .i64 i)),(5,.hd 0 0 x.2.length),(6,.p (V9 net)),(27,.p (eStrs L)),(28,.p (.int .i64 (L.map AV.str).length)),(29,.p (.int .i64 x.1))],[(0,.own 9 1 (x.2.map .str))]⟩) (fun x=>x.1<=L.length/\x.2=(L.take x.1).filter ned/\x.2.length<=x.1) (fun x=>L.length-x.1) (0,[])
   (by first
     |exact Le.trans (Le.of_eq (by rw[hL,hnil];rfl)) (fzL (L:=L) rfl)
     |exact Le.trans (Le.of_eq (by rw[hL];simp only[q4z,q3m];rfl)) (fzL (L:=L) rfl)
     |trace_state) ⟨q3o _,by simp,by simp⟩ ?_
  rintro⟨j,acc⟩ ⟨h2,h3,h4⟩;simp only at h2 h3 h4⊢;have hlm:(L.map AV.str).length=L.length:=q3f _;rcases q4w j L.length with hj|hj
  ·have hst:=q4y hj;have hNj:=hN L[j];have e5:(L.map AV.str)[j]?=some (.str L[j]):=by simp[hj]
   cases hnd:ned L[j];all_goals
    rw[hnd]at hNj;conv=>whnf
    repeat' (first|((first|refine q3l rfl ?_|refine aD ?_|refine bP ?_|(refine iA fun _=>?_)|refine wI ?_|refine cP hNj ?_|refine XW (by simp) (by rw[q3f];omega) ?_|refine Br.tt ?_|refine Br.ff ?_);conv=>whnf)|(apply bD<;>intro _<;>first|omega|conv=>whnf))
   all_goals first
    |exact⟨(j+1,acc++[L[j]]),⟨hj,by simp only;rw[hst,q6s,q6x hnd,h3];rfl,by simp;omega⟩,by simp only;omega,Le.of_eq (by simp only[q3m,q4z];rfl)⟩
    |exact⟨(j+1,acc),⟨hj,by simp only;rw[hst,q6s,q6d (by rw[hnd];decide),h3];simp,by simp only;omega⟩,by simp only;omega,Le.of_eq rfl⟩
  ·rw[q4g hj]at h3;subst h3;conv=>whnf
   repeat' (apply bD<;>intro _<;>first|omega|conv=>whnf)
   all_goals exact q5u _ (q3e _) (OneRow.str rfl)
def bkI(p:Pg)(I:List (List Str)):Book:=⟨sheetOf p,[],[],[],I,[]⟩
def usB(p:Pg)(I:List (List Str)):List (List Str):=(sheetOf p).l.map fun it=>UQ (Q5 (bkI p I) it.s)
def niA(p:Pg)(D U O:List (List Str))(i:Nat):List Str:=UQ (Pb p i (prA p i) D U (O.getD i []))
def niB(p:Pg)(D U O:List (List Str)):List (List Str):=(List.range p.procs.length).map (niA p D U O)
def rdI(p:Pg)(D O I:List (List Str)):List (List Str):=niB p D (usB p I) O
def itI(p:Pg)(D O:List (List Str)):Nat->List (List Str)
 |0=>List.replicate p.procs.length []
 |k+1=>rdI p D O (itI p D O k)
structure OkI(p:Pg)(I:List (List Str)):Prop where
 len:I.length=p.procs.length
 rise:∀o∈I,o.Pairwise ltT
 sub:∀i,∀n∈I.getD i [],comB p n=true
theorem OkI.len25{p:Pg}{I:List (List Str)}(hc:XX p=true)(h:OkI p I)(i:Nat):(I.getD i []).length<=25:=by
 have h2:=FG (m:=XD::p.globals) (KK (NW h.rise i)) fun n hn=>by
  rcases Xv.1 (h.sub i n hn)with rfl|h3
  ·exact q3d
  ·exact q3n _ h3
 have h4:=(XS hc).1;rw[q4m]at h2;omega
theorem OkI.use{p:Pg}{I:List (List Str)}(hc:XX p=true)(h:OkI p I){b:Book}(hs:b.s=sheetOf p)(hi:b.ins=I){t:S}(ht:t∈YP p)(h4:t.kind=4):UseOk b t:=by
 obtain⟨k,hk,h1,_⟩:=PS hc ht h4;have h6:=(PT hc ht h4).2;have e:b.s.p=p:=by rw[hs];exact(QU p).1
 have hI:inAt b t=I.getD (caI p t).toNat []:=by unfold inAt;rw[e,hi]
 refine⟨by rw[e];omega,by rw[e,hi,h.len];omega,by omega,?_⟩;rw[hI];have:=h.len25 hc (caI p t).toNat;omega
theorem Sd{p:Pg}{I:List (List Str)}{b:Book}(hs:b.s=sheetOf p)(hi:b.ins=I)(t:S):Q5 b t=Q5 (bkI p I) t:=by
 unfold Q5 inAt bkI;rw[hs,hi]
theorem Sb{p:Pg}{I:List (List Str)}(h:leO I I'){t:S}{n:Str}(hn:n∈Q5 (bkI p I) t):n∈Q5 (bkI p I') t:=by
 unfold Q5 at hn⊢;split at hn
 ·rw[if_pos (by assumption)];rcases q3a.1 hn with hn|hn
  ·exact q4i _ hn
  ·exact q5y _ (h _ _ hn)
 ·rw[if_neg (by assumption)];exact hn
theorem A2{p:Pg}{I:List (List Str)}(h:leO I I'):leO (usB p I) (usB p I'):=fun i n hn=>by
 obtain⟨it,h1,h2⟩:=YA.1 hn;exact YA.2 ⟨it,h1,WM.2 (Sb h (WM.1 h2))⟩
theorem T1{p:Pg}{i:Nat}{f:Pr}{U U':List (List Str)}{o:List Str}{x:Str}(h:leO U U'){a:Int}(ha:hitN p i f U o x a=true):hitN p i f U' o x a=true:=by
 unfold hitN at ha⊢;cases h1:decide (a=(cntL f.body+2:Nat)-1)with
 |true=>rw[h1]at ha;exact ha
 | false=>
   rw[h1]at ha;cases h2:decide (0<a)with
   | true=>
     rw[h2]at ha;exact HA.2 (h _ _ (HA.1 ha))
   |false=>rw[h2]at ha;cases ha
theorem Bq{p:Pg}{D U O:List (List Str)}{i:Nat}(hi:i<p.procs.length){n:Str}:n∈(niB p D U O).getD i []↔comB p n=true/\R0 p i (prA p i) D U (O.getD i []) n=true:=by
 unfold niB;rw[YA];have e:n∈niA p D U O i↔comB p n=true/\R0 p i (prA p i) D U (O.getD i []) n=true:=by
  unfold niA Pb;rw[WM,q5q,Xv,q3a,q3r,or_comm]
 rw[<-e];constructor
 ·rintro⟨x,h1,h2⟩;rw[q7l hi]at h1;cases h1;exact h2
 ·exact fun h=>⟨i,q7l hi,h⟩
theorem Tf{p:Pg}{D U O:List (List Str)}{i:Nat}(hi:¬i<p.procs.length){n:Str}(h:n∈(niB p D U O).getD i []):False:=by
 obtain⟨x,h1,_⟩:=YA.1 h;rw[q5w (by simpa using hi)]at h1;cases h1
theorem CZ{p:Pg}(hc:XX p=true){D O I:List (List Str)}(h:leO I I'):leO (rdI p D O I) (rdI p D O I'):=fun i n hn=>by
 by_cases hi:i<p.procs.length
 ·obtain⟨h1,h2⟩:=(Bq hi).1 hn;obtain⟨a,h3,h4⟩:=(ND hc (N9 hi)).1 h2;exact(Bq hi).2 ⟨h1,(ND hc (N9 hi)).2 ⟨a,h3,T1 (A2 h) h4⟩⟩
 ·exact(Tf hi hn).elim
theorem Ap{p:Pg}(hc:XX p=true)(D O:List (List Str)):∀k,leO (itI p D O k) (itI p D O (k+1))
 | 0=>fun i n hn=>by
   unfold itI at hn;rw[q3p,q4s]at hn;split at hn<;>cases hn
 |k+1=>CZ hc (Ap hc D O k)
theorem Aa(p:Pg)(D U O:List (List Str)):OkI p (niB p D U O):=by
 refine⟨by unfold niB;rw[q3f,q7q],fun o ho=>?_,fun i n hn=>?_⟩
 ·obtain⟨i,_,rfl⟩:=q3s.1 ho;exact YZ _
 ·by_cases hi:i<p.procs.length
  ·exact((Bq hi).1 hn).1
  ·exact(Tf hi hn).elim
theorem W1(p:Pg)(D O:List (List Str)):∀k,OkI p (itI p D O k)
 | 0=>by
   refine⟨by unfold itI;rw[q5d],fun o ho=>?_,fun i n hn=>?_⟩
   ·rw[q6l ho];exact .nil
   ·unfold itI at hn;rw[q3p,q4s]at hn;split at hn<;>cases hn
 |k+1=>Aa p _ _ _
theorem OkI.tot{p:Pg}{I:List (List Str)}(hc:XX p=true)(h:OkI p I):Go.Ab.tot I<=400:=by
 have h1:=Ky (O:=I) fun o ho=>by
  obtain⟨i,hi,rfl⟩:=q6k.1 ho;have:=h.len25 hc i
  rwa[q3p,q3b hi]at this
 have h2:=(XS hc).2.1;rw[h.len]at h1;omega
theorem Pl{p:Pg}(hc:XX p=true){D O:List (List Str)}{k:Nat}(h:itI p D O (k+1)≠itI p D O k):Go.Ab.tot (itI p D O k)<Go.Ab.tot (itI p D O (k+1)):=by
 obtain⟨h1,h2⟩:=S9 (O:=itI p D O k) (O':=itI p D O (k+1)) (by rw[(W1 p D O k).len,(W1 p D O (k+1)).len]) (W1 p D O k).rise (W1 p D O (k+1)).rise (Ap hc D O k);rcases q4w (Go.Ab.tot (itI p D O k)) (Go.Ab.tot (itI p D O (k+1)))with h3|h3
 ·exact h3
 ·exact absurd (h2 h3).symm h
def wysB(p:Pg):List Way:=(List.range p.procs.length).map fun i=>QQ p i (prA p i)
theorem Bs{p:Pg}{i:Nat}(h:i<p.procs.length):(wysB p)[i]?=some (QQ p i (prA p i)):=by
 unfold wysB;rw[q4x,q7l h];rfl
structure BookR(p:Pg)(b:Book):Prop where
 s:b.s=sheetOf p
 ways:b.ways=wysB p
 outs:∃k,b.outs=itO p k
 fixO:rdO p b.outs=b.outs
 defs:b.defs=dfB p b.outs
 ins:∃k,b.ins=itI p b.defs b.outs k
 fixI:rdI p b.defs b.outs b.ins=b.ins
 uses:b.uses=usB p b.ins
theorem Jf{p:Pg}{k:Nat}(h:rdO p (itO p k)=itO p k):∀m,itO p (k+m)=itO p k
 |0=>rfl
 | m+1=>by
   show rdO p (itO p (k+m))=_;rw[Jf h m,h]
theorem Jg{p:Pg}{D O:List (List Str)}{k:Nat}(h:rdI p D O (itI p D O k)=itI p D O k):∀m,itI p D O (k+m)=itI p D O k
 |0=>rfl
 | m+1=>by
   show rdI p D O (itI p D O (k+m))=_;rw[Jg h m,h]
theorem BookR.uniq{p:Pg}{b c:Book}(hb:BookR p b)(hc:BookR p c):b=c:=by
 obtain⟨k,hk⟩:=hb.outs;obtain⟨m,hm⟩:=hc.outs;have ho:b.outs=c.outs:=by
  have h1:=Jf (p:=p) (k:=k) (by rw[<-hk];exact hb.fixO) m;have h2:=Jf (p:=p) (k:=m) (by rw[<-hm];exact hc.fixO) k;rw[hk,hm,<-h1,<-h2,q7o]
 have hd:b.defs=c.defs:=by rw[hb.defs,hc.defs,ho]
 obtain⟨k,hk⟩:=hb.ins;obtain⟨m,hm⟩:=hc.ins;have hi:b.ins=c.ins:=by
  have hf1:=hb.fixI;have hf2:=hc.fixI;rw[<-ho,<-hd]at hm hf2;have h1:=Jg (p:=p) (D:=b.defs) (O:=b.outs) (k:=k) (by rw[<-hk];exact hf1) m;have h2:=Jg (p:=p) (D:=b.defs) (O:=b.outs) (k:=m) (by rw[<-hm];exact hf2) k;rw[hk,hm,<-h1,<-h2,q7o]
 have hu:b.uses=c.uses:=by rw[hb.uses,hc.uses,hi]
 have hs:b.s=c.s:=by rw[hb.s,hc.s]
 have hw:b.ways=c.ways:=by rw[hb.ways,hc.ways]
 cases b;cases c;simp only at ho hd hi hu hs hw;subst ho hd hi hu hs hw;rfl
noncomputable def QS(p:Pg):Book:=@Classical.epsilon _ ⟨bkO p []⟩ (BookR p)
theorem BookR.eq{p:Pg}{b:Book}(h:BookR p b):b=QS p:=h.uniq (@Classical.epsilon_spec _ (BookR p) ⟨b,h⟩)
theorem Ej{p:Pg}(hc:XX p=true):∃k,itO p (k+1)=itO p k:=by
 refine q7e fun hno=>?_;have h1:∀k,k<=Go.Ab.tot (itO p k):=fun k=>by
  induction k with
  |zero=>exact q3o _
  | succ k ih=>
    have:=Pt (p:=p) (k:=k) fun he=>hno ⟨k,he⟩;omega
 have h2:=(W2 p 401).tot hc;have h3:=h1 401;omega
theorem Ey{p:Pg}(hc:XX p=true)(D O:List (List Str)):∃k,itI p D O (k+1)=itI p D O k:=by
 refine q7e fun hno=>?_;have h1:∀k,k<=Go.Ab.tot (itI p D O k):=fun k=>by
  induction k with
  |zero=>exact q3o _
  | succ k ih=>
    have:=Pl hc (p:=p) (D:=D) (O:=O) (k:=k) fun he=>hno ⟨k,he⟩;omega
 have h2:=(W1 p D O 401).tot hc;have h3:=h1 401;omega
theorem ME{p:Pg}(hc:XX p=true):BookR p (QS p):=by
 obtain⟨k,hk⟩:=Ej hc;obtain⟨m,hm⟩:=Ey hc (dfB p (itO p k)) (itO p k);have hb:BookR p ⟨sheetOf p,wysB p,dfB p (itO p k),usB p (itI p (dfB p (itO p k)) (itO p k) m),itI p (dfB p (itO p k)) (itO p k) m,itO p k⟩:=⟨rfl,rfl,⟨k,rfl⟩,hk,rfl,⟨m,rfl⟩,hm,rfl⟩;rw[<-hb.eq];exact hb
theorem Rb{p:Pg}(hc:XX p=true):OkO p (QS p).outs/\OkI p (QS p).ins:=by
 have hb:=ME hc;obtain⟨k,hk⟩:=hb.outs;obtain⟨m,hm⟩:=hb.ins;exact⟨hk▸W2 p k,hm▸W1 p _ _ m⟩
theorem Pc{p:Pg}{f:Pr}{n:Str}(h:X9 p f n≠0):n∈p.globals\/n∈Wd f:=by
 unfold X9 at h;unfold Wd;cases hq:f.params.find? (fun a=>a.name==n)with
 | some a=>
   refine .inr (q4i _ (q3s.2 ⟨a,q7j hq,by simpa using q7s hq⟩))
 | none=>
   rw[hq]at h;cases hv:f.vars.any (fun s=>n==s)with
   | true=>
     obtain⟨s,h1,h2⟩:=q5l.1 hv;exact .inr (q5y _ (by rw[eq_of_beq h2];exact h1))
   | false=>
     cases hg:p.globals.any (fun s=>n==s)with
     | true=>
       obtain⟨s,h1,h2⟩:=q5l.1 hg;exact .inl (by rw[eq_of_beq h2];exact h1)
     |false=>exact absurd (by simp only[hv,hg];rfl) h
theorem RA{p:Pg}(h:XX p=true){n:Str}(hn:n∈p.globals):isName n=true:=by
 have hm:=(QD h).1;unfold HE at hm;simp only[q4k]at hm;exact q5k.1 hm.1.2 n hn
theorem Cc{p:Pg}(h:XX p=true){f:Pr}(hf:f∈p.procs){n:Str}(hn:n∈Wd f):isName n=true:=by
 obtain⟨_,_,_,h1,_,h2⟩:=KZ.1 (B4 (QD h).1 hf);rcases q3a.1 hn with hn|hn
 ·obtain⟨a,ha,rfl⟩:=q3s.1 hn;exact q5k.1 h2 a ha
 ·exact q5k.1 h1 n hn
section
variable {p:Pg}{j:Nat}{f:Pr}
theorem TP(h:XX p=true)(hf:f∈p.procs){t:S}(ht:t∈flL f.body){n:Str}(hn:n∈XM t):isName n=true:=by
 have hk:=YB (QD h).2.1 hf ht;unfold YG at hk;rw[q4k]at hk;have h1:=q5k.1 hk.1 n hn;rcases Pc (by simpa using h1)with h2|h2
 ·exact RA h h2
 ·exact Cc h hf h2
theorem EJ:isName XD=false:=by kernel_rfl
theorem TN(h:XX p=true)(hf:f∈p.procs){t:S}(ht:t∈flL f.body):XD∉XM t:=fun hn=>by
 have:=TP h hf ht hn;rw[EJ]at this;cases this
theorem Ht{t:S}(h1:t.name≠[])(h2:t.kind≠10):t.name∈XM t:=by
 unfold XM HI;refine q4i _ (q4i _ ?_);have:(decide (t.kind≠10) && !(t.name==[]))=true:=by simp[h1,h2]
 rw[this];exact q3r.2 rfl
theorem SD{t:S}{a:Arg}(ha:a∈t.args){n:Str}(hn:n∈usA a):n∈XM t:=by
 unfold XM;refine q5y _ (q5g.2 ⟨a,ha,?_⟩);unfold usA at hn;unfold YO;rcases q3a.1 hn with hn|hn
 ·refine q4i _ ?_;cases hr:a.ref with
  |true=>rw[hr,if_pos rfl]at hn;exact hn
  |false=>rw[hr,if_neg (by decide)]at hn;cases hn
 ·exact q5y _ hn
theorem CV{t:S}{g:Pr}{O:List Str}{n:Str}(hn:n∈Lq t g O t.args.length):n∈XM t:=by
 obtain⟨x,h1,⟨h2,_⟩,h4⟩:=Ji.1 hn;have ha:x.1∈t.args:=(List.of_mem_zip (a:=x.1) (b:=x.2) (q8t h1)).1;refine SD ha ?_;unfold usA;rw[if_pos h2,h4];exact q4i _ (q3r.2 rfl)
theorem I7{O:List (List Str)}{t:S}:caO (bkO p O) t=O.getD (caI p t).toNat []:=rfl
theorem RQ{O:List (List Str)}{t:S}(h4:t.kind=4){n:Str}:n∈HV (bkO p O) t↔(n=t.name/\t.name≠[])\/n∈Lq t (caP p t) (O.getD (caI p t).toNat []) t.args.length\/(n∈O.getD (caI p t).toNat []/\comB p n=true):=by
 have e:HV (bkO p O) t=Ax p t (caP p t) (caO (bkO p O) t):=by
  unfold HV;rw[if_neg (by omega),if_neg (by omega),if_neg (by omega),if_pos h4];rfl
 rw[e,I7];unfold Ax;rw[q3a,q3a,q5q,or_assoc];by_cases h:t.name=[]
 ·rw[if_pos h];simp[h]
 ·rw[if_neg h];simp[h]
theorem CE(h:XX p=true)(hf:f∈p.procs){t:S}(ht:t∈flL f.body){O:List (List Str)}:XD∈HV (bkO p O) t↔t.kind=2\/(t.kind=4/\XD∈O.getD (caI p t).toNat []):=by
 have hno:=TN h hf ht;by_cases h2:t.kind=2
 ·have e:HV (bkO p O) t=[t.name,XD]:=by unfold HV;rw[if_neg (by omega),if_pos h2]
  rw[e];simp[h2]
 by_cases h4:t.kind=4
 ·rw[RQ h4];constructor
  ·rintro(⟨h5,h6⟩|h5|⟨h5,_⟩)
   ·exact absurd (h5▸Ht h6 (by omega)) hno
   ·exact absurd (CV h5) hno
   ·exact .inr ⟨h4,h5⟩
  ·rintro(h5|⟨_,h5⟩)
   ·exact absurd h5 h2
   ·exact .inr (.inr ⟨h5,Xv.2 (.inl rfl)⟩)
 ·constructor
  ·intro h5;exfalso;unfold HV at h5;rw[if_neg h2,if_neg h4]at h5;split at h5
   ·rename_i h1;have h6:=q3r.1 h5;refine hno ?_;have:=Ht (t:=t) (fun he=>by rw[he]at h6;exact absurd h6 (by decide)) (by omega)
    rwa[<-h6]at this
   ·split at h5
    ·exact absurd (q3r.1 h5) (by decide)
    ·cases h5
  ·rintro(h5|⟨h5,_⟩)
   ·exact absurd h5 h2
   ·exact absurd h5 h4
theorem Om(h:XX p=true)(hj:p.procs[j]?=some f){t:S}(ht:t∈flL f.body):∃it,(sheetOf p).l[(t.id-1).toNat]?=some it/\it.s=t:=by
 have h1:=Bg h hj ht;unfold Si at h1;obtain⟨it,h2,h3⟩:=q8h.1 h1;exact⟨it,h2,h3⟩
theorem Oo(h:XX p=true)(hj:p.procs[j]?=some f){t:S}(ht:t∈flL f.body)(O:List (List Str)):PE (dfB p O) t.id=UQ (HV (bkO p O) t):=by
 obtain⟨it,h1,rfl⟩:=Om h hj ht;unfold PE dfB;rw[q3p,q4x,h1];rfl
theorem IL{O:List (List Str)}(h:XX p=true)(hO:rdO p O=O)(hj:p.procs[j]?=some f){t:S}(ht:t∈flL f.body)(hl:Rch (wR p j f) 0 t.id){n:Str}(hd:n∈HV (bkO p O) t)(ho:outB p f n=true):n∈O.getD j []:=by
 have hjl:j<p.procs.length:=(q3c.1 hj).1;have hp:=UT hj;have hit:t∈(itsOf p j f).map Item.s:=by
  show t∈(itL (j:Nat) 0 (-1) 0 (QL p.procs j) f.body).map Item.s;rw[NY];exact ht
 obtain⟨it,hi,rfl⟩:=q3s.1 hit;have hb:=VK (QD h).1 hj ht;rw[<-hO];unfold rdO;rw[Jc hjl,hp];refine⟨it,hi,?_,?_,ho⟩
 ·unfold lvB;rw[hp];exact(Ck h hj (.inr (.inr hb))).2 hl
 ·rw[Oo h hj ht];exact WM.2 hd
end
end Go.Ab
