/- ref20: the table, what statements give and take. -/
import Derived.Test.YtiaikoimoonlmaaGreatInoB6
import Derived.Test.YtiaikoimoonlmaaGreatInoB18
import Derived.Test.YtiaikoimoonlmaaGreatInoB19
import Derived.Test.YtiaikoimoonlmaaGreatInoB21
set_option linter.unusedSimpArgs false
set_option linter.unusedVariables false
set_option maxRecDepth 100000
set_option maxHeartbeats 16000000
open Nat (blt)
namespace Go.Ab
open Go.Proofs.Tryz
open Go.Proofs
def x9k (p:Pg) (I O:List (List Str)):List AV:=[eStrs p.globals,.sl (p.procs.map fun f => .agg f.cells),.tt,.sl (I.map eStrs),.sl (O.map eStrs),.sl (p.procs.map fun f=>VM (flatU f)),.sl (p.procs.map fun f=>QR (WJ p f.name)),.sl (p.procs.map fun f=>QL (VT p f.name))]
theorem v6j {p:Pg} {n:Str}:comB p n=((n==XE)||inS p.globals n):=by
 rw [u6a,DA,u8y,u6m,ZU]
theorem z3f (a:Str):XZ [a]=[a]:=(q4h (by simp) (fun s=>u9n)).symm
theorem z6z {l m:List Str} (h : ∀ s,s∈l↔s∈m):XZ l=XZ m:=HG ltT.irr ltT.trans (WN l) (WN m) fun s=>by rw [XF,XF,h]
theorem XK (p:Pg) (tl:List AV) (n:Str):SpecP prog 77 [.ip (eStrs p.globals :: .sl (p.procs.map fun f => .agg f.cells)::tl),.str n] (fun r=>r = .int .i64 (q3l (fun f=>f.name==n) p.procs)):=by
 refine sB FG func77 rfl call77 ?_;conv=>whnf
 repeat' (refine iM fun _=>?_;conv=>whnf)
 have hl:(p.procs.map fun f=>AV.agg f.cells).length=p.procs.length:=u3k _;refine LoopK.inv QX (fun j:Nat=>⟨[(1,.p (.str n)),(11,.p (.sl (p.procs.map fun f => .agg f.cells))),(12,.p (.int .i64 (p.procs.map fun f=>AV.agg f.cells).length)),(13,.p (.int .i64 j))],[]⟩) (fun j=>j<=p.procs.length∧(p.procs.drop j).any (fun f=>f.name==n)=p.procs.any (fun f=>f.name==n)∧p.procs.findIdx (fun f=>f.name==n)=j+(p.procs.drop j).findIdx (fun f=>f.name==n)) (fun j=>p.procs.length-j) 0 (Le.of_eq rfl) ⟨u3l _,rfl,by simp⟩ ?_;rintro j ⟨h2,h3,h4⟩;conv=>whnf
 repeat' (first|((first|refine u3d rfl ?_|(refine iA fun _=>?_)|refine wI ?_);conv=>whnf)|(apply bD<;>intro _<;>first|omega|conv=>whnf)|(apply bB<;>intro _<;>conv=>whnf))
 ·exact RetK.int (q9c (p:=fun f:Pr=>f.name==n) (by omega) (by assumption) h3 h4).symm
 ·exact ⟨j+1,⟨by omega,by rw [<- h3,q0u (p:=fun f:Pr=>f.name==n) (by omega) (by assumption)],by rw [h4,w8t (p:=fun f:Pr=>f.name==n) (by omega) (by assumption)];omega⟩,by omega,Le.of_eq rfl⟩
 ·exact RetK.int (by rw [x8w];rw [<- h3,HI (by omega)])
theorem WE (l:List Int) (x:Int):SpecP prog 155 [QR l,.int .i64 x] (fun r=>r = .bool (JS l x)):=by
 refine sB LW func155 rfl call155 ?_;conv=>whnf
 repeat' (refine iM fun _=>?_;conv=>whnf)
 have hl:(l.map (AV.int .i64)).length=l.length:=u3k _;refine LoopK.inv QX (fun j:Nat=>⟨[(1,.p (.int .i64 x)),(7,.p (QR l)),(8,.p (.int .i64 (l.map (AV.int .i64)).length)),(9,.p (.int .i64 j))],[]⟩) (fun j=>j<=l.length∧(l.drop j).any (fun y=>decide (x=y))=JS l x) (fun j=>l.length-j) 0 (Le.of_eq rfl) ⟨u3l _,rfl⟩ ?_;rintro j ⟨h2,h3⟩;rcases u3r j l.length with hj|hj
 ·conv=>whnf
  repeat' (first|((first|(refine iA fun _=>?_)|refine wI ?_);conv=>whnf)|(apply bD<;>intro _<;>first|omega|conv=>whnf))
  all_goals first
   | exact RetK.tt (by rw [<- h3,q1u hj (by simp_all)])
   | exact ⟨j+1,⟨hj,by rw [q0u hj (by simp;omega)];exact h3⟩,by omega,Le.of_eq rfl⟩
 ·conv=>whnf
  repeat' (apply bD<;>intro _<;>first|omega|conv=>whnf)
  exact RetK.ff (by rw [<- h3,HI hj])
theorem x5y (p:Pg) (tl:List AV) (l:List Str) (hl:l.length<=1000000):SpecH prog 84 ([AV.ip (eStrs p.globals::tl),eStrs l].map .p) [] (OneRow (x0k (l.filter (comB p))) (l.filter (comB p)=[])):=by
 refine sH KP func84 rfl call84 ?_;conv=>whnf
 repeat' (refine iM fun _=>?_;conv=>whnf)
 have hlm:(l.map AV.str).length=l.length:=u3k _;refine LoopK.inv QX (fun x:Nat×List Str=>⟨[(0,.p (.ip (eStrs p.globals::tl))),(5,.hd 0 0 x.2.length),(8,.p (eStrs l)),(9,.p (.int .i64 (l.map AV.str).length)),(10,.p (.int .i64 x.1))],[(0,.own 9 1 (x.2.map .str))]⟩) (fun x=>x.1<=l.length∧x.2=(l.take x.1).filter (comB p)∧x.2.length<=x.1) (fun x=>l.length-x.1) (0,[])
  (Le.mk [(0,.own 9 1 [])] (by simp [Chunk.new0];rfl) (by simp) (by simp) (.cons (.refl _) (.cons (.nil u3g) (.cons (.refl _) (.cons (.refl _) (.cons (.refl _) .nil))))) (.new u3g .nil)) ⟨u3l _,by simp,by simp⟩ ?_
 rintro ⟨j,acc⟩ ⟨h2,h3,h4⟩;simp only at h2 h3 h4 ⊢;rcases u3r j l.length with hj|hj
 ·have hst:=u3a hj;have hI:=QB p.globals l[j];have hcm:comB p l[j]=((l[j]==XE)||inS p.globals l[j]):=v6j;generalize inS p.globals l[j]=ig at *
  conv=>whnf
  repeat' (first|((first|refine u3d rfl ?_|refine aD ?_|refine bP ?_|(refine iA fun _=>?_)|refine wI ?_|refine cP hI ?_|refine QH (by simp) (by rw [u3k];omega) ?_);conv=>whnf)|(apply bD<;>intro _<;>first|omega|conv=>whnf)|(apply bB<;>intro _<;>conv=>whnf))
  all_goals first
   | (have hc:comB p l[j]=true:=by rw [hcm,show (l[j]==XE)=true by assumption];rfl
      exact ⟨(j+1,acc++[l[j]]),⟨hj,by simp only;rw [hst,u4a,u5u hc,h3];rfl,by simp;omega⟩,by simp only;omega,Le.of_eq (by simp only [u3f,u3t];rfl)⟩)
   | (have hc:comB p l[j]=true:=by rw [hcm,show ig=true by assumption,Bool.or_true]
      exact ⟨(j+1,acc++[l[j]]),⟨hj,by simp only;rw [hst,u4a,u5u hc,h3];rfl,by simp;omega⟩,by simp only;omega,Le.of_eq (by simp only [u3f,u3t];rfl)⟩)
   | (have hc:comB p l[j]=false:=by rw [hcm,show (l[j]==XE)=false by assumption,show ig=false by assumption];rfl
      exact ⟨(j+1,acc),⟨hj,by simp only;rw [hst,u4a,u5v (by rw [hc];decide),h3];simp,by simp only;omega⟩,by simp only;omega,Le.of_eq rfl⟩)
 ·rw [u3o hj] at h3;subst h3;conv=>whnf
  repeat' (apply bD<;>intro _<;>first|omega|conv=>whnf)
  all_goals exact u6h _ (u4v _) (UH rfl)
theorem x1t (p:Pg) (tl:List AV) (l:List Str) (hl:l.length<=1000000):SpecP prog 84 [.ip (eStrs p.globals::tl),eStrs l] (fun r=>r=eStrs (l.filter (comB p))):=(x5y p tl l hl).toP (fun h=>by rw [h];rfl) fun _ _ _ _ h=>h.2.2
theorem w3q (t:S) {j:Nat} (ha:t.args.length<=8):(x0s t j).length<=100000000:=by
 have h1:=x9n t;have h2:=GY z6t (t.args.take j);have h3:(t.args.take j).length*1048577<=8*1048577:=u5k _ (by simp;omega);unfold x0s;simp only [u3f];omega
theorem v3t (t:S):(if t.name=[] then [] else [t.name]:List Str).length<=1:=by split<;>simp
theorem WY (p:Pg) (I O:List (List Str)) (t:S) (hc:QM p=true) (hO:OkO p O) (ht:t∈VK p):SpecP prog 29 [.ip (x9k p I O),.agg t.cells] (fun r=>r=eStrs (XZ (YI (bkO p O) t))):=by
 refine sB GC func29 rfl call29 ?_;conv=>whnf
 by_cases h4:t.kind=4
 ·obtain ⟨k,hk,h1,h2,_,h5⟩:=q3j hc ht h4;have e:YI (bkO p O) t=z7j p t (prA p k) (O.getD k []):=by
   unfold YI;rw [if_neg (by omega),if_neg (by omega),if_neg (by omega),if_pos h4,<- h2];show z7j p t (caP p t) (caO (bkO p O) t)=_;rw [v6u,h1];rfl
  rw [e];have hA:=XK p (.tt :: .sl (I.map eStrs) :: .sl (O.map eStrs) :: .sl (p.procs.map fun f=>VM (flatU f)) :: .sl (p.procs.map fun f=>QR (WJ p f.name))::[.sl (p.procs.map fun f=>QL (VT p f.name))]) t.proc;have hci:q3l (fun f:Pr=>f.name==t.proc) p.procs=k:=h1;rw [hci] at hA;obtain ⟨f,hf⟩ : ∃ f,f=prA p k:=⟨_,rfl⟩;obtain ⟨o,ho⟩ : ∃ o,o=O.getD k []:=⟨_,rfl⟩;have hg1:(p.procs.map fun f=>AV.agg f.cells)[k]? = some (.agg f.cells):=by rw [u4q,z8i hk,hf];rfl
  have hg2:(O.map eStrs)[k]? = some (eStrs o):=by
   have hkO:k<O.length:=by rw [hO.len];exact hk
   rw [ho,u4q,u3m,u3h hkO];rfl
  have hol:o.length<=25:=by rw [ho];exact hO.len25 hc k
  have hal:=(FL hc ht h4).2;have hG:=x1t p (.sl (p.procs.map fun f => .agg f.cells) :: .tt :: .sl (I.map eStrs) :: .sl (O.map eStrs) :: .sl (p.procs.map fun f=>VM (flatU f)) :: .sl (p.procs.map fun f=>QR (WJ p f.name))::[.sl (p.procs.map fun f=>QL (VT p f.name))]) o (by omega);have hfl:(o.filter (comB p)).length<=o.length:=u5c _ _;rw [<- hf,<- ho];rw [<- hf] at h5;have h5l:f.params.length=t.args.length:=by
   have:=u5j List.length h5
   rwa [u3k,u3k] at this
  have hpm:(f.params.map fun a=>AV.agg a.cells).length=f.params.length:=u3k _;have hrf : ∀ (j:Nat) (h:j<f.params.length) (h':j<t.args.length),t.args[j].ref=f.params[j].ref:=fun j h h'=>by
   have h6:(f.params.map Param.ref)[j]'(by simpa using h)=(t.args.map Arg.ref)[j]'(by simpa using h'):=by simp only [h5]
   rw [u7l,u7l] at h6;exact h6.symm
  have hhl:=v3t t;have hrl:=fun j=>x8a t f o j;have hfin : ∀ j,t.args.length<=j->z7j p t f o=((if t.name=[] then [] else [t.name])++x3n t f o j)++o.filter (comB p):=fun j hj=>by
   unfold z7j x3n;rw [u3o (l:=t.args.zip f.params) (by rw [List.length_zip];omega),u3o (l:=t.args.zip f.params) (by rw [List.length_zip];omega)]
  clear hO hk h1 h2 e hci ht ho hf h5;generalize hdL:(if t.name=[] then [] else [t.name]:List Str)=hd0 at *
  repeat' (first|((first|(refine iM fun _=>?_)|refine u3d rfl ?_|refine aD ?_|refine bP ?_|refine QH (es:=[]) rfl (by simp) ?_|refine cP hA ?_|(refine IdxK.at (k:=k) rfl hg1 rfl ?_));conv=>whnf)|(apply bD<;>intro _<;>first|omega|conv=>whnf)|(apply bN<;>intro _<;>conv=>whnf))
  all_goals
   refine LoopK.inv QX (fun j:Nat=>⟨[(0,.p (.ip (x9k p I O))),(3,.p (.ip t.cells)),(5,.hd 0 0 (hd0++x3n t f o j).length),(6,.p (.int .i64 k)),(47,.p (.sl (f.params.map fun a => .agg a.cells))),(48,.p (.int .i64 (f.params.map fun a=>AV.agg a.cells).length)),(49,.p (.int .i64 j))],[(0,.own 9 1 ((hd0++x3n t f o j).map .str))]⟩) (fun j=>j<=f.params.length) (fun j=>f.params.length-j) 0 ?_ (u3l _) ?_
   ·first
     | (have h9:(t.name==[])=true:=by assumption
        rw [if_pos (eq_of_beq h9)] at hdL;subst hdL;exact Le.mk [(0,.own 9 1 [])] (by simp [Chunk.new0];rfl) (by simp) (by simp) (.cons (.refl _) (.cons (.refl _) (.cons (.nil u3g) (.cons (.refl _) (.cons (.refl _) (.cons (.refl _) (.cons (.refl _) .nil))))))) (.new u3g .nil))
     | (have h9:(t.name==[])=false:=by assumption
        rw [if_neg (by simpa using h9)] at hdL;subst hdL;exact Le.of_eq rfl)
   intro j hj;have hrlj:=hrl j;rcases u3r j f.params.length with hj2|hj2
   ·have hja:j<t.args.length:=by omega
    have hst:=z3h (O:=o) (f:=f) hja hj2;rw [hrf j hj2 hja] at hst;have hI:=QB o f.params[j].name;have hg3:(t.args.map fun a=>AV.agg a.cells)[j]? = some (.agg t.args[j].cells):=by rw [u4q,u3h hja];rfl
    have hst2:hd0++x3n t f o (j+1)=(hd0++x3n t f o j)++(if f.params[j].ref=true∧inS o f.params[j].name=true then [t.args[j].name] else []):=by rw [hst,u4f]
    have hal2:(hd0++x3n t f o j).length<=1000:=by rw [u3f];omega
    clear hst;generalize inS o f.params[j].name=ig at *
    generalize hd0++x3n t f o j=A at *
    conv=>whnf
    repeat' (first|((first|refine dA ?_|refine u3d rfl ?_|refine aD ?_|refine bP ?_|(refine iA fun _=>?_)|refine wI ?_|(refine IdxK.at (k:=k) rfl hg2 rfl ?_)|refine cP hI ?_|(refine IdxK.at (k:=j) rfl hg3 rfl ?_)|refine QH (by simp) (by rw [u3k];omega) ?_);conv=>whnf)|(apply bD<;>intro _<;>first|omega|conv=>whnf)|(apply bB<;>intro _<;>conv=>whnf))
    all_goals first
     | (have h9:f.params[j].ref=true:=by assumption
        have h10:ig=true:=by assumption
        rw [if_pos ⟨h9,h10⟩] at hst2;exact ⟨j+1,hj2,by omega,Le.of_eq (by simp only [hst2,u3f,u3t];rfl)⟩)
     | (have h10:ig=false:=by assumption
        rw [if_neg (fun hh=>by rw [h10] at hh;cases hh.2),u4e] at hst2;exact ⟨j+1,hj2,by omega,Le.of_eq (by rw [hst2];rfl)⟩)
     | (have h9:f.params[j].ref=false:=by assumption
        rw [if_neg (fun hh=>by rw [h9] at hh;cases hh.1),u4e] at hst2;exact ⟨j+1,hj2,by omega,Le.of_eq (by rw [hst2];rfl)⟩)
   ·have hcl:=hfin j (by omega);have hcll:(z7j p t f o).length<=1000:=by rw [hcl,u3f,u3f];omega
    have hS:=XW (z7j p t f o) (by omega);have hAl:(hd0++x3n t f o j).length<=1000:=by rw [u3f];omega
    rw [show eStrs (z7j p t f o) = .sl ((hd0++x3n t f o j).map AV.str++(o.filter (comB p)).map AV.str) by rw [hcl,eStrs,u3t]] at hS;generalize z7j p t f o=C at *
    generalize hd0++x3n t f o j=A at *
    generalize o.filter (comB p)=G at *
    conv=>whnf
    repeat' (first|((first|refine aD ?_|(refine IdxK.at (k:=k) rfl hg2 rfl ?_)|refine cP hG ?_|refine XR _ (by simp) (by rw [u3k];omega) ?_|(refine ZB hS (.cons (.hd rfl (by simp)) .nil) ?_;rintro _ rfl));conv=>whnf)|(apply bD<;>intro _<;>first|omega|conv=>whnf))
    all_goals first
     | exact RetK.p rfl
 ·have hS:=XW [XE,t.name] (by simp);have e2:t.kind=2->XZ (YI (bkO p O) t)=XZ [XE,t.name]:=fun h2=>by
   rw [show YI (bkO p O) t=[t.name,XE] by unfold YI;rw [if_neg (by omega),if_pos h2]];exact z6z fun s=>by simp [or_comm]
  have e1:t.kind=1->XZ (YI (bkO p O) t)=[t.name]:=fun h1=>by
   rw [show YI (bkO p O) t=[t.name] by unfold YI;rw [if_pos h1],z3f]
  have e9:t.kind=9->XZ (YI (bkO p O) t)=[v0l]:=fun h9=>by
   rw [show YI (bkO p O) t=[v0l] by unfold YI;rw [if_neg (by omega),if_neg (by omega),if_pos h9],z3f]
  have e0 : ¬t.kind=1 -> ¬t.kind=2 -> ¬t.kind=9->XZ (YI (bkO p O) t)=[]:=fun h1 h2 h9=>by
   rw [show YI (bkO p O) t=[] by unfold YI;rw [if_neg h1,if_neg h2,if_neg h9,if_neg h4]];exact (q4h .nil (fun s=>u9n)).symm
  generalize XZ (YI (bkO p O) t)=D at *
  generalize XZ [XE,t.name]=D2 at *
  repeat' (first|((first|refine u3d rfl ?_|refine aD ?_|refine u8x (fun x hx=>by rcases u3b.1 hx with rfl;rfl) rfl ?_|refine u8x (fun x hx=>by rcases u3c.1 hx with rfl|hx;rfl;rcases u3b.1 hx with rfl;rfl) rfl ?_|(refine ZB hS (.cons (.hd rfl rfl) .nil) ?_;rintro _ rfl));conv=>whnf)|(apply bD<;>intro _<;>first|omega|conv=>whnf))
  all_goals first
   | (rw [e1 (by assumption)];exact ⟨_,.hd rfl rfl,rfl⟩)
   | (rw [e9 (by assumption)];exact ⟨_,.hd rfl rfl,rfl⟩)
   | (rw [e2 (by assumption)];exact RetK.p rfl)
   | (rw [e0 (by assumption) (by assumption) (by assumption)];exact ⟨_,.p Sub.nils,rfl⟩)
theorem UI (p:Pg) (I O:List (List Str)) (t:S) (hc:QM p=true) (hI:OkI p I) (ht:t∈VK p):SpecP prog 30 [.ip (x9k p I O),.agg t.cells] (fun r=>r=eStrs (XZ (KI (bkI p I) t))):=by
 refine sB GA func30 rfl call30 ?_;conv=>whnf
 have hN:=x5e t.x;have hnx:=ZP t.x;have hk0:t.kind=4 -> ∃ k:Nat,q3l (fun f:Pr=>f.name==t.proc) p.procs=k∧(I.map eStrs)[k]? = some (eStrs (I.getD k []))∧(I.getD k []).length<=25∧(I.getD k []).filter (comB p)=I.getD k []∧inAt (bkI p I) t=I.getD k []∧t.args.length<=8:=fun h4=>by
  obtain ⟨k,hk,h1,_⟩:=q3j hc ht h4;have hkI:k<I.length:=by rw [hI.len];exact hk
  refine ⟨k,h1,?_,hI.len25 hc k,List.filter_eq_self.2 fun n hn=>hI.sub k n hn,by rw [v3c,h1];rfl,(FL hc ht h4).2⟩;rw [u4q,u3m,u3h hkI];rfl
 have hml:(QS t.x).length<=1048577:=by omega
 conv=>whnf
 by_cases h4:t.kind=4
 ·obtain ⟨k,hci,hg2,hol,hof,hin,hal⟩:=hk0 h4;have hA:=XK p (.tt :: .sl (I.map eStrs) :: .sl (O.map eStrs) :: .sl (p.procs.map fun f=>VM (flatU f)) :: .sl (p.procs.map fun f=>QR (WJ p f.name))::[.sl (p.procs.map fun f=>QL (VT p f.name))]) t.proc;rw [hci] at hA;obtain ⟨o,ho⟩ : ∃ o,o=I.getD k []:=⟨_,rfl⟩;rw [<- ho] at hg2 hol hof hin;have hG:=x1t p (.sl (p.procs.map fun f => .agg f.cells) :: .tt :: .sl (I.map eStrs) :: .sl (O.map eStrs) :: .sl (p.procs.map fun f=>VM (flatU f)) :: .sl (p.procs.map fun f=>QR (WJ p f.name))::[.sl (p.procs.map fun f=>QL (VT p f.name))]) o (by omega);rw [hof] at hG;have e0:x0s t 0=QS t.x:=by unfold x0s z4k;rw [if_neg (by omega),u7b,List.flatMap_nil,u4e,u4e]
  have hl:(t.args.map fun a=>AV.agg a.cells).length=t.args.length:=u3k _;have hfin : ∀ j,t.args.length<=j->KI (bkI p I) t=x0s t j++o:=fun j h=>by
   unfold KI x0s;rw [if_pos h4,u3o h,hin]
  clear hI ht hk0 hci ho hof hin;refine WQ 0 rfl hN (.cons (.p (Sub.refl _)) .nil) (fun hnil => ?_) (fun q e sz es hR => ?_);rotate_left;obtain ⟨rfl,rfl,rfl⟩:=hR
  rotate_right
  all_goals
   conv=>whnf
   repeat' (first|(refine iM fun _=>?_;conv=>whnf)|(apply bD<;>intro _<;>first|omega|conv=>whnf))
  all_goals
   refine LoopK.inv QX (fun j:Nat=>⟨[(0,.p (.ip (x9k p I O))),(3,.p (.ip t.cells)),(5,.hd 0 0 (x0s t j).length),(21,.p (.sl (t.args.map fun a => .agg a.cells))),(22,.p (.int .i64 (t.args.map fun a=>AV.agg a.cells).length)),(23,.p (.int .i64 j))],[(0,.own 9 1 ((x0s t j).map .str))]⟩) (fun j=>j<=t.args.length) (fun j=>t.args.length-j) 0 ?_ (u3l _) ?_
   ·first
     | (rw [e0,hnil]
        exact Le.mk [(0,.own 9 1 [])] (by simp [Chunk.new0];rfl) (by simp) (by simp) (.cons (.refl _) (.cons (.refl _) (.cons (.nil u3g) (.cons (.refl _) (.cons (.refl _) (.cons (.refl _) .nil)))))) (.new u3g .nil))
     | (rw [e0]
        exact Le.of_eq (by rw [u3k];rfl))
   intro j hj;have hacc:=w3q t (j:=j) (by omega);have hst:=fun h=>z0i (t:=t) (j:=j) h;rcases u3r j t.args.length with hj2|hj2
   ·have hnl:=ZP t.args[j].x;have hNj:=YM t.args[j].x;generalize x0s t j=acc at *
    conv=>whnf
    repeat' (first|((first|refine u3d rfl ?_|refine aD ?_|refine bP ?_|(refine iA fun _=>?_)|refine wI ?_|refine cP hNj ?_|refine XR _ (by simp) (by simp;omega) ?_|refine QH (by simp) (by simp;omega) ?_);conv=>whnf)|(apply bD<;>intro _<;>first|omega|conv=>whnf)|(apply bB<;>intro _<;>conv=>whnf))
    all_goals
     refine ⟨j+1,hj2,by omega,Le.of_eq ?_⟩;first
      | (have hn:usA t.args[j]=[t.args[j].name]++QS t.args[j].x:=by rw [usA,if_pos (by assumption)]
         rw [hst hj2,hn];simp only [u3f,u3t,u3k,<- u4f,<- u6g];rfl)
      | (have hn:usA t.args[j]=QS t.args[j].x:=by rw [usA,if_neg (by rw [show t.args[j].ref=false by assumption];decide)];rfl
         rw [hst hj2,hn];simp only [u3f,u3t,u3k];rfl)
   ·have hcl:=hfin j hj2;have hS:=XW (KI (bkI p I) t) (by rw [hcl,u3f];omega);rw [show eStrs (KI (bkI p I) t) = .sl ((x0s t j).map AV.str++o.map AV.str) by rw [hcl,eStrs,u3t]] at hS;generalize KI (bkI p I) t=C at *
    generalize x0s t j=acc at *
    conv=>whnf
    repeat' (first|((first|refine dA ?_|refine aD ?_|refine cP hA ?_|(refine IdxK.at (k:=k) rfl hg2 rfl ?_)|refine cP hG ?_|refine XR _ (by simp) (by simp;omega) ?_|(refine ZB hS (.cons (.hd rfl (by simp)) .nil) ?_;rintro _ rfl));conv=>whnf)|(apply bD<;>intro _<;>first|omega|conv=>whnf))
    all_goals first
     | exact RetK.p rfl
 ·have hu:KI (bkI p I) t=z4k t:=by unfold KI;rw [if_neg h4]
  rw [hu];by_cases h2:t.kind=2
  ·have e:z4k t=QS t.x++[XE]:=by unfold z4k;rw [if_pos h2]
   rw [e];have hS:=XW (QS t.x++[XE]) (by rw [u3f];simp;omega);rw [show eStrs (QS t.x++[XE]) = .sl ((QS t.x).map AV.str++[.str XE]) by rw [eStrs,u3t];rfl] at hS;refine WQ 0 rfl hN (.cons (.p (Sub.refl _)) .nil) (fun hnil => ?_) (fun q e sz es hR => ?_);rotate_left;obtain ⟨rfl,rfl,rfl⟩:=hR
   rotate_right
   ·rw [hnil] at hS ⊢;conv=>whnf
    repeat' (first|((first|refine u3d rfl ?_|refine aD ?_|refine bP ?_|refine QH (es:=[]) rfl (by simp) ?_|(refine ZB hS (.cons (.hd rfl rfl) .nil) ?_;rintro _ rfl));conv=>whnf)|(apply bD<;>intro _<;>first|omega|conv=>whnf))
    all_goals first
     | exact RetK.p rfl
   ·generalize QS t.x=nx at *
    conv=>whnf
    repeat' (first|((first|refine u3d rfl ?_|refine aD ?_|refine bP ?_|refine QH (by simp) (by simp;omega) ?_|(refine ZB hS (.cons (.hd rfl (by simp)) .nil) ?_;rintro _ rfl));conv=>whnf)|(apply bD<;>intro _<;>first|omega|conv=>whnf))
    all_goals first
     | exact RetK.p rfl
  ·have e:z4k t=QS t.x:=by unfold z4k;rw [if_neg h2,u4e]
   rw [e];have hS:=XW (QS t.x) (by omega);refine WQ 0 rfl hN (.cons (.p (Sub.refl _)) .nil) (fun hnil => ?_) (fun q e sz es hR => ?_);rotate_left;obtain ⟨rfl,rfl,rfl⟩:=hR
   rotate_right
   ·rw [hnil] at hS ⊢;conv=>whnf
    repeat' (first|(refine CallK.pure hS (.cons Sub.nils .nil) ?_;rintro _ rfl;conv=>whnf)|(apply bD<;>intro _<;>first|omega|conv=>whnf))
    all_goals first
     | exact RetK.p rfl
   ·generalize QS t.x=nx at *
    conv=>whnf
    repeat' (first|(refine ZB hS (.cons (.hd rfl (by simp)) .nil) ?_;rintro _ rfl;conv=>whnf)|(apply bD<;>intro _<;>first|omega|conv=>whnf))
    all_goals first
     | exact RetK.p rfl
theorem w7x (b:Bool):Sub (.bool b) (bv b):=fun σ v h=>by
 cases h;cases b
 ·exact .ff
 ·exact .tt
theorem w4b {p:Pg} {f:Pr} {O:List (List Str)} (hc:QM p=true) (hO:OkO p O) {j:Nat} (hj:p.procs[j]? = some f) (k:Nat):(q1b p f O ((flatU f).take k)).length<=6800:=by
 have hm:=(QK hc).1;have h1:(q1b p f O ((flatU f).take k)).length<=((flatU f).take k).length*34:=WF _ fun x hx=>by
  have ht:x.s∈VK p:=u4o.2 ⟨f,u4d hj,BT (u9b hx)⟩;cases JS (WJ p f.name) x.s.id with
  | false=>exact u3l _
  | true =>
    have:=NA (YI (bkO p O) x.s);have:=q3h hc hO ht;show (XZ _).length<=_;omega
 have h2:=YV hm hj;have h3:((flatU f).take k).length*34<=200*34:=u5k _ (by rw [u4k];omega);omega
theorem w1x {p:Pg} {f:Pr} {O:List (List Str)} {L:List RI} {k:Nat} (hk:k<L.length):q1b p f O (L.take (k+1))=q1b p f O (L.take k)++(bif JS (WJ p f.name) L[k].s.id then XZ (YI (bkO p O) L[k].s) else []):=by
 unfold q1b;rw [u3a hk,u7v];simp
section
variable {p:Pg} {i:Nat} {f:Pr}
theorem x9g (hj:p.procs[i]? = some f):(p.procs.map fun f=>VM (flatU f))[i]? = some (VM (flatU f)):=by rw [u4q,hj];rfl
theorem z9t (hj:p.procs[i]? = some f):(p.procs.map fun f=>QR (WJ p f.name))[i]? = some (QR (WJ p f.name)):=by rw [u4q,hj];rfl
theorem v1y (hj:p.procs[i]? = some f):(p.procs.map fun f=>QL (VT p f.name))[i]? = some (QL (VT p f.name)):=by rw [u4q,hj];rfl
theorem v1j (hj:p.procs[i]? = some f):(p.procs.map fun f=>AV.agg f.cells)[i]? = some (.agg f.cells):=by rw [u4q,hj];rfl
theorem w7w {O:List (List Str)} (hi:i<O.length):(O.map eStrs)[i]? = some (eStrs (O.getD i [])):=by
 rw [u4q,u3m,u3h hi];rfl
end
theorem z8r (p:Pg) (I O:List (List Str)) (hc:QM p=true) (hO:OkO p O) (i:Nat) (f:Pr) (hj:p.procs[i]? = some f):SpecH prog 142 ([AV.ip (x9k p I O),.int .i64 i].map .p) [] (OneRow (x0k ((rdO p O).getD i [])) False):=by
 have hm:=(QK hc).1;rw [<- w4f hc hj];have hlU:=YV hm hj;have hLl:=WA (flatU f);have hgl:=w4b hc hO hj;have hgs:=fun k hk=>w1x (p:=p) (f:=f) (O:=O) (L:=flatU f) (k:=k) hk;have hgF:=x9g hj;have hgL:=z9t hj;have hgP:=v1j hj;have hD:=fun (k:Nat) (hk:k<(flatU f).length)=>WY p I O (flatU f)[k].s hc hO (u4o.2 ⟨f,u4d hj,BT (u3i hk)⟩);have hDl:=fun (k:Nat) (hk:k<(flatU f).length)=>u5r (NA _) (q3h hc hO (t:=(flatU f)[k].s) (u4o.2 ⟨f,u4d hj,BT (u3i hk)⟩));have hpar:f.params.length<=8:=by
  have:=q6l hc i
  rwa [BO hj] at this
 have hout:w4h p f O=(q1b p f O ((flatU f).take (flatU f).length)).filter (comB p)++((f.params.filter fun x=>x.ref&&inS (q1b p f O ((flatU f).take (flatU f).length)) x.name).map Param.name):=by rw [u7w];rfl
 refine sH GE func142 rfl call142 ?_;conv=>whnf
 rw [hout];clear hout hO;repeat' ((first|(refine iM fun _=>?_)|(refine IdxK.at (k:=i) rfl hgF rfl ?_));conv=>whnf)
 refine LoopK.inv QX (fun k:Nat=>⟨[(0,.p (.ip (x9k p I O))),(1,.p (.int .i64 i)),(5,.hd 0 0 (q1b p f O ((flatU f).take k)).length),(17,.p (VM (flatU f))),(18,.p (.int .i64 ((flatU f).map fun i=>AV.agg i.cells).length)),(19,.p (.int .i64 k))],[(0,.own 9 1 ((q1b p f O ((flatU f).take k)).map .str))]⟩) (fun k=>k<=(flatU f).length) (fun k=>(flatU f).length-k) 0
  (Le.mk [(0,.own 9 1 [])] (by simp [Chunk.new0];rfl) (by simp) (by simp) (.cons (.refl _) (.cons (.refl _) (.cons (.nil u3g) (.cons (.refl _) (.cons (.refl _) (.cons (.refl _) .nil)))))) (.new u3g .nil)) (u3l _) ?_
 intro k hk;have hgk:=hgl k;rcases u3r k (flatU f).length with hk2|hk2
 ·have hst:=hgs k hk2;have hLv:=WE (WJ p f.name) (flatU f)[k].s.id;have hDk:=hD k hk2;have hDlk:=hDl k hk2;clear hD hDl hgs hgl;generalize JS (WJ p f.name) (flatU f)[k].s.id=lv at *
  generalize XZ (YI (bkO p O) (flatU f)[k].s)=D at *
  generalize q1b p f O ((flatU f).take k)=acc at *
  cases lv;all_goals
   conv=>whnf
   repeat' (first|((first|refine dA ?_|refine u3d rfl ?_|refine aD ?_|(refine iA fun _=>?_)|refine wI ?_|(refine IdxK.at (k:=i) rfl hgL rfl ?_)|refine cP hLv ?_|refine cP hDk ?_|refine XR _ (by simp) (by rw [u3k];omega) ?_|refine Br.tt ?_|refine Br.ff ?_);conv=>whnf)|(apply bD<;>intro _<;>first|omega|conv=>whnf))
  all_goals first
   | exact ⟨k+1,hk2,by omega,Le.of_eq (by rw [hst,u4h,u4e];rfl)⟩
   | exact ⟨k+1,hk2,by omega,Le.of_eq (by rw [hst];simp only [u4y,u3f,u3t,u3k];rfl)⟩
 ·obtain rfl:k=(flatU f).length:=by omega
  have hG:=fun l (hl:l.length<=1000000)=>x5y p (.sl (p.procs.map fun f => .agg f.cells) :: .tt :: .sl (I.map eStrs) :: .sl (O.map eStrs) :: .sl (p.procs.map fun f=>VM (flatU f)) :: .sl (p.procs.map fun f=>QR (WJ p f.name))::[.sl (p.procs.map fun f=>QL (VT p f.name))]) l hl;clear hD hDl hgs hgl hgF hgL;generalize q1b p f O ((flatU f).take (flatU f).length)=G at *
  have hGG:=hG G (by omega);have hGl:(G.filter (comB p)).length<=G.length:=u5c _ _;generalize G.filter (comB p)=C at *
  have hGm:(G.map AV.str).length=G.length:=u3k _;have hpm:(f.params.map fun a=>AV.agg a.cells).length=f.params.length:=u3k _;clear hG;conv=>whnf
  repeat' (first|((first|(refine iM fun _=>?_)|(refine IdxK.at (k:=i) rfl hgP rfl ?_));conv=>whnf)|(apply bD<;>intro _<;>first|omega|conv=>whnf)|(refine WQ 1 rfl hGG (.cons (.p (Sub.refl _)) (.cons (.hd rfl (by simp)) .nil)) (fun hnil => ?_) ?_;rotate_left;rintro _ _ _ _ ⟨rfl,rfl,rfl⟩;all_goals conv=>whnf))
  all_goals
   refine LoopK.inv QX (fun x:Nat×List Str=>⟨[(5,.hd 0 0 G.length),(8,.hd 1 0 x.2.length),(52,.p (.sl (f.params.map fun a => .agg a.cells))),(53,.p (.int .i64 (f.params.map fun a=>AV.agg a.cells).length)),(54,.p (.int .i64 x.1))],[(1,.own 9 1 (x.2.map .str)),(0,.own 9 1 (G.map .str))]⟩) (fun x=>x.1<=f.params.length∧x.2=C++((f.params.take x.1).filter fun y=>y.ref&&inS G y.name).map Param.name∧x.2.length<=C.length+x.1) (fun x=>f.params.length-x.1) (0,C) ?_ ⟨u3l _,by simp,by simp⟩ ?_
   ·first
     | (rw [hnil]
        exact Le.mk [(1,.own 9 1 [])] (by simp [Chunk.new0];rfl) (by simp) (by simp) (.cons (.refl _) (.cons (.nil u3g) (.cons (.refl _) (.cons (.refl _) (.cons (.refl _) .nil))))) (.new u3g (.cons rfl (.refl _) .nil)))
     | exact Le.of_eq (by rw [u3k];rfl)
     | exact Le.of_eq rfl
   rintro ⟨q,acc⟩ ⟨h4,h5,h6⟩;simp only at h4 h5 h6 ⊢;rcases u3r q f.params.length with hq|hq
   ·have hn1:=u3a hq;have hIn:=QB G f.params[q].name;cases hig:inS G f.params[q].name;all_goals
     rw [hig] at hIn;conv=>whnf
     repeat' (first|((first|refine u3d rfl ?_|refine aD ?_|refine bP ?_|(refine iA fun _=>?_)|refine wI ?_|(refine QD hIn (.cons (.hd rfl (by simp)) (.cons (.p (Sub.refl _)) .nil)) (by rintro _ rfl;rfl) ?_;rintro _ rfl)|refine QH (by simp) (by rw [u3k];omega) ?_|refine Br.tt ?_|refine Br.ff ?_);conv=>whnf)|(apply bD<;>intro _<;>first|omega|conv=>whnf)|(apply bB<;>intro _<;>conv=>whnf))
    all_goals first
     | (have h9:f.params[q].ref=false:=by assumption
        exact ⟨(q+1,acc),⟨hq,by simp only;rw [hn1,u4a,u5v (by rw [h9];simp),h5];simp,by simp only;omega⟩,by simp only;omega,Le.of_eq rfl⟩)
     | (have h9:f.params[q].ref=true:=by assumption
        exact ⟨(q+1,acc++[f.params[q].name]),⟨hq,by simp only;rw [hn1,u4a,u5u (by rw [h9,hig];rfl),u3t,h5,u4f];rfl,by simp;omega⟩,by simp only;omega,Le.of_eq (by simp only [u3f,u3t];rfl)⟩)
     | (have h8:inS G f.params[q].name=false:=by assumption
        exact ⟨(q+1,acc),⟨hq,by simp only;rw [hn1,u4a,u5v (by rw [hig];simp),h5];simp,by simp only;omega⟩,by simp only;omega,Le.of_eq rfl⟩)
   ·rw [u3o hq] at h5;rw [<- h5];have hS:=q7w acc (by omega);conv=>whnf
    repeat' (first|(refine WQ 2 rfl hS (.cons (.hd rfl (by simp)) .nil) (fun h=>h.elim) ?_;rintro _ _ _ _ ⟨rfl,rfl,rfl⟩;conv=>whnf)|(apply bD<;>intro _<;>first|omega|conv=>whnf))
    all_goals first
     | exact u6h _ (u4v _) (UH (by rw [u3k]))
theorem GO (p:Pg) (I O:List (List Str)) (hc:QM p=true) (hO:OkO p O) (i:Nat) (f:Pr) (hj:p.procs[i]? = some f) (v:Str):SpecP prog 168 [.ip (x9k p I O),.int .i64 i,.str v] (fun r=>r=QR (gvR p f O v (flatU f))):=by
 refine sB KB func168 rfl call168 ?_;conv=>whnf
 have hm:=(QK hc).1;have hlU:=YV hm hj;have hLl:=WA (flatU f);have hgF:=x9g hj;have hgL:=z9t hj;have hD:=fun (k:Nat) (hk:k<(flatU f).length)=>WY p I O (flatU f)[k].s hc hO (u4o.2 ⟨f,u4d hj,BT (u3i hk)⟩);have hgv:gvR p f O v (flatU f)=((flatU f).filter (gvB p f O v)).map fun x=>x.s.id:=rfl;rw [hgv];clear hO;repeat' ((first|(refine iM fun _=>?_)|(refine IdxK.at (k:=i) rfl hgF rfl ?_));conv=>whnf)
 refine LoopK.inv QX (fun x:Nat×List Int=>⟨[(0,.p (.ip (x9k p I O))),(1,.p (.int .i64 i)),(2,.p (.str v)),(7,.hd 0 0 x.2.length),(16,.p (VM (flatU f))),(17,.p (.int .i64 ((flatU f).map fun i=>AV.agg i.cells).length)),(18,.p (.int .i64 x.1))],[(0,.own 3 1 (x.2.map (.int .i64)))]⟩) (fun x=>x.1<=(flatU f).length∧x.2=(((flatU f).take x.1).filter (gvB p f O v)).map (fun x=>x.s.id)∧x.2.length<=x.1) (fun x=>(flatU f).length-x.1) (0,[])
  (Le.mk [(0,.own 3 1 [])] (by simp [Chunk.new0];rfl) (by simp) (by simp) (.cons (.refl _) (.cons (.refl _) (.cons (.refl _) (.cons (.nil u3g) (.cons (.refl _) (.cons (.refl _) (.cons (.refl _) .nil))))))) (.new u3g .nil)) ⟨u3l _,by simp,by simp⟩ ?_
 rintro ⟨k,acc⟩ ⟨hk,h3,h4⟩;simp only at hk h3 h4 ⊢;rcases u3r k (flatU f).length with hk2|hk2
 ·have hst:=u3a hk2;have hLv:=WE (WJ p f.name) (flatU f)[k].s.id;have hDk:=hD k hk2;have hgb:gvB p f O v (flatU f)[k]=(JS (WJ p f.name) (flatU f)[k].s.id&&inS (XZ (YI (bkO p O) (flatU f)[k].s)) v):=rfl;have hIn:=QB (XZ (YI (bkO p O) (flatU f)[k].s)) v;clear hD;generalize JS (WJ p f.name) (flatU f)[k].s.id=lv at *
  generalize hig:inS (XZ (YI (bkO p O) (flatU f)[k].s)) v=ig at *
  generalize XZ (YI (bkO p O) (flatU f)[k].s)=D at *
  cases lv<;>cases ig;all_goals
   conv=>whnf
   repeat' (first|((first|refine dA ?_|refine u3d rfl ?_|refine aD ?_|refine bP ?_|(refine iA fun _=>?_)|refine wI ?_|(refine IdxK.at (k:=i) rfl hgL rfl ?_)|refine cP hLv ?_|refine cP hDk ?_|refine cP hIn ?_|refine ZZ (by simp) (by simp;omega) ?_|refine Br.tt ?_|refine Br.ff ?_);conv=>whnf)|(apply bD<;>intro _<;>first|omega|conv=>whnf))
  all_goals first
   | exact ⟨(k+1,acc++[(flatU f)[k].s.id]),⟨hk2,by simp only;rw [hst,u4a,u3t,<- h3,u5u (by rw [hgb];rfl)];rfl,by simp;omega⟩,by simp only;omega,Le.of_eq (by simp only [u3f,u3t];rfl)⟩
   | exact ⟨(k+1,acc),⟨hk2,by simp only;rw [hst,u4a,u3t,<- h3,u5v (by rw [hgb];decide)];simp,by simp only;omega⟩,by simp only;omega,Le.of_eq rfl⟩
 ·rw [u3o hk2] at h3;subst h3;conv=>whnf
  repeat' (apply bD<;>intro _<;>first|omega|conv=>whnf)
  exact ⟨_,.hd rfl (by simp),rfl⟩
theorem u2u {N:Nat} {a b d e:AV} {L:List Str} {n:Nat} (hn:n=(L.map AV.str).length) :
  Le N ⟨[(0,.p a),(1,.p b),(5,.p .nils),(18,.hd 0 0 n),(19,.p d),(20,.p e)],[(0,.own 9 1 (L.map .str))]⟩ ⟨[(0,.p a),(1,.p b),(5,.hd 0 0 0),(18,.p (eStrs L)),(19,.p d),(20,.p e)],[(0,.own 9 1 [])]⟩:=by
 subst hn;obtain ⟨s',rfl,hle⟩:=Le.row (N:=N) (s:=⟨[(0,.p a),(1,.p b),(5,.p .nils),(18,.hd 0 0 (L.map AV.str).length),(19,.p d),(20,.p e)],[(0,.own 9 1 (L.map .str))]⟩) (k:=0) (e:=9) (sz:=1) (es:=L.map .str) (zs:=[18]) rfl
  (K:=fun s=>s=⟨[(0,.p a),(1,.p b),(5,.p .nils),(18,.p (eStrs L)),(19,.p d),(20,.p e)],[]⟩) ⟨rfl,rfl⟩
 exact hle.trans (Le.mk [(0,.own 9 1 [])] (by simp [Chunk.new0];rfl) (by simp) (by simp) (.cons (.refl _) (.cons (.refl _) (.cons (.nil u3g) (.cons (.refl _) (.cons (.refl _) (.cons (.refl _) .nil)))))) (.new u3g .nil))
theorem v3o (p:Pg) (I O:List (List Str)) (hc:QM p=true) (hO:OkO p O) (hI:OkI p I) (i:Nat) (f:Pr) (hj:p.procs[i]? = some f):SpecH prog 143 ([AV.ip (x9k p I O),.int .i64 i].map .p) [] (OneRow (x0k ((rdI p (dfB p O) O I).getD i [])) False):=by
 have hm:=(QK hc).1;rw [<- v7y hc hj O I (fun _ _=>rfl)];have hg:=(ZV hc).1;have hlU:=YV hm hj;have hLl:=WA (flatU f);have hgF:=x9g hj;have hgD:=v1y hj;have hiO:i<O.length:=by rw [hO.len];exact (u3e.1 hj).1
 have hgO:=w7w hiO;have hGv:=fun v=>GO p I O hc hO i f hj v;have hdl:(VT p f.name).length<=1000000:=by rw [z1d hc hj];exact u5r (x7l hc hj) (by decide)
 have hU:=fun (k:Nat) (hk:k<(flatU f).length)=>UI p I O (flatU f)[k].s hc hI (u4o.2 ⟨f,u4d hj,BT (u3i hk)⟩);have hnd:=fun v seen hs=>v7g hc hj (O:=O) (I:=I) (o:=O.getD i []) (v:=v) (seen:=seen) hs;refine sH HL func143 rfl call143 ?_;conv=>whnf
 obtain ⟨L,hL⟩ : ∃ L,L=XE::p.globals:=⟨_,rfl⟩;have hLn:L.length<=17:=by rw [hL,u4t];omega
 rw [<- hL];generalize z5c p i f (dfB p O) (usB p I) (O.getD i [])=ned at *
 generalize O.getD i []=o at *
 clear hO hI hiO;repeat' ((first|(refine iM fun _=>?_)|refine u3d rfl ?_|refine aD ?_|refine u8x (fun x hx=>by rcases u3b.1 hx with rfl;rfl) rfl ?_|refine XR _ (by simp) (by simp;omega) ?_);conv=>whnf)
 refine LoopK.inv QX (fun x:Nat×List Str=>⟨[(0,.p (.ip (x9k p I O))),(1,.p (.int .i64 i)),(5,.hd 0 0 x.2.length),(18,.p (eStrs L)),(19,.p (.int .i64 (L.map AV.str).length)),(20,.p (.int .i64 x.1))],[(0,.own 9 1 (x.2.map .str))]⟩) (fun x=>x.1<=L.length∧x.2=(L.take x.1).filter ned∧x.2.length<=x.1) (fun x=>L.length-x.1) (0,[])
  (by
    have e9:1+(p.globals.map AV.str).length=((XE::p.globals).map AV.str).length:=by simp;omega
    subst hL;rw [e9];first
    | exact u2u (L:=XE::p.globals) rfl
    | trace_state) ⟨u3l _,by simp,by simp⟩ ?_
 rintro ⟨j,acc⟩ ⟨h2,h3,h4⟩;simp only at h2 h3 h4 ⊢;have hlm:(L.map AV.str).length=L.length:=u3k _;rcases u3r j L.length with hj3|hj3
 ·have hst:=u3a hj3;have hGj:=hGv L[j];have hF:=YP (VT p f.name) 0 (gvR p f O L[j] (flatU f)) hdl;have hIo:=QB o L[j];have hnj:=hnd L[j];have e5:(L.map AV.str)[j]? = some (.str L[j]):=by simp [hj3]
  generalize hv:L[j]=v at *
  generalize gvR p f O v (flatU f)=gv at *
  generalize VT p f.name=da at *
  clear hGv hnd;have hndu : ∀ es,ndB p f I o es v=(inS o v&&JS es (-1)||(flatU f).any fun x=>JS es x.s.id&&inS (XZ (KI (bkI p I) x.s)) v):=fun es=>rfl;generalize inS o v=io at *
  cases io;all_goals
   conv=>whnf
   repeat' (first|((first|(refine iM fun _=>?_)|refine dA ?_|(refine iA fun _=>?_)|(refine IdxK.at (k:=i) rfl hgD rfl ?_)|(refine IdxK.at (k:=i) rfl hgO rfl ?_)|(refine IdxK.at (k:=i) rfl hgF rfl ?_)|refine cP hGj ?_|(refine CallK.pure hF (.cons (Sub.refl _) (.cons (Sub.refl _) (.cons (Sub.refl _) .nil))) ?_;rintro _ ⟨es,rfl,hes,hndp⟩)|refine cP hIo ?_|refine cP (WE _ (-1)) ?_|refine Br.tt ?_|refine Br.ff ?_);conv=>whnf)|(apply bD<;>intro _<;>first|omega|conv=>whnf)|(rw [hv]))
  all_goals
   have hne:=hnj es hes;rw [hndu] at hne
  rotate_left;generalize hx0:(true&&JS es (-1))=x0 at *
  rotate_left;generalize hx0:(false&&JS es (-1))=x0 at *
  all_goals
   refine LoopK.inv QX (fun x:Nat×Bool=>⟨[(0,.p (.ip (x9k p I O))),(1,.p (.int .i64 i)),(5,.hd 0 0 acc.length),(7,.p (.str v)),(8,.p (QR es)),(9,.p (bv x.2)),(18,.p (eStrs L)),(19,.p (.int .i64 (L.map AV.str).length)),(20,.p (.int .i64 j)),(55,.p (VM (flatU f))),(56,.p (.int .i64 ((flatU f).map fun i=>AV.agg i.cells).length)),(57,.p (.int .i64 x.1))],[(0,.own 9 1 (acc.map .str))]⟩) (fun x=>x.1<=(flatU f).length∧x.2=(x0||((flatU f).take x.1).any fun x=>JS es x.s.id&&inS (XZ (KI (bkI p I) x.s)) v)) (fun x=>(flatU f).length-x.1) (0,x0) ?_ ⟨u3l _,by simp⟩ ?_
   ·first
     | (rw [<- hx0]
        exact Le.mk [] (by simp) (by simp) (by simp) (.cons (.refl _) (.cons (.refl _) (.cons (.refl _) (.cons (.refl _) (.cons (.refl _) (.cons (.p (w7x _)) (.cons (.refl _) (.cons (.refl _) (.cons (.refl _) (.cons (.refl _) (.cons (.refl _) (.cons (.refl _) .nil)))))))))))) (.cons rfl (.refl _) .nil))
     | (rw [<- hx0]
        exact lE)
   rintro ⟨m,b⟩ ⟨h5,h6⟩;simp only at h5 h6 ⊢;rcases u3r m (flatU f).length with hm2|hm2
   ·have hst2:=u3a hm2;have hLv:=WE es (flatU f)[m].s.id;have hUm:=hU m hm2;have hIn:=QB (XZ (KI (bkI p I) (flatU f)[m].s)) v;have hnx:((flatU f).take (m+1)).any (fun x=>JS es x.s.id&&inS (XZ (KI (bkI p I) x.s)) v)=(((flatU f).take m).any (fun x=>JS es x.s.id&&inS (XZ (KI (bkI p I) x.s)) v)||(JS es (flatU f)[m].s.id&&inS (XZ (KI (bkI p I) (flatU f)[m].s)) v)):=by rw [hst2,List.any_append,List.any_cons,List.any_nil,Bool.or_false]
    have hnx2:(x0||((flatU f).take (m+1)).any (fun x=>JS es x.s.id&&inS (XZ (KI (bkI p I) x.s)) v))=(b||(JS es (flatU f)[m].s.id&&inS (XZ (KI (bkI p I) (flatU f)[m].s)) v)):=by rw [hnx,<- Bool.or_assoc,<- h6]
    clear hnx hst2 hU hne h6 hndu;generalize inS (XZ (KI (bkI p I) (flatU f)[m].s)) v=iu at *
    generalize JS es (flatU f)[m].s.id=lv at *
    generalize XZ (KI (bkI p I) (flatU f)[m].s)=U at *
    cases b;rotate_left
    ·conv=>whnf
     repeat' (first|((first|refine u3d rfl ?_|(refine iA fun _=>?_)|refine wI ?_);conv=>whnf)|(apply bD<;>intro _<;>first|omega|conv=>whnf))
     all_goals first
      | exact ⟨(m+1,true),⟨hm2,by simp only;rw [hnx2];rfl⟩,by simp only;omega,Le.of_eq rfl⟩
    cases lv<;>cases iu;all_goals
     conv=>whnf
     repeat' (first|((first|refine u3d rfl ?_|(refine iA fun _=>?_)|refine wI ?_|refine cP hLv ?_|refine cP hUm ?_|refine cP hIn ?_|refine Br.tt ?_|refine Br.ff ?_);conv=>whnf)|(apply bD<;>intro _<;>first|omega|conv=>whnf))
    all_goals first
     | exact ⟨(m+1,_),⟨hm2,hnx2.symm⟩,by simp only;omega,Le.of_eq rfl⟩
     | exact ⟨(m+1,_),⟨hm2,hnx2.symm⟩,by simp only;omega,Le.mk [] (by simp) (by simp) (by simp) (.cons (.refl _) (.cons (.refl _) (.cons (.refl _) (.cons (.refl _) (.cons (.refl _) (.cons (.p (w7x _)) (.cons (.refl _) (.cons (.refl _) (.cons (.refl _) (.cons (.refl _) (.cons (.refl _) (.cons (.refl _) .nil)))))))))))) (.cons rfl (.refl _) .nil)⟩
   ·rw [u3o hm2,hne] at h6;cases b;all_goals
     conv=>whnf
     repeat' (first|((first|refine u3d rfl ?_|refine aD ?_|refine bP ?_|refine wI ?_|refine QH (by simp) (by rw [u3k];omega) ?_);conv=>whnf)|(apply bD<;>intro _<;>first|omega|conv=>whnf))
    all_goals first
     | exact ⟨(j+1,acc++[v]),⟨hj3,by simp only;rw [hst,u4a,u5u h6.symm,h3];rfl,by simp;omega⟩,by simp only;omega,Le.of_eq (by simp only [u3f,u3t];rfl)⟩
     | exact ⟨(j+1,acc),⟨hj3,by simp only;rw [hst,u4a,u5v (by rw [<- h6];decide),h3];simp,by simp only;omega⟩,by simp only;omega,Le.of_eq rfl⟩
 ·rw [u3o hj3] at h3;subst h3;have hS:=q7w (L.filter ned) (by omega);conv=>whnf
  repeat' (first|(refine WQ 2 rfl hS (.cons (.hd rfl (by simp)) .nil) (fun h=>h.elim) ?_;rintro _ _ _ _ ⟨rfl,rfl,rfl⟩;conv=>whnf)|(apply bD<;>intro _<;>first|omega|conv=>whnf))
  all_goals first
   | exact u6h _ (u4v _) (UH (by rw [u3k]))
def v2m (p:Pg) (I O:List (List Str)):Heap:=[(1000,.obj 50 [.p (eStrs p.globals),.p (.sl (p.procs.map fun f => .agg f.cells)),.p .tt,.hd 1001 0 p.procs.length,.hd 1002 0 p.procs.length,.hd 1003 0 p.procs.length,.hd 1004 0 p.procs.length,.hd 1005 0 p.procs.length]),(1001,.own 22 1 (I.map eStrs)),(1002,.own 22 1 (O.map eStrs)),
 (1003,.own 67 1 (p.procs.map fun f=>VM (flatU f))),(1004,.own 70 1 (p.procs.map fun f=>QR (WJ p f.name))),(1005,.own 56 1 (p.procs.map fun f=>QL (VT p f.name)))]
theorem v8d {H:Heap} {p:Pg} {k0 k1 k2 k3 k4 k5:Nat} {e0 e1 e2 e3 e4 e5:TypeId} {I O:List (List Str)} (h0:getH H k0=some (.obj e0 [.p (eStrs p.globals),.p (.sl (p.procs.map fun f => .agg f.cells)),.p .tt,.hd k1 0 p.procs.length,.hd k2 0 p.procs.length,.hd k3 0 p.procs.length,.hd k4 0 p.procs.length,.hd k5 0 p.procs.length]))
  (h1:getH H k1=some (.own e1 1 (I.map eStrs))) (h2:getH H k2=some (.own e2 1 (O.map eStrs))) (h3:getH H k3=some (.own e3 1 (p.procs.map fun f=>VM (flatU f)))) (h4:getH H k4=some (.own e4 1 (p.procs.map fun f=>QR (WJ p f.name)))) (h5:getH H k5=some (.own e5 1 (p.procs.map fun f=>QL (VT p f.name))))
  (hI:I.length=p.procs.length) (hO:O.length=p.procs.length):Frz H (.ptr k0 0) (.ip (x9k p I O)) :=
 Frz.ptr (off:=0) (cs:=x9k p I O) h0 rfl fun j l c hj hc=>by
  match j,hj,hc with
  | 0,hj,hc=>cases hj;cases hc;exact .p (Sub.refl _)
  | 1,hj,hc=>cases hj;cases hc;exact .p (Sub.refl _)
  | 2,hj,hc=>cases hj;cases hc;exact .p (Sub.refl _)
  | 3,hj,hc=>cases hj;cases hc;exact .hd h1 (by rw [u3k,hI])
  | 4,hj,hc=>cases hj;cases hc;exact .hd h2 (by rw [u3k,hO])
  | 5,hj,hc=>cases hj;cases hc;exact .hd h3 (by rw [u3k])
  | 6,hj,hc=>cases hj;cases hc;exact .hd h4 (by rw [u3k])
  | 7,hj,hc=>cases hj;cases hc;exact .hd h5 (by rw [u3k])
  | j+8,hj,_=>cases hj
theorem w6u {O:List (List Str)} {i:Nat} (hi:i<O.length):(O.map eStrs)[i]? = some (eStrs (O.getD i [])):=w7w hi
theorem w6y {O:List (List Str)} {i:Nat} {l:List Str}:(O.map eStrs).set i (eStrs l)=(O.set i l).map eStrs:=by rw [u6k]
theorem w4n (p:Pg) (I O:List (List Str)) (hc:QM p=true) (hI:I.length=p.procs.length) (hG0:GsI (rdO p) p.procs.length (QV p).outs O):SpecH prog 81 [.ptr 1000 0,.p .ff] (v2m p I O) (fun r H => ∃ (O':List (List Str)) (m:Bool),r = .p (bv m)∧H=v2m p I O'∧GsI (rdO p) p.procs.length (QV p).outs O'∧(m=true->tot O<tot O')∧(m=false->O'=O∧rdO p O=O)):=by
 refine sH VB func81 rfl call81 ?_;conv=>whnf
 have hpm:(p.procs.map fun f=>AV.agg f.cells).length=p.procs.length:=u3k _;have hpl:=(ZV hc).2.1;have hF:=gsO hc;repeat' (refine iM fun _=>?_;conv=>whnf)
 refine LoopK.inv QX (fun x:Nat×List (List Str)×Bool=>⟨[(0,.ptr 1000 0),(1,.p .ff),(5,.p (bv x.2.2)),(13,.p (.int .i64 (p.procs.map fun f=>AV.agg f.cells).length)),(14,.p (.int .i64 x.1))],v2m p I x.2.1⟩)
  (fun x=>x.1<=p.procs.length∧GsI (rdO p) p.procs.length (QV p).outs x.2.1∧tot O<=tot x.2.1∧(x.2.2=true->tot O<tot x.2.1)∧(x.2.2=false->x.2.1=O ∧ ∀ k,k<x.1->(rdO p O).getD k []=O.getD k [])) (fun x=>p.procs.length-x.1) (0,O,false) (Le.of_eq rfl) ⟨u3l _,hG0,u4j _,by simp,fun _=>⟨rfl,fun k hk=>by simp at hk⟩⟩ ?_
 rintro ⟨i,O',m⟩ ⟨h1,hG,h2,h3,h4⟩;simp only at h1 hG h2 h3 h4 ⊢;rcases u3r i p.procs.length with hi|hi
 ·obtain ⟨f,hj⟩ : ∃ f,p.procs[i]? = some f:=⟨_,u3h hi⟩;have hO':=hG.okO hc;have hout:=z8r p I O' hc hO' i f hj;have hiO:i<O'.length:=by rw [hG.len];exact hi
  have hat:=w6u hiO;have hst:=hG.step hF hi;have hsame:=fun h=>hG.same hF (i:=i) h;have hmore:=fun h=>hG.more (i:=i) hi h;have hOl:=hG.len;have hOm:(O'.map eStrs).length=O'.length:=u3k _;have hset:=fun l=>w6y (O:=O') (i:=i) (l:=l);have hl1 : ∀ l:List Str,(l.map AV.str).length=l.length:=fun l=>u3k _;have hb1:((rdO p O').getD i []).length<=25:=(x5o p _:OkO p (rdO p O')).len25 hc i;have hb2:(O'.getD i []).length<=25:=hO'.len25 hc i;generalize hl:(rdO p O').getD i []=l at *
  generalize ho:O'.getD i []=o at *
  have hll:=hl1 l;have hlo:=hl1 o;clear hl1;cases m;all_goals
   conv=>whnf
   repeat' (first|((first|(refine iM fun _=>?_)|refine u3d rfl ?_|refine wI ?_|refine DB 0 rfl hout (.cons (v8d rfl rfl rfl rfl rfl rfl hI hOl) (.cons (.p (Sub.refl _)) .nil)) (fun h=>h.elim) (fun _ _ _ _ h=>h.2.2) ?_|refine u5q i rfl (by omega) ?_|refine u5y i 0 (eStrs o) (by omega) hat ?_|refine u6o i 0 (eStrs o) (eStrs l) (by omega) hat (u4j 1) rfl ?_);conv=>whnf)|(apply bD<;>intro _<;>first|omega|conv=>whnf))
  all_goals first
   | (have hlt:o.length<l.length:=by omega
      have hmo:=hmore hlt;exact ⟨(i+1,O'.set i l,true),⟨hi,hst,by simp only;omega,fun _=>by simp only;omega,by simp⟩,by simp only;omega,Le.of_eq (by unfold v2m;rw [<- hset];rfl)⟩)
   | (have hs:=hsame (by omega)
      exact ⟨(i+1,O',true),⟨hi,hG,h2,h3,by simp⟩,by simp only;omega,Le.of_eq rfl⟩)
   | (have hs:=hsame (by omega)
      obtain ⟨rfl,h5⟩:=h4 rfl;refine ⟨(i+1,O',false),⟨hi,hG,h2,h3,fun _=>⟨rfl,fun k hk => ?_⟩⟩,by simp only;omega,Le.of_eq rfl⟩;rcases u3r k i with h6|h6
      ·exact h5 k h6
      ·obtain rfl:k=i:=by simp only at hk;omega
       rw [hl,hs];first
        | rfl
        | exact ho.symm
        | trace_state)
 ·have hd:m=false->O'=O∧rdO p O=O:=fun hm=>by
   obtain ⟨h5,h6⟩:=h4 hm;exact ⟨h5,hG0.done hF fun k hk=>h6 k (by omega)⟩
  cases m;all_goals
   conv=>whnf
   repeat' (apply bD<;>intro _<;>first|omega|conv=>whnf)
  all_goals first
   | exact u6h _ (u4v _) ⟨O',false,rfl,rfl,hG,h3,hd⟩
   | exact u6h _ (u4v _) ⟨O',true,rfl,rfl,hG,h3,hd⟩
theorem w9z (p:Pg) (I:List (List Str)) (hc:QM p=true) (hG0:GsI (rdI p (QV p).defs (QV p).outs) p.procs.length (QV p).ins I):SpecH prog 81 [.ptr 1000 0,.p .tt] (v2m p I (QV p).outs) (fun r H => ∃ (I':List (List Str)) (m:Bool),r = .p (bv m)∧H=v2m p I' (QV p).outs∧GsI (rdI p (QV p).defs (QV p).outs) p.procs.length (QV p).ins I'∧(m=true->tot I<tot I')∧(m=false->I'=I∧rdI p (QV p).defs (QV p).outs I=I)):=by
 refine sH VB func81 rfl call81 ?_;conv=>whnf
 have hpm:(p.procs.map fun f=>AV.agg f.cells).length=p.procs.length:=u3k _;have hpl:=(ZV hc).2.1;have hF:=gsI hc;have hO:=(UF hc).1;have hD:=(GW hc).defs;have hOl:=hO.len;rw [hD] at hF;have hG0:GsI (rdI p (dfB p (QV p).outs) (QV p).outs) p.procs.length (QV p).ins I:=hD▸hG0;rw [hD];repeat' (refine iM fun _=>?_;conv=>whnf)
 refine LoopK.inv QX (fun x:Nat×List (List Str)×Bool=>⟨[(0,.ptr 1000 0),(1,.p .tt),(5,.p (bv x.2.2)),(13,.p (.int .i64 (p.procs.map fun f=>AV.agg f.cells).length)),(14,.p (.int .i64 x.1))],v2m p x.2.1 (QV p).outs⟩)
  (fun x=>x.1<=p.procs.length∧GsI (rdI p (dfB p (QV p).outs) (QV p).outs) p.procs.length (QV p).ins x.2.1∧tot I<=tot x.2.1∧(x.2.2=true->tot I<tot x.2.1)∧(x.2.2=false->x.2.1=I ∧ ∀ k,k<x.1->(rdI p (dfB p (QV p).outs) (QV p).outs I).getD k []=I.getD k [])) (fun x=>p.procs.length-x.1) (0,I,false) (Le.of_eq rfl) ⟨u3l _,hG0,u4j _,by simp,fun _=>⟨rfl,fun k hk=>by simp at hk⟩⟩ ?_
 rintro ⟨i,I',m⟩ ⟨h1,hG,h2,h3,h4⟩;simp only at h1 hG h2 h3 h4 ⊢;rcases u3r i p.procs.length with hi|hi
 ·obtain ⟨f,hj⟩ : ∃ f,p.procs[i]? = some f:=⟨_,u3h hi⟩;have hI':=hG.okI hc;have hout:=z8r p I' (QV p).outs hc hO i f hj;have hin:=v3o p I' (QV p).outs hc hO hI' i f hj;have hiO:i<I'.length:=by rw [hG.len];exact hi
  have hat:=w6u hiO;have hst:=hG.step hF hi;have hsame:=fun h=>hG.same hF (i:=i) h;have hmore:=fun h=>hG.more (i:=i) hi h;have hIl:=hG.len;have hIm:(I'.map eStrs).length=I'.length:=u3k _;have hset:=fun l=>w6y (O:=I') (i:=i) (l:=l);have hl1 : ∀ l:List Str,(l.map AV.str).length=l.length:=fun l=>u3k _;have hb1:((rdI p (dfB p (QV p).outs) (QV p).outs I').getD i []).length<=25:=(x5i p _ _ _:OkI p (rdI p (dfB p (QV p).outs) (QV p).outs I')).len25 hc i;have hb2:(I'.getD i []).length<=25:=hI'.len25 hc i;generalize hl:(rdI p (dfB p (QV p).outs) (QV p).outs I').getD i []=l at *
  generalize ho:I'.getD i []=o at *
  have hll:=hl1 l;have hlo:=hl1 o;clear hl1 hD;generalize (rdO p (QV p).outs).getD i []=lo at *
  cases m;all_goals
   conv=>whnf
   repeat' (first|((first|(refine iM fun _=>?_)|refine u3d rfl ?_|refine wI ?_|refine DB 0 rfl hout (.cons (v8d rfl rfl rfl rfl rfl rfl hIl hOl) (.cons (.p (Sub.refl _)) .nil)) (fun h=>h.elim) (fun _ _ _ _ h=>h.2.2) ?_|refine DB 0 rfl hin (.cons (v8d rfl rfl rfl rfl rfl rfl hIl hOl) (.cons (.p (Sub.refl _)) .nil)) (fun h=>h.elim) (fun _ _ _ _ h=>h.2.2) ?_|refine u5q i rfl (by omega) ?_|refine u5y i 0 (eStrs o) (by omega) hat ?_|refine u6o i 0 (eStrs o) (eStrs l) (by omega) hat (u4j 1) rfl ?_);conv=>whnf)|(apply bD<;>intro _<;>first|omega|conv=>whnf))
  all_goals first
   | (have hlt:o.length<l.length:=by omega
      have hmo:=hmore hlt;exact ⟨(i+1,I'.set i l,true),⟨hi,hst,by simp only;omega,fun _=>by simp only;omega,by simp⟩,by simp only;omega,Le.of_eq (by unfold v2m;rw [<- hset];rfl)⟩)
   | (have hs:=hsame (by omega)
      exact ⟨(i+1,I',true),⟨hi,hG,h2,h3,by simp⟩,by simp only;omega,Le.of_eq rfl⟩)
   | (have hs:=hsame (by omega)
      obtain ⟨rfl,h5⟩:=h4 rfl;refine ⟨(i+1,I',false),⟨hi,hG,h2,h3,fun _=>⟨rfl,fun k hk => ?_⟩⟩,by simp only;omega,Le.of_eq rfl⟩;rcases u3r k i with h6|h6
      ·exact h5 k h6
      ·obtain rfl:k=i:=by simp only at hk;omega
       rw [hl,hs];first
        | rfl
        | exact ho.symm
        | trace_state)
 ·have hd:m=false->I'=I∧rdI p (dfB p (QV p).outs) (QV p).outs I=I:=fun hm=>by
   obtain ⟨h5,h6⟩:=h4 hm;exact ⟨h5,hG0.done hF fun k hk=>h6 k (by omega)⟩
  cases m;all_goals
   conv=>whnf
   repeat' (apply bD<;>intro _<;>first|omega|conv=>whnf)
  all_goals first
   | exact u6h _ (u4v _) ⟨I',false,rfl,rfl,hG,h3,hd⟩
   | exact u6h _ (u4v _) ⟨I',true,rfl,rfl,hG,h3,hd⟩
theorem count_set {l:List Bool} {k:Nat} (hk:k<l.length) (h:l.getD k false=false):(l.set k true).count false+1=l.count false:=by
 rw [u3m,u3h hk] at h;have h1:l[k]=false:=h;have h2:0<l.count false:=List.count_pos_iff.2 (h1▸u3i hk);rw [List.count_set hk,h1];simp;omega
theorem NedJ.shutN {p:Pg} {i:Nat} {f:Pr} {D U:List (List Str)} {o:List Str} {x:Str} {n:Nat} {seen:List Bool} {todo:List Int} {a:Int} {net:List (List Int)} (hn:netR p i f=net) (h:QM p=true) (hj:p.procs[i]? = some f) {k:Nat} (hJ:NedJ p i f D U o x n a k seen todo) (hk:(net.getD a.toNat []).length<=k) (h1:hitN p i f U o x a=false):NedI p i f D U o x n seen todo:=by
 subst hn;exact hJ.shut h hj hk h1
theorem NedJ.oldN {p:Pg} {i:Nat} {f:Pr} {D U:List (List Str)} {o:List Str} {x:Str} {n:Nat} {seen:List Bool} {todo:List Int} {a:Int} {net:List (List Int)} (hn:netR p i f=net) {k:Nat} (hJ:NedJ p i f D U o x n a k seen todo) (hk:k<(net.getD a.toNat []).length) (hs:seen.getD ((net.getD a.toNat [])[k]).toNat false=true):NedJ p i f D U o x n a (k+1) seen todo:=by
 subst hn;exact hJ.old hk hs
theorem NedJ.newN {p:Pg} {i:Nat} {f:Pr} {D U:List (List Str)} {o:List Str} {x:Str} {n:Nat} {seen:List Bool} {todo:List Int} {a:Int} {net:List (List Int)} (hn:netR p i f=net) {k:Nat} (hJ:NedJ p i f D U o x n a k seen todo) (hk:k<(net.getD a.toNat []).length) {c:Int} (hc:c=(net.getD a.toNat [])[k]) (hr:0<=c∧c<(n:Int)) (hR:nR p i f D x a c):NedJ p i f D U o x n a (k+1) (seen.set c.toNat true) (todo++[c]):=by
 subst hn;exact hJ.new hk hc hr hR
theorem x5z {s:St} {K:St->Prop} (h:K s):ZE s K:=by
 rw [UT];exact h
theorem w6k {P:Program} {T:Tab} {N:Nat} {ops:Array Oper} {s:St} {K:St->Prop} (h:K s):run P T N ops [] s K:=h
theorem w7u {info:Info} {id:Nat} {s:St} {K:St->Prop} (hf:info.frz id=[]) (h:x4s (info.keep id) s K):z3c info id s K:=by
 unfold z3c;rw [hf];show x4s (info.keep id) s fun s=>ZE s K;have e:(fun s=>ZE s K)=K:=funext fun s=>UT s K;rw [e];exact h
theorem z7k {ks:List Nat} {s:St} {K:St->Prop} (s':St) (h : ∀ K:St->Prop,K s'->x4s ks s K) (hK:K s'):x4s ks s K:=h K hK
theorem z9k {N:Nat} {sl:List (Nat×LV)} {d:Nat} {v:LV} {K:List (Nat×LV)->Prop} (hd:blt d N=true) (h:K (q5p sl d v)):setD N sl (some d) v K:=by
 show (bif blt d N then v4s sl d v K else False);rw [hd,u4y,q1a];exact h
theorem v6k {P:Program} {T:Tab} {N:Nat} {info:Info} {c:Operand} {a b:Code} {K:Exit->St->Prop} {s:St} (h:XX s.sl c = .p (.bool false)) (hb:W P T N info b K s):W P T N info (.cond c a b) K s:=by
 unfold W;rw [h];exact Br.ff hb
theorem v6g {P:Program} {T:Tab} {N:Nat} {info:Info} {c:Operand} {a b:Code} {K:Exit->St->Prop} {s:St} (h:XX s.sl c = .p (.bool true)) (ha:W P T N info a K s):W P T N info (.cond c a b) K s:=by
 unfold W;rw [h];exact Br.tt ha
theorem x1r (b:Book) (p:Pg) (h:QM p=true) (i:Nat) (f:Pr) (hj:p.procs[i]? = some f) (hW:b.ways[i]? = some (QQ p i f)) (o:List Str) (hO:b.outs[i]? = some o) (ho:o.Pairwise ltT) (hol:o.length<=1000000000) (hDl:b.defs.length=(sheetOf p).l.length) (hUl:b.uses.length=(sheetOf p).l.length) (hDr : ∀ d∈b.defs,d.Pairwise ltT∧d.length<=1000000000) (hUr : ∀ d∈b.uses,d.Pairwise ltT∧d.length<=1000000000) (x:Str):SpecP prog 215 [.ip b.cells,.int .i64 i,q8z (netR p i f),.str x] (fun r=>r = .bool (z5c p i f b.defs b.uses o x)):=by
 refine sB q5l func215 rfl call215 ?_;conv=>whnf
 obtain ⟨n,hn⟩ : ∃ n,n=cntL f.body+2:=⟨_,rfl⟩;have hcn:=(ZV h).2.2;obtain ⟨_,_,_,hsl,hsp⟩:=QJ p;obtain ⟨_,_,hle,_⟩:=hsp i f hj;have hn200:n<=202:=by omega
 have hg1:(b.ways.map fun w=>AV.ip w.cells)[i]? = some (.ip (QQ p i f).cells):=by rw [u4q,hW];rfl
 have hg2:(b.outs.map eStrs)[i]? = some (eStrs o):=by rw [u4q,hO];rfl
 have hwn:(QQ p i f).n=n:=by rw [hn];rfl
 have hHo:=q9r o x ho hol;have hP : ∀ a:Int,0<=a∧a<=5000->SpecP prog 94 [.ip (QQ p i f).cells,.int .i64 a] (fun r=>r = .int .i64 (idN p i f a)):=fun a ha=>q4o (QQ p i f) f hj (by show cntP p.procs<=1000;omega) ⟨by rw [hwn];omega,by rw [hwn];omega⟩ a ha;have hNl:(netR p i f).length=n:=by rw [hn];exact x2m _ _
 have hNr : ∀ a:Nat,a<n -> ∀ c∈(netR p i f).getD a [],nR p i f b.defs x a c∨BY p i f b.defs x a=false:=fun a ha c hc=>by
  have hm:=(x2l fun t ht=>(NS h hj t ht).1).1 hc;obtain ⟨t,ht,h1,h2⟩:=hm;cases hq:BY p i f b.defs x a with
  | false=>exact .inr rfl
  | true=>exact .inl ⟨hq,by rw [<- h1,<- h2];exact ht⟩
 have hNi : ∀ a:Nat,a<n -> ∀ c∈(netR p i f).getD a [],0<=c∧c<(n:Int):=fun a ha c hc=>by
  obtain ⟨t,ht,_,rfl⟩:=(x2l fun t ht=>(NS h hj t ht).1).1 hc;have:=(NS h hj t ht).2;omega
 have hNc : ∀ a:Nat,((netR p i f).getD a []).length<=200000:=fun a=>by
  refine u5r (z2e _ _ a) ?_;unfold FV;rw [u3k];exact x7l h hj
 have hId : ∀ a:Int,0<a->a<(n:Int)-1->1<=idN p i f a∧(idN p i f a-1).toNat<(sheetOf p).l.length:=fun a h1 h2=>by
  unfold idN XY loI;rw [if_neg (by omega),if_neg (by omega)];omega
 obtain ⟨net,hnet⟩ : ∃ net,netR p i f=net:=⟨_,rfl⟩;rw [hnet] at hNl hNr hNi hNc ⊢;generalize QQ p i f=w at hg1 hwn hP hW;repeat' ((first|refine u3d rfl ?_|refine aD ?_|refine aR ?_|(refine IdxK.at (k:=i) rfl hg1 rfl ?_)|refine MkK.mk n hwn (by show 1*n<=140737488355328;omega) (by unfold maxLen;omega) ?_|refine u8x (fun x hx=>by rcases u3b.1 hx with rfl;rfl) rfl ?_);conv=>whnf)
 refine LoopK.inv QX (fun y:List Bool×List Int=>⟨[(0,.p (.ip b.cells)),(1,.p (.int .i64 i)),(2,.p (q8z net)),(3,.p (.str x)),(9,.p (.ip w.cells)),(10,.hd 0 0 n),(11,.hd 1 0 y.2.length)],[(1,.own 3 1 (y.2.map (.int .i64))),(0,.own 4 1 (y.1.map bv))]⟩)
  (fun y=>NedI p i f b.defs b.uses o x n y.1 y.2∧y.2.length+y.1.count false<=n+1) (fun y=>2*y.1.count false+y.2.length) (List.replicate n false,[0]) (Le.of_eq (by rw [u6t];rfl)) ⟨NedI.start n (by omega),by simp;omega⟩ ?_
 rintro ⟨seen,todo⟩ ⟨hI,hc1⟩;simp only at hI hc1 ⊢;rcases u8n todo with rfl|⟨st,a,rfl⟩
 ·have hz:(([]:List Int).length)=0:=rfl;conv=>whnf
  repeat' (first|(refine iM fun _=>?_;conv=>whnf)|(apply bD<;>intro _<;>first|omega|conv=>whnf))
  all_goals exact RetK.ff (hI.stop h hj)
 rw [u8p] at hI hc1 ⊢;have hstl:(st++[a]).length=st.length+1:=by simp
 have har:=hI.rng a (by simp);have e3:((st++[a]).map (AV.int .i64))[st.length]? = some (.int .i64 a):=by simp
 have hsl2:=hI.len;have hway:=hI.way a (hI.td a (by simp));have hPa:=hP a ⟨har.1,by omega⟩;have hcut : ∀ (sl:List (Nat×LV)),Le Tryz.f215.ntmps ⟨sl,[(1,.own 3 1 ((st++[a]).map (.int .i64))),(0,.own 4 1 (seen.map bv))]⟩ ⟨sl,[(1,.own 3 1 (st.map (.int .i64))),(0,.own 4 1 (seen.map bv))]⟩:=fun sl=>Le.cut (.cut ⟨[.int .i64 a],by simp⟩ (.same .nil));have hrow:((avI net).map AV.sl)[a.toNat]? = some (.sl ((net.getD a.toNat []).map (.int .i64))):=by
  have:a.toNat<net.length:=by rw [hNl];omega
  rw [u3m,u3h this];simp [avI,this]
 have hrl:((net.getD a.toNat []).map (AV.int .i64)).length=(net.getD a.toNat []).length:=u3k _;have hcs:a=(n:Int)-1∨(a=0 ∧ ¬a=(n:Int)-1)∨(0<a ∧ ¬a=(n:Int)-1):=by omega
 rcases hcs with hE|⟨hz,hE⟩|⟨hpos,hE⟩
 ·-- the exit
  have hhit:hitN p i f b.uses o x a=inS o x:=by unfold hitN;rw [<- hn,u5z hE];rfl
  have hpas:BY p i f b.defs x a=false:=by unfold BY;rw [<- hn,u5z hE];rfl
  conv=>whnf
  repeat' (first|((first|(refine iM fun _=>?_)|refine u3d rfl ?_|refine wI ?_|refine u5q st.length (by omega) (by omega) ?_|refine u5y st.length 0 (.int .i64 a) (by omega) e3 ?_|refine SlK.mk 0 st.length rfl (by show ((st++[a]).length:Int)-1=_;omega) (by omega) (by omega) ?_|(refine IdxK.at (k:=i) rfl hg2 rfl ?_)|refine cP hHo ?_);conv=>whnf)|(apply bD<;>intro _<;>first|omega|conv=>whnf)|(apply bB<;>intro _<;>conv=>whnf))
  ·exact RetK.tt ((MN h hj).2 ⟨a,hway,by rw [hhit];assumption⟩)
  ·exact ⟨(seen,st),⟨hI.skip (by rw [hhit];assumption) hpas,by simp only;omega⟩,by simp only;omega,(hcut _).trans (lE)⟩
 ·-- the entry
  have hhit:hitN p i f b.uses o x a=false:=by unfold hitN;rw [<- hn,u5h hE,u5h (by omega)];rfl
  have hpas:BY p i f b.defs x a=true:=by unfold BY;rw [<- hn,u5h hE,u5h (by omega)];rfl
  conv=>whnf
  repeat' (first|((first|(refine iM fun _=>?_)|refine u3d rfl ?_|refine wI ?_|refine u5q st.length (by omega) (by omega) ?_|refine u5y st.length 0 (.int .i64 a) (by omega) e3 ?_|refine SlK.mk 0 st.length rfl (by show ((st++[a]).length:Int)-1=_;omega) (by omega) (by omega) ?_|(refine IdxK.at (k:=a.toNat) (by omega) hrow rfl ?_));conv=>whnf)|(apply bD<;>intro _<;>first|omega|conv=>whnf))
  refine LoopK.inv QX (fun y:Nat×List Bool×List Int=>⟨[(0,.p (.ip b.cells)),(1,.p (.int .i64 i)),(2,.p (q8z net)),(3,.p (.str x)),(9,.p (.ip w.cells)),(10,.hd 0 0 n),(11,.hd 1 0 y.2.2.length),(87,.p (QR (net.getD a.toNat []))),(88,.p (.int .i64 ((net.getD a.toNat []).map (AV.int .i64)).length)),(89,.p (.int .i64 y.1))],[(1,.own 3 1 (y.2.2.map (.int .i64))),(0,.own 4 1 (y.2.1.map bv))]⟩)
   (fun y=>y.1<=(net.getD a.toNat []).length∧NedJ p i f b.defs b.uses o x n a y.1 y.2.1 y.2.2∧y.2.2.length+y.2.1.count false<=n∧2*y.2.1.count false+y.2.2.length<=2*seen.count false+st.length) (fun y=>(net.getD a.toNat []).length-y.1) (0,seen,st)
   ((hcut _).trans (Le.of_eq rfl)) ⟨u3l _,hI.open,by simp only;omega,u4j _⟩ ?_
  rintro ⟨k,sn,td⟩ ⟨h1,hJ,h3,h4⟩;simp only at h1 hJ h3 h4 ⊢;rcases u3r k (net.getD a.toNat []).length with hk|hk;rotate_left 1
  ·conv=>whnf
   repeat' (apply bD<;>intro _<;>first|omega|conv=>whnf)
   all_goals exact ⟨(sn,td),⟨hJ.shutN hnet h hj hk hhit,by simp only;omega⟩,by simp only;omega,lE⟩
  ·obtain ⟨c,hc⟩ : ∃ c,c=(net.getD a.toNat [])[k]:=⟨_,rfl⟩;have hcm:c∈net.getD a.toNat []:=by rw [hc];exact u3i hk
   have hcr:=hNi a.toNat (by omega) c hcm;have hcR:nR p i f b.defs x a c:=by
    rcases hNr a.toNat (by omega) c hcm with h5|h5
    ·rwa [u8i har.1] at h5
    ·rw [u8i har.1,hpas] at h5;cases h5
   have hsnl:=hJ.len;have e4:=v1r (l:=sn) (i:=c.toNat) (by omega);have e5:((net.getD a.toNat []).map (AV.int .i64))[k]? = some (.int .i64 c):=by rw [u4q,u3h hk,<- hc];rfl
   cases hs:sn.getD c.toNat false with
   | true =>
     rw [hs] at e4;conv=>whnf
     repeat' (first|((first|refine u3d rfl ?_|(refine iA fun _=>?_)|refine wI ?_|refine u5q c.toNat (by omega) (by omega) ?_|refine u5y c.toNat 0 .tt (by omega) e4 ?_);conv=>whnf)|(apply bD<;>intro _<;>first|omega|conv=>whnf))
     all_goals first
       | exact ⟨(k+1,sn,td),⟨hk,hJ.oldN hnet hk (by rw [<- hc];exact hs),h3,h4⟩,by simp only;omega,Le.of_eq rfl⟩
   | false =>
     rw [hs] at e4;have hcs:=count_set (l:=sn) (k:=c.toNat) (by omega) hs;conv=>whnf
     repeat' (first|((first|refine u3d rfl ?_|refine aD ?_|refine bP ?_|(refine iA fun _=>?_)|refine wI ?_|refine u5q c.toNat (by omega) (by omega) ?_|refine u5y c.toNat 0 .ff (by omega) e4 ?_|refine u6o c.toNat 0 .ff .tt (by omega) e4 (u4j 1) rfl ?_|refine ZZ (by simp) (by simp;omega) ?_);conv=>whnf)|(apply bD<;>intro _<;>first|omega|conv=>whnf))
     all_goals first
       | exact ⟨(k+1,sn.set c.toNat true,td++[c]),⟨hk,hJ.newN hnet hk hc hcr hcR,by simp only [u3f,u4l];omega,by simp only [u3f,u4l];omega⟩,by simp only;omega,Le.of_eq (by rw [<- hc];simp only [u6k,u3t,u3f];rfl)⟩
 ·-- a statement
  obtain ⟨hid1,hid2⟩:=hId a hpos (by omega);have hgU:(b.uses.map eStrs)[(idN p i f a-1).toNat]? = some (eStrs (DE b.uses (idN p i f a))):=by
   unfold DE;rw [u4q,u3m,u3h (by omega)];rfl
  have hgD:(b.defs.map eStrs)[(idN p i f a-1).toNat]? = some (eStrs (DE b.defs (idN p i f a))):=by
   unfold DE;rw [u4q,u3m,u3h (by omega)];rfl
  have hrU:(DE b.uses (idN p i f a)).Pairwise ltT∧(DE b.uses (idN p i f a)).length<=1000000000:=by
   unfold DE;rw [u3m,u3h (by omega)];exact hUr _ (u3i _)
  have hrD:(DE b.defs (idN p i f a)).Pairwise ltT∧(DE b.defs (idN p i f a)).length<=1000000000:=by
   unfold DE;rw [u3m,u3h (by omega)];exact hDr _ (u3i _)
  have hHU:=q9r _ x hrU.1 hrU.2;have hHD:=q9r _ x hrD.1 hrD.2;have hhitB:hitN p i f b.uses o x a=inS (DE b.uses (idN p i f a)) x:=by unfold hitN;rw [<- hn,u5h hE,u5z hpos];rfl
  have hpasB:BY p i f b.defs x a = !inS (DE b.defs (idN p i f a)) x:=by unfold BY;rw [<- hn,u5h hE,u5z hpos];rfl
  generalize idN p i f a=id at *
  generalize DE b.uses id=lu at *
  generalize DE b.defs id=ld at *
  conv=>whnf
  repeat' (first|((first|(refine iM fun _=>?_)|refine u3d rfl ?_|refine wI ?_|refine u5q st.length (by omega) (by omega) ?_|refine u5y st.length 0 (.int .i64 a) (by omega) e3 ?_|refine SlK.mk 0 st.length rfl (by show ((st++[a]).length:Int)-1=_;omega) (by omega) (by omega) ?_|refine cP hPa ?_|(refine IdxK.at (k:=(id-1).toNat) (by omega) hgU rfl ?_));conv=>whnf)|(apply bD<;>intro _<;>first|omega|conv=>whnf))
  refine CallK.pure hHU (.cons (Sub.refl _) (.cons (Sub.refl _) .nil)) ?_;rintro _ rfl;refine z9k (by kernel_rfl) ?_;refine x5z ?_;refine w6k ?_;refine w7u (by kernel_rfl) ?_;refine z7k ⟨[(0,.p (.ip b.cells)),(1,.p (.int .i64 i)),(2,.p (q8z net)),(3,.p (.str x)),(9,.p (.ip w.cells)),(10,.hd 0 0 n),(11,.hd 1 0 st.length),(12,.p (.int .i64 a)),(13,.p (.int .i64 id)),(73,.p (.bool (inS lu x)))],[(1,.own 3 1 ((st++[a]).map (.int .i64))),(0,.own 4 1 (seen.map bv))]⟩ (fun K h=>h) ?_;cases hqu:inS lu x;rotate_left
  ·refine v6g rfl ?_;conv=>whnf
   skip
   all_goals exact RetK.tt ((MN h hj).2 ⟨a,hway,by rw [hhitB,hqu]⟩)
  refine v6k rfl ?_;conv=>whnf
  repeat' ((first|refine wI ?_|(refine IdxK.at (k:=(id-1).toNat) (by omega) hgD rfl ?_));conv=>whnf)
  refine CallK.pure hHD (.cons (Sub.refl _) (.cons (Sub.refl _) .nil)) ?_;rintro _ rfl;refine z9k (by kernel_rfl) ?_;refine x5z ?_;refine w6k ?_;refine w7u (by kernel_rfl) ?_;refine z7k ⟨[(0,.p (.ip b.cells)),(1,.p (.int .i64 i)),(2,.p (q8z net)),(3,.p (.str x)),(9,.p (.ip w.cells)),(10,.hd 0 0 n),(11,.hd 1 0 st.length),(12,.p (.int .i64 a)),(83,.p (.bool (inS ld x)))],[(1,.own 3 1 ((st++[a]).map (.int .i64))),(0,.own 4 1 (seen.map bv))]⟩ (fun K h=>h) ?_;have hhit:hitN p i f b.uses o x a=false:=by rw [hhitB,hqu]
  cases hqd:inS ld x;rotate_left
  ·have hpas:BY p i f b.defs x a=false:=by rw [hpasB,hqd];rfl
   refine v6g rfl ?_;conv=>whnf
   skip
   all_goals exact ⟨(seen,st),⟨hI.skip hhit hpas,by simp only;omega⟩,by simp only;omega,(hcut _).trans (lE)⟩
  ·have hpas:BY p i f b.defs x a=true:=by rw [hpasB,hqd];rfl
   refine v6k rfl ?_;conv=>whnf
   repeat' ((first|(refine iM fun _=>?_)|(refine IdxK.at (k:=a.toNat) (by omega) hrow rfl ?_));conv=>whnf)
   refine LoopK.inv QX (fun y:Nat×List Bool×List Int=>⟨[(0,.p (.ip b.cells)),(1,.p (.int .i64 i)),(2,.p (q8z net)),(3,.p (.str x)),(9,.p (.ip w.cells)),(10,.hd 0 0 n),(11,.hd 1 0 y.2.2.length),(87,.p (QR (net.getD a.toNat []))),(88,.p (.int .i64 ((net.getD a.toNat []).map (AV.int .i64)).length)),(89,.p (.int .i64 y.1))],[(1,.own 3 1 (y.2.2.map (.int .i64))),(0,.own 4 1 (y.2.1.map bv))]⟩)
    (fun y=>y.1<=(net.getD a.toNat []).length∧NedJ p i f b.defs b.uses o x n a y.1 y.2.1 y.2.2∧y.2.2.length+y.2.1.count false<=n∧2*y.2.1.count false+y.2.2.length<=2*seen.count false+st.length) (fun y=>(net.getD a.toNat []).length-y.1) (0,seen,st)
    ((hcut _).trans (Le.of_eq rfl)) ⟨u3l _,hI.open,by simp only;omega,u4j _⟩ ?_
   rintro ⟨k,sn,td⟩ ⟨h1,hJ,h3,h4⟩;simp only at h1 hJ h3 h4 ⊢;rcases u3r k (net.getD a.toNat []).length with hk|hk;rotate_left 1
   ·conv=>whnf
    repeat' (apply bD<;>intro _<;>first|omega|conv=>whnf)
    all_goals exact ⟨(sn,td),⟨hJ.shutN hnet h hj hk hhit,by simp only;omega⟩,by simp only;omega,lE⟩
   ·obtain ⟨c,hc⟩ : ∃ c,c=(net.getD a.toNat [])[k]:=⟨_,rfl⟩;have hcm:c∈net.getD a.toNat []:=by rw [hc];exact u3i hk
    have hcr:=hNi a.toNat (by omega) c hcm;have hcR:nR p i f b.defs x a c:=by
     rcases hNr a.toNat (by omega) c hcm with h5|h5
     ·rwa [u8i har.1] at h5
     ·rw [u8i har.1,hpas] at h5;cases h5
    have hsnl:=hJ.len;have e4:=v1r (l:=sn) (i:=c.toNat) (by omega);have e5:((net.getD a.toNat []).map (AV.int .i64))[k]? = some (.int .i64 c):=by rw [u4q,u3h hk,<- hc];rfl
    cases hs:sn.getD c.toNat false with
    | true =>
      rw [hs] at e4;conv=>whnf
      repeat' (first|((first|refine u3d rfl ?_|(refine iA fun _=>?_)|refine wI ?_|refine u5q c.toNat (by omega) (by omega) ?_|refine u5y c.toNat 0 .tt (by omega) e4 ?_);conv=>whnf)|(apply bD<;>intro _<;>first|omega|conv=>whnf))
      all_goals first
        | exact ⟨(k+1,sn,td),⟨hk,hJ.oldN hnet hk (by rw [<- hc];exact hs),h3,h4⟩,by simp only;omega,Le.of_eq rfl⟩
    | false =>
      rw [hs] at e4;have hcs:=count_set (l:=sn) (k:=c.toNat) (by omega) hs;conv=>whnf
      repeat' (first|((first|refine u3d rfl ?_|refine aD ?_|refine bP ?_|(refine iA fun _=>?_)|refine wI ?_|refine u5q c.toNat (by omega) (by omega) ?_|refine u5y c.toNat 0 .ff (by omega) e4 ?_|refine u6o c.toNat 0 .ff .tt (by omega) e4 (u4j 1) rfl ?_|refine ZZ (by simp) (by simp;omega) ?_);conv=>whnf)|(apply bD<;>intro _<;>first|omega|conv=>whnf))
      all_goals first
        | exact ⟨(k+1,sn.set c.toNat true,td++[c]),⟨hk,hJ.newN hnet hk hc hcr hcR,by simp only [u3f,u4l];omega,by simp only [u3f,u4l];omega⟩,by simp only;omega,Le.of_eq (by rw [<- hc];simp only [u6k,u3t,u3f];rfl)⟩
inductive SlR (g:Nat->Option Nat) (sl:List (Nat×LV)):List (Nat×LV)->Prop
 | nil:SlR g sl []
 | cons {i:Nat} {l:LV} {r:List (Nat×LV)} (h:LSub ((getS sl i).ren g) l) (hr:SlR g sl r):SlR g sl ((i,l)::r)
theorem SlR.get {g:Nat->Option Nat} {sl sl':List (Nat×LV)} (h:SlR g sl sl') (i:Nat):LSub ((getS sl i).ren g) (getS sl' i)∨getS sl' i = .p .any:=by
 induction h with
 | nil=>exact .inr rfl
 | @cons j l r h hr ih =>
   simp only [getS];by_cases hj:j=i
   ·subst hj;exact .inl (by simpa using h)
   ·have:(j==i)=false:=by simp [hj]
    simpa [this] using ih
theorem v3x {N:Nat} {s s':St} (π:Nat->Nat) (h2 : ∀ k,π (π k)=k) (hpin : ∀ j,1000<=j->j<2000->π j=j) (hsl:SlR (fun k=>some (π k)) s.sl s'.sl)
  (hH : ∀ j c,(j,c)∈s'.H -> ∃ c0,(π j,c0)∈s.H∧CSub (c0.ren fun k=>some (π k)) c) (hnd:(s'.H.map (·.1)).Nodup):Le N s s':=fun σ β a w hr=>by
 have hg : ∀ k j,(fun k=>some (π k)) k=some j->(fun j=>β (π j)) j=β k:=fun k j hk=>by
  cases hk;show β (π (π k))=β k;rw [h2]
 have hin : ∀ j∈s'.H.map (·.1),π j∈s.H.map (·.1):=fun j hj=>by
  obtain ⟨⟨j',c⟩,hm,rfl⟩:=u3s.1 hj;obtain ⟨c0,h1,_⟩:=hH j' c hm;exact u3s.2 ⟨_,h1,rfl⟩
 refine ⟨σ,fun j=>β (π j),⟨hr.size,hr.defers,fun i => ?_,hr.heap.mem,fun j c hj => ?_,hnd,fun j hj i hi b hb=>hr.heap.apart (π j) (hin j hj) i hi b hb,fun j hj j' hj' i i' hi hi' b hb hb' => ?_⟩,Mem.le_refl σ,Frm.refl _ _,fun b h0 h1=>absurd h0 h1,fun b ⟨j,hj,i,hi,hb⟩ => .inl ⟨π j,hin j hj,i,hi,hb⟩,fun k h0 h1 => ?_⟩
 ·rcases hsl.get i with h|h
  ·exact h.rep ((hr.slots i).ren hg)
  ·rw [h];exact .p (.any _)
 ·obtain ⟨c0,h1,h3⟩:=hH j c hj;exact h3 _ _ _ _ ((hr.heap.chunks (π j) c0 h1).ren (j:=j) hg (by show some (π (π j))=some j;rw [h2]))
 ·have:=hr.heap.inj (π j) (hin j hj) (π j') (hin j' hj') i i' hi hi' b hb hb';rw [<- h2 j,this,h2]
 ·show β (π k)=β k;rw [hpin k h0 h1]
end Go.Ab
