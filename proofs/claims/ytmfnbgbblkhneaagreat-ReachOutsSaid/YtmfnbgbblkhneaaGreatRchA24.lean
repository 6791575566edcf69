/- reach: from where a statement has a name. -/
import Derived.Test.YtmfnbgbblkhneaaGreatRchA14
import Derived.Test.YtmfnbgbblkhneaaGreatRchA17
import Derived.Test.YtmfnbgbblkhneaaGreatRchA20
import Derived.Test.YtmfnbgbblkhneaaGreatRchA22
import Derived.Test.YtmfnbgbblkhneaaGreatRchA23
set_option linter.unusedSimpArgs false
set_option linter.unusedVariables false
set_option maxRecDepth 100000
set_option maxHeartbeats 16000000
namespace Go.Ab
open Go.Proofs.Tryz
open Go.Proofs
variable {f:Pr}{id:Int}{k n:Nat}{l:List Fl}{nm:Str}{p:Pg}{s:Fl}
def YT(id:Int)(nm:Str)(l:List Fl):List Int:=(l.filter fun s=>decide (s.dst=id)&&(s.var==nm)).map Fl.src
noncomputable def VT(p:Pg)(id:Int)(nm:Str):List Int:=if QO p=true/\1<=id/\id<=(sheetOf p).l.length then YT id nm (ZR p (WI p id).2.1)else []
theorem Jj(id:Int)(nm:Str){j:Nat}(h:j<l.length):YT id nm (l.take (j+1))=YT id nm (l.take j)++if l[j].dst=id/\l[j].var=nm then [l[j].src]else []:=by
 unfold YT;rw[q8q h,x0f,q7o];congr 1;by_cases h1:l[j].dst=id<;>by_cases h2:l[j].var=nm<;>simp[h1,h2]
theorem MU(id:Int)(nm:Str)(l:List Fl):(YT id nm l).length<=l.length:=by
 unfold YT;rw[q7f];exact q9l _ _
theorem MW(hc:QO p=true)(hk:p.procs[k]?=some f)(hw:X7 p nm=some (QQ p k f)):ZR p nm=XM p k f:=by
 have h1:UR p nm=k:=by
  unfold X7 at hw;rw[hc,q8g]at hw;cases hq:p.procs.find? fun f=>f.name==nm with
  |none=>rw[hq]at hw;cases hw
  | some g=>
    rw[hq]at hw;have h2:some (p.procs.findIdx fun f=>f.name==nm)=some k:=q9e (Option.map Way.j) hw;have h3:(p.procs.any fun f=>f.name==nm)=true:=q9c.2 ⟨g,x0c hq,x2q (p:=fun f:Pr=>f.name==nm) hq⟩;unfold UR Qj;rw[h3,q8g,x0m h2]
 unfold ZR;rw[h1,if_pos ⟨hc,by omega⟩,x0q,JM hk]
theorem Qc(p:Pg)(hf:Fit p)(id:Int)(nm:Str):SpecP prog 17 [.agg p.cells,.int .i64 id,.str nm] (fun r=>r=QA (VT p id nm)):=by
 refine sB Ff func17 rfl call17 ?_;conv=>whnf
 have hB:=DU p hf;cases hc:QO p with
 | false=>
   have e:VT p id nm=[]:=by unfold VT;rw[if_neg (by rw[hc];simp)]
   rw[e];have hB2:=hB.mono (R':=fun r=>r=.nilp) fun r hr=>hr.2 hc;repeat' (first|((first|(refine iM fun _=>?_)|refine dA ?_|refine q7p rfl ?_|refine aD ?_|refine aR ?_|refine bP ?_|(refine iA fun _=>?_)|refine IdxK.xs (by omega) ?_|refine QX (by omega) ?_|(refine ByteK.at (by omega) ?_)|refine wI ?_|refine cP hB2 ?_);conv=>whnf)|(apply bD<;>intro _<;>first|omega|conv=>whnf)|(apply bE<;>intro _<;>first|omega|conv=>whnf)|(apply bN<;>intro _<;>conv=>whnf)|(apply bB<;>intro _<;>conv=>whnf))
   all_goals first
    |contradiction
    |exact⟨_,.p Sub.nils,rfl⟩
 | true=>
   have hB2:=hB.mono (R':=fun r=>r=.ip (QG p).cells) fun r hr=>hr.1 hc;have hR:=WE hc;have hHs:=KX (QG p).s id;have hll:=(QV p).2.2.2.1;have hcn:=XP hc;by_cases h0:1<=id/\id<=(sheetOf p).l.length
   ·obtain⟨k,f,it,hk,hi,hid,hw,hrest⟩:=Du hc h0.1 h0.2;have hat:=q3s hc hk hi;rw[hid]at hat;have hpr:it.proc=k:=DK _ _ _ _ _ _ it hi;have hFl:=J1 hf hc hk;have hLl:=DV hf hc hk;have hfl:ZR p (WI p id).2.1=XM p k f:=MW hc hk hw;have e:VT p id nm=YT id nm (XM p k f):=by unfold VT;rw[if_pos ⟨hc,h0⟩,hfl]
    rw[e];have hg:((QG p).s.l.map fun i=>AV.agg i.cells)[(id-1).toNat]?=some (.agg it.cells):=by rw[hR.s,q7l,hat];rfl
    have hb1:(decide (1<=id)&&decide (id<=((QG p).s.l.length:Int)))=true:=by rw[hR.s];simp[h0.1,h0.2]
    rw[hb1]at hHs;generalize XM p k f=L at*
    generalize QG p=b at*
    repeat' (first|((first|(refine iM fun _=>?_)|refine dA ?_|refine q7p rfl ?_|refine aD ?_|refine aR ?_|refine bP ?_|(refine iA fun _=>?_)|refine IdxK.xs (by omega) ?_|refine QX (by omega) ?_|(refine ByteK.at (by omega) ?_)|refine wI ?_|refine cP hB2 ?_|refine cP hHs ?_|(refine IdxK.at (k:=(id-1).toNat) (by omega) hg rfl ?_)|(refine CallK.pure hFl (.cons (Sub.refl _) (.cons (Sub.int hpr) .nil)) ?_;rintro _ rfl));conv=>whnf)|(apply bD<;>intro _<;>first|omega|conv=>whnf)|(apply bE<;>intro _<;>first|omega|conv=>whnf)|(apply bN<;>intro _<;>conv=>whnf)|(apply bB<;>intro _<;>conv=>whnf)|(refine q7p ?_ ?_<;>conv=>whnf))
    all_goals try contradiction
    all_goals try (exfalso;omega)
    have hLm:(L.map LN).length=L.length:=q7f _;refine LoopK.inv QK (fun j:Nat=>⟨[(1,.p (.int .i64 id)),(2,.p (.str nm)),(8,.hd 0 0 (YT id nm (L.take j)).length),(37,.p (.sl (L.map LN))),(38,.p (.int .i64 (L.map LN).length)),(39,.p (.int .i64 j))],[(0,.own 3 1 ((YT id nm (L.take j)).map (.int .i64)))]⟩) (fun j=>j<=L.length) (fun j=>L.length-j) 0
     (Le.mk [(0,.own 3 1 [])] (by simp[Chunk.new0];rfl) (by simp) (by simp) (.r (.r (.cons (.nil q7d) (.r (.r (.r .nil)))))) (.new q7d .nil)) (q7c _) ?_
    intro j hj;have hal:(YT id nm (L.take j)).length<=1000000000:=q8i (MU _ _ _) (by rw[q8n];omega);rcases q7e j L.length with h1|h1
    ·have hst:=Jj id nm h1;have eL:(L.map LN)[j]?=some (.agg L[j].cells):=by rw[q7l,q7g h1];rfl
     generalize YT id nm (L.take j)=acc at*
     conv=>whnf
     repeat' (first|((first|(refine iM fun _=>?_)|refine dA ?_|refine q7p rfl ?_|refine aD ?_|refine aR ?_|refine bP ?_|(refine iA fun _=>?_)|refine IdxK.xs (by omega) ?_|refine QX (by omega) ?_|(refine ByteK.at (by omega) ?_)|refine wI ?_|refine XX (by simp) (by rw[q7f];omega) ?_);conv=>whnf)|(apply bD<;>intro _<;>first|omega|conv=>whnf)|(apply bE<;>intro _<;>first|omega|conv=>whnf)|(apply bN<;>intro _<;>conv=>whnf)|(apply bB<;>intro _<;>conv=>whnf))
     all_goals first
      |exact⟨j+1,h1,by omega,Le.of_eq (by rw[hst,if_pos ⟨by assumption,by simpa using(show(L[j].var==nm)=true by assumption)⟩];simp only[q7b,q7o];rfl)⟩
      |exact⟨j+1,h1,by omega,Le.of_eq (by rw[hst,if_neg (by rintro⟨h8,h9⟩;simp_all),q9h];rfl)⟩
    ·rw[q8y h1];conv=>whnf
     repeat' (first|((first|(refine iM fun _=>?_)|refine dA ?_|refine q7p rfl ?_|refine aD ?_|refine aR ?_|refine bP ?_|(refine iA fun _=>?_)|refine IdxK.xs (by omega) ?_|refine QX (by omega) ?_|(refine ByteK.at (by omega) ?_)|refine wI ?_);conv=>whnf)|(apply bD<;>intro _<;>first|omega|conv=>whnf)|(apply bE<;>intro _<;>first|omega|conv=>whnf)|(apply bN<;>intro _<;>conv=>whnf)|(apply bB<;>intro _<;>conv=>whnf))
     all_goals first
      |exact⟨_,.hd rfl (by simp),rfl⟩
   ·have e:VT p id nm=[]:=by unfold VT;rw[if_neg (fun h=>h0 h.2)]
    rw[e];have hb1:(decide (1<=id)&&decide (id<=((QG p).s.l.length:Int)))=false:=by
     rw[hR.s];by_cases h1:1<=id
     ·have:¬id<=((sheetOf p).l.length:Int):=fun h2=>h0 ⟨h1,h2⟩;simp[this]
     ·simp[h1]
    rw[hb1]at hHs;generalize QG p=b at*
    repeat' (first|((first|(refine iM fun _=>?_)|refine dA ?_|refine q7p rfl ?_|refine aD ?_|refine aR ?_|refine bP ?_|(refine iA fun _=>?_)|refine IdxK.xs (by omega) ?_|refine QX (by omega) ?_|(refine ByteK.at (by omega) ?_)|refine wI ?_|refine cP hB2 ?_|refine cP hHs ?_);conv=>whnf)|(apply bD<;>intro _<;>first|omega|conv=>whnf)|(apply bE<;>intro _<;>first|omega|conv=>whnf)|(apply bN<;>intro _<;>conv=>whnf)|(apply bB<;>intro _<;>conv=>whnf)|(refine q7p ?_ ?_<;>conv=>whnf))
    all_goals first
     |contradiction
     |exact⟨_,.p Sub.nils,rfl⟩
theorem Qs{G G':Nat->List Str}:∀{n:Nat},(∀a,a<n->G a=G' a)->prsG G n=prsG G' n
 |0,_=>rfl
 |n+1,h=>by rw[FD,FD,h n (Nat.lt_succ_self n),Qs fun a ha=>h a (Nat.lt_succ_of_lt ha)]
def sG0:List (List Str):=[[],[vS],[Pw,vS],[],[],[]]
def sG1:List (List Str):=[[xS,yS],[yS],[],[],[EW],[]]
theorem Ce:∀a,a<6->VS someP 0 f0 a=sG0.getD a []:=fun a ha=>by
 unfold VS;rw[<-some_book.eq];unfold Ms
 match a,ha with
 |0,_=>exact Gc (by kernel_rfl)
 |1,_=>rw[if_neg (by decide),if_neg (by decide),Aw];rfl
 |2,_=>rw[if_neg (by decide),if_neg (by decide),Aw];rfl
 |3,_=>rw[if_neg (by decide),if_neg (by decide),Aw];rfl
 |4,_=>rw[if_neg (by decide),if_neg (by decide),Aw];rfl
 |5,_=>rfl
 |a+6,h=>omega
theorem Ci:∀a,a<6->VS someP 1 f1 a=sG1.getD a []:=fun a ha=>by
 unfold VS;rw[<-some_book.eq];unfold Ms
 match a,ha with
 |0,_=>exact Gc (by kernel_rfl)
 |1,_=>rw[if_neg (by decide),if_neg (by decide),q0f];rfl
 |2,_=>rw[if_neg (by decide),if_neg (by decide),q0f];rfl
 |3,_=>rw[if_neg (by decide),if_neg (by decide),q0f];rfl
 |4,_=>rw[if_neg (by decide),if_neg (by decide),q0f];rfl
 |5,_=>rfl
 |a+6,h=>omega
theorem Tg:BV someP [112]=(6,4):=by
 have e:UR someP [112]=1:=by kernel_rfl
 have e2:prA someP 1=f1:=rfl;unfold BV;rw[e,if_pos ⟨Hp,by decide⟩];show(((QU (prA someP 1).body+2:Nat):Int),(((prsG (VS someP 1 (prA someP 1)) (QU (prA someP 1).body+2)).length:Nat):Int))=(6,4);rw[e2,show QU f1.body+2=6 by kernel_rfl,Qs Ci]
 kernel_rfl
def q2j(nx:List (List Int))(gen kill:List (List Wd))(f:Nat)(X:List Int):List Int:=X++(List.range nx.length).flatMap fun a=>bif bitW (gen.getD a []) f||(X.contains (a:Int) && !bitW (kill.getD a []) f)then nx.getD a []else []
def RM(nx:List (List Int))(gen kill:List (List Wd))(f:Nat):Nat->List Int
 |0=>[]
 |k+1=>q2j nx gen kill f (RM nx gen kill f k)
def TT(nx:List (List Int))(gen kill:List (List Wd))(f:Nat)(X:List Int):Bool:=(List.range nx.length).all fun a=> !(bitW (gen.getD a []) f||(X.contains (a:Int) && !bitW (kill.getD a []) f))||(nx.getD a []).all fun b=>X.contains b
theorem PK{nx:List (List Int)}{gen kill:List (List Wd)}{f:Nat}:∀(k:Nat){c:Int},c∈RM nx gen kill f k->SolP nx gen kill f c
 |0,c,h=>by cases h
 | k+1,c,h=>by
   rw[RM,q2j]at h;rcases q7a.1 h with h|h
   ·exact PK k h
   ·obtain⟨a,ha,hc⟩:=q8r.1 h;cases hq:bitW (gen.getD a []) f||((RM nx gen kill f k).contains (a:Int) && !bitW (kill.getD a []) f)with
    |false=>rw[hq]at hc;cases hc
    | true=>
      rw[hq,q8g]at hc;rw[x1b,q8j,x0p]at hq;rcases hq with hq|⟨h1,h2⟩
      ·exact .gen (a:=(a:Int)) (x2n _) (by rw[x0q];exact hq) (by rw[x0q];exact hc)
      ·exact .go (a:=(a:Int)) (x2n _) (PK k (by simpa using h1)) (by rw[x0q];exact h2) (by rw[x0q];exact hc)
theorem RL{nx:List (List Int)}{gen kill:List (List Wd)}{f:Nat}{X:List Int}(hX:TT nx gen kill f X=true){c:Int}(h:SolP nx gen kill f c):c∈X:=by
 have key:∀{a b:Int},0<=a->b∈nx.getD a.toNat []->(bitW (gen.getD a.toNat []) f||(X.contains a && !bitW (kill.getD a.toNat []) f))=true->b∈X:=fun {a b} h0 hb hq=>by
  have hlt:a.toNat<nx.length:=by
   rw[q7h]at hb;cases hr:nx[a.toNat]?with
   |none=>rw[hr]at hb;cases hb
   |some r=>exact(q7t.1 hr).1
  have h1:=q9b.1 hX a.toNat (q9q.2 hlt);rw[show((a.toNat:Nat):Int)=a by omega,hq]at h1;have h2:=q9b.1 (by simpa using h1:((nx.getD a.toNat []).all fun b=>X.contains b)=true) b hb;simpa using h2
 induction h with
 |gen h0 h hb=>exact key h0 hb (by rw[h];rfl)
 |go h0 _ hk hb ih=>exact key h0 hb (by rw[hk,show X.contains _=true by simpa using ih];simp)
theorem Mj{steps:List (Int×Int)}{at_:List Nat}(k:Nat)(hX:((List.range at_.length).all fun f=>TT (QC n steps).1 ((gnC n at_ at_.length).map (GD (at_.length/64+1))) ((klC n at_ at_.length).map (GD (at_.length/64+1))) f (RM (QC n steps).1 ((gnC n at_ at_.length).map (GD (at_.length/64+1))) ((klC n at_ at_.length).map (GD (at_.length/64+1))) f k))=true):
  comC n steps at_=(List.range n).map fun(c:Nat)=>((List.range at_.length).filter fun f=>(RM (QC n steps).1 ((gnC n at_ at_.length).map (GD (at_.length/64+1))) ((klC n at_ at_.length).map (GD (at_.length/64+1))) f k).contains (c:Int)).map Int.ofNat:=by
 unfold comC;refine List.map_congr_left fun c _=>?_;congr 1;refine List.filter_congr fun f hf=>?_;rw[x3y];exact⟨fun h=>by simpa using RL (q9b.1 hX f hf) (@of_decide_eq_true _ (Classical.propDecidable _) h),fun h=>@x0b _ (Classical.propDecidable _) (PK k (by simpa using h))⟩
theorem Cs:comC 6 (UT (QQ someP 0 f0) f0) [1,2]=[[],[],[0],[1],[1],[1]]:=by
 rw[OF,Mj 6 (by kernel_rfl)]
 kernel_rfl
theorem Cc:comC 6 (UT (QQ someP 0 f0) f0) [2]=[[],[],[],[0],[0],[0]]:=by
 rw[OF,Mj 6 (by kernel_rfl)]
 kernel_rfl
theorem C1(G T:Nat->List Str)(plc:Nat->Int)(n:Nat)(steps:List (Int×Int))(nm:Str):outN G T plc n steps nm=Lk T plc n (atN G n nm) (comC n steps (atN G n nm)) nm:=rfl
theorem Qn{T T':Nat->List Str}{plc:Nat->Int}{at_:List Nat}{C:List (List Int)}{nm:Str}:∀{n:Nat},(∀c,c<n->T c=T' c)->Lk T plc n at_ C nm=Lk T' plc n at_ C nm
 |0,_=>rfl
 |n+1,h=>by rw[MC,MC,h n (Nat.lt_succ_self n),Qn fun c hc=>h c (Nat.lt_succ_of_lt hc)]
def sT1:List (List Str):=[[],[],[vS],[vS],[Pw],[EW,Pw]]
theorem P1:∀a,a<6->Rz someP 0 f0 a=sT1.getD a []:=fun a ha=>by
 unfold Rz;rw[<-some_book.eq];unfold EA
 match a,ha with
 |0,_=>rfl
 |1,_=>rw[if_neg (by decide),if_neg (by decide),Aw];rfl
 |2,_=>rw[if_neg (by decide),if_neg (by decide),Aw];rfl
 |3,_=>rw[if_neg (by decide),if_neg (by decide),Aw];rfl
 |4,_=>rw[if_neg (by decide),if_neg (by decide),Aw];rfl
 |5,_=>exact Gc (by kernel_rfl)
 |a+6,h=>omega
theorem Ul:prsG (VS someP 0 f0) 6=[(vS,1),(Pw,2),(vS,2)]:=by
 rw[Qs Ce]
 kernel_rfl
theorem CQ:outN (VS someP 0 f0) (Rz someP 0 f0) (fun c=>QH someP 0 (6:Nat) c) 6 (UT (QQ someP 0 f0) f0) vS=[⟨1,2,vS⟩,⟨2,3,vS⟩]:=by
 have e:atN (VS someP 0 f0) 6 vS=[1,2]:=by unfold atN;rw[Ul];kernel_rfl
 rw[C1,e,Cs,Qn P1];rfl
theorem Co:outN (VS someP 0 f0) (Rz someP 0 f0) (fun c=>QH someP 0 (6:Nat) c) 6 (UT (QQ someP 0 f0) f0) Pw=[⟨2,4,Pw⟩,⟨2,-1,Pw⟩]:=by
 have e:atN (VS someP 0 f0) 6 Pw=[2]:=by unfold atN;rw[Ul];kernel_rfl
 rw[C1,e,Cc,Qn P1];rfl
theorem OH{l':List Fl}(hp:l.Perm l')(hs:l'.Pairwise fun x y=>¬ltF y x)(hok:∀s∈l,okFl s):VJ l=l':=by
 rw[P2 hp hok];unfold VJ;refine List.mergeSort_of_pairwise (hs.imp fun h=>?_);rw[<-HA]at h;simpa using h
def sFl:List Fl:=[⟨1,2,vS⟩,⟨2,3,vS⟩,⟨2,4,Pw⟩,⟨2,-1,Pw⟩]
theorem Ni:XM someP 0 f0=sFl:=by
 have e6:QU f0.body+2=6:=by kernel_rfl
 unfold XM;rw[e6,Ul,show(mapG [(vS,1),(Pw,2),(vS,2)]).map Prod.fst=[vS,Pw] by kernel_rfl,q9m,q9m,List.flatMap_nil,q9h];rw[CQ,Co];refine OH (.refl _) ((show sFl.Pairwise (fun x y=>¬flC y x<0)from by decide).imp fun h=>by rw[<-HA];exact h) fun s hs=>?_;have hs:s∈sFl:=hs;unfold sFl at hs;simp only[q7r,List.not_mem_nil,or_false]at hs;rcases hs with rfl|rfl|rfl|rfl<;>exact⟨by decide,by decide,by decide⟩
theorem Kx:ZR someP mainS=sFl:=by
 have e:UR someP mainS=0:=by kernel_rfl
 unfold ZR;rw[e,if_pos ⟨Hp,by decide⟩];exact Ni
theorem Ca:VT someP 3 vS=[2]:=by
 unfold VT;rw[if_pos ⟨Hp,by decide,by rw[show(sheetOf someP).l.length=8 by kernel_rfl];decide⟩,show(WI someP 3).2.1=mainS by kernel_rfl,Kx];rfl
theorem QR:SpecP prog 10 [] (fun r=>r=.tt):=by
 have hF:=Nd someP Hn [112];rw[Tg]at hF;have hO:=Hv someP Hn mainS;rw[Kx]at hO;have hR:=Qc someP Hn 3 vS;rw[Ca]at hR;have hE:=YK [2] [2];have hL0:(sFl.map LN)[0]?=some (.agg (Fl.mk 1 2 vS).cells):=rfl;refine sB KK func10 rfl call10 ?_;conv=>whnf
 repeat' (first|((first|(refine iM fun _=>?_)|refine dA ?_|refine q7p rfl ?_|refine aD ?_|refine aR ?_|refine bP ?_|(refine iA fun _=>?_)|refine IdxK.xs (by omega) ?_|refine QX (by omega) ?_|(refine ByteK.at (by omega) ?_)|refine wI ?_|refine cP X9 ?_|refine cP hF ?_|refine cP hO ?_|refine cP hR ?_|refine cP hE ?_|(refine IdxK.at (k:=0) rfl hL0 rfl ?_));conv=>whnf)|(apply bD<;>intro _<;>first|omega|conv=>whnf)|(apply bE<;>intro _<;>first|omega|conv=>whnf)|(apply bN<;>intro _<;>conv=>whnf)|(apply bB<;>intro _<;>conv=>whnf)|(refine q7p ?_ ?_<;>conv=>whnf))
 all_goals first
  |contradiction
  |exact⟨_,.p (Wg rfl),rfl⟩
  |exact⟨_,.p (Sub.refl _),rfl⟩
theorem DB{i:Nat}{a b:Nat}(ha:a<n)(hb:b<n)(h:QH p i n a=QH p i n b):a=b:=by
 unfold QH loI at h;have hpos:(0:Int)<=(QM p.procs i:Nat):=x2n _;split at h<;>split at h<;>(try split at h)<;>(try split at h)<;>omega
theorem Gd{α β:Type}{g:α->List β}:∀{l:List α},l.Nodup->(∀x∈l,(g x).Nodup)->(∀x∈l,∀y∈l,∀z,z∈g x->z∈g y->x=y)->(l.flatMap g).Nodup
 |[],_,_,_=>by simp
 | x::r,hn,h1,h2=>by
   rw[q9v]at hn;rw[q9m,x0x];refine⟨h1 x q7d,Gd hn.2 (fun y hy=>h1 y (q7n _ hy)) (fun y hy z hz=>h2 y (q7n _ hy) z (q7n _ hz)),fun a ha b hb e=>?_⟩;subst e;obtain⟨y,hy,hz⟩:=q8r.1 hb;have:=h2 x q7d y (q7n _ hy) a ha hz;subst this;exact hn.1 hy
theorem Oi{G T:Nat->List Str}{i:Nat}{steps:List (Int×Int)}(hG:∀a,(G a).Nodup)(nm:Str):(outN G T (fun c=>QH p i n c) n steps nm).Nodup:=by
 have hat:(atN G n nm).Nodup:=by rw[D7 hG];exact x3a.filter _
 unfold outN;refine Gd x3a (fun c hc=>?_) fun c hc d hd s h1 h2=>?_
 ·refine Gd ?_ (fun f _=>by split<;>simp) fun f hf g hg s h1 h2=>?_
  ·rw[q7h];cases hq:(comC n steps (atN G n nm))[c]?with
   |none=>exact x4x
   | some r=>
     have hr:=q8u hq;unfold comC at hr;obtain⟨c',_,rfl⟩:=q7s.1 hr;exact(x3a.filter _).map _ fun x y hxy he=>hxy (Int.ofNat.inj he)
  ·have hin:∀f∈(comC n steps (atN G n nm)).getD c [],0<=f/\f<(atN G n nm).length:=fun f hf=>by
    rw[q7h]at hf;cases hq:(comC n steps (atN G n nm))[c]?with
    |none=>rw[hq]at hf;cases hf
    |some r=>rw[hq]at hf;exact(NA (q8u hq)).2 f hf
   have b1:=hin f hf;have b2:=hin g hg;split at h1
   ·split at h2
    ·rw[q7m.1 h1]at h2;have h3:=q9e Fl.src (q7m.1 h2);simp only at h3;have l1:f.toNat<(atN G n nm).length:=by omega
     have l2:g.toNat<(atN G n nm).length:=by omega
     rw[q7h,q7g l1,q7h,q7g l2]at h3;have h4:=DB (Yo (q7i l1)) (Yo (q7i l2)) h3;have h5:f.toNat=g.toNat:=by
      refine x0k fun hne=>?_;rcases Nat.lt_or_gt_of_ne hne with h6|h6
      ·exact x2v.1 hat _ _ l1 l2 h6 h4
      ·exact x2v.1 hat _ _ l2 l1 h6 h4.symm
     omega
    ·first|contradiction|cases h2
   ·first|contradiction|cases h1
 ·obtain⟨f,_,h1⟩:=q8r.1 h1;obtain⟨g,_,h2⟩:=q8r.1 h2;split at h1
  ·split at h2
   ·rw[q7m.1 h1]at h2;exact DB (q9q.1 hc) (q9q.1 hd) (q9e Fl.dst (q7m.1 h2))
   ·first|contradiction|cases h2
  ·first|contradiction|cases h1
theorem Qx(h:s∈XM p k f):∃nm c a,c<QU f.body+2/\a<QU f.body+2/\nm∈VS p k f a/\s=⟨QH p k (QU f.body+2:Nat) a,QH p k (QU f.body+2:Nat) c,nm⟩/\nm∈Rz p k f c:=by
 unfold XM VJ at h;have h:=(x1s _ _).mem_iff.1 h;obtain⟨nm,_,h⟩:=q8r.1 h;unfold outN at h;obtain⟨c,hc,h⟩:=q8r.1 h;obtain⟨x,hx,h⟩:=q8r.1 h;have hin:0<=x/\x<(atN (VS p k f) (QU f.body+2) nm).length:=by
  rw[q7h]at hx;cases hq:(comC (QU f.body+2) (UT (QQ p k f) f) (atN (VS p k f) (QU f.body+2) nm))[c]?with
  |none=>rw[hq]at hx;cases hx
  |some r=>rw[hq]at hx;exact(NA (q8u hq)).2 x hx
 split at h
 ·rename_i ht;have l1:x.toNat<(atN (VS p k f) (QU f.body+2) nm).length:=by omega
  rw[q7m.1 h,q7h,q7g l1];have hm:=q7i l1;refine⟨nm,c,_,q9q.1 hc,Yo hm,?_,rfl,UH.1 ht⟩;unfold atN at hm;obtain⟨y,hy,he⟩:=q7s.1 hm;have h5:=q8t.1 hy;obtain⟨y1,y2⟩:=y;have h6:y1=nm:=by simpa using h5.2
  have h7:=(C5 h5.1).2;subst h6;simp only at he;rw[he]at h7;exact h7
 ·cases h
theorem Qz(h:s∈XM p k f):0<=s.src:=by
 obtain⟨nm,c,a,_,ha,hg,rfl,_⟩:=Qx h;show 0<=QH p k (QU f.body+2:Nat) a;unfold QH loI;split
 ·omega
 split
 ·rename_i h0 h1;have:a=QU f.body+1:=by omega
  subst this;unfold VS Ms at hg;rw[if_neg (by omega),if_pos rfl]at hg;cases hg
 ·omega
theorem Sz(hc:QO p=true)(hG:∀a,(VS p k f a).Nodup):(XM p k f).Nodup:=by
 unfold XM VJ;refine(x1s _ _).nodup_iff.2 (Gd (SF _) (fun nm _=>Oi hG nm) fun a _ b _ s h1 h2=>?_);have key:∀nm,s∈outN (VS p k f) (Rz p k f) (fun c=>QH p k (QU f.body+2:Nat) c) (QU f.body+2) (UT (QQ p k f) f) nm->s.var=nm:=fun nm h=>by
  unfold outN at h;obtain⟨c,_,h⟩:=q8r.1 h;obtain⟨x,_,h⟩:=q8r.1 h;split at h
  ·rw[q7m.1 h]
  ·cases h
 rw[<-key a h1,key b h2]
theorem Th(m:List Fl):(VJ m).Pairwise fun x y=>¬ltF y x:=by
 unfold VJ;refine(x3v ?_ ?_ m).imp fun h=>?_
 ·intro a b c h1 h2;simp only[x0p,q9s]at h1 h2⊢;rw[HA]at h1 h2⊢;exact ltF.neg h2 h1
 ·intro a b;simp only[x1b,x0p,q9s];rw[HA,HA];by_cases h1:ltF b a
  ·exact .inr fun h2=>ltF.irr a (ltF.trans a b a h2 h1)
  ·exact .inl h1
 ·rw[<-HA];simpa using h
theorem Sj(hc:QO p=true)(hG:∀a,(VS p k f a).Nodup)(id:Int)(nm:Str):(YT id nm (XM p k f)).Pairwise (· < ·):=by
 have h1:(XM p k f).Pairwise fun x y=>¬ltF y x:=by unfold XM;exact Th _
 have h2:=Sz hc hG;have h3:(XM p k f).Pairwise fun x y=>¬ltF y x/\x≠y:=List.pairwise_and_iff.2 ⟨h1,h2⟩;unfold YT;rw[List.pairwise_map];refine(List.Pairwise.and_mem.1 (h3.filter _)).imp fun {x y} ⟨hx,hy,h4,h5⟩=>?_;obtain⟨x1,x2⟩:=q8t.1 hx;obtain⟨y1,y2⟩:=q8t.1 hy;simp only[q8j,q8e,x1l]at x2 y2;have sx:=Qz x1;have sy:=Qz y1;have rk:∀z:Int,0<=z->QS z=z:=fun z hz=>by unfold QS;rw[if_neg (by omega)]
 refine x0k fun hn=>?_;rcases Int.lt_trichotomy y.src x.src with h6|h6|h6
 ·exact h4 (.inl (by rw[rk _ sy,rk _ sx];exact h6))
 ·apply h5;obtain⟨a1,a2,a3⟩:=x;obtain⟨b1,b2,b3⟩:=y;simp only at x2 y2 h6;rw[h6,x2.1,x2.2,y2.1,y2.2]
 ·exact hn h6
section
variable {F:List (List Str)->List (List Str)}{n:Nat}{L O:List (List Str)}
end
section
variable {p:Pg}
end
section
variable {p:Pg}{j:Nat}{f:Pr}
theorem Lq(h:QO p=true)(hj:p.procs[j]?=some f){y:Int}(h0:0<y):Pu (PH p f.name) y=true↔Rch (wR p j f) 0 y:=by
 obtain⟨k,hk,hw⟩:=Rh h (q8u hj);obtain⟨rfl,_⟩:=Ln h hk hj rfl;rw[Gl,(Ez p f.name).2,Ly hw];exact⟨fun h=>h.2,fun h=>⟨h0,h⟩⟩
theorem q0o(h:QO p=true)(hj:p.procs[j]?=some f){a b:Int}(hd:dR p j f a b):a ≠ -1:=by
 rcases(Mg h hj).1 hd with h3|⟨l,hl,t,ht,h4,h5,rfl,_⟩
 ·exact(IB h hj ((M6 h hj).2 (.inl h3))).2.2.1
 ·have:=WG (QD h).1 hj ht;omega
end
theorem Iu(hc:QO p=true)(i:Nat)(f:Pr)(a:Nat):(VS p i f a).Nodup:=by
 refine UF (Dt (fun d hd=>?_) a);rw[(WE hc).defs]at hd;obtain⟨it,_,rfl⟩:=q7s.1 hd;exact ZK _
noncomputable def Px(p:Pg)(id:Int)(nm:Str):List Int:=if 0<id then YT id nm (ZR p (WI p id).2.1)else []
theorem RK{n:Str}(h:s∈ZR p n):s.dst<=(sheetOf p).l.length:=by
 unfold ZR at h;split at h
 ·rename_i hq;have hlt:=Qt hq.2;obtain⟨nm,c,a,hc,_,_,rfl,_⟩:=Qx h;obtain⟨_,_,_,hlen,hs⟩:=QV p;obtain⟨_,_,hle,_⟩:=hs _ _ (MA hlt);show QH p _ _ c<=_;unfold QH loI;split
  ·omega
  split
  ·omega
  ·omega
 ·cases h
theorem I4:Px p id nm=VT p id nm/\(VT p id nm).Pairwise (· < ·)/\∀x∈VT p id nm,0<=x:=by
 by_cases hc:QO p=true
 ·by_cases h0:1<=id/\id<=(sheetOf p).l.length
  ·obtain⟨k,f,it,hk,hi,hid,hw,_⟩:=Du hc h0.1 h0.2;have hfl:=MW hc hk hw;have e:VT p id nm=YT id nm (XM p k f):=by unfold VT;rw[if_pos ⟨hc,h0⟩,hfl]
   refine⟨by rw[e];unfold Px;rw[if_pos (by omega),hfl],by rw[e];exact Sj hc (Iu hc k f) id nm,fun x hx=>?_⟩;rw[e]at hx;unfold YT at hx;obtain⟨s,hs,rfl⟩:=q7s.1 hx;exact Qz (q8t.1 hs).1
  ·have e:VT p id nm=[]:=by unfold VT;rw[if_neg (fun h=>h0 h.2)]
   rw[e];refine⟨?_,.nil,fun x hx=>by cases hx⟩;unfold Px;split
   ·rename_i hp;unfold YT;rw[List.filter_eq_nil_iff.2 fun s hs hq=>?_]
    ·rfl
    ·have h1:=RK hs;simp only[q8j,q8e]at hq;exact h0 ⟨by omega,by rw[<-hq.1];exact h1⟩
   ·rfl
 ·have e:VT p id nm=[]:=by unfold VT;rw[if_neg (fun h=>hc h.1)]
  have e2:ZR p (WI p id).2.1=[]:=by unfold ZR;rw[if_neg (fun h=>hc h.1)]
  rw[e];refine⟨?_,.nil,fun x hx=>by cases hx⟩;unfold Px;rw[e2];split<;>rfl
theorem I5{r:AV}(h:q6v (Px p id nm) r):r=QA (VT p id nm):=by
 obtain⟨h1,h2,h3⟩:=I4 (p:=p) (id:=id) (nm:=nm);rw[h1]at h;obtain⟨m,rfl,h4,h5⟩:=h;congr 1;refine W2 ordP.irr ordP.trans h4 ((List.Pairwise.and_mem.1 h2).imp fun {a b} ⟨ha,hb,hlt⟩=>?_) h5;rw[DD];have:=h3 a ha;have:=h3 b hb;exact .inr ⟨by omega,by omega,hlt⟩
def wJ(id:Int)(nm:Str)(l:List Fl):List Int:=if 0<id then YT id nm l else []
theorem q2r:wJ id nm (l.take 0)=[]:=by unfold wJ;split<;>rfl
theorem q2l(h:l.length<=1000000000):(wJ id nm l).length<=1000000000:=by
 unfold wJ;split
 ·exact q8i (MU _ _ _) h
 ·simp
theorem q0z(id:Int)(nm:Str){j:Nat}(h:j<l.length):wJ id nm (l.take (j+1))=wJ id nm (l.take j)++if 0<id/\l[j].dst=id/\l[j].var=nm then [l[j].src]else []:=by
 unfold wJ;by_cases h0:0<id
 ·rw[if_pos h0,if_pos h0,Jj id nm h];simp[h0]
 ·rw[if_neg h0,if_neg h0,if_neg (fun h1=>h0 h1.1)];rfl
theorem GM(p:Pg)(id:Int)(nm:Str):SpecP prog 3 [.agg p.cells,.int .i64 id,.str nm] (fun r=>r=.tt):=by
 refine sB JC func3 rfl call3 ?_;conv=>whnf
 cases hfb:Md p with
 | false=>
   have hno:¬gPg p<=20000:=by unfold Md at hfb;simpa using hfb
   repeat' (first|((first|(refine iM fun _=>?_)|refine cP (XW _) ?_|refine dA ?_|refine q7p rfl ?_|refine aD ?_|refine aR ?_|refine bP ?_|(refine iA fun _=>?_)|refine IdxK.xs (by omega) ?_|refine QX (by omega) ?_|(refine ByteK.at (by omega) ?_)|refine wI ?_|refine cP QR ?_);conv=>whnf)|(apply bD<;>intro _<;>first|omega|conv=>whnf)|(apply bE<;>intro _<;>first|omega|conv=>whnf)|(apply bN<;>intro _<;>conv=>whnf)|(apply bB<;>intro _<;>conv=>whnf))
   all_goals first
    |exact⟨_,.p (Sub.refl _),rfl⟩
    |(exfalso;simp_all;done)
 | true =>
   have hf:Fit p:=S7 hfb;have hfit:gPg p<=20000:=by unfold Md at hfb;simpa using hfb
   have hC:=KN p hf;have hT:=fun h=>Kg p (by have:=(XP (p:=p) h).2.2;omega);have hPo:=JU p id;have hO:=Hv p hf (WI p id).2.1;have hF:=Qc p hf id nm;have hLl:(ZR p (WI p id).2.1).length<=1000000000:=by
    unfold ZR;split
    ·rename_i hq;exact DV hf hq.1 (MA (Qt hq.2))
    ·simp
   have hwd:Px p id nm=if 0<id then YT id nm (ZR p (WI p id).2.1)else []:=rfl;have hRi:=BW (Px p id nm) (by rw[hwd];split;exact q8i (MU _ _ _) hLl;simp);have hWr:=fun r h=>I5 (p:=p) (id:=id) (nm:=nm) (r:=r) h;have hE:=YK (VT p id nm) (VT p id nm);rw[x0b rfl]at hE;generalize VT p id nm=FR at*
   generalize ZR p (WI p id).2.1=L at*
   generalize(WI p id).2.1=pn at*
   have hLm:(L.map LN).length=L.length:=q7f _;cases hc:QO p;all_goals
    rw[hc]at hC;try have hT:=hT hc
    repeat' (first|((first|(refine iM fun _=>?_)|refine cP (XW _) ?_|refine dA ?_|refine q7p rfl ?_|refine aD ?_|refine aR ?_|refine bP ?_|(refine iA fun _=>?_)|refine IdxK.xs (by omega) ?_|refine QX (by omega) ?_|(refine ByteK.at (by omega) ?_)|refine wI ?_|refine cP QR ?_|refine cP hC ?_|refine cP hT ?_|refine cP hPo ?_|refine cP hO ?_);conv=>whnf)|(apply bD<;>intro _<;>first|omega|conv=>whnf)|(apply bE<;>intro _<;>first|omega|conv=>whnf)|(apply bN<;>intro _<;>conv=>whnf)|(apply bB<;>intro _<;>conv=>whnf)|(refine q7p ?_ ?_<;>conv=>whnf))
    all_goals first
     |contradiction
     |exact⟨_,.p (Sub.refl _),rfl⟩
     |skip
    all_goals
     refine LoopK.inv QK (fun j:Nat=>⟨[(1,.p (.int .i64 id)),(2,.p (.str nm)),(3,.p (.ip p.cells)),(7,.hd 0 0 (wJ id nm (L.take j)).length),(26,.p (.sl (L.map LN))),(27,.p (.int .i64 (L.map LN).length)),(28,.p (.int .i64 j))],[(0,.own 3 1 ((wJ id nm (L.take j)).map (.int .i64)))]⟩) (fun j=>j<=L.length) (fun j=>L.length-j) 0
      (by
        rw[q2r];exact Le.mk [(0,.own 3 1 [])] (by simp[Chunk.new0];rfl) (by simp) (by simp) (.r (.r (.r (.cons (.nil q7d) (.r (.r (.r .nil))))))) (.new q7d .nil)) (q7c _) ?_
     intro j hj;have hal:(wJ id nm (L.take j)).length<=1000000000:=q2l (by rw[q8n];omega);rcases q7e j L.length with h1|h1
     ·have hst:=q0z id nm h1;have eL:(L.map LN)[j]?=some (.agg L[j].cells):=by rw[q7l,q7g h1];rfl
      generalize wJ id nm (L.take j)=acc at*
      conv=>whnf
      repeat' (first|((first|(refine iM fun _=>?_)|refine dA ?_|refine q7p rfl ?_|refine aD ?_|refine aR ?_|refine bP ?_|(refine iA fun _=>?_)|refine IdxK.xs (by omega) ?_|refine QX (by omega) ?_|(refine ByteK.at (by omega) ?_)|refine wI ?_|refine XX (by simp) (by rw[q7f];omega) ?_);conv=>whnf)|(apply bD<;>intro _<;>first|omega|conv=>whnf)|(apply bE<;>intro _<;>first|omega|conv=>whnf)|(apply bN<;>intro _<;>conv=>whnf)|(apply bB<;>intro _<;>conv=>whnf))
      all_goals first
       |exact⟨j+1,h1,by omega,Le.of_eq (by rw[hst,if_pos ⟨by omega,by assumption,by simpa using(show(L[j].var==nm)=true by assumption)⟩];simp only[q7b,q7o];rfl)⟩
       |exact⟨j+1,h1,by omega,Le.of_eq (by rw[hst,if_neg (by rintro⟨h7,h8,h9⟩;simp_all<;>omega),q9h];rfl)⟩
     ·rw[q8y h1];have hwe:wJ id nm L=Px p id nm:=hwd.symm;rw[hwe];conv=>whnf
      repeat' (first|((first|(refine iM fun _=>?_)|refine dA ?_|refine q7p rfl ?_|refine aD ?_|refine aR ?_|refine bP ?_|(refine iA fun _=>?_)|refine IdxK.xs (by omega) ?_|refine QX (by omega) ?_|(refine ByteK.at (by omega) ?_)|refine wI ?_|refine cP hF ?_|(refine KY hRi (.cons (.hd rfl (by simp)) .nil) ?_;rintro _ hr;obtain rfl:=hWr _ hr)|refine cP hE ?_);conv=>whnf)|(apply bD<;>intro _<;>first|omega|conv=>whnf)|(apply bE<;>intro _<;>first|omega|conv=>whnf)|(apply bN<;>intro _<;>conv=>whnf)|(apply bB<;>intro _<;>conv=>whnf))
      all_goals first
       |exact⟨_,.p (Sub.refl _),rfl⟩
       |exact⟨_,.p (Wg rfl),rfl⟩
end Go.Ab
