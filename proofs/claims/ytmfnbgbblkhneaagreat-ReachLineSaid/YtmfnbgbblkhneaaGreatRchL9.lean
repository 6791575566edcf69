/- flat, slices, tree, scope: a procedure's statements, where a predicate holds, names, what a name is. -/
import Derived.Test.YtmfnbgbblkhneaaGreatRchL6
import Derived.Test.YtmfnbgbblkhneaaGreatRchL8
set_option linter.unusedSimpArgs false
set_option linter.unusedVariables false
set_option maxRecDepth 100000
set_option maxHeartbeats 16000000
open Int (ofNat)
open Nat (mod_lt)
namespace Go.Ab
open Go.Proofs.Tryz
open Go.Proofs
variable {K:LV->Prop}{P:Program}{hr:Bool}{o:Oper}{s:St}{t u:TypeId}
theorem IdxK.at{es:List AV}{sz k:Nat}{e:AV}{n:Int}{K:List AV->Prop}(hn:n=k)(he:es[k]?=some e)(hs:e.cells.length=sz)(h:K e.cells):IdxK es sz n K:=⟨k,e,hn,he,hs,h⟩
theorem VT{l:List Int}{k:Nat}{n:Int}(h:l[k]?=some n):(l.map (AV.int .i64))[k]?=some (.int .i64 n):=by simp[h]
def VS(l:List Item):AV:=.sl (l.map fun i=>.agg i.cells)
theorem Q0(s:Sheet)(i lo hi:Nat)(h1:s.lo[i]?=some ((lo:Int)+1))(h2:s.hi[i]?=some ((hi:Int)+1))(h3:lo<=hi)(h4:hi<=s.l.length)(h5:s.l.length<=1000):SpecP prog 131 [.ip s.cells,.int .i64 i] (fun r=>r=VS ((s.l.take hi).drop lo)):=by
 refine sB Vn func131 rfl call131 ?_;conv=>whnf
 repeat' ((first|refine dA ?_|refine wI ?_|(refine IdxK.at rfl (VT h1) rfl ?_)|(refine IdxK.at rfl (VT h2) rfl ?_)|refine x2t (fun e he=>by obtain⟨x,_,rfl⟩:=x3q.1 he;rfl) (SlK.mk lo hi (by simp) (by simp) h3 (by simpa using h4) ?_));conv=>whnf)
 exact RetK.p (by simp[VS,List.map_take,List.map_drop])
theorem KS(s:Sheet)(id:Int):SpecP prog 52 [.ip s.cells,.int .i64 id] (fun r=>r=.bool (decide (1<=id)&&decide (id<=s.l.length))):=by
 refine sB Wu func52 rfl call52 ?_;conv=>whnf
 repeat' (first|(refine iM fun _=>?_;conv=>whnf)|(apply bD<;>intro _<;>first|omega|conv=>whnf))
 all_goals have hl:(s.l.map fun i=>AV.agg i.cells).length=s.l.length:=x2m _
 ·exact RetK.bool (by simp_all)
 ·exact RetK.ff (by simp;omega)
theorem Wn(s:Sheet)(i lo hi:Nat)(h1:s.lo[i]?=some ((lo:Int)+1))(h2:s.hi[i]?=some ((hi:Int)+1)):SpecP prog 118 [.ip s.cells,.int .i64 i] (fun r=>r=.int .i64 (if lo<hi then(lo:Int)+1 else -1)):=by
 refine sB MT func118 rfl call118 ?_;conv=>whnf
 repeat' (first|((first|refine dA ?_|(refine IdxK.at rfl (VT h1) rfl ?_)|(refine IdxK.at rfl (VT h2) rfl ?_));conv=>whnf)|(apply bD<;>intro _<;>first|omega|conv=>whnf))
 ·exact RetK.int (by rw[if_pos (by omega)])
 ·exact RetK.int (by rw[if_neg (by omega)])
theorem UC(l:List Str)(g:Nat)(c:AV)(p:Str->Bool)(hp:∀s,SpecP prog g [.str s,c] (fun r=>r=.bool (p s))):SpecP prog 178 [eStrs l,.fn g [c]] (fun r=>r=.int .i64 (Xc p l)):=by
 refine sB VM func178 rfl call178 ?_;conv=>whnf
 refine iM fun _=>?_;have hl:(l.map AV.str).length=l.length:=x2m _;conv=>whnf
 refine LoopK.inv QY (fun j:Nat=>⟨[(0,.p (eStrs l)),(1,.p (.fn g [c])),(7,.p (.int .i64 (l.map AV.str).length)),(8,.p (.int .i64 j))],[]⟩) (fun j=>j<=l.length/\(l.drop j).any p=l.any p/\l.findIdx p=j+(l.drop j).findIdx p) (fun j=>l.length-j) 0 (Le.of_eq rfl) ⟨x3z _,rfl,by simp⟩ ?_;rintro j ⟨h2,h3,h4⟩;conv=>whnf
 repeat' (first|((first|(refine iA fun _=>?_)|refine wI ?_|refine cP (hp _) ?_);conv=>whnf)|(apply bD<;>intro _<;>first|omega|conv=>whnf)|(apply bB<;>intro _<;>conv=>whnf))
 ·exact RetK.int (Fa (p:=p) (by omega) (by assumption) h3 h4).symm
 ·exact⟨j+1,⟨by omega,by rw[<-h3,Kz (p:=p) (by omega) (by assumption)],by rw[h4,q2m (p:=p) (by omega) (by assumption)];omega⟩,by omega,Le.of_eq rfl⟩
 ·exact RetK.int (by rw[Ld];rw[<-h3,Xf (by omega)])
theorem VP(l:List Str)(g:Nat)(c:AV)(p:Str->Bool)(hp:∀s,SpecP prog g [.str s,c] (fun r=>r=.bool (p s))):SpecP prog 129 [eStrs l,.fn g [c]] (fun r=>r=.bool (l.any p)):=by
 refine sB WT func129 rfl call129 ?_;conv=>whnf
 repeat' (refine cP (UC _ _ _ p hp) ?_;conv=>whnf)
 exact RetK.bool Y2
theorem XM(l:List Pr)(g:Nat)(c:AV)(p:Pr->Bool)(hp:∀s:Pr,SpecP prog g [.agg s.cells,c] (fun r=>r=.bool (p s))):SpecP prog 92 [.sl (l.map fun f=>.agg f.cells),.fn g [c]] (fun r=>r=.int .i64 (Xc p l)):=by
 refine sB WB func92 rfl call92 ?_;conv=>whnf
 refine iM fun _=>?_;have hl:(l.map fun f=>AV.agg f.cells).length=l.length:=x2m _;conv=>whnf
 refine LoopK.inv QY (fun j:Nat=>⟨[(0,.p (.sl (l.map fun f=>.agg f.cells))),(1,.p (.fn g [c])),(7,.p (.int .i64 (l.map fun f=>AV.agg f.cells).length)),(8,.p (.int .i64 j))],[]⟩) (fun j=>j<=l.length/\(l.drop j).any p=l.any p/\l.findIdx p=j+(l.drop j).findIdx p) (fun j=>l.length-j) 0 (Le.of_eq rfl) ⟨x3z _,rfl,by simp⟩ ?_;rintro j ⟨h2,h3,h4⟩;conv=>whnf
 repeat' (first|((first|(refine iA fun _=>?_)|refine wI ?_|refine cP (hp _) ?_);conv=>whnf)|(apply bD<;>intro _<;>first|omega|conv=>whnf)|(apply bB<;>intro _<;>conv=>whnf))
 ·exact RetK.int (Fa (p:=p) (by omega) (by assumption) h3 h4).symm
 ·exact⟨j+1,⟨by omega,by rw[<-h3,Kz (p:=p) (by omega) (by assumption)],by rw[h4,q2m (p:=p) (by omega) (by assumption)];omega⟩,by omega,Le.of_eq rfl⟩
 ·exact RetK.int (by rw[Ld];rw[<-h3,Xf (by omega)])
theorem WH(l:List Pr)(g:Nat)(c:AV)(p:Pr->Bool)(hp:∀s:Pr,SpecP prog g [.agg s.cells,c] (fun r=>r=.bool (p s))):SpecP prog 220 [.sl (l.map fun f=>.agg f.cells),.fn g [c]] (fun r=>r=.bool (l.any p)):=by
 refine sB ZC func220 rfl call220 ?_;conv=>whnf
 repeat' (refine cP (XM _ _ _ p hp) ?_;conv=>whnf)
 exact RetK.bool Y2
theorem Dm(p:Pg)(n:Str):SpecP prog 130 [.str n,.ip p.cells] (fun r=>r=.bool (p.globals.any fun s=>n==s)):=by
 refine sB Vl func130 rfl call130 ?_;conv=>whnf
 repeat' (refine cP (QW _ _) ?_;conv=>whnf)
 exact RetK.p rfl
theorem Xm(n:Str)(f:Pr):SpecP prog 93 [.agg f.cells,.ip [.str n]] (fun r=>r=.bool (f.name==n)):=by
 refine sB PC func93 rfl call93 ?_;conv=>whnf
 skip
 exact RetK.p rfl
theorem Di(n:Str)(f:Pr):SpecP prog 221 [.agg f.cells,.ip [.str n]] (fun r=>r=.bool (f.name==n)):=by
 refine sB Vt func221 rfl call221 ?_;conv=>whnf
 skip
 exact RetK.p rfl
theorem ZO(s:Sheet)(n:Str):SpecP prog 49 [.ip s.cells,.str n] (fun r=>r=.int .i64 (Xc (fun f=>f.name==n) s.p.procs)):=by
 refine sB X5 func49 rfl call49 ?_;conv=>whnf
 repeat' (refine cP (XM _ _ _ (fun f=>f.name==n) (fun f=>Xm n f)) ?_;conv=>whnf)
 exact RetK.p rfl
theorem FP{es:List AV}{n:Nat}{K:Prop}(xs:List Str)(hn:n=es.length)(hb:es.length+xs.length<=8796093022208)(hK:K):AppK es (xs.map .str) n (xs.map AV.str).length 1 16 K:=
 .mk hn rfl (by rw[hn];simp;omega) (by rw[hn];simp[maxLen];omega) (fun x hx=>by obtain⟨y,_,rfl⟩:=x3q.1 hx;exact⟨rfl,rfl⟩) hK
theorem QI{es:List AV}{n:Nat}{K:Prop}{s:Str}(hn:n=es.length)(hb:es.length<=8796093022000)(hK:K):AppK es [.str s] n 1 1 16 K:=
 .mk hn rfl (by omega) (by simp only[maxLen];omega) (fun x hx=>by rcases x2a.1 hx with rfl;exact⟨rfl,rfl⟩) hK
theorem XH{es:List AV}{n:Nat}{K:Prop}{s:Int}(hn:n=es.length)(hb:es.length<=8796093022000)(hK:K):AppK es [.int .i64 s] n 1 1 8 K:=
 .mk hn rfl (by omega) (by simp only[maxLen];omega) (fun x hx=>by rcases x2a.1 hx with rfl;exact⟨rfl,rfl⟩) hK
mutual
def N2:X->List Str->List Str
 |.mk op _ name kids,out=>DY kids (if op=2/\(out.any fun s=>name==s)=false then out++[name]else out)
def DY:List X->List Str->List Str
 |[],out=>out
 |x::r,out=>DY r (N2 x out)
end
theorem Lh(x:X)(out:List Str):N2 x out=DY x.kids (if x.op=2/\(out.any fun s=>x.name==s)=false then out++[x.name]else out):=by
 cases x;rw[N2];rfl
theorem Sw{l:List X}{j:Nat}{out:List Str}(hj:j<l.length):DY (l.drop j) out=DY (l.drop (j+1)) (N2 l[j] out):=by
 rw[QF hj,DY]
theorem CA{l:List X}{j:Nat}{out:List Str}(hj:l.length<=j):DY (l.drop j) out=out:=by
 rw[x3b hj,DY]
theorem Kg{n:Nat}{x:X}(h:VD (n+1) x=true):x.kids.length<=2/\(x.op=2->x.kids.length=0)/\∀k∈x.kids,VD n k=true:=by
 rw[VD]at h;simp only[x3h,x3i]at h;obtain⟨h1,h2⟩:=h;refine⟨?_,fun he=>?_,?_⟩
 ·unfold Wa at h1;(repeat' split at h1)<;>omega
 ·unfold Wa at h1;rw[if_pos (by omega)]at h1;omega
 ·by_cases h3:x.op=1
  ·have:x.kids.length=0:=by unfold Wa at h1;rw[if_pos (by omega)]at h1;omega
   rw[x4e this];simp
  ·by_cases h4:x.op=2
   ·have:x.kids.length=0:=by unfold Wa at h1;rw[if_pos (by omega)]at h1;omega
    rw[x4e this];simp
   ·rw[if_neg h3,if_neg h4]at h2;simp only[x3h]at h2;exact x4d.1 h2.2
theorem CI:∀(n:Nat)(x:X)(out:List Str),VD n x=true->out.length<=(N2 x out).length/\(N2 x out).length<=out.length+2^n:=by
 intro n;induction n with
 |zero=>intro x out h;rw[VD]at h;cases h
 | succ n ih=>
   intro x out h;obtain⟨h1,h2,h3⟩:=Kg h;have key:∀(l:List X)(o:List Str),(∀k∈l,VD n k=true)->o.length<=(DY l o).length/\(DY l o).length<=o.length+l.length*2^n:=by
    intro l;induction l with
    |nil=>intro o _;simp[DY]
    | cons k r ihl=>
      intro o hk;rw[DY];have h5:=ih k o (hk k (by simp));have h6:=ihl (N2 k o) fun k hk'=>hk k (by simp[hk']);simp only[x4q,x5d,Nat.one_mul];omega
   rw[Lh];have hp:2^(n+1)=2*2^n:=by rw[Nat.pow_succ];omega
   have hpos:0<2^n:=Nat.pow_pos (by decide);have h4:=key x.kids (if x.op=2/\(out.any fun s=>x.name==s)=false then out++[x.name]else out) h3;have h5:x.kids.length*2^n<=2*2^n:=x4s _ h1;split at h4
   ·rename_i hc;have:=h2 hc.1;rw[this]at h4;rw[if_pos hc];simp only[x2s,x3a]at h4;omega
   ·rename_i hc;rw[if_neg hc];omega
def C6(t:Nat)(out:List Str):Heap:=[(2000,.own t 1 (out.map .str))]
theorem Jw:∀(n:Nat)(_:n<=20)(x:X)(_:VD n x=true)(out:List Str)(_:out.length+2^n<=1073741824),
  SpecH prog 191 [.p (.agg x.cells),.hd 2000 0 out.length] (C6 9 out) (fun r H=>r=.hd 2000 0 (N2 x out).length/\H=C6 9 (N2 x out)):=by
 intro n;induction n with
 |zero=>intro _ x h;rw[VD]at h;cases h
 | succ n ih=>
   intro hn x hx out ho;have hp:2^(n+1)=2*2^n:=by rw[Nat.pow_succ];omega
   have hpos:0<2^n:=Nat.pow_pos (by decide);obtain⟨hk1,hk2,hk3⟩:=Kg hx;have hxl:=X.avs_len x.kids;refine sH He func191 rfl call191 ?_;conv=>whnf
   repeat' (first|((first|(refine iM fun _=>?_)|refine x2t rfl ?_|refine aD ?_|refine bP ?_|(refine XB (QW out x.name) (.cons (.hd rfl (by simp)) (.cons (.p (Sub.refl _)) .nil)) (by rintro _ rfl;rfl) ?_;rintro _ rfl)|refine x6y (by simp) rfl (by show(out.length+1)*16<=140737488355328;omega) (by show out.length+1<=9223372036854775807;omega) (fun x hx=>by rcases x2a.1 hx with rfl;exact⟨rfl,rfl⟩) ?_);conv=>whnf)|(apply bD<;>intro _<;>first|omega|conv=>whnf)|(apply bN<;>intro _<;>conv=>whnf))
   all_goals
    have hmul:∀j,j<x.kids.length->(x.kids.length-j)*2^n=(x.kids.length-(j+1))*2^n+2^n:=fun j hj=>by
     rw[show x.kids.length-j=(x.kids.length-(j+1))+1 by omega,x5d,Nat.one_mul]
    have hmul0:x.kids.length*2^n<=2*2^n:=x4s _ hk1;first
    |refine LoopK.inv QY (fun i:Nat×List Str=>⟨[(1,.hd 2000 0 i.2.length),(23,.p (.sl (X.avs x.kids))),(24,.p (.int .i64 (X.avs x.kids).length)),(25,.p (.int .i64 i.1))],C6 9 i.2⟩) (fun i=>i.1<=x.kids.length/\DY (x.kids.drop i.1) i.2=N2 x out/\i.2.length+(x.kids.length-i.1)*2^n<=1073741824) (fun i=>x.kids.length-i.1) (0,out++[x.name]) (Le.of_eq (by simp[C6];exact⟨rfl,rfl⟩)) ⟨x3z _,by simp only[x9t];rw[Lh,if_pos ⟨by assumption,by assumption⟩],by have:=hk2 (by assumption);simp[this];omega⟩ ?_
    |refine LoopK.inv QY (fun i:Nat×List Str=>⟨[(1,.hd 2000 0 i.2.length),(23,.p (.sl (X.avs x.kids))),(24,.p (.int .i64 (X.avs x.kids).length)),(25,.p (.int .i64 i.1))],C6 9 i.2⟩) (fun i=>i.1<=x.kids.length/\DY (x.kids.drop i.1) i.2=N2 x out/\i.2.length+(x.kids.length-i.1)*2^n<=1073741824) (fun i=>x.kids.length-i.1) (0,out) (Le.of_eq rfl) ⟨x3z _,by simp only[x9t];rw[Lh,if_neg (by simp[*])],by simp only[Nat.sub_zero];omega⟩ ?_
    rintro⟨j,acc⟩ ⟨h2,h3,h4⟩;simp only at h2 h3 h4⊢;conv=>whnf
    repeat' (first|((first|refine x2t rfl ?_|refine IdxK.xs (by omega) ?_);conv=>whnf)|(apply bD<;>intro _<;>first|omega|conv=>whnf))
    all_goals first
     | (rw[CA (by omega)]at h3
        exact⟨_,.refl _,by rw[h3];exact⟨rfl,rfl⟩⟩)
     | (have hj:j<x.kids.length:=by omega
        have hm:=hmul j hj;have hg:=CI n x.kids[j] acc (hk3 _ (x3w hj));refine CallK.heap [(2000,2000)] 0 (by repeat' (first|exact x4x|refine x3d ?_ ?_|exact x3n _|exact x3e Sub.nils|exact x3e (Sub.tt rfl)|exact x3e (Sub.ff rfl)|exact x3e (Sub.int (by omega)))) (by refine x3j (j:=2000) rfl rfl ?_ ?_;exact CSub.refl _;exact x4z) (ih (by omega) x.kids[j] (hk3 _ (x3w hj)) acc (by omega)) rfl rfl ?_;rintro l' H' ⟨rfl,rfl⟩;conv=>whnf
        refine wI ?_;conv=>whnf
        exact⟨(j+1,N2 x.kids[j] acc),⟨by simp only;omega,by simp only;rw[<-h3,Sw hj],by simp only;omega⟩,by simp only;omega,Le.of_eq rfl⟩)
def XN(x:X):List Str:=bif Aa x then N2 x []else []
theorem VG(x:X):(XN x).length<=1048576:=by
 unfold XN;cases h:Aa x with
 |false=>simp
 | true=>
   have:=(CI 20 x [] h).2;simpa using this
theorem Zw(x:X):SpecP prog 148 [.agg x.cells] (fun r=>r=eStrs (XN x)):=by
 refine sB Zn func148 rfl call148 ?_;conv=>whnf
 repeat' (first|(refine cP (BZ _) ?_;conv=>whnf)|(apply bN<;>intro _<;>conv=>whnf))
 ·refine CallK.nil 5 9 1 rfl (.cons rfl (.row .nil)) ?_;refine CallK.heap [(2000,5)] 0 (by repeat' (first|exact x4x|refine x3d ?_ ?_|exact x3n _|exact x3e Sub.nils|exact x3e (Sub.tt rfl)|exact x3e (Sub.ff rfl)|exact x3e (Sub.int (by omega)))) (by refine x3j (j:=5) rfl rfl ?_ ?_;exact CSub.refl _;exact x4z) (Jw 20 (by omega) x (by assumption) [] (by simp)) rfl rfl ?_;rintro l' H' ⟨rfl,rfl⟩;conv=>whnf
  refine⟨_,.hd rfl (by simp),?_⟩;unfold XN;rw[show Aa x=true by assumption];rfl
 ·refine⟨_,.p Sub.nils,?_⟩;unfold XN;rw[show Aa x=false by assumption];rfl
def KG(a:Arg):List Str:=(bif a.ref then [a.name]else [])++XN a.x
def FW(t:S):List Str:=(bif t.kind≠10 && !(t.name==[])then [t.name]else [])++XN t.x
def ZK(t:S):List Str:=FW t++t.args.flatMap KG
theorem SQ(a:Arg):(KG a).length<=1048577:=by
 have:=VG a.x;unfold KG;cases a.ref<;>simp<;>omega
theorem SX(t:S):(FW t).length<=1048577:=by
 have:=VG t.x;unfold FW;cases(t.kind≠10 && !(t.name==[]):Bool)<;>simp<;>omega
theorem HU{α β:Type}{f:α->List β}{c:Nat}(h:∀a,(f a).length<=c):∀l:List α,(l.flatMap f).length<=l.length*c
 |[]=>by simp
 | x::r=>by
   have:=HU h r;have:=h x;simp only[x4n,x2s,x4q,x5d,Nat.one_mul];omega
def TE(t:S)(j:Nat):List Str:=FW t++(t.args.take j).flatMap KG
theorem Iq(t:S){j:Nat}(h:j<=t.args.length)(ha:t.args.length<=20000):(TE t j).length<=21000000000:=by
 have h1:=SX t;have h2:=HU SQ (t.args.take j);have h3:(t.args.take j).length*1048577<=20000*1048577:=x4s _ (by simp;omega);unfold TE;simp only[x2s];omega
theorem Ck{t:S}{j:Nat}(hj:j<t.args.length):TE t (j+1)=TE t j++KG t.args[j]:=by
 unfold TE;rw[x3u hj,x7q,x3s];simp
def Gb(t:S)(tS:Nat)(j:Nat):St:=⟨[(3,.hd 0 0 (TE t j).length),(25,.p (.sl (t.args.map fun a=>.agg a.cells))),(26,.p (.int .i64 (t.args.map fun a=>AV.agg a.cells).length)),(27,.p (.int .i64 j))],[(0,.own tS 1 ((TE t j).map .str))]⟩
theorem Kn(t:S)(ha:t.args.length<=20000):SpecP prog 179 [.agg t.cells] (fun r=>r=eStrs (ZK t)):=by
 refine sB Bk func179 rfl call179 ?_;conv=>whnf
 repeat' (first|((first|(refine iM fun _=>?_)|refine cP (Zw _) ?_|refine x2t rfl ?_|refine aD ?_|refine bP ?_|refine FP _ (by simp) (by have:=VG t.x;simp;omega) ?_|refine QI (by simp) (by simp) ?_);conv=>whnf)|(apply bE<;>intro _<;>first|omega|conv=>whnf)|(apply bN<;>intro _<;>conv=>whnf))
 all_goals
  have hl:(t.args.map fun a=>AV.agg a.cells).length=t.args.length:=x2m _;refine LoopK.inv QY (Gb t 9) (fun j=>j<=t.args.length) (fun j=>t.args.length-j) 0 (Le.of_eq ?_) (x3z _) ?_
  ·first
    | (have e:TE t 0=XN t.x:=by simp[TE,FW,show t.kind=10 by assumption]
       rw[Gb,e];simp only[x5m,x2m,x2s,x3y,x7h];rfl)
    | (have e:TE t 0=XN t.x:=by simp[TE,FW,show t.name=[] by simpa using(show(t.name==[])=true by assumption)]
       rw[Gb,e];simp only[x5m,x2m,x2s,x3y,x7h];rfl)
    | (have e:TE t 0=[t.name]++XN t.x:=by
        have:(t.name==[])=false:=by assumption
        simp[TE,FW,show ¬t.kind=10 by assumption,this]
       rw[Gb,e];simp only[x5m,x2m,x2s,x3y,x7h];rfl)
  intro j h2;have hacc:=Iq t h2 ha;conv=>whnf
  repeat' (first|((first|refine cP (Zw _) ?_|refine x2t rfl ?_|refine aD ?_|refine bP ?_|(refine iA fun _=>?_)|refine wI ?_|refine FP _ (by simp) (by have:=VG (t.args[j]'(by omega)).x;simp;omega) ?_|refine QI (by simp) (by simp;omega) ?_);conv=>whnf)|(apply bD<;>intro _<;>first|omega|conv=>whnf)|(apply bB<;>intro _<;>conv=>whnf))
  all_goals first
   |exact⟨_,.hd rfl (by simp),by
      have:t.args.take j=t.args:=x3f (by omega);rw[ZK,<-this];rfl⟩
   | (have hj:j<t.args.length:=by omega
      have hst:=Ck hj;refine⟨j+1,by show j+1<=_;omega,by show t.args.length-(j+1)<t.args.length-j;omega,Le.of_eq ?_⟩;first
       | (have hn:KG t.args[j]=[t.args[j].name]++XN t.args[j].x:=by rw[KG,show t.args[j].ref=true by assumption];rfl
          rw[Gb,hst,hn];simp only[x2s,x3y,x2m,<-x3s,<-x6z];rfl)
       | (have hn:KG t.args[j]=XN t.args[j].x:=by rw[KG,show t.args[j].ref=false by assumption];rfl
          rw[Gb,hst,hn];simp only[x2s,x3y,x2m];rfl))
abbrev Wd:=BitVec 64
def eW(w:Wd):AV:=.int .u64 (w.toNat:Int)
theorem B7(w:Wd):IntKind.u64.wrap (w.toNat:Int)=w.toNat:=by
 have h:=w.isLt;unfold IntKind.wrap;simp[IntKind.bits,IntKind.signed];omega
theorem BD{σ:Mem}{β:Lab}{s:St}{a:Act}(hs:∀i,RepL σ β (getS s.sl i) (a.tmps.getD i undef)){x:Operand}{k:IntKind}{n:Int}(hx:QM s.sl x=.p (.int k n)):a.eval x=.int k n:=by
 have h:=QZ hs x;rw[hx]at h;generalize a.eval x=v at h;cases h with
 |p h=>cases h;rfl
theorem UF{op:BinOp}{x y:Operand}(hop:o.op=.binOp op t x y u)(a b c:Wd){m n:Int}(hx:QM s.sl x=.p (.int .u64 m))(hy:QM s.sl y=.p (.int .u64 n))(hm:m=a.toNat)(hn:n=b.toNat)(hc:(op=.and/\c=a &&& b)\/(op=.or/\c=a |||b)\/(op=.andNot/\c=a &&& ~~~b))(hK:K (.p (eW c))):ValO P hr s o K:=by
 refine⟨fun σ β ac w hs _=>⟨_,.int .u64 c.toNat,hK,.p (.int _ _),fun w' _ _=>?_⟩⟩;have h1:=BD hs hx;have h2:=BD hs hy;have hg:(eqGuard op t x y (.int .u64 m) (.int .u64 n)).run P w'=.ok () w':=by
  unfold eqGuard;cases op<;>rfl
 have ha:BitVec.ofInt 64 m=a:=by rw[hm];simp
 have hb:BitVec.ofInt 64 n=b:=by rw[hn];simp
 have hbin:(binOp op t (.int .u64 m) (.int .u64 n)).run P w'=.ok (.int .u64 c.toNat) w':=by
  rcases hc with⟨rfl,rfl⟩|⟨rfl,rfl⟩|⟨rfl,rfl⟩
  ·show(Op.intBits .and .u64 m n).run P w'=_;show(pure (.int .u64 (IntKind.u64.wrap ((BitVec.ofInt 64 m &&& BitVec.ofInt 64 n).toNat:Int))):Sem Value).run P w'=_;rw[ha,hb,B7];rfl
  ·show(pure (.int .u64 (IntKind.u64.wrap ((BitVec.ofInt 64 m |||BitVec.ofInt 64 n).toNat:Int))):Sem Value).run P w'=_;rw[ha,hb,B7];rfl
  ·show(pure (.int .u64 (IntKind.u64.wrap ((BitVec.ofInt 64 m &&& ~~~ BitVec.ofInt 64 n).toNat:Int))):Sem Value).run P w'=_;rw[ha,hb,B7];rfl
 simp only[execOp,hop,h1,h2,Sem.run_bind,hg,hbin,Result.andThen_ok,Sem.run_pure]
theorem ValO.shr{P:Program}{hr:Bool}{s:St}{o:Oper}{K:LV->Prop}{t u:TypeId}{x y:Operand}(hop:o.op=.binOp .shr t x y u)(a:Wd)(n:Nat){m k:Int}(hx:QM s.sl x=.p (.int .u64 m))(hy:QM s.sl y=.p (.int .i64 k))(hm:m=a.toNat)(hk:k=n)(hn:n<64)(hK:K (.p (eW (a >>> n)))):ValO P hr s o K:=by
 refine⟨fun σ β ac w hs _=>⟨_,.int .u64 (a >>> n).toNat,hK,.p (.int _ _),fun w' _ _=>?_⟩⟩;have h1:=BD hs hx;have h2:=BD hs hy;have hg:(eqGuard .shr t x y (.int .u64 m) (.int .i64 k)).run P w'=.ok () w':=by
  unfold eqGuard;rfl
 have hbin:(binOp .shr t (.int .u64 m) (.int .i64 k)).run P w'=.ok (.int .u64 (a >>> n).toNat) w':=by
  show(Op.shift .shr .u64 m .i64 k).run P w'=_;unfold Op.shift;rw[if_neg (by omega),hm,hk];have e:min (n:Int).toNat (IntKind.bits .u64)=n:=by
   show min (n:Int).toNat 64=n;omega
  simp only[e];have e2:(a.toNat:Int).fdiv (2^n)=((a >>> n).toNat:Int):=by
   rw[BitVec.toNat_ushiftRight,Nat.shiftRight_eq_div_pow,Int.fdiv_eq_ediv_of_nonneg _ (by exact_mod_cast x3z _)]
   push_cast
   rfl
  rw[e2];rfl
 simp only[execOp,hop,h1,h2,Sem.run_bind,hg,hbin,Result.andThen_ok,Sem.run_pure]
theorem Cy{x y:Operand}(hop:o.op=.binOp .shl t x y u)(n:Nat){k:Int}(hx:QM s.sl x=.p (.int .u64 1))(hy:QM s.sl y=.p (.int .i64 k))(hk:k=n)(hn:n<64)(hK:K (.p (eW (1#64 <<< n)))):ValO P hr s o K:=by
 refine⟨fun σ β ac w hs _=>⟨_,.int .u64 (1#64 <<< n).toNat,hK,.p (.int _ _),fun w' _ _=>?_⟩⟩;have h1:=BD hs hx;have h2:=BD hs hy;have hg:(eqGuard .shl t x y (.int .u64 1) (.int .i64 k)).run P w'=.ok () w':=by
  unfold eqGuard;rfl
 have hbin:(binOp .shl t (.int .u64 1) (.int .i64 k)).run P w'=.ok (.int .u64 (1#64 <<< n).toNat) w':=by
  show(Op.shift .shl .u64 1 .i64 k).run P w'=_;unfold Op.shift;rw[if_neg (by omega),hk];have e:min (n:Int).toNat (IntKind.bits .u64)=n:=by
   show min (n:Int).toNat 64=n;omega
  simp only[e];have e1:(1#64 <<< n).toNat=2^n:=by
   rw[BitVec.toNat_shiftLeft];simp only[BitVec.toNat_ofNat];rw[Nat.shiftLeft_eq,Nat.one_mod_two_pow_eq_one.2 (by decide),Nat.one_mul,Nat.mod_eq_of_lt (Nat.pow_lt_pow_right (by decide) hn)]
  have e2:IntKind.u64.wrap ((1:Int)*2^n)=((1#64 <<< n).toNat:Int):=by
   rw[<-B7,e1];congr 1
   push_cast
   omega
  rw[e2];rfl
 simp only[execOp,hop,h1,h2,Sem.run_bind,hg,hbin,Result.andThen_ok,Sem.run_pure]
theorem C3{ws:List Wd}{i:Nat}(h:i<ws.length):(ws.map eW)[i]?=some (.int .u64 (ws[i].toNat:Int)):=by
 rw[x2e,x2n h];rfl
def AE(ws:List Wd)(f:Nat):List Wd:=ws.set (f/64) (ws.getD (f/64) 0 |||1#64 <<< (f%64))
def wsH(k:Nat)(ws:List Wd):Nat×Chunk:=(k,.own 255 1 (ws.map eW))
theorem Io(f:Nat):(f:Int).tdiv 64=((f/64:Nat):Int):=rfl
theorem q6r(f:Nat):(f:Int).tmod 64=((f%64:Nat):Int):=rfl
theorem K3(ws:List Wd)(f:Nat)(hf:f/64<ws.length)(hl:ws.length<=1000000):SpecH prog 236 [.hd 1000 0 ws.length,.p (.int .i64 f)] [wsH 1000 ws] (fun r H=>(∃b,r=.p (.bool b))/\H=[wsH 1000 (AE ws f)]):=by
 refine sH Wf func236 rfl call236 ?_;conv=>whnf
 have e:=C3 hf;have e7:=Io f;have e8:=q6r f;have hst:(ws.map eW).set (f/64) (eW (ws[f/64] |||1#64 <<< (f%64)))=(AE ws f).map eW:=by
  unfold AE;rw[x4m,x2l,x2n hf];rfl
 repeat' (first|((first|(refine iM fun _=>?_)|refine dA ?_|refine x2t rfl ?_|refine aD ?_|refine aR ?_|refine bP ?_|(refine iA fun _=>?_)|refine IdxK.xs (by omega) ?_|refine QX (by omega) ?_|(refine ByteK.at (by omega) ?_)|refine x2t (by decide) ?_|refine Wr.i64 (by rw[e7];omega) (by rw[e7];omega) ?_|refine x4j (f/64) e7 hf ?_|refine x5z (f/64) 0 (.int .u64 (ws[f/64].toNat:Int)) (by omega) e ?_|refine ValO.shr rfl ws[f/64] (f%64) rfl rfl rfl e8 (by omega) ?_|refine UF rfl _ 1#64 _ rfl rfl rfl rfl (.inl ⟨rfl,rfl⟩) ?_|refine Cy rfl (f%64) rfl rfl e8 (by omega) ?_|refine UF rfl _ _ _ rfl rfl rfl rfl (.inr (.inl ⟨rfl,rfl⟩)) ?_|refine x5i (f/64) 0 (.int .u64 (ws[f/64].toNat:Int)) (eW (ws[f/64] |||1#64 <<< (f%64))) (by omega) e (x3g 1) rfl ?_);conv=>whnf)|(apply bD<;>intro _<;>first|omega|conv=>whnf)|(apply bE<;>intro _<;>first|omega|conv=>whnf)|(apply bN<;>intro _<;>conv=>whnf)|(apply bB<;>intro _<;>conv=>whnf))
 all_goals first
  |exact⟨_,.refl _,⟨_,rfl⟩,by unfold wsH;rw[<-hst]⟩
def ZM(b c:List Wd):List Wd:=List.zipWith (fun x y=>x |||y) b c
def Qy(b c:List Wd)(k:Nat):Bool:=(List.range k).any fun i=> !(((c.getD i 0 &&& ~~~(b.getD i 0)).toNat:Int)==0)
theorem So(b c:List Wd)(k:Nat):Qy b c (k+1)=(Qy b c k || !(((c.getD k 0 &&& ~~~(b.getD k 0)).toNat:Int)==0)):=by
 unfold Qy;rw[x7f,List.any_append];simp
theorem SL(b c:List Wd)(hbc:c.length=b.length)(hl:b.length<=1000000):SpecH prog 239 [.hd 1000 0 b.length,.hd 1001 0 c.length] [wsH 1000 b,wsH 1001 c] (fun r H=>r=.p (.bool (Qy b c b.length))/\H=[wsH 1000 (ZM b c),wsH 1001 c]):=by
 refine sH Bt func239 rfl call239 ?_;conv=>whnf
 repeat' (first|((first|(refine iM fun _=>?_)|refine dA ?_|refine x2t rfl ?_|refine aD ?_|refine aR ?_|refine bP ?_|(refine iA fun _=>?_)|refine IdxK.xs (by omega) ?_|refine QX (by omega) ?_|(refine ByteK.at (by omega) ?_)|refine wI ?_);conv=>whnf)|(apply bD<;>intro _<;>first|omega|conv=>whnf)|(apply bE<;>intro _<;>first|omega|conv=>whnf)|(apply bN<;>intro _<;>conv=>whnf)|(apply bB<;>intro _<;>conv=>whnf))
 have hjl:(ZM b c).length=b.length:=by unfold ZM;rw[x9l];omega
 refine LoopK.inv QY (fun i:Nat=>⟨[(0,.hd 1000 0 b.length),(1,.hd 1001 0 c.length),(4,.p (.bool (Qy b c i))),(7,.p (.int .i64 b.length)),(8,.p (.int .i64 i))],[wsH 1000 ((ZM b c).take i++b.drop i),wsH 1001 c]⟩) (fun i=>i<=b.length) (fun i=>b.length-i) 0
  (Le.mk [] (by simp) (by simp) (by show(List.map _ _).Nodup;simp[wsH]) (.r (.r (.cons (.p (Sub.ff rfl)) (.r (.r .nil))))) (.cons rfl (.refl _) (.cons rfl (.refl _) .nil))) (x3z _) ?_
 intro i hi;rcases x3v i b.length with h1|h1
 ·have hci:i<c.length:=by omega
  have hrl:((ZM b c).take i++b.drop i).length=b.length:=by rw[x2s,x3m,x5f];omega
  have hb:((ZM b c).take i++b.drop i)[i]?=some b[i]:=by
   rw[x4u (by rw[x3m];omega),x3m,x4c,show i+(i-min i (ZM b c).length)=i by omega,x2n h1]
  have hst:((ZM b c).take i++b.drop i).set i (b[i] |||c[i]'hci)=(ZM b c).take (i+1)++b.drop (i+1):=by
   rw[x6h _ _ (by rw[x3m];omega),x3m,show i-min i (ZM b c).length=0 by omega,x4v h1,x6b,x3u (by omega),x3s];congr 1;show _=(ZM b c)[i]::_;unfold ZM;rw[List.getElem_zipWith];rfl
  have hm:=So b c i;rw[x2l,x2l,x2n h1,x2n (show i<c.length by omega)]at hm;simp only[x5q]at hm;generalize((ZM b c).take i++b.drop i)=row at hrl hb hst⊢;have e1:(row.map eW)[i]?=some (.int .u64 (b[i].toNat:Int)):=by rw[x2e,hb];rfl
  have e2:=C3 (ws:=c) (i:=i) (by omega);have e3:(row.map eW).set i (eW (b[i] |||c[i]'hci))=((ZM b c).take (i+1)++b.drop (i+1)).map eW:=by rw[<-hst,x4m]
  cases hmi:Qy b c i;all_goals
   rw[hmi]at hm;unfold wsH;conv=>whnf
   repeat' (first|((first|(refine iM fun _=>?_)|refine x2t rfl ?_|refine aD ?_|refine aR ?_|refine bP ?_|(refine iA fun _=>?_)|refine IdxK.xs (by omega) ?_|refine QX (by omega) ?_|(refine ByteK.at (by omega) ?_)|refine wI ?_|refine dA ?_|refine x4j i rfl (by omega) ?_|refine x5z i 0 (.int .u64 (b[i].toNat:Int)) (by omega) e1 ?_|refine x5z i 0 (.int .u64 ((c[i]'hci).toNat:Int)) (by omega) e2 ?_|refine UF rfl (c[i]'hci) b[i] _ rfl rfl rfl rfl (.inr (.inr ⟨rfl,rfl⟩)) ?_|refine UF rfl b[i] (c[i]'hci) _ rfl rfl rfl rfl (.inr (.inl ⟨rfl,rfl⟩)) ?_|refine x5i i 0 (.int .u64 (b[i].toNat:Int)) (eW (b[i] |||c[i]'hci)) (by omega) e1 (x3g 1) rfl ?_|refine Br.tt ?_|refine Br.ff ?_);conv=>whnf)|(apply bD<;>intro _<;>first|omega|conv=>whnf)|(apply bE<;>intro _<;>first|omega|conv=>whnf)|(apply bN<;>intro _<;>conv=>whnf)|(apply bB<;>intro _<;>conv=>whnf))
   all_goals first
    |exact⟨i+1,h1,by omega,Le.of_eq (by rw[hm,<-e3];rfl)⟩
    |exact⟨i+1,h1,by omega,by
       rw[hm,<-e3];exact Le.mk [] (by simp) (by simp) (by show(List.map _ _).Nodup;simp[wsH]) (.r (.r (.cons (.p (Sub.tt rfl)) (.r (.r .nil))))) (.cons rfl (.refl _) (.cons rfl (.refl _) .nil))⟩
 ·have hall:(ZM b c).take i++b.drop i=ZM b c:=by rw[x3f (by omega),x3b h1,x4b]
  obtain rfl:i=b.length:=by omega
  rw[hall];unfold wsH;conv=>whnf
  repeat' (first|((first|(refine iM fun _=>?_)|refine dA ?_|refine x2t rfl ?_|refine aD ?_|refine aR ?_|refine bP ?_|(refine iA fun _=>?_)|refine IdxK.xs (by omega) ?_|refine QX (by omega) ?_|(refine ByteK.at (by omega) ?_)|refine wI ?_);conv=>whnf)|(apply bD<;>intro _<;>first|omega|conv=>whnf)|(apply bE<;>intro _<;>first|omega|conv=>whnf)|(apply bN<;>intro _<;>conv=>whnf)|(apply bB<;>intro _<;>conv=>whnf))
  all_goals first
   |exact⟨_,.refl _,rfl,rfl⟩
def bitW(ws:List Wd)(f:Nat):Bool:=(ws.getD (f/64) 0).getLsbD (f%64)
def UO(ws:List Wd)(most:Nat):List Int:=((List.range most).filter (bitW ws)).map ofNat
theorem q4y(w:Wd)(k:Nat):((w >>> k &&& 1#64).toNat:Int)=if w.getLsbD k then 1 else 0:=by
 have h:(w >>> k &&& 1#64).toNat=(w.toNat >>> k)%2:=by
  rw[BitVec.toNat_and,BitVec.toNat_ushiftRight];show(w.toNat >>> k) &&& 1=_;exact Nat.and_one_is_mod _
 rw[h,BitVec.getLsbD,Nat.testBit,Nat.and_comm,Nat.and_one_is_mod];have:=Nat.mod_two_eq_zero_or_one (w.toNat >>> k);rcases this with h|h<;>rw[h]<;>rfl
theorem Sr(ws:List Wd)(k:Nat):UO ws (k+1)=UO ws k++(if bitW ws k then [(k:Int)]else []):=by
 unfold UO;rw[x7f,x5r,x3y];congr 1;cases h:bitW ws k
 ·rw[x6w (by rw[h];decide)];rfl
 ·rw[x5o h];rfl
theorem Af(ws:List Wd)(k:Nat):(UO ws k).length<=k:=by
 unfold UO;rw[x2m];exact x4k (x5y _ _) (by simp)
theorem J8(ws:List Wd)(most:Nat)(hm:most<=1000000)(hw:most/64<ws.length):SpecP prog 240 [.sl (ws.map eW),.int .i64 most] (fun r=>r=QO (UO ws most)):=by
 refine sB Xy func240 rfl call240 ?_;conv=>whnf
 repeat' (first|((first|(refine iM fun _=>?_)|refine dA ?_|refine x2t rfl ?_|refine aD ?_|refine aR ?_|refine bP ?_|(refine iA fun _=>?_)|refine IdxK.xs (by omega) ?_|refine QX (by omega) ?_|(refine ByteK.at (by omega) ?_)|refine wI ?_);conv=>whnf)|(apply bD<;>intro _<;>first|omega|conv=>whnf)|(apply bE<;>intro _<;>first|omega|conv=>whnf)|(apply bN<;>intro _<;>conv=>whnf)|(apply bB<;>intro _<;>conv=>whnf))
 have hwl:(ws.map eW).length=ws.length:=x2m _;refine LoopK.inv QY (fun f:Nat=>⟨[(0,.p (.sl (ws.map eW))),(1,.p (.int .i64 most)),(5,.hd 0 0 (UO ws f).length),(6,.p (.int .i64 f))],[(0,.own 3 1 ((UO ws f).map (.int .i64)))]⟩) (fun f=>f<=most) (fun f=>most-f) 0
  (Le.mk [(0,.own 3 1 [])] (by simp[Chunk.new0];rfl) (by simp) (by simp) (.r (.r (.cons (.nil x2r) (.r .nil)))) (.new x2r .nil)) (x3z _) ?_
 intro f hf;have hll:=Af ws f;have hls:=Sr ws f;rcases x3v f most with h1|h1
 ·have hfi:f/64<ws.length:=Nat.lt_of_le_of_lt (Nat.div_le_div_right (by omega)) hw;have e:=C3 hfi;have e7:=Io f;have e8:=q6r f;have hbe:bitW ws f=(ws[f/64]).getLsbD (f%64):=by unfold bitW;rw[x2l,x2n hfi];rfl
  have hsa:=q4y ws[f/64] (f%64);rw[<-hbe]at hsa;generalize UO ws f=acc at*
  conv=>whnf
  repeat' (first|((first|(refine iM fun _=>?_)|refine dA ?_|refine x2t rfl ?_|refine aD ?_|refine aR ?_|refine bP ?_|(refine iA fun _=>?_)|refine IdxK.xs (by omega) ?_|refine QX (by omega) ?_|(refine ByteK.at (by omega) ?_)|refine x2t (by decide) ?_|refine Wr.i64 (by first|omega|(rw[e7];omega)) (by first|omega|(rw[e7];omega)) ?_|(refine IdxK.at (k:=f/64) e7 e rfl ?_)|refine ValO.shr rfl ws[f/64] (f%64) rfl rfl rfl e8 (by omega) ?_|refine UF rfl _ 1#64 _ rfl rfl rfl rfl (.inl ⟨rfl,rfl⟩) ?_|refine XH (by simp) (by simp;omega) ?_);conv=>whnf)|(apply bD<;>intro _<;>first|omega|conv=>whnf)|(apply bE<;>intro _<;>first|omega|conv=>whnf)|(apply bN<;>intro _<;>conv=>whnf)|(apply bB<;>intro _<;>conv=>whnf))
  all_goals first
   | (have h9:bitW ws f=true:=by
       cases hq:bitW ws f with
       |true=>rfl
       |false=>rw[hq]at hsa;exfalso;simp_all;done
      rw[h9]at hls;exact⟨f+1,h1,by omega,Le.of_eq (by rw[hls];simp only[x2s,x3y,if_true];rfl)⟩)
   | (have h9:bitW ws f=false:=by
       cases hq:bitW ws f with
       |false=>rfl
       |true=>rw[hq]at hsa;exfalso;simp_all;done
      rw[h9]at hls;exact⟨f+1,h1,by omega,Le.of_eq (by rw[hls];simp only[x4b,Bool.false_eq_true,if_false];rfl)⟩)
 ·obtain rfl:f=most:=by omega
  conv=>whnf
  repeat' (first|((first|(refine iM fun _=>?_)|refine dA ?_|refine x2t rfl ?_|refine aD ?_|refine aR ?_|refine bP ?_|(refine iA fun _=>?_)|refine IdxK.xs (by omega) ?_|refine QX (by omega) ?_|(refine ByteK.at (by omega) ?_)|refine wI ?_);conv=>whnf)|(apply bD<;>intro _<;>first|omega|conv=>whnf)|(apply bE<;>intro _<;>first|omega|conv=>whnf)|(apply bN<;>intro _<;>conv=>whnf)|(apply bB<;>intro _<;>conv=>whnf))
  all_goals first
   |exact⟨_,.hd rfl (by simp),rfl⟩
theorem Th(ws:List Wd)(f:Nat):(AE ws f).length=ws.length:=by unfold AE;rw[x5e]
theorem Y9{b c:List Wd}(h:c.length=b.length):(ZM b c).length=b.length:=by unfold ZM;rw[x9l];omega
theorem GH{b c:List Wd}(h:c.length=b.length){f:Nat}(hf:f/64<b.length):bitW (ZM b c) f=(bitW b f||bitW c f):=by
 unfold bitW ZM;rw[x2l,x2l,x2l,List.getElem?_zipWith,x2n hf,x2n (show f/64<c.length by omega)];simp only[x5q];rw[BitVec.getLsbD_or]
theorem Im{ws:List Wd}{f g:Nat}(hf:f/64<ws.length):bitW (AE ws f) g=(bitW ws g||decide (g=f)):=by
 unfold bitW AE;by_cases h:g/64=f/64
 ·rw [h,x2l,x5w hf];simp only[x5q];rw[BitVec.getLsbD_or];congr 1;rw[BitVec.getLsbD_shiftLeft];have hg:g%64<64:=mod_lt _ (by decide);have hf2:f%64<64:=mod_lt _ (by decide);by_cases he:g=f
  ·subst he;simp[hg]
  ·have hne:g%64≠f%64:=fun h2=>he (by have:=Nat.div_add_mod g 64;have:=Nat.div_add_mod f 64;omega);rw[x4i he];by_cases hlt:g%64<f%64
   ·simp[hlt]
   ·have:(1#64).getLsbD (g%64-f%64)=false:=by
     rw[BitVec.getLsbD_one];have:¬g%64-f%64=0:=by omega
     simp[this]
    simp[this]
 ·rw[x2l,x5h (x6o h),x2l];have he:g≠f:=fun h2=>h (by rw[h2]);rw[x4i he,Bool.or_false]
theorem Px(w f:Nat):bitW (List.replicate w 0) f=false:=by
 unfold bitW;rw[x2l,x3o];split<;>simp
def HL(w:Nat)(fs:List Int):List Wd:=fs.foldl (fun ws f=>AE ws f.toNat) (List.replicate w 0)
theorem CM(fs:List Int):∀ws:List Wd,(fs.foldl (fun ws f=>AE ws f.toNat) ws).length=ws.length:=by
 induction fs with
 |nil=>intro ws;rfl
 |cons f r ih=>intro ws;rw[x6v,ih,Th]
theorem Vg(w:Nat)(fs:List Int):(HL w fs).length=w:=by unfold HL;rw[CM,x5x]
theorem E3(w:Nat)(fs:List Int){j:Nat}(hj:j<fs.length):HL w (fs.take (j+1))=AE (HL w (fs.take j)) fs[j].toNat:=by
 unfold HL;rw[x3u hj,x7n];rfl
theorem Il{w:Nat}{fs:List Int}(h:∀f∈fs,0<=f/\f.toNat/64<w)(g:Nat):bitW (HL w fs) g=decide ((g:Int)∈fs):=by
 unfold HL;have key:∀(fs:List Int)(ws:List Wd),ws.length=w->(∀f∈fs,0<=f/\f.toNat/64<w)->bitW (fs.foldl (fun ws f=>AE ws f.toNat) ws) g=(bitW ws g||decide ((g:Int)∈fs)):=fun fs=>by
  induction fs with
  |nil=>intro ws _ _;simp
  | cons f r ih=>
    intro ws hw hr;obtain⟨h1,h2⟩:=hr f x2r;rw[x6v,ih _ (by rw[Th];exact hw) fun x hx=>hr x (x2c _ hx),Im (by omega),Bool.or_assoc];congr 1;rw[x7k];simp only[x6p,x3i,x2i];constructor
    ·rintro(h|h)
     ·exact .inl (by omega)
     ·exact .inr h
    ·rintro(h|h)
     ·exact .inl (by omega)
     ·exact .inr h
 rw[key fs _ (by simp) h,Px,Bool.false_or]
def PK(w:Nat)(g i k:List Wd):List Wd:=(List.range w).map fun j=>g.getD j 0 |||(i.getD j 0 &&& ~~~(k.getD j 0))
theorem A5(w:Nat)(g i k:List Wd):(PK w g i k).length=w:=by unfold PK;simp
theorem U5{w:Nat}{g i k:List Wd}{f:Nat}(hf:f/64<w):bitW (PK w g i k) f=(bitW g f||(bitW i f && !bitW k f)):=by
 unfold bitW PK;rw[x2l (l:=(List.range w).map _),x2e,x7u hf];simp only[x6e,x5q];rw[BitVec.getLsbD_or,BitVec.getLsbD_and,BitVec.getLsbD_not];have:f%64<64:=mod_lt _ (by decide);simp[this]
theorem x0e{x:Wd}(h:x≠0):∃k,k<64/\x.getLsbD k=true:=by
 refine x5p fun hn=>h ?_;refine BitVec.eq_of_getLsbD_eq fun i hi=>?_;have:x.getLsbD i=false:=by
  cases hq:x.getLsbD i with
  |false=>rfl
  |true=>exact absurd ⟨i,hi,hq⟩ hn
 rw[this];simp
theorem Mg(x:Wd):(((x.toNat:Int)==0)=false)↔x≠0:=by
 constructor
 ·rintro h rfl;simp at h
 ·intro h;have:x.toNat≠0:=fun he=>h (BitVec.eq_of_toNat_eq (by simpa using he));simpa using this
theorem Np{b c:List Wd}(h:c.length=b.length):Qy b c b.length=true ↔ ∃f,f/64<b.length/\bitW c f=true/\bitW b f=false:=by
 unfold Qy;rw[x4o];constructor
 ·rintro⟨i,hi,hx⟩;have hi:=x4y.1 hi;have h1:(c.getD i 0 &&& ~~~(b.getD i 0))≠0:=(Mg _).1 (by simpa using hx);obtain⟨k,hk,hb⟩:=x0e h1;rw[BitVec.getLsbD_and,BitVec.getLsbD_not,x3h]at hb;refine⟨64*i+k,by omega,?_,?_⟩
  ·unfold bitW;rw[show(64*i+k)/64=i by omega,show(64*i+k)%64=k by omega];exact hb.1
  ·unfold bitW;rw[show(64*i+k)/64=i by omega,show(64*i+k)%64=k by omega];have:=hb.2;simpa[hk]using this
 ·rintro⟨f,hf,h1,h2⟩;refine⟨f/64,x4y.2 hf,?_⟩;have h3:(c.getD (f/64) 0 &&& ~~~(b.getD (f/64) 0))≠0:=fun he=>by
   have:=x5u (fun x:Wd=>x.getLsbD (f%64)) he;simp only[BitVec.getLsbD_and,BitVec.getLsbD_not,BitVec.getLsbD_zero]at this;unfold bitW at h1 h2;rw[h1,h2]at this;have h64:f%64<64:=mod_lt _ (by decide);simp[h64]at this
  have:=(Mg _).2 h3;simpa using this
theorem Az{b c:List Wd}(h:c.length=b.length)(hm:Qy b c b.length=false):ZM b c=b:=by
 have hno:∀f,f/64<b.length->bitW c f=true->bitW b f=true:=fun f hf h1=>by
  cases h2:bitW b f with
  |true=>rfl
  |false=>rw[(Np h).2 ⟨f,hf,h1,h2⟩]at hm;cases hm
 refine List.ext_getElem (Y9 h) fun i h1 h2=>?_;refine BitVec.eq_of_getLsbD_eq fun k hk=>?_;have e1:bitW (ZM b c) (64*i+k)=(ZM b c)[i].getLsbD k:=by
  unfold bitW;rw[show(64*i+k)/64=i by omega,show(64*i+k)%64=k by omega,x2l,x2n h1];rfl
 have e2:bitW b (64*i+k)=b[i].getLsbD k:=by
  unfold bitW;rw[show(64*i+k)/64=i by omega,show(64*i+k)%64=k by omega,x2l,x2n h2];rfl
 rw[<-e1,<-e2,GH h (by omega)];cases hc:bitW c (64*i+k)with
 |false=>rw[Bool.or_false]
 |true=>rw[hno _ (by omega) hc];rfl
def q2d(w:Nat)(ws:List Wd):Nat:=(List.range (64*w)).countP (bitW ws)
theorem q2b(w:Nat)(ws:List Wd):q2d w ws<=64*w:=by
 unfold q2d;have:=x9w (p:=bitW ws) (l:=List.range (64*w));simpa using this
theorem Pk{p q:Nat->Bool}(h:∀x,p x=true->q x=true){x:Nat}(h1:p x=false)(h2:q x=true):∀{l:List Nat},x∈l->l.countP p+1<=l.countP q
 |[],hx=>by cases hx
 | y::r,hx=>by
   have hle:r.countP p<=r.countP q:=List.countP_mono_left fun z _ hz=>h z hz;rw[List.countP_cons,List.countP_cons];rcases x2i.1 hx with rfl|hx
   ·rw[h1,h2];simp;omega
   ·have:=Pk h h1 h2 hx;cases hp:p y with
    |false=>simp;split<;>omega
    |true=>rw[h y hp];simp;omega
theorem Ie{w:Nat}{b c:List Wd}(hb:b.length=w)(hc:c.length=w)(hm:Qy b c b.length=true):q2d w b+1<=q2d w (ZM b c):=by
 obtain⟨f,hf,h1,h2⟩:=(Np (by omega)).1 hm;refine Pk (x:=f) (fun x hx=>?_) h2 ?_ (x4y.2 (by omega))
 ·by_cases h:x/64<b.length
  ·rw[GH (by omega) h,hx];rfl
  ·unfold bitW at hx;rw[x2l,x4a (by omega)]at hx;simp at hx
 ·rw[GH (by omega) hf,h1,Bool.or_true]
inductive SolP(nx:List (List Int))(gen kill:List (List Wd))(f:Nat):Int->Prop
 |gen {a b:Int} (h0:0<=a) (h:bitW (gen.getD a.toNat []) f=true) (hb:b∈nx.getD a.toNat []):SolP nx gen kill f b
 |go {a b:Int} (h0:0<=a) (h:SolP nx gen kill f a) (hk:bitW (kill.getD a.toNat []) f=false) (hb:b∈nx.getD a.toNat []):SolP nx gen kill f b
structure SvS where
 inn:List (List Wd)
 todo:List Int
 waits:List Bool
def jnE(goes:List Wd)(st:SvS)(b:Int):SvS:=
 bif Qy (st.inn.getD b.toNat []) goes (st.inn.getD b.toNat []).length && !(st.waits.getD b.toNat false)then⟨st.inn.set b.toNat (ZM (st.inn.getD b.toNat []) goes),st.todo++[b],st.waits.set b.toNat true⟩else⟨st.inn.set b.toNat (ZM (st.inn.getD b.toNat []) goes),st.todo,st.waits⟩
def goA(w:Nat)(gen kill:List (List Wd))(inn:List (List Wd))(a:Nat):List Wd:=PK w (gen.getD a []) (inn.getD a []) (kill.getD a [])
structure SvI(n w:Nat)(nx:List (List Int))(gen kill:List (List Wd))(st:SvS):Prop where
 len:st.inn.length=n
 rows:∀r∈st.inn,r.length=w
 wl:st.waits.length=n
 nd:st.todo.Nodup
 rng:∀b∈st.todo,0<=b/\b<n
 wt:∀b:Int,0<=b->b<n->(st.waits.getD b.toNat false=true↔b∈st.todo)
 snd:∀b:Int,0<=b->b<n->∀f,f/64<w->bitW (st.inn.getD b.toNat []) f=true->SolP nx gen kill f b
def closedA(n w:Nat)(nx:List (List Int))(gen kill:List (List Wd))(inn:List (List Wd))(x:Int):Prop:=∀b∈nx.getD x.toNat [],∀f,f/64<w->bitW (goA w gen kill inn x.toNat) f=true->bitW (inn.getD b.toNat []) f=true
def VR(w:Nat)(inn:List (List Wd)):Nat:=(inn.map (q2d w)).sum
structure SvJ(n w:Nat)(nx:List (List Int))(gen kill:List (List Wd))(a:Int)(goes:List Wd)(j:Nat)(st:SvS):Prop where
 I:SvI n w nx gen kill st
 cl:∀x:Int,0<=x->x<n->x∉st.todo->x≠a->closedA n w nx gen kill st.inn x
 go:a∉st.todo->goA w gen kill st.inn a.toNat=goes
 pr:∀b∈(nx.getD a.toNat []).take j,∀f,f/64<w->bitW goes f=true->bitW (st.inn.getD b.toNat []) f=true
theorem Eo{w:Nat}:∀(l:List (List Wd))(i:Nat)(r:List Wd)(h:i<l.length),VR w (l.set i r)+q2d w l[i]=VR w l+q2d w r
 |x::l,0,r,_=>by simp only[VR,x6b,x3l,x8r,List.getElem_cons_zero];omega
 | x::l,i+1,r,h=>by
   have:=Eo (w:=w) l i r (by simpa using h);simp only[VR,List.set_cons_succ,x3l,x8r,List.getElem_cons_succ]at this⊢;omega
theorem Uw{w:Nat}:∀(l:List (List Wd)),VR w l<=l.length*(64*w)
 |[]=>by simp[VR]
 | x::l=>by
   have h1:=q2b w x;have h2:=Uw (w:=w) l;simp only[VR,x3l,x8r,x4q]at h2⊢;rw[x5d];omega
section
variable {n w:Nat}{nx:List (List Int)}{gen kill:List (List Wd)}(hnx : ∀ r∈nx,∀ b∈r,0<=b/\b<n)
include hnx
theorem q3k{a:Int}(ha0:0<=a)(han:a<n){goes:List Wd}(hgl:goes.length=w)(hgs:∀f,f/64<w->bitW goes f=true->∀b∈nx.getD a.toNat [],SolP nx gen kill f b){j:Nat}{st:SvS}(h:SvJ n w nx gen kill a goes j st)(hj:j<(nx.getD a.toNat []).length):
  SvJ n w nx gen kill a goes (j+1) (jnE goes st (nx.getD a.toNat [])[j])/\VR w st.inn+(jnE goes st (nx.getD a.toNat [])[j]).todo.length<=VR w (jnE goes st (nx.getD a.toNat [])[j]).inn+st.todo.length:=by
 obtain⟨I,hcl,hgo,hpr⟩:=h;have hbm:=x3w hj;have htk:=x3u hj;generalize hb:(nx.getD a.toNat [])[j]=b at hbm htk⊢;have hbr:0<=b/\b<n:=by
  rw[x2l]at hbm;cases hq:nx[a.toNat]?with
  |none=>rw[hq]at hbm;cases hbm
  |some r=>rw[hq]at hbm;exact hnx r (x3k hq) b hbm
 have hbl:b.toNat<st.inn.length:=by have:=I.len;omega
 have hrow:st.inn.getD b.toNat []=st.inn[b.toNat]:=by rw[x2l,x2n hbl];rfl
 have hrl:(st.inn.getD b.toNat []).length=w:=by rw[hrow];exact I.rows _ (x3w hbl)
 obtain⟨row,hrw⟩ : ∃row,row=st.inn.getD b.toNat []:=⟨_,rfl⟩;rw[<-hrw]at hrl hrow;have hjl:(ZM row goes).length=w:=by rw[Y9 (by omega)];exact hrl
 obtain⟨inn',hin⟩ : ∃inn',inn'=st.inn.set b.toNat (ZM row goes):=⟨_,rfl⟩;have hget:∀x:Int,0<=x->inn'.getD x.toNat []=if x=b then ZM row goes else st.inn.getD x.toNat []:=fun x hx=>by
  rw[hin];by_cases he:x=b
  ·rw[he,if_pos rfl,x2l,x5w hbl];rfl
  ·rw[if_neg he,x2l,x5h (by omega),x2l]
 have hgrow:∀x:Int,0<=x->∀f,f/64<w->bitW (st.inn.getD x.toNat []) f=true->bitW (inn'.getD x.toNat []) f=true:=fun x hx f hf hbit=>by
  rw[hget x hx];split
  ·rename_i he;rw[he,<-hrw]at hbit;rw[GH (by omega) (by omega),hbit];rfl
  ·exact hbit
 have hpr':∀x∈(nx.getD a.toNat []).take (j+1),∀f,f/64<w->bitW goes f=true->bitW (inn'.getD x.toNat []) f=true:=fun x hx f hf hg=>by
  have hx0:0<=x:=by
   have hxm:=x9g hx;rw[x2l]at hxm;cases hq:nx[a.toNat]?with
   |none=>rw[hq]at hxm;cases hxm
   |some r=>rw[hq]at hxm;exact(hnx r (x3k hq) x hxm).1
  rw[htk]at hx;rcases x3x.1 hx with hx|hx
  ·exact hgrow x hx0 f hf (hpr x hx f hf hg)
  ·rw[x2a]at hx;rw[hget x hx0,if_pos hx,GH (by omega) (by omega),hg,Bool.or_true]
 have hI:∀(todo:List Int)(waits:List Bool),todo.Nodup->waits.length=n->(∀b∈todo,0<=b/\b<n)->(∀b:Int,0<=b->b<n->(waits.getD b.toNat false=true↔b∈todo))->SvI n w nx gen kill ⟨inn',todo,waits⟩:=fun todo waits h1 h2 h3 h4=>by
  refine⟨by rw[hin,x5e];exact I.len,fun r hr=>?_,h2,h1,h3,h4,fun x hx0 hxn f hf hbit=>?_⟩
  ·rw[hin]at hr;rcases x6i hr with h|h
   ·exact I.rows r h
   ·rw[h];exact hjl
  ·have hbit:bitW (inn'.getD x.toNat []) f=true:=hbit;rw[hget x hx0]at hbit;split at hbit
   ·rename_i he;subst he;rw[GH (by omega) (by omega),x6p]at hbit;rcases hbit with hbit|hbit
    ·exact I.snd x hx0 hxn f hf (hrw▸hbit)
    ·exact hgs f hf hbit x hbm
   ·exact I.snd x hx0 hxn f hf hbit
 have hcnt:=Eo (w:=w) st.inn b.toNat (ZM row goes) hbl;rw[<-hin,<-hrow]at hcnt;cases hm:Qy row goes row.length with
 | false=>
   have hsame:=Az (by omega) hm;have hinn:inn'=st.inn:=by
    rw[hin,hsame,hrow];exact List.set_getElem_self hbl
   have e:jnE goes st b=⟨inn',st.todo,st.waits⟩:=by
    unfold jnE;rw[<-hrw,hm,Bool.false_and,x3t,<-hin]
   rw[e];refine⟨⟨hI _ _ I.nd I.wl I.rng I.wt,?_,?_,hpr'⟩,?_⟩
   ·rw[hinn];exact hcl
   ·rw[hinn];exact hgo
   ·rw[hinn];exact x3g _
 | true=>
   have hc2:=Ie (w:=w) hrl hgl hm;have hcl':∀todo:List Int,(∀x,x∈st.todo->x∈todo)->b∈todo->∀x:Int,0<=x->x<n->x∉todo->x≠a->closedA n w nx gen kill inn' x:=fun todo h1 h2 x hx0 hxn hx hxa y hy f hf hg=>by
    have hxb:x≠b:=fun he=>hx (he▸h2);have hy0:0<=y:=by
     rw[x2l]at hy;cases hq:nx[x.toNat]?with
     |none=>rw[hq]at hy;cases hy
     |some r=>rw[hq]at hy;exact(hnx r (x3k hq) y hy).1
    refine hgrow y hy0 f hf (hcl x hx0 hxn (fun h=>hx (h1 x h)) hxa y hy f hf ?_);unfold goA at hg⊢
    rwa[hget x hx0,if_neg hxb]at hg
   have hgo':∀todo:List Int,(∀x,x∈st.todo->x∈todo)->b∈todo->a∉todo->goA w gen kill inn' a.toNat=goes:=fun todo h1 h2 h3=>by
    have hab:a≠b:=fun he=>h3 (he▸h2);rw[<-hgo fun h=>h3 (h1 a h)];unfold goA;rw[hget a ha0,if_neg hab]
   cases hwt:st.waits.getD b.toNat false with
   | true=>
     have hbt:=(I.wt b hbr.1 hbr.2).1 hwt;have e:jnE goes st b=⟨inn',st.todo,st.waits⟩:=by
      unfold jnE;rw[<-hrw,hm,hwt,Bool.not_true,Bool.and_false,x3t,<-hin]
     rw[e];refine⟨⟨hI _ _ I.nd I.wl I.rng I.wt,hcl' st.todo (fun _ h=>h) hbt,hgo' st.todo (fun _ h=>h) hbt,hpr'⟩,?_⟩;show VR w st.inn+st.todo.length<=VR w inn'+st.todo.length;omega
   | false=>
     have hbt:b∉st.todo:=fun h=>by
      rw[(I.wt b hbr.1 hbr.2).2 h]at hwt;cases hwt
     have e:jnE goes st b=⟨inn',st.todo++[b],st.waits.set b.toNat true⟩:=by
      unfold jnE;rw[<-hrw,hm,hwt,Bool.not_false,Bool.and_true,x3p,<-hin]
     have hwl:b.toNat<st.waits.length:=by have:=I.wl;omega
     rw[e];refine⟨⟨hI _ _ ?_ (by rw[x5e];exact I.wl) (fun x hx=>?_) (fun x hx0 hxn=>?_),hcl' _ (fun _ h=>x4h _ h) (x4f _ (x2a.2 rfl)),hgo' _ (fun _ h=>x4h _ h) (x4f _ (x2a.2 rfl)),hpr'⟩,?_⟩
     ·rw[x4l];exact⟨I.nd,by simp,fun x hx y hy he=>hbt (by rw[<-x2a.1 hy,<-he];exact hx)⟩
     ·rcases x3x.1 hx with hx|hx
      ·exact I.rng x hx
      ·rw[x2a.1 hx];exact hbr
     ·rw[x3x,x2a];by_cases he:x=b
      ·subst he;rw[x2l,x5w hwl];simp
      ·rw[x2l,x5h (by omega),<-x2l,I.wt x hx0 hxn];simp[he]
     ·show VR w st.inn+(st.todo++[b]).length<=VR w inn'+st.todo.length;rw[x2s,x3a];omega
omit hnx in
theorem Oo{a:Int}{r:List Int}{st:SvS}(h:SvI n w nx gen kill st)(hcl:∀x:Int,0<=x->x<n->x∉st.todo->closedA n w nx gen kill st.inn x)(ht:st.todo=a::r):
  SvJ n w nx gen kill a (goA w gen kill st.inn a.toNat) 0 ⟨st.inn,r,st.waits.set a.toNat false⟩/\∀f,f/64<w->bitW (goA w gen kill st.inn a.toNat) f=true->∀b∈nx.getD a.toNat [],SolP nx gen kill f b:=by
 have har:=h.rng a (by rw[ht];exact x2r);have hnd:=h.nd;rw[ht,x4r]at hnd;have hwl:a.toNat<st.waits.length:=by have:=h.wl;omega
 refine⟨⟨⟨h.len,h.rows,by rw[x5e];exact h.wl,hnd.2,fun b hb=>h.rng b (by rw[ht];exact x2c _ hb),fun b hb0 hbn=>?_,h.snd⟩,fun x hx0 hxn hx hxa=>hcl x hx0 hxn (by rw[ht,x2i];rintro(he|he);exact hxa he;exact hx he),fun _=>rfl,fun b hb=>by simp at hb⟩,fun f hf hg b hb=>?_⟩
 ·by_cases he:b=a
  ·subst he;rw[x2l,x5w hwl];simp[hnd.1]
  ·show(st.waits.set a.toNat false).getD b.toNat false=true↔b∈r;rw[x2l,x5h (by omega),<-x2l,h.wt b hb0 hbn,ht,x2i];simp[he]
 ·unfold goA at hg;rw[U5 hf,x6p,x3h,x5l]at hg;rcases hg with hg|⟨h1,h2⟩
  ·exact .gen har.1 hg hb
  ·exact .go har.1 (h.snd a har.1 har.2 f hf h1) h2 hb
omit hnx in
theorem IQ{a:Int}{goes:List Wd}{st:SvS}(h:SvJ n w nx gen kill a goes (nx.getD a.toNat []).length st):∀x:Int,0<=x->x<n->x∉st.todo->closedA n w nx gen kill st.inn x:=fun x hx0 hxn hx=>by
 by_cases he:x=a
 ·subst he;have hg:=h.go hx;intro b hb f hf hbit;rw[hg]at hbit;exact h.pr b (by rw[x8x];exact hb) f hf hbit
 ·exact h.cl x hx0 hxn hx he
omit hnx in
theorem OA{st:SvS}(h:SvI n w nx gen kill st)(hcl:∀x:Int,0<=x->x<n->x∉st.todo->closedA n w nx gen kill st.inn x)(ht:st.todo=[])(hnl:nx.length<=n){b:Int}(hb0:0<=b)(hbn:b<n){f:Nat}(hf:f/64<w):bitW (st.inn.getD b.toNat []) f=true↔SolP nx gen kill f b:=by
 refine⟨h.snd b hb0 hbn f hf,fun hs=>?_⟩;have hlt:∀{a:Int}{b:Int},0<=a->b∈nx.getD a.toNat []->a<n:=fun {a b} h0 hb=>by
  rw[x2l]at hb;cases hq:nx[a.toNat]?with
  |none=>rw[hq]at hb;cases hb
  | some r=>
    have:=(x2o.1 hq).1;omega
 clear hb0 hbn;induction hs with
 | @gen a b h0 hg hb=>
   refine hcl a h0 (hlt h0 hb) (by rw[ht];simp) b hb f hf ?_;unfold goA;rw[U5 hf,hg];rfl
 | @go a b h0 _ hk hb ih=>
   refine hcl a h0 (hlt h0 hb) (by rw[ht];simp) b hb f hf ?_;unfold goA;rw[U5 hf,ih,hk,Bool.not_false,Bool.and_true,Bool.or_true]
omit hnx in
theorem Ed(hn:nx.length<=n):SvI n w nx gen kill ⟨List.replicate n (List.replicate w 0),(List.range n).map ofNat,List.replicate n true⟩:=by
 refine⟨by simp,fun r hr=>by rw[(x8s.1 hr).2];simp,by simp,?_,fun b hb=>?_,fun b h0 h1=>?_,fun b h0 h1 f hf hbit=>?_⟩
 ·exact x9h.map _ fun x y hxy he=>hxy (Int.ofNat.inj he)
 ·obtain⟨x,hx,rfl⟩:=x3q.1 hb;have:=x4y.1 hx;exact⟨x8w _,by show(x:Int)<n;omega⟩
 ·have hlt:b.toNat<n:=by omega
  simp only[x2l,x3o,if_pos hlt,x5q,true_iff];exact x3q.2 ⟨b.toNat,x4y.2 hlt,by show((b.toNat:Nat):Int)=b;omega⟩
 ·have hlt:b.toNat<n:=by omega
  simp only[x2l,x3o,if_pos hlt,x5q]at hbit;rw[Px]at hbit;cases hbit
end
inductive MrA(k a q n:Nat)(two:Bool):List LV->List LV->Prop
 |nil:MrA k a q n two [] []
 |row {ls ls0:List LV} (hs:MrA k a q n two ls ls0):MrA k a q n two (.ext k (.row a n)::ls) (.hd 1000 0 n::ls0)
 |own {m:Nat} {ls ls0:List LV} (ht:two=true) (hs:MrA k a q n two ls ls0):MrA k a q n two (.hd q 0 m::ls) (.hd 1001 0 m::ls0)
 |p {x y:AV} {ls ls0:List LV} (h:Sub x y) (hs:MrA k a q n two ls ls0):MrA k a q n two (.p x::ls) (.p y::ls0)
theorem MrA.get{k a q n:Nat}{two:Bool}{ls ls0:List LV}(h:MrA k a q n two ls ls0):ls.length=ls0.length/\∀(j:Nat)(l0:LV),ls0[j]?=some l0->∃l,ls[j]?=some l/\((l=.ext k (.row a n)/\l0=.hd 1000 0 n)\/(∃m,two=true/\l=.hd q 0 m/\l0=.hd 1001 0 m)\/∃x y,l=.p x/\l0=.p y/\Sub x y):=by
 induction h with
 |nil=>exact⟨rfl,by simp⟩
 | row hs ih=>
   refine⟨by simp[ih.1],fun j l0 hj=>?_⟩;cases j with
   |zero=>simp at hj;subst hj;exact⟨_,rfl,.inl ⟨rfl,rfl⟩⟩
   |succ j=>exact ih.2 j l0 (by simpa using hj)
 | own ht hs ih=>
   refine⟨by simp[ih.1],fun j l0 hj=>?_⟩;cases j with
   |zero=>simp at hj;subst hj;exact⟨_,rfl,.inr (.inl ⟨_,ht,rfl,rfl⟩)⟩
   |succ j=>exact ih.2 j l0 (by simpa using hj)
 | p h hs ih=>
   refine⟨by simp[ih.1],fun j l0 hj=>?_⟩;cases j with
   |zero=>simp at hj;subst hj;exact⟨_,rfl,.inr (.inr ⟨_,_,rfl,rfl,h⟩)⟩
   |succ j=>exact ih.2 j l0 (by simpa using hj)
theorem SW{H:Heap}(h:(H.map (·.1)).Nodup){k:Nat}{c d:Chunk}(hc:(k,c)∈H)(hd:(k,d)∈H):c=d:=by
 induction H with
 |nil=>cases hc
 | cons x r ih=>
   rw[x3l,x4r]at h;rcases x2i.1 hc with h1|h1
   ·rcases x2i.1 hd with h2|h2
    ·exact(Prod.mk.inj (h1.trans h2.symm)).2
    ·exact(h.1 (x3q.2 ⟨_,h2,by rw[<-h1]⟩)).elim
   ·rcases x2i.1 hd with h2|h2
    ·exact(h.1 (x3q.2 ⟨_,h1,by rw[<-h2]⟩)).elim
    ·exact ih h.2 h1 h2
theorem Zb{N:Nat}{K:St->Prop}{g:FuncId}{args args0:List LV}{dst:Option Nat}(k a q:Nat)(two:Bool){e e2 sz e3 sz3:Nat}{rows:List (List AV)}{row es3:List AV}(row':List AV){R:LV->Heap->Prop}{S:AV->Prop}(ha:MrA k a q row.length two args args0)(hs:SpecH P g args0 ((1000,.own e2 sz row)::bif two then [(1001,.own e3 sz3 es3)]else []) R)(hg:getH s.H k=some (.ext (.mat e e2 sz rows [])))(hrow:rows[a]?=some row)(hne:0<row.length)(hq:two=true->getH s.H q=some (.own e3 sz3 es3)/\k≠q)(hR:∀l H',R l H'->∃c,l=.p c/\S c/\H'=(1000,.own e2 sz row')::bif two then [(1001,.own e3 sz3 es3)]else [])(hlen:row'.length=row.length)(h:∀c,S c->K1 s.H k (.ext (.mat e e2 sz (rows.set a row') [])) fun H=>setD N s.sl dst (.p c) fun sl=>K ⟨sl,H⟩):CallK P N g args dst s K:=by
 refine⟨fun σ β ac w hr vals hn hv=>⟨hs.go vals,?_⟩⟩;have hk1:=QN hg;have hal:a<rows.length:=(x2o.1 hrow).1;rcases hr.heap.chunks k _ (QG hg)with⟨_,h0⟩|⟨i,vs,hi,hisz,hh,hvs,hle,hmax,hsl,hdis,hrows⟩
 ·rw[h0]at hal;cases hal
 rcases(hrows a row hrow).2 (by simp)with⟨_,h1,_⟩|⟨b,c,ws,hsb,hva,hbh,hws,hrl,hc,hel⟩
 ·rw[h1]at hne;cases hne
 let ri:BInfo:=⟨b,c,sz,[],hc⟩;let β0:Lab:=fun j=>if j=1000 then some ri else if j=1001 then(bif two then β q else none)else none;have hri:∀b',ri.has b'->b'=b:=fun b' hb=>by
  rcases hb with hb|⟨c',hb⟩
  ·exact hb.symm
  ·cases hb
 have hib:i.has b:=.inr ⟨c,x3k hsb⟩;have e0:β0 1000=some ri:=rfl;have e1:two=true->β0 1001=β q:=fun ht=>by show(bif two then β q else none)=_;rw[ht];rfl
 let H0:Heap:=(1000,.own e2 sz row)::bif two then [(1001,.own e3 sz3 es3)]else [];have hlab0:∀j∈H0.map (·.1),j=1000\/(two=true/\j=1001):=fun j hj=>by
  simp only[H0,x3l,x2i]at hj;rcases hj with hj|hj
  ·exact .inl hj
  ·cases ht:two with
   |true=>rw[ht]at hj;exact .inr ⟨rfl,by simpa using hj⟩
   |false=>rw[ht]at hj;cases hj
 have hq1:two=true->q∈s.H.map (·.1):=fun ht=>QN (hq ht).1;have hwas:∀j∈H0.map (·.1),∀ij,β0 j=some ij->∀b',ij.has b'->(j=1000/\b'=b)\/(two=true/\j=1001/\∃iq,β q=some iq/\iq.has b'):=fun j hj ij hij b' hb=>by
  rcases hlab0 j hj with rfl|⟨ht,rfl⟩
  ·rw[e0]at hij;cases hij;exact .inl ⟨rfl,hri b' hb⟩
  ·rw[e1 ht]at hij;exact .inr ⟨ht,rfl,ij,hij,hb⟩
 have hown:∀b',owns β0 H0 b'->b'=b\/(two=true/\∃iq,β q=some iq/\iq.has b'):=fun b' ⟨j,hj,ij,hij,hb⟩=>by
  rcases hwas j hj ij hij b' hb with⟨_,h⟩|⟨ht,_,h⟩
  ·exact .inl h
  ·exact .inr ⟨ht,h⟩
 have hownS:∀b',owns β0 H0 b'->owns β s.H b':=fun b' ho=>by
  rcases hown b' ho with rfl|⟨ht,iq,h1,h2⟩
  ·exact⟨k,hk1,i,hi,hib⟩
  ·exact⟨q,hq1 ht,iq,h1,h2⟩
 have hH0:HRel σ β0 H0 w:=by
  refine⟨hr.heap.mem,fun j d hj=>?_,?_,fun j hj ij hij b' hb=>?_,fun j hj j' hj' i1 i2 h1 h2 b' hb1 hb2=>?_⟩
  ·simp only[H0,x2i]at hj;rcases hj with hj|hj
   ·cases hj;exact .inr ⟨ri,ws,e0,rfl,hbh,hws,hrl,hc,hel⟩
   ·cases ht:two with
    |false=>rw[ht]at hj;cases hj
    | true=>
      rw[ht,x3p,x2a]at hj;cases hj;have:=hr.heap.chunks q _ (QG (hq ht).1);rcases this with⟨h1,h2⟩|⟨i2,rest⟩
      ·exact .inl ⟨(e1 ht).trans h1,h2⟩
      ·exact .inr ⟨i2,by rw[e1 ht];exact rest⟩
  ·cases two<;>simp[H0]
  ·rcases hwas j hj ij hij b' hb with⟨_,rfl⟩|⟨ht,_,iq,h1,h2⟩
   ·exact hr.heap.apart k hk1 i hi _ hib
   ·exact hr.heap.apart q (hq1 ht) iq h1 b' h2
  ·rcases hwas j hj i1 h1 b' hb1 with⟨rfl,rfl⟩|⟨ht,rfl,iq,h3,h4⟩<;>rcases hwas j' hj' i2 h2 _ hb2 with⟨rfl,h5⟩|⟨ht2,rfl,iq2,h5,h6⟩
   ·rfl
   ·exact absurd (hr.heap.inj k hk1 q (hq1 ht2) i iq2 hi h5 _ hib h6) (hq ht2).2
   ·subst h5;exact absurd (hr.heap.inj k hk1 q (hq1 ht) i iq hi h3 _ hib h4) (hq ht).2
   ·rfl
 obtain⟨hal0,hget⟩:=ha.get;refine(hs.ok σ β0 w vals (hn.trans hal0) (fun j l0 hj=>?_) hH0).mono fun ex w' ⟨l,u,σ',β1,H',he,hRl,hrep,hH',hlat⟩=>?_
 ·obtain⟨l,h1,⟨rfl,rfl⟩|⟨m,ht,rfl,rfl⟩|⟨x,y,rfl,rfl,h2⟩⟩:=hget j l0 hj
  ·have h3:=hv j _ h1;generalize vals.getD j undef=v at h3;cases h3 with
   | ext _ _ ij _ hk hd=>
     rw[hi]at hk;cases hk;rcases hd with⟨h4,_⟩|⟨b',c',h4,h5,rfl⟩
     ·rw[hsb]at h4;cases h4
     ·rw[hsb]at h4;cases h4;have:=x9s (σ:=σ) (β:=β0) 1000 0 row.length ri 0 e0 (by simpa using hrl) (.inl (by simp));simpa using this
  ·have h3:=hv j _ h1;rcases h3.hdI with⟨h4,_,h5,h6⟩|⟨i3,o,h4,h5,h6,h7⟩
   ·subst h5;rw[h6];exact .hdn 1001 ((e1 ht).trans h4)
   ·rw[h7];exact .hd 1001 0 m i3 o ((e1 ht).trans h4) h5 h6
  ·have h3:=hv j _ h1;cases h3 with
   |p h3=>exact .p (h2 _ _ h3)
 ·obtain⟨c0,rfl,hS,rfl⟩:=hR l H' hRl;have p0:β1 1000=some ri:=(hlat.pin 1000 (by omega) (by omega)).trans e0;have p1:two=true->β1 1001=β q:=fun ht=>(hlat.pin 1001 (by omega) (by omega)).trans (e1 ht);have hother:∀b',b'<w.heap.size->¬owns β0 H0 b'->w'.heap[b']?=w.heap[b']?:=fun b' hb hn=>hlat.frm.block b' hb hn;have hstay:∀b',owns β0 H0 b'->σ' b'=none:=fun b' ho=>by
   rcases hown b' ho with rfl|⟨ht,iq,h1,h2⟩
   ·exact(hH'.apart 1000 (by simp) ri p0 _ ri.has_blk).1
   ·exact(hH'.apart 1001 (by rw[ht];simp) iq ((p1 ht).trans h1) b' h2).1
  have hnew:∀b',σ b'=none->b'<w.heap.size->σ' b'=none:=fun b' h1 h2=>by
   cases hq:σ' b' with
   |none=>rfl
   | some x=>
     rcases hlat.mem b' h1 (by rw[hq];simp)with h3|h3
     ·rw[hstay b' h3]at hq;cases hq
     ·omega
  have hfree:∀j∈s.H.map (·.1),(two=true->j≠q)->∀ij,β j=some ij->∀b',ij.has b'->(j=k->b'≠b)->w'.heap[b']?=w.heap[b']?:=fun j hj hjq ij hij b' hb hjb=>by
   refine hother b' (hr.heap.apart j hj ij hij b' hb).2 fun ho=>?_;rcases hown b' ho with rfl|⟨ht,iq,h1,h2⟩
   ·have:=hr.heap.inj j hj k hk1 ij i hij hi _ hb hib;exact hjb this rfl
   ·exact hjq ht (hr.heap.inj j hj q (hq1 ht) ij iq hij h1 b' hb h2)
  obtain⟨H2,h2,g3,g4,g5⟩:=JG hr.heap.nodup (h c0 hS);have hkq:two=true->k≠q:=fun ht=>(hq ht).2;have hheap:HRel σ' β H2 w':=by
   refine⟨hH'.mem,fun j d hj=>?_,by rw[g3];exact hr.heap.nodup,fun j hj ij hij b' hb=>?_,fun j hj j' hj'=>hr.heap.inj j (g3▸hj) j' (g3▸hj')⟩
   ·by_cases hjk:j=k
    ·subst hjk;rw[g5 d hj];have hblk:w'.heap[i.blk]?=w.heap[i.blk]?:=hfree _ hk1 hkq i hi i.blk i.has_blk fun _ he=>(hdis a b c hsb).1 he;refine .inr ⟨i,vs,hi,hisz,hblk.trans hh,hvs,by simpa using hle,hmax,by simpa using hsl,hdis,fun p x hx=>⟨fun hin=>by(cases hin),fun _=>?_⟩⟩;by_cases hp:p=a
     ·subst hp;rw[x5w hal]at hx;cases hx;rcases hH'.chunks 1000 _ x2r with⟨h6,_⟩|⟨i6,ws6,h6,h7,h8,h9,h10,h11,h12⟩
      ·rw[p0]at h6;cases h6
      ·rw[p0]at h6;cases h6;exact .inr ⟨b,c,ws6,hsb,by rw[hlen];exact hva,h8,h9,h10,h11,h12⟩
     ·rw[x5h (x6o hp)]at hx;rcases(hrows p x hx).2 (by simp)with h6|⟨b',c',ws',h6,h7,h8,h9,h10,h11,h12⟩
      ·exact .inl h6
      ·have hbb:b'≠b:=fun he=>hp ((hdis a b c hsb).2 p c' (he▸h6));refine .inr ⟨b',c',ws',h6,h7,(hfree _ hk1 hkq i hi b' (.inr ⟨c',x3k h6⟩) fun _=>hbb).trans h8,h9,h10,h11,fun m y hy=>⟨(h12 m y hy).1,fun j' c'' hj'=>?_⟩⟩;obtain⟨u',h13,h14⟩:=(h12 m y hy).2 j' c'' hj';exact⟨u',h13,h14.mono hlat.le⟩
    ·have hm:=g4 j d hj hjk;have hjl:j∈s.H.map (·.1):=x3q.2 ⟨_,hm,rfl⟩;by_cases hjq:two=true/\j=q
     ·obtain⟨ht,rfl⟩:=hjq;have hd:d=.own e3 sz3 es3:=by
       have:=QG (hq ht).1;exact SW hr.heap.nodup hm this
      subst hd;have hq':=hH'.chunks 1001 (.own e3 sz3 es3) (by rw[ht];simp);rcases hq' with⟨h6,h7⟩|⟨i6,rest⟩
      ·exact .inl ⟨(p1 ht).symm.trans h6,h7⟩
      ·exact .inr ⟨i6,by rw[<-p1 ht];exact rest⟩
     ·exact(hr.heap.chunks j d hm).mono hlat.le fun i' hi' b' hb=>hfree j hjl (fun ht he=>hjq ⟨ht,he⟩) i' hi' b' hb fun he=>absurd he hjk
   ·have:=hr.heap.apart j (g3▸hj) ij hij b' hb;exact⟨hnew b' this.1 this.2,x6a this.2 hlat.frm.size⟩
  have hr1:Rel N σ' β ⟨s.sl,H2⟩ ac w':=⟨hr.size,hr.defers,fun j=>(hr.slots j).mono hlat.le,hheap⟩;have hrep':RepL σ' β (.p c0) u:=by
   cases hrep with
   |p hrep=>exact .p hrep
  obtain⟨sl,hK,hr2⟩:=hr1.setD hrep' h2;refine⟨u,σ',β,_,he,hK,hr2,hlat.le,⟨hlat.frm.os,hlat.frm.tape,hlat.frm.output,hlat.frm.drawn,hlat.frm.size,fun b' hb hn=>hother b' hb fun ho=>hn (hownS b' ho)⟩,fun b' h1 h2=>(hlat.mem b' h1 h2).imp (hownS b') id,fun b' ⟨j,hj,r⟩=>.inl ⟨j,g3▸hj,r⟩,fun _ _ _=>rfl⟩
theorem K8{T:Tab}(hT:TabOK P T){x:Operand}(hop:o.op=.binOp .eql t x (.const (.slice none 0 0)) u){i:TyI}(ht:T.get t=some i){e:TypeId}(hd:i.desc=.slice e){es:List AV}(hx:QM s.sl x=.p (.sl es))(hK:∀b:Bool,(b=true->es=[])->K (.p (.bool b))):ValO P hr s o K:=by
 refine⟨fun σ β ac w hs _=>?_⟩;have h1:=QZ hs x;rw[hx]at h1;have hu:=hT.of ht;rw[hd]at hu;have hv:∃ad n c,ac.eval x=.slice ad n c/\(ad.isNone=true->es=[]):=by
  generalize ac.eval x=v at h1;cases h1 with
  | p h1=>
    cases h1 with
    |nilsl=>exact⟨none,0,0,rfl,fun _=>rfl⟩
    |slz b=>exact⟨some b,0,0,rfl,fun _=>rfl⟩
    |sl _ b off cap sz cells u hb hcap hmax hsz hc hrr=>exact⟨_,_,_,rfl,fun h=>(by cases h)⟩
 obtain⟨ad,n,c,hv,he⟩:=hv;refine⟨_,.bool ad.isNone,hK ad.isNone he,.p (.bool _),fun w' _ _=>?_⟩;have h2:ac.eval (.const (.slice none 0 0))=.slice none 0 0:=rfl;have hg:(eqGuard .eql t x (.const (.slice none 0 0)) (.slice ad n c) (.slice none 0 0)).run P w'=.ok () w':=by unfold eqGuard;rfl
 have he:(Op.equal t (.slice ad n c) (.slice none 0 0)).run P w'=.ok ad.isNone w':=by
  have e:Op.equal t (.slice ad n c) (.slice none 0 0)=Op.equalIn (9999+1) t (.slice ad n c) (.slice none 0 0):=rfl;rw[e,Op.equalIn,Sem.run_bind,run_underlying hu,Result.andThen_ok];cases ad<;>rfl
 simp only[execOp,hop,hv,h2,Sem.run_bind,hg,Result.andThen_ok,binOp];simp[he]
theorem TT{L:List Str}{es:List AV}{n:Nat}{nil:Prop}(q:Nat)(he:es=L.map .str)(h:n=L.length):OneRow (Hz L) nil (.hd q 0 n) [(q,.own 9 1 es)]:=by
 subst he;exact .inr ⟨q,_,_,_,by rw[h,x2m],rfl,TQ L,rfl,rfl,rfl⟩
theorem WZ(l:List Str)(hl:l.length<=1000000):SpecH prog 151 [.p (eStrs l)] [] (fun r H=>OneRow (Hz l) (l=[]) r H):=by
 refine sH YK func151 rfl call151 ?_;conv=>whnf
 repeat' (first|((first|refine x2t rfl ?_|refine aD ?_|refine K8 QY rfl rfl rfl rfl (fun q hq=>?_)|refine x9b (fun x hx=>by cases hx) rfl ?_|refine FP _ (by simp) (by simp;omega) ?_);conv=>whnf)|(apply bB<;>intro _<;>conv=>whnf))
 all_goals first
  |exact x7j _ (x3n _) (.inl ⟨rfl,rfl,x8b.1 (hq (by assumption))⟩)
  |exact x7j _ (x3n _) (TT 0 rfl (by simp))
inductive CutH:Heap->Heap->Prop
 |nil:CutH [] []
 |same {c:Nat×Chunk} {H H':Heap} (h:CutH H H'):CutH (c::H) (c::H')
 |cut {k:Nat} {e:TypeId} {sz:Nat} {es es':List AV} {H H':Heap} (hp:es' <+: es) (h:CutH H H'):CutH ((k,.own e sz es)::H) ((k,.own e sz es')::H')
theorem CutH.get{H H':Heap}(h:CutH H H'):H'.map (·.1)=H.map (·.1)/\∀j c',(j,c')∈H'->(j,c')∈H\/∃e sz es es',(j,Chunk.own e sz es)∈H/\c'=.own e sz es'/\es' <+: es:=by
 induction h with
 |nil=>exact⟨rfl,by simp⟩
 | same h ih=>
   refine⟨by simp[ih.1],fun j c' hj=>?_⟩;rcases x2i.1 hj with rfl|hj
   ·exact .inl x2r
   ·rcases ih.2 j c' hj with h1|⟨e,sz,es,es',h1,h2⟩
    ·exact .inl (x2c _ h1)
    ·exact .inr ⟨e,sz,es,es',x2c _ h1,h2⟩
 | @cut k e sz es es' H H' hp h ih=>
   refine⟨by simp[ih.1],fun j c' hj=>?_⟩;rcases x2i.1 hj with hj|hj
   ·cases hj;exact .inr ⟨e,sz,es,es',x2r,rfl,hp⟩
   ·rcases ih.2 j c' hj with h1|⟨e,sz,es,es',h1,h2⟩
    ·exact .inl (x2c _ h1)
    ·exact .inr ⟨e,sz,es,es',x2c _ h1,h2⟩
theorem Le.cut{N:Nat}{sl:List (Nat×LV)}{H H':Heap}(h:CutH H H'):Le N ⟨sl,H⟩ ⟨sl,H'⟩:=fun σ β a w hr=>by
 obtain⟨hk,hc⟩:=h.get;refine⟨σ,β,⟨hr.size,hr.defers,hr.slots,⟨hr.heap.mem,fun j c' hj=>?_,by show(H'.map (·.1)).Nodup;rw[hk];exact hr.heap.nodup,fun j hj=>hr.heap.apart j (by rw[<-hk];exact hj),fun j hj j' hj'=>hr.heap.inj j (by rw[<-hk];exact hj) j' (by rw[<-hk];exact hj')⟩⟩,Mem.le_refl σ,Frm.refl _ w,fun b h0 h1=>absurd h0 h1,fun b ⟨j,hj,r⟩=>.inl ⟨j,by rw[<-hk];exact hj,r⟩,fun _ _ _=>rfl⟩;rcases hc j c' hj with h1|⟨e,sz,es,es',h1,rfl,h2⟩
 ·exact hr.heap.chunks j c' h1
 ·rcases hr.heap.chunks j _ h1 with⟨h3,h4⟩|⟨i,vs,h3,h4,h5,h6,h7,h8,h9⟩
  ·refine .inl ⟨h3,?_⟩;rw[h4]at h2;exact List.prefix_nil.1 h2
  ·exact .inr ⟨i,vs,h3,h4,h5,h6,x4k h2.length_le h7,h8,fun m x hx=>h9 m x (by
    obtain⟨t,rfl⟩:=h2;rw[x4p (x2o.1 hx).1];exact hx)⟩
end Go.Ab
