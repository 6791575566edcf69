/- lex and tree: which names, which expressions may be. -/
import Derived.Test.YtonbdgcjnecapaaGreatInK6
import Derived.Test.YtonbdgcjnecapaaGreatInK7
set_option linter.all false
set_option maxRecDepth 100000
set_option maxHeartbeats 16000000
open List (map_take)
namespace Go.Ab
open Go.Proofs.Tryz
open Go.Proofs
variable {T i j:Nat}{nest seen:Int}
def JS(c:UInt8):Bool:=decide (97<=(c.toNat:Int))&&decide ((c.toNat:Int)<=122)
def Q5(c:UInt8):Bool:=decide (48<=(c.toNat:Int))&&decide ((c.toNat:Int)<=57)
def OG(c:UInt8):Bool:=JS c||Q5 c
def F9(c:UInt8):SpecP prog 197 [.int .u8 c.toNat] (fun r=>r=.bool (JS c)):=by
 refine sB N0 func197 rfl call197 ?_;conv=>whnf
 repeat' (apply bD<;>intro _<;>first|omega|conv=>whnf)
 .exact RetK.bool (by simp_all[JS];try omega)
 .exact RetK.ff (by simp_all[JS];try omega)
def EZ(c:UInt8):SpecP prog 251 [.int .u8 c.toNat] (fun r=>r=.bool (Q5 c)):=by
 refine sB Rg func251 rfl call251 ?_;conv=>whnf
 repeat' (apply bD<;>intro _<;>first|omega|conv=>whnf)
 .exact RetK.bool (by simp_all[Q5];try omega)
 .exact RetK.ff (by simp_all[Q5];try omega)
def KK(s:Str)(i:Nat):Nat:=i+((s.drop i).takeWhile OG).length
def ND{s:Str}(h:i<s.length)(k:OG s[i]=true):KK s (i+1)=KK s i:=by
 unfold KK;rw[QF h,List.takeWhile_cons,if_pos k];simp only[x7g];omega
def Z1{s:Str}(h:∀(k:i<s.length),OG s[i]=false):KK s i=i:=by
 unfold KK;by_cases k:i<s.length
 .rw [QF k,List.takeWhile_cons,if_neg (by simp[h k])];rfl
 .rw [x7v (by omega)];rfl
def q5w(s:Str)(i:Nat)(k:i<=s.length):SpecP prog 198 [.str s,.int .i64 i] (fun r=>r=.int .i64 (KK s i)):=by
 refine sB Az func198 rfl call198 ?_;conv=>whnf
 refine LoopK.inv QW (fun j:Nat=>⟨[(0,.p (.str s)),(1,.p (.int .i64 j))],[]⟩) (fun j=>j<=s.length/\KK s j=KK s i) (fun j=>s.length-j) i (Le.of_eq rfl) ⟨k,rfl⟩ ?_;rintro j ⟨l,h⟩;conv=>whnf
 repeat' (first|((first|(refine iM fun _=>?_)|refine cP (F9 _) ?_|refine cP (EZ _) ?_|(refine ByteK.at (by omega) ?_)|refine wI ?_);conv=>whnf)|(apply bD<;>intro _<;>first|omega|conv=>whnf)|(apply bB<;>intro _<;>conv=>whnf))
 .exact ⟨j+1,⟨by omega,by rw[ND (by omega) (by simp_all[OG])];exact h⟩,by omega,Le.of_eq rfl⟩
 .exact ⟨j+1,⟨by omega,by rw[ND (by omega) (by simp_all[OG])];exact h⟩,by omega,Le.of_eq rfl⟩
 .exact RetK.int (by rw[<-h,Z1 fun _=>by simp_all[OG]])
 .exact RetK.int (by rw[<-h,Z1 fun _=>by omega])
def U7(s:Str):Bool:=decide (s=[103,108,111,98,97,108])||decide (s=[112,114,111,99])||decide (s=[118,97,114])||decide (s=[114,101,102])||decide (s=[105,102])||decide (s=[101,108,115,101])||decide (s=[119,104,105,108,101])||decide (s=[98,114,101,97,107])||decide (s=[99,111,110,116,105,110,117,101])||decide (s=[114,101,116,117,114,110])||decide (s=[103,111,116,111])||decide (s=[114,101,97,100])||decide (s=[112,114,105,110,116])
def OA(s:Str):SpecP prog 199 [.str s] (fun r=>r=.bool (U7 s)):=by
 refine sB SL func199 rfl call199 ?_;conv=>whnf
 repeat' (apply bB<;>intro _<;>conv=>whnf)
 all_goals first
  |exact RetK.tt (by simp_all[U7])
  |exact RetK.ff (by simp_all[U7])
def isName(s:Str):Bool:=if h:1<=s.length/\s.length<=8 then JS (s[0]'(by omega))&&decide (KK s 0=s.length) && !U7 s else false
def Z0(s:Str):SpecP prog 128 [.str s] (fun r=>r=.bool (isName s)):=by
 refine sB SM func128 rfl call128 ?_;conv=>whnf
 repeat' (first|((first|(refine iM fun _=>?_)|refine cP (F9 _) ?_|refine cP (q5w _ 0 (x6t _)) ?_|refine cP (OA _) ?_|(refine ByteK.at (k:=0) (by omega) ?_));conv=>whnf)|(apply bD<;>intro _<;>first|omega|conv=>whnf)|(apply bN<;>intro _<;>conv=>whnf))
 .exact RetK.ff (by unfold isName;rw[dif_neg (by omega)])
 .exact RetK.ff (by unfold isName;rw[dif_neg (by omega)])
 .exact RetK.bool (by unfold isName;rw[dif_pos (by omega)];simp_all;omega)
 .exact RetK.ff (by unfold isName;rw[dif_pos (by omega)];simp_all;omega)
 .exact RetK.ff (by unfold isName;rw[dif_pos (by omega)];simp_all)
def namesB(l:List Str):Bool:=l.all isName
def Vg(l:List Str):SpecP prog 127 [eStrs l] (fun r=>r=.bool (namesB l)):=by
 refine sB N6 func127 rfl call127 ?_;conv=>whnf
 refine iM fun _=>?_;conv=>whnf
 refine LoopK.inv QW (fun j:Nat=>⟨[(5,.p (eStrs l)),(6,.p (.int .i64 (l.map AV.str).length)),(7,.p (.int .i64 j))],[]⟩) (fun j=>j<=l.length/\(l.drop j).all isName=namesB l) (fun j=>l.length-j) 0 (Le.of_eq rfl) ⟨x6t _,rfl⟩ ?_;rintro j ⟨k,h⟩;have m:(l.map AV.str).length=l.length:=x6j _;conv=>whnf
 repeat' (first|((first|refine cP (Z0 _) ?_|(refine iA fun _=>?_)|refine wI ?_);conv=>whnf)|(apply bD<;>intro _<;>first|omega|conv=>whnf)|(apply bN<;>intro _<;>conv=>whnf))
 .exact ⟨j+1,⟨by omega,by rw[GP (by omega) (by assumption)];exact h⟩,by omega,Le.of_eq rfl⟩
 .exact RetK.ff (by rw[<-h,Xy (by omega) (by assumption)])
 .exact RetK.tt (by rw[<-h,GB (by omega)])
def Xe(op:Int):Int:=if op=1\/op=2 then 0 else if op=3\/op=4 then 1 else if 5<=op/\op<=17 then 2 else -1
def IW(op:Int):SpecP prog 310 [.int .i64 op] (fun r=>r=.int .i64 (Xe op)):=by
 refine sB Rp func310 rfl call310 ?_;conv=>whnf
 repeat' (apply bD<;>intro _<;>first|omega|conv=>whnf)
 all_goals exact RetK.int (by unfold Xe;(repeat' split)<;>omega)
def WQ:Nat->X->Bool
 |0,_=>false
 |n+1,x=>decide ((x.kids.length:Int)=Xe x.op)&&(if x.op=1 then decide (0<=x.n)&&(x.name==[])else if x.op=2 then decide (x.n=0)&&isName x.name else decide (x.n=0)&&(x.name==[])&&x.kids.all (WQ n))
def IZ:∀(n:Nat)(_:n<=1000)(x:X),SpecP prog 280 [.agg x.cells,.int .i64 n] (fun r=>r=.bool (WQ n x)):=by
 intro n;induction n with
 | zero=>
   intro _ x;refine sB Yt func280 rfl call280 ?_;conv=>whnf
   repeat' (first|(refine dA ?_;conv=>whnf)|(apply bD<;>intro _<;>first|omega|conv=>whnf))
   exact RetK.ff rfl
 | succ n l=>
   intro q x;refine sB Yt func280 rfl call280 ?_;conv=>whnf
   repeat' (first|((first|(refine iM fun _=>?_)|refine cP (IW _) ?_|refine cP (Z0 _) ?_|refine dA ?_);conv=>whnf)|(apply bD<;>intro _<;>first|omega|conv=>whnf)|(apply bE<;>intro _<;>first|omega|conv=>whnf)|(apply bN<;>intro _<;>conv=>whnf))
   all_goals try (have o:((X.avs x.kids).length:Int)=x.kids.length:=by rw[X.avs_len])
   .exact RetK.bool (by simp_all[WQ])
   .exact RetK.ff (by simp_all[WQ];try omega)
   .exact RetK.bool (by simp_all[WQ])
   .exact RetK.ff (by simp_all[WQ];try omega)
   .have k:WQ (n+1) x=x.kids.all (WQ n):=by simp_all[WQ]
    rw[k];refine LoopK.inv QW (fun j:Nat=>⟨[(1,.p (.int .i64 (n+1:Nat))),(49,.p (.sl (X.avs x.kids))),(50,.p (.int .i64 (X.avs x.kids).length)),(51,.p (.int .i64 j))],[]⟩) (fun j=>j<=x.kids.length/\(x.kids.drop j).all (WQ n)=x.kids.all (WQ n)) (fun j=>x.kids.length-j) 0 (Le.of_eq rfl) ⟨x6t _,rfl⟩ ?_;rintro j ⟨m,h⟩;conv=>whnf
    repeat' (first|((first|refine x6d rfl ?_|refine IdxK.xs (by omega) ?_|refine wI ?_|(refine CallK.pure (l (by omega) _) (.cons (Sub.refl _) (.cons (Sub.int (by omega)) .nil)) ?_;rintro _ rfl));conv=>whnf)|(apply bD<;>intro _<;>first|omega|conv=>whnf)|(apply bN<;>intro _<;>conv=>whnf))
    .exact ⟨j+1,⟨by omega,by rw[GP (by omega) (by assumption)];exact h⟩,by omega,Le.of_eq rfl⟩
    .exact RetK.ff (by rw[<-h,Xy (by omega) (by assumption)])
    .exact RetK.tt (by rw[<-h,GB (by omega)])
   .exact RetK.ff (by simp_all[WQ];try omega)
   .exact RetK.ff (by simp_all[WQ];try omega)
   .exact RetK.ff (by simp_all[WQ];try omega)
def R5(x:X):Bool:=WQ 20 x
def GY(x:X):SpecP prog 222 [.agg x.cells] (fun r=>r=.bool (R5 x)):=by
 refine sB Gg func222 rfl call222 ?_;conv=>whnf
 repeat' (refine cP (IZ 20 (by omega) _) ?_;conv=>whnf)
 exact RetK.p rfl
def noneB(x:X):Bool:=decide (x.op=0)&&decide (x.n=0)&&(x.name==[])&&((x.kids.length:Int)==0)
def IV(x:X):SpecP prog 300 [.agg x.cells] (fun r=>r=.bool (noneB x)):=by
 refine sB Rn func300 rfl call300 ?_;conv=>whnf
 repeat' (first|(refine iM fun _=>?_;conv=>whnf)|(apply bD<;>intro _<;>first|omega|conv=>whnf)|(apply bB<;>intro _<;>conv=>whnf))
 all_goals have h:((X.avs x.kids).length:Int)=x.kids.length:=by rw[X.avs_len]
 all_goals first
  |exact RetK.ff (by simp_all[noneB])
  |exact RetK.bool (by simp_all[noneB])
def JP(s:Str)(h:Bool):Bool:=bif h then isName s else s==[]
def D1(s:Str)(h:Bool):SpecP prog 252 [.str s,.bool h] (fun r=>r=.bool (JP s h)):=by
 refine sB N5 func252 rfl call252 ?_;conv=>whnf
 repeat' (first|(refine cP (Z0 _) ?_;conv=>whnf)|(apply bN<;>intro _<;>conv=>whnf)|(apply bB<;>intro _<;>conv=>whnf))
 all_goals first
  |exact RetK.tt (by simp_all[JP])
  |exact RetK.ff (by simp_all[JP])
  |exact RetK.bool (by simp_all[JP])
def BQ(x:X)(h:Bool):Bool:=bif h then R5 x else noneB x
def D2(x:X)(h:Bool):SpecP prog 253 [.agg x.cells,.bool h] (fun r=>r=.bool (BQ x h)):=by
 refine sB N7 func253 rfl call253 ?_;conv=>whnf
 repeat' (first|((first|refine cP (GY _) ?_|refine cP (IV _) ?_);conv=>whnf)|(apply bN<;>intro _<;>conv=>whnf)|(apply bB<;>intro _<;>conv=>whnf))
 all_goals first
  |exact RetK.tt (by simp_all[BQ])
  |exact RetK.ff (by simp_all[BQ])
  |exact RetK.bool (by simp_all[BQ])
def Xc(a:Arg):Bool:=JP a.name a.ref&&BQ a.x (!a.ref)
def Tk(l:List Arg):SpecP prog 254 [AO l] (fun r=>r=.bool (l.all Xc)):=by
 refine sB Dy func254 rfl call254 ?_;conv=>whnf
 refine iM fun _=>?_;conv=>whnf
 refine LoopK.inv QW (fun j:Nat=>⟨[(5,.p (AO l)),(6,.p (.int .i64 (l.map fun a=>AV.agg a.cells).length)),(7,.p (.int .i64 j))],[]⟩) (fun j=>j<=l.length/\(l.drop j).all Xc=l.all Xc) (fun j=>l.length-j) 0 (Le.of_eq rfl) ⟨x6t _,rfl⟩ ?_;rintro j ⟨k,h⟩;have m:(l.map fun a=>AV.agg a.cells).length=l.length:=x6j _;conv=>whnf
 repeat' (first|((first|refine cP (D1 _ _) ?_|refine cP (D2 _ _) ?_|refine x6d rfl ?_|(refine iA fun _=>?_)|refine wI ?_);conv=>whnf)|(apply bD<;>intro _<;>first|omega|conv=>whnf)|(apply bN<;>intro _<;>conv=>whnf))
 .exact ⟨j+1,⟨by omega,by rw[GP (by omega) (by simp_all[Xc])];exact h⟩,by omega,Le.of_eq rfl⟩
 .exact RetK.ff (by rw[<-h,Xy (by omega) (by simp_all[Xc])])
 .exact RetK.ff (by rw[<-h,Xy (by omega) (by simp_all[Xc])])
 .exact RetK.tt (by rw[<-h,GB (by omega)])
structure Flds where
 name:Bool
 D:Bool
 x:Bool
 has:Bool
 I:Bool
 L:Bool
def Xt(k:Int)(has:Bool)(h:Bool):Option Flds:=
 if k=1 then some ⟨true,false,true,has,false,false⟩
 else if k=2 then some ⟨true,false,false,has,false,false⟩
 else if k=10 then some ⟨true,false,false,has,false,false⟩
 else if k=3 then some ⟨false,false,true,has,false,false⟩
 else if k=4 then some ⟨!h,true,false,has,false,false⟩
 else if k=5 then some ⟨false,false,true,has,true,true⟩
 else if k=6 then some ⟨false,false,true,has,true,false⟩
 else if k=9 then some ⟨false,false,has,false,false,false⟩
 else if k=7 then some ⟨false,false,false,has,false,false⟩
 else if k=8 then some ⟨false,false,false,has,false,false⟩
 else none
def VV(s:S):Bool:=
 match Xt s.kind s.has (s.name==[])with
 |none=>false
 |some f=> !(f.has||(!f.I&&decide (0<s.I.length))||(!f.L&&decide (0<s.L.length))||(!decide (s.kind=4)&&decide (0<s.args.length)))&&JP s.name f.name&&JP s.D f.D&&BQ s.x f.x&&s.args.all Xc
def Hd{s:S}{f:Flds}(h:Xt s.kind s.has (s.name==[])=some f):VV s=(!(f.has||(!f.I&&decide (0<s.I.length))||(!f.L&&decide (0<s.L.length))||(!decide (s.kind=4)&&decide (0<s.args.length)))&&JP s.name f.name&&JP s.D f.D&&BQ s.x f.x&&s.args.all Xc):=by
 unfold VV;rw[h]
def Tj(s:S):SpecP prog 200 [.agg s.cells] (fun r=>r=.bool (VV s)):=by
 refine sB Dv func200 rfl call200 ?_;conv=>whnf
 repeat' (first|((first|(refine iM fun _=>?_)|refine cP (D1 _ _) ?_|refine cP (D2 _ _) ?_|refine cP (Tk _) ?_|refine dA ?_);conv=>whnf)|(apply bD<;>intro _<;>first|omega|conv=>whnf)|(apply bE<;>intro _<;>first|omega|conv=>whnf)|(apply bN<;>intro _<;>conv=>whnf)|(apply bB<;>intro _<;>conv=>whnf))
 all_goals first
  |exact RetK.ff (by simp_all[VV,Xt,S.avs_len])
  |exact RetK.bool (by simp_all[VV,Xt,S.avs_len])
  |exact RetK.ff (by simp_all[VV,Xt,S.avs_len];omega)
mutual
def Ge(nest seen:Int):S->Option Int
 | .mk id kind F name D x has args I L=>
   if seen+1>200 then none else if id≠seen+1 then none else
   bif namesB F then bif VV (.mk id kind F name D x has args I L)then
    match UT (nest+1) (seen+1) I with
    |some m=>UT (nest+1) m L
    |none=>none
   else none else none
def UT(nest seen:Int):List S->Option Int
 |[]=>some seen
 | s::r=>if nest>12 then none else match Ge nest seen s with
   |some m=>UT nest m r
   |none=>none
end
def Iq(nest seen:Int)(s:S):Ge nest seen s=if seen+1>200 then none else if s.id≠seen+1 then none else
  bif namesB s.F then bif VV s then
   match UT (nest+1) (seen+1) s.I with
   |some m=>UT (nest+1) m s.L
   |none=>none
  else none else none:=by
 cases s;rw[Ge];rfl
mutual
theorem q6q(nest seen:Int):∀(s:S){m:Int},Ge nest seen s=some m->seen<m/\m<=200
 | .mk id kind F name D x has args I L,m,h=>by
   simp only[Ge]at h;split at h
   ·cases h
   split at h
   ·cases h
   cases hn:namesB F<;>rw[hn]at h
   ·cases h
   cases hf:VV (.mk id kind F name D x has args I L)<;>rw[hf]at h
   ·cases h
   simp only[x7z]at h;split at h
   ·rename_i m1 h1;have h2:=Kd (nest+1) (seen+1) I (by omega) h1;have h3:=Kd (nest+1) m1 L h2.2 h;omega
   ·cases h
theorem Kd(nest seen:Int):∀(l:List S){m:Int},seen<=200->UT nest seen l=some m->seen<=m/\m<=200
 | [],m,h0,h=>by
   simp only[UT]at h;cases h;omega
 | s::r,m,h0,h=>by
   simp only[UT]at h;split at h
   ·cases h
   split at h
   ·rename_i m1 h1;have h2:=q6q nest seen s h1;have h3:=Kd nest m1 r h2.2 h;omega
   ·cases h
end
def T5(T:Nat)(nest seen:Int)(l:List S)(r:LV)(H:Heap):Prop:=
 match UT nest seen l with
 |some m=>r=.p .tt/\H=[(1000,.obj T [.p (.int .i64 m)])]
 |none=>r=.p .ff/\∃m,H=[(1000,.obj T [.p (.int .i64 m)])]
def Fl{m:Int}{l:List S}(h:UT nest seen l=some m):RetHK [(1000,.obj T [.p (.int .i64 m)])] (.p .tt) (T5 T nest seen l):=
 ⟨.p .tt,.refl _,by unfold T5;rw[h];exact⟨rfl,rfl⟩⟩
def V9{m:Int}{l:List S}(h:UT nest seen l=none):RetHK [(1000,.obj T [.p (.int .i64 m)])] (.p .ff) (T5 T nest seen l):=
 ⟨.p .ff,.refl _,by unfold T5;rw[h];exact⟨rfl,_,rfl⟩⟩
def Kb{l:List S}{Q:LV->Heap->Prop}(q:seen<=200)(n:∀m,UT nest seen l=some m->seen<=m->m<=200->Q (.p .tt) [(1000,.obj T [.p (.int .i64 m)])])(o:UT nest seen l=none->∀m,Q (.p .ff) [(1000,.obj T [.p (.int .i64 m)])]):∀l' H',T5 T nest seen l l' H'->Q l' H':=by
 intro l' H' h;unfold T5 at h;cases k:UT nest seen l with
 | some m=>
   rw[k]at h;obtain⟨rfl,rfl⟩:=h;have:=Kd nest seen l q k;exact n m k this.1 this.2
 | none=>
   rw[k]at h;obtain⟨rfl,m,rfl⟩:=h;exact o k m
def Lw{l:List S}(h:nest>12)(k:0<l.length):UT nest seen l=none:=by
 cases l with
 |nil=>cases k
 |cons s r=>simp only[UT];rw[if_pos h]
def I9{l:List S}(h:¬nest>12)(k:j<l.length):UT nest seen (l.drop j)=match Ge nest seen l[j]with
  |some m=>UT nest m (l.drop (j+1))
  |none=>none:=by
 rw[QF k,UT,if_neg h]
def IU:∀(d n:Nat)(_:n+d=14)(l:List S)(seen:Int)(_:0<=seen)(_:seen<=200),
  SpecH prog 129 [.ptr 1000 0,.p (eSs l),.p (.int .i64 n)] [(1000,.obj 187 [.p (.int .i64 seen)])] (T5 187 n seen l):=by
 intro d;induction d with
 | zero=>
   intro n v l seen o q;refine sH GQ func129 rfl call129 ?_;conv=>whnf
   repeat' (first|(refine iM fun _=>?_;conv=>whnf)|(apply bD<;>intro _<;>first|omega|conv=>whnf))
   .exact V9 (Lw (by omega) (by rw[S.avs_len]at*;omega))
   .have u:=S.avs_len l;obtain rfl:l=[]:=x8a (by omega);refine LoopK.inv QW (fun _:Unit=>⟨[(0,.ptr 1000 0),(2,.p (.int .i64 n)),(16,.p (eSs [])),(17,.p (.int .i64 (S.avs []).length)),(18,.p (.int .i64 0))],[(1000,.obj 187 [.p (.int .i64 seen)])]⟩) (fun _=>True) (fun _=>0) () (Le.of_eq rfl) trivial ?_;intro _ _;conv=>whnf
    repeat' (apply bD<;>intro _<;>first|omega|conv=>whnf)
    exact Fl rfl
 | succ d w=>
   intro n v l seen o q;refine sH GQ func129 rfl call129 ?_;have u:=S.avs_len l;conv=>whnf
   repeat' (first|(refine iM fun _=>?_;conv=>whnf)|(apply bD<;>intro _<;>first|omega|conv=>whnf))
   .exact V9 (Lw (by omega) (by omega))
   all_goals
    refine LoopK.inv QW (fun i:Nat×Int=>⟨[(0,.ptr 1000 0),(2,.p (.int .i64 n)),(16,.p (eSs l)),(17,.p (.int .i64 (S.avs l).length)),(18,.p (.int .i64 i.1))],[(1000,.obj 187 [.p (.int .i64 i.2)])]⟩) (fun i=>i.1<=l.length/\0<=i.2/\i.2<=200/\UT n i.2 (l.drop i.1)=UT n seen l) (fun i=>l.length-i.1) (0,seen) (Le.of_eq rfl) ⟨x6t _,o,q,rfl⟩ ?_;rintro⟨j,m⟩ ⟨r,s,t,k⟩;simp only at r s t k⊢;conv=>whnf
    repeat' (first|((first|refine cP (Vg _) ?_|refine cP (Tj _) ?_|refine dA ?_|refine x6d rfl ?_|refine QI (by omega) ?_|refine wI ?_);conv=>whnf)|(apply bD<;>intro _<;>first|omega|conv=>whnf)|(apply bE<;>intro _<;>first|omega|conv=>whnf)|(apply bN<;>intro _<;>conv=>whnf)|(refine CallK.heap [(1000,1000)] 0 (by repeat' (first|exact x7h|refine x6i ?_ ?_|exact x6e _|exact x7q Sub.nils|exact x7q (Sub.tt rfl)|exact x7q (Sub.ff rfl)|exact x7q (Sub.int (by omega)))) (by refine x6y (j:=1000) rfl rfl ?_ ?_;exact CSub.refl _;exact x7f) (w (n+1) (by omega) _ _ (by omega) (by omega)) rfl rfl (Kb (by omega) (fun _ _ _ _=>?_) (fun _ _=>?_))<;>conv=>whnf))
    all_goals try (have h:=I9 (seen:=m) (l:=l) (j:=j) (nest:=(n:Int)) (by omega) (by omega);rw[Iq,show(n:Int)+1=((n+1:Nat):Int)from rfl]at h)
    all_goals first
     |exact Fl (by rw[<-k,x7v (by omega)];simp only[UT])
     |exact V9 (by rw[<-k,h];clear k h;first|rw[if_pos (by omega:m+1>200)]|(rw[if_neg (by omega:¬m+1>200)];simp[*,-Int.natCast_add]))
     |exact⟨(j+1,_),⟨by simp only;omega,by simp only;omega,by simp only;omega,by rw[<-k,h];clear k h;first|rw[if_pos (by omega:m+1>200)]|(rw[if_neg (by omega:¬m+1>200)];simp[*,-Int.natCast_add])⟩,by simp only;omega,Le.of_eq rfl⟩
def GM(f:Pr):Bool:=decide (f.C.length<=8)&&decide (f.E.length<=16)&&isName f.name&&namesB f.E&&namesB f.fin&&f.C.all fun a=>isName a.name
def ZZ(seen:Int):List Pr->Option Int
 |[]=>some seen
 | f::r=>bif GM f then match UT 1 seen f.body with
    |some m=>ZZ m r
    |none=>none
   else none
def YH(p:Pg):Bool:=decide (p.B.length<=16)&&decide (p.A.length<=16)&&namesB p.B&&(ZZ 0 p.A).isSome
def K5{l:List Pr}(h:j<l.length):ZZ seen (l.drop j)=bif GM l[j]then match UT 1 seen l[j].body with
   |some m=>ZZ m (l.drop (j+1))
   |none=>none
  else none:=by
 rw[QF h,ZZ]
def HM{f:Pr}:GM f=true↔f.C.length<=8/\f.E.length<=16/\isName f.name=true/\namesB f.E=true/\namesB f.fin=true/\(f.C.all fun a=>isName a.name)=true:=by
 simp only[GM,x7y,x7s,and_assoc]
def Jo{l:List Pr}(k:j<l.length)(h:¬(l[j].C.length<=8/\l[j].E.length<=16/\isName l[j].name=true/\namesB l[j].E=true/\namesB l[j].fin=true/\(l[j].C.all fun a=>isName a.name)=true)):(ZZ seen (l.drop j)).isSome=false:=by
 rw[K5 k];have:GM l[j]=false:=by rw[z2u];intro m;exact h (HM.1 m)
 rw[this];rfl
def Pw(p:Pg):SpecP prog 67 [.agg p.cells] (fun r=>r=.bool (YH p)):=by
 refine sB SR func67 rfl call67 ?_;conv=>whnf
 repeat' (first|((first|(refine iM fun _=>?_)|refine cP (Vg _) ?_|refine x6d rfl ?_);conv=>whnf)|(apply bD<;>intro _<;>first|omega|conv=>whnf)|(apply bN<;>intro _<;>conv=>whnf))
 all_goals try have z:(p.B.map AV.str).length=p.B.length:=x6j _
 all_goals try have b:(p.A.map fun f=>AV.agg f.cells).length=p.A.length:=x6j _
 .exact RetK.ff (by unfold YH;simp;omega)
 .exact RetK.ff (by unfold YH;simp;omega)
 .have v:YH p=(ZZ 0 p.A).isSome:=by unfold YH;simp[*];omega
  rw[v];refine LoopK.inv QW (fun i:Nat×Int=>⟨[(3,.ptr 0 0),(27,.p (.sl (p.A.map fun f=>AV.agg f.cells))),(28,.p (.int .i64 (p.A.map fun f=>AV.agg f.cells).length)),(29,.p (.int .i64 i.1))],[(0,.obj 187 [.p (.int .i64 i.2)])]⟩) (fun i=>i.1<=p.A.length/\0<=i.2/\i.2<=200/\ZZ i.2 (p.A.drop i.1)=ZZ 0 p.A) (fun i=>p.A.length-i.1) (0,0) (Le.of_eq rfl) ⟨x6t _,by decide,by decide,rfl⟩ ?_;rintro⟨j,m⟩ ⟨w,x,y,o⟩;simp only at w x y o⊢;conv=>whnf
  repeat' (first|((first|(refine iM fun _=>?_)|refine cP (Vg _) ?_|refine cP (Z0 _) ?_|refine x6d rfl ?_|(refine iA fun _=>?_));conv=>whnf)|(apply bD<;>intro _<;>first|omega|conv=>whnf)|(apply bN<;>intro _<;>conv=>whnf))
  all_goals try have c:((p.A[j]'(by omega)).C.map fun a=>AV.agg a.cells).length=(p.A[j]'(by omega)).C.length:=x6j _
  all_goals try have d:((p.A[j]'(by omega)).E.map AV.str).length=(p.A[j]'(by omega)).E.length:=x6j _
  rotate_left 2
  .have t:j<p.A.length:=by omega
   refine LoopK.inv QW (fun i:Nat=>⟨[(3,.ptr 0 0),(5,.p (.ip p.A[j].cells)),(27,.p (.sl (p.A.map fun f=>AV.agg f.cells))),(28,.p (.int .i64 (p.A.map fun f=>AV.agg f.cells).length)),(29,.p (.int .i64 j)),(62,.p (.sl (p.A[j].C.map fun a=>AV.agg a.cells))),(63,.p (.int .i64 (p.A[j].C.map fun a=>AV.agg a.cells).length)),(64,.p (.int .i64 i))],[(0,.obj 187 [.p (.int .i64 m)])]⟩) (fun i=>i<=p.A[j].C.length/\((p.A[j].C.drop i).all fun a=>isName a.name)=p.A[j].C.all fun a=>isName a.name) (fun i=>p.A[j].C.length-i) 0 (Le.of_eq rfl) ⟨x6t _,rfl⟩ ?_;rintro i ⟨g,s⟩;conv=>whnf
   repeat' (first|((first|refine cP (Z0 _) ?_|refine x6d rfl ?_|(refine iA fun _=>?_)|refine wI ?_);conv=>whnf)|(apply bD<;>intro _<;>first|omega|conv=>whnf)|(apply bN<;>intro _<;>conv=>whnf)|(refine CallK.heap [(1000,0)] 0 (by repeat' (first|exact x7h|refine x6i ?_ ?_|exact x6e _|exact x7q Sub.nils|exact x7q (Sub.tt rfl)|exact x7q (Sub.ff rfl)|exact x7q (Sub.int (by omega)))) (by refine x6y (j:=0) rfl rfl ?_ ?_;exact CSub.refl _;exact x7f) (IU 13 1 rfl _ _ (by omega) (by omega)) rfl rfl (Kb (by omega) (fun _ _ _ _=>?_) (fun _ _=>?_))<;>conv=>whnf))
   .exact ⟨i+1,⟨by omega,by rw[<-s,GP (p:=fun a:Param=>isName a.name) (by omega) (by assumption)]⟩,by omega,Le.of_eq rfl⟩
   .exact RetK.ff (by
     rw[<-o];refine Jo t fun h=>?_;have:=Xy (p:=fun a:Param=>isName a.name) (l:=p.A[j].C) (j:=i) (by omega) (by assumption);rw[s,h.2.2.2.2.2]at this;cases this)
   all_goals
    have q:(p.A[j].C.all fun a=>isName a.name)=true:=by rw[<-s,GB (by omega)]
    have e:GM p.A[j]=true:=HM.2 ⟨by omega,by omega,by assumption,by assumption,by assumption,q⟩;have n:=K5 (seen:=m) t;rw[e,x7z]at n
   .rename_i u k _ _;replace k:UT 1 m p.A[j].body=some u:=k;rw[k]at n;exact⟨(j+1,u),⟨by simp only;omega,by simp only;omega,by simp only;omega,by rw[<-o,n]⟩,by simp only;omega,Le.of_eq rfl⟩
   .rename_i k _;replace k:UT 1 m p.A[j].body=none:=k;rw[k]at n;exact RetK.ff (by rw[<-o,n];rfl)
  all_goals first
   |exact RetK.tt (by rw[<-o,x7v (by omega)];rfl)
   |exact RetK.ff (by rw[<-o];exact Jo (by omega) fun h=>by omega)
   |exact RetK.ff (by rw[<-o];exact Jo (by omega) fun h=>by simp_all)
 .exact RetK.ff (by unfold YH;simp[*])
def XU(l:List Str)(v:Str):SpecP prog 145 [eStrs l,.str v] (fun r=>r=.int .i64 (idxF (fun s=>v==s) l)):=by
 refine sB JU func145 rfl call145 ?_;conv=>whnf
 refine iM fun _=>?_;have n:(l.map AV.str).length=l.length:=x6j _;conv=>whnf
 refine LoopK.inv QW (fun j:Nat=>⟨[(0,.p (eStrs l)),(1,.p (.str v)),(7,.p (.int .i64 (l.map AV.str).length)),(8,.p (.int .i64 j))],[]⟩) (fun j=>j<=l.length/\(l.drop j).any (fun s=>v==s)=l.any (fun s=>v==s)/\l.findIdx (fun s=>v==s)=j+(l.drop j).findIdx (fun s=>v==s)) (fun j=>l.length-j) 0 (Le.of_eq rfl) ⟨x6t _,rfl,by simp⟩ ?_;rintro j ⟨m,h,k⟩;conv=>whnf
 repeat' (first|((first|(refine iA fun _=>?_)|refine wI ?_);conv=>whnf)|(apply bD<;>intro _<;>first|omega|conv=>whnf)|(apply bB<;>intro _<;>conv=>whnf))
 .exact RetK.int (Y9 (p:=fun s=>v==s) (by omega) (by assumption) h k).symm
 .exact ⟨j+1,⟨by omega,by rw[<-h,Ve (p:=fun s=>v==s) (by omega) (by assumption)],by rw[k,Ob (p:=fun s=>v==s) (by omega) (by assumption)];omega⟩,by omega,Le.of_eq rfl⟩
 .exact RetK.int (by rw[Bx];rw[<-h,BC (by omega)])
def QU(l:List Str)(v:Str):SpecP prog 130 [eStrs l,.str v] (fun r=>r=.bool (l.any fun s=>v==s)):=by
 refine sB US func130 rfl call130 ?_;conv=>whnf
 repeat' (refine cP (XU _ _) ?_;conv=>whnf)
 exact RetK.bool Ws
def XF(l:List Str):Bool:=(List.range l.length).any fun i=>(l.take i).any fun s=>l[i]?.getD []==s
def Qv(l:List Str):SpecP prog 146 [eStrs l] (fun r=>r=.bool (XF l)):=by
 refine sB Dx func146 rfl call146 ?_;conv=>whnf
 refine iM fun _=>?_;have o:(l.map AV.str).length=l.length:=x6j _;conv=>whnf
 refine LoopK.inv QW (fun j:Nat=>⟨[(0,.p (eStrs l)),(5,.p (eStrs l)),(6,.p (.int .i64 (l.map AV.str).length)),(7,.p (.int .i64 j))],[]⟩) (fun j=>j<=l.length/\((List.range l.length).drop j).any (fun i=>(l.take i).any fun s=>l[i]?.getD []==s)=XF l) (fun j=>l.length-j) 0 (Le.of_eq rfl) ⟨x6t _,rfl⟩ ?_;rintro j ⟨n,h⟩;conv=>whnf
 repeat' (first|((first|(refine iA fun _=>?_)|refine wI ?_|refine x6d (fun e m=>by obtain⟨x,_,rfl⟩:=x6r.1 m;rfl) (z2f 0 j rfl rfl (by omega) (by omega) ?_)|(refine CallK.pure (QU (l.take j) (l[j]'(by omega))) (.cons (Sub.of_eq (by simp[eStrs,map_take])) (.cons (Sub.refl _) .nil)) ?_;rintro _ rfl));conv=>whnf)|(apply bD<;>intro _<;>first|omega|conv=>whnf)|(apply bB<;>intro _<;>conv=>whnf))
 all_goals try have k:(List.range l.length)[j]'(by simp;omega)=j:=by simp
 all_goals try have e:l[j]?.getD []=l[j]'(by omega):=by rw[x6k (by omega)];rfl
 .exact RetK.tt (by rw[<-h,J2 (p:=fun i=>(l.take i).any fun s=>l[i]?.getD []==s) (by simp;omega) (by rw[k,e];assumption)])
 .exact ⟨j+1,⟨by omega,by rw[<-h,Ve (p:=fun i=>(l.take i).any fun s=>l[i]?.getD []==s) (by simp;omega) (by rw[k,e];assumption)]⟩,by omega,Le.of_eq rfl⟩
 .exact RetK.ff (by rw[<-h,BC (by simp;omega)])
def V5(f:Pr):List Str:=f.C.map Param.name++f.E
def Lu(f:Pr)(k:f.C.length<=1000)(l:f.E.length<=1000):SpecP prog 147 [.agg f.cells] (fun r=>r=eStrs (V5 f)):=by
 refine sB Rf func147 rfl call147 ?_;conv=>whnf
 refine iM fun _=>?_;have n:(f.C.map fun a=>AV.agg a.cells).length=f.C.length:=x6j _;conv=>whnf
 refine LoopK.inv QW (fun j:Nat=>⟨[(1,.p (.ip f.cells)),(3,.hd 0 0 j),(7,.p (.sl (f.C.map fun a=>AV.agg a.cells))),(8,.p (.int .i64 (f.C.map fun a=>AV.agg a.cells).length)),(9,.p (.int .i64 j))],[(0,.own 9 1 ((f.C.take j).map fun a=>AV.str a.name))]⟩) (fun j=>j<=f.C.length) (fun j=>f.C.length-j) 0
  (Le.mk [(0,.own 9 1 [])] (by simp[Chunk.new0];rfl) (by simp) (by simp) (.r (.cons (.nil x6g) (.r (.r (.r .nil))))) (.new x6g .nil)) (x6t _) ?_
 intro j m;conv=>whnf
 repeat' (first|((first|refine x6d rfl ?_|refine aD ?_|refine bP ?_|(refine iA fun _=>?_)|refine wI ?_|refine x8e (by simp;omega) rfl (by show(j+1)*16<=140737488355328;omega) (by show j+1<=9223372036854775807;omega) (fun x h=>by rcases x6p.1 h with rfl;exact⟨rfl,rfl⟩) ?_|refine x8e (by simp;omega) rfl (by rw[x6j];show(j+f.E.length)*16<=140737488355328;omega) (by rw[x6j];show j+f.E.length<=9223372036854775807;omega) (fun x h=>by obtain⟨y,_,rfl⟩:=x6r.1 h;exact⟨rfl,rfl⟩) ?_);conv=>whnf)|(apply bD<;>intro _<;>first|omega|conv=>whnf))
 .exact ⟨j+1,by omega,by omega,Le.of_eq (by rw[q1k (by omega)];rfl)⟩
 .refine ⟨_,.hd rfl (by simp;omega),?_⟩;rw[x7w (by omega)];simp[eStrs,V5]
mutual
def XT:S->Nat
 |.mk _ _ _ _ _ _ _ _ I L=>1+cntL I+cntL L
def cntL:List S->Nat
 |[]=>0
 |s::r=>XT s+cntL r
end
def WB(s:S):XT s=1+cntL s.I+cntL s.L:=by
 cases s;rw[XT];rfl
def Xg{l:List S}(h:j<l.length):cntL (l.drop j)=XT l[j]+cntL (l.drop (j+1)):=by
 rw[QF h,cntL]
def TU{l:List S}(h:l.length<=j):cntL (l.drop j)=0:=by
 rw[x7v h,cntL]
def E8:∀(n:Nat)(_:n<=100000)(s:S)(_:XT s<=n),SpecP prog 206 [.agg s.cells] (fun r=>r=.int .i64 (XT s)):=by
 intro n;induction n with
 |zero=>intro _ s h;rw[WB]at h;omega
 | succ n w=>
   intro f s h;have g:=WB s;have c:=S.avs_len s.I;have d:=S.avs_len s.L;refine sB Ru func206 rfl call206 ?_;conv=>whnf
   repeat' (refine iM fun _=>?_;conv=>whnf)
   refine LoopK.inv QW (fun i:Nat×Nat=>⟨[(1,.p (.ip s.cells)),(3,.p (.int .i64 i.2)),(9,.p (eSs s.I)),(10,.p (.int .i64 (S.avs s.I).length)),(11,.p (.int .i64 i.1))],[]⟩) (fun i=>i.1<=s.I.length/\1<=i.2/\i.2+cntL (s.I.drop i.1)=1+cntL s.I) (fun i=>s.I.length-i.1) (0,1) (Le.of_eq rfl) ⟨x6t _,x7u _,rfl⟩ ?_;rintro⟨j,a⟩ ⟨x,q,o⟩;simp only at x o q⊢;have m:∀u:j<s.I.length,cntL (s.I.drop j)=XT s.I[j]+cntL (s.I.drop (j+1)):=fun u=>Xg u;conv=>whnf
   repeat' (first|((first|(refine iM fun _=>?_)|refine x6d rfl ?_|refine QI (by omega) ?_|refine wI ?_|(refine CallK.pure (w (by omega) (s.I[j]'(by omega)) (by have:=m (by omega);omega)) (.cons (Sub.refl _) .nil) ?_;rintro _ rfl;have m:=m (by omega)));conv=>whnf)|(apply bD<;>intro _<;>first|omega|conv=>whnf))
   .exact ⟨(j+1,a+XT s.I[j]),⟨by simp only;omega,by simp only;omega,by simp only;omega⟩,by simp only;omega,Le.of_eq rfl⟩
   .have e:a=1+cntL s.I:=by rw[TU (by omega)]at o;omega
    refine LoopK.inv QW (fun i:Nat×Nat=>⟨[(3,.p (.int .i64 i.2)),(21,.p (eSs s.L)),(22,.p (.int .i64 (S.avs s.L).length)),(23,.p (.int .i64 i.1))],[]⟩) (fun i=>i.1<=s.L.length/\1<=i.2/\i.2+cntL (s.L.drop i.1)=XT s) (fun i=>s.L.length-i.1) (0,a) (Le.of_eq rfl) ⟨x6t _,q,by simp only[List.drop_zero];omega⟩ ?_;rintro⟨k,b⟩ ⟨y,z,t⟩;simp only at y z t⊢;have l:∀v:k<s.L.length,cntL (s.L.drop k)=XT s.L[k]+cntL (s.L.drop (k+1)):=fun v=>Xg v;conv=>whnf
    repeat' (first|((first|refine x6d rfl ?_|refine QI (by omega) ?_|refine wI ?_|(refine CallK.pure (w (by omega) (s.L[k]'(by omega)) (by have:=l (by omega);omega)) (.cons (Sub.refl _) .nil) ?_;rintro _ rfl;have l:=l (by omega)));conv=>whnf)|(apply bD<;>intro _<;>first|omega|conv=>whnf))
    .exact ⟨(k+1,b+XT s.L[k]),⟨by simp only;omega,by simp only;omega,by simp only;omega⟩,by simp only;omega,Le.of_eq rfl⟩
    .exact RetK.int (by rw[TU (by omega)]at t;omega)
structure Item where
 s:S
 D:Int
 up:Int
 next:Int
 loop:Int
def Item.cells(i:Item):List AV:=i.s.cells++[.int .i64 i.D,.int .i64 i.up,.int .i64 i.next,.int .i64 i.loop]
mutual
def Yk(D up nx loop:Int)(acc:List Item):S->List Item
 | .mk id kind F name pr x has args I L=>
   XN D (acc.length+1) (if kind=6 then acc.length+1 else nx) (if kind=6 then acc.length+1 else loop)
    (XN D (acc.length+1) (if kind=6 then acc.length+1 else nx) (if kind=6 then acc.length+1 else loop) (acc++[⟨.mk id kind F name pr x has args I L,D,up,nx,loop⟩]) I) L
def XN(D up nx loop:Int)(acc:List Item):List S->List Item
 |[]=>acc
 |t::r=>XN D up nx loop (Yk D up (if r.isEmpty then nx else acc.length+1+XT t) loop acc t) r
end
def PR(D m l k:Int)(h:List Item)(t:S):Yk D m l k h t=XN D (h.length+1) (if t.kind=6 then h.length+1 else l) (if t.kind=6 then h.length+1 else k)
   (XN D (h.length+1) (if t.kind=6 then h.length+1 else l) (if t.kind=6 then h.length+1 else k) (h++[⟨t,D,m,l,k⟩]) t.I) t.L:=by
 cases t;rw[Yk];rfl
mutual
theorem ZH(D up nx loop:Int)(acc:List Item):∀t:S,(Yk D up nx loop acc t).length=acc.length+XT t
 | .mk id kind F name pr x has args I L=>by
   rw[Yk,XT,XK _ _ _ _ _ L,XK _ _ _ _ _ I];simp;omega
theorem XK(D up nx loop:Int)(acc:List Item):∀l:List S,(XN D up nx loop acc l).length=acc.length+cntL l
 |[]=>by rw[XN,cntL];rfl
 | t::r=>by
   rw[XN,cntL,XK _ _ _ _ _ r,ZH _ _ _ _ _ t];omega
end
def UV{D o n k:Int}{m:List Item}{l:List S}(q:j<l.length):
  XN D o n k m (l.drop j)=XN D o n k (Yk D o (if j+1<l.length then m.length+1+XT l[j]else n) k m l[j]) (l.drop (j+1)):=by
 rw[QF q,XN];congr 2;by_cases h:j+1<l.length
 .rw [if_pos h,if_neg];simp only[List.isEmpty_iff];intro p;have:=x8m List.length p;simp at this;omega
 .rw [if_neg h,if_pos];rw[x7v (by omega)];rfl
def Iu(n tI l:Nat)(m pr:AV)(L:List Item)(k h:List Int):Heap:=
 [(1000,.obj n [.p m,.p pr,.hd 2000 0 L.length,.hd 2001 0 k.length,.hd 2002 0 h.length]),(2000,.own tI 17 (L.map fun i=>.agg i.cells)),(2001,.own l 1 (k.map (.int .i64))),(2002,.own l 1 (h.map (.int .i64)))]
def X0:X:=.mk 0 0 [] []
def S0:S:=.mk 0 0 [] [] [] X0 false [] [] []
theorem LSub.agg{cs l:List AV}(h:SubL cs l):LSub (.p (.agg cs)) (.p (.agg l)):=.p (Sub.agg h)
def TF:∀(n:Nat)(_:n<=1000)(l:List S)(_:cntL l<n)(u:List Item)(_:u.length+cntL l<=1000)(a:Item)(q pr:AV)(t s:List Int),
  SpecH prog 134 [.ptr 1000 0,.p (eSs l),.p (.agg a.cells)] (Iu 133 130 3 q pr u t s)
   (fun r H=>r=.p (.tup [])/\H=Iu 133 130 3 q pr (XN a.D a.up a.next a.loop u l) t s):=by
 intro n;induction n with
 |zero=>intro _ l h;omega
 | succ n v=>
   intro B l A u z a q pr t s;have f:=S.avs_len l;refine sH Uy func134 rfl call134 ?_;conv=>whnf
   repeat' (refine iM fun _=>?_;conv=>whnf)
   refine LoopK.inv QW (fun i:Nat×List Item=>⟨[(0,.ptr 1000 0),(1,.p (eSs l)),(5,.p (.ip a.cells)),(11,.p (eSs l)),(12,.p (.int .i64 (S.avs l).length)),(13,.p (.int .i64 i.1))],Iu 133 130 3 q pr i.2 t s⟩) (fun i=>i.1<=l.length/\u.length<=i.2.length/\i.2.length+cntL (l.drop i.1)=u.length+cntL l/\XN a.D a.up a.next a.loop i.2 (l.drop i.1)=XN a.D a.up a.next a.loop u l) (fun i=>l.length-i.1) (0,u) (Le.of_eq rfl) ⟨x6t _,x7u _,rfl,rfl⟩ ?_;rintro⟨j,b⟩ ⟨c,e,d,y⟩;simp only at c d y e⊢;have o:∀k:j<l.length,cntL (l.drop j)=XT l[j]+cntL (l.drop (j+1)):=fun k=>Xg k;conv=>whnf
   repeat' (first|((first|(refine iM fun _=>?_)|refine dA ?_|refine x6d rfl ?_|refine aD ?_|refine bP ?_|refine QI (by omega) ?_|refine wI ?_|(refine CallK.pure (E8 1000 (by omega) (l[j]'(by omega)) (by have:=o (by omega);omega)) (.cons (Sub.refl _) .nil) ?_;rintro _ rfl)|refine Wr.i64 (by have:=o (by omega);omega) (by have:=o (by omega);omega) ?_|refine x8e (by simp) rfl (by show(b.length+1)*240<=140737488355328;have:=o (by omega);omega) (by show b.length+1<=9223372036854775807;have:=o (by omega);omega) (fun x g=>by rcases x6p.1 g with rfl;exact⟨rfl,rfl⟩) ?_);conv=>whnf)|(apply bD<;>intro _<;>first|omega|conv=>whnf)|(refine x6d ?_ ?_<;>conv=>whnf))
   .have k:j<l.length:=by omega
    have o:=o k;have w:=WB l[j];refine CallK.heap [(1000,1000),(2000,2000),(2001,2001),(2002,2002)] 0 (by refine x6i (x6e _) (x6i (x6e _) (x6i (LSub.agg ?_) x7h));repeat' (first|exact SubL.nil|refine SubL.cons ?_ ?_|exact Sub.refl _|exact Sub.nils|exact Sub.ff rfl)) (by exact x6y (j:=1000) rfl rfl (CSub.of_eq (by rw[x6f];first|done|rfl)) (x6y (j:=2000) rfl rfl (CSub.of_eq (by rw[x6l];first|done|rfl)) (x6y (j:=2001) rfl rfl (CSub.refl _) (x6y (j:=2002) rfl rfl (CSub.refl _) x7f)))) (v (by omega) l[j].I (by omega) (b++[⟨l[j]'k,a.D,a.up,(b.length+1+XT (l[j]'k):Int),a.loop⟩]) (by rw[x6f];simp only[x7r];omega) ⟨S0,a.D,b.length+1,(b.length+1:Int),(b.length+1:Int)⟩ q pr t s) rfl rfl ?_;rintro l' H' ⟨rfl,rfl⟩;conv=>whnf
    refine CallK.heap [(1000,1000),(2000,2000),(2001,2001),(2002,2002)] 0 (by refine x6i (x6e _) (x6i (x6e _) (x6i (LSub.agg ?_) x7h));repeat' (first|exact SubL.nil|refine SubL.cons ?_ ?_|exact Sub.refl _|exact Sub.nils|exact Sub.ff rfl)) (by exact x6y (j:=1000) rfl rfl (CSub.refl _) (x6y (j:=2000) rfl rfl (CSub.refl _) (x6y (j:=2001) rfl rfl (CSub.refl _) (x6y (j:=2002) rfl rfl (CSub.refl _) x7f)))) (v (by omega) l[j].L (by omega) (XN a.D (b.length+1) (b.length+1:Int) (b.length+1:Int) (b++[⟨l[j]'k,a.D,a.up,(b.length+1+XT (l[j]'k):Int),a.loop⟩]) (l[j]'k).I) (by rw[XK,x6f];simp only[x7r];omega) ⟨S0,a.D,b.length+1,(b.length+1:Int),(b.length+1:Int)⟩ q pr t s) rfl rfl ?_;rintro l' H' ⟨rfl,rfl⟩;conv=>whnf
    refine wI ?_;conv=>whnf
    have m:Yk a.D a.up (b.length+1+XT (l[j]'k):Int) a.loop b l[j]=XN a.D (b.length+1) (b.length+1:Int) (b.length+1:Int) (XN a.D (b.length+1) (b.length+1:Int) (b.length+1:Int) (b++[⟨l[j]'k,a.D,a.up,(b.length+1+XT (l[j]'k):Int),a.loop⟩]) (l[j]'k).I) l[j].L:=by
     rw[PR,if_pos (by assumption),if_pos (by assumption)]
    exact⟨(j+1,Yk a.D a.up (b.length+1+XT (l[j]'k):Int) a.loop b l[j]),⟨by simp only;omega,by simp only;rw[ZH];omega,by simp only;rw[ZH];omega,by simp only;rw[<-y,UV k,if_pos (by omega)]⟩,by simp only;omega,Le.of_eq (by simp only;rw[m];rfl)⟩
   .have k:j<l.length:=by omega
    have o:=o k;have w:=WB l[j];refine CallK.heap [(1000,1000),(2000,2000),(2001,2001),(2002,2002)] 0 (by refine x6i (x6e _) (x6i (x6e _) (x6i (LSub.agg ?_) x7h));repeat' (first|exact SubL.nil|refine SubL.cons ?_ ?_|exact Sub.refl _|exact Sub.nils|exact Sub.ff rfl)) (by exact x6y (j:=1000) rfl rfl (CSub.of_eq (by rw[x6f];first|done|rfl)) (x6y (j:=2000) rfl rfl (CSub.of_eq (by rw[x6l];first|done|rfl)) (x6y (j:=2001) rfl rfl (CSub.refl _) (x6y (j:=2002) rfl rfl (CSub.refl _) x7f)))) (v (by omega) l[j].I (by omega) (b++[⟨l[j]'k,a.D,a.up,(b.length+1+XT (l[j]'k):Int),a.loop⟩]) (by rw[x6f];simp only[x7r];omega) ⟨S0,a.D,b.length+1,(b.length+1+XT (l[j]'k):Int),a.loop⟩ q pr t s) rfl rfl ?_;rintro l' H' ⟨rfl,rfl⟩;conv=>whnf
    refine CallK.heap [(1000,1000),(2000,2000),(2001,2001),(2002,2002)] 0 (by refine x6i (x6e _) (x6i (x6e _) (x6i (LSub.agg ?_) x7h));repeat' (first|exact SubL.nil|refine SubL.cons ?_ ?_|exact Sub.refl _|exact Sub.nils|exact Sub.ff rfl)) (by exact x6y (j:=1000) rfl rfl (CSub.refl _) (x6y (j:=2000) rfl rfl (CSub.refl _) (x6y (j:=2001) rfl rfl (CSub.refl _) (x6y (j:=2002) rfl rfl (CSub.refl _) x7f)))) (v (by omega) l[j].L (by omega) (XN a.D (b.length+1) (b.length+1+XT (l[j]'k):Int) a.loop (b++[⟨l[j]'k,a.D,a.up,(b.length+1+XT (l[j]'k):Int),a.loop⟩]) (l[j]'k).I) (by rw[XK,x6f];simp only[x7r];omega) ⟨S0,a.D,b.length+1,(b.length+1+XT (l[j]'k):Int),a.loop⟩ q pr t s) rfl rfl ?_;rintro l' H' ⟨rfl,rfl⟩;conv=>whnf
    refine wI ?_;conv=>whnf
    have m:Yk a.D a.up (b.length+1+XT (l[j]'k):Int) a.loop b l[j]=XN a.D (b.length+1) (b.length+1+XT (l[j]'k):Int) a.loop (XN a.D (b.length+1) (b.length+1+XT (l[j]'k):Int) a.loop (b++[⟨l[j]'k,a.D,a.up,(b.length+1+XT (l[j]'k):Int),a.loop⟩]) (l[j]'k).I) l[j].L:=by
     rw[PR,if_neg (by assumption),if_neg (by assumption)]
    exact⟨(j+1,Yk a.D a.up (b.length+1+XT (l[j]'k):Int) a.loop b l[j]),⟨by simp only;omega,by simp only;rw[ZH];omega,by simp only;rw[ZH];omega,by simp only;rw[<-y,UV k,if_pos (by omega)]⟩,by simp only;omega,Le.of_eq (by simp only;rw[m];rfl)⟩
   .have k:j<l.length:=by omega
    have o:=o k;have w:=WB l[j];refine CallK.heap [(1000,1000),(2000,2000),(2001,2001),(2002,2002)] 0 (by refine x6i (x6e _) (x6i (x6e _) (x6i (LSub.agg ?_) x7h));repeat' (first|exact SubL.nil|refine SubL.cons ?_ ?_|exact Sub.refl _|exact Sub.nils|exact Sub.ff rfl)) (by exact x6y (j:=1000) rfl rfl (CSub.of_eq (by rw[x6f];first|done|rfl)) (x6y (j:=2000) rfl rfl (CSub.of_eq (by rw[x6l];first|done|rfl)) (x6y (j:=2001) rfl rfl (CSub.refl _) (x6y (j:=2002) rfl rfl (CSub.refl _) x7f)))) (v (by omega) l[j].I (by omega) (b++[⟨l[j]'k,a.D,a.up,(b.length+1+XT (l[j]'k):Int),a.loop⟩]) (by rw[x6f];simp only[x7r];omega) ⟨S0,a.D,b.length+1,(b.length+1:Int),(b.length+1:Int)⟩ q pr t s) rfl rfl ?_;rintro l' H' ⟨rfl,rfl⟩;conv=>whnf
    refine CallK.heap [(1000,1000),(2000,2000),(2001,2001),(2002,2002)] 0 (by refine x6i (x6e _) (x6i (x6e _) (x6i (LSub.agg ?_) x7h));repeat' (first|exact SubL.nil|refine SubL.cons ?_ ?_|exact Sub.refl _|exact Sub.nils|exact Sub.ff rfl)) (by exact x6y (j:=1000) rfl rfl (CSub.refl _) (x6y (j:=2000) rfl rfl (CSub.refl _) (x6y (j:=2001) rfl rfl (CSub.refl _) (x6y (j:=2002) rfl rfl (CSub.refl _) x7f)))) (v (by omega) l[j].L (by omega) (XN a.D (b.length+1) (b.length+1:Int) (b.length+1:Int) (b++[⟨l[j]'k,a.D,a.up,(b.length+1+XT (l[j]'k):Int),a.loop⟩]) (l[j]'k).I) (by rw[XK,x6f];simp only[x7r];omega) ⟨S0,a.D,b.length+1,(b.length+1:Int),(b.length+1:Int)⟩ q pr t s) rfl rfl ?_;rintro l' H' ⟨rfl,rfl⟩;conv=>whnf
    refine wI ?_;conv=>whnf
    have m:Yk a.D a.up (b.length+1+XT (l[j]'k):Int) a.loop b l[j]=XN a.D (b.length+1) (b.length+1:Int) (b.length+1:Int) (XN a.D (b.length+1) (b.length+1:Int) (b.length+1:Int) (b++[⟨l[j]'k,a.D,a.up,(b.length+1+XT (l[j]'k):Int),a.loop⟩]) (l[j]'k).I) l[j].L:=by
     rw[PR,if_pos (by assumption),if_pos (by assumption)]
    exact⟨(j+1,Yk a.D a.up (b.length+1+XT (l[j]'k):Int) a.loop b l[j]),⟨by simp only;omega,by simp only;rw[ZH];omega,by simp only;rw[ZH];omega,by simp only;rw[<-y,UV k,if_pos (by omega)]⟩,by simp only;omega,Le.of_eq (by simp only;rw[m];rfl)⟩
   .have k:j<l.length:=by omega
    have o:=o k;have w:=WB l[j];refine CallK.heap [(1000,1000),(2000,2000),(2001,2001),(2002,2002)] 0 (by refine x6i (x6e _) (x6i (x6e _) (x6i (LSub.agg ?_) x7h));repeat' (first|exact SubL.nil|refine SubL.cons ?_ ?_|exact Sub.refl _|exact Sub.nils|exact Sub.ff rfl)) (by exact x6y (j:=1000) rfl rfl (CSub.of_eq (by rw[x6f];first|done|rfl)) (x6y (j:=2000) rfl rfl (CSub.of_eq (by rw[x6l];first|done|rfl)) (x6y (j:=2001) rfl rfl (CSub.refl _) (x6y (j:=2002) rfl rfl (CSub.refl _) x7f)))) (v (by omega) l[j].I (by omega) (b++[⟨l[j]'k,a.D,a.up,(b.length+1+XT (l[j]'k):Int),a.loop⟩]) (by rw[x6f];simp only[x7r];omega) ⟨S0,a.D,b.length+1,(b.length+1+XT (l[j]'k):Int),a.loop⟩ q pr t s) rfl rfl ?_;rintro l' H' ⟨rfl,rfl⟩;conv=>whnf
    refine CallK.heap [(1000,1000),(2000,2000),(2001,2001),(2002,2002)] 0 (by refine x6i (x6e _) (x6i (x6e _) (x6i (LSub.agg ?_) x7h));repeat' (first|exact SubL.nil|refine SubL.cons ?_ ?_|exact Sub.refl _|exact Sub.nils|exact Sub.ff rfl)) (by exact x6y (j:=1000) rfl rfl (CSub.refl _) (x6y (j:=2000) rfl rfl (CSub.refl _) (x6y (j:=2001) rfl rfl (CSub.refl _) (x6y (j:=2002) rfl rfl (CSub.refl _) x7f)))) (v (by omega) l[j].L (by omega) (XN a.D (b.length+1) (b.length+1+XT (l[j]'k):Int) a.loop (b++[⟨l[j]'k,a.D,a.up,(b.length+1+XT (l[j]'k):Int),a.loop⟩]) (l[j]'k).I) (by rw[XK,x6f];simp only[x7r];omega) ⟨S0,a.D,b.length+1,(b.length+1+XT (l[j]'k):Int),a.loop⟩ q pr t s) rfl rfl ?_;rintro l' H' ⟨rfl,rfl⟩;conv=>whnf
    refine wI ?_;conv=>whnf
    have m:Yk a.D a.up (b.length+1+XT (l[j]'k):Int) a.loop b l[j]=XN a.D (b.length+1) (b.length+1+XT (l[j]'k):Int) a.loop (XN a.D (b.length+1) (b.length+1+XT (l[j]'k):Int) a.loop (b++[⟨l[j]'k,a.D,a.up,(b.length+1+XT (l[j]'k):Int),a.loop⟩]) (l[j]'k).I) l[j].L:=by
     rw[PR,if_neg (by assumption),if_neg (by assumption)]
    exact⟨(j+1,Yk a.D a.up (b.length+1+XT (l[j]'k):Int) a.loop b l[j]),⟨by simp only;omega,by simp only;rw[ZH];omega,by simp only;rw[ZH];omega,by simp only;rw[<-y,UV k,if_pos (by omega)]⟩,by simp only;omega,Le.of_eq (by simp only;rw[m];rfl)⟩
   .have k:j<l.length:=by omega
    have o:=o k;have w:=WB l[j];refine CallK.heap [(1000,1000),(2000,2000),(2001,2001),(2002,2002)] 0 (by refine x6i (x6e _) (x6i (x6e _) (x6i (LSub.agg ?_) x7h));repeat' (first|exact SubL.nil|refine SubL.cons ?_ ?_|exact Sub.refl _|exact Sub.nils|exact Sub.ff rfl)) (by exact x6y (j:=1000) rfl rfl (CSub.of_eq (by rw[x6f];first|done|rfl)) (x6y (j:=2000) rfl rfl (CSub.of_eq (by rw[x6l];first|done|rfl)) (x6y (j:=2001) rfl rfl (CSub.refl _) (x6y (j:=2002) rfl rfl (CSub.refl _) x7f)))) (v (by omega) l[j].I (by omega) (b++[⟨l[j]'k,a.D,a.up,a.next,a.loop⟩]) (by rw[x6f];simp only[x7r];omega) ⟨S0,a.D,b.length+1,(b.length+1:Int),(b.length+1:Int)⟩ q pr t s) rfl rfl ?_;rintro l' H' ⟨rfl,rfl⟩;conv=>whnf
    refine CallK.heap [(1000,1000),(2000,2000),(2001,2001),(2002,2002)] 0 (by refine x6i (x6e _) (x6i (x6e _) (x6i (LSub.agg ?_) x7h));repeat' (first|exact SubL.nil|refine SubL.cons ?_ ?_|exact Sub.refl _|exact Sub.nils|exact Sub.ff rfl)) (by exact x6y (j:=1000) rfl rfl (CSub.refl _) (x6y (j:=2000) rfl rfl (CSub.refl _) (x6y (j:=2001) rfl rfl (CSub.refl _) (x6y (j:=2002) rfl rfl (CSub.refl _) x7f)))) (v (by omega) l[j].L (by omega) (XN a.D (b.length+1) (b.length+1:Int) (b.length+1:Int) (b++[⟨l[j]'k,a.D,a.up,a.next,a.loop⟩]) (l[j]'k).I) (by rw[XK,x6f];simp only[x7r];omega) ⟨S0,a.D,b.length+1,(b.length+1:Int),(b.length+1:Int)⟩ q pr t s) rfl rfl ?_;rintro l' H' ⟨rfl,rfl⟩;conv=>whnf
    refine wI ?_;conv=>whnf
    have m:Yk a.D a.up a.next a.loop b l[j]=XN a.D (b.length+1) (b.length+1:Int) (b.length+1:Int) (XN a.D (b.length+1) (b.length+1:Int) (b.length+1:Int) (b++[⟨l[j]'k,a.D,a.up,a.next,a.loop⟩]) (l[j]'k).I) l[j].L:=by
     rw[PR,if_pos (by assumption),if_pos (by assumption)]
    exact⟨(j+1,Yk a.D a.up a.next a.loop b l[j]),⟨by simp only;omega,by simp only;rw[ZH];omega,by simp only;rw[ZH];omega,by simp only;rw[<-y,UV k,if_neg (by omega)]⟩,by simp only;omega,Le.of_eq (by simp only;rw[m];rfl)⟩
   .have k:j<l.length:=by omega
    have o:=o k;have w:=WB l[j];refine CallK.heap [(1000,1000),(2000,2000),(2001,2001),(2002,2002)] 0 (by refine x6i (x6e _) (x6i (x6e _) (x6i (LSub.agg ?_) x7h));repeat' (first|exact SubL.nil|refine SubL.cons ?_ ?_|exact Sub.refl _|exact Sub.nils|exact Sub.ff rfl)) (by exact x6y (j:=1000) rfl rfl (CSub.of_eq (by rw[x6f];first|done|rfl)) (x6y (j:=2000) rfl rfl (CSub.of_eq (by rw[x6l];first|done|rfl)) (x6y (j:=2001) rfl rfl (CSub.refl _) (x6y (j:=2002) rfl rfl (CSub.refl _) x7f)))) (v (by omega) l[j].I (by omega) (b++[⟨l[j]'k,a.D,a.up,a.next,a.loop⟩]) (by rw[x6f];simp only[x7r];omega) ⟨S0,a.D,b.length+1,a.next,a.loop⟩ q pr t s) rfl rfl ?_;rintro l' H' ⟨rfl,rfl⟩;conv=>whnf
    refine CallK.heap [(1000,1000),(2000,2000),(2001,2001),(2002,2002)] 0 (by refine x6i (x6e _) (x6i (x6e _) (x6i (LSub.agg ?_) x7h));repeat' (first|exact SubL.nil|refine SubL.cons ?_ ?_|exact Sub.refl _|exact Sub.nils|exact Sub.ff rfl)) (by exact x6y (j:=1000) rfl rfl (CSub.refl _) (x6y (j:=2000) rfl rfl (CSub.refl _) (x6y (j:=2001) rfl rfl (CSub.refl _) (x6y (j:=2002) rfl rfl (CSub.refl _) x7f)))) (v (by omega) l[j].L (by omega) (XN a.D (b.length+1) a.next a.loop (b++[⟨l[j]'k,a.D,a.up,a.next,a.loop⟩]) (l[j]'k).I) (by rw[XK,x6f];simp only[x7r];omega) ⟨S0,a.D,b.length+1,a.next,a.loop⟩ q pr t s) rfl rfl ?_;rintro l' H' ⟨rfl,rfl⟩;conv=>whnf
    refine wI ?_;conv=>whnf
    have m:Yk a.D a.up a.next a.loop b l[j]=XN a.D (b.length+1) a.next a.loop (XN a.D (b.length+1) a.next a.loop (b++[⟨l[j]'k,a.D,a.up,a.next,a.loop⟩]) (l[j]'k).I) l[j].L:=by
     rw[PR,if_neg (by assumption),if_neg (by assumption)]
    exact⟨(j+1,Yk a.D a.up a.next a.loop b l[j]),⟨by simp only;omega,by simp only;rw[ZH];omega,by simp only;rw[ZH];omega,by simp only;rw[<-y,UV k,if_neg (by omega)]⟩,by simp only;omega,Le.of_eq (by simp only;rw[m];rfl)⟩
   .have k:j<l.length:=by omega
    have o:=o k;have w:=WB l[j];refine CallK.heap [(1000,1000),(2000,2000),(2001,2001),(2002,2002)] 0 (by refine x6i (x6e _) (x6i (x6e _) (x6i (LSub.agg ?_) x7h));repeat' (first|exact SubL.nil|refine SubL.cons ?_ ?_|exact Sub.refl _|exact Sub.nils|exact Sub.ff rfl)) (by exact x6y (j:=1000) rfl rfl (CSub.of_eq (by rw[x6f];first|done|rfl)) (x6y (j:=2000) rfl rfl (CSub.of_eq (by rw[x6l];first|done|rfl)) (x6y (j:=2001) rfl rfl (CSub.refl _) (x6y (j:=2002) rfl rfl (CSub.refl _) x7f)))) (v (by omega) l[j].I (by omega) (b++[⟨l[j]'k,a.D,a.up,a.next,a.loop⟩]) (by rw[x6f];simp only[x7r];omega) ⟨S0,a.D,b.length+1,(b.length+1:Int),(b.length+1:Int)⟩ q pr t s) rfl rfl ?_;rintro l' H' ⟨rfl,rfl⟩;conv=>whnf
    refine CallK.heap [(1000,1000),(2000,2000),(2001,2001),(2002,2002)] 0 (by refine x6i (x6e _) (x6i (x6e _) (x6i (LSub.agg ?_) x7h));repeat' (first|exact SubL.nil|refine SubL.cons ?_ ?_|exact Sub.refl _|exact Sub.nils|exact Sub.ff rfl)) (by exact x6y (j:=1000) rfl rfl (CSub.refl _) (x6y (j:=2000) rfl rfl (CSub.refl _) (x6y (j:=2001) rfl rfl (CSub.refl _) (x6y (j:=2002) rfl rfl (CSub.refl _) x7f)))) (v (by omega) l[j].L (by omega) (XN a.D (b.length+1) (b.length+1:Int) (b.length+1:Int) (b++[⟨l[j]'k,a.D,a.up,a.next,a.loop⟩]) (l[j]'k).I) (by rw[XK,x6f];simp only[x7r];omega) ⟨S0,a.D,b.length+1,(b.length+1:Int),(b.length+1:Int)⟩ q pr t s) rfl rfl ?_;rintro l' H' ⟨rfl,rfl⟩;conv=>whnf
    refine wI ?_;conv=>whnf
    have m:Yk a.D a.up a.next a.loop b l[j]=XN a.D (b.length+1) (b.length+1:Int) (b.length+1:Int) (XN a.D (b.length+1) (b.length+1:Int) (b.length+1:Int) (b++[⟨l[j]'k,a.D,a.up,a.next,a.loop⟩]) (l[j]'k).I) l[j].L:=by
     rw[PR,if_pos (by assumption),if_pos (by assumption)]
    exact⟨(j+1,Yk a.D a.up a.next a.loop b l[j]),⟨by simp only;omega,by simp only;rw[ZH];omega,by simp only;rw[ZH];omega,by simp only;rw[<-y,UV k,if_neg (by omega)]⟩,by simp only;omega,Le.of_eq (by simp only;rw[m];rfl)⟩
   .have k:j<l.length:=by omega
    have o:=o k;have w:=WB l[j];refine CallK.heap [(1000,1000),(2000,2000),(2001,2001),(2002,2002)] 0 (by refine x6i (x6e _) (x6i (x6e _) (x6i (LSub.agg ?_) x7h));repeat' (first|exact SubL.nil|refine SubL.cons ?_ ?_|exact Sub.refl _|exact Sub.nils|exact Sub.ff rfl)) (by exact x6y (j:=1000) rfl rfl (CSub.of_eq (by rw[x6f];first|done|rfl)) (x6y (j:=2000) rfl rfl (CSub.of_eq (by rw[x6l];first|done|rfl)) (x6y (j:=2001) rfl rfl (CSub.refl _) (x6y (j:=2002) rfl rfl (CSub.refl _) x7f)))) (v (by omega) l[j].I (by omega) (b++[⟨l[j]'k,a.D,a.up,a.next,a.loop⟩]) (by rw[x6f];simp only[x7r];omega) ⟨S0,a.D,b.length+1,a.next,a.loop⟩ q pr t s) rfl rfl ?_;rintro l' H' ⟨rfl,rfl⟩;conv=>whnf
    refine CallK.heap [(1000,1000),(2000,2000),(2001,2001),(2002,2002)] 0 (by refine x6i (x6e _) (x6i (x6e _) (x6i (LSub.agg ?_) x7h));repeat' (first|exact SubL.nil|refine SubL.cons ?_ ?_|exact Sub.refl _|exact Sub.nils|exact Sub.ff rfl)) (by exact x6y (j:=1000) rfl rfl (CSub.refl _) (x6y (j:=2000) rfl rfl (CSub.refl _) (x6y (j:=2001) rfl rfl (CSub.refl _) (x6y (j:=2002) rfl rfl (CSub.refl _) x7f)))) (v (by omega) l[j].L (by omega) (XN a.D (b.length+1) a.next a.loop (b++[⟨l[j]'k,a.D,a.up,a.next,a.loop⟩]) (l[j]'k).I) (by rw[XK,x6f];simp only[x7r];omega) ⟨S0,a.D,b.length+1,a.next,a.loop⟩ q pr t s) rfl rfl ?_;rintro l' H' ⟨rfl,rfl⟩;conv=>whnf
    refine wI ?_;conv=>whnf
    have m:Yk a.D a.up a.next a.loop b l[j]=XN a.D (b.length+1) a.next a.loop (XN a.D (b.length+1) a.next a.loop (b++[⟨l[j]'k,a.D,a.up,a.next,a.loop⟩]) (l[j]'k).I) l[j].L:=by
     rw[PR,if_neg (by assumption),if_neg (by assumption)]
    exact⟨(j+1,Yk a.D a.up a.next a.loop b l[j]),⟨by simp only;omega,by simp only;rw[ZH];omega,by simp only;rw[ZH];omega,by simp only;rw[<-y,UV k,if_neg (by omega)]⟩,by simp only;omega,Le.of_eq (by simp only;rw[m];rfl)⟩
   .refine ⟨_,.refl _,rfl,?_⟩;rw[x7v (by omega),XN]at y;rw[<-y];rfl
structure Sheet where
 p:Pg
 l:List Item
 lo:List Int
 hi:List Int
def Sheet.cells(s:Sheet):List AV:=s.p.cells++[.sl (s.l.map fun i=>.agg i.cells),XL s.lo,XL s.hi]
def cntP:List Pr->Nat
 |[]=>0
 |f::r=>cntL f.body+cntP r
def Jq{l:List Pr}(h:j<l.length):cntP (l.drop j)=cntL l[j].body+cntP (l.drop (j+1)):=by
 rw[QF h,cntP]
def Gu(i:Nat)(h:List Item)(l k:List Int):List Pr->List Item×List Int×List Int
 |[]=>(h,l,k)
 |f::r=>Gu (i+1) (XN i 0 (-1) 0 h f.body) (l++[(h.length:Int)+1]) (k++[((XN i 0 (-1) 0 h f.body).length:Int)+1]) r
def sheetOf(p:Pg):Sheet:=⟨p,(Gu 0 [] [] [] p.A).1,(Gu 0 [] [] [] p.A).2.1,(Gu 0 [] [] [] p.A).2.2⟩
def Mo{h:List Item}{m k:List Int}{l:List Pr}(n:j<l.length):
  Gu i h m k (l.drop j)=Gu (i+1) (XN i 0 (-1) 0 h l[j].body) (m++[(h.length:Int)+1]) (k++[((XN i 0 (-1) 0 h l[j].body).length:Int)+1]) (l.drop (j+1)):=by
 rw[QF n,Gu]
def q8i(m tI l:Nat)(p:Pg)(L:List Item)(k h:List Int):Heap:=
 [(0,.obj m [.p (eStrs p.B),.p (.sl (p.A.map fun f=>.agg f.cells)),.hd 1 0 L.length,.hd 2 0 k.length,.hd 3 0 h.length]),(1,.own tI 17 (L.map fun i=>.agg i.cells)),(2,.own l 1 (k.map (.int .i64))),(3,.own l 1 (h.map (.int .i64)))]
def FE(p:Pg)(J:p.A.length<=1000)(w:cntP p.A<=999):SpecP prog 75 [.agg p.cells] (fun r=>r=.ip (sheetOf p).cells):=by
 refine sB SP func75 rfl call75 ?_;conv=>whnf
 repeat' ((first|(refine iM fun _=>?_)|refine x6d rfl ?_);conv=>whnf)
 have I:(p.A.map fun f=>AV.agg f.cells).length=p.A.length:=x6j _;refine LoopK.inv QW (fun i:Nat×List Item×List Int×List Int=>⟨[(3,.ptr 0 0),(10,.p (.sl (p.A.map fun f=>AV.agg f.cells))),(11,.p (.int .i64 (p.A.map fun f=>AV.agg f.cells).length)),(12,.p (.int .i64 i.1))],q8i 133 130 3 p i.2.1 i.2.2.1 i.2.2.2⟩)
  (fun i=>i.1<=p.A.length/\i.2.1.length+cntP (p.A.drop i.1)=cntP p.A/\i.2.2.1.length=i.1/\i.2.2.2.length=i.1/\Gu i.1 i.2.1 i.2.2.1 i.2.2.2 (p.A.drop i.1)=Gu 0 [] [] [] p.A) (fun i=>p.A.length-i.1) (0,[],[],[])
  (Le.mk [(1,.own 130 17 []),(2,.own 3 1 []),(3,.own 3 1 [])] (by simp[Chunk.new0];exact⟨rfl,rfl,rfl⟩) (by simp) (by simp[q8i]) (.r (.r (.r (.r .nil))))
    (.cons rfl (.obj (.r (.r (.cons (.nil x6g) (.cons (.nil (x6b _ x6g)) (.cons (.nil (x6b _ (x6b _ x6g))) .nil)))))) (.new x6g (.new (x6b _ x6g) (.new (x6b _ (x6b _ x6g)) .nil)))))
  ⟨x6t _,by simp,rfl,rfl,rfl⟩ ?_
 rintro⟨j,b,k,h⟩ ⟨a,d,t,u,n⟩;simp only at a d t u n⊢;conv=>whnf
 repeat' (first|((first|(refine iM fun _=>?_)|refine dA ?_|refine x6d rfl ?_|refine aD ?_|refine bP ?_|(refine iA fun _=>?_)|refine wI ?_|refine x8e (by simp) rfl (by show(k.length+1)*8<=140737488355328;omega) (by show k.length+1<=9223372036854775807;omega) (fun x s=>by rcases x6p.1 s with rfl;exact⟨rfl,rfl⟩) ?_);conv=>whnf)|(apply bD<;>intro _<;>first|omega|conv=>whnf)|(refine x6d ?_ ?_<;>conv=>whnf))
 .have o:j<p.A.length:=by omega
  have v:=Jq o;refine CallK.heap [(1000,0),(2000,1),(2001,2),(2002,3)] 0 (by refine x6i (x6e _) (x6i (x6e _) (x6i (LSub.agg ?_) x7h));repeat' (first|exact SubL.nil|refine SubL.cons ?_ ?_|exact Sub.refl _|exact Sub.nils|exact Sub.ff rfl)) (by exact x6y (j:=0) rfl rfl (CSub.of_eq (by rw[x6f];first|done|rfl)) (x6y (j:=1) rfl rfl (CSub.refl _) (x6y (j:=2) rfl rfl (CSub.of_eq (by rw[x6l];first|done|rfl)) (x6y (j:=3) rfl rfl (CSub.refl _) x7f)))) (TF 1000 (by omega) p.A[j].body (by omega) b (by omega) ⟨S0,j,0,-1,0⟩ _ _ (k++[(b.length:Int)+1]) h) rfl rfl ?_;rintro l' H' ⟨rfl,rfl⟩;conv=>whnf
  have q:=XK j 0 (-1) 0 b p.A[j].body;repeat' (first|((first|(refine iM fun _=>?_)|refine dA ?_|refine x6d rfl ?_|refine aD ?_|refine bP ?_|refine wI ?_|refine x8e (by simp) rfl (by show(h.length+1)*8<=140737488355328;omega) (by show h.length+1<=9223372036854775807;omega) (fun x s=>by rcases x6p.1 s with rfl;exact⟨rfl,rfl⟩) ?_|refine Wr.i64 (by rw[XK];omega) (by rw[XK];omega) ?_);conv=>whnf)|(refine x6d ?_ ?_<;>conv=>whnf))
  all_goals exact⟨(j+1,XN j 0 (-1) 0 b p.A[j].body,k++[(b.length:Int)+1],h++[((XN j 0 (-1) 0 b p.A[j].body).length:Int)+1]),⟨by simp only;omega,by simp only;omega,by simp[t],by simp[u],by simp only;rw[<-n,Mo o]⟩,by simp only;omega,Le.of_eq (by simp only[q8i,x6f,x6l];rfl)⟩
 .have o:j<p.A.length:=by omega
  have v:=Jq o;refine CallK.heap [(1000,0),(2000,1),(2001,2),(2002,3)] 0 (by refine x6i (x6e _) (x6i (x6e _) (x6i (LSub.agg ?_) x7h));repeat' (first|exact SubL.nil|refine SubL.cons ?_ ?_|exact Sub.refl _|exact Sub.nils|exact Sub.ff rfl)) (by exact x6y (j:=0) rfl rfl (CSub.of_eq (by rw[x6f];first|done|rfl)) (x6y (j:=1) rfl rfl (CSub.refl _) (x6y (j:=2) rfl rfl (CSub.of_eq (by rw[x6l];first|done|rfl)) (x6y (j:=3) rfl rfl (CSub.refl _) x7f)))) (TF 1000 (by omega) p.A[j].body (by omega) b (by omega) ⟨S0,j,0,-1,0⟩ _ _ (k++[(b.length:Int)+1]) h) rfl rfl ?_;rintro l' H' ⟨rfl,rfl⟩;conv=>whnf
  have q:=XK j 0 (-1) 0 b p.A[j].body;repeat' (first|((first|(refine iM fun _=>?_)|refine dA ?_|refine x6d rfl ?_|refine aD ?_|refine bP ?_|refine wI ?_|refine x8e (by simp) rfl (by show(h.length+1)*8<=140737488355328;omega) (by show h.length+1<=9223372036854775807;omega) (fun x s=>by rcases x6p.1 s with rfl;exact⟨rfl,rfl⟩) ?_|refine Wr.i64 (by rw[XK];omega) (by rw[XK];omega) ?_);conv=>whnf)|(refine x6d ?_ ?_<;>conv=>whnf))
  all_goals exact⟨(j+1,XN j 0 (-1) 0 b p.A[j].body,k++[(b.length:Int)+1],h++[((XN j 0 (-1) 0 b p.A[j].body).length:Int)+1]),⟨by simp only;omega,by simp only;omega,by simp[t],by simp[u],by simp only;rw[<-n,Mo o]⟩,by simp only;omega,Le.of_eq (by simp only[q8i,x6f,x6l];rfl)⟩
 .have F:p.A.drop j=[]:=x7v (by omega);rw[F,Gu]at n;refine⟨.ip (sheetOf p).cells,?_,rfl⟩;have e:(sheetOf p).cells=[eStrs p.B,.sl (p.A.map fun f=>.agg f.cells),.sl (b.map fun i=>.agg i.cells),XL k,XL h]:=by
   unfold sheetOf;rw[<-n];rfl
  rw[e];have E:∀H:Heap,getH H 1=some (.own 130 17 (b.map fun i=>.agg i.cells))->getH H 2=some (.own 3 1 (k.map (.int .i64)))->getH H 3=some (.own 3 1 (h.map (.int .i64)))->
    FrzL H [.p (eStrs p.B),.p (.sl (p.A.map fun f=>.agg f.cells)),.hd 1 0 b.length,.hd 2 0 k.length,.hd 3 0 h.length] [eStrs p.B,.sl (p.A.map fun f=>.agg f.cells),.sl (b.map fun i=>.agg i.cells),XL k,XL h]:=fun H g1 y z=>
   .cons (.p (Sub.refl _)) (.cons (.p (Sub.refl _)) (.cons (.hd g1 (by simp)) (.cons (.hd y (by simp)) (.cons (.hd z (by simp)) .nil))))
  refine Frz.ptr (off:=0) rfl rfl fun m l c G w=>?_;obtain⟨l',g,C⟩:=(E (q8i 133 130 3 p b k h) rfl rfl rfl).get.2 m c w;have D:=g.symm.trans G;cases D;exact C
theorem IdxK.at{es:List AV}{sz k:Nat}{e:AV}{n:Int}{K:List AV->Prop}(m:n=k)(l:es[k]?=some e)(o:e.cells.length=sz)(h:K e.cells):IdxK es sz n K:=⟨k,e,m,l,o,h⟩
def UG{l:List Int}{k:Nat}{n:Int}(h:l[k]?=some n):(l.map (AV.int .i64))[k]?=some (.int .i64 n):=by simp[h]
def UH(l:List Item):AV:=.sl (l.map fun i=>.agg i.cells)
def Xr(s:Sheet)(i k h:Nat)(m:s.lo[i]?=some ((k:Int)+1))(n:s.hi[i]?=some ((h:Int)+1))(o:k<=h)(q:h<=s.l.length)(u:s.l.length<=1000):SpecP prog 150 [.ip s.cells,.int .i64 i] (fun r=>r=UH ((s.l.take h).drop k)):=by
 refine sB Yd func150 rfl call150 ?_;conv=>whnf
 repeat' ((first|refine dA ?_|refine wI ?_|(refine IdxK.at rfl (UG m) rfl ?_)|(refine IdxK.at rfl (UG n) rfl ?_)|refine x6d (fun e t=>by obtain⟨x,_,rfl⟩:=x6r.1 t;rfl) (z2f k h (by simp) (by simp) o (by simpa using q) ?_));conv=>whnf)
 exact RetK.p (by simp[UH,map_take,List.map_drop])
def MR(s:Sheet)(id:Int):SpecP prog 60 [.ip s.cells,.int .i64 id] (fun r=>r=.bool (decide (1<=id)&&decide (id<=s.l.length))):=by
 refine sB Uu func60 rfl call60 ?_;conv=>whnf
 repeat' (first|(refine iM fun _=>?_;conv=>whnf)|(apply bD<;>intro _<;>first|omega|conv=>whnf))
 all_goals have h:(s.l.map fun i=>AV.agg i.cells).length=s.l.length:=x6j _
 .exact RetK.bool (by simp_all)
 .exact RetK.ff (by simp;omega)
def DM(s:Sheet)(i h k:Nat)(l:s.lo[i]?=some ((h:Int)+1))(m:s.hi[i]?=some ((k:Int)+1)):SpecP prog 136 [.ip s.cells,.int .i64 i] (fun r=>r=.int .i64 (if h<k then(h:Int)+1 else -1)):=by
 refine sB Qa func136 rfl call136 ?_;conv=>whnf
 repeat' (first|((first|refine dA ?_|(refine IdxK.at rfl (UG l) rfl ?_)|(refine IdxK.at rfl (UG m) rfl ?_));conv=>whnf)|(apply bD<;>intro _<;>first|omega|conv=>whnf))
 .exact RetK.int (by rw[if_pos (by omega)])
 .exact RetK.int (by rw[if_neg (by omega)])
def YD(l:List Str)(g:Nat)(c:AV)(p:Str->Bool)(m:∀s,SpecP prog g [.str s,c] (fun r=>r=.bool (p s))):SpecP prog 210 [eStrs l,.fn g [c]] (fun r=>r=.int .i64 (idxF p l)):=by
 refine sB UK func210 rfl call210 ?_;conv=>whnf
 refine iM fun _=>?_;have o:(l.map AV.str).length=l.length:=x6j _;conv=>whnf
 refine LoopK.inv QW (fun j:Nat=>⟨[(0,.p (eStrs l)),(1,.p (.fn g [c])),(7,.p (.int .i64 (l.map AV.str).length)),(8,.p (.int .i64 j))],[]⟩) (fun j=>j<=l.length/\(l.drop j).any p=l.any p/\l.findIdx p=j+(l.drop j).findIdx p) (fun j=>l.length-j) 0 (Le.of_eq rfl) ⟨x6t _,rfl,by simp⟩ ?_;rintro j ⟨n,h,k⟩;conv=>whnf
 repeat' (first|((first|(refine iA fun _=>?_)|refine wI ?_|refine cP (m _) ?_);conv=>whnf)|(apply bD<;>intro _<;>first|omega|conv=>whnf)|(apply bB<;>intro _<;>conv=>whnf))
 .exact RetK.int (Y9 (p:=p) (by omega) (by assumption) h k).symm
 .exact ⟨j+1,⟨by omega,by rw[<-h,Ve (p:=p) (by omega) (by assumption)],by rw[k,Ob (p:=p) (by omega) (by assumption)];omega⟩,by omega,Le.of_eq rfl⟩
 .exact RetK.int (by rw[Bx];rw[<-h,BC (by omega)])
def UJ(l:List Str)(g:Nat)(c:AV)(p:Str->Bool)(h:∀s,SpecP prog g [.str s,c] (fun r=>r=.bool (p s))):SpecP prog 148 [eStrs l,.fn g [c]] (fun r=>r=.bool (l.any p)):=by
 refine sB VH func148 rfl call148 ?_;conv=>whnf
 repeat' (refine cP (YD _ _ _ p h) ?_;conv=>whnf)
 exact RetK.bool Ws
def ZW(l:List Pr)(g:Nat)(c:AV)(p:Pr->Bool)(m:∀s:Pr,SpecP prog g [.agg s.cells,c] (fun r=>r=.bool (p s))):SpecP prog 100 [.sl (l.map fun f=>.agg f.cells),.fn g [c]] (fun r=>r=.int .i64 (idxF p l)):=by
 refine sB VW func100 rfl call100 ?_;conv=>whnf
 refine iM fun _=>?_;have o:(l.map fun f=>AV.agg f.cells).length=l.length:=x6j _;conv=>whnf
 refine LoopK.inv QW (fun j:Nat=>⟨[(0,.p (.sl (l.map fun f=>.agg f.cells))),(1,.p (.fn g [c])),(7,.p (.int .i64 (l.map fun f=>AV.agg f.cells).length)),(8,.p (.int .i64 j))],[]⟩) (fun j=>j<=l.length/\(l.drop j).any p=l.any p/\l.findIdx p=j+(l.drop j).findIdx p) (fun j=>l.length-j) 0 (Le.of_eq rfl) ⟨x6t _,rfl,by simp⟩ ?_;rintro j ⟨n,h,k⟩;conv=>whnf
 repeat' (first|((first|(refine iA fun _=>?_)|refine wI ?_|refine cP (m _) ?_);conv=>whnf)|(apply bD<;>intro _<;>first|omega|conv=>whnf)|(apply bB<;>intro _<;>conv=>whnf))
 .exact RetK.int (Y9 (p:=p) (by omega) (by assumption) h k).symm
 .exact ⟨j+1,⟨by omega,by rw[<-h,Ve (p:=p) (by omega) (by assumption)],by rw[k,Ob (p:=p) (by omega) (by assumption)];omega⟩,by omega,Le.of_eq rfl⟩
 .exact RetK.int (by rw[Bx];rw[<-h,BC (by omega)])
def WI(l:List Pr)(g:Nat)(c:AV)(p:Pr->Bool)(h:∀s:Pr,SpecP prog g [.agg s.cells,c] (fun r=>r=.bool (p s))):SpecP prog 267 [.sl (l.map fun f=>.agg f.cells),.fn g [c]] (fun r=>r=.bool (l.any p)):=by
 refine sB WH func267 rfl call267 ?_;conv=>whnf
 repeat' (refine cP (ZW _ _ _ p h) ?_;conv=>whnf)
 exact RetK.bool Ws
def P1(p:Pg)(n:Str):SpecP prog 149 [.str n,.ip p.cells] (fun r=>r=.bool (p.B.any fun s=>n==s)):=by
 refine sB Yn func149 rfl call149 ?_;conv=>whnf
 repeat' (refine cP (QU _ _) ?_;conv=>whnf)
 exact RetK.p rfl
def Wf(n:Str)(f:Pr):SpecP prog 101 [.agg f.cells,.ip [.str n]] (fun r=>r=.bool (f.name==n)):=by
 refine sB MO func101 rfl call101 ?_;conv=>whnf
 skip
 exact RetK.p rfl
def Pz(n:Str)(f:Pr):SpecP prog 268 [.agg f.cells,.ip [.str n]] (fun r=>r=.bool (f.name==n)):=by
 refine sB Yr func268 rfl call268 ?_;conv=>whnf
 skip
 exact RetK.p rfl
def ZQ(s:Sheet)(n:Str):SpecP prog 51 [.ip s.cells,.str n] (fun r=>r=.int .i64 (idxF (fun f=>f.name==n) s.p.A)):=by
 refine sB W4 func51 rfl call51 ?_;conv=>whnf
 repeat' (refine cP (ZW _ _ _ (fun f=>f.name==n) (fun f=>Wf n f)) ?_;conv=>whnf)
 exact RetK.p rfl
end Go.Ab
