/- lex and tree: which names, which expressions may be. -/
import Derived.Test.YtonbdgcjnecapaaGreatRchC6
import Derived.Test.YtonbdgcjnecapaaGreatRchC7
set_option linter.all false
set_option maxRecDepth 100000
set_option maxHeartbeats 16000000
open List (map_take)
namespace Go.Ab
open Go.Proofs.Tryz
open Go.Proofs
variable {T i j:Nat}{nest seen:Int}
def YM(c:UInt8):Bool:=decide (97<=(c.toNat:Int))&&decide ((c.toNat:Int)<=122)
def NA(c:UInt8):Bool:=decide (48<=(c.toNat:Int))&&decide ((c.toNat:Int)<=57)
def Iy(c:UInt8):Bool:=YM c||NA c
def G9(c:UInt8):SpecP prog 197 [.int .u8 c.toNat] (fun r=>r=.bool (YM c)):=by
 refine sB Bx func197 rfl call197 ?_;conv=>whnf
 repeat' (apply bD<;>intro _<;>first|omega|conv=>whnf)
 .exact RetK.bool (by simp_all[YM];try omega)
 .exact RetK.ff (by simp_all[YM];try omega)
def CB(c:UInt8):SpecP prog 251 [.int .u8 c.toNat] (fun r=>r=.bool (NA c)):=by
 refine sB Mj func251 rfl call251 ?_;conv=>whnf
 repeat' (apply bD<;>intro _<;>first|omega|conv=>whnf)
 .exact RetK.bool (by simp_all[NA];try omega)
 .exact RetK.ff (by simp_all[NA];try omega)
def JY(s:Str)(i:Nat):Nat:=i+((s.drop i).takeWhile Iy).length
def BH{s:Str}(h:i<s.length)(k:Iy s[i]=true):JY s (i+1)=JY s i:=by
 unfold JY;rw[QB h,List.takeWhile_cons,if_pos k];simp only[x1r];omega
def Q7{s:Str}(h:∀(k:i<s.length),Iy s[i]=false):JY s i=i:=by
 unfold JY;by_cases k:i<s.length
 .rw [QB k,List.takeWhile_cons,if_neg (by simp[h k])];rfl
 .rw [x1q (by omega)];rfl
def q1m(s:Str)(i:Nat)(k:i<=s.length):SpecP prog 198 [.str s,.int .i64 i] (fun r=>r=.int .i64 (JY s i)):=by
 refine sB SY func198 rfl call198 ?_;conv=>whnf
 refine LoopK.inv QK (fun j:Nat=>⟨[(0,.p (.str s)),(1,.p (.int .i64 j))],[]⟩) (fun j=>j<=s.length/\JY s j=JY s i) (fun j=>s.length-j) i (Le.of_eq rfl) ⟨k,rfl⟩ ?_;rintro j ⟨l,h⟩;conv=>whnf
 repeat' (first|((first|(refine iM fun _=>?_)|refine cP (G9 _) ?_|refine cP (CB _) ?_|(refine ByteK.at (by omega) ?_)|refine wI ?_);conv=>whnf)|(apply bD<;>intro _<;>first|omega|conv=>whnf)|(apply bB<;>intro _<;>conv=>whnf))
 .exact ⟨j+1,⟨by omega,by rw[BH (by omega) (by simp_all[Iy])];exact h⟩,by omega,Le.of_eq rfl⟩
 .exact ⟨j+1,⟨by omega,by rw[BH (by omega) (by simp_all[Iy])];exact h⟩,by omega,Le.of_eq rfl⟩
 .exact RetK.int (by rw[<-h,Q7 fun _=>by simp_all[Iy]])
 .exact RetK.int (by rw[<-h,Q7 fun _=>by omega])
def W8(s:Str):Bool:=decide (s=[103,108,111,98,97,108])||decide (s=[112,114,111,99])||decide (s=[118,97,114])||decide (s=[114,101,102])||decide (s=[105,102])||decide (s=[101,108,115,101])||decide (s=[119,104,105,108,101])||decide (s=[98,114,101,97,107])||decide (s=[99,111,110,116,105,110,117,101])||decide (s=[114,101,116,117,114,110])||decide (s=[103,111,116,111])||decide (s=[114,101,97,100])||decide (s=[112,114,105,110,116])
def Ia(s:Str):SpecP prog 199 [.str s] (fun r=>r=.bool (W8 s)):=by
 refine sB Ts func199 rfl call199 ?_;conv=>whnf
 repeat' (apply bB<;>intro _<;>conv=>whnf)
 all_goals first
  |exact RetK.tt (by simp_all[W8])
  |exact RetK.ff (by simp_all[W8])
def isName(s:Str):Bool:=if h:1<=s.length/\s.length<=8 then YM (s[0]'(by omega))&&decide (JY s 0=s.length) && !W8 s else false
def Q6(s:Str):SpecP prog 128 [.str s] (fun r=>r=.bool (isName s)):=by
 refine sB Tt func128 rfl call128 ?_;conv=>whnf
 repeat' (first|((first|(refine iM fun _=>?_)|refine cP (G9 _) ?_|refine cP (q1m _ 0 (x0l _)) ?_|refine cP (Ia _) ?_|(refine ByteK.at (k:=0) (by omega) ?_));conv=>whnf)|(apply bD<;>intro _<;>first|omega|conv=>whnf)|(apply bN<;>intro _<;>conv=>whnf))
 .exact RetK.ff (by unfold isName;rw[dif_neg (by omega)])
 .exact RetK.ff (by unfold isName;rw[dif_neg (by omega)])
 .exact RetK.bool (by unfold isName;rw[dif_pos (by omega)];simp_all;omega)
 .exact RetK.ff (by unfold isName;rw[dif_pos (by omega)];simp_all;omega)
 .exact RetK.ff (by unfold isName;rw[dif_pos (by omega)];simp_all)
def namesB(l:List Str):Bool:=l.all isName
def Zv(l:List Str):SpecP prog 127 [eStrs l] (fun r=>r=.bool (namesB l)):=by
 refine sB Bh func127 rfl call127 ?_;conv=>whnf
 refine iM fun _=>?_;conv=>whnf
 refine LoopK.inv QK (fun j:Nat=>⟨[(5,.p (eStrs l)),(6,.p (.int .i64 (l.map AV.str).length)),(7,.p (.int .i64 j))],[]⟩) (fun j=>j<=l.length/\(l.drop j).all isName=namesB l) (fun j=>l.length-j) 0 (Le.of_eq rfl) ⟨x0l _,rfl⟩ ?_;rintro j ⟨k,h⟩;have m:(l.map AV.str).length=l.length:=x0j _;conv=>whnf
 repeat' (first|((first|refine cP (Q6 _) ?_|(refine iA fun _=>?_)|refine wI ?_);conv=>whnf)|(apply bD<;>intro _<;>first|omega|conv=>whnf)|(apply bN<;>intro _<;>conv=>whnf))
 .exact ⟨j+1,⟨by omega,by rw[GT (by omega) (by assumption)];exact h⟩,by omega,Le.of_eq rfl⟩
 .exact RetK.ff (by rw[<-h,Za (by omega) (by assumption)])
 .exact RetK.tt (by rw[<-h,GR (by omega)])
def Wo(op:Int):Int:=if op=1\/op=2 then 0 else if op=3\/op=4 then 1 else if 5<=op/\op<=17 then 2 else -1
def E9(op:Int):SpecP prog 310 [.int .i64 op] (fun r=>r=.int .i64 (Wo op)):=by
 refine sB Mh func310 rfl call310 ?_;conv=>whnf
 repeat' (apply bD<;>intro _<;>first|omega|conv=>whnf)
 all_goals exact RetK.int (by unfold Wo;(repeat' split)<;>omega)
def VB:Nat->X->Bool
 |0,_=>false
 |n+1,x=>decide ((x.kids.length:Int)=Wo x.op)&&(if x.op=1 then decide (0<=x.n)&&(x.name==[])else if x.op=2 then decide (x.n=0)&&isName x.name else decide (x.n=0)&&(x.name==[])&&x.kids.all (VB n))
def E8:∀(n:Nat)(_:n<=1000)(x:X),SpecP prog 280 [.agg x.cells,.int .i64 n] (fun r=>r=.bool (VB n x)):=by
 intro n;induction n with
 | zero=>
   intro _ x;refine sB Vm func280 rfl call280 ?_;conv=>whnf
   repeat' (first|(refine dA ?_;conv=>whnf)|(apply bD<;>intro _<;>first|omega|conv=>whnf))
   exact RetK.ff rfl
 | succ n l=>
   intro q x;refine sB Vm func280 rfl call280 ?_;conv=>whnf
   repeat' (first|((first|(refine iM fun _=>?_)|refine cP (E9 _) ?_|refine cP (Q6 _) ?_|refine dA ?_);conv=>whnf)|(apply bD<;>intro _<;>first|omega|conv=>whnf)|(apply bE<;>intro _<;>first|omega|conv=>whnf)|(apply bN<;>intro _<;>conv=>whnf))
   all_goals try (have o:((X.avs x.kids).length:Int)=x.kids.length:=by rw[X.avs_len])
   .exact RetK.bool (by simp_all[VB])
   .exact RetK.ff (by simp_all[VB];try omega)
   .exact RetK.bool (by simp_all[VB])
   .exact RetK.ff (by simp_all[VB];try omega)
   .have k:VB (n+1) x=x.kids.all (VB n):=by simp_all[VB]
    rw[k];refine LoopK.inv QK (fun j:Nat=>⟨[(1,.p (.int .i64 (n+1:Nat))),(49,.p (.sl (X.avs x.kids))),(50,.p (.int .i64 (X.avs x.kids).length)),(51,.p (.int .i64 j))],[]⟩) (fun j=>j<=x.kids.length/\(x.kids.drop j).all (VB n)=x.kids.all (VB n)) (fun j=>x.kids.length-j) 0 (Le.of_eq rfl) ⟨x0l _,rfl⟩ ?_;rintro j ⟨m,h⟩;conv=>whnf
    repeat' (first|((first|refine x0h rfl ?_|refine IdxK.xs (by omega) ?_|refine wI ?_|(refine CallK.pure (l (by omega) _) (.cons (Sub.refl _) (.cons (Sub.int (by omega)) .nil)) ?_;rintro _ rfl));conv=>whnf)|(apply bD<;>intro _<;>first|omega|conv=>whnf)|(apply bN<;>intro _<;>conv=>whnf))
    .exact ⟨j+1,⟨by omega,by rw[GT (by omega) (by assumption)];exact h⟩,by omega,Le.of_eq rfl⟩
    .exact RetK.ff (by rw[<-h,Za (by omega) (by assumption)])
    .exact RetK.tt (by rw[<-h,GR (by omega)])
   .exact RetK.ff (by simp_all[VB];try omega)
   .exact RetK.ff (by simp_all[VB];try omega)
   .exact RetK.ff (by simp_all[VB];try omega)
def CS(x:X):Bool:=VB 20 x
def DT(x:X):SpecP prog 222 [.agg x.cells] (fun r=>r=.bool (CS x)):=by
 refine sB Jh func222 rfl call222 ?_;conv=>whnf
 repeat' (refine cP (E8 20 (by omega) _) ?_;conv=>whnf)
 exact RetK.p rfl
def noneB(x:X):Bool:=decide (x.op=0)&&decide (x.n=0)&&(x.name==[])&&((x.kids.length:Int)==0)
def Ex(x:X):SpecP prog 300 [.agg x.cells] (fun r=>r=.bool (noneB x)):=by
 refine sB Mf func300 rfl call300 ?_;conv=>whnf
 repeat' (first|(refine iM fun _=>?_;conv=>whnf)|(apply bD<;>intro _<;>first|omega|conv=>whnf)|(apply bB<;>intro _<;>conv=>whnf))
 all_goals have h:((X.avs x.kids).length:Int)=x.kids.length:=by rw[X.avs_len]
 all_goals first
  |exact RetK.ff (by simp_all[noneB])
  |exact RetK.bool (by simp_all[noneB])
def YF(s:Str)(h:Bool):Bool:=bif h then isName s else s==[]
def H7(s:Str)(h:Bool):SpecP prog 252 [.str s,.bool h] (fun r=>r=.bool (YF s h)):=by
 refine sB Bg func252 rfl call252 ?_;conv=>whnf
 repeat' (first|(refine cP (Q6 _) ?_;conv=>whnf)|(apply bN<;>intro _<;>conv=>whnf)|(apply bB<;>intro _<;>conv=>whnf))
 all_goals first
  |exact RetK.tt (by simp_all[YF])
  |exact RetK.ff (by simp_all[YF])
  |exact RetK.bool (by simp_all[YF])
def HI(x:X)(h:Bool):Bool:=bif h then CS x else noneB x
def H8(x:X)(h:Bool):SpecP prog 253 [.agg x.cells,.bool h] (fun r=>r=.bool (HI x h)):=by
 refine sB Bf func253 rfl call253 ?_;conv=>whnf
 repeat' (first|((first|refine cP (DT _) ?_|refine cP (Ex _) ?_);conv=>whnf)|(apply bN<;>intro _<;>conv=>whnf)|(apply bB<;>intro _<;>conv=>whnf))
 all_goals first
  |exact RetK.tt (by simp_all[HI])
  |exact RetK.ff (by simp_all[HI])
  |exact RetK.bool (by simp_all[HI])
def Q2(a:Arg):Bool:=YF a.name a.ref&&HI a.x (!a.ref)
def La(l:List Arg):SpecP prog 254 [I0 l] (fun r=>r=.bool (l.all Q2)):=by
 refine sB Hn func254 rfl call254 ?_;conv=>whnf
 refine iM fun _=>?_;conv=>whnf
 refine LoopK.inv QK (fun j:Nat=>⟨[(5,.p (I0 l)),(6,.p (.int .i64 (l.map fun a=>AV.agg a.cells).length)),(7,.p (.int .i64 j))],[]⟩) (fun j=>j<=l.length/\(l.drop j).all Q2=l.all Q2) (fun j=>l.length-j) 0 (Le.of_eq rfl) ⟨x0l _,rfl⟩ ?_;rintro j ⟨k,h⟩;have m:(l.map fun a=>AV.agg a.cells).length=l.length:=x0j _;conv=>whnf
 repeat' (first|((first|refine cP (H7 _ _) ?_|refine cP (H8 _ _) ?_|refine x0h rfl ?_|(refine iA fun _=>?_)|refine wI ?_);conv=>whnf)|(apply bD<;>intro _<;>first|omega|conv=>whnf)|(apply bN<;>intro _<;>conv=>whnf))
 .exact ⟨j+1,⟨by omega,by rw[GT (by omega) (by simp_all[Q2])];exact h⟩,by omega,Le.of_eq rfl⟩
 .exact RetK.ff (by rw[<-h,Za (by omega) (by simp_all[Q2])])
 .exact RetK.ff (by rw[<-h,Za (by omega) (by simp_all[Q2])])
 .exact RetK.tt (by rw[<-h,GR (by omega)])
structure Flds where
 name:Bool
 C:Bool
 x:Bool
 has:Bool
 F:Bool
 L:Bool
def LE(k:Int)(has:Bool)(h:Bool):Option Flds:=
 if k=1 then some ⟨true,false,true,has,false,false⟩
 else if k=2 then some ⟨true,false,false,has,false,false⟩
 else if k=10 then some ⟨true,false,false,has,false,false⟩
 else if k=3 then some ⟨false,false,true,has,false,false⟩
 else if k=4 then some ⟨!h,true,false,has,false,false⟩
 else if k=5 then some ⟨false,false,true,has,true,true⟩
 else if k=6 then some ⟨false,false,true,has,true,false⟩
 else if k=9 then some ⟨false,false,has,false,false,false⟩
 else if k=7 then some ⟨false,false,false,has,false,false⟩
 else if k=8 then some ⟨false,false,false,has,false,false⟩
 else none
def WB(s:S):Bool:=
 match LE s.kind s.has (s.name==[])with
 |none=>false
 |some f=> !(f.has||(!f.F&&decide (0<s.F.length))||(!f.L&&decide (0<s.L.length))||(!decide (s.kind=4)&&decide (0<s.args.length)))&&YF s.name f.name&&YF s.C f.C&&HI s.x f.x&&s.args.all Q2
def Kk{s:S}{f:Flds}(h:LE s.kind s.has (s.name==[])=some f):WB s=(!(f.has||(!f.F&&decide (0<s.F.length))||(!f.L&&decide (0<s.L.length))||(!decide (s.kind=4)&&decide (0<s.args.length)))&&YF s.name f.name&&YF s.C f.C&&HI s.x f.x&&s.args.all Q2):=by
 unfold WB;rw[h]
def Lc(s:S):SpecP prog 200 [.agg s.cells] (fun r=>r=.bool (WB s)):=by
 refine sB Hb func200 rfl call200 ?_;conv=>whnf
 repeat' (first|((first|(refine iM fun _=>?_)|refine cP (H7 _ _) ?_|refine cP (H8 _ _) ?_|refine cP (La _) ?_|refine dA ?_);conv=>whnf)|(apply bD<;>intro _<;>first|omega|conv=>whnf)|(apply bE<;>intro _<;>first|omega|conv=>whnf)|(apply bN<;>intro _<;>conv=>whnf)|(apply bB<;>intro _<;>conv=>whnf))
 all_goals first
  |exact RetK.ff (by simp_all[WB,LE,S.avs_len])
  |exact RetK.bool (by simp_all[WB,LE,S.avs_len])
  |exact RetK.ff (by simp_all[WB,LE,S.avs_len];omega)
mutual
def D7(nest seen:Int):S->Option Int
 | .mk id kind M name C x has args F L=>
   if seen+1>200 then none else if id≠seen+1 then none else
   bif namesB M then bif WB (.mk id kind M name C x has args F L)then
    match YL (nest+1) (seen+1) F with
    |some m=>YL (nest+1) m L
    |none=>none
   else none else none
def YL(nest seen:Int):List S->Option Int
 |[]=>some seen
 | s::r=>if nest>12 then none else match D7 nest seen s with
   |some m=>YL nest m r
   |none=>none
end
def Ah(nest seen:Int)(s:S):D7 nest seen s=if seen+1>200 then none else if s.id≠seen+1 then none else
  bif namesB s.M then bif WB s then
   match YL (nest+1) (seen+1) s.F with
   |some m=>YL (nest+1) m s.L
   |none=>none
  else none else none:=by
 cases s;rw[D7];rfl
mutual
theorem q2z(nest seen:Int):∀(s:S){m:Int},D7 nest seen s=some m->seen<m/\m<=200
 | .mk id kind M name C x has args F L,m,h=>by
   simp only[D7]at h;split at h
   ·cases h
   split at h
   ·cases h
   cases hn:namesB M<;>rw[hn]at h
   ·cases h
   cases hf:WB (.mk id kind M name C x has args F L)<;>rw[hf]at h
   ·cases h
   simp only[x1u]at h;split at h
   ·rename_i m1 h1;have h2:=Ys (nest+1) (seen+1) F (by omega) h1;have h3:=Ys (nest+1) m1 L h2.2 h;omega
   ·cases h
theorem Ys(nest seen:Int):∀(l:List S){m:Int},seen<=200->YL nest seen l=some m->seen<=m/\m<=200
 | [],m,h0,h=>by
   simp only[YL]at h;cases h;omega
 | s::r,m,h0,h=>by
   simp only[YL]at h;split at h
   ·cases h
   split at h
   ·rename_i m1 h1;have h2:=q2z nest seen s h1;have h3:=Ys nest m1 r h2.2 h;omega
   ·cases h
end
def Lg(T:Nat)(nest seen:Int)(l:List S)(r:LV)(H:Heap):Prop:=
 match YL nest seen l with
 |some m=>r=.p .tt/\H=[(1000,.obj T [.p (.int .i64 m)])]
 |none=>r=.p .ff/\∃m,H=[(1000,.obj T [.p (.int .i64 m)])]
def Gm{m:Int}{l:List S}(h:YL nest seen l=some m):RetHK [(1000,.obj T [.p (.int .i64 m)])] (.p .tt) (Lg T nest seen l):=
 ⟨.p .tt,.refl _,by unfold Lg;rw[h];exact⟨rfl,rfl⟩⟩
def Z7{m:Int}{l:List S}(h:YL nest seen l=none):RetHK [(1000,.obj T [.p (.int .i64 m)])] (.p .ff) (Lg T nest seen l):=
 ⟨.p .ff,.refl _,by unfold Lg;rw[h];exact⟨rfl,_,rfl⟩⟩
def Yc{l:List S}{Q:LV->Heap->Prop}(q:seen<=200)(n:∀m,YL nest seen l=some m->seen<=m->m<=200->Q (.p .tt) [(1000,.obj T [.p (.int .i64 m)])])(o:YL nest seen l=none->∀m,Q (.p .ff) [(1000,.obj T [.p (.int .i64 m)])]):∀l' H',Lg T nest seen l l' H'->Q l' H':=by
 intro l' H' h;unfold Lg at h;cases k:YL nest seen l with
 | some m=>
   rw[k]at h;obtain⟨rfl,rfl⟩:=h;have:=Ys nest seen l q k;exact n m k this.1 this.2
 | none=>
   rw[k]at h;obtain⟨rfl,m,rfl⟩:=h;exact o k m
def Nh{l:List S}(h:nest>12)(k:0<l.length):YL nest seen l=none:=by
 cases l with
 |nil=>cases k
 |cons s r=>simp only[YL];rw[if_pos h]
def Ag{l:List S}(h:¬nest>12)(k:j<l.length):YL nest seen (l.drop j)=match D7 nest seen l[j]with
  |some m=>YL nest m (l.drop (j+1))
  |none=>none:=by
 rw[QB k,YL,if_neg h]
def Ez:∀(d n:Nat)(_:n+d=14)(l:List S)(seen:Int)(_:0<=seen)(_:seen<=200),
  SpecH prog 129 [.ptr 1000 0,.p (eSs l),.p (.int .i64 n)] [(1000,.obj 187 [.p (.int .i64 seen)])] (Lg 187 n seen l):=by
 intro d;induction d with
 | zero=>
   intro n v l seen o q;refine sH JT func129 rfl call129 ?_;conv=>whnf
   repeat' (first|(refine iM fun _=>?_;conv=>whnf)|(apply bD<;>intro _<;>first|omega|conv=>whnf))
   .exact Z7 (Nh (by omega) (by rw[S.avs_len]at*;omega))
   .have u:=S.avs_len l;obtain rfl:l=[]:=x3z (by omega);refine LoopK.inv QK (fun _:Unit=>⟨[(0,.ptr 1000 0),(2,.p (.int .i64 n)),(16,.p (eSs [])),(17,.p (.int .i64 (S.avs []).length)),(18,.p (.int .i64 0))],[(1000,.obj 187 [.p (.int .i64 seen)])]⟩) (fun _=>True) (fun _=>0) () (Le.of_eq rfl) trivial ?_;intro _ _;conv=>whnf
    repeat' (apply bD<;>intro _<;>first|omega|conv=>whnf)
    exact Gm rfl
 | succ d w=>
   intro n v l seen o q;refine sH JT func129 rfl call129 ?_;have u:=S.avs_len l;conv=>whnf
   repeat' (first|(refine iM fun _=>?_;conv=>whnf)|(apply bD<;>intro _<;>first|omega|conv=>whnf))
   .exact Z7 (Nh (by omega) (by omega))
   all_goals
    refine LoopK.inv QK (fun i:Nat×Int=>⟨[(0,.ptr 1000 0),(2,.p (.int .i64 n)),(16,.p (eSs l)),(17,.p (.int .i64 (S.avs l).length)),(18,.p (.int .i64 i.1))],[(1000,.obj 187 [.p (.int .i64 i.2)])]⟩) (fun i=>i.1<=l.length/\0<=i.2/\i.2<=200/\YL n i.2 (l.drop i.1)=YL n seen l) (fun i=>l.length-i.1) (0,seen) (Le.of_eq rfl) ⟨x0l _,o,q,rfl⟩ ?_;rintro⟨j,m⟩ ⟨r,s,t,k⟩;simp only at r s t k⊢;conv=>whnf
    repeat' (first|((first|refine cP (Zv _) ?_|refine cP (Lc _) ?_|refine dA ?_|refine x0h rfl ?_|refine QX (by omega) ?_|refine wI ?_);conv=>whnf)|(apply bD<;>intro _<;>first|omega|conv=>whnf)|(apply bE<;>intro _<;>first|omega|conv=>whnf)|(apply bN<;>intro _<;>conv=>whnf)|(refine CallK.heap [(1000,1000)] 0 (by repeat' (first|exact x1m|refine x1x ?_ ?_|exact x1v _|exact x1d Sub.nils|exact x1d (Sub.tt rfl)|exact x1d (Sub.ff rfl)|exact x1d (Sub.int (by omega)))) (by refine x0e (j:=1000) rfl rfl ?_ ?_;exact CSub.refl _;exact x1l) (w (n+1) (by omega) _ _ (by omega) (by omega)) rfl rfl (Yc (by omega) (fun _ _ _ _=>?_) (fun _ _=>?_))<;>conv=>whnf))
    all_goals try (have h:=Ag (seen:=m) (l:=l) (j:=j) (nest:=(n:Int)) (by omega) (by omega);rw[Ah,show(n:Int)+1=((n+1:Nat):Int)from rfl]at h)
    all_goals first
     |exact Gm (by rw[<-k,x1q (by omega)];simp only[YL])
     |exact Z7 (by rw[<-k,h];clear k h;first|rw[if_pos (by omega:m+1>200)]|(rw[if_neg (by omega:¬m+1>200)];simp[*,-Int.natCast_add]))
     |exact⟨(j+1,_),⟨by simp only;omega,by simp only;omega,by simp only;omega,by rw[<-k,h];clear k h;first|rw[if_pos (by omega:m+1>200)]|(rw[if_neg (by omega:¬m+1>200)];simp[*,-Int.natCast_add])⟩,by simp only;omega,Le.of_eq rfl⟩
def KN(f:Pr):Bool:=decide (f.B.length<=8)&&decide (f.Q.length<=16)&&isName f.name&&namesB f.Q&&namesB f.fin&&f.B.all fun a=>isName a.name
def XR(seen:Int):List Pr->Option Int
 |[]=>some seen
 | f::r=>bif KN f then match YL 1 seen f.body with
    |some m=>XR m r
    |none=>none
   else none
def JJ(p:Pg):Bool:=decide (p.D.length<=16)&&decide (p.A.length<=16)&&namesB p.D&&(XR 0 p.A).isSome
def Yx{l:List Pr}(h:j<l.length):XR seen (l.drop j)=bif KN l[j]then match YL 1 seen l[j].body with
   |some m=>XR m (l.drop (j+1))
   |none=>none
  else none:=by
 rw[QB h,XR]
def JK{f:Pr}:KN f=true↔f.B.length<=8/\f.Q.length<=16/\isName f.name=true/\namesB f.Q=true/\namesB f.fin=true/\(f.B.all fun a=>isName a.name)=true:=by
 simp only[KN,x1z,x1n,and_assoc]
def Y9{l:List Pr}(k:j<l.length)(h:¬(l[j].B.length<=8/\l[j].Q.length<=16/\isName l[j].name=true/\namesB l[j].Q=true/\namesB l[j].fin=true/\(l[j].B.all fun a=>isName a.name)=true)):(XR seen (l.drop j)).isSome=false:=by
 rw[Yx k];have:KN l[j]=false:=by rw[x5c];intro m;exact h (JK.1 m)
 rw[this];rfl
def Dh(p:Pg):SpecP prog 67 [.agg p.cells] (fun r=>r=.bool (JJ p)):=by
 refine sB Te func67 rfl call67 ?_;conv=>whnf
 repeat' (first|((first|(refine iM fun _=>?_)|refine cP (Zv _) ?_|refine x0h rfl ?_);conv=>whnf)|(apply bD<;>intro _<;>first|omega|conv=>whnf)|(apply bN<;>intro _<;>conv=>whnf))
 all_goals try have z:(p.D.map AV.str).length=p.D.length:=x0j _
 all_goals try have b:(p.A.map fun f=>AV.agg f.cells).length=p.A.length:=x0j _
 .exact RetK.ff (by unfold JJ;simp;omega)
 .exact RetK.ff (by unfold JJ;simp;omega)
 .have v:JJ p=(XR 0 p.A).isSome:=by unfold JJ;simp[*];omega
  rw[v];refine LoopK.inv QK (fun i:Nat×Int=>⟨[(3,.ptr 0 0),(27,.p (.sl (p.A.map fun f=>AV.agg f.cells))),(28,.p (.int .i64 (p.A.map fun f=>AV.agg f.cells).length)),(29,.p (.int .i64 i.1))],[(0,.obj 187 [.p (.int .i64 i.2)])]⟩) (fun i=>i.1<=p.A.length/\0<=i.2/\i.2<=200/\XR i.2 (p.A.drop i.1)=XR 0 p.A) (fun i=>p.A.length-i.1) (0,0) (Le.of_eq rfl) ⟨x0l _,by decide,by decide,rfl⟩ ?_;rintro⟨j,m⟩ ⟨w,x,y,o⟩;simp only at w x y o⊢;conv=>whnf
  repeat' (first|((first|(refine iM fun _=>?_)|refine cP (Zv _) ?_|refine cP (Q6 _) ?_|refine x0h rfl ?_|(refine iA fun _=>?_));conv=>whnf)|(apply bD<;>intro _<;>first|omega|conv=>whnf)|(apply bN<;>intro _<;>conv=>whnf))
  all_goals try have c:((p.A[j]'(by omega)).B.map fun a=>AV.agg a.cells).length=(p.A[j]'(by omega)).B.length:=x0j _
  all_goals try have d:((p.A[j]'(by omega)).Q.map AV.str).length=(p.A[j]'(by omega)).Q.length:=x0j _
  rotate_left 2
  .have t:j<p.A.length:=by omega
   refine LoopK.inv QK (fun i:Nat=>⟨[(3,.ptr 0 0),(5,.p (.ip p.A[j].cells)),(27,.p (.sl (p.A.map fun f=>AV.agg f.cells))),(28,.p (.int .i64 (p.A.map fun f=>AV.agg f.cells).length)),(29,.p (.int .i64 j)),(62,.p (.sl (p.A[j].B.map fun a=>AV.agg a.cells))),(63,.p (.int .i64 (p.A[j].B.map fun a=>AV.agg a.cells).length)),(64,.p (.int .i64 i))],[(0,.obj 187 [.p (.int .i64 m)])]⟩) (fun i=>i<=p.A[j].B.length/\((p.A[j].B.drop i).all fun a=>isName a.name)=p.A[j].B.all fun a=>isName a.name) (fun i=>p.A[j].B.length-i) 0 (Le.of_eq rfl) ⟨x0l _,rfl⟩ ?_;rintro i ⟨g,s⟩;conv=>whnf
   repeat' (first|((first|refine cP (Q6 _) ?_|refine x0h rfl ?_|(refine iA fun _=>?_)|refine wI ?_);conv=>whnf)|(apply bD<;>intro _<;>first|omega|conv=>whnf)|(apply bN<;>intro _<;>conv=>whnf)|(refine CallK.heap [(1000,0)] 0 (by repeat' (first|exact x1m|refine x1x ?_ ?_|exact x1v _|exact x1d Sub.nils|exact x1d (Sub.tt rfl)|exact x1d (Sub.ff rfl)|exact x1d (Sub.int (by omega)))) (by refine x0e (j:=0) rfl rfl ?_ ?_;exact CSub.refl _;exact x1l) (Ez 13 1 rfl _ _ (by omega) (by omega)) rfl rfl (Yc (by omega) (fun _ _ _ _=>?_) (fun _ _=>?_))<;>conv=>whnf))
   .exact ⟨i+1,⟨by omega,by rw[<-s,GT (p:=fun a:Param=>isName a.name) (by omega) (by assumption)]⟩,by omega,Le.of_eq rfl⟩
   .exact RetK.ff (by
     rw[<-o];refine Y9 t fun h=>?_;have:=Za (p:=fun a:Param=>isName a.name) (l:=p.A[j].B) (j:=i) (by omega) (by assumption);rw[s,h.2.2.2.2.2]at this;cases this)
   all_goals
    have q:(p.A[j].B.all fun a=>isName a.name)=true:=by rw[<-s,GR (by omega)]
    have e:KN p.A[j]=true:=JK.2 ⟨by omega,by omega,by assumption,by assumption,by assumption,q⟩;have n:=Yx (seen:=m) t;rw[e,x1u]at n
   .rename_i u k _ _;replace k:YL 1 m p.A[j].body=some u:=k;rw[k]at n;exact⟨(j+1,u),⟨by simp only;omega,by simp only;omega,by simp only;omega,by rw[<-o,n]⟩,by simp only;omega,Le.of_eq rfl⟩
   .rename_i k _;replace k:YL 1 m p.A[j].body=none:=k;rw[k]at n;exact RetK.ff (by rw[<-o,n];rfl)
  all_goals first
   |exact RetK.tt (by rw[<-o,x1q (by omega)];rfl)
   |exact RetK.ff (by rw[<-o];exact Y9 (by omega) fun h=>by omega)
   |exact RetK.ff (by rw[<-o];exact Y9 (by omega) fun h=>by simp_all)
 .exact RetK.ff (by unfold JJ;simp[*])
def WZ(l:List Str)(v:Str):SpecP prog 145 [eStrs l,.str v] (fun r=>r=.int .i64 (Xr (fun s=>v==s) l)):=by
 refine sB YY func145 rfl call145 ?_;conv=>whnf
 refine iM fun _=>?_;have n:(l.map AV.str).length=l.length:=x0j _;conv=>whnf
 refine LoopK.inv QK (fun j:Nat=>⟨[(0,.p (eStrs l)),(1,.p (.str v)),(7,.p (.int .i64 (l.map AV.str).length)),(8,.p (.int .i64 j))],[]⟩) (fun j=>j<=l.length/\(l.drop j).any (fun s=>v==s)=l.any (fun s=>v==s)/\l.findIdx (fun s=>v==s)=j+(l.drop j).findIdx (fun s=>v==s)) (fun j=>l.length-j) 0 (Le.of_eq rfl) ⟨x0l _,rfl,by simp⟩ ?_;rintro j ⟨m,h,k⟩;conv=>whnf
 repeat' (first|((first|(refine iA fun _=>?_)|refine wI ?_);conv=>whnf)|(apply bD<;>intro _<;>first|omega|conv=>whnf)|(apply bB<;>intro _<;>conv=>whnf))
 .exact RetK.int (Fy (p:=fun s=>v==s) (by omega) (by assumption) h k).symm
 .exact ⟨j+1,⟨by omega,by rw[<-h,Vo (p:=fun s=>v==s) (by omega) (by assumption)],by rw[k,q0a (p:=fun s=>v==s) (by omega) (by assumption)];omega⟩,by omega,Le.of_eq rfl⟩
 .exact RetK.int (by rw[L0];rw[<-h,NH (by omega)])
def QV(l:List Str)(v:Str):SpecP prog 130 [eStrs l,.str v] (fun r=>r=.bool (l.any fun s=>v==s)):=by
 refine sB UU func130 rfl call130 ?_;conv=>whnf
 repeat' (refine cP (WZ _ _) ?_;conv=>whnf)
 exact RetK.bool Ui
def ZG(l:List Str):Bool:=(List.range l.length).any fun i=>(l.take i).any fun s=>l[i]?.getD []==s
def MZ(l:List Str):SpecP prog 146 [eStrs l] (fun r=>r=.bool (ZG l)):=by
 refine sB Hg func146 rfl call146 ?_;conv=>whnf
 refine iM fun _=>?_;have o:(l.map AV.str).length=l.length:=x0j _;conv=>whnf
 refine LoopK.inv QK (fun j:Nat=>⟨[(0,.p (eStrs l)),(5,.p (eStrs l)),(6,.p (.int .i64 (l.map AV.str).length)),(7,.p (.int .i64 j))],[]⟩) (fun j=>j<=l.length/\((List.range l.length).drop j).any (fun i=>(l.take i).any fun s=>l[i]?.getD []==s)=ZG l) (fun j=>l.length-j) 0 (Le.of_eq rfl) ⟨x0l _,rfl⟩ ?_;rintro j ⟨n,h⟩;conv=>whnf
 repeat' (first|((first|(refine iA fun _=>?_)|refine wI ?_|refine x0h (fun e m=>by obtain⟨x,_,rfl⟩:=x0n.1 m;rfl) (SlK.mk 0 j rfl rfl (by omega) (by omega) ?_)|(refine CallK.pure (QV (l.take j) (l[j]'(by omega))) (.cons (Sub.of_eq (by simp[eStrs,map_take])) (.cons (Sub.refl _) .nil)) ?_;rintro _ rfl));conv=>whnf)|(apply bD<;>intro _<;>first|omega|conv=>whnf)|(apply bB<;>intro _<;>conv=>whnf))
 all_goals try have k:(List.range l.length)[j]'(by simp;omega)=j:=by simp
 all_goals try have e:l[j]?.getD []=l[j]'(by omega):=by rw[x0u (by omega)];rfl
 .exact RetK.tt (by rw[<-h,U0 (p:=fun i=>(l.take i).any fun s=>l[i]?.getD []==s) (by simp;omega) (by rw[k,e];assumption)])
 .exact ⟨j+1,⟨by omega,by rw[<-h,Vo (p:=fun i=>(l.take i).any fun s=>l[i]?.getD []==s) (by simp;omega) (by rw[k,e];assumption)]⟩,by omega,Le.of_eq rfl⟩
 .exact RetK.ff (by rw[<-h,NH (by simp;omega)])
def Jc(f:Pr):List Str:=f.B.map Param.name++f.Q
def Am(f:Pr)(k:f.B.length<=1000)(l:f.Q.length<=1000):SpecP prog 147 [.agg f.cells] (fun r=>r=eStrs (Jc f)):=by
 refine sB Mk func147 rfl call147 ?_;conv=>whnf
 refine iM fun _=>?_;have n:(f.B.map fun a=>AV.agg a.cells).length=f.B.length:=x0j _;conv=>whnf
 refine LoopK.inv QK (fun j:Nat=>⟨[(1,.p (.ip f.cells)),(3,.hd 0 0 j),(7,.p (.sl (f.B.map fun a=>AV.agg a.cells))),(8,.p (.int .i64 (f.B.map fun a=>AV.agg a.cells).length)),(9,.p (.int .i64 j))],[(0,.own 9 1 ((f.B.take j).map fun a=>AV.str a.name))]⟩) (fun j=>j<=f.B.length) (fun j=>f.B.length-j) 0
  (Le.mk [(0,.own 9 1 [])] (by simp[Chunk.new0];rfl) (by simp) (by simp) (.r (.cons (.nil x0k) (.r (.r (.r .nil))))) (.new x0k .nil)) (x0l _) ?_
 intro j m;conv=>whnf
 repeat' (first|((first|refine x0h rfl ?_|refine aD ?_|refine bP ?_|(refine iA fun _=>?_)|refine wI ?_|refine x4n (by simp;omega) rfl (by show(j+1)*16<=140737488355328;omega) (by show j+1<=9223372036854775807;omega) (fun x h=>by rcases x0b.1 h with rfl;exact⟨rfl,rfl⟩) ?_|refine x4n (by simp;omega) rfl (by rw[x0j];show(j+f.Q.length)*16<=140737488355328;omega) (by rw[x0j];show j+f.Q.length<=9223372036854775807;omega) (fun x h=>by obtain⟨y,_,rfl⟩:=x0n.1 h;exact⟨rfl,rfl⟩) ?_);conv=>whnf)|(apply bD<;>intro _<;>first|omega|conv=>whnf))
 .exact ⟨j+1,by omega,by omega,Le.of_eq (by rw[Ok (by omega)];rfl)⟩
 .refine ⟨_,.hd rfl (by simp;omega),?_⟩;rw[x1w (by omega)];simp[eStrs,Jc]
mutual
def ZD:S->Nat
 |.mk _ _ _ _ _ _ _ _ F L=>1+QW F+QW L
def QW:List S->Nat
 |[]=>0
 |s::r=>ZD s+QW r
end
def VX(s:S):ZD s=1+QW s.F+QW s.L:=by
 cases s;rw[ZD];rfl
def LB{l:List S}(h:j<l.length):QW (l.drop j)=ZD l[j]+QW (l.drop (j+1)):=by
 rw[QB h,QW]
def Rq{l:List S}(h:l.length<=j):QW (l.drop j)=0:=by
 rw[x1q h,QW]
def Cj:∀(n:Nat)(_:n<=100000)(s:S)(_:ZD s<=n),SpecP prog 206 [.agg s.cells] (fun r=>r=.int .i64 (ZD s)):=by
 intro n;induction n with
 |zero=>intro _ s h;rw[VX]at h;omega
 | succ n w=>
   intro f s h;have g:=VX s;have c:=S.avs_len s.F;have d:=S.avs_len s.L;refine sB Mw func206 rfl call206 ?_;conv=>whnf
   repeat' (refine iM fun _=>?_;conv=>whnf)
   refine LoopK.inv QK (fun i:Nat×Nat=>⟨[(1,.p (.ip s.cells)),(3,.p (.int .i64 i.2)),(9,.p (eSs s.F)),(10,.p (.int .i64 (S.avs s.F).length)),(11,.p (.int .i64 i.1))],[]⟩) (fun i=>i.1<=s.F.length/\1<=i.2/\i.2+QW (s.F.drop i.1)=1+QW s.F) (fun i=>s.F.length-i.1) (0,1) (Le.of_eq rfl) ⟨x0l _,x0o _,rfl⟩ ?_;rintro⟨j,a⟩ ⟨x,q,o⟩;simp only at x o q⊢;have m:∀u:j<s.F.length,QW (s.F.drop j)=ZD s.F[j]+QW (s.F.drop (j+1)):=fun u=>LB u;conv=>whnf
   repeat' (first|((first|(refine iM fun _=>?_)|refine x0h rfl ?_|refine QX (by omega) ?_|refine wI ?_|(refine CallK.pure (w (by omega) (s.F[j]'(by omega)) (by have:=m (by omega);omega)) (.cons (Sub.refl _) .nil) ?_;rintro _ rfl;have m:=m (by omega)));conv=>whnf)|(apply bD<;>intro _<;>first|omega|conv=>whnf))
   .exact ⟨(j+1,a+ZD s.F[j]),⟨by simp only;omega,by simp only;omega,by simp only;omega⟩,by simp only;omega,Le.of_eq rfl⟩
   .have e:a=1+QW s.F:=by rw[Rq (by omega)]at o;omega
    refine LoopK.inv QK (fun i:Nat×Nat=>⟨[(3,.p (.int .i64 i.2)),(21,.p (eSs s.L)),(22,.p (.int .i64 (S.avs s.L).length)),(23,.p (.int .i64 i.1))],[]⟩) (fun i=>i.1<=s.L.length/\1<=i.2/\i.2+QW (s.L.drop i.1)=ZD s) (fun i=>s.L.length-i.1) (0,a) (Le.of_eq rfl) ⟨x0l _,q,by simp only[List.drop_zero];omega⟩ ?_;rintro⟨k,b⟩ ⟨y,z,t⟩;simp only at y z t⊢;have l:∀v:k<s.L.length,QW (s.L.drop k)=ZD s.L[k]+QW (s.L.drop (k+1)):=fun v=>LB v;conv=>whnf
    repeat' (first|((first|refine x0h rfl ?_|refine QX (by omega) ?_|refine wI ?_|(refine CallK.pure (w (by omega) (s.L[k]'(by omega)) (by have:=l (by omega);omega)) (.cons (Sub.refl _) .nil) ?_;rintro _ rfl;have l:=l (by omega)));conv=>whnf)|(apply bD<;>intro _<;>first|omega|conv=>whnf))
    .exact ⟨(k+1,b+ZD s.L[k]),⟨by simp only;omega,by simp only;omega,by simp only;omega⟩,by simp only;omega,Le.of_eq rfl⟩
    .exact RetK.int (by rw[Rq (by omega)]at t;omega)
structure Item where
 s:S
 C:Int
 up:Int
 next:Int
 loop:Int
def Item.cells(i:Item):List AV:=i.s.cells++[.int .i64 i.C,.int .i64 i.up,.int .i64 i.next,.int .i64 i.loop]
mutual
def Vy(C up nx loop:Int)(acc:List Item):S->List Item
 | .mk id kind M name pr x has args F L=>
   XF C (acc.length+1) (if kind=6 then acc.length+1 else nx) (if kind=6 then acc.length+1 else loop)
    (XF C (acc.length+1) (if kind=6 then acc.length+1 else nx) (if kind=6 then acc.length+1 else loop) (acc++[⟨.mk id kind M name pr x has args F L,C,up,nx,loop⟩]) F) L
def XF(C up nx loop:Int)(acc:List Item):List S->List Item
 |[]=>acc
 |t::r=>XF C up nx loop (Vy C up (if r.isEmpty then nx else acc.length+1+ZD t) loop acc t) r
end
def DP(C l nx k:Int)(h:List Item)(t:S):Vy C l nx k h t=XF C (h.length+1) (if t.kind=6 then h.length+1 else nx) (if t.kind=6 then h.length+1 else k)
   (XF C (h.length+1) (if t.kind=6 then h.length+1 else nx) (if t.kind=6 then h.length+1 else k) (h++[⟨t,C,l,nx,k⟩]) t.F) t.L:=by
 cases t;rw[Vy];rfl
mutual
theorem ZQ(C up nx loop:Int)(acc:List Item):∀t:S,(Vy C up nx loop acc t).length=acc.length+ZD t
 | .mk id kind M name pr x has args F L=>by
   rw[Vy,ZD,XY _ _ _ _ _ L,XY _ _ _ _ _ F];simp;omega
theorem XY(C up nx loop:Int)(acc:List Item):∀l:List S,(XF C up nx loop acc l).length=acc.length+QW l
 |[]=>by rw[XF,QW];rfl
 | t::r=>by
   rw[XF,QW,XY _ _ _ _ _ r,ZQ _ _ _ _ _ t];omega
end
def VF{C n nx k:Int}{m:List Item}{l:List S}(p:j<l.length):
  XF C n nx k m (l.drop j)=XF C n nx k (Vy C n (if j+1<l.length then m.length+1+ZD l[j]else nx) k m l[j]) (l.drop (j+1)):=by
 rw[QB p,XF];congr 2;by_cases h:j+1<l.length
 .rw [if_pos h,if_neg];simp only[List.isEmpty_iff];intro o;have:=x2o List.length o;simp at this;omega
 .rw [if_neg h,if_pos];rw[x1q (by omega)];rfl
def As(n tI l:Nat)(m pr:AV)(L:List Item)(k h:List Int):Heap:=
 [(1000,.obj n [.p m,.p pr,.hd 2000 0 L.length,.hd 2001 0 k.length,.hd 2002 0 h.length]),(2000,.own tI 17 (L.map fun i=>.agg i.cells)),(2001,.own l 1 (k.map (.int .i64))),(2002,.own l 1 (h.map (.int .i64)))]
def X0:X:=.mk 0 0 [] []
def S0:S:=.mk 0 0 [] [] [] X0 false [] [] []
theorem LSub.agg{cs l:List AV}(h:SubL cs l):LSub (.p (.agg cs)) (.p (.agg l)):=.p (Sub.agg h)
def Rh:∀(n:Nat)(_:n<=1000)(l:List S)(_:QW l<n)(u:List Item)(_:u.length+QW l<=1000)(a:Item)(q pr:AV)(t s:List Int),
  SpecH prog 134 [.ptr 1000 0,.p (eSs l),.p (.agg a.cells)] (As 133 130 3 q pr u t s)
   (fun r H=>r=.p (.tup [])/\H=As 133 130 3 q pr (XF a.C a.up a.next a.loop u l) t s):=by
 intro n;induction n with
 |zero=>intro _ l h;omega
 | succ n v=>
   intro B l A u z a q pr t s;have f:=S.avs_len l;refine sH Wg func134 rfl call134 ?_;conv=>whnf
   repeat' (refine iM fun _=>?_;conv=>whnf)
   refine LoopK.inv QK (fun i:Nat×List Item=>⟨[(0,.ptr 1000 0),(1,.p (eSs l)),(5,.p (.ip a.cells)),(11,.p (eSs l)),(12,.p (.int .i64 (S.avs l).length)),(13,.p (.int .i64 i.1))],As 133 130 3 q pr i.2 t s⟩) (fun i=>i.1<=l.length/\u.length<=i.2.length/\i.2.length+QW (l.drop i.1)=u.length+QW l/\XF a.C a.up a.next a.loop i.2 (l.drop i.1)=XF a.C a.up a.next a.loop u l) (fun i=>l.length-i.1) (0,u) (Le.of_eq rfl) ⟨x0l _,x0o _,rfl,rfl⟩ ?_;rintro⟨j,b⟩ ⟨c,e,d,y⟩;simp only at c d y e⊢;have o:∀k:j<l.length,QW (l.drop j)=ZD l[j]+QW (l.drop (j+1)):=fun k=>LB k;conv=>whnf
   repeat' (first|((first|(refine iM fun _=>?_)|refine dA ?_|refine x0h rfl ?_|refine aD ?_|refine bP ?_|refine QX (by omega) ?_|refine wI ?_|(refine CallK.pure (Cj 1000 (by omega) (l[j]'(by omega)) (by have:=o (by omega);omega)) (.cons (Sub.refl _) .nil) ?_;rintro _ rfl)|refine Wr.i64 (by have:=o (by omega);omega) (by have:=o (by omega);omega) ?_|refine x4n (by simp) rfl (by show(b.length+1)*240<=140737488355328;have:=o (by omega);omega) (by show b.length+1<=9223372036854775807;have:=o (by omega);omega) (fun x g=>by rcases x0b.1 g with rfl;exact⟨rfl,rfl⟩) ?_);conv=>whnf)|(apply bD<;>intro _<;>first|omega|conv=>whnf)|(refine x0h ?_ ?_<;>conv=>whnf))
   .have k:j<l.length:=by omega
    have o:=o k;have w:=VX l[j];refine CallK.heap [(1000,1000),(2000,2000),(2001,2001),(2002,2002)] 0 (by refine x1x (x1v _) (x1x (x1v _) (x1x (LSub.agg ?_) x1m));repeat' (first|exact SubL.nil|refine SubL.cons ?_ ?_|exact Sub.refl _|exact Sub.nils|exact Sub.ff rfl)) (by exact x0e (j:=1000) rfl rfl (CSub.of_eq (by rw[x0g];first|done|rfl)) (x0e (j:=2000) rfl rfl (CSub.of_eq (by rw[x0c];first|done|rfl)) (x0e (j:=2001) rfl rfl (CSub.refl _) (x0e (j:=2002) rfl rfl (CSub.refl _) x1l)))) (v (by omega) l[j].F (by omega) (b++[⟨l[j]'k,a.C,a.up,(b.length+1+ZD (l[j]'k):Int),a.loop⟩]) (by rw[x0g];simp only[x1h];omega) ⟨S0,a.C,b.length+1,(b.length+1:Int),(b.length+1:Int)⟩ q pr t s) rfl rfl ?_;rintro l' H' ⟨rfl,rfl⟩;conv=>whnf
    refine CallK.heap [(1000,1000),(2000,2000),(2001,2001),(2002,2002)] 0 (by refine x1x (x1v _) (x1x (x1v _) (x1x (LSub.agg ?_) x1m));repeat' (first|exact SubL.nil|refine SubL.cons ?_ ?_|exact Sub.refl _|exact Sub.nils|exact Sub.ff rfl)) (by exact x0e (j:=1000) rfl rfl (CSub.refl _) (x0e (j:=2000) rfl rfl (CSub.refl _) (x0e (j:=2001) rfl rfl (CSub.refl _) (x0e (j:=2002) rfl rfl (CSub.refl _) x1l)))) (v (by omega) l[j].L (by omega) (XF a.C (b.length+1) (b.length+1:Int) (b.length+1:Int) (b++[⟨l[j]'k,a.C,a.up,(b.length+1+ZD (l[j]'k):Int),a.loop⟩]) (l[j]'k).F) (by rw[XY,x0g];simp only[x1h];omega) ⟨S0,a.C,b.length+1,(b.length+1:Int),(b.length+1:Int)⟩ q pr t s) rfl rfl ?_;rintro l' H' ⟨rfl,rfl⟩;conv=>whnf
    refine wI ?_;conv=>whnf
    have m:Vy a.C a.up (b.length+1+ZD (l[j]'k):Int) a.loop b l[j]=XF a.C (b.length+1) (b.length+1:Int) (b.length+1:Int) (XF a.C (b.length+1) (b.length+1:Int) (b.length+1:Int) (b++[⟨l[j]'k,a.C,a.up,(b.length+1+ZD (l[j]'k):Int),a.loop⟩]) (l[j]'k).F) l[j].L:=by
     rw[DP,if_pos (by assumption),if_pos (by assumption)]
    exact⟨(j+1,Vy a.C a.up (b.length+1+ZD (l[j]'k):Int) a.loop b l[j]),⟨by simp only;omega,by simp only;rw[ZQ];omega,by simp only;rw[ZQ];omega,by simp only;rw[<-y,VF k,if_pos (by omega)]⟩,by simp only;omega,Le.of_eq (by simp only;rw[m];rfl)⟩
   .have k:j<l.length:=by omega
    have o:=o k;have w:=VX l[j];refine CallK.heap [(1000,1000),(2000,2000),(2001,2001),(2002,2002)] 0 (by refine x1x (x1v _) (x1x (x1v _) (x1x (LSub.agg ?_) x1m));repeat' (first|exact SubL.nil|refine SubL.cons ?_ ?_|exact Sub.refl _|exact Sub.nils|exact Sub.ff rfl)) (by exact x0e (j:=1000) rfl rfl (CSub.of_eq (by rw[x0g];first|done|rfl)) (x0e (j:=2000) rfl rfl (CSub.of_eq (by rw[x0c];first|done|rfl)) (x0e (j:=2001) rfl rfl (CSub.refl _) (x0e (j:=2002) rfl rfl (CSub.refl _) x1l)))) (v (by omega) l[j].F (by omega) (b++[⟨l[j]'k,a.C,a.up,(b.length+1+ZD (l[j]'k):Int),a.loop⟩]) (by rw[x0g];simp only[x1h];omega) ⟨S0,a.C,b.length+1,(b.length+1+ZD (l[j]'k):Int),a.loop⟩ q pr t s) rfl rfl ?_;rintro l' H' ⟨rfl,rfl⟩;conv=>whnf
    refine CallK.heap [(1000,1000),(2000,2000),(2001,2001),(2002,2002)] 0 (by refine x1x (x1v _) (x1x (x1v _) (x1x (LSub.agg ?_) x1m));repeat' (first|exact SubL.nil|refine SubL.cons ?_ ?_|exact Sub.refl _|exact Sub.nils|exact Sub.ff rfl)) (by exact x0e (j:=1000) rfl rfl (CSub.refl _) (x0e (j:=2000) rfl rfl (CSub.refl _) (x0e (j:=2001) rfl rfl (CSub.refl _) (x0e (j:=2002) rfl rfl (CSub.refl _) x1l)))) (v (by omega) l[j].L (by omega) (XF a.C (b.length+1) (b.length+1+ZD (l[j]'k):Int) a.loop (b++[⟨l[j]'k,a.C,a.up,(b.length+1+ZD (l[j]'k):Int),a.loop⟩]) (l[j]'k).F) (by rw[XY,x0g];simp only[x1h];omega) ⟨S0,a.C,b.length+1,(b.length+1+ZD (l[j]'k):Int),a.loop⟩ q pr t s) rfl rfl ?_;rintro l' H' ⟨rfl,rfl⟩;conv=>whnf
    refine wI ?_;conv=>whnf
    have m:Vy a.C a.up (b.length+1+ZD (l[j]'k):Int) a.loop b l[j]=XF a.C (b.length+1) (b.length+1+ZD (l[j]'k):Int) a.loop (XF a.C (b.length+1) (b.length+1+ZD (l[j]'k):Int) a.loop (b++[⟨l[j]'k,a.C,a.up,(b.length+1+ZD (l[j]'k):Int),a.loop⟩]) (l[j]'k).F) l[j].L:=by
     rw[DP,if_neg (by assumption),if_neg (by assumption)]
    exact⟨(j+1,Vy a.C a.up (b.length+1+ZD (l[j]'k):Int) a.loop b l[j]),⟨by simp only;omega,by simp only;rw[ZQ];omega,by simp only;rw[ZQ];omega,by simp only;rw[<-y,VF k,if_pos (by omega)]⟩,by simp only;omega,Le.of_eq (by simp only;rw[m];rfl)⟩
   .have k:j<l.length:=by omega
    have o:=o k;have w:=VX l[j];refine CallK.heap [(1000,1000),(2000,2000),(2001,2001),(2002,2002)] 0 (by refine x1x (x1v _) (x1x (x1v _) (x1x (LSub.agg ?_) x1m));repeat' (first|exact SubL.nil|refine SubL.cons ?_ ?_|exact Sub.refl _|exact Sub.nils|exact Sub.ff rfl)) (by exact x0e (j:=1000) rfl rfl (CSub.of_eq (by rw[x0g];first|done|rfl)) (x0e (j:=2000) rfl rfl (CSub.of_eq (by rw[x0c];first|done|rfl)) (x0e (j:=2001) rfl rfl (CSub.refl _) (x0e (j:=2002) rfl rfl (CSub.refl _) x1l)))) (v (by omega) l[j].F (by omega) (b++[⟨l[j]'k,a.C,a.up,(b.length+1+ZD (l[j]'k):Int),a.loop⟩]) (by rw[x0g];simp only[x1h];omega) ⟨S0,a.C,b.length+1,(b.length+1:Int),(b.length+1:Int)⟩ q pr t s) rfl rfl ?_;rintro l' H' ⟨rfl,rfl⟩;conv=>whnf
    refine CallK.heap [(1000,1000),(2000,2000),(2001,2001),(2002,2002)] 0 (by refine x1x (x1v _) (x1x (x1v _) (x1x (LSub.agg ?_) x1m));repeat' (first|exact SubL.nil|refine SubL.cons ?_ ?_|exact Sub.refl _|exact Sub.nils|exact Sub.ff rfl)) (by exact x0e (j:=1000) rfl rfl (CSub.refl _) (x0e (j:=2000) rfl rfl (CSub.refl _) (x0e (j:=2001) rfl rfl (CSub.refl _) (x0e (j:=2002) rfl rfl (CSub.refl _) x1l)))) (v (by omega) l[j].L (by omega) (XF a.C (b.length+1) (b.length+1:Int) (b.length+1:Int) (b++[⟨l[j]'k,a.C,a.up,(b.length+1+ZD (l[j]'k):Int),a.loop⟩]) (l[j]'k).F) (by rw[XY,x0g];simp only[x1h];omega) ⟨S0,a.C,b.length+1,(b.length+1:Int),(b.length+1:Int)⟩ q pr t s) rfl rfl ?_;rintro l' H' ⟨rfl,rfl⟩;conv=>whnf
    refine wI ?_;conv=>whnf
    have m:Vy a.C a.up (b.length+1+ZD (l[j]'k):Int) a.loop b l[j]=XF a.C (b.length+1) (b.length+1:Int) (b.length+1:Int) (XF a.C (b.length+1) (b.length+1:Int) (b.length+1:Int) (b++[⟨l[j]'k,a.C,a.up,(b.length+1+ZD (l[j]'k):Int),a.loop⟩]) (l[j]'k).F) l[j].L:=by
     rw[DP,if_pos (by assumption),if_pos (by assumption)]
    exact⟨(j+1,Vy a.C a.up (b.length+1+ZD (l[j]'k):Int) a.loop b l[j]),⟨by simp only;omega,by simp only;rw[ZQ];omega,by simp only;rw[ZQ];omega,by simp only;rw[<-y,VF k,if_pos (by omega)]⟩,by simp only;omega,Le.of_eq (by simp only;rw[m];rfl)⟩
   .have k:j<l.length:=by omega
    have o:=o k;have w:=VX l[j];refine CallK.heap [(1000,1000),(2000,2000),(2001,2001),(2002,2002)] 0 (by refine x1x (x1v _) (x1x (x1v _) (x1x (LSub.agg ?_) x1m));repeat' (first|exact SubL.nil|refine SubL.cons ?_ ?_|exact Sub.refl _|exact Sub.nils|exact Sub.ff rfl)) (by exact x0e (j:=1000) rfl rfl (CSub.of_eq (by rw[x0g];first|done|rfl)) (x0e (j:=2000) rfl rfl (CSub.of_eq (by rw[x0c];first|done|rfl)) (x0e (j:=2001) rfl rfl (CSub.refl _) (x0e (j:=2002) rfl rfl (CSub.refl _) x1l)))) (v (by omega) l[j].F (by omega) (b++[⟨l[j]'k,a.C,a.up,(b.length+1+ZD (l[j]'k):Int),a.loop⟩]) (by rw[x0g];simp only[x1h];omega) ⟨S0,a.C,b.length+1,(b.length+1+ZD (l[j]'k):Int),a.loop⟩ q pr t s) rfl rfl ?_;rintro l' H' ⟨rfl,rfl⟩;conv=>whnf
    refine CallK.heap [(1000,1000),(2000,2000),(2001,2001),(2002,2002)] 0 (by refine x1x (x1v _) (x1x (x1v _) (x1x (LSub.agg ?_) x1m));repeat' (first|exact SubL.nil|refine SubL.cons ?_ ?_|exact Sub.refl _|exact Sub.nils|exact Sub.ff rfl)) (by exact x0e (j:=1000) rfl rfl (CSub.refl _) (x0e (j:=2000) rfl rfl (CSub.refl _) (x0e (j:=2001) rfl rfl (CSub.refl _) (x0e (j:=2002) rfl rfl (CSub.refl _) x1l)))) (v (by omega) l[j].L (by omega) (XF a.C (b.length+1) (b.length+1+ZD (l[j]'k):Int) a.loop (b++[⟨l[j]'k,a.C,a.up,(b.length+1+ZD (l[j]'k):Int),a.loop⟩]) (l[j]'k).F) (by rw[XY,x0g];simp only[x1h];omega) ⟨S0,a.C,b.length+1,(b.length+1+ZD (l[j]'k):Int),a.loop⟩ q pr t s) rfl rfl ?_;rintro l' H' ⟨rfl,rfl⟩;conv=>whnf
    refine wI ?_;conv=>whnf
    have m:Vy a.C a.up (b.length+1+ZD (l[j]'k):Int) a.loop b l[j]=XF a.C (b.length+1) (b.length+1+ZD (l[j]'k):Int) a.loop (XF a.C (b.length+1) (b.length+1+ZD (l[j]'k):Int) a.loop (b++[⟨l[j]'k,a.C,a.up,(b.length+1+ZD (l[j]'k):Int),a.loop⟩]) (l[j]'k).F) l[j].L:=by
     rw[DP,if_neg (by assumption),if_neg (by assumption)]
    exact⟨(j+1,Vy a.C a.up (b.length+1+ZD (l[j]'k):Int) a.loop b l[j]),⟨by simp only;omega,by simp only;rw[ZQ];omega,by simp only;rw[ZQ];omega,by simp only;rw[<-y,VF k,if_pos (by omega)]⟩,by simp only;omega,Le.of_eq (by simp only;rw[m];rfl)⟩
   .have k:j<l.length:=by omega
    have o:=o k;have w:=VX l[j];refine CallK.heap [(1000,1000),(2000,2000),(2001,2001),(2002,2002)] 0 (by refine x1x (x1v _) (x1x (x1v _) (x1x (LSub.agg ?_) x1m));repeat' (first|exact SubL.nil|refine SubL.cons ?_ ?_|exact Sub.refl _|exact Sub.nils|exact Sub.ff rfl)) (by exact x0e (j:=1000) rfl rfl (CSub.of_eq (by rw[x0g];first|done|rfl)) (x0e (j:=2000) rfl rfl (CSub.of_eq (by rw[x0c];first|done|rfl)) (x0e (j:=2001) rfl rfl (CSub.refl _) (x0e (j:=2002) rfl rfl (CSub.refl _) x1l)))) (v (by omega) l[j].F (by omega) (b++[⟨l[j]'k,a.C,a.up,a.next,a.loop⟩]) (by rw[x0g];simp only[x1h];omega) ⟨S0,a.C,b.length+1,(b.length+1:Int),(b.length+1:Int)⟩ q pr t s) rfl rfl ?_;rintro l' H' ⟨rfl,rfl⟩;conv=>whnf
    refine CallK.heap [(1000,1000),(2000,2000),(2001,2001),(2002,2002)] 0 (by refine x1x (x1v _) (x1x (x1v _) (x1x (LSub.agg ?_) x1m));repeat' (first|exact SubL.nil|refine SubL.cons ?_ ?_|exact Sub.refl _|exact Sub.nils|exact Sub.ff rfl)) (by exact x0e (j:=1000) rfl rfl (CSub.refl _) (x0e (j:=2000) rfl rfl (CSub.refl _) (x0e (j:=2001) rfl rfl (CSub.refl _) (x0e (j:=2002) rfl rfl (CSub.refl _) x1l)))) (v (by omega) l[j].L (by omega) (XF a.C (b.length+1) (b.length+1:Int) (b.length+1:Int) (b++[⟨l[j]'k,a.C,a.up,a.next,a.loop⟩]) (l[j]'k).F) (by rw[XY,x0g];simp only[x1h];omega) ⟨S0,a.C,b.length+1,(b.length+1:Int),(b.length+1:Int)⟩ q pr t s) rfl rfl ?_;rintro l' H' ⟨rfl,rfl⟩;conv=>whnf
    refine wI ?_;conv=>whnf
    have m:Vy a.C a.up a.next a.loop b l[j]=XF a.C (b.length+1) (b.length+1:Int) (b.length+1:Int) (XF a.C (b.length+1) (b.length+1:Int) (b.length+1:Int) (b++[⟨l[j]'k,a.C,a.up,a.next,a.loop⟩]) (l[j]'k).F) l[j].L:=by
     rw[DP,if_pos (by assumption),if_pos (by assumption)]
    exact⟨(j+1,Vy a.C a.up a.next a.loop b l[j]),⟨by simp only;omega,by simp only;rw[ZQ];omega,by simp only;rw[ZQ];omega,by simp only;rw[<-y,VF k,if_neg (by omega)]⟩,by simp only;omega,Le.of_eq (by simp only;rw[m];rfl)⟩
   .have k:j<l.length:=by omega
    have o:=o k;have w:=VX l[j];refine CallK.heap [(1000,1000),(2000,2000),(2001,2001),(2002,2002)] 0 (by refine x1x (x1v _) (x1x (x1v _) (x1x (LSub.agg ?_) x1m));repeat' (first|exact SubL.nil|refine SubL.cons ?_ ?_|exact Sub.refl _|exact Sub.nils|exact Sub.ff rfl)) (by exact x0e (j:=1000) rfl rfl (CSub.of_eq (by rw[x0g];first|done|rfl)) (x0e (j:=2000) rfl rfl (CSub.of_eq (by rw[x0c];first|done|rfl)) (x0e (j:=2001) rfl rfl (CSub.refl _) (x0e (j:=2002) rfl rfl (CSub.refl _) x1l)))) (v (by omega) l[j].F (by omega) (b++[⟨l[j]'k,a.C,a.up,a.next,a.loop⟩]) (by rw[x0g];simp only[x1h];omega) ⟨S0,a.C,b.length+1,a.next,a.loop⟩ q pr t s) rfl rfl ?_;rintro l' H' ⟨rfl,rfl⟩;conv=>whnf
    refine CallK.heap [(1000,1000),(2000,2000),(2001,2001),(2002,2002)] 0 (by refine x1x (x1v _) (x1x (x1v _) (x1x (LSub.agg ?_) x1m));repeat' (first|exact SubL.nil|refine SubL.cons ?_ ?_|exact Sub.refl _|exact Sub.nils|exact Sub.ff rfl)) (by exact x0e (j:=1000) rfl rfl (CSub.refl _) (x0e (j:=2000) rfl rfl (CSub.refl _) (x0e (j:=2001) rfl rfl (CSub.refl _) (x0e (j:=2002) rfl rfl (CSub.refl _) x1l)))) (v (by omega) l[j].L (by omega) (XF a.C (b.length+1) a.next a.loop (b++[⟨l[j]'k,a.C,a.up,a.next,a.loop⟩]) (l[j]'k).F) (by rw[XY,x0g];simp only[x1h];omega) ⟨S0,a.C,b.length+1,a.next,a.loop⟩ q pr t s) rfl rfl ?_;rintro l' H' ⟨rfl,rfl⟩;conv=>whnf
    refine wI ?_;conv=>whnf
    have m:Vy a.C a.up a.next a.loop b l[j]=XF a.C (b.length+1) a.next a.loop (XF a.C (b.length+1) a.next a.loop (b++[⟨l[j]'k,a.C,a.up,a.next,a.loop⟩]) (l[j]'k).F) l[j].L:=by
     rw[DP,if_neg (by assumption),if_neg (by assumption)]
    exact⟨(j+1,Vy a.C a.up a.next a.loop b l[j]),⟨by simp only;omega,by simp only;rw[ZQ];omega,by simp only;rw[ZQ];omega,by simp only;rw[<-y,VF k,if_neg (by omega)]⟩,by simp only;omega,Le.of_eq (by simp only;rw[m];rfl)⟩
   .have k:j<l.length:=by omega
    have o:=o k;have w:=VX l[j];refine CallK.heap [(1000,1000),(2000,2000),(2001,2001),(2002,2002)] 0 (by refine x1x (x1v _) (x1x (x1v _) (x1x (LSub.agg ?_) x1m));repeat' (first|exact SubL.nil|refine SubL.cons ?_ ?_|exact Sub.refl _|exact Sub.nils|exact Sub.ff rfl)) (by exact x0e (j:=1000) rfl rfl (CSub.of_eq (by rw[x0g];first|done|rfl)) (x0e (j:=2000) rfl rfl (CSub.of_eq (by rw[x0c];first|done|rfl)) (x0e (j:=2001) rfl rfl (CSub.refl _) (x0e (j:=2002) rfl rfl (CSub.refl _) x1l)))) (v (by omega) l[j].F (by omega) (b++[⟨l[j]'k,a.C,a.up,a.next,a.loop⟩]) (by rw[x0g];simp only[x1h];omega) ⟨S0,a.C,b.length+1,(b.length+1:Int),(b.length+1:Int)⟩ q pr t s) rfl rfl ?_;rintro l' H' ⟨rfl,rfl⟩;conv=>whnf
    refine CallK.heap [(1000,1000),(2000,2000),(2001,2001),(2002,2002)] 0 (by refine x1x (x1v _) (x1x (x1v _) (x1x (LSub.agg ?_) x1m));repeat' (first|exact SubL.nil|refine SubL.cons ?_ ?_|exact Sub.refl _|exact Sub.nils|exact Sub.ff rfl)) (by exact x0e (j:=1000) rfl rfl (CSub.refl _) (x0e (j:=2000) rfl rfl (CSub.refl _) (x0e (j:=2001) rfl rfl (CSub.refl _) (x0e (j:=2002) rfl rfl (CSub.refl _) x1l)))) (v (by omega) l[j].L (by omega) (XF a.C (b.length+1) (b.length+1:Int) (b.length+1:Int) (b++[⟨l[j]'k,a.C,a.up,a.next,a.loop⟩]) (l[j]'k).F) (by rw[XY,x0g];simp only[x1h];omega) ⟨S0,a.C,b.length+1,(b.length+1:Int),(b.length+1:Int)⟩ q pr t s) rfl rfl ?_;rintro l' H' ⟨rfl,rfl⟩;conv=>whnf
    refine wI ?_;conv=>whnf
    have m:Vy a.C a.up a.next a.loop b l[j]=XF a.C (b.length+1) (b.length+1:Int) (b.length+1:Int) (XF a.C (b.length+1) (b.length+1:Int) (b.length+1:Int) (b++[⟨l[j]'k,a.C,a.up,a.next,a.loop⟩]) (l[j]'k).F) l[j].L:=by
     rw[DP,if_pos (by assumption),if_pos (by assumption)]
    exact⟨(j+1,Vy a.C a.up a.next a.loop b l[j]),⟨by simp only;omega,by simp only;rw[ZQ];omega,by simp only;rw[ZQ];omega,by simp only;rw[<-y,VF k,if_neg (by omega)]⟩,by simp only;omega,Le.of_eq (by simp only;rw[m];rfl)⟩
   .have k:j<l.length:=by omega
    have o:=o k;have w:=VX l[j];refine CallK.heap [(1000,1000),(2000,2000),(2001,2001),(2002,2002)] 0 (by refine x1x (x1v _) (x1x (x1v _) (x1x (LSub.agg ?_) x1m));repeat' (first|exact SubL.nil|refine SubL.cons ?_ ?_|exact Sub.refl _|exact Sub.nils|exact Sub.ff rfl)) (by exact x0e (j:=1000) rfl rfl (CSub.of_eq (by rw[x0g];first|done|rfl)) (x0e (j:=2000) rfl rfl (CSub.of_eq (by rw[x0c];first|done|rfl)) (x0e (j:=2001) rfl rfl (CSub.refl _) (x0e (j:=2002) rfl rfl (CSub.refl _) x1l)))) (v (by omega) l[j].F (by omega) (b++[⟨l[j]'k,a.C,a.up,a.next,a.loop⟩]) (by rw[x0g];simp only[x1h];omega) ⟨S0,a.C,b.length+1,a.next,a.loop⟩ q pr t s) rfl rfl ?_;rintro l' H' ⟨rfl,rfl⟩;conv=>whnf
    refine CallK.heap [(1000,1000),(2000,2000),(2001,2001),(2002,2002)] 0 (by refine x1x (x1v _) (x1x (x1v _) (x1x (LSub.agg ?_) x1m));repeat' (first|exact SubL.nil|refine SubL.cons ?_ ?_|exact Sub.refl _|exact Sub.nils|exact Sub.ff rfl)) (by exact x0e (j:=1000) rfl rfl (CSub.refl _) (x0e (j:=2000) rfl rfl (CSub.refl _) (x0e (j:=2001) rfl rfl (CSub.refl _) (x0e (j:=2002) rfl rfl (CSub.refl _) x1l)))) (v (by omega) l[j].L (by omega) (XF a.C (b.length+1) a.next a.loop (b++[⟨l[j]'k,a.C,a.up,a.next,a.loop⟩]) (l[j]'k).F) (by rw[XY,x0g];simp only[x1h];omega) ⟨S0,a.C,b.length+1,a.next,a.loop⟩ q pr t s) rfl rfl ?_;rintro l' H' ⟨rfl,rfl⟩;conv=>whnf
    refine wI ?_;conv=>whnf
    have m:Vy a.C a.up a.next a.loop b l[j]=XF a.C (b.length+1) a.next a.loop (XF a.C (b.length+1) a.next a.loop (b++[⟨l[j]'k,a.C,a.up,a.next,a.loop⟩]) (l[j]'k).F) l[j].L:=by
     rw[DP,if_neg (by assumption),if_neg (by assumption)]
    exact⟨(j+1,Vy a.C a.up a.next a.loop b l[j]),⟨by simp only;omega,by simp only;rw[ZQ];omega,by simp only;rw[ZQ];omega,by simp only;rw[<-y,VF k,if_neg (by omega)]⟩,by simp only;omega,Le.of_eq (by simp only;rw[m];rfl)⟩
   .refine ⟨_,.refl _,rfl,?_⟩;rw[x1q (by omega),XF]at y;rw[<-y];rfl
structure Sheet where
 p:Pg
 l:List Item
 lo:List Int
 hi:List Int
def Sheet.cells(s:Sheet):List AV:=s.p.cells++[.sl (s.l.map fun i=>.agg i.cells),QI s.lo,QI s.hi]
def cntP:List Pr->Nat
 |[]=>0
 |f::r=>QW f.body+cntP r
def Ux{l:List Pr}(h:j<l.length):cntP (l.drop j)=QW l[j].body+cntP (l.drop (j+1)):=by
 rw[QB h,cntP]
def Jj(i:Nat)(h:List Item)(l k:List Int):List Pr->List Item×List Int×List Int
 |[]=>(h,l,k)
 |f::r=>Jj (i+1) (XF i 0 (-1) 0 h f.body) (l++[(h.length:Int)+1]) (k++[((XF i 0 (-1) 0 h f.body).length:Int)+1]) r
def sheetOf(p:Pg):Sheet:=⟨p,(Jj 0 [] [] [] p.A).1,(Jj 0 [] [] [] p.A).2.1,(Jj 0 [] [] [] p.A).2.2⟩
def N6{h:List Item}{m k:List Int}{l:List Pr}(n:j<l.length):
  Jj i h m k (l.drop j)=Jj (i+1) (XF i 0 (-1) 0 h l[j].body) (m++[(h.length:Int)+1]) (k++[((XF i 0 (-1) 0 h l[j].body).length:Int)+1]) (l.drop (j+1)):=by
 rw[QB n,Jj]
def q4s(m tI l:Nat)(p:Pg)(L:List Item)(k h:List Int):Heap:=
 [(0,.obj m [.p (eStrs p.D),.p (.sl (p.A.map fun f=>.agg f.cells)),.hd 1 0 L.length,.hd 2 0 k.length,.hd 3 0 h.length]),(1,.own tI 17 (L.map fun i=>.agg i.cells)),(2,.own l 1 (k.map (.int .i64))),(3,.own l 1 (h.map (.int .i64)))]
def JI(p:Pg)(J:p.A.length<=1000)(w:cntP p.A<=999):SpecP prog 75 [.agg p.cells] (fun r=>r=.ip (sheetOf p).cells):=by
 refine sB Tl func75 rfl call75 ?_;conv=>whnf
 repeat' ((first|(refine iM fun _=>?_)|refine x0h rfl ?_);conv=>whnf)
 have I:(p.A.map fun f=>AV.agg f.cells).length=p.A.length:=x0j _;refine LoopK.inv QK (fun i:Nat×List Item×List Int×List Int=>⟨[(3,.ptr 0 0),(10,.p (.sl (p.A.map fun f=>AV.agg f.cells))),(11,.p (.int .i64 (p.A.map fun f=>AV.agg f.cells).length)),(12,.p (.int .i64 i.1))],q4s 133 130 3 p i.2.1 i.2.2.1 i.2.2.2⟩)
  (fun i=>i.1<=p.A.length/\i.2.1.length+cntP (p.A.drop i.1)=cntP p.A/\i.2.2.1.length=i.1/\i.2.2.2.length=i.1/\Jj i.1 i.2.1 i.2.2.1 i.2.2.2 (p.A.drop i.1)=Jj 0 [] [] [] p.A) (fun i=>p.A.length-i.1) (0,[],[],[])
  (Le.mk [(1,.own 130 17 []),(2,.own 3 1 []),(3,.own 3 1 [])] (by simp[Chunk.new0];exact⟨rfl,rfl,rfl⟩) (by simp) (by simp[q4s]) (.r (.r (.r (.r .nil))))
    (.cons rfl (.obj (.r (.r (.cons (.nil x0k) (.cons (.nil (x0f _ x0k)) (.cons (.nil (x0f _ (x0f _ x0k))) .nil)))))) (.new x0k (.new (x0f _ x0k) (.new (x0f _ (x0f _ x0k)) .nil)))))
  ⟨x0l _,by simp,rfl,rfl,rfl⟩ ?_
 rintro⟨j,b,k,h⟩ ⟨a,d,t,u,n⟩;simp only at a d t u n⊢;conv=>whnf
 repeat' (first|((first|(refine iM fun _=>?_)|refine dA ?_|refine x0h rfl ?_|refine aD ?_|refine bP ?_|(refine iA fun _=>?_)|refine wI ?_|refine x4n (by simp) rfl (by show(k.length+1)*8<=140737488355328;omega) (by show k.length+1<=9223372036854775807;omega) (fun x s=>by rcases x0b.1 s with rfl;exact⟨rfl,rfl⟩) ?_);conv=>whnf)|(apply bD<;>intro _<;>first|omega|conv=>whnf)|(refine x0h ?_ ?_<;>conv=>whnf))
 .have o:j<p.A.length:=by omega
  have v:=Ux o;refine CallK.heap [(1000,0),(2000,1),(2001,2),(2002,3)] 0 (by refine x1x (x1v _) (x1x (x1v _) (x1x (LSub.agg ?_) x1m));repeat' (first|exact SubL.nil|refine SubL.cons ?_ ?_|exact Sub.refl _|exact Sub.nils|exact Sub.ff rfl)) (by exact x0e (j:=0) rfl rfl (CSub.of_eq (by rw[x0g];first|done|rfl)) (x0e (j:=1) rfl rfl (CSub.refl _) (x0e (j:=2) rfl rfl (CSub.of_eq (by rw[x0c];first|done|rfl)) (x0e (j:=3) rfl rfl (CSub.refl _) x1l)))) (Rh 1000 (by omega) p.A[j].body (by omega) b (by omega) ⟨S0,j,0,-1,0⟩ _ _ (k++[(b.length:Int)+1]) h) rfl rfl ?_;rintro l' H' ⟨rfl,rfl⟩;conv=>whnf
  have q:=XY j 0 (-1) 0 b p.A[j].body;repeat' (first|((first|(refine iM fun _=>?_)|refine dA ?_|refine x0h rfl ?_|refine aD ?_|refine bP ?_|refine wI ?_|refine x4n (by simp) rfl (by show(h.length+1)*8<=140737488355328;omega) (by show h.length+1<=9223372036854775807;omega) (fun x s=>by rcases x0b.1 s with rfl;exact⟨rfl,rfl⟩) ?_|refine Wr.i64 (by rw[XY];omega) (by rw[XY];omega) ?_);conv=>whnf)|(refine x0h ?_ ?_<;>conv=>whnf))
  all_goals exact⟨(j+1,XF j 0 (-1) 0 b p.A[j].body,k++[(b.length:Int)+1],h++[((XF j 0 (-1) 0 b p.A[j].body).length:Int)+1]),⟨by simp only;omega,by simp only;omega,by simp[t],by simp[u],by simp only;rw[<-n,N6 o]⟩,by simp only;omega,Le.of_eq (by simp only[q4s,x0g,x0c];rfl)⟩
 .have o:j<p.A.length:=by omega
  have v:=Ux o;refine CallK.heap [(1000,0),(2000,1),(2001,2),(2002,3)] 0 (by refine x1x (x1v _) (x1x (x1v _) (x1x (LSub.agg ?_) x1m));repeat' (first|exact SubL.nil|refine SubL.cons ?_ ?_|exact Sub.refl _|exact Sub.nils|exact Sub.ff rfl)) (by exact x0e (j:=0) rfl rfl (CSub.of_eq (by rw[x0g];first|done|rfl)) (x0e (j:=1) rfl rfl (CSub.refl _) (x0e (j:=2) rfl rfl (CSub.of_eq (by rw[x0c];first|done|rfl)) (x0e (j:=3) rfl rfl (CSub.refl _) x1l)))) (Rh 1000 (by omega) p.A[j].body (by omega) b (by omega) ⟨S0,j,0,-1,0⟩ _ _ (k++[(b.length:Int)+1]) h) rfl rfl ?_;rintro l' H' ⟨rfl,rfl⟩;conv=>whnf
  have q:=XY j 0 (-1) 0 b p.A[j].body;repeat' (first|((first|(refine iM fun _=>?_)|refine dA ?_|refine x0h rfl ?_|refine aD ?_|refine bP ?_|refine wI ?_|refine x4n (by simp) rfl (by show(h.length+1)*8<=140737488355328;omega) (by show h.length+1<=9223372036854775807;omega) (fun x s=>by rcases x0b.1 s with rfl;exact⟨rfl,rfl⟩) ?_|refine Wr.i64 (by rw[XY];omega) (by rw[XY];omega) ?_);conv=>whnf)|(refine x0h ?_ ?_<;>conv=>whnf))
  all_goals exact⟨(j+1,XF j 0 (-1) 0 b p.A[j].body,k++[(b.length:Int)+1],h++[((XF j 0 (-1) 0 b p.A[j].body).length:Int)+1]),⟨by simp only;omega,by simp only;omega,by simp[t],by simp[u],by simp only;rw[<-n,N6 o]⟩,by simp only;omega,Le.of_eq (by simp only[q4s,x0g,x0c];rfl)⟩
 .have F:p.A.drop j=[]:=x1q (by omega);rw[F,Jj]at n;refine⟨.ip (sheetOf p).cells,?_,rfl⟩;have e:(sheetOf p).cells=[eStrs p.D,.sl (p.A.map fun f=>.agg f.cells),.sl (b.map fun i=>.agg i.cells),QI k,QI h]:=by
   unfold sheetOf;rw[<-n];rfl
  rw[e];have E:∀H:Heap,getH H 1=some (.own 130 17 (b.map fun i=>.agg i.cells))->getH H 2=some (.own 3 1 (k.map (.int .i64)))->getH H 3=some (.own 3 1 (h.map (.int .i64)))->
    FrzL H [.p (eStrs p.D),.p (.sl (p.A.map fun f=>.agg f.cells)),.hd 1 0 b.length,.hd 2 0 k.length,.hd 3 0 h.length] [eStrs p.D,.sl (p.A.map fun f=>.agg f.cells),.sl (b.map fun i=>.agg i.cells),QI k,QI h]:=fun H g1 y z=>
   .cons (.p (Sub.refl _)) (.cons (.p (Sub.refl _)) (.cons (.hd g1 (by simp)) (.cons (.hd y (by simp)) (.cons (.hd z (by simp)) .nil))))
  refine Frz.ptr (off:=0) rfl rfl fun m l c G w=>?_;obtain⟨l',g,B⟩:=(E (q4s 133 130 3 p b k h) rfl rfl rfl).get.2 m c w;have C:=g.symm.trans G;cases C;exact B
theorem IdxK.at{es:List AV}{sz k:Nat}{e:AV}{n:Int}{K:List AV->Prop}(m:n=k)(l:es[k]?=some e)(o:e.cells.length=sz)(h:K e.cells):IdxK es sz n K:=⟨k,e,m,l,o,h⟩
def VS{l:List Int}{k:Nat}{n:Int}(h:l[k]?=some n):(l.map (AV.int .i64))[k]?=some (.int .i64 n):=by simp[h]
def VC(l:List Item):AV:=.sl (l.map fun i=>.agg i.cells)
def LA(s:Sheet)(i k h:Nat)(m:s.lo[i]?=some ((k:Int)+1))(n:s.hi[i]?=some ((h:Int)+1))(o:k<=h)(q:h<=s.l.length)(u:s.l.length<=1000):SpecP prog 150 [.ip s.cells,.int .i64 i] (fun r=>r=VC ((s.l.take h).drop k)):=by
 refine sB Vf func150 rfl call150 ?_;conv=>whnf
 repeat' ((first|refine dA ?_|refine wI ?_|(refine IdxK.at rfl (VS m) rfl ?_)|(refine IdxK.at rfl (VS n) rfl ?_)|refine x0h (fun e t=>by obtain⟨x,_,rfl⟩:=x0n.1 t;rfl) (SlK.mk k h (by simp) (by simp) o (by simpa using q) ?_));conv=>whnf)
 exact RetK.p (by simp[VC,map_take,List.map_drop])
def KB(s:Sheet)(id:Int):SpecP prog 60 [.ip s.cells,.int .i64 id] (fun r=>r=.bool (decide (1<=id)&&decide (id<=s.l.length))):=by
 refine sB Wj func60 rfl call60 ?_;conv=>whnf
 repeat' (first|(refine iM fun _=>?_;conv=>whnf)|(apply bD<;>intro _<;>first|omega|conv=>whnf))
 all_goals have h:(s.l.map fun i=>AV.agg i.cells).length=s.l.length:=x0j _
 .exact RetK.bool (by simp_all)
 .exact RetK.ff (by simp;omega)
def Wl(s:Sheet)(i h k:Nat)(l:s.lo[i]?=some ((h:Int)+1))(m:s.hi[i]?=some ((k:Int)+1)):SpecP prog 136 [.ip s.cells,.int .i64 i] (fun r=>r=.int .i64 (if h<k then(h:Int)+1 else -1)):=by
 refine sB MN func136 rfl call136 ?_;conv=>whnf
 repeat' (first|((first|refine dA ?_|(refine IdxK.at rfl (VS l) rfl ?_)|(refine IdxK.at rfl (VS m) rfl ?_));conv=>whnf)|(apply bD<;>intro _<;>first|omega|conv=>whnf))
 .exact RetK.int (by rw[if_pos (by omega)])
 .exact RetK.int (by rw[if_neg (by omega)])
def UN(l:List Str)(g:Nat)(c:AV)(p:Str->Bool)(m:∀s,SpecP prog g [.str s,c] (fun r=>r=.bool (p s))):SpecP prog 210 [eStrs l,.fn g [c]] (fun r=>r=.int .i64 (Xr p l)):=by
 refine sB VL func210 rfl call210 ?_;conv=>whnf
 refine iM fun _=>?_;have o:(l.map AV.str).length=l.length:=x0j _;conv=>whnf
 refine LoopK.inv QK (fun j:Nat=>⟨[(0,.p (eStrs l)),(1,.p (.fn g [c])),(7,.p (.int .i64 (l.map AV.str).length)),(8,.p (.int .i64 j))],[]⟩) (fun j=>j<=l.length/\(l.drop j).any p=l.any p/\l.findIdx p=j+(l.drop j).findIdx p) (fun j=>l.length-j) 0 (Le.of_eq rfl) ⟨x0l _,rfl,by simp⟩ ?_;rintro j ⟨n,h,k⟩;conv=>whnf
 repeat' (first|((first|(refine iA fun _=>?_)|refine wI ?_|refine cP (m _) ?_);conv=>whnf)|(apply bD<;>intro _<;>first|omega|conv=>whnf)|(apply bB<;>intro _<;>conv=>whnf))
 .exact RetK.int (Fy (p:=p) (by omega) (by assumption) h k).symm
 .exact ⟨j+1,⟨by omega,by rw[<-h,Vo (p:=p) (by omega) (by assumption)],by rw[k,q0a (p:=p) (by omega) (by assumption)];omega⟩,by omega,Le.of_eq rfl⟩
 .exact RetK.int (by rw[L0];rw[<-h,NH (by omega)])
def VM(l:List Str)(g:Nat)(c:AV)(p:Str->Bool)(h:∀s,SpecP prog g [.str s,c] (fun r=>r=.bool (p s))):SpecP prog 148 [eStrs l,.fn g [c]] (fun r=>r=.bool (l.any p)):=by
 refine sB WR func148 rfl call148 ?_;conv=>whnf
 repeat' (refine cP (UN _ _ _ p h) ?_;conv=>whnf)
 exact RetK.bool Ui
def XS(l:List Pr)(g:Nat)(c:AV)(p:Pr->Bool)(m:∀s:Pr,SpecP prog g [.agg s.cells,c] (fun r=>r=.bool (p s))):SpecP prog 100 [.sl (l.map fun f=>.agg f.cells),.fn g [c]] (fun r=>r=.int .i64 (Xr p l)):=by
 refine sB WF func100 rfl call100 ?_;conv=>whnf
 refine iM fun _=>?_;have o:(l.map fun f=>AV.agg f.cells).length=l.length:=x0j _;conv=>whnf
 refine LoopK.inv QK (fun j:Nat=>⟨[(0,.p (.sl (l.map fun f=>.agg f.cells))),(1,.p (.fn g [c])),(7,.p (.int .i64 (l.map fun f=>AV.agg f.cells).length)),(8,.p (.int .i64 j))],[]⟩) (fun j=>j<=l.length/\(l.drop j).any p=l.any p/\l.findIdx p=j+(l.drop j).findIdx p) (fun j=>l.length-j) 0 (Le.of_eq rfl) ⟨x0l _,rfl,by simp⟩ ?_;rintro j ⟨n,h,k⟩;conv=>whnf
 repeat' (first|((first|(refine iA fun _=>?_)|refine wI ?_|refine cP (m _) ?_);conv=>whnf)|(apply bD<;>intro _<;>first|omega|conv=>whnf)|(apply bB<;>intro _<;>conv=>whnf))
 .exact RetK.int (Fy (p:=p) (by omega) (by assumption) h k).symm
 .exact ⟨j+1,⟨by omega,by rw[<-h,Vo (p:=p) (by omega) (by assumption)],by rw[k,q0a (p:=p) (by omega) (by assumption)];omega⟩,by omega,Le.of_eq rfl⟩
 .exact RetK.int (by rw[L0];rw[<-h,NH (by omega)])
def WK(l:List Pr)(g:Nat)(c:AV)(p:Pr->Bool)(h:∀s:Pr,SpecP prog g [.agg s.cells,c] (fun r=>r=.bool (p s))):SpecP prog 267 [.sl (l.map fun f=>.agg f.cells),.fn g [c]] (fun r=>r=.bool (l.any p)):=by
 refine sB ZR func267 rfl call267 ?_;conv=>whnf
 repeat' (refine cP (XS _ _ _ p h) ?_;conv=>whnf)
 exact RetK.bool Ui
def Dq(p:Pg)(n:Str):SpecP prog 149 [.str n,.ip p.cells] (fun r=>r=.bool (p.D.any fun s=>n==s)):=by
 refine sB Vb func149 rfl call149 ?_;conv=>whnf
 repeat' (refine cP (QV _ _) ?_;conv=>whnf)
 exact RetK.p rfl
def Xh(n:Str)(f:Pr):SpecP prog 101 [.agg f.cells,.ip [.str n]] (fun r=>r=.bool (f.name==n)):=by
 refine sB PR func101 rfl call101 ?_;conv=>whnf
 skip
 exact RetK.p rfl
def Dg(n:Str)(f:Pr):SpecP prog 268 [.agg f.cells,.ip [.str n]] (fun r=>r=.bool (f.name==n)):=by
 refine sB Vn func268 rfl call268 ?_;conv=>whnf
 skip
 exact RetK.p rfl
def XZ(s:Sheet)(n:Str):SpecP prog 51 [.ip s.cells,.str n] (fun r=>r=.int .i64 (Xr (fun f=>f.name==n) s.p.A)):=by
 refine sB X2 func51 rfl call51 ?_;conv=>whnf
 repeat' (refine cP (XS _ _ _ (fun f=>f.name==n) (fun f=>Xh n f)) ?_;conv=>whnf)
 exact RetK.p rfl
end Go.Ab
