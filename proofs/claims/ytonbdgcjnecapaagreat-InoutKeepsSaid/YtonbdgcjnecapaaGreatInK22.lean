/- word and eval: what numbers make, what expressions are worth. -/
import Derived.Test.YtonbdgcjnecapaaGreatInK9
import Derived.Test.YtonbdgcjnecapaaGreatInK14
import Derived.Test.YtonbdgcjnecapaaGreatInK16
import Derived.Test.YtonbdgcjnecapaaGreatInK21
set_option linter.all false
set_option maxRecDepth 100000
set_option maxHeartbeats 16000000
namespace Go.Ab
open Go.Proofs.Tryz
open Go.Proofs
variable {nb:List Nat}{tape vs w watch:List Int}
def w64(n:Int):Int:=IntKind.wrap .i64 n
def Ao(b:Bool):Int:=bif b then 1 else 0
def O0(op a:Int):Int×Bool:=if op=3 then(w64 (0-a),true)else if op=4 then(Ao (a==0),true)else(0,false)
def x0h(op a b:Int):Int×Bool:=if b=0 then(0,false)else if b = -1 then(if op=7 then(0,true)else if a = -9223372036854775808 then(a,true)else(w64 (0-a),true))else if op=7 then(a.tmod b,true)else(w64 (a.tdiv b),true)
def x0g(op a b:Int):Int×Bool:=if op=10 then(Ao (decide (a<b)),true)else if op=11 then(Ao (decide (a<=b)),true)else if op=12 then(Ao (decide (a>b)),true)else if op=13 then(Ao (decide (a≥b)),true)else if op=14 then(Ao (a==b),true)else if op=15 then(Ao (a != b),true)else(0,false)
def q9c(op a b:Int):Int×Bool:=if op=8 then(w64 (a+b),true)else if op=9 then(w64 (a-b),true)else if op=5 then(w64 (a*b),true)else if op=6\/op=7 then x0h op a b else if op=16 then(Ao (a != 0&&b != 0),true)else if op=17 then(Ao (a != 0||b != 0),true)else x0g op a b
def q2j(r:Int×Bool):AV:=.tup [.int .i64 r.1,.bool r.2]
def QN{H:Heap}{a:Int}{x:AV}{r:Int×Bool}(h:a=r.1)(i:Sub x (.bool r.2)):RetK H (.p (.tup [.int .i64 a,x])) (fun y=>y=q2j r):=RetK.tup2 h i
def NR(b:Bool):SpecP prog 327 [.bool b] (fun r=>r=.int .i64 (Ao b)):=by
 refine sB SC func327 rfl call327 ?_;conv=>whnf
 repeat' (apply bB<;>intro _<;>conv=>whnf)
 all_goals exact RetK.int (by simp_all[Ao])
def A5(a:Int):SpecP prog 303 [.int .i64 a] (fun r=>r=.bool (a != 0)):=by
 refine sB N8 func303 rfl call303 ?_;conv=>whnf
 skip
 all_goals exact RetK.bool rfl
def q1r(op a:Int):SpecP prog 302 [.int .i64 op,.int .i64 a] (fun r=>r=q2j (O0 op a)):=by
 refine sB ST func302 rfl call302 ?_;conv=>whnf
 repeat' (first|((first|refine cP (NR _) ?_|refine Wr.wrap ?_);conv=>whnf)|(apply bD<;>intro _<;>first|omega|conv=>whnf))
 all_goals first
  |exact QN (by unfold O0;rw[if_pos (by assumption)];rfl) (Sub.tt (by unfold O0;rw[if_pos (by assumption)]))
  |exact QN (by unfold O0;rw[if_neg (by assumption),if_pos (by assumption)]) (Sub.tt (by unfold O0;rw[if_neg (by assumption),if_pos (by assumption)]))
  |exact QN (by unfold O0;rw[if_neg (by assumption),if_neg (by assumption)]) (Sub.ff (by unfold O0;rw[if_neg (by assumption),if_neg (by assumption)]))
def Tp(op a b:Int):SpecP prog 328 [.int .i64 op,.int .i64 a,.int .i64 b] (fun r=>r=q2j (x0h op a b)):=by
 refine sB Dk func328 rfl call328 ?_;conv=>whnf
 unfold x0h;by_cases i:b=0
 .rw [if_pos i];repeat' (apply bD<;>intro _<;>first|omega|conv=>whnf)
  all_goals exact QN rfl (Sub.ff rfl)
 rw[if_neg i];by_cases j:b = -1
 .rw [if_pos j];by_cases h:op=7
  .rw [if_pos h];repeat' (apply bD<;>intro _<;>first|omega|conv=>whnf)
   all_goals exact QN rfl (Sub.tt rfl)
  rw[if_neg h];by_cases k:a = -9223372036854775808
  .rw [if_pos k];repeat' (apply bD<;>intro _<;>first|omega|conv=>whnf)
   all_goals exact QN rfl (Sub.tt rfl)
  rw[if_neg k];repeat' (first|(refine Wr.wrap ?_;conv=>whnf)|(apply bD<;>intro _<;>first|omega|conv=>whnf))
  all_goals exact QN rfl (Sub.tt rfl)
 rw[if_neg j];by_cases h:op=7
 .rw [if_pos h];repeat' (first|(refine x6d i ?_;conv=>whnf)|(apply bD<;>intro _<;>first|omega|conv=>whnf))
  all_goals exact QN rfl (Sub.tt rfl)
 rw[if_neg h];repeat' (first|((first|refine x6d i ?_|refine Wr.wrap ?_);conv=>whnf)|(apply bD<;>intro _<;>first|omega|conv=>whnf))
 all_goals exact QN rfl (Sub.tt rfl)
def R1(op a b:Int):SpecP prog 329 [.int .i64 op,.int .i64 a,.int .i64 b] (fun r=>r=q2j (x0g op a b)):=by
 refine sB Gf func329 rfl call329 ?_;conv=>whnf
 repeat' (first|(refine cP (NR _) ?_;conv=>whnf)|(apply bD<;>intro _<;>first|omega|conv=>whnf))
 all_goals
  unfold x0g
  (repeat' first
    |rw[if_pos (by assumption)]
    |rw[if_neg (by assumption)])
  first
   |exact QN rfl (Sub.tt rfl)
   |exact QN rfl (Sub.ff rfl)
def q1t(op a b:Int):SpecP prog 304 [.int .i64 op,.int .i64 a,.int .i64 b] (fun r=>r=q2j (q9c op a b)):=by
 refine sB SS func304 rfl call304 ?_;conv=>whnf
 have p:=Tp op a b;have n:=R1 op a b;unfold q9c;by_cases l:op=8
 .rw [if_pos l];repeat' (first|(refine Wr.wrap ?_;conv=>whnf)|(apply bD<;>intro _<;>first|omega|conv=>whnf))
  all_goals exact QN rfl (Sub.tt rfl)
 rw[if_neg l];by_cases m:op=9
 .rw [if_pos m];repeat' (first|(refine Wr.wrap ?_;conv=>whnf)|(apply bD<;>intro _<;>first|omega|conv=>whnf))
  all_goals exact QN rfl (Sub.tt rfl)
 rw[if_neg m];by_cases k:op=5
 .rw [if_pos k];repeat' (first|(refine Wr.wrap ?_;conv=>whnf)|(apply bD<;>intro _<;>first|omega|conv=>whnf))
  all_goals exact QN rfl (Sub.tt rfl)
 rw[if_neg k];by_cases j:op=6\/op=7
 .rw [if_pos j];generalize x0h op a b=d at*
  repeat' (first|(refine cP p ?_;conv=>whnf)|(apply bD<;>intro _<;>first|omega|conv=>whnf))
  all_goals first
   |exact QN rfl (Sub.refl _)
   |(exfalso;omega)
 rw[if_neg j];by_cases h:op=16
 .rw [if_pos h];repeat' (first|((first|refine cP (NR _) ?_|(refine CallK.pure (NR false) (.cons (Sub.ff rfl) .nil) ?_;rintro _ rfl));conv=>whnf)|(apply bD<;>intro _<;>first|omega|conv=>whnf)|(apply bE<;>intro _<;>first|omega|conv=>whnf))
  all_goals first
   |(exfalso;omega)
   |exact QN (by rw[show(a != 0)=true by simpa using(show ¬a=0 by assumption)];rfl) (Sub.tt rfl)
   |exact QN (by rw[show(a != 0)=false by simpa using(show a=0 by assumption)];rfl) (Sub.tt rfl)
   |exact QN (by simp_all;done) (Sub.tt rfl)
 rw[if_neg h];by_cases i:op=17
 .rw [if_pos i];repeat' (first|((first|refine cP (NR _) ?_|(refine CallK.pure (NR true) (.cons (Sub.tt rfl) .nil) ?_;rintro _ rfl));conv=>whnf)|(apply bD<;>intro _<;>first|omega|conv=>whnf)|(apply bE<;>intro _<;>first|omega|conv=>whnf))
  all_goals first
   |(exfalso;omega)
   |exact QN (by rw[show(a != 0)=true by simpa using(show ¬a=0 by assumption)];rfl) (Sub.tt rfl)
   |exact QN (by rw[show(a != 0)=false by simpa using(show a=0 by assumption)];rfl) (Sub.tt rfl)
   |exact QN (by simp_all;done) (Sub.tt rfl)
 rw[if_neg i];generalize x0g op a b=d at*
 repeat' (first|(refine cP n ?_;conv=>whnf)|(apply bD<;>intro _<;>first|omega|conv=>whnf))
 all_goals first
  |exact QN rfl (Sub.refl _)
  |(exfalso;omega)
def Y4(h:List Str)(i:List Int)(s:Str):Int:=if 0<=idxF (fun y=>s==y) h/\idxF (fun y=>s==y) h<i.length then i.getD (idxF (fun y=>s==y) h).toNat 0 else 0
def evN(h:Str->Int):Nat->X->Int×Bool
 |0,_=>(0,false)
 | n+1,x=>if x.op=1 then(x.n,true)else if x.op=2 then(h x.name,true)else match x.kids with
   |[]=>(0,false)
   |[a]=>bif (evN h n a).2 then O0 x.op (evN h n a).1 else(0,false)
   |a::b::_=>bif (evN h n a).2 then(if x.op=16/\(evN h n a).1=0 then(0,true)else if x.op=17/\(evN h n a).1≠0 then(1,true)else bif (evN h n b).2 then q9c x.op (evN h n a).1 (evN h n b).1 else(0,false))else(0,false)
def evX(h:Str->Int)(x:X):Int×Bool:=bif R5 x then evN h 20 x else(0,false)
def AB{n:Nat}{x:X}(h:WQ (n+1) x=true)(m:x.op≠1)(p:x.op≠2):(∃a,x.kids=[a]/\WQ n a=true)\/∃a b,x.kids=[a,b]/\WQ n a=true/\WQ n b=true:=by
 obtain⟨j,_,i⟩:=NJ h;have k:(x.kids.length:Int)=Xe x.op:=by
  rw[WQ,x7y]at h;exact of_decide_eq_true h.1
 have l:0<x.kids.length:=by
  unfold Xe at k
  (repeat' split at k)<;>omega
 match hq:x.kids,l,j,i with
 |[a],_,_,i=>exact .inl ⟨a,rfl,i a (by simp)⟩
 |[a,b],_,_,i=>exact .inr ⟨a,b,rfl,i a (by simp),i b (by simp)⟩
 |a::b::c::r,_,j,_=>simp at j
def q4d:∀(n:Nat)(x:X)(_:WQ n x=true)(i:List Str)(j:List Int),SpecP prog 265 [.agg x.cells,eStrs i,XL j] (fun r=>r=q2j (evN (Y4 i j) n x)):=by
 intro n;induction n with
 |zero=>intro x h;rw[WQ]at h;cases h
 | succ n D=>
   intro x L i j;have c:=XU i x.name;have K:(j.map (AV.int .i64)).length=j.length:=x6j _;refine sB Ax func265 rfl call265 ?_;conv=>whnf
   by_cases u:x.op=1
   .have e:evN (Y4 i j) (n+1) x=(x.n,true):=by rw[evN,if_pos u]
    rw[e];repeat' (apply bD<;>intro _<;>first|omega|conv=>whnf)
    all_goals exact QN rfl (Sub.tt rfl)
   by_cases f:x.op=2
   .have e:evN (Y4 i j) (n+1) x=(Y4 i j x.name,true):=by rw[evN,if_neg u,if_pos f]
    rw[e];unfold Y4;generalize idxF (fun y=>x.name==y) i=ix at*
    by_cases F:0<=ix/\ix<j.length
    .rw [if_pos F];have J:(j.map (AV.int .i64))[ix.toNat]?=some (.int .i64 (j.getD ix.toNat 0)):=by
      rw[x6a,x6h,x6k (by omega)];rfl
     repeat' (first|((first|(refine iM fun _=>?_)|refine cP c ?_|(refine IdxK.at (k:=ix.toNat) (by omega) J rfl ?_));conv=>whnf)|(apply bD<;>intro _<;>first|omega|conv=>whnf))
     all_goals first
      |exact QN rfl (Sub.tt rfl)
      |(exfalso;omega)
    .rw [if_neg F];repeat' (first|((first|(refine iM fun _=>?_)|refine cP c ?_);conv=>whnf)|(apply bD<;>intro _<;>first|omega|conv=>whnf))
     all_goals first
      |(exfalso;omega)
      |exact QN rfl (Sub.tt rfl)
   rcases AB L u f with⟨a,q,B⟩|⟨a,b,q,B,I⟩
   .have z:=D a B i j;have e:evN (Y4 i j) (n+1) x=bif (evN (Y4 i j) n a).2 then O0 x.op (evN (Y4 i j) n a).1 else(0,false):=by rw[evN,if_neg u,if_neg f,q]
    rw[e];have m:(X.avs x.kids)[0]?=some (.agg a.cells):=by rw[q,X.avs_eq];rfl
    have C:(X.avs x.kids).length=1:=by rw[q,X.avs_eq];rfl
    generalize evN (Y4 i j) n a=ea at*
    obtain⟨l,E⟩:=ea;have g:=q1r x.op l;generalize X.avs x.kids=ks at*
    cases E;all_goals
     simp only[x7z,x7k];generalize O0 x.op l=ov at*
     repeat' (first|((first|(refine iM fun _=>?_)|(refine IdxK.at (k:=0) rfl m rfl ?_)|refine cP z ?_|refine cP g ?_|refine Br.tt ?_|refine Br.ff ?_);conv=>whnf)|(apply bD<;>intro _<;>first|omega|conv=>whnf))
     all_goals first
      |contradiction
      |exact QN rfl (Sub.refl _)
      |exact QN rfl (Sub.ff rfl)
      |(exfalso;omega)
   .have z:=D a B i j;have G:=D b I i j;have e:evN (Y4 i j) (n+1) x=bif (evN (Y4 i j) n a).2 then(if x.op=16/\(evN (Y4 i j) n a).1=0 then(0,true)else if x.op=17/\(evN (Y4 i j) n a).1≠0 then(1,true)else bif (evN (Y4 i j) n b).2 then q9c x.op (evN (Y4 i j) n a).1 (evN (Y4 i j) n b).1 else(0,false))else(0,false):=by rw[evN,if_neg u,if_neg f,q]
    rw[e];have m:(X.avs x.kids)[0]?=some (.agg a.cells):=by rw[q,X.avs_eq];rfl
    have d:(X.avs x.kids)[1]?=some (.agg b.cells):=by rw[q,X.avs_eq];rfl
    have C:(X.avs x.kids).length=2:=by rw[q,X.avs_eq];rfl
    generalize evN (Y4 i j) n a=ea at*
    generalize evN (Y4 i j) n b=eb at*
    obtain⟨l,E⟩:=ea;obtain⟨H,M⟩:=eb;have g:=q1t x.op l H;have hT:=A5 l;have A:(l != 0) = !decide (l=0):=by by_cases h:l=0<;>simp[h]
    rw[A]at hT;generalize X.avs x.kids=ks at*
    generalize q9c x.op l H=ov at*
    cases E<;>cases M;all_goals
     simp only[x7z,x7k];by_cases t:x.op=16/\l=0
     .first
       |rw[if_pos t]
       |skip
      repeat' (first|((first|(refine iM fun _=>?_)|(refine IdxK.at (k:=0) rfl m rfl ?_)|(refine IdxK.at (k:=1) rfl d rfl ?_)|refine cP z ?_|refine cP G ?_|refine cP g ?_|refine cP hT ?_|refine Br.tt ?_|refine Br.ff ?_);conv=>whnf)|(apply bD<;>intro _<;>first|omega|conv=>whnf)|(apply bN<;>intro _<;>conv=>whnf))
      all_goals first
       |contradiction
       |exact QN rfl (Sub.tt rfl)
       |exact QN rfl (Sub.ff rfl)
       |(exfalso;omega)
       |(exfalso;have p:(!decide (l=0))=true:=(by assumption);simp at p;omega)
       |(exfalso;have p:(!decide (l=0))=false:=(by assumption);simp at p;omega)
     by_cases v:x.op=17/\l≠0
     .first
       |rw[if_neg t,if_pos v]
       |skip
      repeat' (first|((first|(refine iM fun _=>?_)|(refine IdxK.at (k:=0) rfl m rfl ?_)|refine cP z ?_|refine cP hT ?_|refine Br.tt ?_|refine Br.ff ?_);conv=>whnf)|(apply bD<;>intro _<;>first|omega|conv=>whnf)|(apply bE<;>intro _<;>first|omega|conv=>whnf))
      all_goals first
       |contradiction
       |exact QN rfl (Sub.tt rfl)
       |exact QN rfl (Sub.ff rfl)
       |(exfalso;omega)
       |(exfalso;have p:(!decide (l=0))=true:=(by assumption);simp at p;omega)
       |(exfalso;have p:(!decide (l=0))=false:=(by assumption);simp at p;omega)
     first
      |rw[if_neg t,if_neg v]
      |skip
     repeat' (first|((first|(refine iM fun _=>?_)|(refine IdxK.at (k:=0) rfl m rfl ?_)|(refine IdxK.at (k:=1) rfl d rfl ?_)|refine cP z ?_|refine cP G ?_|refine cP g ?_|refine cP hT ?_|refine Br.tt ?_|refine Br.ff ?_);conv=>whnf)|(apply bD<;>intro _<;>first|omega|conv=>whnf)|(apply bE<;>intro _<;>first|omega|conv=>whnf)|(apply bN<;>intro _<;>conv=>whnf))
     all_goals first
      |contradiction
      |exact QN rfl (Sub.refl _)
      |exact QN rfl (Sub.ff rfl)
      |(exfalso;omega)
      |(exfalso;have p:(!decide (l=0))=true:=(by assumption);simp at p;omega)
      |(exfalso;have p:(!decide (l=0))=false:=(by assumption);simp at p;omega)
def q4f(x:X)(h:List Str)(i:List Int):SpecP prog 207 [.agg x.cells,eStrs h,XL i] (fun r=>r=q2j (evX (Y4 h i) x)):=by
 refine sB Aq func207 rfl call207 ?_;conv=>whnf
 have j:=GY x;unfold evX;cases k:R5 x with
 | false=>
   rw[k]at j;repeat' ((first|refine cP j ?_|refine Br.tt ?_);conv=>whnf)
   all_goals first
    |contradiction
    |exact QN rfl (Sub.ff rfl)
 | true=>
   have l:=q4d 20 x k h i;rw[k]at j;rw[x7z];generalize evN (Y4 h i) 20 x=ev at*
   repeat' ((first|refine cP j ?_|refine cP l ?_|refine Br.ff ?_);conv=>whnf)
   all_goals first
    |contradiction
    |exact QN rfl (Sub.refl _)
def varsS(p:Pg)(f:Pr):List Str:=p.B++V5 f
def CD(p:Pg)(D:YH p=true)(k:Nat)(f:Pr)(u:p.A[k]?=some f)(I:∀(j:Nat)(g:Pr),p.A[j]?=some g->g.name=f.name->j=k)(x:f.C.length<=1000)(y:f.E.length<=1000)(J:p.B.length<=1000):SpecP prog 135 [.agg p.cells,.str f.name] (fun r=>r=eStrs (varsS p f)):=by
 refine sB N1 func135 rfl call135 ?_;conv=>whnf
 have v:=Pw p;rw[D]at v;have d:k<p.A.length:=(x6n.1 u).1;have z:=Lu f x y;have n:SpecH prog 170 ([eStrs p.B].map .p) [] (OneRow (Gy p.B) (p.B=[])):=WR p.B (by omega);have G:(V5 f).length<=100000:=by
  unfold V5;rw[x6f,x6j];omega
 have H:(p.A.map fun f=>AV.agg f.cells).length=p.A.length:=x6j _;have i:eStrs (varsS p f)=.sl (p.B.map AV.str++(V5 f).map AV.str):=by unfold varsS eStrs;rw[x6l]
 rw[i];repeat' ((first|(refine iM fun _=>?_)|refine cP v ?_|refine Br.ff ?_);conv=>whnf)
 all_goals first
  |contradiction
  |skip
 refine LoopK.inv QW (fun j:Nat=>⟨[(1,.p (.str f.name)),(2,.p (.ip p.cells)),(11,.p (.sl (p.A.map fun f=>.agg f.cells))),(12,.p (.int .i64 (p.A.map fun f=>AV.agg f.cells).length)),(13,.p (.int .i64 j))],[]⟩) (fun j=>j<=k) (fun j=>k-j) 0 (Le.of_eq rfl) (x6t _) ?_;intro j K;have t:j<p.A.length:=by omega
 have l:p.A[j]?=some p.A[j]:=x6k t;rcases x6c j k with e|c
 .have F:(p.A[j].name==f.name)=false:=z0f.2 fun a=>by
   have:=I j _ l a;omega
  conv=>whnf
  repeat' (first|((first|refine dA ?_|refine x6d rfl ?_|(refine iA fun _=>?_)|refine wI ?_);conv=>whnf)|(apply bD<;>intro _<;>first|omega|conv=>whnf)|(apply bB<;>intro _<;>conv=>whnf))
  all_goals first
   |exact⟨j+1,by omega,by omega,Le.of_eq rfl⟩
   |(exfalso;simp_all;done)
 .obtain rfl:j=k:=by omega
  have h:p.A[j]=f:=by rw[l]at u;exact x8l u
  have q:SpecP prog 147 [.agg p.A[j].cells] (fun r=>r=eStrs (V5 f)):=by rw[h];exact z
  have b:(p.A[j].name==f.name)=true:=by rw[h];exact x8f _
  generalize V5 f=ol at*
  conv=>whnf
  repeat' (first|((first|refine dA ?_|refine x6d rfl ?_|refine aD ?_|(refine iA fun _=>?_)|refine wI ?_|refine cP q ?_|refine ZS _ (by simp) (by simp;omega) ?_);conv=>whnf)|(apply bD<;>intro _<;>first|omega|conv=>whnf)|(apply bB<;>intro _<;>conv=>whnf)|(refine JA 0 rfl n (.cons (.p (Sub.refl _)) .nil) (fun m=>?_) ?_;rotate_left;rintro _ _ _ _ ⟨rfl,rfl,rfl⟩;all_goals conv=>whnf))
  all_goals first
   |(exfalso;simp_all;done)
   |exact⟨_,.hd rfl (by simp),rfl⟩
   |(rw[m];exact⟨_,.hd rfl (by simp),rfl⟩)
structure Fm where
 D:Nat
 names:List Str
 E:List Nat
 call:Int
structure Mc where
 stack:List Fm
 mem:List Int
 fin:Int
 steps:Int
 reads:Int
 out:List Int
 trace:List (Int×List Int)
def YN(bs:List Nat)(vs:List Nat):List AV:=vs.map fun v=>cpA (bs.getD v 0)
def evA(e:Int×List Int):AV:=.agg [.int .i64 e.1,XL e.2]
def fmA(bs:List Nat)(f:Fm):AV:=.ip [.int .i64 f.D,eStrs f.names,.sl (YN bs f.E),.int .i64 f.call]
def ZI(bs:List Nat)(mem:List Int):List (Nat×AV):=bs.zip (mem.map (.int .i64))
def mO(p:Pg)(tape watch:List Int)(g s v:Nat)(M:Mc):Chunk:=.obj 145 [.p (.ip (sheetOf p).cells),.hd 1001 0 g,.p (XL tape),.p (XL watch),.hd 2001 0 s,.hd 2002 0 v,.p (.int .i64 M.fin),.p (.int .i64 M.steps),.p (.int .i64 M.reads),.hd 2003 0 M.out.length,.hd 2004 0 M.trace.length]
def mH(p:Pg)(tape watch:List Int)(bs:List Nat)(vs:List Int)(M:Mc):Heap:=[(1000,mO p tape watch p.B.length M.stack.length vs.length M),(1001,.own 146 1 (YN bs (List.range p.B.length))),(2001,.own 194 1 (M.stack.map (fmA bs))),(2002,.own 2 1 (vs.map (.int .i64))),
 (2003,.own 2 1 (M.out.map (.int .i64))),(2004,.own 76 2 (M.trace.map evA)),(2500,.ext (.cells 2 (ZI bs M.mem)))]
structure OkF(M:Mc)(f:Fm):Prop where
 len:f.E.length=f.names.length
 rng:∀v∈f.E,v<M.mem.length
structure OkM(p:Pg)(bs:List Nat)(M:Mc):Prop where
 bl:bs.length=M.mem.length
 fr:∀f∈M.stack,OkF M f
 gl:p.B.length<=M.mem.length
 sl:M.stack.length<=1000
 nl:∀f∈M.stack,f.names.length<=100000
def I4{bs vs:List Nat}{i v:Nat}(h:vs[i]?=some v):(YN bs vs)[i]?=some (cpA (bs.getD v 0)):=by
 unfold YN;rw[x6a,h];rfl
def Ov{bs:List Nat}{mem:List Int}(i:bs.length=mem.length){v:Nat}(h:v<mem.length):(bs.getD v 0,AV.int .i64 (mem.getD v 0))∈ZI bs mem:=by
 unfold ZI;refine x9s.2 ⟨v,?_⟩;rw[List.getElem?_zip_eq_some];refine⟨?_,?_⟩
 .rw [x6h,x6k (by omega)];rfl
 .rw [x6a,x6k h];show some (AV.int .i64 mem[v])=some (AV.int .i64 (mem.getD v 0));rw[x6h,x6k h];rfl
def KD(p:Pg)(tape watch:List Int)(bs:List Nat)(vs:List Int)(M:Mc)(st:List Fm)(f:Fm)(i:M.stack=st++[f])(k:M.stack.length<=1000):SpecH prog 142 [.ptr 1000 0] (mH p tape watch bs vs M) (fun r H=>r=.p (fmA bs f)/\H=mH p tape watch bs vs M):=by
 refine sH W8 func142 rfl call142 ?_;conv=>whnf
 have l:M.stack.length=st.length+1:=by rw[i,x6f];rfl
 have h:(M.stack.map (fmA bs))[st.length]?=some (fmA bs f):=by rw[i,x6a,x7d (x7u _),z1d];rfl
 have j:(M.stack.map (fmA bs)).length=M.stack.length:=x6j _;repeat' ((first|(refine iM fun _=>?_)|refine dA ?_|refine x6d rfl ?_|refine wI ?_|refine x8q st.length (by omega) (by omega) ?_|refine x8p st.length 0 (fmA bs f) (by omega) h ?_);conv=>whnf)
 all_goals first
  |exact x8y _ (x6e _) ⟨rfl,rfl⟩
def WE(p:Pg)(tape watch:List Int)(bs:List Nat)(vs:List Int)(M:Mc)(st:List Fm)(f:Fm)(q:M.stack=st++[f])(n:M.stack.length<=1000)(name:Str)(i v:Nat)(m:idxF (fun y=>name==y) f.names=i)(t:f.E[i]?=some v):SpecH prog 137 [.ptr 1000 0,.p (.str name)] (mH p tape watch bs vs M) (fun r H=>r=.p (cpA (bs.getD v 0))/\H=mH p tape watch bs vs M):=by
 refine sH LY func137 rfl call137 ?_;conv=>whnf
 have hT:=KD p tape watch bs vs M st f q n;have h:=XU f.names name;rw[m]at h;have l:=I4 (bs:=bs) t;repeat' (first|((first|refine dA ?_|refine cP h ?_|(refine IdxK.at (k:=i) rfl l rfl ?_));conv=>whnf)|(refine CallK.heap [(1000,1000),(1001,1001),(2001,2001),(2002,2002),(2003,2003),(2004,2004),(2500,2500)] 0 (by repeat' (first|exact x7h|refine x6i ?_ ?_|exact x6e _|exact x7q Sub.nils|exact x7q (Sub.tt rfl)|exact x7q (Sub.ff rfl)|exact x7q (Sub.int (by omega)))) (by refine x6y (j:=1000) rfl rfl ?_ ?_;exact CSub.refl _;refine x6y (j:=1001) rfl rfl ?_ ?_;exact CSub.refl _;refine x6y (j:=2001) rfl rfl ?_ ?_;exact CSub.refl _;refine x6y (j:=2002) rfl rfl ?_ ?_;exact CSub.refl _;refine x6y (j:=2003) rfl rfl ?_ ?_;exact CSub.refl _;refine x6y (j:=2004) rfl rfl ?_ ?_;exact CSub.refl _;refine x6y (j:=2500) rfl rfl ?_ ?_;exact CSub.refl _;exact x7f) hT rfl rfl ?_;rintro l' H' ⟨rfl,rfl⟩;conv=>whnf))
 all_goals first
  |exact x8y _ (x6e _) ⟨rfl,rfl⟩
def QK(watch:List Int)(M:Mc)(id:Int)(h:List Int):Mc:=bif watch.any fun x=>decide (id=x)then {M with trace:=M.trace++[(id,h)]}else M
def XA(p:Pg)(tape watch:List Int)(bs:List Nat)(vs:List Int)(M:Mc)(id:Int)(h:List Int)(j:M.trace.length<=10000000):SpecH prog 139 [.ptr 1000 0,.p (.int .i64 id),.p (XL h)] (mH p tape watch bs vs M) (fun r H=>r=.p (.tup [])/\H=mH p tape watch bs vs (QK watch M id h)):=by
 refine sH LW func139 rfl call139 ?_;conv=>whnf
 have i:=HI watch id;unfold QK;cases k:watch.any fun x=>decide (id=x);all_goals
  rw[k]at i;repeat' ((first|refine x6d rfl ?_|refine aD ?_|refine bP ?_|refine cP i ?_|refine x8e (n:=M.trace.length) (by rw[x6j]) rfl (by show(M.trace.length+1)*32<=140737488355328;omega) (by show M.trace.length+1<=9223372036854775807;omega) (fun x l=>by rcases x6p.1 l with rfl;exact⟨rfl,rfl⟩) ?_|refine Br.tt ?_|refine Br.ff ?_);conv=>whnf)
 all_goals first
  |exact x8y _ (x6e _) ⟨rfl,rfl⟩
  |exact x8y _ (x6e _) ⟨rfl,by simp only[x7z];unfold mH mO;simp only[x6f,x6l];rfl⟩
def x1n(M:Mc)(f:Fm):Str->Int:=Y4 f.names (f.E.map fun v=>M.mem.getD v 0)
def QM(M:Mc)(f:Fm)(x:X):Int×Bool:=evX (x1n M f) x
def endM(M:Mc)(c:Int):Mc:={M with fin:=c}
def R2(M:Mc)(f:Fm)(x:X):Mc:=bif (QM M f x).2 then M else endM M 4
def q8a{N:Nat}{sl:List (Nat×LV)}{p:Pg}{bs:List Nat}{M:Mc}:
  Le N ⟨sl,[(1000,mO p tape watch p.B.length M.stack.length 0 M),(1001,.own 146 1 (YN bs (List.range p.B.length))),(2001,.own 194 1 (M.stack.map (fmA bs))),(2002,.own 2 1 (vs.map (.int .i64))),(2003,.own 2 1 (M.out.map (.int .i64))),(2004,.own 76 2 (M.trace.map evA)),(2500,.ext (.cells 2 (ZI bs M.mem)))]⟩
   ⟨sl,mH p tape watch bs [] M⟩:=
 Le.cut (.same (.same (.same (.cut (List.nil_prefix) (.same (.same (.same .nil)))))))
def YF(p:Pg)(tape watch:List Int)(bs:List Nat)(vs:List Int)(M:Mc)(st:List Fm)(f:Fm)(B:M.stack=st++[f])(q:OkM p bs M)(x:X):SpecH prog 138 [.ptr 1000 0,.p (.agg x.cells)] (mH p tape watch bs vs M) (fun r H=>∃c,r=.p (q2j (QM M f x))/\H=mH p tape watch bs c (R2 M f x)):=by
 refine sH LJ func138 rfl call138 ?_;conv=>whnf
 have g:f∈M.stack:=by rw[B];exact x8u _ (x6p.2 rfl)
 have hT:=KD p tape watch bs vs M st f B q.sl;have e:=q.fr f g;have D:=q.nl f g;have A:=e.len;have F:(YN bs f.E).length=f.E.length:=x6j _;have u:=fun(j:Nat) (t:j<f.E.length)=>I4 (bs:=bs) (vs:=f.E) (i:=j) (v:=f.E[j]) (x6k t);have y:=fun(j:Nat) (t:j<f.E.length)=>Ov (bs:=bs) q.bl (e.rng _ (x6o t));repeat' (first|((first|(refine iM fun _=>?_)|refine x6d rfl ?_|refine z2f 0 0 rfl rfl (x7u 0) (x6t _) ?_);conv=>whnf)|(refine CallK.heap [(1000,1000),(1001,1001),(2001,2001),(2002,2002),(2003,2003),(2004,2004),(2500,2500)] 0 (by repeat' (first|exact x7h|refine x6i ?_ ?_|exact x6e _|exact x7q Sub.nils|exact x7q (Sub.tt rfl)|exact x7q (Sub.ff rfl)|exact x7q (Sub.int (by omega)))) (by refine x6y (j:=1000) rfl rfl ?_ ?_;exact CSub.refl _;refine x6y (j:=1001) rfl rfl ?_ ?_;exact CSub.refl _;refine x6y (j:=2001) rfl rfl ?_ ?_;exact CSub.refl _;refine x6y (j:=2002) rfl rfl ?_ ?_;exact CSub.refl _;refine x6y (j:=2003) rfl rfl ?_ ?_;exact CSub.refl _;refine x6y (j:=2004) rfl rfl ?_ ?_;exact CSub.refl _;refine x6y (j:=2500) rfl rfl ?_ ?_;exact CSub.refl _;exact x7f) hT rfl rfl ?_;rintro l' H' ⟨rfl,rfl⟩;conv=>whnf))
 refine LoopK.inv QW (fun j:Nat=>⟨[(0,.ptr 1000 0),(3,.p (.ip x.cells)),(6,.p (fmA bs f)),(24,.p (.sl (YN bs f.E))),(25,.p (.int .i64 (YN bs f.E).length)),(26,.p (.int .i64 j))],mH p tape watch bs ((f.E.take j).map fun v=>M.mem.getD v 0) M⟩) (fun j=>j<=f.E.length) (fun j=>f.E.length-j) 0 ?_ (x6t _) ?_
 .exact q8a
 intro j t;have a:((f.E.take j).map fun v=>M.mem.getD v 0).length=j:=by rw[x6j,x7m];omega
 rcases x6c j f.E.length with h|h
 .have z:(f.E.take (j+1)).map (fun v=>M.mem.getD v 0)=(f.E.take j).map (fun v=>M.mem.getD v 0)++[M.mem.getD f.E[j] 0]:=by rw[x7x h,x6l];rfl
  have l:=u j h;have m:=y j h;generalize(f.E.take j).map (fun v=>M.mem.getD v 0)=W at*
  generalize M.mem.getD f.E[j] 0=n at*
  generalize bs.getD f.E[j] 0=b at*
  conv=>whnf
  repeat' (first|((first|refine dA ?_|refine x6d rfl ?_|refine aD ?_|refine bP ?_|refine wI ?_|(refine IdxK.at (k:=j) rfl l rfl ?_)|refine GZ rfl rfl ?_|refine Rm (kc:=2500) QW rfl rfl rfl rfl rfl m ?_|refine WZ (by simp) (by rw[x6j];omega) ?_);conv=>whnf)|(apply bD<;>intro _<;>first|omega|conv=>whnf)|(refine x6d ?_ ?_<;>conv=>whnf))
  all_goals first
   |exact⟨j+1,h,by omega,Le.of_eq (by rw[z];unfold mH mO;simp only[x6f,x6l];rfl)⟩
 .rw [x7w h]at a⊢;have d:=q4f x f.names (f.E.map fun v=>M.mem.getD v 0);have C:evX (Y4 f.names (f.E.map fun v=>M.mem.getD v 0)) x=QM M f x:=rfl;rw[C]at d;unfold R2;generalize f.E.map (fun v=>M.mem.getD v 0)=W at*
  generalize QM M f x=ev at*
  obtain⟨n,G⟩:=ev;cases G;all_goals
   conv=>whnf
   repeat' (first|((first|refine dA ?_|refine x6d rfl ?_|(refine QB d (.cons (.p (Sub.refl _)) (.cons (.p (Sub.refl _)) (.cons (.hd rfl (by simp)) .nil))) (by rintro _ rfl;rfl) ?_;rintro _ rfl)|refine Br.tt ?_|refine Br.ff ?_);conv=>whnf)|(apply bD<;>intro _<;>first|omega|conv=>whnf))
  all_goals first
   |contradiction
   |exact x8y _ (x6e _) ⟨W,rfl,rfl⟩
def Pn(watch:List Int)(M:Mc)(f:Fm)(t:S):Int×Mc:=bif t.has then(bif (QM M f t.x).2 then((QM M f t.x).1,QK watch M t.id [(QM M f t.x).1])else((QM M f t.x).1,endM M 4))else(0,QK watch M t.id [])
def Vx(p:Pg)(tape watch:List Int)(bs:List Nat)(vs:List Int)(M:Mc)(st:List Fm)(f:Fm)(u:M.stack=st++[f])(q:OkM p bs M)(i:M.trace.length<=10000000)(t:S):SpecH prog 78 [.ptr 1000 0,.p (.agg t.cells)] (mH p tape watch bs vs M) (fun r H=>∃h,r=.p (.int .i64 (Pn watch M f t).1)/\H=mH p tape watch bs h (Pn watch M f t).2):=by
 refine sH LU func78 rfl call78 ?_;conv=>whnf
 have m:=YF p tape watch bs vs M st f u q t.x;have k:=XA p tape watch bs vs M t.id [] i;unfold Pn R2 at*
 generalize QM M f t.x=ev at*
 obtain⟨n,v⟩:=ev;have l:=fun h=>XA p tape watch bs h M t.id [n] i;cases y:t.has
 .simp only[x7k];repeat' (first|(refine Br.tt ?_;conv=>whnf)|(refine CallK.heap [(1000,1000),(1001,1001),(2001,2001),(2002,2002),(2003,2003),(2004,2004),(2500,2500)] 0 (x6i (x6e _) (x6i (x6e _) (x6i (x7q Sub.nils) x7h))) (by refine x6y (j:=1000) rfl rfl ?_ ?_;exact CSub.refl _;refine x6y (j:=1001) rfl rfl ?_ ?_;exact CSub.refl _;refine x6y (j:=2001) rfl rfl ?_ ?_;exact CSub.refl _;refine x6y (j:=2002) rfl rfl ?_ ?_;exact CSub.refl _;refine x6y (j:=2003) rfl rfl ?_ ?_;exact CSub.refl _;refine x6y (j:=2004) rfl rfl ?_ ?_;exact CSub.refl _;refine x6y (j:=2500) rfl rfl ?_ ?_;exact CSub.refl _;exact x7f) k rfl rfl ?_;rintro l' H' ⟨rfl,rfl⟩;conv=>whnf))
  all_goals first
   |contradiction
   |(exfalso;simp_all;done)
   |exact x8y _ (x6e _) ⟨vs,rfl,rfl⟩
 .cases v;all_goals
   simp only[x7z,x7k]at m⊢;repeat' (first|((first|refine x6d rfl ?_|refine aD ?_|refine bP ?_|refine Br.tt ?_|refine Br.ff ?_);conv=>whnf)|(refine CallK.heap [(1000,1000),(1001,1001),(2001,2001),(2002,2002),(2003,2003),(2004,2004),(2500,2500)] 0 (by repeat' (first|exact x7h|refine x6i ?_ ?_|exact x6e _|exact x7q Sub.nils|exact x7q (Sub.tt rfl)|exact x7q (Sub.ff rfl)|exact x7q (Sub.int (by omega)))) (by refine x6y (j:=1000) rfl rfl ?_ ?_;exact CSub.refl _;refine x6y (j:=1001) rfl rfl ?_ ?_;exact CSub.refl _;refine x6y (j:=2001) rfl rfl ?_ ?_;exact CSub.refl _;refine x6y (j:=2002) rfl rfl ?_ ?_;exact CSub.refl _;refine x6y (j:=2003) rfl rfl ?_ ?_;exact CSub.refl _;refine x6y (j:=2004) rfl rfl ?_ ?_;exact CSub.refl _;refine x6y (j:=2500) rfl rfl ?_ ?_;exact CSub.refl _;exact x7f) m rfl rfl ?_;rintro l' H' ⟨h,rfl,rfl⟩;conv=>whnf)|(refine CallK.heap [(1000,1000),(1001,1001),(2001,2001),(2002,2002),(2003,2003),(2004,2004),(2500,2500)] 0 (by repeat' (first|exact x7h|refine x6i ?_ ?_|exact x6e _|exact x7q Sub.nils|exact x7q (Sub.tt rfl)|exact x7q (Sub.ff rfl)|exact x7q (Sub.int (by omega)))) (by refine x6y (j:=1000) rfl rfl ?_ ?_;exact CSub.refl _;refine x6y (j:=1001) rfl rfl ?_ ?_;exact CSub.refl _;refine x6y (j:=2001) rfl rfl ?_ ?_;exact CSub.refl _;refine x6y (j:=2002) rfl rfl ?_ ?_;exact CSub.refl _;refine x6y (j:=2003) rfl rfl ?_ ?_;exact CSub.refl _;refine x6y (j:=2004) rfl rfl ?_ ?_;exact CSub.refl _;refine x6y (j:=2500) rfl rfl ?_ ?_;exact CSub.refl _;exact x7f) (l h) rfl rfl ?_;rintro l' H' ⟨rfl,rfl⟩;conv=>whnf))
  all_goals first
   |contradiction
   |(exfalso;simp_all;done)
   |exact x8y _ (x6e _) ⟨h,rfl,rfl⟩
def GL(p:Pg)(k:Nat)(f:Pr)(ps:List Nat)(call:Int)(M:Mc):Mc:={M with stack:=M.stack++[⟨k,varsS p f,List.range p.B.length++ps++List.range' M.mem.length f.E.length,call⟩],mem:=M.mem++List.replicate f.E.length 0}
def Um(p:Pg)(k:Nat)(f:Pr):Int:=if QH p.A k<QH p.A k+cntL f.body then(QH p.A k:Int)+1 else -1
def mHq(p:Pg)(tape watch:List Int)(bs:List Nat)(vs:List Int)(M:Mc)(ps:List AV):Heap:=mH p tape watch bs vs M++[(2005,.own 146 1 ps)]
def opC(p:Pg)(tape watch:List Int)(bs:List Nat)(vs:List Int)(M:Mc)(ps:List Nat)(nb:List Nat):Heap:=[(1000,mO p tape watch p.B.length M.stack.length vs.length M),(1001,.own 146 1 (YN bs (List.range p.B.length))),(2001,.own 194 1 (M.stack.map (fmA bs))),(2002,.own 2 1 (vs.map (.int .i64))),
 (2003,.own 2 1 (M.out.map (.int .i64))),(2004,.own 76 2 (M.trace.map evA)),(2500,.ext (.cells 2 (ZI bs M.mem++nb.map fun b=>(b,.int .i64 0)))),(2005,.own 146 1 (YN bs ps))]
def opR(p:Pg)(bs ps nb:List Nat):List AV:=YN bs (List.range p.B.length)++YN bs ps++nb.map cpA
def opS(p:Pg)(tape watch:List Int)(bs:List Nat)(vs:List Int)(M:Mc)(k:Nat)(f:Pr)(ps:List Nat)(call:Int)(j:Nat)(nb:List Nat):St:=⟨[(0,.ptr 1000 0),(1,.p (.int .i64 k)),(10,.ptr 0 0),(52,.p (.int .i64 (f.E.map AV.str).length)),(53,.p (.int .i64 j))],
 (1,.own 146 1 (opR p bs ps nb))::(0,.obj 196 [.p (.int .i64 k),.p (eStrs (varsS p f)),.hd 1 0 (p.B.length+ps.length+j),.p (.int .i64 call)])::opC p tape watch bs vs M ps nb⟩
def opF(p:Pg)(tape watch:List Int)(bs:List Nat)(vs:List Int)(M:Mc)(k:Nat)(f:Pr)(ps:List Nat)(call:Int)(j:Nat)(nb:List Nat):St:=⟨[(0,.ptr 1000 0),(1,.p (.int .i64 k)),(10,.p (.ip [.int .i64 k,eStrs (varsS p f),.sl (opR p bs ps nb),.int .i64 call])),(52,.p (.int .i64 (f.E.map AV.str).length)),(53,.p (.int .i64 j))],opC p tape watch bs vs M ps nb⟩
def ET{p:Pg}{bs ps:List Nat}:(opR p bs ps nb).length=p.B.length+ps.length+nb.length:=by
 unfold opR YN;simp only[x6f,x6j,x9c]
def q9k{N:Nat}{p:Pg}{bs:List Nat}{M:Mc}{k:Nat}{f:Pr}{ps:List Nat}{call:Int}{j:Nat}(l:j=nb.length):Le N (opS p tape watch bs vs M k f ps call j nb) (opF p tape watch bs vs M k f ps call j nb):=by
 have h:Le N (opS p tape watch bs vs M k f ps call j nb) ⟨[(0,.ptr 1000 0),(1,.p (.int .i64 k)),(10,.ptr 0 0),(52,.p (.int .i64 (f.E.map AV.str).length)),(53,.p (.int .i64 j))],
   (0,.obj 196 ([.int .i64 k,eStrs (varsS p f),.sl (opR p bs ps nb),.int .i64 call].map .p))::opC p tape watch bs vs M ps nb⟩:=
  NW (k:=1) rfl (.cons (.keep rfl) (.cons (.keep rfl) (.cons (.keep rfl) (.cons (.keep rfl) (.cons (.keep rfl) .nil)))))
   (.drop (.obj (by decide) (.cons (.keep rfl) (.cons (.keep rfl) (.cons (.row (by rw[ET,l])) (.cons (.keep rfl) .nil))))
     (.obj (by decide) (.cons (.keep rfl) (.cons (.keep rfl) (.cons (.keep rfl) (.cons (.keep rfl) (.cons (.keep rfl) (.cons (.keep rfl) (.cons (.keep rfl) (.cons (.keep rfl) (.cons (.keep rfl) (.cons (.keep rfl) (.cons (.keep rfl) .nil)))))))))))
       (.own (by decide) (.own (by decide) (.own (by decide) (.own (by decide) (.own (by decide) (.ext (by decide) (.own (by decide) .nil))))))))))
 obtain⟨s',rfl,i⟩:=Le.fz (N:=N) (s:=⟨[(0,.ptr 1000 0),(1,.p (.int .i64 k)),(10,.ptr 0 0),(52,.p (.int .i64 (f.E.map AV.str).length)),(53,.p (.int .i64 j))],
   (0,.obj 196 ([.int .i64 k,eStrs (varsS p f),.sl (opR p bs ps nb),.int .i64 call].map .p))::opC p tape watch bs vs M ps nb⟩) (k:=0) (e:=196) (cs:=[.int .i64 k,eStrs (varsS p f),.sl (opR p bs ps nb),.int .i64 call]) rfl
  (K:=fun s=>s=opF p tape watch bs vs M k f ps call j nb) (by
    show _=_;rfl)
 exact h.trans i
def Z8{bs vs:List Nat}(h:∀v∈vs,v<bs.length):YN (bs++nb) vs=YN bs vs:=by
 unfold YN;refine z2n fun v i=>?_;rw[x6h,x6h,x7b (h v i)]
def Sm{bs:List Nat}:YN (bs++nb) (List.range' bs.length nb.length)=nb.map cpA:=by
 unfold YN;refine z1y fun i=>?_;rw[x6a,x6a];rcases x6c i nb.length with h|h
 .rw [z0m h,x6k h];simp only[x9m,z2r];rw[x6h,x7d (by omega),Nat.add_sub_cancel_left,x6k h];rfl
 .rw [x7a (by simpa using h),x7a h];rfl
def E9{bs:List Nat}{f:Fm}(h:∀v∈f.E,v<bs.length):fmA (bs++nb) f=fmA bs f:=by
 unfold fmA;rw[Z8 h]
def Nn{bs:List Nat}{mem:List Int}(h:bs.length=mem.length):ZI (bs++nb) (mem++List.replicate nb.length 0)=ZI bs mem++nb.map fun b=>(b,.int .i64 0):=by
 unfold ZI;rw[x6l,List.zip_append (by rw[x6j];exact h),x9e];congr 1;clear h;induction nb with
 |nil=>rfl
 |cons b r i=>rw[x7g,List.replicate_succ,List.zip_cons_cons,x7l,i]
def EC{p:Pg}{bs:List Nat}{M:Mc}{k:Nat}{f:Pr}{ps:List Nat}{call:Int}(h:OkM p bs M)(j:∀v∈ps,v<M.mem.length)(q:nb.length=f.E.length):
  mHq p tape watch (bs++nb) vs (GL p k f ps call M) (YN (bs++nb) ps)=[(1000,mO p tape watch p.B.length (M.stack.length+1) vs.length M),(1001,.own 146 1 (YN bs (List.range p.B.length))),(2001,.own 194 1 (M.stack.map (fmA bs)++[.ip [.int .i64 k,eStrs (varsS p f),.sl (opR p bs ps nb),.int .i64 call]])),(2002,.own 2 1 (vs.map (.int .i64))),
 (2003,.own 2 1 (M.out.map (.int .i64))),(2004,.own 76 2 (M.trace.map evA)),(2500,.ext (.cells 2 (ZI bs M.mem++nb.map fun b=>(b,.int .i64 0)))),(2005,.own 146 1 (YN bs ps))]:=by
 have l:=Z8 (bs:=bs) (nb:=nb) (vs:=List.range p.B.length) fun v i=>by
  have:=x9l.1 i;have:=h.gl;have:=h.bl;omega
 have m:=Z8 (bs:=bs) (nb:=nb) (vs:=ps) fun v i=>by rw[h.bl];exact j v i
 have r:M.stack.map (fmA (bs++nb))=M.stack.map (fmA bs):=z2n fun f x=>E9 fun v i=>by rw[h.bl];exact(h.fr f x).rng v i
 have t:=Nn (nb:=nb) h.bl;have u:fmA (bs++nb) ⟨k,varsS p f,List.range p.B.length++ps++List.range' M.mem.length f.E.length,call⟩=.ip [.int .i64 k,eStrs (varsS p f),.sl (opR p bs ps nb),.int .i64 call]:=by
  unfold fmA opR;have:YN (bs++nb) (List.range p.B.length++ps++List.range' M.mem.length f.E.length)=YN bs (List.range p.B.length)++YN bs ps++nb.map cpA:=by
   have n:∀a b:List Nat,YN (bs++nb) (a++b)=YN (bs++nb) a++YN (bs++nb) b:=fun a b=>x6l;rw[n,n,l,m,<-q,<-h.bl,Sm]
  rw[this]
 unfold mHq mH GL;simp only[x6l,x7l,z1u,x6f,x7g,x9y];rw[l,m,r,u,<-q,t];rfl
def DA(p:Pg)(tape watch:List Int)(bs:List Nat)(vs:List Int)(M:Mc)(K:OkM p bs M)(Z:M.stack.length<=500)(k:Nat)(f:Pr)(F:p.A[k]?=some f)(Q:SpecP prog 135 [.agg p.cells,.str f.name] (fun r=>r=eStrs (varsS p f)))(V:p.B.length<=1000)(hvl:f.E.length<=1000)(ps:List Nat)(Y:ps.length<=1000)(g:∀v∈ps,v<M.mem.length)(call:Int):SpecH prog 76 [.ptr 1000 0,.p (.int .i64 k),.hd 2005 0 ps.length,.p (.int .i64 call)] (mHq p tape watch bs vs M (YN bs ps)) (fun r H=>∃nb,r=.p (.int .i64 (Um p k f))/\H=mHq p tape watch (bs++nb) vs (GL p k f ps call M) (YN (bs++nb) ps)/\nb.length=f.E.length):=by
 refine sH X3 func76 rfl call76 ?_;conv=>whnf
 have hsp:(sheetOf p).p=p:=(QY p).1;have a:(p.A.map fun f=>AV.agg f.cells)[k]?=some (.agg f.cells):=by rw[x6a,F];rfl
 obtain⟨_,_,_,G,D⟩:=QY p;obtain⟨s1,s2,s3,s4⟩:=D k f F;have u:=DM (sheetOf p) k (QH p.A k) (QH p.A k+cntL f.body) s1 s2;have m:(YN bs (List.range p.B.length)).length=p.B.length:=by unfold YN;rw[x6j,x9c]
 have e:(YN bs ps).length=ps.length:=x6j _;repeat' ((first|(refine iM fun _=>?_)|refine dA ?_|refine x6d rfl ?_|refine aD ?_|(refine IdxK.at (k:=k) rfl a rfl ?_)|refine cP Q ?_|refine x8e (es:=[]) rfl m.symm (by show(0+p.B.length)*8<=140737488355328;omega) (by show 0+p.B.length<=9223372036854775807;omega) (fun x i=>by obtain⟨y,_,rfl⟩:=x6r.1 i;exact⟨rfl,rfl⟩) ?_|refine x8e (es:=[]++YN bs (List.range p.B.length)) (by rw[x9z,m];omega) e.symm (by show(0+p.B.length+ps.length)*8<=140737488355328;omega) (by show 0+p.B.length+ps.length<=9223372036854775807;omega) (fun x i=>by obtain⟨y,_,rfl⟩:=x6r.1 i;exact⟨rfl,rfl⟩) ?_);conv=>whnf)
 all_goals
  have U:(f.E.map AV.str).length=f.E.length:=x6j _;have L:(M.stack.map (fmA bs)).length=M.stack.length:=x6j _;refine LoopK.inv QW (fun x:Nat×List Nat×Bool=>bif x.2.2 then opF p tape watch bs vs M k f ps call x.1 x.2.1 else opS p tape watch bs vs M k f ps call x.1 x.2.1) (fun x=>x.1<=f.E.length/\x.2.1.length=x.1/\(x.2.2=true↔x.1=f.E.length)) (fun x=>f.E.length-x.1) (0,[],decide (0=f.E.length)) ?_ ⟨x6t _,rfl,z2q⟩ ?_
  .have C:Le Tryz.f76.ntmps (opS p tape watch bs vs M k f ps call 0 []) (bif decide (0=f.E.length)then opF p tape watch bs vs M k f ps call 0 []else opS p tape watch bs vs M k f ps call 0 []):=by
    cases decide (0=f.E.length)
    .exact Le.refl _
    .exact q9k rfl
   refine Le.trans (Le.of_eq ?_) C;unfold opS opR opC;simp only[z1u,x8x,x9z,x8d,z0r];rfl
  rintro⟨j,nb,fz⟩ ⟨J,l,q⟩;simp only at J l q⊢;cases fz with
  | false=>
    have hj:j<f.E.length:=by
     rcases x6c j f.E.length with h|h
     .exact h
     .have:=q.2 (by omega);cases this
    have O:=ET (p:=p) (bs:=bs) (ps:=ps) (nb:=nb);have z:∀b,opR p bs ps (nb++[b])=opR p bs ps nb++[cpA b]:=fun b=>by unfold opR;rw[x6l,x7n,x7n,x7n];rfl
    have t:∀b,opC p tape watch bs vs M ps (nb++[b])=[(1000,mO p tape watch p.B.length M.stack.length vs.length M),(1001,.own 146 1 (YN bs (List.range p.B.length))),(2001,.own 194 1 (M.stack.map (fmA bs))),(2002,.own 2 1 (vs.map (.int .i64))),(2003,.own 2 1 (M.out.map (.int .i64))),(2004,.own 76 2 (M.trace.map evA)),(2500,.ext (.cells 2 ((ZI bs M.mem++nb.map fun b=>(b,.int .i64 0))++[(b,.int .i64 0)]))),(2005,.own 146 1 (YN bs ps))]:=fun b=>by unfold opC;rw[x6l,<-x7n];rfl
    have fin:∀b,∃x:Nat×List Nat×Bool,(x.1<=f.E.length/\x.2.1.length=x.1/\(x.2.2=true↔x.1=f.E.length))/\f.E.length-x.1<f.E.length-j/\Le Tryz.f76.ntmps (opS p tape watch bs vs M k f ps call (j+1) (nb++[b])) (bif x.2.2 then opF p tape watch bs vs M k f ps call x.1 x.2.1 else opS p tape watch bs vs M k f ps call x.1 x.2.1):=fun b=>by
     rcases x6c (j+1) f.E.length with h|h
     .exact ⟨(j+1,nb++[b],false),⟨by simp only;omega,by simp[l],⟨fun h=>(by cases h),fun I=>by simp only at I;omega⟩⟩,by simp only;omega,Le.refl _⟩
     .exact ⟨(j+1,nb++[b],true),⟨by simp only;omega,by simp[l],⟨fun _=>by simp only;omega,fun _=>rfl⟩⟩,by simp only;omega,q9k (by simp[l])⟩
    simp only[x7k];unfold opS at fin⊢;simp only[z,t]at fin;generalize opR p bs ps nb=R at*
    conv=>whnf
    repeat' (first|((first|refine x6d rfl ?_|refine aD ?_|refine bP ?_|refine wI ?_|refine x8e (es:=R) (n:=p.B.length+ps.length+j) (by omega) rfl (by show(p.B.length+ps.length+j+1)*8<=140737488355328;omega) (by show p.B.length+ps.length+j+1<=9223372036854775807;omega) (fun x i=>by rcases x6p.1 i with rfl;exact⟨rfl,rfl⟩) ?_);conv=>whnf)|(apply bD<;>intro _<;>first|omega|conv=>whnf)|(refine Wx QW 2 2500 ?_;conv=>whnf)|(refine⟨⟨rfl,rfl⟩,fun b hb=>?_⟩;conv=>whnf))
    all_goals first
     | (obtain⟨x,i,hμ,c⟩:=fin b
        exact⟨x,i,hμ,Le.trans (Le.of_eq rfl) c⟩)
  | true=>
    obtain rfl:j=f.E.length:=q.1 rfl;have d:=EC (tape:=tape) (watch:=watch) (vs:=vs) (k:=k) (f:=f) (call:=call) (nb:=nb) K g l;simp only[x7z];unfold opF opC;generalize opR p bs ps nb=R at*
    conv=>whnf
    repeat' (first|((first|refine x6d rfl ?_|refine aD ?_|refine bP ?_|refine x8e (n:=M.stack.length) (by omega) rfl (by show(M.stack.length+1)*8<=140737488355328;omega) (by show M.stack.length+1<=9223372036854775807;omega) (fun x i=>by rcases x6p.1 i with rfl;exact⟨rfl,rfl⟩) ?_|refine cP u ?_);conv=>whnf)|(apply bD<;>intro _<;>first|omega|conv=>whnf))
    all_goals first
     |exact x8y _ (x6e _) ⟨nb,rfl,d.symm,l⟩
def varM(f:Fm)(name:Str):Nat:=f.E.getD (idxF (fun y=>name==y) f.names).toNat 0
def argsM(f:Fm):List Arg->List Nat->Mc->List Nat×Mc×Bool
 |[],ps,M=>(ps,M,true)
 |a::r,ps,M=>bif a.ref then argsM f r (ps++[varM f a.name]) M else bif (QM M f a.x).2 then argsM f r (ps++[M.mem.length]) {M with mem:=M.mem++[(QM M f a.x).1]}else(ps,endM M 4,false)
def Wc{α:Type}{q:α->Bool}{l:List α}(h:0<=idxF q l):(idxF q l).toNat<l.length:=by
 unfold idxF at*
 cases j:l.any q with
 |false=>rw[j,x7k]at h;omega
 | true=>
   rw[x7z];obtain⟨x,k,i⟩:=x8z.1 j;have:=List.findIdx_lt_length_of_exists ⟨x,k,i⟩;omega
def B2{M:Mc}{id:Int}{v:List Int}:(QK w M id v).stack=M.stack:=by
 unfold QK;cases w.any fun x=>decide (id=x)<;>rfl
def ML{M:Mc}{id:Int}{v:List Int}:(QK w M id v).mem=M.mem:=by
 unfold QK;cases w.any fun x=>decide (id=x)<;>rfl
def Od{M:Mc}{id:Int}{v:List Int}:(QK w M id v).trace.length<=M.trace.length+1:=by
 unfold QK;cases w.any fun x=>decide (id=x)
 .exact Nat.le_succ _
 .show (M.trace++[(id,v)]).length<=_;rw[x6f];exact x7u _
theorem OkM.same{p:Pg}{bs:List Nat}{M M':Mc}(h:OkM p bs M)(j:M'.stack=M.stack)(l:M'.mem=M.mem):OkM p bs M':=
 ⟨by rw[l];exact h.bl,fun f i=>⟨(h.fr f (j▸i)).len,fun v m=>by rw[l];exact(h.fr f (j▸i)).rng v m⟩,by rw[l];exact h.gl,by rw[j];exact h.sl,fun f i=>h.nl f (j▸i)⟩
theorem OkM.cell{p:Pg}{bs:List Nat}{M:Mc}(h:OkM p bs M)(b:Nat)(n:Int):OkM p (bs++[b]) {M with mem:=M.mem++[n]}:=
 ⟨by simp[h.bl],fun f i=>⟨(h.fr f i).len,fun v j=>by have:=(h.fr f i).rng v j;simp;omega⟩,by have:=h.gl;simp;omega,h.sl,h.nl⟩
def AU{p:Pg}{bs:List Nat}{M:Mc}{n:Int}{b:Nat}(h:OkM p bs M):
  mH p tape watch (bs++[b]) vs {M with mem:=M.mem++[n]}=[(1000,mO p tape watch p.B.length M.stack.length vs.length M),(1001,.own 146 1 (YN bs (List.range p.B.length))),(2001,.own 194 1 (M.stack.map (fmA bs))),(2002,.own 2 1 (vs.map (.int .i64))),
 (2003,.own 2 1 (M.out.map (.int .i64))),(2004,.own 76 2 (M.trace.map evA)),(2500,.ext (.cells 2 (ZI bs M.mem++[(b,.int .i64 n)])))]:=by
 have j:=Z8 (bs:=bs) (nb:=[b]) (vs:=List.range p.B.length) fun v i=>by
  have:=x9l.1 i;have:=h.gl;have:=h.bl;omega
 have k:M.stack.map (fmA (bs++[b]))=M.stack.map (fmA bs):=z2n fun f m=>E9 fun v i=>by rw[h.bl];exact(h.fr f m).rng v i
 have l:ZI (bs++[b]) (M.mem++[n])=ZI bs M.mem++[(b,.int .i64 n)]:=by
  unfold ZI;rw[x6l,List.zip_append (by rw[x6j];exact h.bl)];rfl
 unfold mH;simp only;rw[j,k,l];rfl
def HY(p:Pg)(watch:List Int)(M:Mc)(f:Fm)(t:S)(k:Nat)(g:Pr):Int×Mc:=bif (argsM f t.args [] M).2.2 then(if 100<(argsM f t.args [] M).2.1.stack.length then(-1,endM (argsM f t.args [] M).2.1 5)else(Um p k g,GL p k g (argsM f t.args [] M).1 t.id (QK watch (argsM f t.args [] M).2.1 t.id [])))else(-1,(argsM f t.args [] M).2.1)
structure CallI(p:Pg)(M0:Mc)(f:Fm)(t:S)(j:Nat)(ps bs:List Nat)(M:Mc):Prop where
 le:j<=t.args.length
 ok:OkM p bs M
 sk:M.stack=M0.stack
 tr:M.trace=M0.trace
 ag:argsM f (t.args.drop j) ps M=argsM f t.args [] M0
 pl:ps.length=j
 pr:∀v∈ps,v<M.mem.length
def q3n:Info:={keep:=I_run_machine_call.keep,sched:=I_run_machine_call.sched,frz:=fun i=>bif Nat.beq i 10 then []else I_run_machine_call.frz i}
def Uc(p:Pg)(tape watch:List Int)(bs:List Nat)(vs:List Int)(M:Mc)(st:List Fm)(f:Fm)(hs:M.stack=st++[f])(hM:OkM p bs M)(hsl:M.stack.length<=101)(htl:M.trace.length<=10000000)(t:S)(hal:t.args.length<=100)(har:∀a∈t.args,a.ref=true->0<=idxF (fun y=>a.name==y) f.names)(k:Nat)(g:Pr)(hk:p.A[k]?=some g)(hki:idxF (fun f=>f.name==t.D) p.A=k)(hV:SpecP prog 135 [.agg p.cells,.str g.name] (fun r=>r=eStrs (varsS p g)))(hgl:p.B.length<=1000)(hvl:g.E.length<=1000):SpecH prog 77 [.ptr 1000 0,.p (.agg t.cells)] (mH p tape watch bs vs M) (fun r H=>∃bs' G,r=.p (.int .i64 (HY p watch M f t k g).1)/\H=mH p tape watch bs' G (HY p watch M f t k g).2/\bs'.length=(HY p watch M f t k g).2.mem.length):=by
 refine sH q3n func77 rfl call77 ?_;conv=>whnf
 have hlA:(t.args.map fun a=>AV.agg a.cells).length=t.args.length:=x6j _;have hPr:SpecP prog 51 [.ip (sheetOf p).cells,.str t.D] (fun r=>r=.int .i64 k):=by
  have:=ZQ (sheetOf p) t.D;rw[show(sheetOf p).p=p from rfl,hki]at this;exact this
 repeat' (refine iM fun _=>?_;conv=>whnf)
 refine LoopK.inv QW (fun x:Nat×List Nat×List Nat×List Int×Mc=>⟨[(0,.ptr 1000 0),(3,.p (.ip t.cells)),(5,.hd 0 0 x.2.1.length),(12,.p (.sl (t.args.map fun a=>.agg a.cells))),(13,.p (.int .i64 (t.args.map fun a=>AV.agg a.cells).length)),(14,.p (.int .i64 x.1))],mH p tape watch x.2.2.1 x.2.2.2.1 x.2.2.2.2++[(0,.own 146 1 (YN x.2.2.1 x.2.1))]⟩)
  (fun x=>CallI p M f t x.1 x.2.1 x.2.2.1 x.2.2.2.2) (fun x=>t.args.length-x.1) (0,[],bs,vs,M) ?_ ⟨x6t _,hM,rfl,rfl,rfl,rfl,by simp⟩ ?_
 .exact Le.mk [(0,.own 146 1 [])] (by simp[Chunk.new0];rfl) (by simp) (by simp[mH]) (.r (.r (.cons (.nil x6g) (.r (.r (.r .nil)))))) (.cons rfl (.refl _) (.cons rfl (.refl _) (.cons rfl (.refl _) (.cons rfl (.refl _) (.cons rfl (.refl _) (.cons rfl (.refl _) (.cons rfl (.refl _) (.new x6g .nil))))))))
 rintro⟨j,ps,h,z,i⟩ hI;simp only at hI⊢;obtain⟨h1,q,K,Z,l,hpl,J⟩:=hI;have Y:i.stack=st++[f]:=K.trans hs;rcases x6c j t.args.length with hj|hj
 .have hdr:t.args.drop j=t.args[j]::t.args.drop (j+1):=QF hj;rw[hdr,argsM]at l;have hW:=YF p tape watch h z i st f Y q t.args[j].x;have hArl:=har t.args[j] (x6o hj);have hf:f∈i.stack:=by rw[Y];exact x8u _ (x6p.2 rfl)
  have hF:=q.fr f hf;have C:(YN h ps).length=ps.length:=x6j _;cases F:t.args[j].ref with
  | true=>
    rw[F,x7z]at l;have h0:=hArl F;have hlt:=Wc h0;have hvi:(idxF (fun y=>t.args[j].name==y) f.names).toNat<f.E.length:=by rw[hF.len];exact hlt
    have hWh:=WE p tape watch h z i st f Y q.sl t.args[j].name (idxF (fun y=>t.args[j].name==y) f.names).toNat (varM f t.args[j].name) (z0g h0).symm (by unfold varM;rw[x6h,x6k hvi];rfl);have hvr:varM f t.args[j].name<i.mem.length:=by
     refine hF.rng _ ?_;unfold varM;rw[x6h,x6k hvi];exact x6o hvi
    have V:YN h (ps++[varM f t.args[j].name])=YN h ps++[cpA (h.getD (varM f t.args[j].name) 0)]:=x6l;have fin:∃x:Nat×List Nat×List Nat×List Int×Mc,CallI p M f t x.1 x.2.1 x.2.2.1 x.2.2.2.2/\t.args.length-x.1<t.args.length-j/\x=(j+1,ps++[varM f t.args[j].name],h,z,i):=
     ⟨(j+1,ps++[varM f t.args[j].name],h,z,i),⟨hj,q,K,Z,l,by simp[hpl],fun v c=>by
       rcases x6s.1 c with c|c
       .exact J v c
       .rw [x6p.1 c];exact hvr⟩,by simp only;omega,rfl⟩
    clear l;generalize varM f t.args[j].name=vv at*
    generalize h.getD vv 0=cb at*
    generalize YN h ps=R at*
    conv=>whnf
    repeat' (first|((first|refine x6d rfl ?_|refine aD ?_|refine bP ?_|(refine iA fun _=>?_)|refine wI ?_|refine x8e (n:=ps.length) C.symm rfl (by show(ps.length+1)*8<=140737488355328;omega) (by show ps.length+1<=9223372036854775807;omega) (fun x hx=>by rcases x6p.1 hx with rfl;exact⟨rfl,rfl⟩) ?_);conv=>whnf)|(apply bD<;>intro _<;>first|omega|conv=>whnf)|(apply bB<;>intro _<;>conv=>whnf)|(refine CallK.heap [(1000,1000),(1001,1001),(2001,2001),(2002,2002),(2003,2003),(2004,2004),(2500,2500)] 0 (by repeat' (first|exact x7h|refine x6i ?_ ?_|exact x6e _|exact x7q Sub.nils|exact x7q (Sub.tt rfl)|exact x7q (Sub.ff rfl)|exact x7q (Sub.int (by omega)))) (by refine x6y (j:=1000) rfl rfl ?_ ?_;exact CSub.refl _;refine x6y (j:=1001) rfl rfl ?_ ?_;exact CSub.refl _;refine x6y (j:=2001) rfl rfl ?_ ?_;exact CSub.refl _;refine x6y (j:=2002) rfl rfl ?_ ?_;exact CSub.refl _;refine x6y (j:=2003) rfl rfl ?_ ?_;exact CSub.refl _;refine x6y (j:=2004) rfl rfl ?_ ?_;exact CSub.refl _;refine x6y (j:=2500) rfl rfl ?_ ?_;exact CSub.refl _;exact x7f) hWh rfl rfl ?_;rintro l' H' ⟨rfl,rfl⟩;conv=>whnf))
    all_goals first
     | (have Q:t.args[j].ref=false:=by assumption
        rw[F]at Q;cases Q)
     | (obtain⟨x,hx,hμ,rfl⟩:=fin
        exact⟨_,hx,hμ,Le.of_eq (by simp only[V,x6f,x7g,x9y]<;>rfl)⟩)
  | false =>
    rw[F,x7k]at l;have hch:=fun(I:List Int) (b:Nat)=>AU (tape:=tape) (watch:=watch) (vs:=I) (n:=(QM i f t.args[j].x).1) (b:=b) q;have hpe:=fun(b:Nat)=>Z8 (bs:=h) (nb:=[b]) (vs:=ps) fun v c=>by rw[q.bl];exact J v c
    have hpb:∀b,YN (h++[b]) [i.mem.length]=[cpA b]:=fun b=>by
     unfold YN;rw[x7l,z1u,x6h,<-q.bl,x7d (x7u _),z1d];rfl
    have V:∀b,YN (h++[b]) (ps++[i.mem.length])=YN h ps++[cpA b]:=fun b=>by
     rw[show YN (h++[b]) (ps++[i.mem.length])=YN (h++[b]) ps++YN (h++[b]) [i.mem.length]from x6l,hpe,hpb]
    unfold R2 at hW;cases d:(QM i f t.args[j].x).2 with
    | false=>
      rw[d,x7k]at l hW;have m:HY p watch M f t k g=(-1,endM i 4):=by
       unfold HY;rw[<-l];rfl
      have u:h.length=(HY p watch M f t k g).2.mem.length:=by rw[m];exact q.bl
      rw[m]at u⊢;generalize hev:QM i f t.args[j].x=ev at*
      obtain⟨n,ok⟩:=ev;simp only at d;subst d;clear l hch;conv=>whnf
      repeat' (first|((first|refine x6d rfl ?_|(refine iA fun _=>?_)|refine Br.tt ?_);conv=>whnf)|(apply bD<;>intro _<;>first|omega|conv=>whnf)|(apply bB<;>intro _<;>conv=>whnf)|(refine CallK.heap [(1000,1000),(1001,1001),(2001,2001),(2002,2002),(2003,2003),(2004,2004),(2500,2500)] 0 (by repeat' (first|exact x7h|refine x6i ?_ ?_|exact x6e _|exact x7q Sub.nils|exact x7q (Sub.tt rfl)|exact x7q (Sub.ff rfl)|exact x7q (Sub.int (by omega)))) (by refine x6y (j:=1000) rfl rfl ?_ ?_;exact CSub.refl _;refine x6y (j:=1001) rfl rfl ?_ ?_;exact CSub.refl _;refine x6y (j:=2001) rfl rfl ?_ ?_;exact CSub.refl _;refine x6y (j:=2002) rfl rfl ?_ ?_;exact CSub.refl _;refine x6y (j:=2003) rfl rfl ?_ ?_;exact CSub.refl _;refine x6y (j:=2004) rfl rfl ?_ ?_;exact CSub.refl _;refine x6y (j:=2500) rfl rfl ?_ ?_;exact CSub.refl _;exact x7f) hW rfl rfl ?_;rintro l' H' ⟨G,rfl,rfl⟩;conv=>whnf))
      all_goals first
       |contradiction
       |(exfalso;simp_all;done)
       |exact x8y _ (x6e _) ⟨h,G,rfl,rfl,u⟩
    | true=>
      rw [d,x7z]at l hW;have fin:∀(I:List Int)(b:Nat),∃x:Nat×List Nat×List Nat×List Int×Mc,CallI p M f t x.1 x.2.1 x.2.2.1 x.2.2.2.2/\t.args.length-x.1<t.args.length-j/\x=(j+1,ps++[i.mem.length],h++[b],I,{i with mem:=i.mem++[(QM i f t.args[j].x).1]}):=fun I b=>
       ⟨(j+1,ps++[i.mem.length],h++[b],I,{i with mem:=i.mem++[(QM i f t.args[j].x).1]}),⟨hj,q.cell b _,K,Z,l,by simp[hpl],fun v c=>by
         rcases x6s.1 c with c|c
         .have:=J v c;simp;omega
         .rw [x6p.1 c];simp⟩,by simp only;omega,rfl⟩
      generalize hev:QM i f t.args[j].x=ev at*
      obtain⟨n,ok⟩:=ev;simp only at d;subst d;have C:(YN h ps).length=ps.length:=x6j _;clear l;conv=>whnf
      repeat' (first|((first|refine x6d rfl ?_|refine aD ?_|refine bP ?_|(refine iA fun _=>?_)|refine wI ?_|refine x8e (n:=ps.length) C.symm rfl (by show(ps.length+1)*8<=140737488355328;omega) (by show ps.length+1<=9223372036854775807;omega) (fun x hx=>by rcases x6p.1 hx with rfl;exact⟨rfl,rfl⟩) ?_|refine Br.ff ?_);conv=>whnf)|(apply bD<;>intro _<;>first|omega|conv=>whnf)|(apply bB<;>intro _<;>conv=>whnf)|(refine CallK.heap [(1000,1000),(1001,1001),(2001,2001),(2002,2002),(2003,2003),(2004,2004),(2500,2500)] 0 (by repeat' (first|exact x7h|refine x6i ?_ ?_|exact x6e _|exact x7q Sub.nils|exact x7q (Sub.tt rfl)|exact x7q (Sub.ff rfl)|exact x7q (Sub.int (by omega)))) (by refine x6y (j:=1000) rfl rfl ?_ ?_;exact CSub.refl _;refine x6y (j:=1001) rfl rfl ?_ ?_;exact CSub.refl _;refine x6y (j:=2001) rfl rfl ?_ ?_;exact CSub.refl _;refine x6y (j:=2002) rfl rfl ?_ ?_;exact CSub.refl _;refine x6y (j:=2003) rfl rfl ?_ ?_;exact CSub.refl _;refine x6y (j:=2004) rfl rfl ?_ ?_;exact CSub.refl _;refine x6y (j:=2500) rfl rfl ?_ ?_;exact CSub.refl _;exact x7f) hW rfl rfl ?_;rintro l' H' ⟨G,rfl,rfl⟩;conv=>whnf)|(refine Wx QW 1 2500 ?_;conv=>whnf)|(refine⟨⟨rfl,rfl⟩,fun b hb=>?_⟩;conv=>whnf))
      all_goals first
       |contradiction
       | (have Q:t.args[j].ref=true:=(by assumption)
          rw[F]at Q;cases Q)
       | (have Q:(!true)=true:=(by assumption)
          cases Q)
       | (obtain⟨x,hx,hμ,rfl⟩:=fin G b
          exact⟨_,hx,hμ,Le.of_eq (by simp only[V,hch,x6f,x7g,x9y]<;>rfl)⟩)
 .obtain rfl:j=t.args.length:=by omega
  rw[x7v (x7u _),argsM]at l;have O:=B2 (w:=watch) (M:=i) (id:=t.id) (v:=[]);have e:=ML (w:=watch) (M:=i) (id:=t.id) (v:=[]);have hsl1:i.stack.length<=101:=by rw[K];exact hsl
  have hE0:=XA p tape watch h z i t.id [] (by rw[Z];exact htl);have hOp:=DA p tape watch h z (QK watch i t.id []) (q.same O e) (by rw[O];omega) k g hk hV hgl hvl ps (by omega) (fun v c=>by rw[e];exact J v c) t.id;have hML:(i.stack.map (fmA h)).length=i.stack.length:=x6j _;by_cases L:100<i.stack.length
  .have m:HY p watch M f t k g=(-1,endM i 5):=by
    unfold HY;rw[<-l];simp only[x7z];rw[if_pos L]
   have u:h.length=(HY p watch M f t k g).2.mem.length:=by rw[m];exact q.bl
   rw[m]at u⊢;clear l;conv=>whnf
   repeat' (first|((first|(refine iM fun _=>?_)|refine x6d rfl ?_);conv=>whnf)|(apply bD<;>intro _<;>first|omega|conv=>whnf))
   all_goals first
    |(exfalso;omega)
    |exact x8y _ (x6e _) ⟨h,z,rfl,rfl,u⟩
  .have m:HY p watch M f t k g=(Um p k g,GL p k g ps t.id (QK watch i t.id [])):=by
    unfold HY;rw[<-l];simp only[x7z];rw[if_neg L]
   have u:∀nb:List Nat,nb.length=g.E.length->(h++nb).length=(HY p watch M f t k g).2.mem.length:=fun nb U=>by
    rw[m];unfold GL;simp only[x6f,x8j];rw[e,q.bl,U]
   rw[m]at u⊢;clear l;conv=>whnf
   repeat' (first|((first|(refine iM fun _=>?_)|refine dA ?_|refine cP hPr ?_);conv=>whnf)|(apply bD<;>intro _<;>first|omega|conv=>whnf)|(refine CallK.heap [(1000,1000),(1001,1001),(2001,2001),(2002,2002),(2003,2003),(2004,2004),(2500,2500)] 0 (x6i (x6e _) (x6i (x6e _) (x6i (x7q Sub.nils) x7h))) (by refine x6y (j:=1000) rfl rfl ?_ ?_;exact CSub.refl _;refine x6y (j:=1001) rfl rfl ?_ ?_;exact CSub.refl _;refine x6y (j:=2001) rfl rfl ?_ ?_;exact CSub.refl _;refine x6y (j:=2002) rfl rfl ?_ ?_;exact CSub.refl _;refine x6y (j:=2003) rfl rfl ?_ ?_;exact CSub.refl _;refine x6y (j:=2004) rfl rfl ?_ ?_;exact CSub.refl _;refine x6y (j:=2500) rfl rfl ?_ ?_;exact CSub.refl _;exact x7f) hE0 rfl rfl ?_;rintro l' H' ⟨rfl,rfl⟩;conv=>whnf)|(refine CallK.heap [(1000,1000),(1001,1001),(2001,2001),(2002,2002),(2003,2003),(2004,2004),(2500,2500),(2005,0)] 0 (by repeat' (first|exact x7h|refine x6i ?_ ?_|exact x6e _|exact x7q Sub.nils|exact x7q (Sub.tt rfl)|exact x7q (Sub.ff rfl)|exact x7q (Sub.int (by omega)))) (by refine x6y (j:=1000) rfl rfl ?_ ?_;exact CSub.refl _;refine x6y (j:=1001) rfl rfl ?_ ?_;exact CSub.refl _;refine x6y (j:=2001) rfl rfl ?_ ?_;exact CSub.refl _;refine x6y (j:=2002) rfl rfl ?_ ?_;exact CSub.refl _;refine x6y (j:=2003) rfl rfl ?_ ?_;exact CSub.refl _;refine x6y (j:=2004) rfl rfl ?_ ?_;exact CSub.refl _;refine x6y (j:=2500) rfl rfl ?_ ?_;exact CSub.refl _;refine x6y (j:=0) rfl rfl ?_ ?_;exact CSub.refl _;exact x7f) hOp rfl rfl ?_;rintro l' H' ⟨nb,rfl,rfl,U⟩;conv=>whnf))
   all_goals first
    |(exfalso;omega)
    |exact x8y _ (x6e _) ⟨h++nb,z,rfl,rfl,u nb U⟩
section
variable {P:Program}{T:Tab}{N:Nat}{o:Oper}{s:St}
def q0w{l:List (Nat×AV)}(h:(l.map (·.1)).Nodup){i j:Nat}{x y:Nat×AV}(q:l[i]?=some x)(r:l[j]?=some y)(p:x.1=y.1):i=j:=by
 have m:(l.map (·.1))[i]?=some x.1:=by rw[x6a,q];rfl
 have n:(l.map (·.1))[j]?=some y.1:=by rw[x6a,r];rfl
 have k:i<(l.map (·.1)).length:=(x6n.1 m).1;exact(List.getElem?_inj k h).1 (by rw[m,n,p])
def BT(hT:TabOK P T){K:St->Prop}{t:TypeId}{x v:Operand}(Y:o.op=.store t x v)(R:o.dst=none){i:TyI}(hi:T.get t=some i)(Z:i.size=1){b:Nat}(hx:QR s.sl x=.p (cpA b)){c:AV}(hv:QR s.sl v=.p c)(f:c.one=true){kc:Nat}{e:TypeId}{l:List (Nat×AV)}(hg:getH s.H kc=some (.ext (.cells e l))){m:Nat}{c0:AV}(I:l[m]?=some (b,c0))(h:P2 s.H kc (.ext (.cells e (l.set m (b,c)))) fun H=>K ⟨s.sl,H⟩):OpK P N s o K:=by
 refine⟨fun σ β a w g Q=>?_⟩;have D:=QV g.G x;rw[hx]at D;have O:=QV g.G v;rw[hv]at O;have q:XC.holds (.cells e l) σ (β kc) w:=g.heap.chunks kc _ (QD hg);obtain⟨ic,u,h3,h4,h5,h6⟩:=q.2 _ (x7j I);have F:kc∈s.H.map (·.1):=x6r.2 ⟨_,QD hg,rfl⟩;obtain⟨H',hK,g1,g2,g3⟩:=HE g.heap.nodup h;have n:Rep σ c (a.eval v):=by cases O with|p O=>exact O
 have k:(a.eval v).cells=#[a.eval v]:=by
  have:=n.oneCell f;generalize a.eval v=u at this;cases u<;>first|rfl|cases this
 have C:∀u'∈(a.eval v).cells.toList,u'.oneCell'=true:=fun u' hu=>by
  rw[k]at hu;have:u'=a.eval v:=by simpa using hu
  rw[this];exact n.oneCell f
 have hxe:a.eval x=.pointer (some ⟨b,0,none⟩):=by
  generalize a.eval x=z at D;cases D with
  | p D=>cases D with
    |raw=>rfl
 have J:(execOp a.eval o).run P w=.ok .skip (w.setRow b #[a.eval v]):=by
  have L:=run_storeCells_at P b 0 e (a.eval v).cells.toList 0 #[u] w h5 (by rw[k];simp) C;have hsz:(sizeOf t).run P w=.ok 1 w:=by rw[<-Z];exact(hT _ _ hi).sizeOf w
  simp only[z0r,k]at L;have M:Sem.run P (storeCells ⟨b,0,none⟩ [a.eval v]) w=Result.ok () (w.setRow b #[a.eval v]):=by simpa using L
  simp[execOp,Y,Instr.storeAt,Instr.sureAddr,hxe,storeVar,hsz,k,M]
 have E:(l.set m (b,c)).map (·.1)=l.map (·.1):=by
  rw[x9w];refine z1y fun j=>?_;rw[x9r];by_cases r:m=j
  .subst r;have B:m<l.length:=(x6n.1 I).1;rw[if_pos rfl,if_pos (by rw[x6j];exact B),x6a,I];rfl
  .rw [if_neg r]
 obtain⟨g4,g5⟩:=Ek g.heap F h3 h4 (vs:=#[a.eval v]) g1 g2 fun d U=>by
  rw[g3 d U];show XC.holds (.cells e (l.set m (b,c))) σ (β kc) _;refine⟨by rw[E];exact q.1,fun y hy=>?_⟩;obtain⟨j,r⟩:=x9s.1 hy;rw[x9r]at r;by_cases A:m=j
  .subst A;have B:m<l.length:=(x6n.1 I).1;rw[if_pos rfl,if_pos B]at r;cases r;exact⟨ic,a.eval v,h3,h4,setRow_heap w b _ _ _ _ h5,n⟩
  .rw [if_neg A]at r;have V:y.1≠b:=fun he=>A (q0w q.1 I r he.symm);obtain⟨i1,u1,q1,q2,q3,q4⟩:=q.2 y (x7j r);exact⟨i1,u1,q1,q2,(setRow_other w b y.1 _ V).trans q3,q4⟩
 refine Yh J ⟨σ,β,⟨s.sl,H'⟩,hK,⟨?_,?_,?_,g4⟩,g5⟩
 .rw [R];exact g.size
 .rw [R];exact g.defers
 .rw [R];exact g.G
end
theorem SpecH.post{P:Program}{f:FuncId}{args:List LV}{H:Heap}{R R':LV->Heap->Prop}(h:SpecH P f args H R)(g:∀l H',R l H'->∃j,R' l j/\Le 1 ⟨[(0,l)],H'⟩ ⟨[(0,l)],j⟩):SpecH P f args H R':=by
 refine⟨h.go,fun σ β w v b c e=>(h.ok σ β w v b c e).mono fun C w' B=>?_⟩;obtain⟨l,u,σ',β',H',A,x,t,r,m⟩:=B;obtain⟨j,y,a⟩:=g l H' x;obtain⟨σ2,β2,q,z⟩:=a σ' β' {tmps:=#[u],defers:=[]} w' ⟨rfl,rfl,fun i=>by
  match i with
  |0=>simpa[getS]using t
  |i+1=>exact .p (by simpa[getS]using Rep.any _),r⟩
 exact⟨l,u,σ2,β2,j,A,y,by simpa[getS]using q.G 0,q.heap,m.trans z⟩
theorem CSub.pre{e:TypeId}{sz:Nat}{es es':List AV}(h:es' <+: es):CSub (.own e sz es) (.own e sz es'):=fun σ β w k a=>by
 rcases a with⟨j,l⟩|⟨i,vs,j,l,r,u,v,y,z⟩
 .rw [l]at h;exact .inl ⟨j,List.prefix_nil.1 h⟩
 .exact .inr ⟨i,vs,j,l,r,u,x8s h.length_le v,y,fun m x q=>z m x (by
   obtain⟨t,rfl⟩:=h;rw[x7b (x6n.1 q).1];exact q)⟩
def setM(M:Mc)(v:Nat)(n:Int):Mc:={M with mem:=M.mem.set v n}
def HJ{bs:List Nat}{mem:List Int}(i:bs.length=mem.length){v:Nat}(h:v<mem.length):(ZI bs mem)[v]?=some (bs.getD v 0,.int .i64 (mem.getD v 0)):=by
 unfold ZI;rw[List.getElem?_zip_eq_some];refine⟨?_,?_⟩
 .rw [x6h,x6k (by omega)];rfl
 .rw [x6a,x6k h];show some (AV.int .i64 mem[v])=some (AV.int .i64 (mem.getD v 0));rw[x6h,x6k h];rfl
def AJ{bs:List Nat}{mem:List Int}(m:bs.length=mem.length){v:Nat}(h:v<mem.length)(n:Int):ZI bs (mem.set v n)=(ZI bs mem).set v (bs.getD v 0,.int .i64 n):=by
 have p:(ZI bs mem).length=mem.length:=by unfold ZI;rw[List.length_zip,x6j];omega
 refine z1y fun j=>?_;rw[x9r];by_cases k:v=j
 .subst k;rw[if_pos rfl,if_pos (by omega),HJ (by rw[x8i];exact m) (by rw[x8i];exact h)];rw[x6h (l:=mem.set v n),z0u h];rfl
 .rw [if_neg k];rcases x6c j mem.length with i|i
  .rw [HJ (by rw[x8i];exact m) (by rw[x8i];exact i),HJ m i];rw[x6h (l:=mem.set v n),x9v k,<-x6h]
  .rw [x7a (by unfold ZI;rw[List.length_zip,x6j,x8i];omega),x7a (by omega)]
def mHs(p:Pg)(tape watch:List Int)(bs:List Nat)(vs:List Int)(M:Mc)(es:List AV):Heap:=[(1000,mO p tape watch p.B.length M.stack.length vs.length M),(1001,.own 146 1 (YN bs (List.range p.B.length))),(2001,.own 194 1 es),(2002,.own 2 1 (vs.map (.int .i64))),
 (2003,.own 2 1 (M.out.map (.int .i64))),(2004,.own 76 2 (M.trace.map evA)),(2500,.ext (.cells 2 (ZI bs M.mem)))]
def P3{p:Pg}{bs:List Nat}{M:Mc}{v:Nat}{n:Int}{es:List AV}(i:bs.length=M.mem.length)(h:v<M.mem.length):mHs p tape watch bs vs (setM M v n) es=[(1000,mO p tape watch p.B.length M.stack.length vs.length M),(1001,.own 146 1 (YN bs (List.range p.B.length))),(2001,.own 194 1 es),(2002,.own 2 1 (vs.map (.int .i64))),
 (2003,.own 2 1 (M.out.map (.int .i64))),(2004,.own 76 2 (M.trace.map evA)),(2500,.ext (.cells 2 ((ZI bs M.mem).set v (bs.getD v 0,.int .i64 n))))]:=by
 unfold mHs setM;simp only;rw[AJ i h];rfl
def popM(M:Mc)(st:List Fm):Mc:={M with stack:=st}
inductive CloseP(p:Pg)(M:Mc)(st:List Fm)(f:Fm)(gave:Int):Int->Mc->Prop
 |done (h:f.call=0):CloseP p M st f gave (-1) (endM (popM M st) 1)
 |drop {it:Item} (h:1<=f.call) (hit:(sheetOf p).l[(f.call-1).toNat]?=some it) (hn:it.s.name=[]):CloseP p M st f gave it.next (popM M st)
 |keep {it:Item} {st':List Fm} {g:Fm} (h:1<=f.call) (hit:(sheetOf p).l[(f.call-1).toNat]?=some it) (hn:it.s.name≠[]) (hg:st=st'++[g]) (hi:0<=idxF (fun y=>it.s.name==y) g.names):CloseP p M st f gave it.next (setM (popM M st) (varM g it.s.name) gave)
def Vq(p:Pg)(tape watch:List Int)(bs:List Nat)(vs:List Int)(M:Mc)(st:List Fm)(f:Fm)(c:M.stack=st++[f])(x:OkM p bs M)(O:f.call<=100000)(h:Int)(u:Int)(M':Mc)(L:CloseP p M st f h u M'):SpecH prog 80 [.ptr 1000 0,.p (.int .i64 h)] (mH p tape watch bs vs M) (fun r H=>∃es,st.map (fmA bs) <+: es/\r=.p (.int .i64 u)/\H=mHs p tape watch bs vs M' es):=by
 refine sH LZ func80 rfl call80 ?_;conv=>whnf
 have hT:=KD p tape watch bs vs M st f c x.sl;have V:M.stack.length=st.length+1:=by rw[c,x6f];rfl
 have m:st.map (fmA bs) <+: M.stack.map (fmA bs):=by rw[c,x6l];exact List.prefix_append _ _
 have Q:(M.stack.map (fmA bs)).length=M.stack.length:=x6j _;have R:=x.sl;cases L with
 | done U=>
   repeat' (first|((first|(refine iM fun _=>?_)|refine dA ?_|refine x6d rfl ?_|refine wI ?_|refine z2f 0 st.length rfl (by show(M.stack.length:Int)-1=_;omega) (x6t _) (by omega) ?_);conv=>whnf)|(apply bD<;>intro _<;>first|omega|conv=>whnf)|(refine CallK.heap [(1000,1000),(1001,1001),(2001,2001),(2002,2002),(2003,2003),(2004,2004),(2500,2500)] 0 (by repeat' (first|exact x7h|refine x6i ?_ ?_|exact x6e _|exact x7q Sub.nils|exact x7q (Sub.tt rfl)|exact x7q (Sub.ff rfl)|exact x7q (Sub.int (by omega)))) (by refine x6y (j:=1000) rfl rfl ?_ ?_;exact CSub.refl _;refine x6y (j:=1001) rfl rfl ?_ ?_;exact CSub.refl _;refine x6y (j:=2001) rfl rfl ?_ ?_;exact CSub.refl _;refine x6y (j:=2002) rfl rfl ?_ ?_;exact CSub.refl _;refine x6y (j:=2003) rfl rfl ?_ ?_;exact CSub.refl _;refine x6y (j:=2004) rfl rfl ?_ ?_;exact CSub.refl _;refine x6y (j:=2500) rfl rfl ?_ ?_;exact CSub.refl _;exact x7f) hT rfl rfl ?_;rintro l' H' ⟨rfl,rfl⟩;conv=>whnf))
   all_goals first
    |(exfalso;omega)
    |exact x8y _ (x6e _) ⟨_,m,rfl,rfl⟩
 | @drop it K q t=>
   have A:((sheetOf p).l.map fun i=>AV.agg i.cells)[(f.call-1).toNat]?=some (.agg it.cells):=by rw[x6a,q];rfl
   have C:(it.s.name==[])=true:=by rw[t];rfl
   repeat' (first|((first|(refine iM fun _=>?_)|refine dA ?_|refine x6d rfl ?_|refine wI ?_|refine z2f 0 st.length rfl (by show(M.stack.length:Int)-1=_;omega) (x6t _) (by omega) ?_|(refine IdxK.at (k:=(f.call-1).toNat) (by omega) A rfl ?_));conv=>whnf)|(apply bD<;>intro _<;>first|omega|conv=>whnf)|(apply bN<;>intro _<;>conv=>whnf)|(refine CallK.heap [(1000,1000),(1001,1001),(2001,2001),(2002,2002),(2003,2003),(2004,2004),(2500,2500)] 0 (by repeat' (first|exact x7h|refine x6i ?_ ?_|exact x6e _|exact x7q Sub.nils|exact x7q (Sub.tt rfl)|exact x7q (Sub.ff rfl)|exact x7q (Sub.int (by omega)))) (by refine x6y (j:=1000) rfl rfl ?_ ?_;exact CSub.refl _;refine x6y (j:=1001) rfl rfl ?_ ?_;exact CSub.refl _;refine x6y (j:=2001) rfl rfl ?_ ?_;exact CSub.refl _;refine x6y (j:=2002) rfl rfl ?_ ?_;exact CSub.refl _;refine x6y (j:=2003) rfl rfl ?_ ?_;exact CSub.refl _;refine x6y (j:=2004) rfl rfl ?_ ?_;exact CSub.refl _;refine x6y (j:=2500) rfl rfl ?_ ?_;exact CSub.refl _;exact x7f) hT rfl rfl ?_;rintro l' H' ⟨rfl,rfl⟩;conv=>whnf))
   all_goals first
    |(exfalso;omega)
    |(exfalso;simp_all;done)
    |exact x8y _ (x6e _) ⟨_,m,rfl,rfl⟩
 | @keep it G g K q t z J=>
   have A:((sheetOf p).l.map fun i=>AV.agg i.cells)[(f.call-1).toNat]?=some (.agg it.cells):=by rw[x6a,q];rfl
   have C:(it.s.name==[])=false:=z0f.2 t;have B:g∈M.stack:=by rw[c,z];simp
   have I:=x.fr g B;have F:(idxF (fun y=>it.s.name==y) g.names).toNat<g.E.length:=by rw[I.len];exact Wc J
   have a:g.E[(idxF (fun y=>it.s.name==y) g.names).toNat]?=some (varM g it.s.name):=by unfold varM;rw[x6h,x6k F];rfl
   have d:=WE p tape watch bs vs (popM M st) G g z (by show st.length<=1000;omega) it.s.name (idxF (fun y=>it.s.name==y) g.names).toNat (varM g it.s.name) (z0g J).symm a;have b:varM g it.s.name<M.mem.length:=I.rng _ (x7j a);have e:=HJ x.bl b;have D:=P3 (p:=p) (tape:=tape) (watch:=watch) (vs:=vs) (M:=popM M st) (v:=varM g it.s.name) (n:=h) (es:=st.map (fmA bs)) x.bl b;generalize varM g it.s.name=vv at*
   repeat' (first|((first|(refine iM fun _=>?_)|refine dA ?_|refine x6d rfl ?_|refine wI ?_|refine z2f 0 st.length rfl (by show(M.stack.length:Int)-1=_;omega) (x6t _) (by omega) ?_|(refine IdxK.at (k:=(f.call-1).toNat) (by omega) A rfl ?_)|refine GZ rfl rfl ?_|refine BT (kc:=2500) QW rfl rfl rfl rfl rfl rfl rfl rfl e ?_);conv=>whnf)|(apply bD<;>intro _<;>first|omega|conv=>whnf)|(apply bN<;>intro _<;>conv=>whnf)|(refine CallK.heap [(1000,1000),(1001,1001),(2001,2001),(2002,2002),(2003,2003),(2004,2004),(2500,2500)] 0 (by repeat' (first|exact x7h|refine x6i ?_ ?_|exact x6e _|exact x7q Sub.nils|exact x7q (Sub.tt rfl)|exact x7q (Sub.ff rfl)|exact x7q (Sub.int (by omega)))) (by refine x6y (j:=1000) rfl rfl ?_ ?_;exact CSub.refl _;refine x6y (j:=1001) rfl rfl ?_ ?_;exact CSub.refl _;refine x6y (j:=2001) rfl rfl ?_ ?_;exact CSub.refl _;refine x6y (j:=2002) rfl rfl ?_ ?_;exact CSub.refl _;refine x6y (j:=2003) rfl rfl ?_ ?_;exact CSub.refl _;refine x6y (j:=2004) rfl rfl ?_ ?_;exact CSub.refl _;refine x6y (j:=2500) rfl rfl ?_ ?_;exact CSub.refl _;exact x7f) hT rfl rfl ?_;rintro l' H' ⟨rfl,rfl⟩;conv=>whnf)|(refine CallK.heap [(1000,1000),(1001,1001),(2001,2001),(2002,2002),(2003,2003),(2004,2004),(2500,2500)] 0 (by repeat' (first|exact x7h|refine x6i ?_ ?_|exact x6e _|exact x7q Sub.nils|exact x7q (Sub.tt rfl)|exact x7q (Sub.ff rfl)|exact x7q (Sub.int (by omega)))) (by refine x6y (j:=1000) rfl rfl ?_ ?_;exact CSub.refl _;refine x6y (j:=1001) rfl rfl ?_ ?_;exact CSub.refl _;refine x6y (j:=2001) rfl rfl ?_ ?_;exact CSub.pre m;refine x6y (j:=2002) rfl rfl ?_ ?_;exact CSub.refl _;refine x6y (j:=2003) rfl rfl ?_ ?_;exact CSub.refl _;refine x6y (j:=2004) rfl rfl ?_ ?_;exact CSub.refl _;refine x6y (j:=2500) rfl rfl ?_ ?_;exact CSub.refl _;exact x7f) d rfl rfl ?_;rintro l' H' ⟨rfl,rfl⟩;conv=>whnf))
   all_goals first
    |(exfalso;omega)
    |(exfalso;simp_all;done)
    |exact x8y _ (x6e _) ⟨_,List.prefix_refl _,rfl,D.symm⟩
end Go.Ab
