/- law21: ReachSome. -/
import Derived.Test.YtonbdgcjnecapaaGreatRchC21
import Derived.Test.YtonbdgcjnecapaaGreatRchC24
import Derived.Test.YtonbdgcjnecapaaGreatRchC25
set_option linter.all false
set_option maxRecDepth 100000
set_option maxHeartbeats 16000000
namespace Go.Ab
open Go.Proofs
def Ov{p:Pg}(h:QE p=true)(n:Int){v:Str}(o:v∈KS p (PU (Kc p 0) n)):(∀a∈PZ p (PU (Kc p 0) n) v,a=0\/(Rs (NO p (YN p (PU (Kc p 0) n)).2.1) a=true/\inS (GU p a) v=true))/\
  (Rs (NO p (YN p (PU (Kc p 0) n)).2.1) (PU (Kc p 0) n)=false\/PZ p (PU (Kc p 0) n) v≠[]\/S2 p (YN p (PU (Kc p 0) n)).2.1 v=4):=by
 by_cases m:Kc p 0=[]
 .exfalso;have q:PU (Kc p 0) n=0:=by rw[m];rfl
  rw[q]at o;unfold KS at o;rw[if_neg (by omega)]at o;cases o
 have x:=q1o n m;generalize PU (Kc p 0) n=id at*
 obtain⟨k,f,t,i,C,rfl,D⟩:=RO h x;obtain⟨E,c,l,I,_,B,w⟩:=JM D;have z:k=E:=by
  have:(QQ p k f).j=(QQ p E c).j:=by rw[I]
  exact this
 subst z;obtain rfl:f=c:=by rw[i]at l;exact x3h l
 have L:=WD (QF h).1 i C;obtain⟨_,_,_,A,b⟩:=QJ p;obtain⟨_,_,K,_⟩:=b k f i;have e:PZ p t.id v=NR t.id v (XD p k f):=by
  unfold PZ;rw[if_pos ⟨h,by omega,by omega⟩,LI h i D]
 rw[e,<-B];refine⟨fun a H=>?_,?_⟩
 .by_cases q:a=0
  .exact .inl q
  .obtain ⟨r,u⟩:=I8 h i H q;exact .inr ⟨r,ZA.2 u⟩
 .cases J:Rs (NO p f.name) t.id with
  |false=>exact .inl rfl
  | true=>
    refine .inr ?_;have y:S2 p f.name v=DJ p f v:=by
     unfold S2;rw[(QF h).1,x1u,B,w]
    rw[y];by_cases d:DJ p f v=4
    .exact .inr d
    .obtain ⟨s,r,u,F⟩:=Eg h i C ((RG h i (by omega)).1 J) o d;refine .inl fun G=>?_;have g:s.src∈NR t.id v (XD p k f):=x4q (x1s.2 ⟨r,by simp[u,F]⟩);rw[G]at g;cases g
def Cd{p:Pg}(h:Fit p)(id:Int)(v:Str):(PZ p id v).length<=1000000000:=by
 unfold PZ;split
 .exact x1t (Pu _ _ _) (Xf h _)
 .simp
def HN(p:Pg)(n:Int):SpecP Tryz.prog 6 [.agg p.cells,.int .i64 n] (fun r=>r=.tt):=by
 refine sB KG Tryz.func6 rfl Tryz.call6 ?_;conv=>whnf
 cases l:Rj p with
 | false=>
   have R:¬gPg p<=20000:=by unfold Rj at l;simpa using l
   repeat' (first|((first|(refine iM fun _=>?_)|refine cP (QO _) ?_|refine dA ?_|refine x0h rfl ?_|refine aD ?_|refine aR ?_|refine bP ?_|(refine iA fun _=>?_)|refine IdxK.xs (by omega) ?_|refine QX (by omega) ?_|(refine ByteK.at (by omega) ?_)|refine wI ?_|refine cP QN ?_);conv=>whnf)|(apply bD<;>intro _<;>first|omega|conv=>whnf)|(apply bE<;>intro _<;>first|omega|conv=>whnf)|(apply bN<;>intro _<;>conv=>whnf)|(apply bB<;>intro _<;>conv=>whnf))
   all_goals first
    |exact⟨_,.p (Sub.refl _),rfl⟩
    |(exfalso;simp_all;done)
 | true =>
   have w:Fit p:=Cv l;have I:gPg p<=20000:=by unfold Rj at l;simpa using l
   have b:=VW p w 40;cases D:J1 p 40 with
   | false=>
     rw[D]at b;repeat' (first|((first|(refine iM fun _=>?_)|refine cP (QO _) ?_|refine dA ?_|refine x0h rfl ?_|refine aD ?_|refine aR ?_|refine bP ?_|(refine iA fun _=>?_)|refine IdxK.xs (by omega) ?_|refine QX (by omega) ?_|(refine ByteK.at (by omega) ?_)|refine wI ?_|refine cP QN ?_|refine cP b ?_);conv=>whnf)|(apply bD<;>intro _<;>first|omega|conv=>whnf)|(apply bE<;>intro _<;>first|omega|conv=>whnf)|(apply bN<;>intro _<;>conv=>whnf)|(apply bB<;>intro _<;>conv=>whnf))
     all_goals first
      |contradiction
      |exact⟨_,.p (Sub.refl _),rfl⟩
   | true =>
     rw[D]at b;have H:=J2 D;obtain⟨B,C⟩:=q1y H 0;have O:=V2 p 0 B;have F:=Zn (Kc p 0) n C;have e:=fun v h=>Ov H n (v:=v) h;generalize PU (Kc p 0) n=id at F e;have g:=MG p id;have G:=Ki p w id;have u:=fun v=>Gh p w id v;have y:=fun v=>Cd w id v;have s:=fun v=>Sg p (YN p id).2.1 v;have f:=ER p w (YN p id).2.1;have i:=fun a=>Zy (NO p (YN p id).2.1) a;have t:=fun a=>Ka p w a;generalize KS p id=V at G e;generalize(YN p id).2.1=nm at*
     generalize NO p nm=LV at*
     have P:(V.map AV.str).length=V.length:=x0j _;repeat' (first|((first|(refine iM fun _=>?_)|refine cP (QO _) ?_|refine dA ?_|refine x0h rfl ?_|refine aD ?_|refine aR ?_|refine bP ?_|(refine iA fun _=>?_)|refine IdxK.xs (by omega) ?_|refine QX (by omega) ?_|(refine ByteK.at (by omega) ?_)|refine wI ?_|refine cP QN ?_|refine cP b ?_|refine cP O ?_|refine cP F ?_|refine cP g ?_|refine cP f ?_|refine cP G ?_);conv=>whnf)|(apply bD<;>intro _<;>first|omega|conv=>whnf)|(apply bE<;>intro _<;>first|omega|conv=>whnf)|(apply bN<;>intro _<;>conv=>whnf)|(apply bB<;>intro _<;>conv=>whnf))
     all_goals first
      |contradiction
      |exact⟨_,.p (Sub.refl _),rfl⟩
      |skip
     refine LoopK.inv QK (fun j:Nat=>⟨[(2,.p (.ip p.cells)),(5,.p (.int .i64 id)),(6,.p (.str nm)),(7,.p (QI LV)),(33,.p (eStrs V)),(34,.p (.int .i64 (V.map AV.str).length)),(35,.p (.int .i64 j))],[]⟩) (fun j=>j<=V.length) (fun j=>V.length-j) 0 (Le.of_eq rfl) (x0l _) ?_;intro j Y;rcases x0t j V.length with c|c
     .obtain ⟨L,M⟩:=e V[j] (x0s c);have u:=u V[j];have y:=y V[j];have s:=s V[j];have q:=fun a=>WV (GU p a) V[j];generalize PZ p id V[j]=FR at*
      generalize S2 p nm V[j]=kd at*
      have N:(FR.map (AV.int .i64)).length=FR.length:=x0j _;conv=>whnf
      repeat' (first|((first|(refine iM fun _=>?_)|refine dA ?_|refine x0h rfl ?_|refine aD ?_|refine aR ?_|refine bP ?_|(refine iA fun _=>?_)|refine IdxK.xs (by omega) ?_|refine QX (by omega) ?_|(refine ByteK.at (by omega) ?_)|refine wI ?_|refine cP u ?_);conv=>whnf)|(apply bD<;>intro _<;>first|omega|conv=>whnf)|(apply bE<;>intro _<;>first|omega|conv=>whnf)|(apply bN<;>intro _<;>conv=>whnf)|(apply bB<;>intro _<;>conv=>whnf))
      refine LoopK.inv QK (fun m:Nat=>⟨[(2,.p (.ip p.cells)),(5,.p (.int .i64 id)),(6,.p (.str nm)),(7,.p (QI LV)),(9,.p (.str V[j])),(10,.p (QI FR)),(33,.p (eStrs V)),(34,.p (.int .i64 (V.map AV.str).length)),(35,.p (.int .i64 j)),(43,.p (QI FR)),(44,.p (.int .i64 (FR.map (AV.int .i64)).length)),(45,.p (.int .i64 m))],[]⟩) (fun m=>m<=FR.length) (fun m=>FR.length-m) 0 (Le.of_eq rfl) (x0l _) ?_;intro m Z;rcases x0t m FR.length with x|x
      .have T:=L FR[m] (x0s x);have E:(FR.map (AV.int .i64))[m]?=some (.int .i64 FR[m]):=by rw[x0d,x0u x];rfl
       have i:=i FR[m];have t:=t FR[m];have q:=q FR[m];rcases T with U|⟨J,K⟩
       .conv=>whnf
        repeat' (first|((first|(refine iM fun _=>?_)|refine dA ?_|refine x0h rfl ?_|refine aD ?_|refine aR ?_|refine bP ?_|(refine iA fun _=>?_)|refine IdxK.xs (by omega) ?_|refine QX (by omega) ?_|(refine ByteK.at (by omega) ?_)|refine wI ?_);conv=>whnf)|(apply bD<;>intro _<;>first|omega|conv=>whnf)|(apply bE<;>intro _<;>first|omega|conv=>whnf)|(apply bN<;>intro _<;>conv=>whnf)|(apply bB<;>intro _<;>conv=>whnf)|(refine IdxK.at (k:=m) rfl E rfl ?_;conv=>whnf)|(refine x0h ?_ ?_<;>conv=>whnf))
        all_goals first
         |contradiction
         |exact⟨m+1,x,by omega,Le.of_eq rfl⟩
         |(exfalso;omega)
       .rw [J]at i;rw[K]at q;conv=>whnf
        repeat' (first|((first|(refine iM fun _=>?_)|refine dA ?_|refine x0h rfl ?_|refine aD ?_|refine aR ?_|refine bP ?_|(refine iA fun _=>?_)|refine IdxK.xs (by omega) ?_|refine QX (by omega) ?_|(refine ByteK.at (by omega) ?_)|refine wI ?_|refine cP i ?_|refine cP t ?_|refine cP q ?_);conv=>whnf)|(apply bD<;>intro _<;>first|omega|conv=>whnf)|(apply bE<;>intro _<;>first|omega|conv=>whnf)|(apply bN<;>intro _<;>conv=>whnf)|(apply bB<;>intro _<;>conv=>whnf)|(refine IdxK.at (k:=m) rfl E rfl ?_;conv=>whnf)|(refine x0h ?_ ?_<;>conv=>whnf))
        all_goals first
         |contradiction
         |exact⟨m+1,x,by omega,Le.of_eq rfl⟩
      .have z:=i id;have A:Rs LV id=false\/(Rs LV id=true/\¬((FR.length:Int)=0))\/(Rs LV id=true/\kd=4):=by
        cases Q:Rs LV id with
        |false=>exact .inl rfl
        | true=>
          rcases M with o|o|o
          .rw [Q]at o;cases o
          .exact .inr (.inl ⟨rfl,fun d=>o (x5d.1 (by omega))⟩)
          .exact .inr (.inr ⟨rfl,o⟩)
       rcases A with o|⟨o,d⟩|⟨o,d⟩;all_goals
        rw[o]at z;try rw[d]at s
        conv=>whnf
        repeat' (first|((first|(refine iM fun _=>?_)|refine dA ?_|refine x0h rfl ?_|refine aD ?_|refine aR ?_|refine bP ?_|(refine iA fun _=>?_)|refine IdxK.xs (by omega) ?_|refine QX (by omega) ?_|(refine ByteK.at (by omega) ?_)|refine wI ?_|refine cP z ?_|refine cP s ?_);conv=>whnf)|(apply bD<;>intro _<;>first|omega|conv=>whnf)|(apply bE<;>intro _<;>first|omega|conv=>whnf)|(apply bN<;>intro _<;>conv=>whnf)|(apply bB<;>intro _<;>conv=>whnf)|(refine x0h ?_ ?_<;>conv=>whnf))
        all_goals first
         |contradiction
         |exact⟨j+1,c,by omega,Le.of_eq rfl⟩
         |(exfalso;omega)
     .conv=>whnf
      repeat' (first|((first|(refine iM fun _=>?_)|refine dA ?_|refine x0h rfl ?_|refine aD ?_|refine aR ?_|refine bP ?_|(refine iA fun _=>?_)|refine IdxK.xs (by omega) ?_|refine QX (by omega) ?_|(refine ByteK.at (by omega) ?_)|refine wI ?_);conv=>whnf)|(apply bD<;>intro _<;>first|omega|conv=>whnf)|(apply bE<;>intro _<;>first|omega|conv=>whnf)|(apply bN<;>intro _<;>conv=>whnf)|(apply bB<;>intro _<;>conv=>whnf))
      all_goals first
       |contradiction
       |exact⟨_,.p (Sub.refl _),rfl⟩
       |exact⟨_,.p (Vs rfl),rfl⟩
end Go.Ab
