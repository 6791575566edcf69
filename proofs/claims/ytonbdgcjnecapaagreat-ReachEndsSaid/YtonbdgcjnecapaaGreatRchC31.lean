/- law21: ReachEnds. -/
import Derived.Test.YtonbdgcjnecapaaGreatRchC9
import Derived.Test.YtonbdgcjnecapaaGreatRchC18
import Derived.Test.YtonbdgcjnecapaaGreatRchC24
import Derived.Test.YtonbdgcjnecapaaGreatRchC25
set_option linter.all false
set_option maxRecDepth 100000
set_option maxHeartbeats 16000000
namespace Go.Ab
open Go.Proofs.Tryz
open Go.Proofs
def HB(p:Pg)(n:Int):SpecP prog 5 [.agg p.cells,.int .i64 n] (fun r=>r=.tt):=by
 refine sB KJ func5 rfl call5 ?_;conv=>whnf
 cases q:Rj p with
 | false=>
   have hno:¬gPg p<=20000:=by unfold Rj at q;simpa using q
   repeat' (first|((first|(refine iM fun _=>?_)|refine cP (QO _) ?_|refine dA ?_|refine x0h rfl ?_|refine aD ?_|refine aR ?_|refine bP ?_|(refine iA fun _=>?_)|refine IdxK.xs (by omega) ?_|refine QX (by omega) ?_|(refine ByteK.at (by omega) ?_)|refine wI ?_|refine cP QN ?_);conv=>whnf)|(apply bD<;>intro _<;>first|omega|conv=>whnf)|(apply bE<;>intro _<;>first|omega|conv=>whnf)|(apply bN<;>intro _<;>conv=>whnf)|(apply bB<;>intro _<;>conv=>whnf))
   all_goals first
    |exact⟨_,.p (Sub.refl _),rfl⟩
    |(exfalso;simp_all;done)
 | true =>
   have t:Fit p:=Cv q;have hfit:gPg p<=20000:=by unfold Rj at q;simpa using q
   have P:=VW p t 40;cases H:J1 p 40 with
   | false=>
     rw[H]at P;repeat' (first|((first|(refine iM fun _=>?_)|refine cP (QO _) ?_|refine dA ?_|refine x0h rfl ?_|refine aD ?_|refine aR ?_|refine bP ?_|(refine iA fun _=>?_)|refine IdxK.xs (by omega) ?_|refine QX (by omega) ?_|(refine ByteK.at (by omega) ?_)|refine wI ?_|refine cP QN ?_|refine cP P ?_);conv=>whnf)|(apply bD<;>intro _<;>first|omega|conv=>whnf)|(apply bE<;>intro _<;>first|omega|conv=>whnf)|(apply bN<;>intro _<;>conv=>whnf)|(apply bB<;>intro _<;>conv=>whnf))
     all_goals first
      |contradiction
      |exact⟨_,.p (Sub.refl _),rfl⟩
   | true =>
     rw[H]at P;have g:=J2 H;have hP:=JL p n (P6 g);obtain⟨k,f,D,hn,hw⟩:=Bi g n;have E:=TF t g D;have c:=PH p f.name;rw[(Az hw D).2]at c;simp only at c;have hI:=CX p t f.name;have hO:=Ke p t f.name;have hF:=D1 p t f.name;have C:=Yt p t f.name;have V:=UL f;have hfl:=Uv f;have hLl:=Xf t f.name;have hD:=fun id=>Ka p t id;have hU:=fun id=>Ki p t id;have hIl:(L2 p f.name).length<=25:=by rw[(KM g D).2.2];exact(GS g).2.len25 g k
     have hp8:f.B.length<=8:=((WS (QF g).1).pr f (x0i D)).1;rw[<-hn]at hP;generalize L2 p f.name=I at*
     generalize Qu p f.name=O at*
     generalize UY p f.name=L at*
     generalize JA p f.name=nd at*
     obtain⟨nd,fc⟩:=nd;obtain⟨E1,E2,E3,E4,E5,E6⟩:=E;simp only at E3 E4 E5 E6 C;clear hw D hn;generalize f.name=nm at*
     have hpm:(f.B.map fun x=>AV.agg x.cells).length=f.B.length:=x0j _;have hLm:(L.map NN).length=L.length:=x0j _;have Y:(I.map AV.str).length=I.length:=x0j _;have hfm:((UD f).map fun i=>AV.agg i.cells).length=(UD f).length:=x0j _;repeat' (first|((first|(refine iM fun _=>?_)|refine cP (QO _) ?_|refine dA ?_|refine x0h rfl ?_|refine aD ?_|refine aR ?_|(refine iA fun _=>?_)|refine IdxK.xs (by omega) ?_|refine QX (by omega) ?_|(refine ByteK.at (by omega) ?_)|refine wI ?_|refine cP QN ?_|refine cP P ?_|refine cP hP ?_|refine cP c ?_|refine cP hI ?_|refine x6n (fun x hx=>by cases hx) rfl ?_|refine KC _ (by simp) (by simp;omega) ?_);conv=>whnf)|(apply bD<;>intro _<;>first|omega|conv=>whnf)|(apply bE<;>intro _<;>first|omega|conv=>whnf)|(apply bN<;>intro _<;>conv=>whnf)|(apply bB<;>intro _<;>conv=>whnf))
     all_goals first
      |contradiction
      |exact⟨_,.p (Sub.refl _),rfl⟩
      |skip
     refine LoopK.inv QK (fun j:Nat=>⟨[(2,.p (.ip p.cells)),(5,.p (.str nm)),(6,.p (.ip f.cells)),(8,.hd 0 0 (I++(f.B.take j).map Param.name).length),(39,.p (.sl (f.B.map fun a=>AV.agg a.cells))),(40,.p (.int .i64 (f.B.map fun a=>AV.agg a.cells).length)),(41,.p (.int .i64 j))],[(0,.own 9 1 ((I++(f.B.take j).map Param.name).map .str))]⟩) (fun j=>j<=f.B.length) (fun j=>f.B.length-j) 0
      (by first
        |exact Le.of_eq (by rw[List.take_zero,x5j,x2v,<-Y,x3v];rfl)
        |trace_state) (x0l _) ?_
     intro j hj;have Z:(I++(f.B.take j).map Param.name).length<=33:=by rw[x0g,x0j,x1f];omega
     rcases x0t j f.B.length with A|A
     .have hst:I++(f.B.take (j+1)).map Param.name=(I++(f.B.take j).map Param.name)++[f.B[j].name]:=by rw[x0a A,x0c,x1k];rfl
      generalize I++(f.B.take j).map Param.name=acc at*
      conv=>whnf
      repeat' (first|((first|(refine iM fun _=>?_)|refine dA ?_|refine x0h rfl ?_|refine aD ?_|refine aR ?_|refine bP ?_|(refine iA fun _=>?_)|refine IdxK.xs (by omega) ?_|refine QX (by omega) ?_|(refine ByteK.at (by omega) ?_)|refine wI ?_|refine XQ (by simp) (by rw[x0j];omega) ?_);conv=>whnf)|(apply bD<;>intro _<;>first|omega|conv=>whnf)|(apply bE<;>intro _<;>first|omega|conv=>whnf)|(apply bN<;>intro _<;>conv=>whnf)|(apply bB<;>intro _<;>conv=>whnf))
      all_goals first
       |contradiction
       |exact⟨j+1,A,by omega,Le.of_eq (by rw[hst];simp only[x0g,x0c];rfl)⟩
     .rw [x1w A];rw[x1w A]at Z;have w:=fun v=>WV (I++f.B.map Param.name) v;have y:=fun v=>WV O v;have u:=fun a v=>WV (GU p a) v;have z:=fun a v=>WV (KS p a) v;generalize I++f.B.map Param.name=G at*
      have hGm:(G.map AV.str).length=G.length:=x0j _;conv=>whnf
      repeat' (first|((first|(refine iM fun _=>?_)|refine dA ?_|refine x0h rfl ?_|refine aD ?_|refine aR ?_|refine bP ?_|(refine iA fun _=>?_)|refine IdxK.xs (by omega) ?_|refine QX (by omega) ?_|(refine ByteK.at (by omega) ?_)|refine wI ?_|refine cP hF ?_|refine cP C ?_);conv=>whnf)|(apply bD<;>intro _<;>first|omega|conv=>whnf)|(apply bE<;>intro _<;>first|omega|conv=>whnf)|(apply bN<;>intro _<;>conv=>whnf)|(apply bB<;>intro _<;>conv=>whnf))
      refine LoopK.inv QK (fun i:Nat=>⟨[(2,.p (.ip p.cells)),(5,.p (.str nm)),(6,.p (.ip f.cells)),(8,.p (eStrs G)),(11,.p (.sl (L.map NN))),(12,.p (.int .i64 nd)),(13,.p (.int .i64 fc)),(60,.p (.sl (L.map NN))),(61,.p (.int .i64 (L.map NN).length)),(62,.p (.int .i64 i))],[]⟩) (fun i=>i<=L.length) (fun i=>L.length-i) 0
       (by first
         |exact EQ (k:=0) rfl (.cons (.keep rfl) (.cons (.keep rfl) (.cons (.keep rfl) (.cons (.row (by simp)) (.cons (.keep rfl) (.cons (.keep rfl) (.cons (.keep rfl) (.cons (.keep rfl) (.cons (.keep rfl) (.cons (.keep rfl) .nil)))))))))) (.drop .nil)
         |trace_state) (x0l _) ?_
      intro i hi;rcases x0t i L.length with K|K
      .have H:∃(a d:Int) (v:Str) (s:Fl),(L.map NN)[i]?=some (.agg [.int .i64 a,.int .i64 d,.str v])/\EndF G O (GU p) (KS p) ⟨a,d,v⟩/\(0<i->(L.map NN)[i-1]?=some (.agg s.cells)/\¬a<s.src/\¬s=⟨a,d,v⟩):=by
        refine⟨L[i].src,L[i].dst,L[i].var,L[i-1]'(by omega),by rw[x0d,x0u K];rfl,E1 _ (x0s K),fun h0=>?_⟩;obtain⟨o1,o2⟩:=E2 (i-1) (by omega);have e:i-1+1=i:=by omega
        refine⟨by rw[x0d,x0u (by omega)];rfl,?_,?_⟩
        .simp only[e]at o1;exact o1
        .simp only[e]at o2;exact o2
       obtain⟨a,d,v,s',eL,F,o⟩:=H;have J:=w v;have Q:=u a v;have R:=y v;have F4:=z d v;have F5:=hD a;have F6:=hU d;have m:=F.src;have l:=F.dst;simp only at m l;have h3:d = -1->(v==retS)=false->inS O v=true:=fun h N=>by
        rw[if_pos h]at l;rcases l with U|U
        .rw [U]at N;simp at N
        .exact ZA.2 U
       have T:d = -1->(v==retS)=false->SpecP prog 24 [eStrs O,.str v] (fun r=>r=.bool true):=fun h N=>by rw[h3 h N]at R;exact R
       clear w u y z hD hU E1 E2 hF R h3;generalize L.map NN=M at*
       have hcs:(a=0/\inS G v=true)\/(¬a=0/\inS (GU p a) v=true):=by
        by_cases h:a=0
        .rw [if_pos h]at m;exact .inl ⟨h,ZA.2 m⟩
        .rw [if_neg h]at m;exact .inr ⟨h,ZA.2 m⟩
       have hds:d = -1\/(¬d = -1/\inS (KS p d) v=true):=by
        by_cases h:d = -1
        .exact .inl h
        .rw [if_neg h]at l;exact .inr ⟨h,ZA.2 l⟩
       clear F m l;rcases hcs with⟨rfl,q2⟩|⟨q1,q2⟩;rotate_left;rw[q2]at Q;have C1:=F5;have C2:=Q;rotate_left;rw[q2]at J;have C1:=J;have C2:=J;all_goals
        clear J Q F5;rcases hds with rfl|⟨q3,q4⟩;rotate_left;rw[q4]at F4;rotate_left;all_goals
         conv=>whnf
         repeat' (first|(apply bD<;>intro _<;>first|omega|conv=>whnf)|(apply bN<;>intro _<;>conv=>whnf)|(apply bB<;>intro _<;>conv=>whnf)|(apply CallK.pure C1 (.cons (Sub.refl _) (.cons (Sub.refl _) .nil));rintro _ rfl;conv=>whnf)|(apply CallK.pure C2 (.cons (Sub.refl _) (.cons (Sub.refl _) .nil));rintro _ rfl;conv=>whnf)|(apply CallK.pure hO (.cons (Sub.refl _) (.cons (Sub.refl _) .nil));rintro _ rfl;conv=>whnf)|(apply CallK.pure (T rfl (by assumption)) (.cons (Sub.refl _) (.cons (Sub.refl _) .nil));rintro _ rfl;conv=>whnf)|(apply CallK.pure F6 (.cons (Sub.refl _) (.cons (Sub.refl _) .nil));rintro _ rfl;conv=>whnf)|(apply CallK.pure F4 (.cons (Sub.refl _) (.cons (Sub.refl _) .nil));rintro _ rfl;conv=>whnf)|(refine x0h rfl ?_;conv=>whnf)|(refine aD ?_;conv=>whnf)|(refine aR ?_;conv=>whnf)|(apply x0h<;>conv=>whnf)|(refine wI ?_;conv=>whnf)|(refine IdxK.at (k:=i) rfl eL rfl ?_;conv=>whnf)|(refine IdxK.at (k:=i-1) (by omega) (o (by omega)).1 rfl ?_;conv=>whnf)|(refine TZ (a:=s') (b:=⟨_,_,v⟩) rfl rfl rfl ?_;conv=>whnf)|(refine dA ?_;conv=>whnf))
         all_goals first
          |contradiction
          |exact⟨_,K,by omega,Le.of_eq rfl⟩
          |(exfalso;omega)
          |exact absurd (by assumption) (o (by omega)).2.2
          |exact absurd (by assumption) (o (by omega)).2.1
          |(exfalso;have:=(o (by omega)).2.1;omega)
      .have hie:i=L.length:=by omega
       conv=>whnf
       repeat' (first|((first|(refine iM fun _=>?_)|refine dA ?_|refine x0h rfl ?_|refine aD ?_|refine aR ?_|refine bP ?_|(refine iA fun _=>?_)|refine IdxK.xs (by omega) ?_|refine QX (by omega) ?_|(refine ByteK.at (by omega) ?_)|refine wI ?_|refine cP V ?_);conv=>whnf)|(apply bD<;>intro _<;>first|omega|conv=>whnf)|(apply bE<;>intro _<;>first|omega|conv=>whnf)|(apply bN<;>intro _<;>conv=>whnf)|(apply bB<;>intro _<;>conv=>whnf)|(refine x0h ?_ ?_<;>conv=>whnf))
       all_goals first
        |contradiction
        |(exfalso;omega)
        |exact⟨_,.p (Sub.refl _),rfl⟩
        |exact⟨_,.p (Vs (by simp;omega)),rfl⟩
end Go.Ab
