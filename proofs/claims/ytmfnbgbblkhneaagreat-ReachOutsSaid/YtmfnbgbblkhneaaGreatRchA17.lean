/- solve: what goes into each node. -/
import Derived.Test.YtmfnbgbblkhneaaGreatRchA14
import Derived.Test.YtmfnbgbblkhneaaGreatRchA15
import Derived.Test.YtmfnbgbblkhneaaGreatRchA16
set_option linter.unusedSimpArgs false
set_option linter.unusedVariables false
set_option maxRecDepth 100000
set_option maxHeartbeats 16000000
open Int (ofNat)
namespace Go.Ab
open Go.Proofs.Tryz
open Go.Proofs
variable {j n w:Nat}{p:Pg}
def svA(w n a:Nat):List (List Wd):=List.replicate a (List.replicate w 0)++List.replicate (n-a) []
def tdA(n a:Nat):List Int:=(List.range a).map ofNat++List.replicate (n-a) 0
def wtA(n a:Nat):List Bool:=List.replicate a true++List.replicate (n-a) false
theorem OP{a:Nat}(h:a<n):(svA w n a).set a (List.replicate w 0)=svA w n (a+1):=by
 unfold svA;rw[x1d _ _ (by simp),q9d,x2r,show n-a=(n-(a+1))+1 by omega,x2f,x1n,List.replicate_succ' (n:=a),q8d];rfl
theorem OL{a:Nat}(h:a<n):(tdA n a).set a (a:Int)=tdA n (a+1):=by
 unfold tdA;rw[x1d _ _ (by simp),q7f,x0h,x2r,show n-a=(n-(a+1))+1 by omega,x2f,x1n,x1e,q7o,q8d];rfl
theorem q0y{a:Nat}(h:a<n):(wtA n a).set a true=wtA n (a+1):=by
 unfold wtA;rw[x1d _ _ (by simp),q9d,x2r,show n-a=(n-(a+1))+1 by omega,x2f,x1n,List.replicate_succ' (n:=a),q8d];rfl
theorem OB{a:Nat}(h:a<=n):(svA w n a).length=n:=by unfold svA;simp;omega
theorem OM{a:Nat}(h:a<=n):(tdA n a).length=n:=by unfold tdA;simp;omega
theorem q0u{a:Nat}(h:a<=n):(wtA n a).length=n:=by unfold wtA;simp;omega
def svO(tm:Int):Heap:=[(1,.obj 210 [.p .nils,.p (.int .i64 tm)]),(0,.obj 210 [.p .nils,.p (.int .i64 0)])]
def svH(inn:List (List Wd))(td:List Int)(wt:List Bool)(tm:Int):Heap:=(4,.own 4 1 (wt.map bv))::(3,.own 3 1 (td.map (.int .i64)))::(2,.ext (.mat 270 255 1 (eWm inn) []))::svO tm
theorem EC{N:Nat}{sl:List (Nat×LV)}(n:Nat)(es ws:List AV)(tm:Int)(h0:(sl.all fun x=>x.2.xfree 2)=true):
  Le N ⟨sl,(4,.own 4 1 ws)::(3,.own 3 1 es)::(2,.own 270 1 (List.replicate n .nils))::svO tm⟩ ⟨sl,(4,.own 4 1 ws)::(3,.own 3 1 es)::(2,.ext (.mat 270 255 1 (List.replicate n []) []))::svO tm⟩:=by
 have hm:=ND (N:=N) (sl:=sl) (H:=(4,.own 4 1 ws)::(3,.own 3 1 es)::(2,.own 270 1 (List.replicate n .nils))::svO tm)
  (H':=(4,.own 4 1 ws)::(3,.own 3 1 es)::(2,.ext (.mat 270 255 1 (List.replicate (List.replicate n AV.nils).length []) []))::svO tm)
  2 255 1 (e:=270) (es:=List.replicate n .nils) rfl (fun x hx=>x0a hx) rfl h0 rfl rfl (by simp[KM,svO])
 simpa using hm
theorem q2k{N:Nat}(inn:List (List Wd)){a:Nat}(hel:(eWm inn).length=a)(most:Nat)(tm:Int):
  Le N ⟨[(3,.p (.int .i64 most)),(8,.ptr 0 0),(9,.ptr 1 0),(11,.hd 2 0 a),(130,.p (.int .i64 a)),(131,.p (.int .i64 0))],(2,.ext (.mat 270 255 1 (eWm inn) []))::svO tm⟩
   ⟨[(3,.p (.int .i64 most)),(8,.ptr 0 0),(9,.ptr 1 0),(11,.p (NO inn)),(130,.p (.int .i64 a)),(131,.p (.int .i64 0))],svO tm⟩:=by
 refine Ay (k:=2) (e:=270) (e2:=255) (sz:=1) (rows:=eWm inn) rfl (fun i=>?_) (by show [1,0].Sublist [2,1,0];decide) fun j c' hj=>?_
 ·refine SlRel.get (P:=fun l l'=>l'=l.kill 2\/(l=.hd 2 0 (eWm inn).length/\l'=.p (.sl ((eWm inn).map .sl)))) (.inl rfl) ?_ i;exact .cons (.inl rfl) (.cons (.inl rfl) (.cons (.inl rfl) (.cons (.inr ⟨by rw[hel],rfl⟩) (.cons (.inl rfl) (.cons (.inl rfl) .nil)))))
 ·rcases q7r.1 hj with h|h
  ·cases h;exact⟨by decide,q7n _ q7d,rfl⟩
  ·rcases q7m.1 h with h;cases h;exact⟨by decide,q7n _ (q7n _ q7d),rfl⟩
theorem AS{goes:List Wd}{i:Nat}(hl:goes.length=w)(h:i<w):(goes.take i++List.replicate (w-i) 0).set i (goes[i]'(by omega))=goes.take (i+1)++List.replicate (w-(i+1)) 0:=by
 rw[x1d _ _ (by rw[q8n];omega),q8n,show i-min i goes.length=0 by omega,show w-i=(w-(i+1))+1 by omega,x2f,x1n,q8q (by omega),q8d];rfl
theorem Na(g:List (List Int)×List (List Int))(n:Nat)(hn:n<=5000)(hg:XG n g.1)(hgl:∀r∈g.1,r.length<=1000000)(most:Nat)(hm:most<=5000)(gen kill:List (List Wd))(hgn:gen.length=n)(hkn:kill.length=n)(hgw:∀r∈gen,r.length=most/64+1)(hkw:∀r∈kill,r.length=most/64+1):SpecP prog 198 [VQ g,NO gen,NO kill,.int .i64 most] (fun r=>∃(inn:List (List Wd)) (tm:Int),(∀b:Int,0<=b->b<n->∀f,f/64<most/64+1->(bitW (inn.getD b.toNat []) f=true↔SolP g.1 gen kill f b))/\inn.length=n/\r=.agg [eMat (inn.map fun row=>UL row most),.int .i64 tm]):=by
 refine sB G0 func198 rfl call198 ?_;conv=>whnf
 have hgl0:=hgl;have hL:=Vf g;have hgl1:g.1.length=n:=hg.1;rw[hgl1]at hL;obtain⟨w,hw⟩ : ∃w,w=most/64+1:=⟨_,rfl⟩;rw[<-hw];rw[<-hw]at hgw hkw;have e7:=AK most;repeat' (first|((first|(refine iM fun _=>?_)|refine dA ?_|refine q7p rfl ?_|refine aD ?_|refine aR ?_|refine bP ?_|(refine iA fun _=>?_)|refine IdxK.xs (by omega) ?_|refine QX (by omega) ?_|(refine ByteK.at (by omega) ?_)|refine wI ?_|refine cP hL ?_|refine x2m n (by omega) (by first|(show 24*_<=140737488355328;omega)|(show 8*_<=140737488355328;omega)|(show 1*_<=140737488355328;omega)) (by unfold maxLen;omega) ?_);conv=>whnf)|(apply bD<;>intro _<;>first|omega|conv=>whnf)|(apply bE<;>intro _<;>first|omega|conv=>whnf)|(apply bN<;>intro _<;>conv=>whnf)|(apply bB<;>intro _<;>conv=>whnf))
 refine LoopK.inv QK (fun a:Nat=>⟨[(0,.p (VQ g)),(1,.p (NO gen)),(2,.p (NO kill)),(3,.p (.int .i64 most)),(8,.ptr 0 0),(9,.ptr 1 0),(11,.hd 2 0 n),(12,.hd 3 0 n),(13,.hd 4 0 n),(30,.p (.int .i64 n)),(31,.p (.int .i64 a))],svH (svA w n a) (tdA n a) (wtA n a) 0⟩) (fun a=>a<=n) (fun a=>n-a) 0
  (by
    refine Le.trans (EC n _ _ 0 rfl) ?_;exact Le.of_eq (by simp[svH,svA,tdA,wtA,eWm,bv];exact⟨rfl,.inr rfl,.inr rfl⟩)) (q7c _) ?_
 intro a ha;rcases q7e a n with h1|h1
 ·have g1:=OP (w:=w) h1;have g2:=OL h1;have g3:=q0y h1;have l1:=OB (w:=w) ha;have l2:=OM ha;have l3:=q0u ha;have x2:((tdA n a).map (AV.int .i64))[a]?=some (.int .i64 ((tdA n a)[a]'(by omega))):=by rw[q7l,q7g (by omega)];rfl
  have x3:((wtA n a).map bv)[a]?=some (bv ((wtA n a)[a]'(by omega))):=by rw[q7l,q7g (by omega)];rfl
  generalize(tdA n a)[a]'(by omega)=o2 at x2;generalize(wtA n a)[a]'(by omega)=o3 at x3;have q1:(eWm (svA w n a)).set a (List.replicate w (.int .u64 0))=eWm (svA w n (a+1)):=by rw[<-g1];unfold eWm;rw[q9k,x0l];rfl
  have q2:((tdA n a).map (AV.int .i64)).set a (.int .i64 a)=(tdA n (a+1)).map (AV.int .i64):=by rw[<-g2,q9k]
  have q3:((wtA n a).map bv).set a .tt=(wtA n (a+1)).map bv:=by rw[<-g3,q9k];rfl
  generalize svA w n a=inn at*
  generalize tdA n a=td at*
  generalize wtA n a=wt at*
  have hel:(eWm inn).length=n:=by unfold eWm;rw[q7f,l1]
  unfold svH svO;conv=>whnf
  repeat' (first|((first|(refine iM fun _=>?_)|refine dA ?_|refine q7p rfl ?_|refine aD ?_|refine aR ?_|refine bP ?_|(refine iA fun _=>?_)|refine IdxK.xs (by omega) ?_|refine QX (by omega) ?_|(refine ByteK.at (by omega) ?_)|refine q7p (by decide) ?_|refine Wr.i64 (by first|omega|(rw[e7];omega)) (by first|omega|(rw[e7];omega)) ?_|refine x2m w (by rw[hw,e7];omega) (by show 8*_<=140737488355328;omega) (by unfold maxLen;omega) ?_|refine q9x a rfl h1 ?_|(refine HR QK rfl rfl rfl rfl rfl rfl rfl rfl rfl (by decide) a [] (by omega) (by omega) (by simp) ⟨by simp,by simp,by simp⟩ ?_)|refine x0r a 0 _ (.int .i64 a) (by omega) x2 (q8z 1) rfl ?_|refine x0r a 0 _ .tt (by omega) x3 (q8z 1) (by cases o3<;>rfl) ?_);conv=>whnf)|(apply bD<;>intro _<;>first|omega|conv=>whnf)|(apply bE<;>intro _<;>first|omega|conv=>whnf)|(apply bN<;>intro _<;>conv=>whnf)|(apply bB<;>intro _<;>conv=>whnf))
  all_goals exact⟨a+1,h1,by omega,Le.of_eq (by show _=St.mk _ (svH (svA w n (a+1)) (tdA n (a+1)) (wtA n (a+1)) 0);unfold svH svO;rw[<-q1,<-q2,<-q3];rfl)⟩
 ·obtain rfl:a=n:=by omega
  have hB:a*(64*w)<=5000*(64*79):=Nat.mul_le_mul hn (by omega);have hst:=Ct (n:=a) (w:=w) (nx:=g.1) (gen:=gen) (kill:=kill) (by omega);have i1:svA w a a=List.replicate a (List.replicate w 0):=by unfold svA;simp
  have i2:tdA a a=(List.range a).map ofNat:=by unfold tdA;simp
  have i3:wtA a a=List.replicate a true:=by unfold wtA;simp
  rw[i1,i2,i3];conv=>whnf
  repeat' (first|((first|(refine iM fun _=>?_)|refine dA ?_|refine q7p rfl ?_|refine aD ?_|refine aR ?_|refine bP ?_|(refine iA fun _=>?_)|refine IdxK.xs (by omega) ?_|refine QX (by omega) ?_|(refine ByteK.at (by omega) ?_)|refine wI ?_);conv=>whnf)|(apply bD<;>intro _<;>first|omega|conv=>whnf)|(apply bE<;>intro _<;>first|omega|conv=>whnf)|(apply bN<;>intro _<;>conv=>whnf)|(apply bB<;>intro _<;>conv=>whnf))
  refine LoopK.inv QK (fun x:SvS×List Int×Int=>⟨[(0,.p (VQ g)),(1,.p (NO gen)),(2,.p (NO kill)),(3,.p (.int .i64 most)),(8,.ptr 0 0),(9,.ptr 1 0),(11,.hd 2 0 a),(12,.hd 3 x.2.1.length x.1.todo.length),(13,.hd 4 0 a)],svH x.1.inn (x.2.1++x.1.todo) x.1.waits x.2.2⟩)
   (fun x=>SvI a w g.1 gen kill x.1/\(∀y:Int,0<=y->y<a->y∉x.1.todo->closedA a w g.1 gen kill x.1.inn y)/\0<=x.2.2/\(x.2.1.length:Int)<=x.2.2/\x.2.2.toNat+(a*(64*w)+x.1.todo.length-VP w x.1.inn)<=a*(64*w)+a)
   (fun x=>a*(64*w)+x.1.todo.length-VP w x.1.inn) (⟨List.replicate a (List.replicate w 0),(List.range a).map ofNat,List.replicate a true⟩,[],0)
   (Le.mk [] (by simp) (by simp) (by simp[svH,svO]) (.r (.r (.r (.r (.r (.r (.r (.cons (.of_eq (by simp only[q7f,x0h];rfl)) (.r .nil))))))))) (.cons rfl (.refl _) (.cons rfl (.refl _) (.cons rfl (.refl _) (.cons rfl (.refl _) (.cons rfl (.refl _) .nil)))))) ⟨hst,fun y h0 h1 hy=>absurd (q7s.2 ⟨y.toNat,q9q.2 (by omega),by show((y.toNat:Nat):Int)=y;omega⟩) hy,Int.le_refl _,Int.le_refl _,by simp only[q7f,x0h];omega⟩ ?_
  rintro⟨st,pre,tm⟩ ⟨hI,hcl,ht0,hpt,hmu⟩;simp only at hI hcl ht0 hpt hmu⊢;cases htd:st.todo with
  | nil=>
    rw[htd]at hcl hmu;unfold svH svO;conv=>whnf
    repeat' (first|((first|(refine iM fun _=>?_)|refine dA ?_|refine q7p rfl ?_|refine aD ?_|refine aR ?_|refine bP ?_|(refine iA fun _=>?_)|refine IdxK.xs (by omega) ?_|refine QX (by omega) ?_|(refine ByteK.at (by omega) ?_)|refine wI ?_);conv=>whnf)|(apply bD<;>intro _<;>first|omega|conv=>whnf)|(apply bE<;>intro _<;>first|omega|conv=>whnf)|(apply bN<;>intro _<;>conv=>whnf)|(apply bB<;>intro _<;>conv=>whnf))
    all_goals try (exfalso;simp only[x1a]at*;omega)
    obtain⟨inn,todo,waits⟩:=st;simp only at htd hI hcl hmu⊢;subst htd;have hil:=hI.len;simp only at hil;have hel:(eWm inn).length=a:=by unfold eWm;rw[q7f,hil]
    have hfin:∀b:Int,0<=b->b<a->∀f,f/64<w->(bitW (inn.getD b.toNat []) f=true↔SolP g.1 gen kill f b):=fun b h0 h1 f hf=>EL hI hcl rfl (by omega) h0 h1 hf;have hrow:=hI.rows;simp only at hrow;refine LoopK.inv QK (fun i:Nat=>⟨[(3,.p (.int .i64 most)),(8,.ptr 0 0),(9,.ptr 1 0),(11,.p (NO inn)),(130,.p (.int .i64 a)),(131,.p (.int .i64 i))],[(1,.obj 210 [.hd 5 0 i,.p (.int .i64 tm)]),(0,.obj 210 [.p .nils,.p (.int .i64 0)]),(5,.own 29 1 ((inn.take i).map fun r=>QA (UL r most)))]⟩) (fun i=>i<=a) (fun i=>a-i) 0
     (by
       refine Le.trans (q2k (N:=_) inn hel most tm) ?_;exact Le.mk [(5,.own 29 1 [])] (by simp[Chunk.new0];rfl) (by simp) (by simp) (.r (.r (.r (.r (.r (.r .nil)))))) (.cons rfl (.obj (.cons (.nil q7d) (.r .nil))) (.cons rfl (.refl _) (.new q7d .nil)))) (q7c _) ?_
    intro i hi;rcases q7e i a with h1|h1
    ·have hlt:i<inn.length:=by omega
     have eI:((eWm inn).map AV.sl)[i]?=some (.sl (inn[i].map eW)):=by unfold eWm;rw[q7l,q7l,q7g hlt];rfl
     have hrl:=hrow _ (q7i hlt);have hLi:=Um inn[i] most (by omega) (by omega);have hacl:((inn.take i).map fun r=>QA (UL r most)).length=i:=by rw[q7f,q8n];omega
     have hacs:((inn.take (i+1)).map fun r=>QA (UL r most))=((inn.take i).map fun r=>QA (UL r most))++[QA (UL inn[i] most)]:=by rw[q8q hlt,q7o];rfl
     generalize((inn.take i).map fun r=>QA (UL r most))=acc at hacl hacs⊢;generalize inn[i]=row at*
     conv=>whnf
     repeat' (first|((first|(refine iM fun _=>?_)|refine dA ?_|refine q7p rfl ?_|refine aD ?_|refine aR ?_|refine bP ?_|(refine iA fun _=>?_)|refine IdxK.xs (by omega) ?_|refine QX (by omega) ?_|(refine ByteK.at (by omega) ?_)|refine wI ?_|(refine IdxK.at (k:=i) rfl eI rfl ?_)|refine cP hLi ?_|refine x1m hacl.symm rfl (by show(i+1)*24<=140737488355328;omega) (by show i+1<=9223372036854775807;omega) (fun x hx=>by rcases q7m.1 hx with rfl;exact⟨rfl,rfl⟩) ?_);conv=>whnf)|(apply bD<;>intro _<;>first|omega|conv=>whnf)|(apply bE<;>intro _<;>first|omega|conv=>whnf)|(apply bN<;>intro _<;>conv=>whnf)|(apply bB<;>intro _<;>conv=>whnf)|(refine q7p ?_ ?_<;>conv=>whnf))
     all_goals first
      |(exfalso;omega)
      |exact⟨i+1,h1,by omega,Le.of_eq (by rw[hacs];rfl)⟩
    ·obtain rfl:i=a:=by omega
     have hall:((inn.take i).map fun r=>QA (UL r most))=inn.map fun r=>QA (UL r most):=by rw[q8y (by omega)]
     have hal2:(inn.map fun r=>QA (UL r most)).length=i:=by rw[q7f,hil]
     rw[hall];conv=>whnf
     repeat' (first|((first|(refine iM fun _=>?_)|refine dA ?_|refine q7p rfl ?_|refine aD ?_|refine aR ?_|refine bP ?_|(refine iA fun _=>?_)|refine IdxK.xs (by omega) ?_|refine QX (by omega) ?_|(refine ByteK.at (by omega) ?_)|refine wI ?_);conv=>whnf)|(apply bD<;>intro _<;>first|omega|conv=>whnf)|(apply bE<;>intro _<;>first|omega|conv=>whnf)|(apply bN<;>intro _<;>conv=>whnf)|(apply bB<;>intro _<;>conv=>whnf))
     all_goals try (exfalso;omega)
     have he:(avI (inn.map fun row=>UL row most)).map AV.sl=inn.map fun r=>QA (UL r most):=by
      unfold avI;rw[x1o,x1o];rfl
     refine⟨_,.agg (cs:=[eMat (inn.map fun row=>UL row most),.int .i64 tm]) rfl fun q l c h1 h3=>?_,⟨inn,tm,hfin,hil,rfl⟩⟩
     match q,h1,h3 with
     | 0,h1,h3=>
       cases h1;cases h3;show Frz _ _ (.sl ((avI (inn.map fun row=>UL row most)).map AV.sl));rw[he];exact .hd rfl hal2.symm
     |1,h1,h3=>cases h1;cases h3;exact .p (Sub.refl _)
     |q+2,h1,h3=>simp at h1
  | cons x r=>
    have har:=hI.rng x (by rw[htd];exact q7d);obtain⟨hJ,hgs⟩:=Ei hI hcl htd;have hca:=V1 (w:=w) st.inn;rw[hI.len]at hca;rw[htd]at hmu;simp only[q8s]at hmu;obtain⟨inn,todo,waits⟩:=st;simp only at htd hI hcl hmu hJ hgs hca⊢;subst htd;obtain⟨xn,hxn⟩ : ∃xn:Nat,x=xn:=⟨x.toNat,by omega⟩;subst hxn;rw[x0q]at hJ hgs;have hxl:xn<a:=by omega
    have hil:=hI.len;have hwl:=hI.wl;simp only at hil hwl;have hiw:=hI.rows _ (q7i (show xn<inn.length by omega));have e1:((pre++(xn:Int)::r).map (AV.int .i64))[pre.length]?=some (.int .i64 xn):=by rw[q7l,q9w (q8z _),x2r];rfl
    have e2:(waits.map bv)[xn]?=some (bv (waits[xn]'(by omega))):=by rw[q7l,q7g (by omega)];rfl
    generalize waits[xn]'(by omega)=w0 at e2;have hrm:(waits.map bv).set xn .ff=(waits.set xn false).map bv:=by rw[q9k];rfl
    have hwm:(waits.map bv).length=a:=by rw[q7f,hwl]
    have hpm:((pre++(xn:Int)::r).map (AV.int .i64)).length=pre.length+(r.length+1):=by simp
    unfold svH svO;conv=>whnf
    repeat' (first|((first|(refine iM fun _=>?_)|refine dA ?_|refine q7p rfl ?_|refine aD ?_|refine aR ?_|refine bP ?_|(refine iA fun _=>?_)|refine IdxK.xs (by omega) ?_|refine QX (by omega) ?_|(refine ByteK.at (by omega) ?_)|refine q9x 0 rfl (by simp) ?_|refine q9t pre.length 0 (.int .i64 xn) (by omega) e1 ?_|refine SlK.mk 1 (r.length+1) rfl rfl (by omega) (by simp) ?_|refine q9x xn rfl (by omega) ?_|refine x0r xn 0 _ .ff (by omega) e2 (q8z 1) (by cases w0<;>rfl) ?_|refine q7p (by decide) ?_|refine Wr.i64 (by first|omega|(rw[e7];omega)) (by first|omega|(rw[e7];omega)) ?_|refine x2m w (by rw[hw,e7];omega) (by show 8*_<=140737488355328;omega) (by unfold maxLen;omega) ?_);conv=>whnf)|(apply bD<;>intro _<;>first|omega|conv=>whnf)|(apply bE<;>intro _<;>first|omega|conv=>whnf)|(apply bN<;>intro _<;>conv=>whnf)|(apply bB<;>intro _<;>conv=>whnf))
    all_goals try (exfalso;simp only[q8s]at*;omega)
    have hxg:xn<gen.length:=by omega
    have hxk:xn<kill.length:=by omega
    have hG:=hgw _ (q7i hxg);have hK:=hkw _ (q7i hxk);have eG:((eWm gen).map AV.sl)[xn]?=some (.sl (gen[xn].map eW)):=by unfold eWm;rw[q7l,q7l,q7g hxg];rfl
    have eK:((eWm kill).map AV.sl)[xn]?=some (.sl (kill[xn].map eW)):=by unfold eWm;rw[q7l,q7l,q7g hxk];rfl
    have eI:(eWm inn)[xn]?=some ((inn[xn]'(by omega)).map eW):=by unfold eWm;rw[q7l,q7g (by omega)];rfl
    have hel:(eWm inn).length=a:=by unfold eWm;rw[q7f,hil]
    have hgoes:goA w gen kill inn xn=DA w gen[xn] (inn[xn]'(by omega)) kill[xn]:=by
     unfold goA;rw[q7h,q7g hxg,q7h,q7g (by omega),q7h,q7g hxk];rfl
    rw[hgoes]at hJ hgs;generalize hgG:gen[xn]=G at*
    generalize hgK:kill[xn]=Kr at*
    generalize hgI:inn[xn]'(by omega)=I at*
    have hgl:(DA w G I Kr).length=w:=Sr _ _ _ _;refine LoopK.inv QK (fun i:Nat=>⟨[(0,.p (VQ g)),(1,.p (NO gen)),(2,.p (NO kill)),(3,.p (.int .i64 most)),(8,.ptr 0 0),(9,.ptr 1 0),(11,.hd 2 0 a),(12,.hd 3 (pre.length+1) r.length),(13,.hd 4 0 a),(15,.p (.int .i64 xn)),(16,.hd 5 0 w),(69,.p (.int .i64 w)),(70,.p (.int .i64 i))],(5,.own 255 1 (((DA w G I Kr).take i++List.replicate (w-i) 0).map eW))::svH inn (pre++(xn:Int)::r) (waits.set xn false) (tm+1)⟩) (fun i=>i<=w) (fun i=>w-i) 0
     (Le.of_eq (by unfold svH svO;simp[hrm,eW];exact⟨rfl,rfl,.inr rfl⟩)) (q7c _) ?_
    intro i hi;rcases q7e i w with h1|h1
    ·have gI:(I.map eW)[i]?=some (.int .u64 ((I[i]'(by omega)).toNat:Int)):=Tt (by omega);have gG:(G.map eW)[i]?=some (.int .u64 ((G[i]'(by omega)).toNat:Int)):=Tt (by omega);have gK:(Kr.map eW)[i]?=some (.int .u64 ((Kr[i]'(by omega)).toNat:Int)):=Tt (by omega);have hset:=AS (goes:=DA w G I Kr) (w:=w) hgl h1;have hgi:(DA w G I Kr)[i]'(by omega)=G[i]'(by omega) |||(I[i]'(by omega) &&& ~~~ (Kr[i]'(by omega))):=by
      unfold DA;rw[x1i,x3j,q7h,q7g (by omega),q7h,q7g (by omega),q7h,q7g (by omega)];rfl
     rw[hgi]at hset;obtain⟨acc,hacc⟩ : ∃acc,acc=((DA w G I Kr).take i++List.replicate (w-i) 0):=⟨_,rfl⟩;have hal:acc.length=w:=by rw[hacc,q7b,q8n,q9d];omega
     have gA:(acc.map eW)[i]?=some (eW (acc[i]'(by omega))):=by rw[q7l,q7g (by omega)];rfl
     rw[<-hacc]at hset⊢;generalize acc[i]'(by omega)=o5 at gA;generalize I[i]'(by omega)=x1 at*
     generalize G[i]'(by omega)=x2 at*
     generalize Kr[i]'(by omega)=x3 at*
     have hst2:(acc.map eW).set i (eW (x2 |||(x1 &&& ~~~x3)))=((DA w G I Kr).take (i+1)++List.replicate (w-(i+1)) 0).map eW:=by rw[<-hset,q9k]
     have ham:(acc.map eW).length=w:=by rw[q7f,hal]
     have hIm:(I.map eW).length=w:=by rw[q7f];exact hiw
     unfold svH svO;conv=>whnf
     repeat' (first|((first|(refine iM fun _=>?_)|refine dA ?_|refine q7p rfl ?_|refine aD ?_|refine aR ?_|refine bP ?_|(refine iA fun _=>?_)|refine IdxK.xs (by omega) ?_|refine QX (by omega) ?_|(refine ByteK.at (by omega) ?_)|refine wI ?_|(refine IdxK.at (k:=xn) rfl eG rfl ?_)|(refine IdxK.at (k:=i) rfl gG rfl ?_)|(refine IdxK.at (k:=xn) rfl eK rfl ?_)|(refine IdxK.at (k:=i) rfl gK rfl ?_)|refine q9x xn rfl (by omega) ?_|refine q9x i rfl (by omega) ?_|refine RowK.mk xn _ (by omega) eI (by simp) ?_|refine RLd.mk _ i 0 _ eI (by simp) (by omega) gI ?_|refine UU rfl x1 x3 _ rfl rfl rfl rfl (.inr (.inr ⟨rfl,rfl⟩)) ?_|refine UU rfl x2 _ _ rfl rfl rfl rfl (.inr (.inl ⟨rfl,rfl⟩)) ?_|refine x0r i 0 (eW o5) (eW (x2 |||(x1 &&& ~~~x3))) (by omega) gA (q8z 1) rfl ?_);conv=>whnf)|(apply bD<;>intro _<;>first|omega|conv=>whnf)|(apply bE<;>intro _<;>first|omega|conv=>whnf)|(apply bN<;>intro _<;>conv=>whnf)|(apply bB<;>intro _<;>conv=>whnf))
     all_goals first
      |(exfalso;omega)
      |exact⟨i+1,h1,by omega,Le.of_eq (by rw[<-hst2];rfl)⟩
    ·have hie:i=w:=by omega
     rw[hie];have hall:(DA w G I Kr).take w++List.replicate (w-w) 0=DA w G I Kr:=by rw[q8y (by omega),x2r];simp
     rw[hall];obtain⟨gw,hgw2⟩ : ∃gw,gw=DA w G I Kr:=⟨_,rfl⟩;rw[<-hgw2]at hgl hgs hJ⊢;have hNx:=Zu g xn hgl0;have hhas:ZG g.1.length (xn:Int)=true:=by unfold ZG;simp;omega
     rw[if_pos hhas,x0q]at hNx;unfold svH svO;conv=>whnf
     repeat' (first|((first|(refine iM fun _=>?_)|refine dA ?_|refine q7p rfl ?_|refine aD ?_|refine aR ?_|refine bP ?_|(refine iA fun _=>?_)|refine IdxK.xs (by omega) ?_|refine QX (by omega) ?_|(refine ByteK.at (by omega) ?_)|refine wI ?_|refine cP hNx ?_);conv=>whnf)|(apply bD<;>intro _<;>first|omega|conv=>whnf)|(apply bE<;>intro _<;>first|omega|conv=>whnf)|(apply bN<;>intro _<;>conv=>whnf)|(apply bB<;>intro _<;>conv=>whnf))
     all_goals try (exfalso;omega)
     have hnx:∀r∈g.1,∀b∈r,0<=b/\b<a:=hg.2;have hnxl:(g.1.getD xn []).length<=1000000:=by
      rw[q7h,q7g (by omega)];exact hgl0 _ (q7i (by omega))
     have hnr:∀b∈g.1.getD xn [],0<=b/\b<a:=fun b hb=>by
      rw[q7h,q7g (by omega)]at hb;exact hnx _ (q7i (by omega)) b hb
     obtain⟨nxt,hnxt⟩ : ∃nxt,nxt=g.1.getD xn []:=⟨_,rfl⟩;have hE:∀{st:SvS},SvJ a w g.1 gen kill xn gw nxt.length st->∀x:Int,0<=x->x<a->x∉st.todo->closedA a w g.1 gen kill st.inn x:=fun {st} h=>by
      subst hnxt;exact AH h
     have hJn:∀{j:Nat}{st:SvS},SvJ a w g.1 gen kill xn gw j st->∀hj:j<nxt.length,SvJ a w g.1 gen kill xn gw (j+1) (jnE gw st nxt[j])/\VP w st.inn+(jnE gw st nxt[j]).todo.length<=VP w (jnE gw st nxt[j]).inn+st.todo.length:=fun {j st} h hj=>by
      subst hnxt;exact Of hnx har.1 har.2 hgl hgs h hj
     rw[<-hnxt]at hnr hnxl⊢;clear hgs hNx;have hnl:(nxt.map (AV.int .i64)).length=nxt.length:=q7f _;refine LoopK.inv QK (fun x:Nat×SvS×List Int=>⟨[(0,.p (VQ g)),(1,.p (NO gen)),(2,.p (NO kill)),(3,.p (.int .i64 most)),(8,.ptr 0 0),(9,.ptr 1 0),(11,.hd 2 0 a),(12,.hd 3 x.2.2.length x.2.1.todo.length),(13,.hd 4 0 a),(16,.hd 5 0 w),(102,.p (QA nxt)),(103,.p (.int .i64 (nxt.map (AV.int .i64)).length)),(104,.p (.int .i64 x.1))],(5,.own 255 1 (gw.map eW))::svH x.2.1.inn (x.2.2++x.2.1.todo) x.2.1.waits (tm+1)⟩)
      (fun x=>x.1<=nxt.length/\SvJ a w g.1 gen kill xn gw x.1 x.2.1/\VP w inn+x.2.1.todo.length<=VP w x.2.1.inn+r.length/\(x.2.2.length:Int)<=tm+1)
      (fun x=>nxt.length-x.1) (0,⟨inn,r,waits.set xn false⟩,pre++[(xn:Int)]) (Le.of_eq (by unfold svH svO;simp;rfl)) ⟨q7c _,hJ,q8z _,by simp;omega⟩ ?_
     rintro⟨j,⟨inn2,todo2,waits2⟩,pre2⟩ ⟨h2,h3,h4,h5⟩;simp only at h2 h3 h4 h5⊢;have hca2:=V1 (w:=w) inn2;have hl2:=h3.I.len;simp only at hl2;rw[hl2]at hca2;rcases q7e j nxt.length with hj|hj
     ·obtain⟨h6,h7⟩:=hJn h3 hj;have hbr:=hnr _ (q7i hj);obtain⟨bn,hbj⟩ : ∃bn:Nat,nxt[j]=bn:=⟨nxt[j].toNat,by omega⟩;rw[hbj]at h6 h7 hbr;have hbl:bn<inn2.length:=by omega
      have hwl2:=h3.I.wl;simp only at hwl2;unfold jnE at h6 h7;simp only[x0q]at h6 h7;rw[q7h,q7g hbl,q9j,q7h,q7g (show bn<waits2.length by omega),q9j]at h6 h7;have hrw:=h3.I.rows _ (q7i hbl);have eR:(eWm inn2)[bn]?=some (inn2[bn].map eW):=by unfold eWm;rw[q7l,q7g hbl];rfl
      have eW2:(waits2.map bv)[bn]?=some (bv (waits2[bn]'(by omega))):=by rw[q7l,q7g (by omega)];rfl
      have hmset:(eWm inn2).set bn ((ZB inn2[bn] gw).map eW)=eWm (inn2.set bn (ZB inn2[bn] gw)):=by unfold eWm;rw[q9k]
      have hwset:(waits2.map bv).set bn .tt=(waits2.set bn true).map bv:=by rw[q9k];rfl
      generalize inn2[bn]=row at*
      generalize waits2[bn]'(by omega)=wb at*
      have hjo:=Tk row gw (by omega) (by omega);have hjl:=Vc (b:=row) (c:=gw) (by omega);have hrm2:(row.map eW).length=w:=by rw[q7f];exact hrw
      have hgm2:(gw.map eW).length=w:=by rw[q7f];exact hgl
      have hel2:(eWm inn2).length=a:=by unfold eWm;rw[q7f,hl2]
      have hwm2:(waits2.map bv).length=a:=by rw[q7f,hwl2]
      have hjo2:SpecH prog 239 [.hd 1000 0 (row.map eW).length,.hd 1001 0 w] ((1000,.own 255 1 (row.map eW))::bif true then [(1001,.own 255 1 (gw.map eW))]else []) (fun r H=>r=.p (.bool (MR row gw row.length))/\H=[wsH 1000 (ZB row gw),wsH 1001 gw]):=by
       rw[hrm2];rw[hrw,hgl]at hjo;rw[hrw];exact hjo
      generalize MR row gw row.length=mv at*
      unfold svH svO;rcases wb with _|_;rcases pre2 with _|⟨y,p2⟩;all_goals
       conv=>whnf
       repeat' (first|((first|(refine iM fun _=>?_)|refine dA ?_|refine q7p rfl ?_|refine aD ?_|refine aR ?_|refine bP ?_|(refine iA fun _=>?_)|refine IdxK.xs (by omega) ?_|refine QX (by omega) ?_|(refine ByteK.at (by omega) ?_)|refine wI ?_|refine q9x bn hbj (by omega) ?_|refine RowK.mk bn _ (by omega) eR (by simp) ?_|(refine Xv 2 bn 5 true ((ZB row gw).map eW) (S:=fun c=>c=.bool mv) (.row (.own rfl .nil)) hjo2 rfl eR (by omega) (fun _=>⟨rfl,by decide⟩) (fun l' H' hh=>by obtain⟨h8,h9⟩:=hh;exact⟨_,h8,rfl,h9⟩) (by rw[q7f,q7f,hjl]) ?_;rintro _ rfl)|refine q9t bn 0 _ (by omega) eW2 ?_|refine x0r bn 0 _ .tt (by omega) eW2 (q8z 1) rfl ?_|refine XX (by simp) (by simp;omega) ?_|refine Re QK rfl rfl (Nat.succ_pos _) rfl rfl rfl rfl rfl rfl (by decide) (by rw[q7f,q7b]) rfl (Nat.succ_pos _) (fun x hx=>by rcases q7m.1 hx with rfl;exact⟨rfl,rfl⟩) (by show _+1<=maxLen;unfold maxLen;omega) (by show(_+1)*8<=_;omega) ?_ ?_);conv=>whnf)|(apply bD<;>intro _<;>first|omega|conv=>whnf)|(apply bE<;>intro _<;>first|omega|conv=>whnf)|(apply bN<;>intro _<;>conv=>whnf)|(apply bB<;>intro _<;>conv=>whnf)|(refine q7p ?_ ?_<;>conv=>whnf))
       all_goals try (exfalso;simp_all;done)
       all_goals first
        | (have hq:(mv && !true)=false:=by simp[*]
           rw[hq,q8b]at h6 h7;exact⟨(j+1,⟨inn2.set bn (ZB row gw),todo2,waits2⟩,_),⟨hj,h6,by simp only at h7⊢;omega,h5⟩,by simp only;omega,Le.of_eq (by rw[<-hmset];rfl)⟩)
        | (have hq:(mv && !false)=false:=by simp[*]
           rw[hq,q8b]at h6 h7;exact⟨(j+1,⟨inn2.set bn (ZB row gw),todo2,waits2⟩,_),⟨hj,h6,by simp only at h7⊢;omega,h5⟩,by simp only;omega,Le.of_eq (by rw[<-hmset];rfl)⟩)
        | (have hq:(mv && !false)=true:=by simp[*]
           rw[hq,q8g]at h6 h7;exact⟨(j+1,⟨inn2.set bn (ZB row gw),todo2++[(bn:Int)],waits2.set bn true⟩,_),⟨hj,h6,by simp only[q7b,q8p]at h7⊢;omega,h5⟩,by simp only;omega,Le.of_eq (by simp only[svH,svO,<-hmset,<-hwset,hbj,q7o,q8d,q7b,q8f,x3q];rfl)⟩)
        | (have hq:(mv && !false)=true:=by simp[*]
           rw[hq,q8g]at h6 h7;exact⟨(j+1,⟨inn2.set bn (ZB row gw),todo2++[(bn:Int)],waits2.set bn true⟩,[]),⟨hj,h6,by simp only[q7b,q8p]at h7⊢;omega,by simp only[x1a];omega⟩,by simp only;omega,Le.of_eq (by rw[<-List.map_drop,List.drop_left];simp only[svH,svO,<-hmset,<-hwset,hbj,q7o,q8d,q7b,q8f,x3q];rfl)⟩)
     ·obtain rfl:j=nxt.length:=by omega
      have hcl2:=hE h3;unfold svH svO;conv=>whnf
      repeat' (first|((first|(refine iM fun _=>?_)|refine dA ?_|refine q7p rfl ?_|refine aD ?_|refine aR ?_|refine bP ?_|(refine iA fun _=>?_)|refine IdxK.xs (by omega) ?_|refine QX (by omega) ?_|(refine ByteK.at (by omega) ?_)|refine wI ?_);conv=>whnf)|(apply bD<;>intro _<;>first|omega|conv=>whnf)|(apply bE<;>intro _<;>first|omega|conv=>whnf)|(apply bN<;>intro _<;>conv=>whnf)|(apply bB<;>intro _<;>conv=>whnf))
      all_goals try (exfalso;omega)
      all_goals first
       |exact⟨(⟨inn2,todo2,waits2⟩,pre2,tm+1),⟨h3.I,hcl2,by simp only;omega,h5,by simp only;omega⟩,by simp only[q8s];omega,lE⟩
def q6k(n:Nat)(steps:List (Int×Int))(gen kill:List (List Int))(most:Nat)(r:AV):Prop:=∃(inn:List (List Wd)) (tm:Int),(∀b:Int,0<=b->b<n->∀f,f/64<most/64+1->(bitW (inn.getD b.toNat []) f=true↔SolP (QC n steps).1 (gen.map (GD (most/64+1))) (kill.map (GD (most/64+1))) f b))/\inn.length=n/\r=.tup [.agg [eMat (inn.map fun row=>UL row most),.int .i64 tm],.tt]
theorem R5(n:Nat)(hn:n<=5000)(steps:List (Int×Int))(hl:steps.length<=1000000)(hs:∀s∈steps,(0<=s.1/\s.1<n)/\0<=s.2/\s.2<n)(gen kill:List (List Int))(hg:gen.length=n)(hk:kill.length=n)(most:Nat)(hm:most<=5000)(hgr:∀r∈gen,r.length<=5000/\∀f∈r,0<=f/\f<most)(hkr:∀r∈kill,r.length<=5000/\∀f∈r,0<=f/\f<most):SpecP prog 157 [.int .i64 n,.sl (avP steps),eMat gen,eMat kill,.int .i64 most] (fun r=>q6k n steps gen kill most r):=by
 refine sB Rt func157 rfl call157 ?_;conv=>whnf
 have hgm:((avI gen).map AV.sl).length=n:=by unfold avI;rw[q7f,q7f,hg]
 have hkm:((avI kill).map AV.sl).length=n:=by unfold avI;rw[q7f,q7f,hk]
 have hsm:(avP steps).length=steps.length:=q7f _;repeat' (first|((first|(refine iM fun _=>?_)|refine dA ?_|refine q7p rfl ?_|refine aD ?_|refine aR ?_|refine bP ?_|(refine iA fun _=>?_)|refine IdxK.xs (by omega) ?_|refine QX (by omega) ?_|(refine ByteK.at (by omega) ?_)|refine wI ?_);conv=>whnf)|(apply bD<;>intro _<;>first|omega|conv=>whnf)|(apply bE<;>intro _<;>first|omega|conv=>whnf)|(apply bN<;>intro _<;>conv=>whnf)|(apply bB<;>intro _<;>conv=>whnf))
 all_goals try (exfalso;omega)
 refine LoopK.inv QK (fun j:Nat=>⟨[(0,.p (.int .i64 n)),(1,.p (.sl (avP steps))),(2,.p (eMat gen)),(3,.p (eMat kill)),(4,.p (.int .i64 most)),(10,.ptr 0 0),(45,.p (.sl (avP steps))),(46,.p (.int .i64 (avP steps).length)),(47,.p (.int .i64 j))],[(0,.obj 210 [.p .nils,.p (.int .i64 0)])]⟩) (fun j=>j<=steps.length) (fun j=>steps.length-j) 0 (Le.of_eq rfl) (q7c _) ?_;intro j hj;rcases q7e j steps.length with h1|h1
 ·have hsj:=hs _ (q7i h1);have hgj:(avP steps)[j]?=some (.agg [.int .i64 steps[j].1,.int .i64 steps[j].2]):=by unfold avP;rw[q7l,q7g h1];rfl
  generalize steps[j]=s at*
  obtain⟨x,y⟩:=s;simp only at hsj hgj;conv=>whnf
  repeat' (first|((first|(refine iM fun _=>?_)|refine dA ?_|refine q7p rfl ?_|refine aD ?_|refine aR ?_|refine bP ?_|(refine iA fun _=>?_)|refine IdxK.xs (by omega) ?_|refine QX (by omega) ?_|(refine ByteK.at (by omega) ?_)|refine wI ?_|(refine IdxK.at (k:=j) rfl hgj rfl ?_)|refine q9x 0 rfl (by decide) ?_|refine q9x 1 rfl (by decide) ?_);conv=>whnf)|(apply bD<;>intro _<;>first|omega|conv=>whnf)|(apply bE<;>intro _<;>first|omega|conv=>whnf)|(apply bN<;>intro _<;>conv=>whnf)|(apply bB<;>intro _<;>conv=>whnf))
  all_goals first
   |(exfalso;omega)
   |exact⟨j+1,h1,by omega,Le.of_eq rfl⟩
 ·have hG:=Vd n hn steps hl;have hS1:=Kq gen (by omega) (fun r hr=>(hgr r hr).1) most hm (fun r hr=>(hgr r hr).2);have hS2:=Kq kill (by omega) (fun r hr=>(hkr r hr).1) most hm (fun r hr=>(hkr r hr).2);have hin:=(YS n steps).1;have hgrl:∀r∈(QC n steps).1,r.length<=1000000:=fun r hr=>by
   have h2:=(DY (n:=n) (l:=steps) (q8z _)).1;rw[x2w]at h2;have:=(h2.2 r hr).2;omega
  have hSo:=Na (QC n steps) n hn hin hgrl most hm (gen.map (GD (most/64+1))) (kill.map (GD (most/64+1))) (by rw[q7f,hg]) (by rw[q7f,hk]) (fun r hr=>by obtain⟨x,_,rfl⟩:=q7s.1 hr;exact W5 _ _) (fun r hr=>by obtain⟨x,_,rfl⟩:=q7s.1 hr;exact W5 _ _);conv=>whnf
  repeat' (first|((first|(refine iM fun _=>?_)|refine dA ?_|refine q7p rfl ?_|refine aD ?_|refine aR ?_|refine bP ?_|(refine iA fun _=>?_)|refine IdxK.xs (by omega) ?_|refine QX (by omega) ?_|(refine ByteK.at (by omega) ?_)|refine wI ?_|refine cP hS1 ?_|refine cP hS2 ?_|refine cP hG ?_|(refine CallK.pure hSo (.cons (Sub.refl _) (.cons (Sub.refl _) (.cons (Sub.refl _) (.cons (Sub.refl _) .nil)))) ?_;rintro _ ⟨inn,tm,hin1,hin2,rfl⟩));conv=>whnf)|(apply bD<;>intro _<;>first|omega|conv=>whnf)|(apply bE<;>intro _<;>first|omega|conv=>whnf)|(apply bN<;>intro _<;>conv=>whnf)|(apply bB<;>intro _<;>conv=>whnf))
  all_goals first
   |(exfalso;omega)
   |contradiction
   |exact⟨_,.p (Sub.refl _),inn,tm,hin1,hin2,rfl⟩
def Md(p:Pg):Bool:=decide (gPg p<=20000)
theorem S7(h:Md p=true):Fit p:=by
 have:=q5t p;have h1:gPg p<=20000:=by simpa[Md]using h
 unfold Fit;omega
theorem XW(p:Pg):SpecP prog 11 [.agg p.cells] (fun r=>r=.bool (Md p)):=by
 refine sB BR func11 rfl call11 ?_;conv=>whnf
 have hl:(p.procs.map fun f=>AV.agg f.cells).length=p.procs.length:=q7f _;have q0:=XA (a:=0+BU p.globals) (by omega);repeat' (refine CallK.pure (XN p.globals 0 (by omega)) (.cons (Sub.refl _) (.cons (Sub.refl _) .nil)) ?_;rintro _ rfl;conv=>whnf)
 refine LoopK.inv QK (fun y:Nat×Int=>⟨[(1,.p (.ip p.cells)),(3,.p (.int .i64 y.2)),(4,.p (.int .i64 y.1))],[]⟩) (fun y=>y.1<=p.procs.length/\(0<=y.2/\y.2<=20001)/\XK (y.2+N6 (p.procs.drop y.1))=XK (gPg p:Nat)) (fun y=>p.procs.length-y.1) (0,XK (0+BU p.globals)) (Le.of_eq rfl) ⟨q7c _,q0,by
  show XK (XK (0+BU p.globals)+N6 p.procs)=_;rw[ZZ (by omega)];congr 1;unfold gPg;omega⟩ ?_
 rintro⟨j,m⟩ ⟨h2,h3,h4⟩;simp only at h2 h3 h4⊢;have last:∀{x:Int},0<=x/\x<=20001->XK x=XK (gPg p:Nat)->(decide (x<=20000))=Md p:=fun {x} hx h=>by
  unfold Md;unfold XK at h;by_cases h1:gPg p<=20000
  ·rw[x0b h1,q8e];split at h<;>split at h<;>omega
  ·rw[x0y h1,q9s];split at h<;>split at h<;>omega
 rcases q7e j p.procs.length with hj|hj;rotate_left 1
 ·rw[q8v hj,N6]at h4;conv=>whnf
  repeat' (first|(refine iM fun _=>?_;conv=>whnf)|(apply bD<;>intro _<;>first|omega|conv=>whnf))
  all_goals exact RetK.bool (last h3 (by rw[<-h4];simp))
 rw[q8o hj,N6]at h4;have hpe:gPr p.procs[j]=1+p.procs[j].name.length+BU p.procs[j].vars+BU p.procs[j].fin+A8 p.procs[j].params+gL p.procs[j].body:=rfl;have q1:=XA (a:=m+(1+p.procs[j].name.length:Nat)) (by omega);have q2:=XA (a:=XK (m+(1+p.procs[j].name.length:Nat))+BU p.procs[j].vars) (by omega);have q3:=XA (a:=XK (XK (m+(1+p.procs[j].name.length:Nat))+BU p.procs[j].vars)+BU p.procs[j].fin) (by omega);conv=>whnf
 repeat' (first|((first|(refine iM fun _=>?_)|refine dA ?_|refine q7p rfl ?_|(refine iA fun _=>?_)|refine cP (QI p.procs[j].name _ h3) ?_|refine cP (XN p.procs[j].vars _ q1) ?_|refine cP (XN p.procs[j].fin _ q2) ?_);conv=>whnf)|(apply bD<;>intro _<;>first|omega|conv=>whnf))
 rotate_left 1
 ·exact RetK.bool (last h3 (by rw[<-h4,<-UC (by omega) h3.2 (by omega),Hk h3.2]))
 have h5:XK (XK (XK (XK (m+(1+p.procs[j].name.length:Nat))+BU p.procs[j].vars)+BU p.procs[j].fin)+(A8 p.procs[j].params+(gL p.procs[j].body+N6 (p.procs.drop (j+1))):Nat))=XK (gPg p:Nat):=by
  rw[ZZ (by omega),x3u,ZZ (by omega),x3u,ZZ (by omega),<-h4,hpe];congr 1;omega
 generalize XK (XK (XK (m+(1+p.procs[j].name.length:Nat))+BU p.procs[j].vars)+BU p.procs[j].fin)=m0 at q3 h5⊢;have hal:(p.procs[j].params.map fun a=>AV.agg a.cells).length=p.procs[j].params.length:=q7f _;refine LoopK.inv QK (fun y:Nat×Int=>⟨[(1,.p (.ip p.cells)),(3,.p (.int .i64 y.2)),(4,.p (.int .i64 j)),(5,.p (.ip p.procs[j].cells)),(6,.p (.int .i64 y.1))],[]⟩) (fun y=>y.1<=p.procs[j].params.length/\(0<=y.2/\y.2<=20001)/\XK (y.2+(A8 (p.procs[j].params.drop y.1)+(gL p.procs[j].body+N6 (p.procs.drop (j+1))):Nat))=XK (gPg p:Nat)) (fun y=>p.procs[j].params.length-y.1) (0,m0) (Le.of_eq rfl) ⟨q7c _,q3,h5⟩ ?_;rintro⟨a,m2⟩ ⟨h6,h7,h8⟩;simp only at h6 h7 h8⊢;have fin:XK (m2+(gL p.procs[j].body+N6 (p.procs.drop (j+1)):Nat))=XK (gPg p:Nat)->(0<=XK (m2+gL p.procs[j].body)/\XK (m2+gL p.procs[j].body)<=20001)/\XK (XK (m2+gL p.procs[j].body)+N6 (p.procs.drop (j+1)))=XK (gPg p:Nat):=fun h=>by
  refine⟨XA (by omega),?_⟩;rw[ZZ (by omega),<-h];congr 1;omega
 have full:m2>20000->XK (m2+(gL p.procs[j].body+N6 (p.procs.drop (j+1)):Nat))=XK (gPg p:Nat):=fun h=>by
  rw[<-h8,<-UC h h7.2 (by omega),<-UC h h7.2 (by omega)]
 rcases q7e a p.procs[j].params.length with ha|ha;rotate_left 1
 ·have h9:XK (m2+(gL p.procs[j].body+N6 (p.procs.drop (j+1)):Nat))=XK (gPg p:Nat):=by
   rw[q8v ha,A8,x0j]at h8;exact h8
  obtain⟨f1,f2⟩:=fin h9;conv=>whnf
  repeat' (first|((first|(refine iM fun _=>?_)|refine wI ?_|(refine CallK.pure (UQ (gL p.procs[j].body+1) p.procs[j].body (by omega) m2 h7) (.cons (Sub.refl _) (.cons (Sub.refl _) .nil)) ?_;rintro _ rfl));conv=>whnf)|(apply bD<;>intro _<;>first|omega|conv=>whnf))
  all_goals exact⟨(j+1,XK (m2+gL p.procs[j].body)),⟨by simp only;omega,f1,f2⟩,by simp only;omega,Le.of_eq rfl⟩
 rw[q8o ha,A8]at h8;conv=>whnf
 repeat' (first|((first|(refine iM fun _=>?_)|(refine iA fun _=>?_)|refine wI ?_|refine cP (QI p.procs[j].params[a].name _ h7) ?_|(refine CallK.pure (UQ (gL p.procs[j].body+1) p.procs[j].body (by omega) m2 h7) (.cons (Sub.refl _) (.cons (Sub.refl _) .nil)) ?_;rintro _ rfl));conv=>whnf)|(apply bD<;>intro _<;>first|omega|conv=>whnf))
 ·have h10:XK (XK (m2+(1+p.procs[j].params[a].name.length:Nat))+(A8 (p.procs[j].params.drop (a+1))+(gL p.procs[j].body+N6 (p.procs.drop (j+1))):Nat))=XK (gPg p:Nat):=by
   rw[ZZ (by omega),<-h8];congr 1;omega
  exact⟨(a+1,XK (m2+(1+p.procs[j].params[a].name.length:Nat))),⟨by simp only;omega,XA (by omega),h10⟩,by simp only;omega,Le.of_eq rfl⟩
 ·obtain⟨f1,f2⟩:=fin (full (by omega));exact⟨(j+1,XK (m2+gL p.procs[j].body)),⟨by simp only;omega,f1,f2⟩,by simp only;omega,Le.of_eq rfl⟩
inductive SubE:List AV->List AV->Prop
 |nil:SubE [] []
 |cons {a b:AV} {xs ys:List AV} (h:SubL a.cells b.cells) (hs:SubE xs ys):SubE (a::xs) (b::ys)
theorem SubE.get{xs ys:List AV}(h:SubE xs ys):xs.length=ys.length/\∀(i:Nat)(b:AV),ys[i]?=some b->∃a,xs[i]?=some a/\SubL a.cells b.cells:=by
 induction h with
 |nil=>exact⟨rfl,by simp⟩
 | cons h hs ih=>
   refine⟨by simp[ih.1],fun i b hb=>?_⟩;cases i with
   |zero=>simp at hb;subst hb;exact⟨_,rfl,h⟩
   |succ i=>exact ih.2 i b (by simpa using hb)
theorem Sub.sl{xs ys:List AV}(h:SubE xs ys):Sub (.sl xs) (.sl ys):=fun σ v hr=>by
 obtain⟨hl,hg⟩:=h.get;cases hr with
 | nilsl=>
   obtain rfl:ys=[]:=by simpa using hl.symm
   exact .nilsl
 | slz b=>
   obtain rfl:ys=[]:=by simpa using hl.symm
   exact .slz b
 | sl _ b off cap sz cells u hb hcap hmax hsz hc hrr=>
   rw[hl];refine .sl ys b off cap sz cells u hb (by omega) hmax (fun i e hi=>?_) (fun i e j c hi hj=>?_) (fun i e j c hi hj=>?_)
   ·obtain⟨a,h1,h2⟩:=hg i e hi;rw[<-hsz i a h1,h2.1]
   ·obtain⟨a,h1,h2⟩:=hg i e hi;obtain⟨d,h3,_⟩:=h2.get hj;exact hc i a j d h1 h3
   ·obtain⟨a,h1,h2⟩:=hg i e hi;obtain⟨d,h3,h4⟩:=h2.get hj;exact h4 _ _ (hrr i a j d h1 h3)
theorem Zf(n:Int):SpecP prog 77 [.int .i64 n] (fun r=>r=.agg (X.mk 1 n [] []).cells):=by
 refine sB NG func77 rfl call77 ?_;conv=>whnf
 repeat' (refine q7p rfl ?_;conv=>whnf)
 exact⟨_,.p (Sub.agg (by repeat' (first|exact SubL.nil|refine SubL.cons ?_ ?_|exact Sub.refl _|exact Sub.nils|exact Sub.ff rfl))),rfl⟩
theorem Xx(s:Str):SpecP prog 78 [.str s] (fun r=>r=.agg (X.mk 2 0 s []).cells):=by
 refine sB BC func78 rfl call78 ?_;conv=>whnf
 repeat' (refine q7p rfl ?_;conv=>whnf)
 exact⟨_,.p (Sub.agg (by repeat' (first|exact SubL.nil|refine SubL.cons ?_ ?_|exact Sub.refl _|exact Sub.nils|exact Sub.ff rfl))),rfl⟩
theorem HQ(op:Int)(a b:X):SpecP prog 79 [.int .i64 op,.agg a.cells,.agg b.cells] (fun r=>r=.agg (X.mk op 0 [] [a,b]).cells):=by
 refine sB NH func79 rfl call79 ?_;conv=>whnf
 repeat' ((first|refine q7p rfl ?_|refine aD ?_|refine BsK.pureL rfl rfl ?_);conv=>whnf)
 have e:X.avs [a,b]=[.agg a.cells,.agg b.cells]:=by simp only[X.avs,X.av_eq]
 exact⟨_,.p (Sub.agg (SubL.cons (Sub.refl _) (SubL.cons (Sub.refl _) (SubL.cons (Sub.refl _) (SubL.cons (Sub.of_eq (by show _=AV.sl (X.avs [a,b]);rw[e];rfl)) SubL.nil))))),rfl⟩
def bs(l:List Nat):Str:=l.map fun n=>UInt8.ofNat n
def someP:Pg:=⟨[[103]],[
 ⟨[109,97,105,110],[],[[118]],[
   .mk 1 1 [] [118] [] (.mk 1 2 [] []) false [] [] [],
   .mk 2 4 [] [103] [112] (.mk 0 0 [] []) false [⟨false,[],.mk 1 3 [] []⟩,⟨true,[118],.mk 0 0 [] []⟩] [] [],
   .mk 3 3 [] [] [] (.mk 2 0 [118] []) false [] [] [],
   .mk 4 3 [] [] [] (.mk 2 0 [103] []) false [] [] []],[]⟩,
 ⟨[112],[⟨[120],false⟩,⟨[121],true⟩],[],[
   .mk 5 1 [] [121] [] (.mk 8 0 [] [.mk 2 0 [121] [],.mk 2 0 [120] []]) false [] [] [],
   .mk 6 5 [] [] [] (.mk 12 0 [] [.mk 2 0 [121] [],.mk 1 9 [] []]) false [] [.mk 7 10 [] [101] [] (.mk 0 0 [] []) false [] [] []] [],
   .mk 8 9 [] [] [] (.mk 2 0 [121] []) true [] [] []],[[101]]⟩]⟩
theorem X9:SpecP prog 42 [] (fun r=>r=.agg someP.cells):=by
 refine sB BS func42 rfl call42 ?_;conv=>whnf
 repeat' ((first|refine cP (Zf _) ?_|refine cP (Xx _) ?_|refine q7p rfl ?_|refine aD ?_|refine bP ?_|refine BsK.pureL rfl rfl ?_|refine cP (HQ 8 (.mk 2 0 [121] []) (.mk 2 0 [120] [])) ?_|refine cP (HQ 12 (.mk 2 0 [121] []) (.mk 1 9 [] [])) ?_);conv=>whnf)
 exact⟨_,.p (Sub.agg (by repeat' (first|exact SubL.nil|exact SubE.nil|exact Sub.nils|exact Sub.ff rfl|exact Sub.tt rfl|refine SubL.cons ?_ ?_|refine SubE.cons ?_ ?_|exact Sub.refl _|refine Sub.agg ?_|refine Sub.sl ?_))),rfl⟩
theorem Hn:Fit someP:=by unfold Fit;decide
theorem Hp:QO someP=true:=by kernel_rfl
def f0:Pr:=someP.procs[0]'(by decide)
def f1:Pr:=someP.procs[1]'(by decide)
theorem q1e:WM (QP someP 0 f0)=[⟨0,1,1⟩,⟨1,2,1⟩,⟨2,3,1⟩,⟨3,4,1⟩,⟨4,-1,1⟩]:=by
 have h1:QP someP 0 f0=[⟨0,1,1⟩,⟨1,2,1⟩,⟨2,3,1⟩,⟨3,4,1⟩,⟨4,-1,1⟩]:=by kernel_rfl
 unfold WM YJ;rw[h1,List.mergeSort_of_pairwise (by decide)];rfl
theorem q1i:WM (QP someP 1 f1)=[⟨0,5,1⟩,⟨5,6,1⟩,⟨6,7,1⟩,⟨6,8,1⟩,⟨7,-1,1⟩,⟨8,-1,1⟩]:=by
 have h1:QP someP 1 f1=[⟨0,5,1⟩,⟨5,6,1⟩,⟨6,7,1⟩,⟨6,8,1⟩,⟨7,-1,1⟩,⟨8,-1,1⟩]:=by kernel_rfl
 unfold WM YJ;rw[h1,List.mergeSort_of_pairwise (by decide)];rfl
theorem S8(h:QO p=true):p.procs.length<=20000:=by have:=(XP h).2.1;omega
theorem Tl:∀(k:Nat)(l:List S)(_:QU l<k)(_:QU l<=1000000),SpecP prog 47 [eSs l] (fun r=>r=.int .i64 (QU l)):=by
 intro k;induction k with
 |zero=>intro l h;omega
 | succ k ih=>
   intro l hk hl;have hll:=S.avs_len l;have hlc:l.length<=QU l:=by
    clear hk hl hll;induction l with
    |nil=>simp
    |cons t r ihr=>rw[QU,VN,q8s];omega
   refine sB Ft func47 rfl call47 ?_;conv=>whnf
   repeat' (refine iM fun _=>?_;conv=>whnf)
   refine LoopK.inv QK (fun y:Nat×Nat=>⟨[(0,.p (eSs l)),(3,.p (.int .i64 y.2)),(8,.p (.int .i64 (S.avs l).length)),(9,.p (.int .i64 y.1))],[]⟩) (fun y=>y.1<=l.length/\y.2+QU (l.drop y.1)=QU l+(l.length-y.1)) (fun y=>l.length-y.1) (0,l.length) (Le.of_eq (by simp only[S.avs_len];rfl)) ⟨q7c _,by simp;omega⟩ ?_;rintro⟨j,n⟩ ⟨h2,h3⟩;simp only at h2 h3⊢;rcases q7e j l.length with hj|hj
   ·have hst:=NT hj;have hcs:=VN l[j];have h4:QU (l.drop j)<=QU l:=by
     have:∀(l:List S)(j:Nat),QU (l.drop j)<=QU l:=fun l=>by
      induction l with
      |nil=>intro j;simp
      | cons t r ihr=>
        intro j;cases j with
        |zero=>simp
        |succ j=>rw[List.drop_succ_cons,QU];have:=ihr j;omega
     exact this l j
    conv=>whnf
    repeat' (first|((first|refine dA ?_|refine QX (by omega) ?_|refine wI ?_|(refine CallK.pure (ih l[j].thn (by omega) (by omega)) (.cons (Sub.refl _) .nil) ?_;rintro _ rfl)|(refine CallK.pure (ih l[j].els (by omega) (by omega)) (.cons (Sub.refl _) .nil) ?_;rintro _ rfl));conv=>whnf)|(apply bD<;>intro _<;>first|omega|conv=>whnf))
    all_goals exact⟨(j+1,n+(QU l[j].thn+QU l[j].els)),⟨by simp only;omega,by simp only;omega⟩,by simp only;omega,Le.of_eq rfl⟩
   ·conv=>whnf
    rw[q8v hj,QU]at h3;repeat' (apply bD<;>intro _<;>first|omega|conv=>whnf)
    exact RetK.int (by omega)
theorem Kg(p:Pg)(hc:cntP p.procs<=1000):SpecP prog 13 [.agg p.cells] (fun r=>r=.int .i64 (cntP p.procs)):=by
 refine sB Fr func13 rfl call13 ?_;conv=>whnf
 have hl2:(p.procs.map fun f=>AV.agg f.cells).length=p.procs.length:=q7f _;repeat' (refine iM fun _=>?_;conv=>whnf)
 refine LoopK.inv QK (fun y:Nat×Nat=>⟨[(3,.p (.int .i64 y.2)),(7,.p (.sl (p.procs.map fun f=>.agg f.cells))),(8,.p (.int .i64 (p.procs.map fun f=>AV.agg f.cells).length)),(9,.p (.int .i64 y.1))],[]⟩) (fun y=>y.1<=p.procs.length/\y.2+cntP (p.procs.drop y.1)=cntP p.procs) (fun y=>p.procs.length-y.1) (0,0) (Le.of_eq rfl) ⟨q7c _,by simp⟩ ?_;rintro⟨j,n⟩ ⟨h2,h3⟩;simp only at h2 h3⊢;rcases q7e j p.procs.length with hj|hj
 ·have hst:=V2 hj;have hcm:=NS _ _ (q7i hj);conv=>whnf
  repeat' (first|((first|refine q7p rfl ?_|(refine iA fun _=>?_)|refine wI ?_|(refine CallK.pure (Tl (QU p.procs[j].body+1) p.procs[j].body (by omega) (by omega)) (.cons (Sub.refl _) .nil) ?_;rintro _ rfl));conv=>whnf)|(apply bD<;>intro _<;>first|omega|conv=>whnf))
  exact⟨(j+1,n+QU p.procs[j].body),⟨by simp only;omega,by simp only;omega⟩,by simp only;omega,Le.of_eq rfl⟩
 ·conv=>whnf
  rw[q8v hj,cntP]at h3;repeat' (apply bD<;>intro _<;>first|omega|conv=>whnf)
  exact RetK.int (by omega)
def K9(p:Pg)(most:Int):Bool:=QO p&&decide ((cntP p.procs:Int)<=most)
theorem UH{l:List Str}{x:Str}:inS l x=true↔x∈l:=by
 unfold inS;rw[q9c];constructor
 ·rintro⟨y,h1,h2⟩;have:y=x:=by simpa using h2
  rw[<-this];exact h1
 ·intro h;exact⟨x,h,by simp⟩
theorem LJ(h:QO p=true){f:Pr}(hj:p.procs[j]?=some f){a:Int}(h1:(QM p.procs j:Int)+1<=a)(h2:a<=(QM p.procs j+QU f.body:Nat)):∃t∈flL f.body,IV p a=some t/\t.id=a:=by
 obtain⟨it,h3,h4⟩:=KC hj (k:=(a-1).toNat) (by omega) (by omega);refine⟨it.s,Zk h4,by unfold IV;rw[h3];rfl,?_⟩;obtain⟨_,_,_,hlen,hsp⟩:=QV p;obtain⟨_,_,hle,hd⟩:=hsp j f hj;have hids:=Sa (QD h).1 hj;have h5:(itsOf p j f)[(a-1).toNat-QM p.procs j]?=some it:=by
  unfold itsOf;rw[<-hd,q9f,q9z,if_pos (by omega),show QM p.procs j+((a-1).toNat-QM p.procs j)=(a-1).toNat by omega];exact h3
 have h6:((itsOf p j f).map fun it=>it.s.id)[(a-1).toNat-QM p.procs j]?=some it.s.id:=by rw[q7l,h5];rfl
 rw[hids]at h6;unfold Zj at h6;rw[q7l,List.getElem?_range' (by omega)]at h6;simp at h6;omega
theorem Nk{l:List Str}{s:Str}(h:s∈l):s∈Go.Lib.compact l:=by
 have key:∀(j:Nat)(hj:j<l.length),l[j]∈Go.Lib.compact l:=fun j=>by
  induction j with
  | zero=>
    intro hj;refine q7s.2 ⟨0,q8t.2 ⟨by simpa using hj,by simp[Go.Lib.keeps]⟩,?_⟩;simp[hj]
  | succ j ih=>
    intro hj;cases hk:Go.Lib.keeps l.toArray (j+1)with
    | true=>
      refine q7s.2 ⟨j+1,q8t.2 ⟨by simpa using hj,hk⟩,?_⟩;simp[hj]
    | false=>
      have hj':j<l.length:=by omega
      have:l[j+1]=l[j]:=by
       unfold Go.Lib.keeps at hk;simp[hj,hj']at hk;exact hk
      rw[this];exact ih hj'
 obtain⟨j,hj,rfl⟩:=x0w.1 h;exact key j hj
theorem U4{l:List Str}{s:Str}:s∈Go.Lib.compact l↔s∈l:=⟨PZ,Nk⟩
theorem W2{α:Type}{R:α->α->Prop}(irr:∀a,¬R a a)(tr:∀a b c,R a b->R b c->R a c):∀{l m:List α},l.Pairwise R->m.Pairwise R->(∀s,s∈l↔s∈m)->l=m
 |[],[],_,_,_=>rfl
 |[],b::m,_,_,h=>by have:=(h b).2 q7d;cases this
 |a::l,[],_,_,h=>by have:=(h a).1 q7d;cases this
 | a::l,b::m,hl,hm,h=>by
   rw[x1q]at hl hm;have hab:a=b:=by
    rcases q7r.1 ((h a).1 q7d)with h1|h1
    ·exact h1
    rcases q7r.1 ((h b).2 q7d)with h2|h2
    ·exact h2.symm
    exact absurd (tr _ _ _ (hl.1 b h2) (hm.1 a h1)) (irr a)
   subst hab;rw[W2 irr tr hl.2 hm.2 fun s=>?_];constructor
   ·intro hs;rcases q7r.1 ((h s).1 (q7n _ hs))with rfl|h1
    ·exact absurd (hl.1 s hs) (irr s)
    ·exact h1
   ·intro hs;rcases q7r.1 ((h s).2 (q7n _ hs))with rfl|h1
    ·exact absurd (hm.1 s hs) (irr s)
    ·exact h1
theorem Mz:∀(x y:List UInt8),Op.bytesLess x y=decide (x<y)
 |[],[]=>by simp[Op.bytesLess]
 |_::_,[]=>by simp[Op.bytesLess]
 |[],_::_=>by simp[Op.bytesLess]
 | a::x,b::y=>by
   rw[Op.bytesLess,Mz x y];simp only[List.cons_lt_cons_iff];by_cases h1:a<b<;>by_cases h2:a=b<;>by_cases h3:x<y<;>simp[h1,h2,h3]
def ltT(a b:Str):Prop:=Op.bytesLess a b=true
theorem PD{a b:Str}:ltT a b↔a<b:=by
 unfold ltT;rw[Mz,q8e]
theorem ltT.irr(a:Str):¬ltT a a:=fun h=>List.lt_irrefl a (PD.1 h)
theorem ltT.trans(a b c:Str)(h1:ltT a b)(h2:ltT b c):ltT a c:=PD.2 (List.lt_trans (PD.1 h1) (PD.1 h2))
theorem ltT.total{a b:Str}(h:a≠b):ltT a b\/ltT b a:=by
 by_cases h1:a<b
 ·exact .inl (PD.2 h1)
 ·rcases List.le_iff_lt_or_eq.1 (List.not_lt.1 h1)with h2|h2
  ·exact .inr (PD.2 h2)
  ·exact absurd h2.symm h
theorem ET(l:List Str):(JW l).Pairwise fun a b=>a<=b:=by
 have:=x3v (le:=fun x y:Str=>decide (x<=y)) (fun a b c h1 h2=>by
  rw[q8e]at h1 h2⊢;exact List.le_trans h1 h2) (fun a b=>by
  rcases List.le_total a b with h|h
  ·rw[x0b h];rfl
  ·rw[x0b h];exact Bool.or_true _) l
 exact this.imp fun h=>by simpa using h
theorem Dx{l:List Str}(h:l.Pairwise fun a b=>a<=b):(Go.Lib.compact l).Pairwise ltT:=by
 unfold Go.Lib.compact Go.Lib.compactUpTo;rw[List.pairwise_map];refine(List.Pairwise.filter _ (List.pairwise_lt_range (n:=l.length))).imp_of_mem fun {i k} hi hk hlt=>?_;obtain⟨hi1,_⟩:=q8t.1 hi;obtain⟨hk1,hk2⟩:=q8t.1 hk;rw[q9q]at hi1 hk1;have le:∀(a b:Nat)(_:a<=b)(hb:b<l.length),l[a]'(by omega)<=l[b]:=fun a b hab hb=>by
  rcases q7e a b with h1|h1
  ·exact x2v.1 h a b (by omega) hb h1
  ·obtain rfl:a=b:=by omega
   exact List.le_refl _
 have g:∀(a:Nat)(ha:a<l.length),l.toArray[a]! = l[a]:=fun a ha=>by simp[ha]
 rw[g i hi1,g k hk1];unfold Go.Lib.keeps at hk2;rw[q8e,g k hk1,g (k-1) (by omega)]at hk2;have hne:l[k]≠l[k-1]'(by omega):=by
  rcases hk2 with h0|h0
  ·omega
  ·exact h0
 have h1:=le i (k-1) (by omega) (by omega);have h2:=le (k-1) k (by omega) hk1;rcases List.le_iff_lt_or_eq.1 h2 with h3|h3
 ·exact PD.2 (List.lt_of_le_of_lt h1 h3)
 ·exact absurd h3.symm hne
def WR(l:List Str):List Str:=Go.Lib.compact (JW l)
theorem XR{l:List Str}{s:Str}:s∈WR l↔s∈l:=by unfold WR;rw[U4,Ur]
theorem ZK(l:List Str):(WR l).Pairwise ltT:=Dx (ET l)
theorem EV{l m:List Str}(h:m.Pairwise ltT)(hm:∀s,s∈m↔s∈l):m=WR l:=W2 ltT.irr ltT.trans h (ZK l) fun s=>by rw[hm,XR]
structure RiseI{α:Type}(R:α->α->Prop)(l out:List α)(i:Nat):Prop where
 rise:out.Pairwise R
 sub:∀s∈out,s∈l
 seg:∀s∈l,s∉out->∀o∈out,R o s
 cnt:(∀s∈l,s∈out)\/out.length=i
def LeastI{α:Type}(R:α->α->Prop)(l out:List α)(k:Nat):Option α->Prop
 |none=>∀s∈l.take k,s∈out
 |some m=>m∈l/\m∉out/\∀s∈l.take k,s∉out->s=m\/R m s
section
variable {α:Type}{R:α->α->Prop}{l out:List α}{i k:Nat}
theorem RiseI.zero:RiseI R l [] 0:=⟨.nil,fun _ h=>(by cases h),fun _ _ _ _ h=>(by cases h),.inr rfl⟩
theorem LeastI.zero:LeastI R l out 0 none:=fun s h=>by rw[List.take_zero]at h;cases h
theorem ZQ{s:α}(hk:k<l.length):s∈l.take (k+1)↔s∈l.take k\/s=l[k]:=by
 rw[q8q hk,q7a,q7m]
theorem LeastI.old(hk:k<l.length){o:Option α}(h:LeastI R l out k o)(hx:l[k]∈out):LeastI R l out (k+1) o:=by
 cases o with
 | none=>
   intro s hs;rcases(ZQ hk).1 hs with h1|rfl
   ·exact h s h1
   ·exact hx
 | some m=>
   refine⟨h.1,h.2.1,fun s hs hn=>?_⟩;rcases(ZQ hk).1 hs with h1|rfl
   ·exact h.2.2 s h1 hn
   ·exact absurd hx hn
theorem LeastI.first(hk:k<l.length)(h:LeastI R l out k none)(hx:l[k]∉out):LeastI R l out (k+1) (some l[k]):=by
 refine⟨q7i hk,hx,fun s hs hn=>?_⟩;rcases(ZQ hk).1 hs with h1|rfl
 ·exact absurd (h s h1) hn
 ·exact .inl rfl
theorem LeastI.less(tr:∀a b c,R a b->R b c->R a c)(hk:k<l.length){m:α}(h:LeastI R l out k (some m))(hx:l[k]∉out)(hR:R l[k] m):LeastI R l out (k+1) (some l[k]):=by
 refine⟨q7i hk,hx,fun s hs hn=>?_⟩;rcases(ZQ hk).1 hs with h1|rfl
 ·rcases h.2.2 s h1 hn with rfl|h2
  ·exact .inr hR
  ·exact .inr (tr _ _ _ hR h2)
 ·exact .inl rfl
theorem LeastI.more(tot:∀a b,a≠b->R a b\/R b a)(hk:k<l.length){m:α}(h:LeastI R l out k (some m))(hR:¬R l[k] m):LeastI R l out (k+1) (some m):=by
 refine⟨h.1,h.2.1,fun s hs hn=>?_⟩;rcases(ZQ hk).1 hs with h1|rfl
 ·exact h.2.2 s h1 hn
 ·by_cases he:l[k]=m
  ·exact .inl he
  ·exact .inr ((tot _ _ he).resolve_left hR)
theorem RiseI.stay(h:RiseI R l out i)(hl:LeastI R l out l.length none):RiseI R l out (i+1):=by
 rw[LeastI,x2w]at hl;exact⟨h.rise,h.sub,h.seg,.inl hl⟩
theorem RiseI.snoc(h:RiseI R l out i){m:α}(hl:LeastI R l out l.length (some m)):RiseI R l (out++[m]) (i+1):=by
 obtain⟨h1,h2,h3⟩:=hl;rw[x2w]at h3;refine⟨?_,fun s hs=>?_,fun s hs hn o ho=>?_,?_⟩
 ·rw[List.pairwise_append];exact⟨h.rise,List.pairwise_singleton _ _,fun a ha b hb=>by rw[q7m.1 hb];exact h.seg m h1 h2 a ha⟩
 ·rcases q7a.1 hs with h4|h4
  ·exact h.sub s h4
  ·rw[q7m.1 h4];exact h1
 ·rw[q7a,not_or,q7m]at hn;rcases q7a.1 ho with h4|h4
  ·exact h.seg s hs hn.1 o h4
  ·rw[q7m.1 h4];exact(h3 s hs hn.1).resolve_left hn.2
 ·rcases h.cnt with h4|h4
  ·exact absurd (h4 m h1) h2
  ·exact .inr (by rw[q7b,h4];rfl)
theorem RiseI.nodup(irr:∀a,¬R a a)(h:RiseI R l out i):out.Nodup:=by
 unfold List.Nodup;refine h.rise.imp fun {a b} hR e=>?_;subst e;exact irr _ hR
theorem RiseI.all[DecidableEq α](irr:∀a,¬R a a)(h:RiseI R l out i)(hi:i=l.length):out.Pairwise R/\∀s,s∈out↔s∈l:=by
 refine⟨h.rise,fun s=>⟨h.sub s,fun hs=>?_⟩⟩;rcases h.cnt with h4|h4
 ·exact h4 s hs
 ·refine x0k fun hn=>?_;have hnd:(s::out).Nodup:=q9v.2 ⟨hn,h.nodup irr⟩;have:=FG hnd (m:=l) fun x hx=>by
   rcases q7r.1 hx with rfl|hx
   ·exact hs
   ·exact h.sub x hx
  rw[q8s]at this;omega
theorem RiseI.len[DecidableEq α](irr:∀a,¬R a a)(h:RiseI R l out i):out.length<=l.length:=FG (h.nodup irr) h.sub
end
def ordP(a b:Int):Prop:=Oe a b=true
theorem DD{a b:Int}:ordP a b↔(b = -1/\a ≠ -1)\/(a ≠ -1/\b ≠ -1/\a<b):=by
 unfold ordP Oe;by_cases ha:a = -1<;>by_cases hb:b = -1<;>simp[ha,hb]
theorem ordP.irr(a:Int):¬ordP a a:=fun h=>by rw[DD]at h;omega
theorem ordP.trans(a b c:Int)(h1:ordP a b)(h2:ordP b c):ordP a c:=by rw[DD]at*;omega
theorem ordP.total(a b:Int)(h:a≠b):ordP a b\/ordP b a:=by rw[DD,DD];omega
structure NoGo(sh:Sheet)(f:Pr)(lo hi:Nat)(T:Int->Prop):Prop where
 cl:∀(k:Nat)(it:Item),lo<=k->k<hi->sh.l[k]?=some it->T it.s.id->it.s.kind≠10/\∀y∈goesI sh f it,T y
 id:∀(k:Nat)(it:Item),lo<=k->k<hi->sh.l[k]?=some it->it.s.id=(k:Int)+1
 ld:∀(k:Nat)(it:Item),lo<=k->k<hi->sh.l[k]?=some it->it.s.kind=7\/it.s.kind=8->it.loop≠0
 lp:∀(k:Nat)(it:Item),lo<=k->k<hi->sh.l[k]?=some it->it.loop=0\/∃u,sh.l[(it.loop-1).toNat]?=some u
def q0k(sh:Sheet)(T:Int->Prop)(nx lp:Int):Prop:=T nx\/T (-1)\/(lp≠0/\(T lp\/∃u,sh.l[(lp-1).toNat]?=some u/\T u.next))
def atP(sh:Sheet)(n:Nat)(l:List Item):Prop:=∀(i:Nat)(it:Item),l[i]?=some it->sh.l[n+i]?=some it
theorem atP.left{sh:Sheet}{a b:List Item}(h:atP sh n (a++b)):atP sh n a:=fun i it hi=>h i it (by
 rw[q9g (q7t.1 hi).1];exact hi)
theorem atP.right{sh:Sheet}{a b:List Item}(h:atP sh n (a++b)):atP sh (n+a.length) b:=fun i it hi=>by
 rw[x1x];exact h (a.length+i) it (by rw[q9w (by omega),Nat.add_sub_cancel_left];exact hi)
theorem q1m(proc up nx lp:Int)(n:Nat)(v:S)(r:List S):∃it∈itL proc up nx lp n (v::r),it.s=v:=by
 rw[itL,Ih];exact⟨_,q7a.2 (.inl q7d),rfl⟩
mutual
theorem q6f{sh:Sheet}{f:Pr}{lo hi:Nat}{T:Int->Prop}(hT:NoGo sh f lo hi T)(proc:Int):∀(t:S)(up nx lp:Int)(n:Nat),atP sh n (itS proc up nx lp n t)->lo<=n->n+ZC t<=hi->(∃it∈itS proc up nx lp n t,T it.s.id)->q0k sh T nx lp
 | .mk id kind labels name pr x has args thn els,up,nx,lp,n,hp,h1,h2,h3=>by
   rw[itS]at hp h3;rw[ZC]at h2;have hself:sh.l[n]?=some ⟨.mk id kind labels name pr x has args thn els,proc,up,nx,lp⟩:=hp 0 _ rfl;have hcl:=hT.cl n _ h1 (by omega) hself;have hid:=hT.id n _ h1 (by omega) hself;have hld:=hT.ld n _ h1 (by omega) hself;have hlp:=hT.lp n _ h1 (by omega) hself;have hp1:atP sh (n+1) (itL proc (n+1) (if kind=6 then n+1 else nx) (if kind=6 then n+1 else lp) (n+1) thn++itL proc (n+1) (if kind=6 then n+1 else nx) (if kind=6 then n+1 else lp) (n+1+QU thn) els):=fun i it hi=>by
    have:=hp (i+1) it (by simpa using hi)
    rwa[show n+(i+1)=n+1+i by omega]at this
   have hw:kind=6->T ((n:Int)+1)->T nx:=fun hk h=>by
    have h5:T (S.mk id kind labels name pr x has args thn els).id:=by
     rw[show(S.mk id kind labels name pr x has args thn els).id=(n:Int)+1 from hid];exact h
    refine(hcl h5).2 nx ?_;unfold goesI;rw[if_neg (by show ¬kind=5;omega),if_pos (by exact hk)];simp
   have hin:q0k sh T (if kind=6 then((n:Int)+1)else nx) (if kind=6 then((n:Int)+1)else lp)->q0k sh T nx lp:=fun h=>by
    by_cases hk:kind=6
    ·rw[if_pos hk,if_pos hk]at h;rcases h with h|h|⟨_,h|⟨u,hu,h⟩⟩
     ·exact .inl (hw hk h)
     ·exact .inr (.inl h)
     ·exact .inl (hw hk h)
     ·rw[show((n:Int)+1-1).toNat=n by omega,hself]at hu;cases hu;exact .inl h
    ·rw[if_neg hk,if_neg hk]at h;exact h
   have hthn:(∃it∈itL proc (n+1) (if kind=6 then n+1 else nx) (if kind=6 then n+1 else lp) (n+1) thn,T it.s.id)->q0k sh T nx lp:=fun h=>
    hin (q2e hT proc thn _ _ _ (n+1) hp1.left (by omega) (by omega) h)
   obtain⟨it,hit,hti⟩:=h3;rcases q7r.1 hit with rfl|hit
   ·obtain⟨hk10,hgo⟩:=hcl hti;have hk10:kind≠10:=hk10;by_cases hk5:kind=5
    ·cases thn with
     | nil=>
       refine .inl (hgo nx ?_);unfold goesI;rw[if_pos (by exact hk5)];simp[B1,S.thn]
     | cons v r=>
       have:T v.id:=by
        refine hgo v.id ?_;unfold goesI;rw[if_pos (by exact hk5)];simp[B1,S.thn]
       obtain⟨iv,h5,h6⟩:=q1m proc (n+1) (if kind=6 then n+1 else nx) (if kind=6 then n+1 else lp) (n+1) v r;exact hthn ⟨iv,h5,by rw[h6];exact this⟩
    by_cases hk6:kind=6
    ·refine .inl (hw hk6 ?_);rw[<-show(S.mk id kind labels name pr x has args thn els).id=(n:Int)+1 from hid];exact hti
    by_cases hk7:kind=7
    ·have hl0:=hld (.inl hk7);rcases hlp with h5|⟨u,hu⟩
     ·exact absurd h5 hl0
     ·refine .inr (.inr ⟨hl0,.inr ⟨u,hu,hgo _ ?_⟩⟩);unfold goesI;rw[if_neg (by exact hk5),if_neg (by exact hk6),if_pos (by exact hk7)];simp only at hu;rw[hu];simp
    by_cases hk8:kind=8
    ·refine .inr (.inr ⟨hld (.inr hk8),.inl (hgo _ ?_)⟩);unfold goesI;rw[if_neg (by exact hk5),if_neg (by exact hk6),if_neg (by exact hk7),if_pos (by exact hk8)];simp
    by_cases hk9:kind=9
    ·refine .inr (.inl (hgo _ ?_));unfold goesI;rw[if_neg (by exact hk5),if_neg (by exact hk6),if_neg (by exact hk7),if_neg (by exact hk8),if_pos (by exact hk9)];simp
    ·refine .inl (hgo _ ?_);unfold goesI;rw[if_neg (by exact hk5),if_neg (by exact hk6),if_neg (by exact hk7),if_neg (by exact hk8),if_neg (by exact hk9),if_neg (by exact hk10)];simp
   ·rcases q7a.1 hit with hit|hit
    ·exact hthn ⟨it,hit,hti⟩
    ·have hp2:=hp1.right;rw[ZF]at hp2;exact hin (q2e hT proc els _ _ _ (n+1+QU thn) hp2 (by omega) (by omega) ⟨it,hit,hti⟩)
theorem q2e{sh:Sheet}{f:Pr}{lo hi:Nat}{T:Int->Prop}(hT:NoGo sh f lo hi T)(proc:Int):∀(l:List S)(up nx lp:Int)(n:Nat),atP sh n (itL proc up nx lp n l)->lo<=n->n+QU l<=hi->(∃it∈itL proc up nx lp n l,T it.s.id)->q0k sh T nx lp
 | [],up,nx,lp,n,hp,h1,h2,h3=>by
   rw[itL]at h3;obtain⟨it,hit,_⟩:=h3;cases hit
 | t::r,up,nx,lp,n,hp,h1,h2,h3=>by
   rw[itL]at hp h3;rw[QU]at h2;have hp2:=hp.right;rw[Nz]at hp2;have hr:(∃it∈itL proc up nx lp (n+ZC t) r,T it.s.id)->q0k sh T nx lp:=fun h=>q2e hT proc r up nx lp (n+ZC t) hp2 (by omega) (by omega) h;obtain⟨it,hit,hti⟩:=h3;rcases q7a.1 hit with hit|hit
   ·have h5:=q6f hT proc t up _ lp n hp.left h1 (by omega) ⟨it,hit,hti⟩;cases r with
    |nil=>exact h5
    | cons v r=>
      rcases h5 with h5|h5
      ·refine hr ?_;obtain⟨iv,h6,h7⟩ : ∃iv,(itL proc up nx lp (n+ZC t) (v::r))[0]?=some iv/\iv.s=v:=by
        rw[itL,Ih];exact⟨_,rfl,rfl⟩
       have h8:=hp2 0 iv h6;have h9:=hT.id (n+ZC t) iv (by omega) (by
        rw[QU]at h2;have:1<=ZC v:=by cases v;rw[ZC];omega
        omega) h8
       refine⟨iv,q8u h6,?_⟩;rw[h9];simp only[List.isEmpty_cons]at h5;have e:((n+ZC t:Nat):Int)+1=(n:Int)+1+ZC t:=by omega
       rw[e];exact h5
      ·exact .inr h5
   ·exact hr ⟨it,hit,hti⟩
end
theorem Hh(h:QO p=true){f:Pr}(hj:p.procs[j]?=some f){k:Nat}{it:Item}(h1:QM p.procs j<=k)(h2:k<QM p.procs j+QU f.body)(hk:(sheetOf p).l[k]?=some it):it.s.id=(k:Int)+1:=by
 obtain⟨t,_,h4,h5⟩:=LJ h hj (a:=(k:Int)+1) (by omega) (by omega);unfold IV at h4;rw[show((k:Int)+1-1).toNat=k by omega,hk]at h4;cases h4;exact h5
theorem q2w{f:Pr}{it:Item}(hi:it∈itsOf p j f){y:Int}(hy:y∈goesI (sheetOf p) f it):(⟨it.s.id,y,1⟩:Step)∈QP p j f:=by
 unfold QP;exact q7n _ (q8r.2 ⟨it,hi,q7s.2 ⟨y,hy,rfl⟩⟩)
theorem C4(h:QO p=true){f:Pr}(hj:p.procs[j]?=some f){T:Int->Prop}(hcl:∀a b,T a->stR (QQ p j f).real a b->T b)(hgo:∀t∈flL f.body,T t.id->t.kind≠10){t:S}(ht:t∈flL f.body)(hT:T t.id):T (-1):=by
 obtain⟨hm,hs,_,hjm,_⟩:=QD h;have hld:=BK hs hjm hj;obtain⟨_,_,_,hlen,hsp⟩:=QV p;obtain⟨_,_,hle,hd⟩:=hsp j f hj;have hits:∀(k:Nat)(it:Item),QM p.procs j<=k->k<QM p.procs j+QU f.body->(sheetOf p).l[k]?=some it->it∈itsOf p j f:=fun k it h1 h2 hk=>by
  obtain⟨it',h3,h4⟩:=KC hj h1 h2;rw[hk]at h3;cases h3;exact h4
 have hn:NoGo (sheetOf p) f (QM p.procs j) (QM p.procs j+QU f.body) T:=by
  refine⟨fun k it h1 h2 hk hT=>?_,fun k it h1 h2 hk=>Hh h hj h1 h2 hk,fun k it h1 h2 hk hkd=>?_,fun k it h1 h2 hk=>?_⟩
  ·have hi:=hits k it h1 h2 hk;exact⟨hgo _ (Zk hi) hT,fun y hy=>hcl _ _ hT ⟨⟨it.s.id,y,1⟩,((KS h hj).2 _).2 (q2w hi hy),rfl,rfl⟩⟩
  ·have hl:=hld it (hits k it h1 h2 hk);unfold YA at hl;rw[if_pos hkd]at hl;intro h0;rw[h0]at hl;cases hl
  ·rcases(Qk (hits k it h1 h2 hk)).2 with h0|⟨h3,h4⟩
   ·exact .inl h0
   ·have:(it.loop-1).toNat<(sheetOf p).l.length:=by omega
    exact .inr ⟨_,q7g this⟩
 obtain⟨it,hit,hits2⟩:=Oh (p:=p) (j:=j) ht;have hat:atP (sheetOf p) (QM p.procs j) (itL j 0 (-1) 0 (QM p.procs j) f.body):=fun i it hi=>by
  rw[<-hd,q9f,q9z]at hi;split at hi
  ·exact hi
  ·cases hi
 have:=q2e hn j f.body 0 (-1) 0 (QM p.procs j) hat (q8z _) (q8z _) ⟨it,hit,by rw[hits2];exact hT⟩;rcases this with h1|h1|⟨h1,_⟩
 ·exact h1
 ·exact h1
 ·exact absurd rfl h1
theorem Bk{n:Nat}{part:List Int}(hp:∀k,k<n->0<=part.getD k 0/\part.getD k 0<n){i:Nat}(hi:i<n):∀(l:List (Int×Int)){o:List Bool},o.length=n->(∀t∈l,0<=t.1/\t.1<n)->
  ((l.foldl (Qp part) o).getD i false=true↔o.getD i false=true\/∃t∈l,part.getD t.1.toNat 0≠part.getD t.2.toNat 0/\part.getD t.1.toNat 0=i)
 |[],o,_,_=>by simp
 | t::r,o,ho,hr=>by
   rw [x0s,Bk hp hi r (by rw[Bh];exact ho) fun u hu=>hr u (q7n _ hu)];have h1:=hr t q7d;have h2:=hp t.1.toNat (by omega);have key:(Qp part o t).getD i false=true↔o.getD i false=true\/(part.getD t.1.toNat 0≠part.getD t.2.toNat 0/\part.getD t.1.toNat 0=i):=by
    unfold Qp;split
    ·rename_i he;constructor
     ·exact .inl
     ·rintro(h3|⟨h3,_⟩)
      ·exact h3
      ·exact absurd he h3
    ·rename_i he;rw[ZU (by omega)];split
     ·rename_i h3;constructor
      ·intro _;exact .inr ⟨he,by omega⟩
      ·intro _;rfl
     ·rename_i h3;constructor
      ·exact .inl
      ·rintro(h4|⟨_,h4⟩)
       ·exact h4
       ·exact absurd (by omega) h3
   rw[key,or_assoc];constructor
   ·rintro(h3|⟨h3,h4⟩|⟨u,hu,h3⟩)
    ·exact .inl h3
    ·exact .inr ⟨t,q7d,h3,h4⟩
    ·exact .inr ⟨u,q7n _ hu,h3⟩
   ·rintro(h3|⟨u,hu,h3⟩)
    ·exact .inl h3
    ·rcases q7r.1 hu with rfl|hu
     ·exact .inr (.inl h3)
     ·exact .inr (.inr ⟨u,hu,h3⟩)
theorem En{part:List Int}(hn:0<n)(hp:∀k,k<n->0<=part.getD k 0/\part.getD k 0<n){i:Nat}(hi:i<n){l:List (Int×Int)}(hr:∀t∈l,0<=t.1/\t.1<n):
  (Yg n part l).getD i false=true↔part.getD 0 0=i\/part.getD (n-1) 0=i\/∃t∈l,part.getD t.1.toNat 0≠part.getD t.2.toNat 0/\part.getD t.1.toNat 0=i:=by
 have h0:=hp 0 hn;have h1:=hp (n-1) (by omega);unfold Yg;rw[Bk hp hi l (by simp[Yk]) hr];have key:(Yk n part).getD i false=true↔part.getD 0 0=i\/part.getD (n-1) 0=i:=by
  unfold Yk;rw[ZU (by rw[x0d,q9d];omega),ZU (by rw[q9d];omega)];split
  ·exact⟨fun _=>.inr (by omega),fun _=>rfl⟩
  ·split
   ·exact⟨fun _=>.inl (by omega),fun _=>rfl⟩
   ·have:(List.replicate n false).getD i false=false:=by
     rw[q7h,q8l];split<;>rfl
    rw[this];constructor
    ·intro h;cases h
    ·rintro(h|h)<;>omega
 rw[key,or_assoc]
end Go.Ab
