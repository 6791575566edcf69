/- The reference's small questions: names twice, what a name is, what a statement names, whom a call calls. -/
import Derived.Test.YtiaikoimoonlmaaGreatInoB5
import Derived.Test.YtiaikoimoonlmaaGreatInoB14
import Derived.Test.YtiaikoimoonlmaaGreatInoB18
set_option linter.unusedSimpArgs false
set_option linter.unusedVariables false
set_option maxRecDepth 100000
set_option maxHeartbeats 16000000
namespace Go.Ab
open Go.Proofs.Tryz
open Go.Proofs
theorem z6r {l:List Str} (h : ¬l.Nodup):XM l=true:=by
 cases hq:XM l with
 | true=>rfl
 | false=>exact absurd (WM.1 hq) h
theorem ZC (l:List Str):SpecP prog 265 [eStrs l] (fun r=>r = .bool (XM l)):=by
 refine sB LT func265 rfl call265 ?_;conv=>whnf
 refine iM fun _=>?_;have hl:(l.map AV.str).length=l.length:=u3k _;conv=>whnf
 refine LoopK.inv QX (fun j:Nat=>⟨[(0,.p (eStrs l)),(6,.p (.int .i64 (l.map AV.str).length)),(7,.p (.int .i64 j))],[]⟩) (fun j=>j<=l.length∧(l.take j).Nodup) (fun j=>l.length-j) 0 (Le.of_eq rfl) ⟨u3l _,by simp⟩ ?_;rintro j ⟨h2,h3⟩;rcases u3r j l.length with hj|hj
 ·conv=>whnf
  repeat' (apply bD<;>intro _<;>first|omega|conv=>whnf)
  refine LoopK.inv QX (fun k:Nat=>⟨[(0,.p (eStrs l)),(3,.p (.int .i64 j)),(4,.p (.int .i64 k)),(6,.p (.int .i64 (l.map AV.str).length)),(7,.p (.int .i64 j))],[]⟩) (fun k=>k<=j ∧ ∀ s∈l.take k,s≠l[j]) (fun k=>j-k) 0 (Le.of_eq rfl) ⟨u3l _,fun s hs=>by rw [u7b] at hs;cases hs⟩ ?_;rintro k ⟨h4,h5⟩;rcases u3r k j with hk|hk
  ·conv=>whnf
   repeat' (first|((first|refine dA ?_|(refine iA fun _=>?_)|refine wI ?_);conv=>whnf)|(apply bD<;>intro _<;>first|omega|conv=>whnf)|(apply bB<;>intro _<;>conv=>whnf))
   ·refine RetK.tt (z6r fun hn => ?_);have he:l[j]=l[k]:=eq_of_beq (by assumption);have:=(List.getElem_inj hn).1 he;omega
   ·have he:(l[j]==l[k])=false:=by assumption
    refine ⟨k+1,⟨by omega,fun s hs => ?_⟩,by omega,Le.of_eq rfl⟩;rcases (QA (by omega)).1 hs with h6|rfl
    ·exact h5 s h6
    ·exact fun e=>by rw [e] at he;simp at he
  ·obtain rfl:k=j:=by omega
   conv=>whnf
   repeat' (first|(refine wI ?_;conv=>whnf)|(apply bD<;>intro _<;>first|omega|conv=>whnf))
   refine ⟨k+1,⟨by omega,?_⟩,by omega,Le.of_eq rfl⟩;rw [u3a hj,u5p];exact ⟨h3,by simp,fun a ha b hb e=>h5 a ha (by rw [e];exact u3b.1 hb)⟩
 ·rw [u3o hj] at h3;conv=>whnf
  repeat' (apply bD<;>intro _<;>first|omega|conv=>whnf)
  exact RetK.ff (WM.2 h3)
theorem q2g (f:Pr) (h1:f.params.length<=1000000):SpecP prog 266 [.agg f.cells] (fun r=>r=eStrs (f.params.map Param.name)):=by
 refine sB NZ func266 rfl call266 ?_;conv=>whnf
 refine iM fun _=>?_;have hl:(f.params.map fun a=>AV.agg a.cells).length=f.params.length:=u3k _;conv=>whnf
 refine LoopK.inv QX (fun j:Nat=>⟨[(3,.hd 0 0 j),(7,.p (.sl (f.params.map fun a=>AV.agg a.cells))),(8,.p (.int .i64 (f.params.map fun a=>AV.agg a.cells).length)),(9,.p (.int .i64 j))],[(0,.own 9 1 (((f.params.map Param.name).take j).map .str))]⟩) (fun j=>j<=f.params.length) (fun j=>f.params.length-j) 0
  (Le.mk [(0,.own 9 1 [])] (by simp [Chunk.new0];rfl) (by simp) (by simp) (.cons (.nil u3g) (.cons (.refl _) (.cons (.refl _) (.cons (.refl _) .nil)))) (.new u3g .nil)) (u3l _) ?_
 intro j h3;rcases u3r j f.params.length with hj|hj
 ·have hr:((f.params.map Param.name).take (j+1))=(f.params.map Param.name).take j++[f.params[j].name]:=by
   rw [u3a (by simpa using hj),u7l]
  have hlt:((f.params.map Param.name).take j).length=j:=by simp;omega
  generalize (f.params.map Param.name).take j=acc at *
  conv=>whnf
  repeat' (first|((first|refine u3d rfl ?_|refine aD ?_|refine bP ?_|(refine iA fun _=>?_)|refine wI ?_|refine QH (by simp;omega) (by simp;omega) ?_);conv=>whnf)|(apply bD<;>intro _<;>first|omega|conv=>whnf))
  exact ⟨j+1,by omega,by omega,Le.of_eq (by rw [hr];simp;rfl)⟩
 ·rw [u3o (by simpa using hj)];conv=>whnf
  repeat' (apply bD<;>intro _<;>first|omega|conv=>whnf)
  exact ⟨_,.hd rfl (by simp;omega),rfl⟩
theorem q7m (p:Pg) (f:Pr) (name:Str):SpecP prog 268 [.agg p.cells,.agg f.cells,.str name] (fun r=>r = .int .i64 (BZ p f name)):=by
 refine sB q1w func268 rfl call268 ?_;conv=>whnf
 repeat' (refine iM fun _=>?_;conv=>whnf)
 have hl:(f.params.map fun a=>AV.agg a.cells).length=f.params.length:=u3k _;refine LoopK.inv QX (fun j:Nat=>⟨[(2,.p (.str name)),(3,.p (.ip p.cells)),(4,.p (.ip f.cells)),(10,.p (.sl (f.params.map fun a => .agg a.cells))),(11,.p (.int .i64 (f.params.map fun a=>AV.agg a.cells).length)),(12,.p (.int .i64 j))],[]⟩) (fun j=>j<=f.params.length∧(f.params.drop j).find? (fun a=>a.name==name)=f.params.find? fun a=>a.name==name) (fun j=>f.params.length-j) 0 (Le.of_eq rfl) ⟨u3l _,rfl⟩ ?_;rintro j ⟨h2,h3⟩;rcases u3r j f.params.length with hj|hj
 ·conv=>whnf
  repeat' (first|((first|refine u3d rfl ?_|(refine iA fun _=>?_)|refine wI ?_);conv=>whnf)|(apply bD<;>intro _<;>first|omega|conv=>whnf)|(apply bB<;>intro _<;>conv=>whnf))
  all_goals first
   | (exfalso;simp_all;done)
   | (have e:=HU (p:=fun a:Param=>a.name==name) hj (by assumption)
      rw [h3] at e;exact RetK.int (by unfold BZ;rw [e];simp [*]))
   | (refine ⟨j+1,⟨by omega,by rw [<- h3,NJ (p:=fun a:Param=>a.name==name) hj (by assumption)]⟩,by omega,Le.of_eq rfl⟩)
 ·have e:f.params.find? (fun a=>a.name==name)=none:=by rw [<- h3,HV (by omega)]
  conv=>whnf
  repeat' (first|(refine cP (QB _ _) ?_;conv=>whnf)|(apply bD<;>intro _<;>first|omega|conv=>whnf)|(apply bB<;>intro _<;>conv=>whnf))
  all_goals
   simp only [q8j] at *
   exact RetK.int (by unfold BZ;rw [e];simp [*])
theorem DF (t:S) (ha:t.args.length<=20000):SpecP prog 267 [.agg t.cells] (fun r=>r=eStrs (WC t)):=by
 refine sB q1z func267 rfl call267 ?_;conv=>whnf
 repeat' (first|((first|(refine iM fun _=>?_)|refine cP (YM _) ?_|refine u3d rfl ?_|refine aD ?_|refine bP ?_|refine XR _ (by simp) (by have:=ZP t.x;simp;omega) ?_|refine QH (by simp) (by simp) ?_);conv=>whnf)|(apply bE<;>intro _<;>first|omega|conv=>whnf)|(apply bN<;>intro _<;>conv=>whnf))
 all_goals simp only [show (ByteArray.mk #[]).data.toList=[] from rfl] at *
 all_goals
  have hl:(t.args.map fun a=>AV.agg a.cells).length=t.args.length:=u3k _;refine LoopK.inv QX (BI t 9) (fun j=>j<=t.args.length) (fun j=>t.args.length-j) 0 (Le.of_eq ?_) (u3l _) ?_
  ·first
    | (have e:x7h t 0=QS t.x:=by simp [x7h,BE,show t.kind=10 by assumption]
       rw [BI,e];simp only [u5s,u3k,u3f,u3t,u6u];rfl)
    | (have e:x7h t 0=QS t.x:=by simp [x7h,BE,show t.name=[] by simpa using (show (t.name==[])=true by assumption)]
       rw [BI,e];simp only [u5s,u3k,u3f,u3t,u6u];rfl)
    | (have e:x7h t 0=[t.name]++QS t.x:=by
        have:(t.name==[])=false:=by assumption
        simp [x7h,BE,show ¬t.kind=10 by assumption,this]
       rw [BI,e];simp only [u5s,u3k,u3f,u3t,u6u];rfl)
  intro j h2;have hacc:=z7x t h2 ha;conv=>whnf
  repeat' (first|((first|refine cP (YM _) ?_|refine u3d rfl ?_|refine aD ?_|refine bP ?_|(refine iA fun _=>?_)|refine wI ?_|refine XR _ (by simp) (by have:=ZP (t.args[j]'(by omega)).x;simp;omega) ?_|refine QH (by simp) (by simp;omega) ?_);conv=>whnf)|(apply bD<;>intro _<;>first|omega|conv=>whnf)|(apply bB<;>intro _<;>conv=>whnf))
  all_goals first
   | exact ⟨_,.hd rfl (by simp),by
      have:t.args.take j=t.args:=u3o (by omega);rw [WC,<- this];rfl⟩
   | (have hj:j<t.args.length:=by omega
      have hst:=z0e hj;refine ⟨j+1,by show j+1<=_;omega,by show t.args.length-(j+1)<t.args.length-j;omega,Le.of_eq ?_⟩;first
       | (have hn:KU t.args[j]=[t.args[j].name]++QS t.args[j].x:=by rw [KU,show t.args[j].ref=true by assumption];rfl
          rw [BI,hst,hn];simp only [u3f,u3t,u3k,<- u4f,<- u6g];rfl)
       | (have hn:KU t.args[j]=QS t.args[j].x:=by rw [KU,show t.args[j].ref=false by assumption];rfl
          rw [BI,hst,hn];simp only [u3f,u3t,u3k];rfl))
theorem WO (p:Pg) (n:Str):SpecP prog 264 [.agg p.cells,.str n] (fun r=>r = .tup [.agg (YC p n).1.cells,.bool (YC p n).2]):=by
 refine sB LR func264 rfl call264 ?_;conv=>whnf
 have hpl:(p.procs.map fun f=>AV.agg f.cells).length=p.procs.length:=u3k _;repeat' (refine iM fun _=>?_;conv=>whnf)
 refine LoopK.inv QX (fun j:Nat=>⟨[(1,.p (.str n)),(4,.ptr 1 0),(9,.p (.sl (p.procs.map fun f => .agg f.cells))),(10,.p (.int .i64 (p.procs.map fun f=>AV.agg f.cells).length)),(11,.p (.int .i64 j))],[(1,.obj 90 [.p (.str []),.p .nils,.p .nils,.p .nils,.p .nils])]⟩) (fun j=>j<=p.procs.length∧(p.procs.drop j).find? (fun f=>f.name==n)=p.procs.find? fun f=>f.name==n) (fun j=>p.procs.length-j) 0 (Le.of_eq rfl) ⟨u3l _,rfl⟩ ?_;rintro j ⟨h2,h3⟩;rcases u3r j p.procs.length with hj|hj
 ·rw [QF hj,u9r] at h3;conv=>whnf
  repeat' (first|((first|refine u3d rfl ?_|(refine iA fun _=>?_)|refine wI ?_);conv=>whnf)|(apply bD<;>intro _<;>first|omega|conv=>whnf)|(apply bB<;>intro _<;>conv=>whnf))
  ·have hn:(p.procs[j].name==n)=true:=by assumption
   rw [hn] at h3;exact ⟨_,.p (Sub.tup (SubL.cons (Sub.refl _) (SubL.cons (Sub.tt rfl) SubL.nil))),by unfold YC;rw [<- h3];first|done|rfl⟩
  ·have hn:(p.procs[j].name==n)=false:=by assumption
   rw [hn] at h3;exact ⟨j+1,⟨hj,h3⟩,by omega,Le.of_eq rfl⟩
 ·rw [u4z hj,u9c] at h3;conv=>whnf
  repeat' (first|(refine u3d rfl ?_;conv=>whnf)|(apply bD<;>intro _<;>first|omega|conv=>whnf))
  exact ⟨_,.p (Sub.tup (SubL.cons z6b (SubL.cons (Sub.ff rfl) SubL.nil))),by unfold YC;rw [<- h3];first|done|rfl⟩
theorem w8s (p:Pg) (s:S):JW p s=(decide (s.kind=4)&&((YC p s.proc).2&&x2i (YC p s.proc).1.params s.args)):=by
 unfold JW YC;cases p.procs.find? (fun f=>f.name==s.proc)<;>rfl
theorem JT (p:Pg) (s:S):SpecP prog 269 [.agg p.cells,.agg s.cells] (fun r=>r = .bool (JW p s)):=by
 refine sB DL func269 rfl call269 ?_;conv=>whnf
 have hN:=WO p s.proc;have hF:=w8s p s;rw [hF];generalize (YC p s.proc).2=ok at *
 generalize (YC p s.proc).1=q at *
 have hal:(s.args.map fun a=>AV.agg a.cells).length=s.args.length:=u3k _;have hql:(q.params.map fun a=>AV.agg a.cells).length=q.params.length:=u3k _;repeat' (first|((first|(refine iM fun _=>?_)|refine u3d rfl ?_|refine cP hN ?_);conv=>whnf)|(apply bE<;>intro _<;>first|omega|conv=>whnf)|(apply bN<;>intro _<;>conv=>whnf))
 all_goals first
  | (refine RetK.ff ?_;simp_all;done)
  | (refine RetK.ff ?_
     have:x2i q.params s.args=false:=by
      unfold x2i;rw [u5a];intro he;have:=u5j List.length he;simp at this;omega
     rw [this];simp)
  | skip
 have hk:s.kind=4:=by omega
 have hlen:s.args.length=q.params.length:=by omega
 have hok:ok=true:=by assumption
 rw [hok,u5z hk,u7e,u7e];refine LoopK.inv QX (fun j:Nat=>⟨[(3,.p (.ip s.cells)),(5,.p (.ip q.cells)),(33,.p (.int .i64 (s.args.map fun a=>AV.agg a.cells).length)),(34,.p (.int .i64 j))],[]⟩) (fun j=>j<=s.args.length ∧ ∀ k (hk:k<j) (h1:k<s.args.length) (h2:k<q.params.length),s.args[k].ref=q.params[k].ref) (fun j=>s.args.length-j) 0 (Le.of_eq rfl) ⟨u3l _,fun k hk=>absurd hk (u9t _)⟩ ?_;rintro j ⟨h2,h3⟩;rcases u3r j s.args.length with hj|hj
 ·have hjq:j<q.params.length:=by omega
  conv=>whnf
  repeat' (first|((first|refine dA ?_|(refine iA fun _=>?_)|refine wI ?_|refine HZ QX rfl rfl rfl rfl rfl ?_);conv=>whnf)|(apply bD<;>intro _<;>first|omega|conv=>whnf)|(apply bE<;>intro _<;>first|omega|conv=>whnf))
  all_goals first
   | (refine RetK.ff ?_
      unfold x2i;rw [u5a];intro he;have h4:=u5j (fun l=>l[j]?) he;simp only [u4q,u3h hj,u3h hjq,u6n] at h4;have h5:=u6y h4;simp_all
      done)
   | (refine ⟨j+1,⟨by omega,fun k hk h1 h2 => ?_⟩,by omega,Le.of_eq rfl⟩
      rcases u3r k j with h5|h5
      ·exact h3 k h5 h1 h2
      ·obtain rfl:k=j:=by omega
       simp_all)
 ·conv=>whnf
  repeat' (apply bD<;>intro _<;>first|omega|conv=>whnf)
  refine RetK.tt ?_;unfold x2i;rw [u4b];refine List.ext_getElem (by simp;omega) fun k h4 h5 => ?_;simp only [u3k] at h4 h5;rw [u7l,u7l,h3 k (by omega) h5 h4]
theorem q2k (f:Pr) (hl : ∀ x∈WL f,x.s.labels.length<=20000) (hf:f.fin.length<=20000):SpecP prog 271 [.agg f.cells] (fun r=>r=eStrs ((WL f).flatMap (fun x=>x.s.labels)++f.fin)):=by
 refine sB NX func271 rfl call271 ?_;conv=>whnf
 have hF:=XU f;have hrl:=GJ f;generalize WL f=L at *
 have hLl:=WA L;repeat' ((first|(refine iM fun _=>?_)|refine cP hF ?_);conv=>whnf)
 refine LoopK.inv QX (fun x:Nat×List Str=>⟨[(1,.p (.ip f.cells)),(3,.hd 0 0 x.2.length),(7,.p (VM L)),(8,.p (.int .i64 (L.map fun i=>AV.agg i.cells).length)),(9,.p (.int .i64 x.1))],[(0,.own 9 1 (x.2.map .str))]⟩) (fun x=>x.1<=L.length∧x.2=(L.take x.1).flatMap (fun x=>x.s.labels)∧x.2.length<=20000*x.1) (fun x=>L.length-x.1) (0,[])
  (Le.mk [(0,.own 9 1 [])] (by simp [Chunk.new0];rfl) (by simp) (by simp) (.cons (.refl _) (.cons (.nil u3g) (.cons (.refl _) (.cons (.refl _) (.cons (.refl _) .nil))))) (.new u3g .nil)) ⟨u3l _,by simp,by simp⟩ ?_
 rintro ⟨j,acc⟩ ⟨h2,h3,h4⟩;simp only at h2 h3 h4 ⊢;rcases u3r j L.length with hj|hj
 ·have h5:=hl _ (u3i hj);have h6:acc++L[j].s.labels=(L.take (j+1)).flatMap (fun x=>x.s.labels):=by rw [u3a hj,u7v,<- h3];simp
  conv=>whnf
  repeat' (first|((first|refine u3d rfl ?_|refine aD ?_|(refine iA fun _=>?_)|refine wI ?_|refine XR _ (by simp) (by simp;omega) ?_);conv=>whnf)|(apply bD<;>intro _<;>first|omega|conv=>whnf))
  exact ⟨(j+1,acc++L[j].s.labels),⟨by simp only;omega,h6,by simp;omega⟩,by simp only;omega,Le.of_eq (by simp;rfl)⟩
 ·rw [u3o hj] at h3;conv=>whnf
  repeat' (first|((first|refine aD ?_|refine XR _ (by simp) (by simp;omega) ?_);conv=>whnf)|(apply bD<;>intro _<;>first|omega|conv=>whnf))
  exact ⟨_,.hd rfl (by simp),by rw [<- h3];simp [eStrs]⟩
def q0y (l:List RI) (fin:List Str) (label:Str):Int×Bool:=match l.find? fun x=>inS x.s.labels label with
 | some x=>(x.s.id,true)
 | none=>if inS fin label=true then (-1,true) else (0,false)
theorem q5k (l:List RI) (fin:List Str) (label:Str):SpecP prog 323 [VM l,eStrs fin,.str label] (fun r=>r = .tup [.int .i64 (q0y l fin label).1,.bool (q0y l fin label).2]):=by
 refine sB LG func323 rfl call323 ?_;conv=>whnf
 refine iM fun _=>?_;have hLl:=WA l;conv=>whnf
 refine LoopK.inv QX (fun j:Nat=>⟨[(1,.p (eStrs fin)),(2,.p (.str label)),(10,.p (VM l)),(11,.p (.int .i64 (l.map fun i=>AV.agg i.cells).length)),(12,.p (.int .i64 j))],[]⟩) (fun j=>j<=l.length∧(l.drop j).find? (fun x=>inS x.s.labels label)=l.find? fun x=>inS x.s.labels label) (fun j=>l.length-j) 0 (Le.of_eq rfl) ⟨u3l _,rfl⟩ ?_;rintro j ⟨h2,h3⟩;rcases u3r j l.length with hj|hj
 ·conv=>whnf
  repeat' (first|((first|refine cP (QB _ _) ?_|refine u3d rfl ?_|(refine iA fun _=>?_)|refine wI ?_);conv=>whnf)|(apply bD<;>intro _<;>first|omega|conv=>whnf)|(apply bB<;>intro _<;>conv=>whnf))
  ·have e:=HU (p:=fun x:RI=>inS x.s.labels label) hj (by assumption);rw [h3] at e;exact RetK.tup2 (by unfold q0y;rw [e]) (Sub.tt (by unfold q0y;rw [e]))
  ·exact ⟨j+1,⟨by omega,by rw [<- h3,NJ (p:=fun x:RI=>inS x.s.labels label) hj (by assumption)]⟩,by omega,Le.of_eq rfl⟩
 ·have e:l.find? (fun x=>inS x.s.labels label)=none:=by rw [<- h3,HV hj]
  conv=>whnf
  repeat' (first|(refine cP (QB _ _) ?_;conv=>whnf)|(apply bD<;>intro _<;>first|omega|conv=>whnf)|(apply bB<;>intro _<;>conv=>whnf))
  ·exact RetK.tup2 (by unfold q0y;rw [e];simp [*]) (Sub.tt (by unfold q0y;rw [e];simp [*]))
  ·exact RetK.tup2 (by unfold q0y;rw [e];simp [*]) (Sub.ff (by unfold q0y;rw [e];simp [*]))
theorem GT (l:List RI) (id:Int):SpecP prog 270 [VM l,.int .i64 id] (fun r=>r = .tup [.int .i64 (z4u l.reverse id).1,.bool (z4u l.reverse id).2]):=by
 refine sB PE func270 rfl call270 ?_;conv=>whnf
 refine iM fun _=>?_;have hLl:=WA l;conv=>whnf
 repeat' (refine wI ?_;conv=>whnf)
 refine LoopK.inv QX (fun n:Nat=>⟨[(0,.p (VM l)),(1,.p (.int .i64 id)),(6,.p (.int .i64 ((n:Int)-1)))],[]⟩) (fun n=>n<=l.length∧z4u (l.take n).reverse id=z4u l.reverse id) (fun n=>n) l.length (Le.of_eq (by rw [hLl])) ⟨u4j _,by rw [u7w]⟩ ?_;rintro n ⟨h2,h3⟩;cases n with
 | zero =>
   rw [<- h3];conv=>whnf
   repeat' (apply bD<;>intro _<;>first|omega|conv=>whnf)
   exact RetK.tup2 rfl (Sub.ff rfl)
 | succ n =>
   have hn:n<l.length:=by omega
   have hst:=z1v hn id;have e1:((n+1:Nat):Int)-1=(n:Nat):=by omega
   rw [e1];conv=>whnf
   repeat' (first|((first|(refine iA fun _=>?_)|refine Wr.eq (m:=(n:Int)-1) rfl (by omega) (by omega) ?_);conv=>whnf)|(apply bD<;>intro _<;>first|omega|conv=>whnf)|(apply bE<;>intro _<;>first|omega|conv=>whnf))
   rotate_left 1
   ·rw [if_neg (by assumption)] at hst;exact ⟨n,⟨by omega,by rw [<- hst];exact h3⟩,by omega,Le.of_eq rfl⟩
   rw [if_pos (by omega)] at hst;refine LoopK.inv QX (fun x:Nat×Int=>⟨[(0,.p (VM l)),(1,.p (.int .i64 id)),(6,.p (.int .i64 n)),(7,.p (.int .i64 x.2)),(8,.p (.int .i64 ((x.1:Int)-1)))],[]⟩) (fun x=>x.1<=n∧HO (l.take x.1).reverse x.2=HO (l.take n).reverse l[n].inn) (fun x=>x.1) (n,l[n].inn) (Le.of_eq rfl) ⟨u4j _,rfl⟩ ?_;rintro ⟨m,i⟩ ⟨h4,h5⟩;simp only at h4 h5 ⊢;cases m with
   | zero =>
     have e:HO (l.take 0).reverse i=(0,false):=rfl;rw [e] at h5;rw [<- h5,if_neg (by decide)] at hst;conv=>whnf
     repeat' (first|(refine Wr.eq (m:=(n:Int)-1) rfl (by omega) (by omega) ?_;conv=>whnf)|(apply bD<;>intro _<;>first|omega|conv=>whnf))
     exact ⟨n,⟨by omega,by rw [<- hst];exact h3⟩,by omega,Le.of_eq rfl⟩
   | succ m =>
     have hm:m<l.length:=by omega
     have hs2:=w0l hm i;have e2:((m+1:Nat):Int)-1=(m:Nat):=by omega
     rw [e2];conv=>whnf
     repeat' (first|((first|(refine iA fun _=>?_)|refine Wr.eq (m:=(n:Int)-1) rfl (by omega) (by omega) ?_|refine Wr.eq (m:=(m:Int)-1) rfl (by omega) (by omega) ?_);conv=>whnf)|(apply bD<;>intro _<;>first|omega|conv=>whnf)|(apply bE<;>intro _<;>first|omega|conv=>whnf))
     all_goals first
      | (rw [if_pos (by omega)] at hs2
         rw [hs2] at h5;rw [<- h5,if_neg (by decide)] at hst;exact ⟨n,⟨by omega,by rw [<- hst];exact h3⟩,by omega,Le.of_eq rfl⟩)
      | (rw [if_neg (by assumption),if_neg (by assumption)] at hs2
         exact ⟨(m,i),⟨by simp only;omega,by rw [<- hs2];exact h5⟩,by simp only;omega,Le.of_eq rfl⟩)
      | (rw [if_neg (by assumption),if_pos (by omega),if_pos (by assumption)] at hs2
         rw [hs2] at h5;rw [<- h5,if_pos rfl] at hst;rw [<- h3,hst];exact RetK.tup2 rfl (Sub.tt rfl))
      | (rw [if_neg (by assumption),if_pos (by omega),if_neg (by assumption)] at hs2
         exact ⟨(m,l[m].inn),⟨by simp only;omega,by rw [<- hs2];exact h5⟩,by simp only;omega,Le.of_eq rfl⟩)
def pureL:LV->LV
 | .p a => .p a
 | _ => .p .any
def w1o:List (Nat×LV)->List (Nat×LV)
 | []=>[]
 | (j,l)::r=>(j,pureL l)::w1o r
theorem z3j : ∀ (sl:List (Nat×LV)) (i:Nat),getS (w1o sl) i=pureL (getS sl i)
 | [],i=>rfl
 | (j,l)::r,i=>by
   rw [w1o,getS,getS];cases j==i with
   | true=>rfl
   | false=>exact z3j r i
theorem ZB {P:Program} {N:Nat} {g:FuncId} {args:List LV} {dst:Option Nat} {s:St} {K:St->Prop} {avs:List AV} {R:AV->Prop} (hs:SpecP P g avs R) (ha:FrzL s.H args avs)
  (h : ∀ c,R c->setD N (w1o s.sl) dst (.p c) fun sl=>K ⟨sl,[]⟩):CallK P N g args dst s K:=by
 refine ⟨fun σ β a w hr vals hn hv=>⟨hs.go vals,?_⟩⟩;obtain ⟨hlen,hget⟩:=ha.get;obtain ⟨τ,h5,h6,h7,h8⟩:=NF hr.heap;refine (hs.ok τ w vals (hn.trans hlen) (fun j c hj => ?_) h6).mono fun e w' ⟨c,u,σ',he,hR,hrep,hle,hl,hf,hnew⟩ => ?_
 ·obtain ⟨l,h1,h2⟩:=hget j c hj;exact h8 l _ c (hv j l h1) h2
 ·have hr':Rel N σ' β ⟨w1o s.sl,[]⟩ a w':=⟨hr.size,hr.defers,fun i=>by
   show RepL σ' β (getS (w1o s.sl) i) _;rw [z3j];have:=hr.slots i;generalize getS s.sl i=l at this ⊢;cases l with
   | p x=>exact this.mono (Mem.le_trans h5 hle)
   | _=>exact .p (.any _),⟨hl,fun k c h=>(by cases h),u9a,fun k h=>(by cases h),fun k h=>(by cases h)⟩⟩
  obtain ⟨sl,hK,hr''⟩:=hr'.setD (.p hrep) (h c hR);refine ⟨u,σ',β,_,he,hK,hr'',Mem.le_trans h5 hle,⟨hf.os,hf.tape,hf.output,hf.drawn,hf.size,fun b hb _=>hf.block b hb id⟩,fun b h0 h1 => ?_,fun b ⟨j,hj,_⟩=>(by cases hj),fun _ _ _=>rfl⟩;by_cases h2:τ b=none
  ·exact .inr (hnew b h2 h1)
  ·rcases h7 b h2 with h3|h3
   ·exact absurd h0 h3
   ·exact .inl h3
theorem q7w (l:List Str) (hl:l.length<=1000000000):SpecH prog 83 ([eStrs l].map .p) [] (OneRow (x0k (XZ l)) False):=by
 refine sH PO func83 rfl call83 ?_;conv=>whnf
 refine iM fun _=>?_;have hll:(l.map AV.str).length=l.length:=u3k _;conv=>whnf
 refine LoopK.inv QX (fun x:Nat×List Str=>⟨[(0,.p (eStrs l)),(3,.hd 0 0 x.2.length),(9,.p (.int .i64 (l.map AV.str).length)),(10,.p (.int .i64 x.1))],[(0,.own 9 1 (x.2.map .str))]⟩) (fun x=>x.1<=l.length∧RiseI ltT l x.2 x.1) (fun x=>l.length-x.1) (0,[])
  (Le.mk [(0,.own 9 1 [])] (by simp [Chunk.new0];rfl) (by simp) (by simp) (.cons (.refl _) (.cons (.nil u3g) (.cons (.refl _) (.cons (.refl _) .nil)))) (.new u3g .nil)) ⟨u3l _,RiseI.zero⟩ ?_
 rintro ⟨i,out⟩ ⟨h2,h3⟩;simp only at h2 h3 ⊢;have hol:=h3.len ltT.irr;rcases u3r i l.length with hi|hi
 ·conv=>whnf
  repeat' (first|(refine iM fun _=>?_;conv=>whnf)|(apply bD<;>intro _<;>first|omega|conv=>whnf))
  refine LoopK.inv QX (fun x:Nat×Option Str=>⟨[(0,.p (eStrs l)),(3,.hd 0 0 out.length),(4,.p (.str (x.2.getD []))),(5,.p (.bool x.2.isSome)),(9,.p (.int .i64 (l.map AV.str).length)),(10,.p (.int .i64 i)),(12,.p (eStrs l)),(13,.p (.int .i64 (l.map AV.str).length)),(14,.p (.int .i64 x.1))],[(0,.own 9 1 (out.map .str))]⟩) (fun x=>x.1<=l.length∧LeastI ltT l out x.1 x.2) (fun x=>l.length-x.1) (0,none) (Le.mk [] (by simp) (by simp) (by simp) (.cons (.refl _) (.cons (.refl _) (.cons (.refl _) (.cons (.p (Sub.ff rfl)) (.cons (.refl _) (.cons (.refl _) (.cons (.refl _) (.cons (.refl _) (.cons (.refl _) .nil))))))))) (.cons rfl (.refl _) .nil)) ⟨u3l _,LeastI.zero⟩ ?_;rintro ⟨k,o⟩ ⟨h4,h5⟩;simp only at h4 h5 ⊢;rcases u3r k l.length with hk|hk
  ·have hin:inS out l[k]=true->l[k]∈out:=ZU.1;have hno:inS out l[k]=false->l[k]∉out:=fun h hm=>by rw [ZU.2 hm] at h;cases h
   cases o with
   | none =>
     simp only [u7o,u7r];conv=>whnf
     repeat' (first|((first|(refine iA fun _=>?_)|refine wI ?_|(refine QD (QB out (l[k]'hk)) (.cons (.hd rfl (by simp)) (.cons (.p (Sub.refl _)) .nil)) (by rintro _ rfl;rfl) ?_;rintro _ rfl));conv=>whnf)|(apply bD<;>intro _<;>first|omega|conv=>whnf)|(apply bN<;>intro _<;>conv=>whnf)|(apply bB<;>intro _<;>conv=>whnf))
     all_goals first
      | (exfalso;simp_all;done)
      | exact ⟨(k+1,none),⟨by simp only;omega,h5.old hk (hin (by assumption))⟩,by simp only;omega,Le.of_eq rfl⟩
      | exact ⟨(k+1,some l[k]),⟨by simp only;omega,h5.first hk (hno (by assumption))⟩,by simp only;omega,(Le.mk [] (by simp) (by simp) (by simp) (.cons (.refl _) (.cons (.refl _) (.cons (.refl _) (.cons (.p (Sub.tt rfl)) (.cons (.refl _) (.cons (.refl _) (.cons (.refl _) (.cons (.refl _) (.cons (.refl _) .nil))))))))) (.cons rfl (.refl _) .nil))⟩
   | some m =>
     simp only [u6v,u8w];conv=>whnf
     repeat' (first|((first|(refine iA fun _=>?_)|refine wI ?_|(refine QD (QB out (l[k]'hk)) (.cons (.hd rfl (by simp)) (.cons (.p (Sub.refl _)) .nil)) (by rintro _ rfl;rfl) ?_;rintro _ rfl));conv=>whnf)|(apply bD<;>intro _<;>first|omega|conv=>whnf)|(apply bN<;>intro _<;>conv=>whnf)|(apply bB<;>intro _<;>conv=>whnf))
     all_goals first
      | (exfalso;simp_all;done)
      | exact ⟨(k+1,some m),⟨by simp only;omega,h5.old hk (hin (by assumption))⟩,by simp only;omega,Le.of_eq rfl⟩
      | exact ⟨(k+1,some l[k]),⟨by simp only;omega,h5.less ltT.trans hk (hno (by assumption)) (by assumption)⟩,by simp only;omega,(Le.mk [] (by simp) (by simp) (by simp) (.cons (.refl _) (.cons (.refl _) (.cons (.refl _) (.cons (.p (Sub.tt rfl)) (.cons (.refl _) (.cons (.refl _) (.cons (.refl _) (.cons (.refl _) (.cons (.refl _) .nil))))))))) (.cons rfl (.refl _) .nil))⟩
      | (have hb:Op.bytesLess l[k] m=false:=by assumption
         exact ⟨(k+1,some m),⟨by simp only;omega,h5.more (fun _ _=>ltT.total) hk (fun h=>by unfold ltT at h;rw [hb] at h;cases h)⟩,by simp only;omega,Le.of_eq rfl⟩)
  ·obtain rfl:k=l.length:=by omega
   cases o with
   | none =>
     simp only [u7o,u7r];conv=>whnf
     repeat' (first|((first|refine u3d rfl ?_|refine aD ?_|refine bP ?_|refine wI ?_);conv=>whnf)|(apply bD<;>intro _<;>first|omega|conv=>whnf)|(apply bB<;>intro _<;>conv=>whnf))
     all_goals first
      | (exfalso;simp_all;done)
      | exact ⟨(i+1,out),⟨by simp only;omega,h3.stay h5⟩,by simp only;omega,Le.of_eq rfl⟩
   | some m =>
     simp only [u6v,u8w];conv=>whnf
     repeat' (first|((first|refine u3d rfl ?_|refine aD ?_|refine bP ?_|refine wI ?_|refine QH (by simp) (by simp;omega) ?_);conv=>whnf)|(apply bD<;>intro _<;>first|omega|conv=>whnf)|(apply bB<;>intro _<;>conv=>whnf))
     all_goals first
      | (exfalso;simp_all;done)
      | exact ⟨(i+1,out++[m]),⟨by simp only;omega,h3.snoc h5⟩,by simp only;omega,Le.of_eq (by simp only [u3f,u3t];rfl)⟩
 ·obtain ⟨h6,h7⟩:=h3.all ltT.irr (by omega);rw [<- q4h h6 h7];conv=>whnf
  repeat' (apply bD<;>intro _<;>first|omega|conv=>whnf)
  exact u6h _ (u4v _) (OneRow.str rfl)
theorem XW (l:List Str) (hl:l.length<=1000000000):SpecP prog 83 [eStrs l] (fun r=>r=eStrs (XZ l)):=(q7w l hl).toP (fun h=>h.elim) fun _ _ _ _ h=>h.2.2
def q7o (f:Pr):List Str:=((WL f).filter fun x=>decide (x.s.kind=4)).map fun x=>x.s.proc
theorem w0t (f:Pr):(q7o f).length<=201:=by
 unfold q7o;rw [u3k];exact u5r (u5c _ _) (GJ f)
theorem q5d (p:Pg) (n:Str):SpecP prog 371 [.agg p.cells,.str n] (fun r=>r=eStrs (XZ (q7o (YC p n).1))):=by
 refine sB LN func371 rfl call371 ?_;conv=>whnf
 have hN:=WO p n;generalize (YC p n).2=ok at *
 generalize (YC p n).1=f at *
 have hF:=XU f;have hcl:=w0t f;have hrl:=GJ f;have hcu:q7o f=((WL f).filter fun x=>decide (x.s.kind=4)).map fun x=>x.s.proc:=rfl;have hS:=XW (q7o f) (by omega);generalize q7o f=C at *
 generalize WL f=L at *
 have hLl:=WA L;repeat' ((first|(refine iM fun _=>?_)|refine u3d rfl ?_|refine cP hN ?_|refine cP hF ?_);conv=>whnf)
 refine LoopK.inv QX (fun x:Nat×List Str=>⟨[(7,.hd 0 0 x.2.length),(17,.p (VM L)),(18,.p (.int .i64 (L.map fun i=>AV.agg i.cells).length)),(19,.p (.int .i64 x.1))],[(0,.own 9 1 (x.2.map .str))]⟩) (fun x=>x.1<=L.length∧x.2=((L.take x.1).filter fun x=>decide (x.s.kind=4)).map (fun x=>x.s.proc)∧x.2.length<=x.1) (fun x=>L.length-x.1) (0,[])
  (Le.mk [(0,.own 9 1 [])] (by simp [Chunk.new0];rfl) (by simp) (by simp) (.cons (.nil u3g) (.cons (.refl _) (.cons (.refl _) (.cons (.refl _) .nil)))) (.new u3g .nil)) ⟨u3l _,by simp,by simp⟩ ?_
 rintro ⟨j,acc⟩ ⟨h2,h3,h4⟩;simp only at h2 h3 h4 ⊢;rcases u3r j L.length with hj|hj
 ·have h6:=u3a hj;conv=>whnf
  repeat' (first|((first|refine u3d rfl ?_|refine aD ?_|refine bP ?_|(refine iA fun _=>?_)|refine wI ?_|refine QH (by simp) (by simp;omega) ?_);conv=>whnf)|(apply bD<;>intro _<;>first|omega|conv=>whnf))
  all_goals first
   | exact ⟨(j+1,acc++[L[j].s.proc]),⟨by simp only;omega,by simp only;rw [h6,u4a,u3t,<- h3];congr 1;rw [u5u (by simp;assumption)];rfl,by simp;omega⟩,by simp only;omega,Le.of_eq (by simp only [u3f,u3t];rfl)⟩
   | exact ⟨(j+1,acc),⟨by simp only;omega,by simp only;rw [h6,u4a,u3t,<- h3,u5v (by simp;assumption)];simp,by simp only;omega⟩,by simp only;omega,Le.of_eq rfl⟩
 ·rw [u3o hj,<- hcu] at h3;subst h3;conv=>whnf
  repeat' (first|(refine ZB hS (.cons (.hd rfl (by simp)) .nil) ?_;rintro _ rfl;conv=>whnf)|(apply bD<;>intro _<;>first|omega|conv=>whnf))
  exact RetK.p rfl
theorem w3h {p:Pg} (hm:UB p=true) {f:Pr} (hf:f∈p.procs):XZ (q7o f)=YE f:=by
 unfold q7o YE HW XZ;rw [VH hm hf,<- show (flatU f).map RI.s=flL f.body from PH 1 0 false f.body,List.filter_map,u8a];rfl
theorem z8o {p:Pg} {k:Nat} (hk:k<p.procs.length) {n:Str} (h:p.procs.find? (fun f=>f.name==n)=some p.procs[k]):YC p n=(p.procs[k],true):=by
 unfold YC;rw [h]
theorem w8n {p:Pg} (hm:UB p=true) {k:Nat} (hk:k<p.procs.length) {n:Str} (h:p.procs.find? (fun f=>f.name==n)=some p.procs[k]):SpecP prog 371 [.agg p.cells,.str n] (fun r=>r=eStrs (YE p.procs[k])):=by
 have:=q5d p n;rw [z8o hk h,w3h hm (u3i hk)] at this;exact this
theorem q2j (p:Pg) (n:Str) (hs:(QO p).1=0) (hn:n∈procsN p):SpecP prog 347 [.agg p.cells,.str n] (fun r=>r=eStrs (w0f p n)):=by
 refine sB NQ func347 rfl call347 ?_;conv=>whnf
 obtain ⟨hm,hb,hns⟩:=UY hs;obtain ⟨hg,hpl,hcn⟩:=ZM hm;have hnl:(procsN p).length=p.procs.length:=by simp [procsN]
 repeat' ((first|refine u3d rfl ?_|refine aD ?_|refine u8x (fun x hx=>by rcases u3b.1 hx with rfl;rfl) rfl ?_);conv=>whnf)
 refine LoopK.inv QX (fun i:Nat×List Str=>⟨[(2,.p (.ip p.cells)),(5,.hd 0 0 i.2.length),(6,.p (.int .i64 i.1))],[(0,.own 9 1 (i.2.map .str))]⟩)
  (fun i=>i.1<=i.2.length∧i.2.Nodup∧(∀ s∈i.2,s∈procsN p)∧UV p (p.procs.length+1-i.1) i.1 i.2=UV p (p.procs.length+1) 0 [n]) (fun i=>p.procs.length+1-i.1) (0,[n])
  (Le.of_eq rfl) ⟨u3l _,by simp,by simpa using hn,rfl⟩ ?_
 rintro ⟨j,out⟩ ⟨h2,h3,h4,h5⟩;simp only at h2 h3 h4 h5 ⊢;have hol:=BF h3 h4;rcases u3r j out.length with hj|hj
 ·obtain ⟨k,hk,hik,hfk,hnk⟩:=q4k (h4 _ (u3i hj));have hcl:=x4l p.procs[k];have hcc:cntL p.procs[k].body<=200:=by
   have:=(QJ p).2.2.2.2 k p.procs[k] (by simp);omega
  have hC:=w8n hm hk hfk;have g:(out.map AV.str)[j]? = some (.str out[j]):=by simp [hj]
  conv=>whnf
  repeat' (first|((first|(refine iM fun _=>?_)|refine dA ?_|refine u3d rfl ?_|refine u5q j rfl hj ?_|refine u5y j 0 (.str out[j]) (by omega) g ?_|refine cP hC ?_);conv=>whnf)|(apply bD<;>intro _<;>first|omega|conv=>whnf))
  have hkn : ∀ s∈YE p.procs[k],s∈procsN p:=fun s h=>NV hs (u3i hk) h;have hcN:=z1j hk hfk;have hre:UV p (p.procs.length+1-j) j out=UV p (p.procs.length+1-(j+1)) (j+1) (VP out (YE p.procs[k])):=by
   rw [show p.procs.length+1-j=(p.procs.length+1-(j+1))+1 by omega,UV,u3h hj];simp only;rw [hcN]
  rw [hre] at h5;obtain ⟨hi1,hi2,rr,hi3⟩:=FB (YE p.procs[k]) h3 h4 hkn;generalize YE p.procs[k]=cs at hkn h5 hi1 hi2 hi3 hcl ⊢;have hcsl:(cs.map AV.str).length=cs.length:=u3k _;refine LoopK.inv QX (fun i:Nat×List Str=>⟨[(2,.p (.ip p.cells)),(5,.hd 0 0 i.2.length),(6,.p (.int .i64 j)),(22,.p (eStrs cs)),(23,.p (.int .i64 (cs.map AV.str).length)),(24,.p (.int .i64 i.1))],[(0,.own 9 1 (i.2.map .str))]⟩)
   (fun i=>i.1<=cs.length∧i.2.length<=out.length+i.1∧VP i.2 (cs.drop i.1)=VP out cs) (fun i=>cs.length-i.1) (0,out)
   (Le.of_eq rfl) ⟨u3l _,by simp,rfl⟩ ?_
  rintro ⟨m,acc⟩ ⟨h6,h7,h8⟩;simp only at h6 h7 h8 ⊢;rcases u3r m cs.length with hm'|hm'
  ·have hst:=q1v (out:=acc) hm';rw [<- q8j] at hst;conv=>whnf
   repeat' (first|((first|refine u3d rfl ?_|refine aD ?_|refine bP ?_|(refine iA fun _=>?_)|refine wI ?_|(refine QD (QB acc (cs[m]'hm')) (.cons (.hd rfl (by simp)) (.cons (.p (Sub.refl _)) .nil)) (by rintro _ rfl;rfl) ?_;rintro _ rfl)|refine QH (by simp) (by simp;omega) ?_);conv=>whnf)|(apply bD<;>intro _<;>first|omega|conv=>whnf)|(apply bN<;>intro _<;>conv=>whnf))
   all_goals first
    | exact ⟨(m+1,acc),⟨by simp only;omega,by simp only;omega,by simp only;rw [<- h8,hst,if_pos (by assumption)]⟩,by simp only;omega,Le.of_eq rfl⟩
    | exact ⟨(m+1,acc++[cs[m]]),⟨by simp only;omega,by simp;omega,by simp only;rw [<- h8,hst,if_neg (by simp [*])]⟩,by simp only;omega,Le.of_eq (by simp only [u3f,u3t];rfl)⟩
  ·rw [u4z hm',VP] at h8;subst h8;have hjl:j<(VP out cs).length:=by rw [hi3,u3f];omega
   conv=>whnf
   repeat' (first|(refine wI ?_;conv=>whnf)|(apply bD<;>intro _<;>first|omega|conv=>whnf))
   all_goals exact ⟨(j+1,VP out cs),⟨by simp only;omega,hi1,hi2,h5⟩,by simp only;omega,Le.of_eq rfl⟩
 ·have hend:out=UV p (p.procs.length+1) 0 [n]:=by
   rw [<- h5];cases hfu:p.procs.length+1-j with
   | zero=>rw [UV]
   | succ q=>rw [UV,u5d hj]
  have hall:XZ out=w0f p n:=by
   unfold w0f;rw [<- hend,z6f h3]
  have hS:=XW out (by omega);rw [hall] at hS;conv=>whnf
  repeat' (first|((first|(refine iM fun _=>?_)|(refine ZB hS (.cons (.hd rfl (by simp)) .nil) ?_;rintro _ rfl));conv=>whnf)|(apply bD<;>intro _<;>first|omega|conv=>whnf))
  all_goals exact RetK.p rfl
theorem w9x (p:Pg) (t:S):x4q p t=(WC t).filter fun v=>inS p.globals v:=by
 unfold x4q;congr 1;funext v;exact (q8j _ _).symm
theorem q0v (p:Pg) (hf:Fit p) (hs:(QO p).1=0) (n:Str) (hn:n∈procsN p):SpecP prog 321 [.agg p.cells,.str n] (fun r=>r=eStrs (JY p n)):=by
 refine sB PG func321 rfl call321 ?_;conv=>whnf
 obtain ⟨hm,hb,hns⟩:=UY hs;obtain ⟨hg,hpl,hcn⟩:=ZM hm;obtain ⟨hal,hak⟩:=z7v hs hn;have hC:=q2j p n hs hn;have hgl:JY p n=XZ (JJ p n):=rfl;have hgr:JJ p n=(w0f p n).flatMap (q6k p):=rfl;rw [hgl];generalize w0f p n=ns at hal hak hgr hC ⊢;have hnl:(ns.map AV.str).length=ns.length:=u3k _;repeat' ((first|(refine iM fun _=>?_)|refine cP hC ?_);conv=>whnf)
 refine LoopK.inv QX (fun i:Nat×List Str=>⟨[(2,.p (.ip p.cells)),(5,.hd 0 0 i.2.length),(16,.p (eStrs ns)),(17,.p (.int .i64 (ns.map AV.str).length)),(18,.p (.int .i64 i.1))],[(0,.own 9 1 (i.2.map .str))]⟩)
  (fun i=>i.1<=ns.length∧i.2.length<=4020000*i.1∧i.2++(ns.drop i.1).flatMap (q6k p)=JJ p n) (fun i=>ns.length-i.1) (0,[])
  (Le.mk [(0,.own 9 1 [])] (by simp [Chunk.new0];rfl) (by simp) (by simp) (.cons (.refl _) (.cons (.nil u3g) (.cons (.refl _) (.cons (.refl _) (.cons (.refl _) .nil))))) (.new u3g .nil))
  ⟨u3l _,by simp,by rw [hgr];rfl⟩ ?_
 rintro ⟨j,acc⟩ ⟨h2,h3,h4⟩;simp only at h2 h3 h4 ⊢;rcases u3r j ns.length with hj|hj;rotate_left 1
 ·have hacc:acc=JJ p n:=by
   rw [u4z hj] at h4;simpa using h4
  have hS:=XW acc (by omega);rw [<- hacc];conv=>whnf
  repeat' (first|(refine ZB hS (.cons (.hd rfl (by simp)) .nil) ?_;rintro _ rfl;conv=>whnf)|(apply bD<;>intro _<;>first|omega|conv=>whnf))
  all_goals exact RetK.p rfl
 obtain ⟨k,hk,hik,hfk,hnk⟩:=q4k (hak _ (u3i hj));have hgn:q6k p ns[j]=(flL p.procs[k].body).flatMap (x4q p):=by unfold q6k;rw [hfk]
 rw [JF hj,hgn] at h4;have hfp:=hf.pr (u3i hk);have hN:=WO p ns[j];rw [z8o hk hfk] at hN;have hF:=XU p.procs[k];have hmap:(WL p.procs[k]).map RI.s=flL p.procs[k].body:=by rw [VH hm (u3i hk)];exact PH 1 0 false _
 have hrl:=GJ p.procs[k];have hargs : ∀ x∈WL p.procs[k],wS x.s<=20000:=fun x hx=>by
  have hmm:x.s∈flL p.procs[k].body:=by
   rw [<- hmap];exact u3s.2 ⟨_,hx,rfl⟩
  have:=x1f _ _ hmm;unfold wPr at hfp;omega
 rw [<- hmap] at h4;generalize WL p.procs[k]=its at hargs hrl h4 hF;have hil:=WA its;conv=>whnf
 repeat' (first|((first|(refine iM fun _=>?_)|refine u3d rfl ?_|(refine iA fun _=>?_)|refine cP hN ?_|refine cP hF ?_);conv=>whnf)|(apply bD<;>intro _<;>first|omega|conv=>whnf))
 refine LoopK.inv QX (fun i:Nat×List Str=>⟨[(2,.p (.ip p.cells)),(5,.hd 0 0 i.2.length),(16,.p (eStrs ns)),(17,.p (.int .i64 (ns.map AV.str).length)),(18,.p (.int .i64 j)),(29,.p (VM its)),(30,.p (.int .i64 (its.map fun i=>AV.agg i.cells).length)),(31,.p (.int .i64 i.1))],[(0,.own 9 1 (i.2.map .str))]⟩)
  (fun i=>i.1<=its.length∧i.2.length<=acc.length+20000*i.1∧i.2++(((its.drop i.1).map RI.s).flatMap (x4q p)++(ns.drop (j+1)).flatMap (q6k p))=JJ p n) (fun i=>its.length-i.1) (0,acc)
  (Le.of_eq rfl) ⟨u3l _,by simp,h4⟩ ?_
 rintro ⟨m,acc2⟩ ⟨h6,h7,h8⟩;simp only at h6 h7 h8 ⊢;rcases u3r m its.length with hm'|hm';rotate_left 1
 ·rw [u4z hm'] at h8;conv=>whnf
  repeat' (first|(refine wI ?_;conv=>whnf)|(apply bD<;>intro _<;>first|omega|conv=>whnf))
  exact ⟨(j+1,acc2),⟨by simp only;omega,by simp only;omega,by simpa using h8⟩,by simp only;omega,Le.of_eq rfl⟩
 have hw:=hargs _ (u3i hm');have hna:its[m].s.args.length<=20000:=by
  have:=x9r its[m].s;have:=GP its[m].s.args;omega
 have hnw:=z8p its[m].s;rw [u4n hm',u4m,u5b,u4f] at h8;have hgt:=w9x p its[m].s;have hSd:=DF its[m].s hna;rw [hgt] at h8;generalize WC its[m].s=vs at hnw h8 hSd;have hvl:(vs.map AV.str).length=vs.length:=u3k _;conv=>whnf
 repeat' (first|((first|(refine iM fun _=>?_)|refine u3d rfl ?_|(refine iA fun _=>?_)|refine cP hSd ?_);conv=>whnf)|(apply bD<;>intro _<;>first|omega|conv=>whnf))
 refine LoopK.inv QX (fun i:Nat×List Str=>⟨[(2,.p (.ip p.cells)),(5,.hd 0 0 i.2.length),(16,.p (eStrs ns)),(17,.p (.int .i64 (ns.map AV.str).length)),(18,.p (.int .i64 j)),(29,.p (VM its)),(30,.p (.int .i64 (its.map fun i=>AV.agg i.cells).length)),(31,.p (.int .i64 m)),(37,.p (eStrs vs)),(38,.p (.int .i64 (vs.map AV.str).length)),(39,.p (.int .i64 i.1))],[(0,.own 9 1 (i.2.map .str))]⟩)
  (fun i=>i.1<=vs.length∧i.2.length<=acc2.length+i.1∧i.2++((vs.drop i.1).filter (fun v=>inS p.globals v)++(((its.drop (m+1)).map RI.s).flatMap (x4q p)++(ns.drop (j+1)).flatMap (q6k p)))=JJ p n) (fun i=>vs.length-i.1) (0,acc2)
  (Le.of_eq rfl) ⟨u3l _,by simp,h8⟩ ?_
 rintro ⟨q,acc3⟩ ⟨h9,h10,h11⟩;simp only at h9 h10 h11 ⊢;rcases u3r q vs.length with hq|hq
 ·rw [u4n hq,List.filter_cons] at h11;conv=>whnf
  repeat' (first|((first|refine cP (QB _ _) ?_|refine u3d rfl ?_|refine aD ?_|refine bP ?_|(refine iA fun _=>?_)|refine wI ?_|refine QH (by simp) (by simp;omega) ?_);conv=>whnf)|(apply bD<;>intro _<;>first|omega|conv=>whnf)|(apply bB<;>intro _<;>conv=>whnf))
  ·exact ⟨(q+1,acc3++[vs[q]]),⟨by simp only;omega,by simp;omega,by rw [if_pos (by assumption)] at h11;simpa using h11⟩,by simp only;omega,Le.of_eq (by simp only [u3f,u3t];rfl)⟩
  ·exact ⟨(q+1,acc3),⟨by simp only;omega,by simp only;omega,by rw [if_neg (by simp [*])] at h11;exact h11⟩,by simp only;omega,Le.of_eq rfl⟩
 ·rw [u4z hq] at h11;conv=>whnf
  repeat' (first|(refine wI ?_;conv=>whnf)|(apply bD<;>intro _<;>first|omega|conv=>whnf))
  exact ⟨(m+1,acc3),⟨by simp only;omega,by simp only;omega,by simpa using h11⟩,by simp only;omega,Le.of_eq rfl⟩
def apR (touched:List Str):List Arg->List Str->Bool
 | [],_=>true
 | a::r,seen=>bif a.ref then (bif inS seen a.name||inS touched a.name then false else apR touched r (seen++[a.name])) else apR touched r seen
theorem v1l (touched:List Str) (nm:Str) : ∀ (l:List Arg) (pre seen:List Str),(pre=[]∧nm=[]∨pre=[nm])->(∀ a∈l,a.ref=true->a.name≠[])->apR touched l (pre++seen)=XS nm touched l seen
 | [],_,_,_,_=>rfl
 | a::r,pre,seen,hp,ha=>by
   have ih:=fun s=>v1l touched nm r pre s hp fun b hb=>ha b (u3n _ hb);rw [apR,XS];cases hr:a.ref with
   | false=>exact ih seen
   | true =>
     have hne:=ha a u3g hr;have h1:inS (pre++seen) a.name=((a.name==nm)||(seen.any fun s=>a.name==s)):=by
      rw [q8j,List.any_append];rcases hp with ⟨rfl,rfl⟩|rfl
      ·have:(a.name==([]:Str))=false:=u8b.2 hne;rw [this];rfl
      ·simp
     have h2:(inS (pre++seen) a.name||inS touched a.name)=((seen.any fun s=>a.name==s)||((a.name==nm)||touched.any fun s=>a.name==s)):=by
      rw [h1,q8j];cases (a.name==nm)<;>cases (seen.any fun s=>a.name==s)<;>rfl
     rw [u4y,u4y,h2,u4f,ih (seen++[a.name])]
def w3u (p:Pg) (t:S):Bool:=JW p t&&XS t.name (JY p t.proc) t.args []
theorem q5h (p:Pg) (hf:Fit p) (hs:(QO p).1=0) (t:S) (hpr:t.proc∈procsN p) (ha:t.args.length<=20000) (hne : ∀ a∈t.args,a.ref=true->a.name≠[]):SpecP prog 272 [.agg p.cells,.agg t.cells] (fun r=>r = .bool (w3u p t)):=by
 refine sB LD func272 rfl call272 ?_;conv=>whnf
 have hC:=JT p t;have hal:(t.args.map fun a=>AV.agg a.cells).length=t.args.length:=u3k _;have hT:=q0v p hf hs t.proc hpr;have hE:=fun pre h=>v1l (JY p t.proc) t.name t.args pre [] h hne;unfold w3u;generalize JY p t.proc=G at *
 cases hfi:JW p t with
 | false =>
   rw [hfi] at hC;repeat' (first|((first|(refine iM fun _=>?_)|refine u3d rfl ?_|refine aD ?_|refine bP ?_|refine cP hC ?_);conv=>whnf)|(apply bN<;>intro _<;>conv=>whnf))
   all_goals first
    | (exfalso;simp_all;done)
    | exact RetK.ff rfl
 | true =>
   rw [hfi] at hC;rw [u7e];repeat' (first|((first|(refine iM fun _=>?_)|refine u3d rfl ?_|refine aD ?_|refine bP ?_|refine cP hC ?_|refine QH (by simp) (by simp) ?_);conv=>whnf)|(apply bN<;>intro _<;>conv=>whnf))
   all_goals simp only [show (ByteArray.mk #[]).data.toList=[] from rfl] at *
   all_goals first
    | (exfalso;simp_all;done)
    | skip
   all_goals
    first
    | (have hq:(t.name==[])=false:=by assumption
       have hE:=hE [t.name] (.inr rfl);rw [u4e] at hE;rw [<- hE];generalize hpre:([t.name]:List Str)=pre at hE)
    | (have hq:(t.name==[])=true:=by assumption
       have hE:=hE [] (.inl ⟨rfl,by simpa using hq⟩);rw [u4e] at hE;rw [<- hE];generalize hpre:([]:List Str)=pre at hE)
    have hpl:pre.length<=1:=by rw [<- hpre];simp
    refine LoopK.inv QX (fun x:Nat×List Str=>⟨[(2,.p (.ip p.cells)),(3,.p (.ip t.cells)),(5,.hd 0 0 x.2.length),(21,.p (.sl (t.args.map fun a => .agg a.cells))),(22,.p (.int .i64 (t.args.map fun a=>AV.agg a.cells).length)),(23,.p (.int .i64 x.1))],[(0,.own 9 1 (x.2.map .str))]⟩) (fun x=>x.1<=t.args.length∧x.2.length<=x.1+1∧apR G (t.args.drop x.1) x.2=apR G t.args pre) (fun x=>t.args.length-x.1) (0,pre)
     (by subst hpre;first|exact Le.of_eq rfl|exact (Le.mk [(0,.own 9 1 [])] (by simp [Chunk.new0];rfl) (by simp) (by simp) (.cons (.refl _) (.cons (.refl _) (.cons (.nil u3g) (.cons (.refl _) (.cons (.refl _) (.cons (.refl _) .nil)))))) (.new u3g .nil))) ⟨u3l _,by simp only;omega,rfl⟩ ?_
    rintro ⟨j,acc⟩ ⟨h2,h3,h4⟩;simp only at h2 h3 h4 ⊢;rcases u3r j t.args.length with hj|hj
    ·rw [u4n hj,apR] at h4;rw [<- h4];conv=>whnf
     repeat' (first|((first|refine dA ?_|refine u3d rfl ?_|refine aD ?_|refine bP ?_|(refine iA fun _=>?_)|refine wI ?_|(refine QD (QB acc (t.args[j]'hj).name) (.cons (.hd rfl (by simp)) (.cons (.p (Sub.refl _)) .nil)) (by rintro _ rfl;rfl) ?_;rintro _ rfl)|refine cP hT ?_|refine cP (QB G (t.args[j]'hj).name) ?_|refine QH (by simp) (by simp;omega) ?_);conv=>whnf)|(apply bD<;>intro _<;>first|omega|conv=>whnf)|(apply bB<;>intro _<;>conv=>whnf))
     all_goals first
      | (exfalso;simp_all;done)
      | exact RetK.ff (by simp [*])
      | exact ⟨(j+1,acc++[t.args[j].name]),⟨by simp only;omega,by simp;omega,by simp only;simp [*]⟩,by simp only;omega,Le.of_eq (by simp only [u3f,u3t];rfl)⟩
      | exact ⟨(j+1,acc),⟨by simp only;omega,by simp only;omega,by simp only;simp [*]⟩,by simp only;omega,Le.of_eq rfl⟩
    ·rw [u4z hj,apR] at h4;rw [<- h4];conv=>whnf
     repeat' (apply bD<;>intro _<;>first|omega|conv=>whnf)
     exact RetK.tt rfl
theorem XQ (c a:Int):SpecP prog 263 [.int .i64 c,.int .i64 a] (fun r=>r=NY c a):=by
 refine sB LM func263 rfl call263 ?_;conv=>whnf
 repeat' (refine u3d rfl ?_;conv=>whnf)
 exact QC rfl rfl
theorem ZG {H:Heap} {a b:Int} {P:Prop} (h:a=0↔P):RetK H (.p (.agg [.int .i64 a,.int .i64 b])) (fun r => ∃ c d,r=NY c d∧(c=0↔P)):=⟨_,.p (Sub.refl _),a,b,rfl,h⟩
def fltR (P:Prop) (r:AV):Prop := ∃ c d,r=NY c d∧(c=0↔P)
theorem q5f (p:Pg) (hm:UB p=true):SpecP prog 217 [.agg p.cells] (fun r=>fltR (∀ t∈VK p,t.kind=4->JW p t=true) r):=by
 refine sB LP func217 rfl call217 ?_;conv=>whnf
 have hA:=KX p;have hms:=z1x hm;rw [<- hms];generalize allR p=L at *
 have hLl:=WA L;repeat' ((first|(refine iM fun _=>?_)|refine cP hA ?_);conv=>whnf)
 refine LoopK.inv QX (fun j:Nat=>⟨[(1,.p (.ip p.cells)),(2,.ptr 1 0),(6,.p (VM L)),(7,.p (.int .i64 (L.map fun i=>AV.agg i.cells).length)),(8,.p (.int .i64 j))],[(1,.obj 112 [.p (.int .i64 0),.p (.int .i64 0)])]⟩) (fun j=>j<=L.length ∧ ∀ x∈L.take j,x.s.kind=4->JW p x.s=true) (fun j=>L.length-j) 0 (Le.of_eq rfl) ⟨u3l _,fun x hx=>by rw [u7b] at hx;cases hx⟩ ?_;rintro j ⟨h2,h3⟩;rcases u3r j L.length with hj|hj
 ·have hC:=JT p L[j].s;have hmem:L[j].s∈L.map RI.s:=u3s.2 ⟨_,u3i hj,rfl⟩;have hst:(L[j].s.kind=4->JW p L[j].s=true) -> ∀ x∈L.take (j+1),x.s.kind=4->JW p x.s=true:=fun h x hx=>by
   rcases (QA hj).1 hx with h4|rfl
   ·exact h3 x h4
   ·exact h
  conv=>whnf
  repeat' (first|((first|refine u3d rfl ?_|(refine iA fun _=>?_)|refine wI ?_|refine cP hC ?_|refine cP (XQ 6 _) ?_);conv=>whnf)|(apply bD<;>intro _<;>first|omega|conv=>whnf)|(apply bN<;>intro _<;>conv=>whnf))
  all_goals first
   | exact ⟨j+1,⟨hj,hst fun h=>by first|assumption|omega⟩,by omega,Le.of_eq rfl⟩
   | (refine ZG ⟨fun h=>by omega,fun h => ?_⟩
      have:=h _ hmem (by omega);simp_all
      done)
 ·conv=>whnf
  repeat' (first|(refine u3d rfl ?_;conv=>whnf)|(apply bD<;>intro _<;>first|omega|conv=>whnf))
  refine ZG ⟨fun _ t ht => ?_,fun _=>rfl⟩;obtain ⟨x,hx,rfl⟩:=u3s.1 ht;exact h3 x (by rw [u3o hj];exact hx)
theorem MU (p:Pg) (hf:Fit p) (hs:(QO p).1=0) (har : ∀ t∈VK p,t.kind=4->JW p t=true):SpecP prog 219 [.agg p.cells] (fun r=>fltR (∀ t∈VK p,t.kind=4->XS t.name (JY p t.proc) t.args []=true) r):=by
 refine sB DR func219 rfl call219 ?_;conv=>whnf
 obtain ⟨hm,hb,hns⟩:=UY hs;have hA:=KX p;have hms:=z1x hm;have hok : ∀ x∈allR p,oneOk x.s=true:=fun x hx=>by rw [q5e hm] at hx;exact (w3w hm x hx).2
 have hap : ∀ x∈allR p,x.s.kind=4->SpecP prog 272 [.agg p.cells,.agg x.s.cells] (fun r=>r = .bool (XS x.s.name (JY p x.s.proc) x.s.args [])):=fun x hx hk=>by
  have hxs:x.s∈VK p:=by rw [<- hms];exact u3s.2 ⟨x,hx,rfl⟩
  have hx2:=hxs;unfold VK at hx2;obtain ⟨f,hf1,hf2⟩:=u4o.1 hx2;have hpc:=(q7q hs hf1 hf2 hk).1;have hw:=x1f _ _ hf2;have hwp:=hf.pr hf1;have h1:=x9r x.s;have h2:=GP x.s.args;have h3:=q5h p hf hs x.s hpc (by unfold wPr at hwp;omega) fun a ha hr he=>by
   have h4:=u5t.1 (JN (hok x hx)).args a ha;unfold argR at h4;rw [hr,u4y,he] at h4;simp at h4;have:=q6b h4.1;cases this
  unfold w3u at h3;rw [har _ hxs hk,u7e] at h3;exact h3
 rw [<- hms];clear hms har hok;generalize allR p=L at *
 have hLl:=WA L;repeat' ((first|(refine iM fun _=>?_)|refine cP hA ?_);conv=>whnf)
 refine LoopK.inv QX (fun j:Nat=>⟨[(1,.p (.ip p.cells)),(2,.ptr 1 0),(6,.p (VM L)),(7,.p (.int .i64 (L.map fun i=>AV.agg i.cells).length)),(8,.p (.int .i64 j))],[(1,.obj 112 [.p (.int .i64 0),.p (.int .i64 0)])]⟩) (fun j=>j<=L.length ∧ ∀ x∈L.take j,x.s.kind=4->XS x.s.name (JY p x.s.proc) x.s.args []=true) (fun j=>L.length-j) 0 (Le.of_eq rfl) ⟨u3l _,fun x hx=>by rw [u7b] at hx;cases hx⟩ ?_;rintro j ⟨h2,h3⟩;rcases u3r j L.length with hj|hj
 ·have hC:=hap _ (u3i hj);have hmem:L[j].s∈L.map RI.s:=u3s.2 ⟨_,u3i hj,rfl⟩;have hst:(L[j].s.kind=4->XS L[j].s.name (JY p L[j].s.proc) L[j].s.args []=true) -> ∀ x∈L.take (j+1),x.s.kind=4->XS x.s.name (JY p x.s.proc) x.s.args []=true:=fun h x hx=>by
   rcases (QA hj).1 hx with h4|rfl
   ·exact h3 x h4
   ·exact h
  conv=>whnf
  repeat' (first|((first|refine u3d rfl ?_|(refine iA fun _=>?_)|refine wI ?_|(refine CallK.pure (hC (by omega)) (.cons (Sub.refl _) (.cons (Sub.refl _) .nil)) ?_;rintro _ rfl)|refine cP (XQ 8 _) ?_);conv=>whnf)|(apply bD<;>intro _<;>first|omega|conv=>whnf)|(apply bN<;>intro _<;>conv=>whnf))
  all_goals first
   | exact ⟨j+1,⟨hj,hst fun h=>by first|assumption|omega⟩,by omega,Le.of_eq rfl⟩
   | (refine ZG ⟨fun h=>by omega,fun h => ?_⟩
      have:=h _ hmem (by omega);simp_all
      done)
 ·conv=>whnf
  repeat' (first|(refine u3d rfl ?_;conv=>whnf)|(apply bD<;>intro _<;>first|omega|conv=>whnf))
  refine ZG ⟨fun _ t ht => ?_,fun _=>rfl⟩;obtain ⟨x,hx,rfl⟩:=u3s.1 ht;exact h3 x (by rw [u3o hj];exact hx)
theorem z5m (p:Pg):WX p=false↔XM p.globals=false∧XM (procsN p)=false∧(YC p mainS).2=true∧(YC p mainS).1.params.length=0:=by
 unfold WX YC;have h1:(procsN p).any (fun s=>mainS==s)=(p.procs.find? fun f=>f.name==mainS).isSome:=by
  unfold procsN;rw [u6a,List.find?_isSome,List.any_map,u5n];simp only [Function.comp,u6m];exact ⟨fun ⟨x,a,b⟩=>⟨x,a,b.symm⟩,fun ⟨x,a,b⟩=>⟨x,a,b.symm⟩⟩
 have h2:(p.procs.find? fun f=>mainS==f.name)=p.procs.find? fun f=>f.name==mainS:=by
  congr 1;funext f;exact Bool.beq_comm
 rw [h1,h2];cases p.procs.find? fun f=>f.name==mainS with
 | none=>simp
 | some f=>simp
theorem z8k {p:Pg} (hf:Fit p) {f:Pr} (h:f∈p.procs):f.params.length<=20000∧f.vars.length<=20000∧f.fin.length<=20000∧p.globals.length<=20000:=by
 have h1:=hf.pr h;have h2:=BB f.vars;have h3:=BB f.fin;have h4:=BB p.globals;have h5:wPg p<=20000:=hf;have h6:f.params.length<=v5e f.params:=by
  generalize f.params=l;induction l with
  | nil=>exact u3l _
  | cons a r ih =>
    rw [v5e,u4t];omega
 unfold wPr at h1;unfold wPg at h5;omega
theorem q5g (p:Pg) (hf:Fit p):SpecP prog 216 [.agg p.cells] (fun r=>fltR ((QO p).1=0) r):=by
 refine sB LF func216 rfl call216 ?_;conv=>whnf
 have hM:=GR p;cases hm:UB p with
 | false =>
   rw [hm] at hM;repeat' (first|((first|(refine iM fun _=>?_)|refine u3d rfl ?_|refine cP hM ?_|refine cP (XQ 1 0) ?_);conv=>whnf)|(apply bN<;>intro _<;>conv=>whnf))
   all_goals first
    | (exfalso;simp_all;done)
    | (refine ZG ⟨fun h=>by omega,fun h => ?_⟩
       have:=(UY h).1;rw [hm] at this;cases this)
 | true =>
   rw [hm] at hM;obtain ⟨hg,hpl,hcn⟩:=ZM hm;rw [w6g hm,z5m];have hpll:(p.procs.map fun f=>AV.agg f.cells).length=p.procs.length:=u3k _;repeat' (first|((first|(refine iM fun _=>?_)|refine cP hM ?_);conv=>whnf)|(apply bN<;>intro _<;>conv=>whnf))
   all_goals first
    | (exfalso;simp_all;done)
    | skip
   refine LoopK.inv QX (fun x:Nat×List Str=>⟨[(1,.p (.ip p.cells)),(2,.ptr 1 0),(3,.hd 0 0 x.2.length),(19,.p (.sl (p.procs.map fun f => .agg f.cells))),(20,.p (.int .i64 (p.procs.map fun f=>AV.agg f.cells).length)),(21,.p (.int .i64 x.1))],[(0,.own 9 1 (x.2.map .str)),(1,.obj 112 [.p (.int .i64 0),.p (.int .i64 0)])]⟩) (fun x=>x.1<=p.procs.length∧x.2=(procsN p).take x.1) (fun x=>p.procs.length-x.1) (0,[])
    (Le.mk [(0,.own 9 1 [])] (by simp [Chunk.new0];rfl) (by simp) (by simp) (.cons (.refl _) (.cons (.refl _) (.cons (.nil u3g) (.cons (.refl _) (.cons (.refl _) (.cons (.refl _) .nil)))))) (.new u3g (.cons rfl (.refl _) .nil))) ⟨u3l _,by simp⟩ ?_
   rintro ⟨j,acc⟩ ⟨h2,h3⟩;simp only at h2 h3 ⊢;have hpn:(procsN p).length=p.procs.length:=by simp [procsN]
   rcases u3r j p.procs.length with hj|hj
   ·have e1:(procsN p).take (j+1)=acc++[p.procs[j].name]:=by
     rw [u3a (by omega),<- h3];simp [procsN]
    have hal:acc.length<=16:=by rw [h3,u4k];omega
    conv=>whnf
    repeat' (first|((first|refine u3d rfl ?_|refine aD ?_|refine bP ?_|(refine iA fun _=>?_)|refine wI ?_|refine QH (by simp) (by simp;omega) ?_);conv=>whnf)|(apply bD<;>intro _<;>first|omega|conv=>whnf))
    all_goals exact ⟨(j+1,acc++[p.procs[j].name]),⟨by simp only;omega,by simp only;rw [e1]⟩,by simp only;omega,Le.of_eq (by simp only [u3f,u3t];rfl)⟩
   rw [u3o (by omega)] at h3;subst h3;have hN:=WO p mainS;have hmq : ∀ q:Prop,((YC p mainS).2=true∧(YC p mainS).1.params.length=0∧q)->q:=fun q h=>h.2.2;have hT1:=ZC p.globals;have hT2:=ZC (procsN p);generalize (YC p mainS).2=mk at *
   generalize (YC p mainS).1=mf at *
   have hmfl:(mf.params.map fun a=>AV.agg a.cells).length=mf.params.length:=u3k _;conv=>whnf
   repeat' (first|((first|(refine iM fun _=>?_)|refine u3d rfl ?_|refine cP hN ?_|refine cP hT1 ?_|(refine QD hT2 (.cons (.hd rfl (by simp)) .nil) (by rintro _ rfl;rfl) ?_;rintro _ rfl)|refine cP (XQ 5 0) ?_);conv=>whnf)|(apply bD<;>intro _<;>first|omega|conv=>whnf)|(apply bN<;>intro _<;>conv=>whnf)|(apply bB<;>intro _<;>conv=>whnf))
   all_goals first
    | (refine ZG ⟨fun h=>by omega,fun ⟨⟨h4,h5,h6,h7⟩,h8⟩ => ?_⟩
       exfalso;simp_all
       done)
    | (refine ZG ⟨fun h=>by omega,fun ⟨⟨h4,h5,h6,h7⟩,h8⟩ => ?_⟩
       omega)
    | skip
   have G1:XM p.globals=false:=by assumption
   have G2:XM (procsN p)=false:=by assumption
   have G3:mk=true:=by assumption
   have G4:mf.params.length=0:=by omega
   have hIff:(((XM p.globals=false∧XM (procsN p)=false∧mk=true∧mf.params.length=0) ∧ ∀ f∈p.procs,ScopeOK p f) ↔ ∀ f∈p.procs,ScopeOK p f):=⟨fun h=>h.2,fun h=>⟨⟨G1,G2,G3,G4⟩,h⟩⟩;rw [hIff];clear hIff hT1 hT2 hN hmq G1 G2 G3 G4;refine LoopK.inv QX (fun j:Nat=>⟨[(1,.p (.ip p.cells)),(2,.ptr 1 0),(3,.hd 0 0 (procsN p).length),(55,.p (.sl (p.procs.map fun f => .agg f.cells))),(56,.p (.int .i64 (p.procs.map fun f=>AV.agg f.cells).length)),(57,.p (.int .i64 j))],[(0,.own 9 1 ((procsN p).map .str)),(1,.obj 112 [.p (.int .i64 0),.p (.int .i64 0)])]⟩) (fun j=>j<=p.procs.length ∧ ∀ f∈p.procs.take j,ScopeOK p f) (fun j=>p.procs.length-j) 0
    (Le.of_eq rfl) ⟨u3l _,fun f h=>by rw [u7b] at h;cases h⟩ ?_
   rintro j ⟨h2,h3⟩;rcases u3r j p.procs.length with hj|hj;rotate_left 1
   ·rw [u3o hj] at h3;conv=>whnf
    repeat' (first|(refine u3d rfl ?_;conv=>whnf)|(apply bD<;>intro _<;>first|omega|conv=>whnf))
    exact ZG ⟨fun _=>h3,fun _=>rfl⟩
   have hfm:=u3i hj;obtain ⟨w1,w2,w3,w4⟩:=z8k hf hfm;have hwp:=hf.pr hfm;have hPm:=q2g p.procs[j] (by omega);have hF:=XU p.procs[j];have hmap:(WL p.procs[j]).map RI.s=flL p.procs[j].body:=by rw [VH hm hfm];exact PH 1 0 false _
   have hrl:=GJ p.procs[j];have hargs : ∀ x∈WL p.procs[j],x.s.args.length<=20000:=fun x hx=>by
    have hmm:x.s∈flL p.procs[j].body:=by
     rw [<- hmap];exact u3s.2 ⟨_,hx,rfl⟩
    have h4:=x1f _ _ hmm;have h5:=x9r x.s;have h6:=GP x.s.args;unfold wPr at hwp;omega
   have hav:allV p p.procs[j]=p.globals++((p.procs[j].params.map Param.name)++p.procs[j].vars):=rfl;have hT:=ZC (allV p p.procs[j]);rw [hav] at hT;have hnd:=WM (l:=allV p p.procs[j]);rw [hav] at hnd;have hbad : ¬ScopeOK p p.procs[j] -> ¬∀ f∈p.procs,ScopeOK p f:=fun h h2=>h (h2 _ hfm);have hgood:ScopeOK p p.procs[j] -> ∀ f∈p.procs.take (j+1),ScopeOK p f:=fun h f hfq=>by
    rcases (QA hj).1 hfq with h4|rfl
    ·exact h3 f h4
    ·exact h
   have hok:((p.globals++((p.procs[j].params.map Param.name)++p.procs[j].vars)).Nodup ∧ ∀ x∈WL p.procs[j],knownB p p.procs[j] (procsN p) x.s=true)↔ScopeOK p p.procs[j]:=by
    constructor
    ·rintro ⟨a,b⟩;exact ⟨a,fun t ht=>by
      rw [<- hmap] at ht;obtain ⟨x,hx,rfl⟩:=u3s.1 ht;exact b x hx⟩
    ·rintro ⟨a,b⟩;exact ⟨a,fun x hx=>b _ (by rw [<- hmap];exact u3s.2 ⟨x,hx,rfl⟩)⟩
   have hkd:=fun v=>q7m p p.procs[j] v;have hkn : ∀ t:S,knownB p p.procs[j] (procsN p) t=((WC t).all (fun n => !(BZ p p.procs[j] n==0))&&(decide (t.kind≠4)||(!(t.proc==mainS)&&inS (procsN p) t.proc))):=fun t=>by rw [q8j];rfl
   clear hav hwp hmap hfm;generalize WL p.procs[j]=its at *
   generalize ScopeOK p p.procs[j]=SK at *
   have hil:=WA its;rw [show eStrs (p.globals++((p.procs[j].params.map Param.name)++p.procs[j].vars))=AV.sl (p.globals.map .str++(p.procs[j].params.map Param.name).map .str++p.procs[j].vars.map .str) by unfold eStrs;rw [u3t,u3t,u4f]] at hT;conv=>whnf
   repeat' (first|((first|(refine iM fun _=>?_)|refine dA ?_|refine u3d rfl ?_|refine aD ?_|(refine iA fun _=>?_)|refine cP hPm ?_|refine u8x (fun x hx=>by cases hx) rfl ?_|refine XR _ (by simp) (by simp;omega) ?_|(refine QD hT (.cons (.hd rfl (by simp<;>omega)) .nil) (by rintro _ rfl;rfl) ?_;rintro _ rfl)|refine cP (XQ 5 0) ?_|refine cP hF ?_);conv=>whnf)|(apply bD<;>intro _<;>first|omega|conv=>whnf)|(apply bB<;>intro _<;>conv=>whnf))
   all_goals first
    | (refine ZG ⟨fun h=>by omega,fun hP=>absurd hP (hbad fun hS => ?_)⟩
       have:=hnd.2 (hok.2 hS).1;simp_all
       done)
    | skip
   have hND:=hnd.1 (by assumption);have hbad2 : ∀ x∈its,knownB p p.procs[j] (procsN p) x.s=false -> ¬∀ f∈p.procs,ScopeOK p f:=fun x hx h=>hbad fun hS=>by
    have:=(hok.2 hS).2 x hx;rw [this] at h;cases h
   clear hT hnd;refine LoopK.inv QX (fun m:Nat=>⟨[(1,.p (.ip p.cells)),(2,.ptr 1 0),(3,.hd 0 0 (procsN p).length),(9,.p (.ip p.procs[j].cells)),(55,.p (.sl (p.procs.map fun f => .agg f.cells))),(56,.p (.int .i64 (p.procs.map fun f=>AV.agg f.cells).length)),(57,.p (.int .i64 j)),(74,.p (VM its)),(75,.p (.int .i64 (its.map fun i=>AV.agg i.cells).length)),(76,.p (.int .i64 m))],[(0,.own 9 1 ((procsN p).map .str)),(1,.obj 112 [.p (.int .i64 0),.p (.int .i64 0)])]⟩) (fun m=>m<=its.length ∧ ∀ x∈its.take m,knownB p p.procs[j] (procsN p) x.s=true) (fun m=>its.length-m) 0
    (Le.of_eq rfl) ⟨u3l _,fun x h=>by rw [u7b] at h;cases h⟩ ?_
   rintro m ⟨h4,h5⟩;rcases u3r m its.length with hm'|hm';rotate_left 1
   ·rw [u3o hm'] at h5;conv=>whnf
    repeat' (first|(refine wI ?_;conv=>whnf)|(apply bD<;>intro _<;>first|omega|conv=>whnf))
    exact ⟨j+1,⟨by omega,hgood (hok.1 ⟨hND,h5⟩)⟩,by omega,Le.of_eq rfl⟩
   have hna:=hargs _ (u3i hm');have hSd:=DF its[m].s hna;have hB:=hbad2 _ (u3i hm');have hst:knownB p p.procs[j] (procsN p) its[m].s=true -> ∀ x∈its.take (m+1),knownB p p.procs[j] (procsN p) x.s=true:=fun h x hx=>by
    rcases (QA hm').1 hx with h6|rfl
    ·exact h5 x h6
    ·exact h
   rw [hkn] at hB hst;have hIn:=QB (procsN p) its[m].s.proc;generalize WC its[m].s=vs at *
   have hvl:(vs.map AV.str).length=vs.length:=u3k _;conv=>whnf
   repeat' (first|((first|(refine iM fun _=>?_)|refine u3d rfl ?_|(refine iA fun _=>?_)|refine cP hSd ?_);conv=>whnf)|(apply bD<;>intro _<;>first|omega|conv=>whnf))
   refine LoopK.inv QX (fun q:Nat=>⟨[(1,.p (.ip p.cells)),(2,.ptr 1 0),(3,.hd 0 0 (procsN p).length),(9,.p (.ip p.procs[j].cells)),(11,.p (.ip its[m].cells)),(55,.p (.sl (p.procs.map fun f => .agg f.cells))),(56,.p (.int .i64 (p.procs.map fun f=>AV.agg f.cells).length)),(57,.p (.int .i64 j)),(74,.p (VM its)),(75,.p (.int .i64 (its.map fun i=>AV.agg i.cells).length)),(76,.p (.int .i64 m)),(82,.p (eStrs vs)),(83,.p (.int .i64 (vs.map AV.str).length)),(84,.p (.int .i64 q))],[(0,.own 9 1 ((procsN p).map .str)),(1,.obj 112 [.p (.int .i64 0),.p (.int .i64 0)])]⟩) (fun q=>q<=vs.length∧(vs.drop q).all (fun n => !(BZ p p.procs[j] n==0))=vs.all fun n => !(BZ p p.procs[j] n==0)) (fun q=>vs.length-q) 0
    (Le.of_eq rfl) ⟨u3l _,rfl⟩ ?_
   rintro q ⟨h6,h7⟩;rcases u3r q vs.length with hq|hq
   ·have hK:=hkd vs[q];conv=>whnf
    repeat' (first|((first|refine u3d rfl ?_|(refine iA fun _=>?_)|refine wI ?_|refine cP hK ?_|refine cP (XQ 5 _) ?_);conv=>whnf)|(apply bD<;>intro _<;>first|omega|conv=>whnf))
    all_goals first
     | (refine ZG ⟨fun h=>by omega,fun hP=>absurd hP (hB ?_)⟩
        have hk0:BZ p p.procs[j] vs[q]=0:=by assumption
        have e:=q3y (p:=fun n => !(BZ p p.procs[j] n==0)) hq (by rw [hk0];rfl);rw [<- h7,e];rfl)
     | (have hk0 : ¬BZ p p.procs[j] vs[q]=0:=by assumption
        exact ⟨q+1,⟨by omega,by rw [<- h7,HE (p:=fun n => !(BZ p p.procs[j] n==0)) hq (by simpa using hk0)]⟩,by omega,Le.of_eq rfl⟩)
   ·rw [HA hq] at h7;rw [<- h7,u7e] at hB hst;conv=>whnf
    repeat' (first|((first|refine u3d rfl ?_|refine wI ?_|(refine QD hIn (.cons (.hd rfl (by simp)) (.cons (.p (Sub.refl _)) .nil)) (by rintro _ rfl;rfl) ?_;rintro _ rfl)|refine cP (XQ 5 _) ?_);conv=>whnf)|(apply bD<;>intro _<;>first|omega|conv=>whnf)|(apply bN<;>intro _<;>conv=>whnf)|(apply bB<;>intro _<;>conv=>whnf))
    all_goals
     have hmm:(its[m].s.proc==mainS)=(its[m].s.proc==[109,97,105,110]):=rfl
    all_goals first
     | (refine ZG ⟨fun h=>by omega,fun hP=>absurd hP (hB ?_)⟩
        rw [hmm];simp_all
        done)
     | (refine ⟨m+1,⟨by omega,hst ?_⟩,by omega,Le.of_eq rfl⟩
        rw [hmm];simp_all
        done)
def z2m (L:List RI) (f:Pr) (x:RI):Bool:=if x.s.kind=7∨x.s.kind=8 then (z4u L.reverse x.s.id).2 else if x.s.kind=10 then inS (x2j f) x.s.name else true
theorem v6x (f:Pr) (n:Str):(atB f n).2=inS (x2j f) n:=by
 rw [u6a,ZU];unfold atB x2j;rw [u3p,u4o];cases hq:(flL f.body).find? fun t=>t.labels.any fun s=>n==s with
 | some t =>
   have h1:=u5i hq;have h2:=u7y hq;obtain ⟨s,hs,he⟩:=u5n.1 h2;have he:n=s:=eq_of_beq he;exact ⟨fun _ => .inl ⟨t,h1,he▸hs⟩,fun _=>rfl⟩
 | none =>
   have h1:=u6p.1 hq;have h2 : ¬∃ a∈flL f.body,n∈a.labels:=fun ⟨t,ht,hn⟩=>h1 t ht (u5n.2 ⟨n,hn,u6l n⟩);cases hc:f.fin.any fun s=>n==s with
   | true =>
     obtain ⟨s,hs,he⟩:=u5n.1 hc;have he:n=s:=eq_of_beq he;exact ⟨fun _ => .inr (he▸hs),fun _=>rfl⟩
   | false =>
     refine ⟨fun h=>by simp at h,fun h => ?_⟩;rcases h with h|h
     ·exact absurd h h2
     ·have:=u7s.1 hc n h;simp at this
theorem w1u {p:Pg} (h:UB p=true) {j:Nat} {f:Pr} (hj:p.procs[j]? = some f):BA p j f↔(∀ x∈flatU f,z2m (flatU f) f x=true)∧(x2j f).Nodup:=by
 have key : ∀ it∈itsOf p j f,∀ x∈flatU f,x.s=it.s->z2m (flatU f) f x=US f it:=fun it hi x hx he=>by
  unfold z2m US;rw [he,x1n h hj hi,v6x];congr 1;by_cases h0:it.loop=0<;>simp [h0]
 unfold BA;refine and_congr_left fun _=>⟨fun h1 x hx => ?_,fun h1 it hi => ?_⟩
 ·have h2:x.s∈flL f.body:=by
   rw [<- show (flatU f).map RI.s=flL f.body from PH 1 0 false f.body];exact u3s.2 ⟨x,hx,rfl⟩
  obtain ⟨it,hi,he⟩:=v4y (p:=p) (j:=j) h2;rw [key it hi x hx he.symm];exact h1 it hi
 ·obtain ⟨x,hx,he⟩:=q9l (q1m hi);rw [<- key it hi x hx he];exact h1 x hx
theorem w5w (f:Pr):x2j f=(flatU f).flatMap (fun x=>x.s.labels)++f.fin:=by
 unfold x2j;rw [<- show (flatU f).map RI.s=flL f.body from PH 1 0 false f.body,List.flatMap_map]
theorem q5b (p:Pg) (hf:Fit p) (hm:UB p=true):SpecP prog 218 [.agg p.cells] (fun r=>fltR (∀ j f,p.procs[j]? = some f->BA p j f) r):=by
 refine sB LL func218 rfl call218 ?_;conv=>whnf
 obtain ⟨hg,hpl,hcn⟩:=ZM hm;have hpll:(p.procs.map fun f=>AV.agg f.cells).length=p.procs.length:=u3k _;repeat' (refine iM fun _=>?_;conv=>whnf)
 refine LoopK.inv QX (fun j:Nat=>⟨[(2,.ptr 1 0),(13,.p (.sl (p.procs.map fun f => .agg f.cells))),(14,.p (.int .i64 (p.procs.map fun f=>AV.agg f.cells).length)),(15,.p (.int .i64 j))],[(1,.obj 112 [.p (.int .i64 0),.p (.int .i64 0)])]⟩) (fun j=>j<=p.procs.length ∧ ∀ k f,k<j->p.procs[k]? = some f->BA p k f) (fun j=>p.procs.length-j) 0
  (Le.of_eq rfl) ⟨u3l _,fun k f h=>absurd h (u9t _)⟩ ?_
 rintro j ⟨h2,h3⟩;rcases u3r j p.procs.length with hj|hj;rotate_left 1
 ·conv=>whnf
  repeat' (first|(refine u3d rfl ?_;conv=>whnf)|(apply bD<;>intro _<;>first|omega|conv=>whnf))
  exact ZG ⟨fun _ k f hk=>h3 k f (by have:=(u3e.1 hk).1;omega) hk,fun _=>rfl⟩
 have hfm:=u3i hj;obtain ⟨w1,w2,w3,w4⟩:=z8k hf hfm;have hwp:=hf.pr hfm;have hpj':p.procs[j]? = some p.procs[j]:=u3h hj;have hF:=XU p.procs[j];rw [VH hm hfm] at hF;have hrl:(flatU p.procs[j]).length<=200:=by rw [show flatU p.procs[j]=fuL 1 0 false p.procs[j].body from rfl,UD];have:=DC _ _ hfm;omega
 have hlab : ∀ x∈flatU p.procs[j],x.s.labels.length<=20000:=fun x hx=>by
  have hmm:x.s∈flL p.procs[j].body:=by
   rw [<- show (flatU p.procs[j]).map RI.s=flL p.procs[j].body from PH 1 0 false _];exact u3s.2 ⟨_,hx,rfl⟩
  have h4:=x1f _ _ hmm;have h5:=x9r x.s;have h6:=BB x.s.labels;unfold wPr at hwp;omega
 have hLb:=q2k p.procs[j] (by rw [VH hm hfm];exact hlab) w3;rw [VH hm hfm,<- w5w] at hLb;have hbad : ¬BA p j p.procs[j] -> ¬∀ j f,p.procs[j]? = some f->BA p j f:=fun h h2=>h (h2 j _ hpj');have hgood:BA p j p.procs[j] -> ∀ k f,k<j+1->p.procs[k]? = some f->BA p k f:=fun h k f hk hf2=>by
  rcases u3r k j with h4|h4
  ·exact h3 k f h4 hf2
  ·obtain rfl:k=j:=by omega
   rw [hpj'] at hf2;exact u6y hf2▸h
 rw [w1u hm hpj'] at hbad hgood;have hlf:=w5w p.procs[j];have hld : ∀ x,z2m (flatU p.procs[j]) p.procs[j] x=if x.s.kind=7∨x.s.kind=8 then (z4u (flatU p.procs[j]).reverse x.s.id).2 else if x.s.kind=10 then inS (x2j p.procs[j]) x.s.name else true:=fun x=>rfl;have hAr:=fun id=>GT (flatU p.procs[j]) id;have hIn:=fun x=>QB (x2j p.procs[j]) x;generalize z2m (flatU p.procs[j]) p.procs[j]=ld at *
 generalize flatU p.procs[j]=L at *
 generalize x2j p.procs[j]=LB at *
 have hLl:=WA L;conv=>whnf
 repeat' (first|((first|(refine iM fun _=>?_)|refine u3d rfl ?_|(refine iA fun _=>?_)|refine cP hF ?_);conv=>whnf)|(apply bD<;>intro _<;>first|omega|conv=>whnf))
 refine LoopK.inv QX (fun x:Nat×List Str=>⟨[(2,.ptr 1 0),(4,.p (.ip p.procs[j].cells)),(5,.hd 0 0 x.2.length),(6,.p (VM L)),(13,.p (.sl (p.procs.map fun f => .agg f.cells))),(14,.p (.int .i64 (p.procs.map fun f=>AV.agg f.cells).length)),(15,.p (.int .i64 j)),(21,.p (VM L)),(22,.p (.int .i64 (L.map fun i=>AV.agg i.cells).length)),(23,.p (.int .i64 x.1))],[(0,.own 9 1 (x.2.map .str)),(1,.obj 112 [.p (.int .i64 0),.p (.int .i64 0)])]⟩) (fun x=>x.1<=L.length∧x.2=(L.take x.1).flatMap (fun x=>x.s.labels)∧x.2.length<=20000*x.1∧x.2.Nodup ∧ ∀ y∈L.take x.1,ld y=true) (fun x=>L.length-x.1) (0,[])
  (Le.mk [(0,.own 9 1 [])] (by simp [Chunk.new0];rfl) (by simp) (by simp) (.cons (.refl _) (.cons (.refl _) (.cons (.nil u3g) (.cons (.refl _) (.cons (.refl _) (.cons (.refl _) (.cons (.refl _) (.cons (.refl _) (.cons (.refl _) (.cons (.refl _) .nil)))))))))) (.new u3g (.cons rfl (.refl _) .nil))) ⟨u3l _,by simp,by simp,by simp,fun y h=>by rw [u7b] at h;cases h⟩ ?_
 rintro ⟨k,acc⟩ ⟨h4,h5,h6,h7,h8⟩;simp only at h4 h5 h6 h7 h8 ⊢;rcases u3r k L.length with hk|hk
 ·have hlk:=hlab _ (u3i hk);have e1:(L.take (k+1)).flatMap (fun x=>x.s.labels)=acc++L[k].s.labels:=by rw [u3a hk,u7v,<- h5];simp
  have hT:=ZC (acc++L[k].s.labels);have hAk:=hAr L[k].s.id;have hIk:=hIn L[k].s.name;have hldk:=hld L[k];have hsub:LB.Nodup->(acc++L[k].s.labels).Nodup:=fun h=>by
   rw [hlf,<- u8m (k+1) L,u7v,e1,u4f] at h;exact (u5p.1 h).1
  have hno : ∀ {d:Int} {H:Heap},(ld L[k]=false∨XM (acc++L[k].s.labels)=true)->RetK H (.p (.agg [.int .i64 7,.int .i64 d])) (fun r=>fltR (∀ j f,p.procs[j]? = some f->BA p j f) r):=fun h=>by
   refine ZG ⟨fun h=>by omega,fun hP=>absurd hP (hbad fun ⟨h9,h10⟩ => ?_)⟩;rcases h with h|h
   ·rw [h9 _ (u3i hk)] at h;cases h
   ·rw [WM.2 (hsub h10)] at h;cases h
  have hyes:ld L[k]=true -> ∀ y∈L.take (k+1),ld y=true:=fun h y hy=>by
   rcases (QA hk).1 hy with h9|rfl
   ·exact h8 y h9
   ·exact h
  rw [<- WM] at hsub;rw [show eStrs (acc++L[k].s.labels)=AV.sl (acc.map .str++L[k].s.labels.map .str) by unfold eStrs;rw [u3t]] at hT;generalize hal:acc++L[k].s.labels=al at hT hno e1;have hall:al.length=acc.length+L[k].s.labels.length:=by rw [<- hal];simp
  generalize (z4u L.reverse L[k].s.id).2=ar at *
  conv=>whnf
  repeat' (first|((first|refine dA ?_|refine u3d rfl ?_|refine aD ?_|(refine iA fun _=>?_)|refine wI ?_|refine XR _ (by simp) (by simp;omega) ?_|(refine QD hT (.cons (.hd rfl (by simp)) .nil) (by rintro _ rfl;rfl) ?_;rintro _ rfl)|refine cP hAk ?_|refine cP hLb ?_|refine cP hIk ?_|refine cP (XQ 7 _) ?_);conv=>whnf)|(apply bD<;>intro _<;>first|omega|conv=>whnf)|(apply bN<;>intro _<;>conv=>whnf)|(apply bB<;>intro _<;>conv=>whnf))
  all_goals first
   | exact hno (.inr (by assumption))
   | (refine hno (.inl ?_)
      rw [hldk];simp_all
      done)
   | (refine ⟨(k+1,al),⟨by simp only;omega,by simp only;rw [e1],by simp only;omega,WM.1 (by assumption),hyes ?_⟩,by simp only;omega,Le.of_eq (by subst hal;simp only [u3f,u3t,u3k];rfl)⟩
      rw [hldk];simp_all
      done)
 ·rw [u3o hk] at h5 h8;have e2:LB=acc++p.procs[j].fin:=by rw [hlf,<- h5]
  have hT:=ZC (acc++p.procs[j].fin);rw [show eStrs (acc++p.procs[j].fin)=AV.sl (acc.map .str++p.procs[j].fin.map .str) by unfold eStrs;rw [u3t]] at hT;conv=>whnf
  repeat' (first|((first|refine u3d rfl ?_|refine aD ?_|refine wI ?_|refine XR _ (by simp) (by simp;omega) ?_|(refine QD hT (.cons (.hd rfl (by simp)) .nil) (by rintro _ rfl;rfl) ?_;rintro _ rfl)|refine cP (XQ 7 0) ?_);conv=>whnf)|(apply bD<;>intro _<;>first|omega|conv=>whnf)|(apply bB<;>intro _<;>conv=>whnf))
  all_goals first
   | (refine ZG ⟨fun h=>by omega,fun hP=>absurd hP (hbad fun ⟨h9,h10⟩ => ?_)⟩
      rw [e2,<- WM] at h10;simp_all
      done)
   | (refine ⟨j+1,⟨by omega,hgood ⟨h8,?_⟩⟩,by omega,Le.of_eq rfl⟩
      rw [e2,<- WM];assumption)
theorem fltR.yes {P:Prop} {r:AV} (h:fltR P r) (hp:P) : ∃ d,r=NY 0 d:=by
 obtain ⟨c,d,rfl,h⟩:=h;rw [h.2 hp];exact ⟨d,rfl⟩
theorem fltR.no {P:Prop} {r:AV} (h:fltR P r) (hp : ¬P) : ∃ c d,c≠0∧r=NY c d:=by
 obtain ⟨c,d,rfl,h⟩:=h;exact ⟨c,d,fun e=>hp (h.1 e),rfl⟩
theorem q9d (p:Pg) (hf:Fit p):SpecP prog 137 [.agg p.cells] (fun r=>fltR (QM p=true) r):=by
 refine sB q3z func137 rfl call137 ?_;conv=>whnf
 have hS:=q5g p hf;by_cases hs:(QO p).1=0;rotate_left 1
 ·have hS:=hS.mono fun r h=>h.no hs;have hno : ¬QM p=true:=fun h=>hs (x7p.1 h).2.1;repeat' (first|((first|refine u3d rfl ?_|(refine CallK.pure hS (.cons (Sub.refl _) .nil) ?_;rintro _ ⟨c,d,hc,rfl⟩));conv=>whnf)|(apply bD<;>intro _<;>first|omega|conv=>whnf))
  all_goals first
   | (exfalso;omega)
   | exact ZG ⟨fun h=>absurd h hc,fun h=>absurd h hno⟩
 have hS:=hS.mono fun r h=>h.yes hs;have hm:=(UY hs).1;have hA:=q5f p hm;rw [<- x1q hs] at hA;by_cases ha:(UM p).1=0;rotate_left 1
 ·have hA:=hA.mono fun r h=>h.no ha;have hno : ¬QM p=true:=fun h=>ha (x7p.1 h).2.2.1;repeat' (first|((first|refine u3d rfl ?_|(refine CallK.pure hS (.cons (Sub.refl _) .nil) ?_;rintro _ ⟨d0,rfl⟩)|(refine CallK.pure hA (.cons (Sub.refl _) .nil) ?_;rintro _ ⟨c,d,hc,rfl⟩));conv=>whnf)|(apply bD<;>intro _<;>first|omega|conv=>whnf))
  all_goals first
   | (exfalso;omega)
   | exact ZG ⟨fun h=>absurd h hc,fun h=>absurd h hno⟩
 have hA:=hA.mono fun r h=>h.yes ha;have hJ:=q5b p hf hm;rw [<- w9l hs] at hJ;by_cases hj:(LE p).1=0;rotate_left 1
 ·have hJ:=hJ.mono fun r h=>h.no hj;have hno : ¬QM p=true:=fun h=>hj (x7p.1 h).2.2.2.1;repeat' (first|((first|refine u3d rfl ?_|(refine CallK.pure hS (.cons (Sub.refl _) .nil) ?_;rintro _ ⟨d0,rfl⟩)|(refine CallK.pure hA (.cons (Sub.refl _) .nil) ?_;rintro _ ⟨d1,rfl⟩)|(refine CallK.pure hJ (.cons (Sub.refl _) .nil) ?_;rintro _ ⟨c,d,hc,rfl⟩));conv=>whnf)|(apply bD<;>intro _<;>first|omega|conv=>whnf))
  all_goals first
   | (exfalso;omega)
   | exact ZG ⟨fun h=>absurd h hc,fun h=>absurd h hno⟩
 have hJ:=hJ.mono fun r h=>h.yes hj;have hT:=MU p hf hs ((x1q hs).1 ha);rw [<- w3z ha] at hT;have hiff:QM p=true↔(FN p).1=0:=by
  rw [x7p];exact ⟨fun h=>h.2.2.2.2,fun h=>⟨hm,hs,ha,hj,h⟩⟩
 repeat' (first|((first|refine u3d rfl ?_|(refine CallK.pure hS (.cons (Sub.refl _) .nil) ?_;rintro _ ⟨d0,rfl⟩)|(refine CallK.pure hA (.cons (Sub.refl _) .nil) ?_;rintro _ ⟨d1,rfl⟩)|(refine CallK.pure hJ (.cons (Sub.refl _) .nil) ?_;rintro _ ⟨d2,rfl⟩)|(refine CallK.pure hT (.cons (Sub.refl _) .nil) ?_;rintro _ ⟨c,d,rfl,hc⟩));conv=>whnf)|(apply bD<;>intro _<;>first|omega|conv=>whnf))
 all_goals first
  | (exfalso;omega)
  | exact ZG (hc.trans hiff.symm)
theorem YT (p:Pg) (hf:Fit p):SpecP prog 78 [.agg p.cells] (fun r=>r = .bool (QM p)):=by
 refine sB LH func78 rfl call78 ?_;conv=>whnf
 repeat' (refine CallK.pure (q9d p hf) (.cons (Sub.refl _) .nil) ?_;rintro _ ⟨c,d,rfl,hc⟩;conv=>whnf)
 all_goals
  refine RetK.bool ?_;first
  | rw [u6a,u6m];exact hc
  | rw [u6a,u4b];exact hc
end Go.Ab
