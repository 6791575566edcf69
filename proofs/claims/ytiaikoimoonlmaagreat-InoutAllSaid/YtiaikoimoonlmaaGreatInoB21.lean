/- The reference's traps, virtual steps, augmented steps. -/
import Derived.Test.YtiaikoimoonlmaaGreatInoB14
import Derived.Test.YtiaikoimoonlmaaGreatInoB15
import Derived.Test.YtiaikoimoonlmaaGreatInoB16
import Derived.Test.YtiaikoimoonlmaaGreatInoB17
import Derived.Test.YtiaikoimoonlmaaGreatInoB20
set_option linter.unusedSimpArgs false
set_option linter.unusedVariables false
set_option maxRecDepth 100000
set_option maxHeartbeats 16000000
open List (length)
namespace Go.Ab
open Go.Proofs.Tryz
open Go.Proofs
theorem DY (p:Pg) (j:Nat) (f:Pr) (h:QM p=true) (hj:p.procs[j]? = some f):SpecP prog 277 [z5v f,QL (QQ p j f).real] (fun r=>r=q8z (trapsW (QQ p j f) f)):=by
 refine sB GS func277 rfl call277 ?_;conv=>whnf
 refine iM fun _=>?_;have hm:=(QK h).1;have hlU:=YV hm hj;have hLl:=WA (flatU f);have hrl:=z6e h hj;have hFr:=fun a=>YP (QQ p j f).real a [] (by omega);have hlen:(flatU f).length=cntL f.body:=UD 1 0 false f.body;conv=>whnf
 refine LoopK.inv QX (fun x:Nat×List (List Int)=>⟨[(1,.p (QL (QQ p j f).real)),(5,.hd 0 0 x.2.length),(16,.p (VM (flatU f))),(17,.p (.int .i64 ((flatU f).map fun i=>AV.agg i.cells).length)),(18,.p (.int .i64 x.1))],[(0,.own 70 1 (x.2.map QR))]⟩) (fun x=>x.1<=(flatU f).length∧TrI p j f x.1 x.2) (fun x=>(flatU f).length-x.1) (0,[])
  (Le.mk [(0,.own 70 1 [])] (by simp [Chunk.new0];rfl) (by simp) (by simp) (.cons (.refl _) (.cons (.nil u3g) (.cons (.refl _) (.cons (.refl _) (.cons (.refl _) .nil))))) (.new u3g .nil)) ⟨u3l _,TrI.zero⟩ ?_
 rintro ⟨k,out⟩ ⟨h2,hI⟩;simp only at h2 hI ⊢;have hol:=hI.len h hj h2;rcases u3r k (flatU f).length with hk|hk;rotate_left 1
 ·have:=hI.all h hj (by omega);subst this;conv=>whnf
  repeat' (apply bD<;>intro _<;>first|omega|conv=>whnf)
  exact ⟨_,.hd rfl (by simp),by unfold q8z avI;rw [u8a];rfl⟩
 have hid:=x7a h hj hk;have hpl:plP p j f (flatU f)[k].s.id := .inr (.inr ⟨by omega,by omega⟩);have hF1:=hFr (flatU f)[k].s.id;conv=>whnf
 repeat' (first|((first|(refine iM fun _=>?_)|refine u3d rfl ?_|(refine iA fun _=>?_)|(refine CallK.pure hF1 (.cons (Sub.refl _) (.cons (Sub.refl _) (.cons Sub.nils .nil))) ?_;rintro _ ⟨es,rfl,hes,hnd⟩)|refine cP (XG _ (-1)) ?_);conv=>whnf)|(apply bD<;>intro _<;>first|omega|conv=>whnf))
 have hel:=z1i hes hnd;have hml:(es.map (AV.int .i64)).length=es.length:=u3k _;refine LoopK.inv QX (fun x:Nat×Bool=>⟨[(1,.p (QL (QQ p j f).real)),(5,.hd 0 0 out.length),(7,.p (.ip (flatU f)[k].cells)),(8,.p (QR es)),(9,.p (.bool x.2)),(16,.p (VM (flatU f))),(17,.p (.int .i64 ((flatU f).map fun i=>AV.agg i.cells).length)),(18,.p (.int .i64 k)),(30,.p (QR es)),(31,.p (.int .i64 (es.map (AV.int .i64)).length)),(32,.p (.int .i64 x.1))],[(0,.own 70 1 (out.map QR))]⟩) (fun x=>x.1<=es.length∧(x.2=true↔JS es (-1)=false ∧ ∀ y∈es.take x.1,Rch (wR p j f) y (flatU f)[k].s.id)) (fun x=>es.length-x.1) (0,!JS es (-1)) (Le.of_eq rfl) ⟨u3l _,by simp⟩ ?_;rintro ⟨q,b⟩ ⟨h3,h4⟩;simp only at h3 h4 ⊢;rcases u3r q es.length with hq|hq
 ·have htk : ∀ s,s∈es.take (q+1)↔s∈es.take q∨s=es[q]:=fun s=>QA hq;have hF2:=hFr es[q];cases b with
  | true =>
    have h4:=h4.1 rfl;conv=>whnf
    repeat' (first|((first|refine dA ?_|(refine iA fun _=>?_)|refine wI ?_|(refine CallK.pure hF2 (.cons (Sub.refl _) (.cons (Sub.refl _) (.cons Sub.nils .nil))) ?_;rintro _ ⟨ey,rfl,hey,hnd2⟩)|refine cP (XG _ _) ?_);conv=>whnf)|(apply bD<;>intro _<;>first|omega|conv=>whnf)|(apply bB<;>intro _<;>conv=>whnf))
    all_goals first
     | contradiction
     | exact ⟨(q+1,JS ey (flatU f)[k].s.id),⟨by simp only;omega,by
        simp only;rw [ZI,hey,q6y];constructor
        ·exact fun h5=>⟨h4.1,fun y hy=>((htk y).1 hy).elim (h4.2 y) fun e=>e▸h5⟩
        ·exact fun h5=>h5.2 _ ((htk _).2 (.inr rfl))⟩,by simp only;omega,Le.of_eq rfl⟩
  | false =>
    conv=>whnf
    repeat' (first|((first|refine dA ?_|(refine iA fun _=>?_)|refine wI ?_);conv=>whnf)|(apply bD<;>intro _<;>first|omega|conv=>whnf)|(apply bB<;>intro _<;>conv=>whnf))
    all_goals first|contradiction|exact ⟨(q+1,false),⟨by simp only;omega,by
      simp only;refine ⟨fun h5=>(by cases h5),fun h5 => ?_⟩;exact h4.2 ⟨h5.1,fun y hy=>h5.2 y ((htk y).2 (.inl hy))⟩⟩,by simp only;omega,(Le.mk [] (by simp) (by simp) (by simp) (by repeat' (first|exact .nil|refine .cons ?_ ?_|exact .refl _|exact .p (Sub.ff rfl)|exact .p (Sub.tt rfl))) (.cons rfl (.refl _) .nil))⟩
 ·rw [u3o hq] at h4;have htr:b=true↔trpX p j f (flatU f)[k].s.id:=by
   rw [h4];unfold trpX;have e1:JS es (-1)=false ↔ ¬Rch (wR p j f) (flatU f)[k].s.id (-1):=by
    have h5:=(ZI (l:=es) (x := -1)).trans ((hes (-1)).trans q6y);rw [<- show Rch (stR (QQ p j f).real) (flatU f)[k].s.id (-1)↔Rch (wR p j f) (flatU f)[k].s.id (-1) from u9n,<- h5];cases JS es (-1)<;>simp
   rw [e1];refine and_congr u9n ⟨fun h5 y hy=>h5 y ((hes y).2 (q6y.2 hy)),fun h5 y hy=>h5 y (q6y.1 ((hes y).1 hy))⟩
  conv=>whnf
  repeat' (first|(refine iM fun _=>?_;conv=>whnf)|(apply bD<;>intro _<;>first|omega|conv=>whnf))
  have hom:(out.map QR).length=out.length:=u3k _;refine LoopK.inv QX (fun x:Nat×Bool=>⟨[(1,.p (QL (QQ p j f).real)),(5,.hd 0 0 out.length),(7,.p (.ip (flatU f)[k].cells)),(8,.p (QR es)),(9,.p (.bool b)),(12,.p (.bool x.2)),(16,.p (VM (flatU f))),(17,.p (.int .i64 ((flatU f).map fun i=>AV.agg i.cells).length)),(18,.p (.int .i64 k)),(47,.hd 0 0 out.length),(48,.p (.int .i64 out.length)),(49,.p (.int .i64 x.1))],[(0,.own 70 1 (out.map QR))]⟩) (fun x=>x.1<=out.length∧x.2=(out.take x.1).any fun l=>JS l (flatU f)[k].s.id) (fun x=>out.length-x.1) (0,false)
   (Le.mk [] (by simp) (by simp) (by simp) (by repeat' (first|exact .nil|refine .cons ?_ ?_|exact .refl _|exact .p (Sub.ff rfl)|exact .p (Sub.tt rfl))) (.cons rfl (.refl _) .nil)) ⟨u3l _,by simp⟩ ?_
  rintro ⟨i,o⟩ ⟨h5,h6⟩;simp only at h5 h6 ⊢;rcases u3r i out.length with hi|hi
  ·have g:(out.map QR)[i]? = some (QR out[i]):=by simp [hi]
   have h7:((out.take (i+1)).any fun l=>JS l (flatU f)[k].s.id)=(o||JS out[i] (flatU f)[k].s.id):=by rw [u3a hi,List.any_append,<- h6];simp
   cases o with
   | true =>
     conv=>whnf
     repeat' (first|((first|refine u3d rfl ?_|refine wI ?_|refine u5q i rfl hi ?_|refine u5y i 0 _ (by show (0+i)*1+0=i*1+0;omega) g ?_);conv=>whnf)|(apply bD<;>intro _<;>first|omega|conv=>whnf)|(apply bB<;>intro _<;>conv=>whnf))
     all_goals first|contradiction|exact ⟨(i+1,true),⟨by simp only;omega,by simp only;rw [h7];rfl⟩,by simp only;omega,(Le.mk [] (by simp) (by simp) (by simp) (by repeat' (first|exact .nil|refine .cons ?_ ?_|exact .refl _|exact .p (Sub.ff rfl)|exact .p (Sub.tt rfl))) (.cons rfl (.refl _) .nil))⟩
   | false =>
     conv=>whnf
     repeat' (first|((first|refine u3d rfl ?_|refine wI ?_|refine u5q i rfl hi ?_|refine u5y i 0 _ (by show (0+i)*1+0=i*1+0;omega) g ?_|refine cP (XG out[i] _) ?_);conv=>whnf)|(apply bD<;>intro _<;>first|omega|conv=>whnf)|(apply bB<;>intro _<;>conv=>whnf))
     all_goals first|contradiction|exact ⟨(i+1,JS out[i] (flatU f)[k].s.id),⟨by simp only;omega,by simp only;rw [h7,Bool.false_or]⟩,by simp only;omega,Le.of_eq rfl⟩
  ·rw [u3o hi] at h6;have hold:o=true ↔ ∃ l∈out,(flatU f)[k].s.id∈l:=by
    rw [h6,u5n];exact ⟨fun ⟨l,h7,h8⟩=>⟨l,h7,ZI.1 h8⟩,fun ⟨l,h7,h8⟩=>⟨l,h7,ZI.2 h8⟩⟩
   have hsame:(¬b=true∨o=true)->TrI p j f (k+1) out:=fun h7=>hI.same hk fun h8=>h7.elim (fun h9=>absurd (htr.2 h8) h9) fun h9=>hold.1 h9;have hR:=KK es (by omega);cases b<;>cases o <;>
   (conv=>whnf
    repeat' (first|((first|refine u3d rfl ?_|refine aD ?_|refine bP ?_|refine wI ?_|(refine CallK.pure hR (.cons (Sub.refl _) .nil) ?_;rintro _ ⟨m,rfl,hm1,hm2⟩)|refine u6q (n:=out.length) (es:=out.map QR) (by omega) rfl (by show (out.length+1)*24<=140737488355328;omega) (by show out.length+1<=9223372036854775807;omega) (fun x hx=>by rcases u3b.1 hx with rfl;exact ⟨rfl,rfl⟩) ?_);conv=>whnf)|(apply bD<;>intro _<;>first|omega|conv=>whnf)|(apply bN<;>intro _<;>conv=>whnf)|(apply bB<;>intro _<;>conv=>whnf))
    all_goals first
     | contradiction
     | exact ⟨(k+1,out++[m]),⟨by simp only;omega,hI.more h hj hk (htr.1 rfl) (fun l h7 h8=>by have:=hold.2 ⟨l,h7,h8⟩;cases this) hm1 fun s=>by rw [hm2,hes,q6y];exact u9n⟩,by simp only;omega,Le.of_eq (by simp only [u3f,u3t];rfl)⟩
     | exact ⟨(k+1,out),⟨by simp only;omega,hsame (by simp)⟩,by simp only;omega,Le.of_eq rfl⟩
     | trace_state)
def vrL (L:List RI) (l:List Int):List Step:=(L.filter fun x=>decide (x.s.kind=10)&&JS l x.s.id).map fun x=>⟨x.s.id,-1,3⟩
def vrT (L:List RI) (T:List (List Int)):List Step:=T.flatMap (vrL L)
theorem w7a (L:List RI) (l:List Int):(vrL L l).length<=L.length:=by
 unfold vrL;rw [u3k];exact u5c _ _
theorem x9m (L:List RI) : ∀ T:List (List Int),(vrT L T).length<=T.length*L.length
 | []=>by unfold vrT;simp
 | a::r=>by
   have h1:=x9m L r;have h2:=w7a L a;have e:vrT L (a::r)=vrL L a++vrT L r:=by unfold vrT;rw [u5b]
   rw [e,u3f,u4t,u6j];omega
theorem v1b {L:List RI} {l:List Int} {k:Nat} (hk:k<L.length):vrL (L.take (k+1)) l=vrL (L.take k) l++(if L[k].s.kind=10∧JS l L[k].s.id=true then [⟨L[k].s.id,-1,3⟩] else []):=by
 unfold vrL;rw [u3a hk,u4a,u3t];congr 1;by_cases h:L[k].s.kind=10∧JS l L[k].s.id=true
 ·rw [if_pos h,u5u (by simpa using h)];rfl
 ·rw [if_neg h,u5v (by simpa using h)];rfl
section
variable {p:Pg} {j:Nat} {f:Pr}
theorem v4t (h:QM p=true) (hj:p.procs[j]? = some f) {t u:S} (ht:t∈flL f.body) (hu:u∈flL f.body) (he:t.id=u.id):t=u :=
 NL (f:=S.id) (by rw [x8f (QK h).1 hj];exact q6d _ _) t ht u hu he
theorem BT {x:RI} (hx:x∈flatU f):x.s∈flL f.body:=by
 rw [<- show (flatU f).map RI.s=flL f.body from PH 1 0 false f.body];exact u3s.2 ⟨x,hx,rfl⟩
theorem z6s (h:QM p=true) (hj:p.procs[j]? = some f) (s:Step):s∈vrT (flatU f) (trapsW (QQ p j f) f)↔s∈UN (QQ p j f) f:=by
 have e:UN (QQ p j f) f=(trapsW (QQ p j f) f).flatMap fun l=>l.flatMap (vOf p):=rfl;rw [e];unfold vrT;rw [u4o,u4o];refine exists_congr fun l=>and_congr_right fun hl => ?_;have hr:=(x9b h hj hl).2;unfold vrL;rw [u3s,u4o];constructor
 ·rintro ⟨x,hx,rfl⟩;obtain ⟨h1,h2⟩:=u4i.1 hx;rw [u4u,u4b,ZI] at h2;refine ⟨x.s.id,h2.2,?_⟩;obtain ⟨h3,h4⟩:=hr _ h2.2;obtain ⟨t,ht,h5,h6⟩:=BH h hj h3 h4;have:t=x.s:=v4t h hj ht (BT h1) h6;unfold vOf;rw [h5,this];simp only;rw [if_pos h2.1];exact u3b.2 rfl
 ·rintro ⟨id,h1,h2⟩;obtain ⟨h3,h4⟩:=hr _ h1;obtain ⟨t,ht,h5,h6⟩:=BH h hj h3 h4;unfold vOf at h2;rw [h5] at h2;simp only at h2;split at h2
  ·rename_i h7;obtain ⟨x,hx,rfl⟩:=q9l ht;rw [u3b.1 h2,<- h6];exact ⟨x,u4i.2 ⟨hx,by rw [u4u,u4b,ZI];exact ⟨h7,by rw [h6];exact h1⟩⟩,rfl⟩
  ·cases h2
theorem v5n (h:QM p=true) (hj:p.procs[j]? = some f) : ∀ s∈UN (QQ p j f) f,leSt s:=fun s hs=>by
 rw [<- z6s h hj] at hs;unfold vrT vrL at hs;obtain ⟨l,hl,hs⟩:=u4o.1 hs;obtain ⟨x,hx,rfl⟩:=u3s.1 hs;have hb:=ZW (QK h).1 hj (BT (u4i.1 hx).1);have hc:=DC _ _ (u4d hj);have hcn:=(ZV h).2.2;obtain ⟨_,_,_,_,hsp⟩:=QJ p;have:=(hsp j f hj).2.2.1;unfold leSt;simp only;omega
theorem v4c (h:QM p=true) (hj:p.procs[j]? = some f) : ∀ s∈(QQ p j f).real,leSt s:=fun s hs=>v2k h hj s (((GH h hj).2 s).1 hs)
def w0c (p:Pg) (j:Nat) (f:Pr):List Step:=(QQ p j f).real++vrT (flatU f) (trapsW (QQ p j f) f)
theorem z7d (h:QM p=true) (hj:p.procs[j]? = some f) : ∀ s∈w0c p j f,leSt s:=fun s hs=>by
 rcases u3p.1 hs with hs|hs
 ·exact v4c h hj s hs
 ·exact v5n h hj s ((z6s h hj s).1 hs)
theorem w8l (h:QM p=true) (hj:p.procs[j]? = some f):WZ (w0c p j f)=GU (QQ p j f) f:=by
 refine z5o (fun s hs=>(z7d h hj s hs).ok) fun s => ?_;unfold w0c;rw [u3p,u3p,z6s h hj,or_comm]
theorem x6n:(trapsW (QQ p j f) f).length<=cntL f.body+2:=by
 unfold trapsW q2z;rw [u3k,x0x];exact u5r (u5c _ _) (by simp)
end
theorem GI (p:Pg) (j:Nat) (f:Pr) (h:QM p=true) (hj:p.procs[j]? = some f):SpecP prog 222 [z5v f,QL (QQ p j f).real] (fun r=>r=QL (vrT (flatU f) (trapsW (QQ p j f) f))):=by
 refine sB KD func222 rfl call222 ?_;conv=>whnf
 have hm:=(QK h).1;have hlU:=YV hm hj;have hT:=DY p j f h hj;have hTl:(trapsW (QQ p j f) f).length<=202:=by
  have h1:=x6n (p:=p) (j:=j) (f:=f);have h2:(flatU f).length=cntL f.body:=UD 1 0 false f.body;omega
 unfold z5v at hT;generalize (QQ p j f).real=R at *
 generalize trapsW (QQ p j f) f=T at *
 generalize flatU f=L at *
 have hLl:=WA L;have hvl:=x9m L T;have hTm:((avI T).map AV.sl).length=T.length:=by unfold avI;simp
 have hmul:T.length*L.length<=202*200:=Nat.mul_le_mul hTl hlU;repeat' ((first|(refine iM fun _=>?_)|refine cP hT ?_);conv=>whnf)
 refine LoopK.inv QX (fun x:Nat=>⟨[(2,.p (.ip [VM L,eStrs f.fin])),(5,.hd 0 0 (vrT L (T.take x)).length),(12,.p (q8z T)),(13,.p (.int .i64 ((avI T).map AV.sl).length)),(14,.p (.int .i64 x))],[(0,.own 139 3 ((vrT L (T.take x)).map fun s => .agg s.cells))]⟩) (fun x=>x<=T.length) (fun x=>T.length-x) 0
  (Le.mk [(0,.own 139 3 [])] (by simp [Chunk.new0];rfl) (by simp) (by simp) (.cons (.refl _) (.cons (.nil u3g) (.cons (.refl _) (.cons (.refl _) (.cons (.refl _) .nil))))) (.new u3g .nil)) (u3l _) ?_
 intro i hi;rcases u3r i T.length with hi2|hi2;rotate_left 1
 ·rw [u3o hi2];conv=>whnf
  repeat' (apply bD<;>intro _<;>first|omega|conv=>whnf)
  exact ⟨_,.hd rfl (by simp),rfl⟩
 have g:((avI T).map AV.sl)[i]? = some (QR T[i]):=by unfold avI;simp [hi2,QR]
 have hs:vrT L (T.take (i+1))=vrT L (T.take i)++vrL L T[i]:=by unfold vrT;rw [u3a hi2,u7v];simp
 have hb:(vrT L (T.take i)).length<=202*200:=by
  have h1:=x9m L (T.take i);have h2:(T.take i).length*L.length<=202*200:=Nat.mul_le_mul (by rw [u4k];omega) hlU;omega
 have hgi : ∀ hx,AV.sl ((avI T)[i]'hx)=QR T[i]:=fun _=>by simp [avI,QR]
 generalize vrT L (T.take i)=A at *
 conv=>whnf
 repeat' (first|((first|(refine iM fun _=>?_)|(refine iA fun _=>?_));conv=>whnf)|(apply bD<;>intro _<;>first|omega|conv=>whnf))
 refine LoopK.inv QX (fun x:Nat=>⟨[(2,.p (.ip [VM L,eStrs f.fin])),(5,.hd 0 0 (A++vrL (L.take x) T[i]).length),(7,.p (QR T[i])),(12,.p (q8z T)),(13,.p (.int .i64 ((avI T).map AV.sl).length)),(14,.p (.int .i64 i)),(19,.p (VM L)),(20,.p (.int .i64 (L.map fun i=>AV.agg i.cells).length)),(21,.p (.int .i64 x))],[(0,.own 139 3 ((A++vrL (L.take x) T[i]).map fun s => .agg s.cells))]⟩) (fun x=>x<=L.length) (fun x=>L.length-x) 0 (Le.of_eq (by simp only [hgi];rw [show vrL (L.take 0) T[i]=[] by unfold vrL;simp,u4e];rfl)) (u3l _) ?_;intro q hq;rcases u3r q L.length with hq2|hq2
 ·have hst:=v1b (l:=T[i]) hq2;have hql:(A++vrL (L.take q) T[i]).length<=202*200+200:=by
   rw [u3f];have:=w7a (L.take q) T[i];rw [u4k] at this;omega
  have hst:A++vrL (L.take (q+1)) T[i]=(A++vrL (L.take q) T[i])++(if L[q].s.kind=10∧JS T[i] L[q].s.id=true then [⟨L[q].s.id,-1,3⟩] else []):=by rw [hst,u4f]
  generalize A++vrL (L.take q) T[i]=B at *
  have hBl:=q1d B;conv=>whnf
  repeat' (first|((first|refine u3d rfl ?_|refine aD ?_|refine bP ?_|(refine iA fun _=>?_)|refine wI ?_|refine cP (XG T[i] _) ?_|refine u6q (n:=B.length) (by omega) rfl (by show (B.length+1)*24<=140737488355328;omega) (by show B.length+1<=9223372036854775807;omega) (fun x hx=>by rcases u3b.1 hx with rfl;exact ⟨rfl,rfl⟩) ?_);conv=>whnf)|(apply bD<;>intro _<;>first|omega|conv=>whnf)|(apply bB<;>intro _<;>conv=>whnf))
  all_goals first
   | exact ⟨q+1,by omega,by omega,Le.of_eq (by rw [hst,if_pos (show L[q].s.kind=10∧JS T[i] L[q].s.id=true from ⟨by assumption,by assumption⟩)];simp only [u3f,u3t];rfl)⟩
   | exact ⟨q+1,by omega,by omega,Le.of_eq (by rw [hst,if_neg (show ¬(L[q].s.kind=10∧JS T[i] L[q].s.id=true) from fun hh=>absurd hh.1 (by assumption)),u4e];rfl)⟩
   | exact ⟨q+1,by omega,by omega,Le.of_eq (by rw [hst,if_neg (show ¬(L[q].s.kind=10∧JS T[i] L[q].s.id=true) from fun hh=>by have h9:=hh.2;rw [show JS T[i] L[q].s.id=false by assumption] at h9;cases h9),u4e];rfl)⟩
 ·rw [u3o hq2,<- hs];conv=>whnf
  repeat' (first|(refine wI ?_;conv=>whnf)|(apply bD<;>intro _<;>first|omega|conv=>whnf))
  all_goals exact ⟨i+1,by omega,by omega,Le.of_eq rfl⟩
theorem BN (p:Pg) (j:Nat) (f:Pr) (h:QM p=true) (hj:p.procs[j]? = some f):SpecP prog 141 [z5v f] (fun r=>r=QL (GU (QQ p j f) f)):=by
 refine sB HP func141 rfl call141 ?_;conv=>whnf
 have hR:=YB p j f h hj;have hV:=GI p j f h hj;have hrl:=z6e h hj;have hvl:(vrT (flatU f) (trapsW (QQ p j f) f)).length<=202*200:=by
  have h1:=x6n (p:=p) (j:=j) (f:=f);have h2:(flatU f).length=cntL f.body:=UD 1 0 false f.body;have h3:=YV (QK h).1 hj;exact u5r (x9m _ _) (Nat.mul_le_mul (by omega) h3)
 have hS:=GM (w0c p j f) (by unfold w0c;rw [u3f];omega) (z7d h hj);rw [w8l h hj] at hS;unfold w0c at hS;rw [show QL ((QQ p j f).real++vrT (flatU f) (trapsW (QQ p j f) f)) = .sl (([]++(QQ p j f).real.map fun s=>AV.agg s.cells)++(vrT (flatU f) (trapsW (QQ p j f) f)).map fun s=>AV.agg s.cells) by simp [QL]] at hS;generalize GU (QQ p j f) f=D at *
 generalize (QQ p j f).real=R at *
 generalize vrT (flatU f) (trapsW (QQ p j f) f)=V at *
 have hRm:=q1d R;have hVm:=q1d V;repeat' ((first|refine dA ?_|refine u3d rfl ?_|refine aD ?_|refine cP hR ?_|refine u8x (fun x hx=>(by cases hx)) rfl ?_|refine u6q (es:=[]) (by rfl) rfl (by show (0+(R.map fun s=>AV.agg s.cells).length)*24<=140737488355328;omega) (by show 0+(R.map fun s=>AV.agg s.cells).length<=9223372036854775807;omega) (fun x hx=>by obtain ⟨s,_,rfl⟩:=u3s.1 hx;exact ⟨rfl,rfl⟩) ?_|refine cP hV ?_|refine u6q (es:=[]++R.map fun s=>AV.agg s.cells) (by simp) rfl (by show (0+(R.map fun s=>AV.agg s.cells).length+(V.map fun s=>AV.agg s.cells).length)*24<=140737488355328;omega) (by show 0+(R.map fun s=>AV.agg s.cells).length+(V.map fun s=>AV.agg s.cells).length<=9223372036854775807;omega) (fun x hx=>by obtain ⟨s,_,rfl⟩:=u3s.1 hx;exact ⟨rfl,rfl⟩) ?_|(refine ZB hS (.cons (.hd rfl (by simp)) .nil) ?_;rintro _ rfl));conv=>whnf)
 all_goals first
  | exact RetK.p rfl
theorem z9o : ∀ l:List Pr,l.length<=v2a l
 | []=>u3l _
 | f::r=>by have:=z9o r;simp only [u4t,v2a,wPr];omega
theorem w0e {p:Pg} (h:Fit p):p.procs.length<=20000:=by
 have:=z9o p.procs;unfold Fit wPg at h;omega
theorem w7z:Sub (.bool true) .tt:=fun _ _ hr=>by cases hr;exact .tt
theorem q5x (p:Pg) (hf:Fit p) (n:Str):SpecP prog 80 [.agg p.cells,.str n] (fun r=>r=QL (VT p n)):=by
 refine sB MS func80 rfl call80 ?_;conv=>whnf
 cases hw:q9j p n with
 | none =>
   rw [w0s hw];have hW:=UA p hf n hw;repeat' (first|((first|refine u3d rfl ?_|refine cP hW ?_);conv=>whnf)|(apply bN<;>intro _<;>conv=>whnf))
   all_goals first
    | contradiction
    | exact ⟨_,.p Sub.nils,rfl⟩
 | some w =>
   obtain ⟨k,f,hk,rfl,hc,_⟩:=DU hw;rw [x4a hw hk];have hW:=UE p hf n k f hw hk;have hB:=BN p k f hc hk;repeat' (first|((first|refine u3d rfl ?_|refine cP hW ?_|refine cP hB ?_);conv=>whnf)|(apply bN<;>intro _<;>conv=>whnf))
   all_goals first
    | contradiction
    | exact RetK.p rfl
def bkO (p:Pg) (O:List (List Str)):Book:=⟨sheetOf p,[],[],[],[],O⟩
def prA (p:Pg) (i:Nat):Pr:=p.procs.getD i Pr0
theorem z8i {p:Pg} {i:Nat} (h:i<p.procs.length):p.procs[i]? = some (prA p i):=by
 unfold prA;rw [u3m,u3h h];rfl
theorem BO {p:Pg} {i:Nat} {f:Pr} (h:p.procs[i]? = some f):prA p i=f:=by
 unfold prA;rw [u3m,h];rfl
def dfB (p:Pg) (O:List (List Str)):List (List Str):=(sheetOf p).l.map fun it=>XZ (YI (bkO p O) it.s)
def otA (p:Pg) (D:List (List Str)) (i:Nat):List Str:=XZ (z4y p i (prA p i) D (itsOf p i (prA p i)))
def otB (p:Pg) (D:List (List Str)):List (List Str):=(List.range p.procs.length).map (otA p D)
def rdO (p:Pg) (O:List (List Str)):List (List Str):=otB p (dfB p O)
def itO (p:Pg):Nat->List (List Str)
 | 0=>List.replicate p.procs.length []
 | k+1=>rdO p (itO p k)
theorem DZ {l:List Str} (h:l.Pairwise ltT):l.Nodup:=List.Pairwise.imp (S:=fun a b=>a≠b) (fun {a b} (h1:ltT a b)=>fun (h2:a=b)=>ltT.irr b (by rw [h2] at h1;exact h1)) h
theorem NA (l:List Str):(XZ l).length<=l.length:=BF (DZ (WN l)) fun s hs=>XF.1 hs
structure OkO (p:Pg) (O:List (List Str)):Prop where
 len:O.length=p.procs.length
 rise : ∀ o∈O,o.Pairwise ltT
 sub : ∀ i,i<p.procs.length -> ∀ n∈O.getD i [],outB p (prA p i) n=true
theorem YU {O:List (List Str)} (h : ∀ o∈O,o.Pairwise ltT) (i:Nat):(O.getD i []).Pairwise ltT:=by
 rw [u3m];rcases u3r i O.length with h1|h1
 ·rw [u3h h1];exact h _ (u3i h1)
 ·rw [u5d h1];exact .nil
theorem DA {p:Pg} {n:Str}:comB p n=true↔n=XE∨n∈p.globals:=by
 unfold comB;simp only [u8y,u6m,u5n,exists_eq_right']
theorem x0q {p:Pg} {f:Pr} {n:Str}:outB p f n=true↔(n=XE∨n∈p.globals)∨(⟨n,true⟩:Param)∈f.params:=by
 unfold outB;rw [u8y,DA,u4b]
theorem q6l {p:Pg} (h:QM p=true) (i:Nat):(prA p i).params.length<=8:=by
 rcases u3r i p.procs.length with h1|h1
 ·exact (FE.1 (w5h (QK h).1 (u4d (z8i h1)))).1
 ·unfold prA;rw [u3m,u5d h1];decide
theorem OkO.len25 {p:Pg} {O:List (List Str)} (hc:QM p=true) (h:OkO p O) (i:Nat):(O.getD i []).length<=25:=by
 rcases u3r i p.procs.length with h1|h1
 ·have h2:=BF (m:=XE::p.globals++(prA p i).params.map Param.name) (DZ (YU h.rise i)) fun n hn=>by
   rcases x0q.1 (h.sub i h1 n hn) with (rfl|h3)|h3
   ·exact u6z _ u3g
   ·exact u6z _ (u3n _ h3)
   ·exact u7u _ (u3s.2 ⟨_,h3,rfl⟩)
  have h3:=q6l hc i;have h4:=(ZV hc).1;rw [u3f,u4t,u3k] at h2;omega
 ·rw [u3m,u5d (by rw [h.len];exact h1)];exact u3l _
theorem q3j {p:Pg} (h:QM p=true) {t:S} (ht:t∈VK p) (h4:t.kind=4) : ∃ k,k<p.procs.length∧caI p t=(k:Nat)∧caP p t=prA p k∧(prA p k).name=t.proc∧(prA p k).params.map Param.ref=t.args.map Arg.ref:=by
 obtain ⟨_,hs,ha,_⟩:=QK h;have hf:=(x1q hs).1 ha t ht h4;unfold JW at hf;rw [u4u] at hf;have hf2:=hf.2;cases hq:p.procs.find? (fun f=>f.name==t.proc) with
 | none=>rw [hq] at hf2;cases hf2
 | some f =>
   rw [hq] at hf2;have hn:t.proc∈procsN p:=u3s.2 ⟨f,u5i hq,by simpa using u7y hq⟩;obtain ⟨k,hk,h1,_,h3,h5⟩:=w4t hn;rw [hq] at h3;have hkf:p.procs[k]=f:=(u6y h3).symm;have hp:prA p k=f:=by rw [<- hkf];exact BO (u3h hk)
   have hci:caI p t=(k:Nat):=h1;refine ⟨k,hk,hci,?_,?_,?_⟩
   ·unfold caP;rw [hci];rfl
   ·rw [hp,<- hkf];exact h5
   ·rw [hp];unfold x2i at hf2;exact of_decide_eq_true hf2
theorem FL {p:Pg} (h:QM p=true) {t:S} (ht:t∈VK p) (h4:t.kind=4):t.args.length=(caP p t).params.length∧t.args.length<=8:=by
 obtain ⟨k,_,_,h2,_,h3⟩:=q3j h ht h4;have h5:=u5j length h3;rw [u3k,u3k] at h5;have:=q6l h k;rw [h2];omega
theorem OkO.call {p:Pg} {O:List (List Str)} (hc:QM p=true) (h:OkO p O) {b:Book} (hs:b.s=sheetOf p) (ho:b.outs=O) {t:S} (ht:t∈VK p) (h4:t.kind=4):CallOk b t:=by
 obtain ⟨k,hk,h1,h2,_⟩:=q3j hc ht h4;obtain ⟨h5,h6⟩:=FL hc ht h4;have e:b.s.p=p:=by rw [hs];exact (QJ p).1
 have hO:caO b t=O.getD (caI p t).toNat []:=by unfold caO;rw [e,ho]
 refine ⟨by rw [e];omega,by rw [e];omega,by rw [e,ho,h.len];exact u4j _,?_,?_,by rw [e];omega,by omega⟩
 ·rw [hO];exact YU h.rise _
 ·rw [hO];have:=h.len25 hc (caI p t).toNat;omega
theorem w3m {p:Pg} {O:List (List Str)} {b:Book} (hs:b.s=sheetOf p) (ho:b.outs=O) (t:S):YI b t=YI (bkO p O) t:=by
 unfold YI caO bkO;rw [hs,ho]
theorem q3h {p:Pg} {O:List (List Str)} (hc:QM p=true) (h:OkO p O) {t:S} (ht:t∈VK p):(YI (bkO p O) t).length<=34:=by
 unfold YI
 (repeat' split)<;>try (simp;done)
 rename_i h4;have hr:=x8a t (caP p t) (caO (bkO p O) t) t.args.length;have h6:=(FL hc ht h4).2;have h7:=h.len25 hc (caI p t).toNat;have h8:((caO (bkO p O) t).filter (comB p)).length<=(O.getD (caI p t).toNat []).length:=u5c _ _;show ((if t.name=[] then [] else [t.name])++x3n t (caP p t) (caO (bkO p O) t) t.args.length++(caO (bkO p O) t).filter (comB p)).length<=34;rw [u3f,u3f];have h9:(if t.name=[] then [] else [t.name]).length<=1:=by split<;>simp
 omega
theorem z5w (p:Pg) (O:List (List Str)):(dfB p O).length=(sheetOf p).l.length:=u3k _
def leO (O O':List (List Str)):Prop := ∀ i n,n∈O.getD i []->n∈O'.getD i []
theorem z9j {t:S} {f:Pr} {O:List Str} {n:Str}:n∈x3n t f O t.args.length ↔ ∃ x∈(t.args.zip f.params).take t.args.length,(x.1.ref=true∧x.2.name∈O)∧x.1.name=n:=by
 unfold x3n v8l;simp only [u3s,u4i,u4u,ZU,and_assoc]
theorem w3l {p:Pg} {O O':List (List Str)} (h:leO O O') {t:S} {n:Str} (hn:n∈YI (bkO p O) t):n∈YI (bkO p O') t:=by
 unfold YI at hn ⊢
 (repeat' split at hn)
 ·rw [if_pos (by assumption)];exact hn
 ·rw [if_neg (by assumption),if_pos (by assumption)];exact hn
 ·rw [if_neg (by assumption),if_neg (by assumption),if_pos (by assumption)];exact hn
 ·rw [if_neg (by assumption),if_neg (by assumption),if_neg (by assumption),if_pos (by assumption)];unfold z7j at hn ⊢;rcases u3p.1 hn with hn|hn
  ·rcases u3p.1 hn with hn|hn
   ·exact u6z _ (u6z _ hn)
   ·refine u6z _ (u7u _ ?_);obtain ⟨x,h1,⟨h2,h3⟩,h4⟩:=z9j.1 hn;exact z9j.2 ⟨x,h1,⟨h2,h _ _ h3⟩,h4⟩
  ·obtain ⟨h1,h2⟩:=u4i.1 hn;exact u7u _ (u4i.2 ⟨h _ _ h1,h2⟩)
 ·cases hn
theorem HY {α β:Type} {f:α->List β} {l:List α} {i:Nat} {n:β}:n∈(l.map f).getD i [] ↔ ∃ x,l[i]? = some x∧n∈f x:=by
 rw [u3m,u4q];cases l[i]? with
 | none=>simp
 | some x=>simp
theorem w8r {p:Pg} {O O':List (List Str)} (h:leO O O'):leO (dfB p O) (dfB p O'):=fun i n hn=>by
 obtain ⟨it,h1,h2⟩:=HY.1 hn;exact HY.2 ⟨it,h1,XF.2 (w3l h (XF.1 h2))⟩
def lvB (p:Pg) (i:Nat) (id:Int):Bool:=(QQ p i (prA p i)).live.getD (ixI p i (prA p i) id).toNat false
theorem v0h {p:Pg} {i:Nat} {D:List (List Str)} {n:Str}:n∈z4y p i (prA p i) D (itsOf p i (prA p i)) ↔ ∃ it∈itsOf p i (prA p i),lvB p i it.s.id=true∧n∈DE D it.s.id∧outB p (prA p i) n=true:=by
 unfold z4y;rw [u4o];refine exists_congr fun it=>and_congr_right fun _=>?_;unfold v7l lvB;cases (QQ p i (prA p i)).live.getD (ixI p i (prA p i) it.s.id).toNat false with
 | false=>simp
 | true=>simp [u4i]
theorem x8r {p:Pg} {D:List (List Str)} {i:Nat} (hi:i<p.procs.length) {n:Str}:n∈(otB p D).getD i [] ↔ ∃ it∈itsOf p i (prA p i),lvB p i it.s.id=true∧n∈DE D it.s.id∧outB p (prA p i) n=true:=by
 unfold otB;rw [HY,<- v0h];constructor
 ·rintro ⟨x,h1,h2⟩;rw [u8d hi] at h1;cases h1;exact XF.1 h2
 ·exact fun h=>⟨i,u8d hi,XF.2 h⟩
theorem v0g {p:Pg} {D D':List (List Str)} (h:leO D D'):leO (otB p D) (otB p D'):=fun i n hn=>by
 rcases u3r i p.procs.length with hi|hi
 ·obtain ⟨it,h1,h2,h3,h4⟩:=(x8r hi).1 hn;exact (x8r hi).2 ⟨it,h1,h2,h _ _ h3,h4⟩
 ·obtain ⟨x,h1,_⟩:=HY.1 hn;rw [u5d (by simpa using hi)] at h1;cases h1
theorem z9u {p:Pg} {O O':List (List Str)} (h:leO O O'):leO (rdO p O) (rdO p O'):=v0g (w8r h)
theorem v2z (p:Pg) : ∀ k,leO (itO p k) (itO p (k+1))
 | 0=>fun i n hn=>by
   unfold itO at hn;rw [u3m,u4r] at hn;split at hn<;>cases hn
 | k+1=>z9u (v2z p k)
theorem x5o (p:Pg) (D:List (List Str)):OkO p (otB p D):=by
 refine ⟨by unfold otB;rw [u3k,u8h],fun o ho => ?_,fun i hi n hn => ?_⟩
 ·obtain ⟨i,_,rfl⟩:=u3s.1 ho;exact WN _
 ·obtain ⟨it,_,_,_,h⟩:=(x8r hi).1 hn;exact h
theorem x2z (p:Pg) : ∀ k,OkO p (itO p k)
 | 0=>by
   refine ⟨by unfold itO;rw [u5m],fun o ho => ?_,fun i hi n hn => ?_⟩
   ·rw [u6b ho];exact .nil
   ·unfold itO at hn;rw [u3m,u4r] at hn;split at hn<;>cases hn
 | k+1=>x5o p _
def tot (O:List (List Str)):Nat:=(O.map length).sum
theorem w9c {a b:List Str} {O O':List (List Str)} (h:leO (a::O) (b::O')):(∀ n∈a,n∈b)∧leO O O':=⟨fun n hn=>h 0 n hn,fun i n hn=>h (i+1) n hn⟩
theorem z9r {a b:List Str} (ha:a.Pairwise ltT) (hb:b.Pairwise ltT) (hs : ∀ n∈a,n∈b) (hl:b.length<=a.length):a=b:=by
 refine HG ltT.irr ltT.trans ha hb fun s=>⟨hs s,fun h => ?_⟩;refine u6r fun hn => ?_;have:=BF (l:=s::a) (m:=b) (u5l.2 ⟨hn,DZ ha⟩) fun n h'=>by
  rcases u3c.1 h' with rfl|h'
  ·exact h
  ·exact hs n h'
 rw [u4t] at this;omega
theorem z3a : ∀ {O O':List (List Str)},O.length=O'.length->(∀ o∈O,o.Pairwise ltT)->(∀ o∈O',o.Pairwise ltT)->leO O O'->tot O<=tot O'∧(tot O'<=tot O->O=O')
 | [],[],_,_,_,_=>⟨u4j _,fun _=>rfl⟩
 | [],_::_,h,_,_,_=>by cases h
 | _::_,[],h,_,_,_=>by cases h
 | a::O,b::O',hl,h1,h2,h=>by
   obtain ⟨h3,h4⟩:=w9c h;obtain ⟨h5,h6⟩:=z3a (O:=O) (O':=O') (by simpa using hl) (fun o ho=>h1 o (u3n _ ho)) (fun o ho=>h2 o (u3n _ ho)) h4;have ha:=h1 a u3g;have hb:=h2 b u3g;have h7:=BF (DZ ha) h3;have e : ∀ (x:List Str) (l:List (List Str)),tot (x::l)=x.length+tot l:=fun x l=>by unfold tot;rw [u4m,u9p]
   rw [e,e];exact ⟨by omega,fun h8=>by rw [z9r ha hb h3 (by omega),h6 (by omega)]⟩
theorem x9h : ∀ {O:List (List Str)},(∀ o∈O,o.length<=25)->tot O<=25*O.length
 | [],_=>u4j _
 | a::O,h=>by
   have h1:=x9h (O:=O) fun o ho=>h o (u3n _ ho);have h2:=h a u3g;have e:tot (a::O)=a.length+tot O:=by unfold tot;rw [u4m,u9p]
   rw [e,u4t];omega
theorem OkO.tot {p:Pg} {O:List (List Str)} (hc:QM p=true) (h:OkO p O):Go.Ab.tot O<=400:=by
 have h1:=x9h (O:=O) fun o ho=>by
  obtain ⟨i,hi,rfl⟩:=u5w.1 ho;have:=h.len25 hc i
  rwa [u3m,u3h hi] at this
 have h2:=(ZV hc).2.1;rw [h.len] at h1;omega
theorem z8y {p:Pg} {k:Nat} (h:itO p (k+1)≠itO p k):Go.Ab.tot (itO p k)<Go.Ab.tot (itO p (k+1)):=by
 obtain ⟨h1,h2⟩:=z3a (O:=itO p k) (O':=itO p (k+1)) (by rw [(x2z p k).len,(x2z p (k+1)).len]) (x2z p k).rise (x2z p (k+1)).rise (v2z p k);rcases u3r (Go.Ab.tot (itO p k)) (Go.Ab.tot (itO p (k+1))) with h3|h3
 ·exact h3
 ·exact absurd (h2 h3).symm h
section
variable (p:Pg) (i:Nat) (f:Pr) (D U:List (List Str)) (o:List Str) (x:Str)
def idN (a:Int):Int:=XY p i (cntL f.body+2:Nat) a
def hitN (a:Int):Bool:=bif decide (a=(cntL f.body+2:Nat)-1) then inS o x else bif decide (0<a) then inS (DE U (idN p i f a)) x else false
def BY (a:Int):Bool:=bif decide (a=(cntL f.body+2:Nat)-1) then false else bif decide (0<a) then !inS (DE D (idN p i f a)) x else true
def netR (p:Pg) (i:Nat) (f:Pr):List (List Int):=q4v (cntL f.body+2) (FV (QQ p i f) f)
def v9d:List (Int×Int):=(FV (QQ p i f) f).filter fun t=>BY p i f D x t.1
def z5c:Bool:=(PF 0 (WD (XJ (cntL f.body+2) (v9d p i f D x)).1 [0])).any (hitN p i f U o x)
end
section
variable {p:Pg} {i:Nat} {f:Pr} {D U:List (List Str)} {o:List Str} {x:Str}
def nR (p:Pg) (i:Nat) (f:Pr) (D:List (List Str)) (x:Str) (a b:Int):Prop:=BY p i f D x a=true∧(a,b)∈FV (QQ p i f) f
theorem MN (h:QM p=true) (hj:p.procs[i]? = some f):z5c p i f D U o x=true ↔ ∃ a,Rch (nR p i f D x) 0 a∧hitN p i f U o x a=true:=by
 unfold z5c;rw [u5n];refine exists_congr fun a=>and_congr_left fun _=>?_;rw [x1a (by omega)];have e : ∀ a b,((a,b)∈v9d p i f D x∧WP (cntL f.body+2) b=true)↔nR p i f D x a b:=fun a b=>by
  unfold v9d nR;rw [u4i];constructor
  ·exact fun h1=>⟨h1.1.2,h1.1.1⟩
  ·intro h1;have h2:=(NS h hj _ h1.2).2;exact ⟨⟨h1.2,h1.1⟩,by unfold WP;simp;omega⟩
 exact ⟨fun h1=>h1.mono fun a b h2=>(e a b).1 h2,fun h1=>h1.mono fun a b h2=>(e a b).2 h2⟩
theorem z5a (h:QM p=true) (hj:p.procs[i]? = some f) {S:Int->Prop} (h0:S 0) (h1 : ∀ a,S a->hitN p i f U o x a=false) (h2 : ∀ a b,S a->nR p i f D x a b->S b):z5c p i f D U o x=false:=by
 cases hq:z5c p i f D U o x with
 | false=>rfl
 | true =>
   obtain ⟨a,h3,h4⟩:=(MN h hj).1 hq;rw [h1 a (Rch.closed h2 h0 h3)] at h4;cases h4
structure NedI (p:Pg) (i:Nat) (f:Pr) (D U:List (List Str)) (o:List Str) (x:Str) (n:Nat) (seen:List Bool) (todo:List Int):Prop where
 len:seen.length=n
 rng : ∀ a∈todo,0<=a∧a<(n:Int)
 way : ∀ a:Int,(a=0∨seen.getD a.toNat false=true∧0<=a)->Rch (nR p i f D x) 0 a
 td : ∀ a∈todo,a=0∨seen.getD a.toNat false=true∧0<=a
 done : ∀ a:Int,(a=0∨seen.getD a.toNat false=true∧0<=a)->a∉todo->hitN p i f U o x a=false ∧ ∀ b,nR p i f D x a b->seen.getD b.toNat false=true
structure NedJ (p:Pg) (i:Nat) (f:Pr) (D U:List (List Str)) (o:List Str) (x:Str) (n:Nat) (a:Int) (k:Nat) (seen:List Bool) (todo:List Int):Prop where
 len:seen.length=n
 rng : ∀ a∈todo,0<=a∧a<(n:Int)
 way : ∀ a:Int,(a=0∨seen.getD a.toNat false=true∧0<=a)->Rch (nR p i f D x) 0 a
 td : ∀ a∈todo,a=0∨seen.getD a.toNat false=true∧0<=a
 me:Rch (nR p i f D x) 0 a
 done : ∀ b:Int,(b=0∨seen.getD b.toNat false=true∧0<=b)->b∉todo->b≠a->hitN p i f U o x b=false ∧ ∀ c,nR p i f D x b c->seen.getD c.toNat false=true
 row : ∀ c∈((netR p i f).getD a.toNat []).take k,seen.getD c.toNat false=true
theorem v5z {l:List Bool} {k j:Nat} (h:(l.set k true).getD j false=true):j=k∨l.getD j false=true:=by
 rcases Nat.decEq j k with hne|rfl
 ·right
  rwa [u3m,u7g (u8z hne),<- u3m] at h
 ·exact .inl rfl
theorem z5g {l:List Bool} {k j:Nat} (h:l.getD j false=true):(l.set k true).getD j false=true:=by
 rcases Nat.decEq j k with hne|rfl
 ·rwa [u3m,u7g (u8z hne),<- u3m]
 ·have hl:j<l.length:=by
   rcases u3r j l.length with h1|h1
   ·exact h1
   ·rw [u3m,u5d h1] at h;cases h
  rw [u3m,u7d hl];rfl
theorem v2d {l:List Bool} {k:Nat} (h:k<l.length):(l.set k true).getD k false=true:=by
 rw [u3m,u7d h];rfl
variable {n:Nat} {seen:List Bool} {todo:List Int} {a:Int}
theorem NedI.start (n:Nat) (hn:0<n):NedI p i f D U o x n (List.replicate n false) [0]:=by
 have hno : ∀ k:Nat,(List.replicate n false).getD k false=true->False:=fun k h=>by
  rw [u3m,u4r] at h;split at h<;>cases h
 refine ⟨u5m,fun a ha=>by rw [u3b.1 ha];omega,fun a ha => ?_,fun a ha => .inl (u3b.1 ha),fun a ha hn => ?_⟩
 ·rcases ha with rfl|⟨h,_⟩
  ·exact .refl
  ·exact (hno _ h).elim
 ·rcases ha with rfl|⟨h,_⟩
  ·exact absurd (u3b.2 rfl) hn
  ·exact (hno _ h).elim
theorem NedI.stop (h:QM p=true) (hj:p.procs[i]? = some f) (hI:NedI p i f D U o x n seen []):z5c p i f D U o x=false:=by
 refine z5a h hj (S:=fun a=>a=0∨seen.getD a.toNat false=true∧0<=a) (.inl rfl) (fun a ha=>(hI.done a ha (by simp)).1) fun a b ha hb => ?_;have h1:=(hI.done a ha (by simp)).2 b hb;have h2:=(NS h hj _ hb.2).2;exact .inr ⟨h1,h2.1⟩
theorem NedI.skip (hI:NedI p i f D U o x n seen (todo++[a])) (h1:hitN p i f U o x a=false) (h2:BY p i f D x a=false):NedI p i f D U o x n seen todo:=by
 refine ⟨hI.len,fun b hb=>hI.rng b (u6z _ hb),hI.way,fun b hb=>hI.td b (u6z _ hb),fun b hb hn => ?_⟩;by_cases he:b=a
 ·subst he;exact ⟨h1,fun c hc=>by rw [hc.1] at h2;cases h2⟩
 ·exact hI.done b hb fun hm=>(u3p.1 hm).elim hn fun hm=>he (u3b.1 hm)
theorem NedI.open (hI:NedI p i f D U o x n seen (todo++[a])):NedJ p i f D U o x n a 0 seen todo :=
 ⟨hI.len,fun b hb=>hI.rng b (u6z _ hb),hI.way,fun b hb=>hI.td b (u6z _ hb),hI.way a (hI.td a (u7u _ (u3b.2 rfl))),
   fun b hb hn he=>hI.done b hb fun hm=>(u3p.1 hm).elim hn fun hm=>he (u3b.1 hm),fun c hc=>by rw [u7b] at hc;cases hc⟩
theorem NedJ.shut (h:QM p=true) (hj:p.procs[i]? = some f) {k:Nat} (hJ:NedJ p i f D U o x n a k seen todo) (hk:((netR p i f).getD a.toNat []).length<=k) (h1:hitN p i f U o x a=false):NedI p i f D U o x n seen todo:=by
 refine ⟨hJ.len,hJ.rng,hJ.way,hJ.td,fun b hb hm => ?_⟩;by_cases he:b=a
 ·subst he;refine ⟨h1,fun c hc=>hJ.row c ?_⟩;rw [u3o hk];exact (x2l fun t ht=>(NS h hj t ht).1).2 ⟨(b,c),hc.2,by have:=(NS h hj _ hc.2).1;simp only at this ⊢;omega,rfl⟩
 ·exact hJ.done b hb hm he
theorem NedJ.old {k:Nat} (hJ:NedJ p i f D U o x n a k seen todo) (hk:k<((netR p i f).getD a.toNat []).length) (hs:seen.getD (((netR p i f).getD a.toNat [])[k]).toNat false=true):NedJ p i f D U o x n a (k+1) seen todo:=by
 refine ⟨hJ.len,hJ.rng,hJ.way,hJ.td,hJ.me,hJ.done,fun c hc => ?_⟩;rcases (QA hk).1 hc with h1|rfl
 ·exact hJ.row c h1
 ·exact hs
theorem NedJ.new {k:Nat} (hJ:NedJ p i f D U o x n a k seen todo) (hk:k<((netR p i f).getD a.toNat []).length) {c:Int} (hc:c=((netR p i f).getD a.toNat [])[k]) (hr:0<=c∧c<(n:Int)) (hR:nR p i f D x a c):NedJ p i f D U o x n a (k+1) (seen.set c.toNat true) (todo++[c]):=by
 have hl:c.toNat<seen.length:=by rw [hJ.len];omega
 have hold : ∀ b:Int,(b=0∨(seen.set c.toNat true).getD b.toNat false=true∧0<=b)->b=c∨(b=0∨seen.getD b.toNat false=true∧0<=b):=fun b hb=>by
  rcases hb with h1|⟨h1,h2⟩
  ·exact .inr (.inl h1)
  ·rcases v5z h1 with h3|h3
   ·exact .inl (by omega)
   ·exact .inr (.inr ⟨h3,h2⟩)
 refine ⟨by rw [u6i];exact hJ.len,fun b hb => ?_,fun b hb => ?_,fun b hb => ?_,hJ.me,fun b hb hm he => ?_,fun b hb => ?_⟩
 ·rcases u3p.1 hb with h1|h1
  ·exact hJ.rng b h1
  ·rw [u3b.1 h1];exact hr
 ·rcases hold b hb with rfl|h1
  ·exact .tail hJ.me hR
  ·exact hJ.way b h1
 ·rcases u3p.1 hb with h1|h1
  ·rcases hJ.td b h1 with h2|h2
   ·exact .inl h2
   ·exact .inr ⟨z5g h2.1,h2.2⟩
  ·rw [u3b.1 h1];exact .inr ⟨v2d hl,hr.1⟩
 ·rcases hold b hb with rfl|h1
  ·exact absurd (u7u _ (u3b.2 rfl)) hm
  ·obtain ⟨h2,h3⟩:=hJ.done b h1 (fun h=>hm (u6z _ h)) he;exact ⟨h2,fun d hd=>z5g (h3 d hd)⟩
 ·rcases (QA hk).1 hb with h1|h1
  ·exact z5g (hJ.row b h1)
  ·rw [h1,<- hc];exact v2d hl
end
def z8z (p:Pg) (i:Nat) (f:Pr) (D U:List (List Str)) (o:List Str):List Str:=(p.globals++[XE]).filter (z5c p i f D U o)
theorem fzL {N:Nat} {a b c d e:AV} {L:List Str} {n:Nat} (hn:n=(L.map AV.str).length) :
  Le N ⟨[(0,.p a),(1,.p b),(5,.p .nils),(6,.p c),(27,.hd 0 0 n),(28,.p d),(29,.p e)],[(0,.own 9 1 (L.map .str))]⟩ ⟨[(0,.p a),(1,.p b),(5,.hd 0 0 0),(6,.p c),(27,.p (eStrs L)),(28,.p d),(29,.p e)],[(0,.own 9 1 [])]⟩:=by
 subst hn;obtain ⟨s',rfl,hle⟩:=Le.row (N:=N) (s:=⟨[(0,.p a),(1,.p b),(5,.p .nils),(6,.p c),(27,.hd 0 0 (L.map AV.str).length),(28,.p d),(29,.p e)],[(0,.own 9 1 (L.map .str))]⟩) (k:=0) (e:=9) (sz:=1) (es:=L.map .str) (zs:=[27]) rfl
  (K:=fun s=>s=⟨[(0,.p a),(1,.p b),(5,.p .nils),(6,.p c),(27,.p (eStrs L)),(28,.p d),(29,.p e)],[]⟩) ⟨rfl,rfl⟩
 exact hle.trans (Le.mk [(0,.own 9 1 [])] (by simp [Chunk.new0];rfl) (by simp) (by simp) (.cons (.refl _) (.cons (.refl _) (.cons (.nil u3g) (.cons (.refl _) (.cons (.refl _) (.cons (.refl _) (.cons (.refl _) .nil))))))) (.new u3g .nil))
theorem x8q (b:Book) (p:Pg) (hp:b.s=sheetOf p) (h:QM p=true) (i:Nat) (f:Pr) (hj:p.procs[i]? = some f) (hW:b.ways[i]? = some (QQ p i f)) (o:List Str) (hN : ∀ x,SpecP prog 215 [.ip b.cells,.int .i64 i,q8z (netR p i f),.str x] (fun r=>r = .bool (z5c p i f b.defs b.uses o x))):SpecH prog 134 [.p (.ip b.cells),.p (.int .i64 i)] [] (fun r H=>OneRow (x0k (z8z p i f b.defs b.uses o)) False r H):=by
 refine sH x0f func134 rfl call134 ?_;conv=>whnf
 have hbp:b.s.p=p:=by rw [hp];exact (QJ p).1
 have hg:=(ZV h).1;have hdl:=x7l h hj;have hNt:=z6a (QQ p i f) f (cntL f.body+2) (v8t h hj) (NS h hj) (by omega);have hNt2:SpecP prog 213 [.ip (QQ p i f).cells] (fun r=>r=q8z (netR p i f)):=hNt;have hCl:SpecH prog 214 ([eStrs p.globals].map .p) [] (OneRow (x0k p.globals) (p.globals=[])):=GD p.globals (by omega);have hg1:(b.ways.map fun w=>AV.ip w.cells)[i]? = some (.ip (QQ p i f).cells):=by rw [u4q,hW];rfl
 generalize QQ p i f=w at *
 generalize netR p i f=net at *
 repeat' ((first|(refine IdxK.at (k:=i) rfl hg1 rfl ?_)|refine cP hNt2 ?_);conv=>whnf)
 obtain ⟨L,hL⟩ : ∃ L,L=p.globals++[XE]:=⟨_,rfl⟩;have hLl:L.length<=17:=by rw [hL,u3f];simp;omega
 have hfin:z8z p i f b.defs b.uses o=L.filter (z5c p i f b.defs b.uses o):=by unfold z8z;rw [hL]
 rw [hfin];generalize z5c p i f b.defs b.uses o=ned at *
 refine WQ 0 rfl hCl (.cons (.p (Sub.of_eq (by rw [hbp]))) .nil) (fun hnil => ?_) (fun q e sz es hR => ?_);rotate_left;obtain ⟨rfl,rfl,rfl⟩:=hR
 rotate_right
 all_goals
  conv=>whnf
  repeat' ((first|(refine iM fun _=>?_)|refine u3d rfl ?_|refine aD ?_|refine bP ?_|refine QH (es:=[]) rfl (by simp) ?_|refine QH (by simp) (by simp;omega) ?_);conv=>whnf)
 all_goals
  refine LoopK.inv QX (fun x:Nat×List Str=>⟨[(0,.p (.ip b.cells)),(1,.p (.int .i64 i)),(5,.hd 0 0 x.2.length),(6,.p (q8z net)),(27,.p (eStrs L)),(28,.p (.int .i64 (L.map AV.str).length)),(29,.p (.int .i64 x.1))],[(0,.own 9 1 (x.2.map .str))]⟩) (fun x=>x.1<=L.length∧x.2=(L.take x.1).filter ned∧x.2.length<=x.1) (fun x=>L.length-x.1) (0,[])
   (by first
     | exact Le.trans (Le.of_eq (by rw [hL,hnil];rfl)) (fzL (L:=L) rfl)
     | exact Le.trans (Le.of_eq (by rw [hL];simp only [u3t,u3f];rfl)) (fzL (L:=L) rfl)
     | trace_state) ⟨u3l _,by simp,by simp⟩ ?_
  rintro ⟨j,acc⟩ ⟨h2,h3,h4⟩;simp only at h2 h3 h4 ⊢;have hlm:(L.map AV.str).length=L.length:=u3k _;rcases u3r j L.length with hj|hj
  ·have hst:=u3a hj;have hNj:=hN L[j];have e5:(L.map AV.str)[j]? = some (.str L[j]):=by simp [hj]
   cases hnd:ned L[j];all_goals
    rw [hnd] at hNj;conv=>whnf
    repeat' (first|((first|refine u3d rfl ?_|refine aD ?_|refine bP ?_|(refine iA fun _=>?_)|refine wI ?_|refine cP hNj ?_|refine QH (by simp) (by rw [u3k];omega) ?_|refine Br.tt ?_|refine Br.ff ?_);conv=>whnf)|(apply bD<;>intro _<;>first|omega|conv=>whnf))
   all_goals first
    | exact ⟨(j+1,acc++[L[j]]),⟨hj,by simp only;rw [hst,u4a,u5u hnd,h3];rfl,by simp;omega⟩,by simp only;omega,Le.of_eq (by simp only [u3f,u3t];rfl)⟩
    | exact ⟨(j+1,acc),⟨hj,by simp only;rw [hst,u4a,u5v (by rw [hnd];decide),h3];simp,by simp only;omega⟩,by simp only;omega,Le.of_eq rfl⟩
  ·rw [u3o hj] at h3;subst h3;conv=>whnf
   repeat' (apply bD<;>intro _<;>first|omega|conv=>whnf)
   all_goals exact u6h _ (u4v _) (OneRow.str rfl)
def bkI (p:Pg) (I:List (List Str)):Book:=⟨sheetOf p,[],[],[],I,[]⟩
def usB (p:Pg) (I:List (List Str)):List (List Str):=(sheetOf p).l.map fun it=>XZ (KI (bkI p I) it.s)
def niA (p:Pg) (D U O:List (List Str)) (i:Nat):List Str:=XZ (z8z p i (prA p i) D U (O.getD i []))
def niB (p:Pg) (D U O:List (List Str)):List (List Str):=(List.range p.procs.length).map (niA p D U O)
def rdI (p:Pg) (D O I:List (List Str)):List (List Str):=niB p D (usB p I) O
def itI (p:Pg) (D O:List (List Str)):Nat->List (List Str)
 | 0=>List.replicate p.procs.length []
 | k+1=>rdI p D O (itI p D O k)
structure OkI (p:Pg) (I:List (List Str)):Prop where
 len:I.length=p.procs.length
 rise : ∀ o∈I,o.Pairwise ltT
 sub : ∀ i,∀ n∈I.getD i [],comB p n=true
theorem OkI.len25 {p:Pg} {I:List (List Str)} (hc:QM p=true) (h:OkI p I) (i:Nat):(I.getD i []).length<=25:=by
 have h2:=BF (m:=XE::p.globals) (DZ (YU h.rise i)) fun n hn=>by
  rcases DA.1 (h.sub i n hn) with rfl|h3
  ·exact u3g
  ·exact u3n _ h3
 have h4:=(ZV hc).1;rw [u4t] at h2;omega
theorem OkI.use {p:Pg} {I:List (List Str)} (hc:QM p=true) (h:OkI p I) {b:Book} (hs:b.s=sheetOf p) (hi:b.ins=I) {t:S} (ht:t∈VK p) (h4:t.kind=4):UseOk b t:=by
 obtain ⟨k,hk,h1,_⟩:=q3j hc ht h4;have h6:=(FL hc ht h4).2;have e:b.s.p=p:=by rw [hs];exact (QJ p).1
 have hI:inAt b t=I.getD (caI p t).toNat []:=by unfold inAt;rw [e,hi]
 refine ⟨by rw [e];omega,by rw [e,hi,h.len];omega,by omega,?_⟩;rw [hI];have:=h.len25 hc (caI p t).toNat;omega
theorem w7s {p:Pg} {I:List (List Str)} {b:Book} (hs:b.s=sheetOf p) (hi:b.ins=I) (t:S):KI b t=KI (bkI p I) t:=by
 unfold KI inAt bkI;rw [hs,hi]
theorem w7c {p:Pg} {I I':List (List Str)} (h:leO I I') {t:S} {n:Str} (hn:n∈KI (bkI p I) t):n∈KI (bkI p I') t:=by
 unfold KI at hn ⊢;split at hn
 ·rw [if_pos (by assumption)];rcases u3p.1 hn with hn|hn
  ·exact u6z _ hn
  ·exact u7u _ (h _ _ hn)
 ·rw [if_neg (by assumption)];exact hn
theorem v1d {p:Pg} {I I':List (List Str)} (h:leO I I'):leO (usB p I) (usB p I'):=fun i n hn=>by
 obtain ⟨it,h1,h2⟩:=HY.1 hn;exact HY.2 ⟨it,h1,XF.2 (w7c h (XF.1 h2))⟩
theorem w4r {p:Pg} {i:Nat} {f:Pr} {U U':List (List Str)} {o:List Str} {x:Str} (h:leO U U') {a:Int} (ha:hitN p i f U o x a=true):hitN p i f U' o x a=true:=by
 unfold hitN at ha ⊢;cases h1:decide (a=(cntL f.body+2:Nat)-1) with
 | true=>rw [h1] at ha;exact ha
 | false =>
   rw [h1] at ha;cases h2:decide (0<a) with
   | true =>
     rw [h2] at ha;exact ZU.2 (h _ _ (ZU.1 ha))
   | false=>rw [h2] at ha;cases ha
theorem x8d {p:Pg} {D U O:List (List Str)} {i:Nat} (hi:i<p.procs.length) {n:Str}:n∈(niB p D U O).getD i []↔comB p n=true∧z5c p i (prA p i) D U (O.getD i []) n=true:=by
 unfold niB;rw [HY];have e:n∈niA p D U O i↔comB p n=true∧z5c p i (prA p i) D U (O.getD i []) n=true:=by
  unfold niA z8z;rw [XF,u4i,DA,u3p,u3b,or_comm]
 rw [<- e];constructor
 ·rintro ⟨x,h1,h2⟩;rw [u8d hi] at h1;cases h1;exact h2
 ·exact fun h=>⟨i,u8d hi,h⟩
theorem w5b {p:Pg} {D U O:List (List Str)} {i:Nat} (hi : ¬i<p.procs.length) {n:Str} (h:n∈(niB p D U O).getD i []):False:=by
 obtain ⟨x,h1,_⟩:=HY.1 h;rw [u5d (by simpa using hi)] at h1;cases h1
theorem z9v {p:Pg} (hc:QM p=true) {D O I I':List (List Str)} (h:leO I I'):leO (rdI p D O I) (rdI p D O I'):=fun i n hn=>by
 by_cases hi:i<p.procs.length
 ·obtain ⟨h1,h2⟩:=(x8d hi).1 hn;obtain ⟨a,h3,h4⟩:=(MN hc (z8i hi)).1 h2;exact (x8d hi).2 ⟨h1,(MN hc (z8i hi)).2 ⟨a,h3,w4r (v1d h) h4⟩⟩
 ·exact (w5b hi hn).elim
theorem v2x {p:Pg} (hc:QM p=true) (D O:List (List Str)) : ∀ k,leO (itI p D O k) (itI p D O (k+1))
 | 0=>fun i n hn=>by
   unfold itI at hn;rw [u3m,u4r] at hn;split at hn<;>cases hn
 | k+1=>z9v hc (v2x hc D O k)
theorem x5i (p:Pg) (D U O:List (List Str)):OkI p (niB p D U O):=by
 refine ⟨by unfold niB;rw [u3k,u8h],fun o ho => ?_,fun i n hn => ?_⟩
 ·obtain ⟨i,_,rfl⟩:=u3s.1 ho;exact WN _
 ·by_cases hi:i<p.procs.length
  ·exact ((x8d hi).1 hn).1
  ·exact (w5b hi hn).elim
theorem x2x (p:Pg) (D O:List (List Str)) : ∀ k,OkI p (itI p D O k)
 | 0=>by
   refine ⟨by unfold itI;rw [u5m],fun o ho => ?_,fun i n hn => ?_⟩
   ·rw [u6b ho];exact .nil
   ·unfold itI at hn;rw [u3m,u4r] at hn;split at hn<;>cases hn
 | k+1=>x5i p _ _ _
theorem OkI.tot {p:Pg} {I:List (List Str)} (hc:QM p=true) (h:OkI p I):Go.Ab.tot I<=400:=by
 have h1:=x9h (O:=I) fun o ho=>by
  obtain ⟨i,hi,rfl⟩:=u5w.1 ho;have:=h.len25 hc i
  rwa [u3m,u3h hi] at this
 have h2:=(ZV hc).2.1;rw [h.len] at h1;omega
theorem z8u {p:Pg} (hc:QM p=true) {D O:List (List Str)} {k:Nat} (h:itI p D O (k+1)≠itI p D O k):Go.Ab.tot (itI p D O k)<Go.Ab.tot (itI p D O (k+1)):=by
 obtain ⟨h1,h2⟩:=z3a (O:=itI p D O k) (O':=itI p D O (k+1)) (by rw [(x2x p D O k).len,(x2x p D O (k+1)).len]) (x2x p D O k).rise (x2x p D O (k+1)).rise (v2x hc D O k);rcases u3r (Go.Ab.tot (itI p D O k)) (Go.Ab.tot (itI p D O (k+1))) with h3|h3
 ·exact h3
 ·exact absurd (h2 h3).symm h
def wysB (p:Pg):List Way:=(List.range p.procs.length).map fun i=>QQ p i (prA p i)
theorem z6o {p:Pg} {i:Nat} (h:i<p.procs.length):(wysB p)[i]? = some (QQ p i (prA p i)):=by
 unfold wysB;rw [u4q,u8d h];rfl
structure BookR (p:Pg) (b:Book):Prop where
 s:b.s=sheetOf p
 ways:b.ways=wysB p
 outs : ∃ k,b.outs=itO p k
 fixO:rdO p b.outs=b.outs
 defs:b.defs=dfB p b.outs
 ins : ∃ k,b.ins=itI p b.defs b.outs k
 fixI:rdI p b.defs b.outs b.ins=b.ins
 uses:b.uses=usB p b.ins
theorem x8y {p:Pg} {k:Nat} (h:rdO p (itO p k)=itO p k) : ∀ m,itO p (k+m)=itO p k
 | 0=>rfl
 | m+1=>by
   show rdO p (itO p (k+m))=_;rw [x8y h m,h]
theorem x8v {p:Pg} {D O:List (List Str)} {k:Nat} (h:rdI p D O (itI p D O k)=itI p D O k) : ∀ m,itI p D O (k+m)=itI p D O k
 | 0=>rfl
 | m+1=>by
   show rdI p D O (itI p D O (k+m))=_;rw [x8v h m,h]
theorem BookR.uniq {p:Pg} {b c:Book} (hb:BookR p b) (hc:BookR p c):b=c:=by
 obtain ⟨k,hk⟩:=hb.outs;obtain ⟨m,hm⟩:=hc.outs;have ho:b.outs=c.outs:=by
  have h1:=x8y (p:=p) (k:=k) (by rw [<- hk];exact hb.fixO) m;have h2:=x8y (p:=p) (k:=m) (by rw [<- hm];exact hc.fixO) k;rw [hk,hm,<- h1,<- h2,u9d]
 have hd:b.defs=c.defs:=by rw [hb.defs,hc.defs,ho]
 obtain ⟨k,hk⟩:=hb.ins;obtain ⟨m,hm⟩:=hc.ins;have hi:b.ins=c.ins:=by
  have hf1:=hb.fixI;have hf2:=hc.fixI;rw [<- ho,<- hd] at hm hf2;have h1:=x8v (p:=p) (D:=b.defs) (O:=b.outs) (k:=k) (by rw [<- hk];exact hf1) m;have h2:=x8v (p:=p) (D:=b.defs) (O:=b.outs) (k:=m) (by rw [<- hm];exact hf2) k;rw [hk,hm,<- h1,<- h2,u9d]
 have hu:b.uses=c.uses:=by rw [hb.uses,hc.uses,hi]
 have hs:b.s=c.s:=by rw [hb.s,hc.s]
 have hw:b.ways=c.ways:=by rw [hb.ways,hc.ways]
 cases b;cases c;simp only at ho hd hi hu hs hw;subst ho hd hi hu hs hw;rfl
noncomputable def QV (p:Pg):Book := @Classical.epsilon _ ⟨bkO p []⟩ (BookR p)
theorem BookR.eq {p:Pg} {b:Book} (h:BookR p b):b=QV p:=h.uniq (@Classical.epsilon_spec _ (BookR p) ⟨b,h⟩)
theorem v4v {p:Pg} (hc:QM p=true) : ∃ k,itO p (k+1)=itO p k:=by
 refine u6r fun hno => ?_;have h1 : ∀ k,k<=Go.Ab.tot (itO p k):=fun k=>by
  induction k with
  | zero=>exact u3l _
  | succ k ih =>
    have:=z8y (p:=p) (k:=k) fun he=>hno ⟨k,he⟩;omega
 have h2:=(x2z p 401).tot hc;have h3:=h1 401;omega
theorem v4w {p:Pg} (hc:QM p=true) (D O:List (List Str)) : ∃ k,itI p D O (k+1)=itI p D O k:=by
 refine u6r fun hno => ?_;have h1 : ∀ k,k<=Go.Ab.tot (itI p D O k):=fun k=>by
  induction k with
  | zero=>exact u3l _
  | succ k ih =>
    have:=z8u hc (p:=p) (D:=D) (O:=O) (k:=k) fun he=>hno ⟨k,he⟩;omega
 have h2:=(x2x p D O 401).tot hc;have h3:=h1 401;omega
theorem GW {p:Pg} (hc:QM p=true):BookR p (QV p):=by
 obtain ⟨k,hk⟩:=v4v hc;obtain ⟨m,hm⟩:=v4w hc (dfB p (itO p k)) (itO p k);have hb:BookR p ⟨sheetOf p,wysB p,dfB p (itO p k),usB p (itI p (dfB p (itO p k)) (itO p k) m),itI p (dfB p (itO p k)) (itO p k) m,itO p k⟩:=⟨rfl,rfl,⟨k,rfl⟩,hk,rfl,⟨m,rfl⟩,hm,rfl⟩;rw [<- hb.eq];exact hb
theorem UF {p:Pg} (hc:QM p=true):OkO p (QV p).outs∧OkI p (QV p).ins:=by
 have hb:=GW hc;obtain ⟨k,hk⟩:=hb.outs;obtain ⟨m,hm⟩:=hb.ins;exact ⟨hk▸x2z p k,hm▸x2x p _ _ m⟩
section
variable {p:Pg} {j:Nat} {f:Pr}
theorem v6u {O:List (List Str)} {t:S}:caO (bkO p O) t=O.getD (caI p t).toNat []:=rfl
theorem v3c {I:List (List Str)} {t:S}:inAt (bkI p I) t=I.getD (caI p t).toNat []:=rfl
theorem v6z (h:QM p=true) (hj:p.procs[j]? = some f) {t:S} (ht:t∈flL f.body) : ∃ it,(sheetOf p).l[(t.id-1).toNat]? = some it∧it.s=t:=by
 have h1:=w6a h hj ht;unfold v2b at h1;obtain ⟨it,h2,h3⟩:=u7p.1 h1;exact ⟨it,h2,h3⟩
theorem w0a (h:QM p=true) (hj:p.procs[j]? = some f) {t:S} (ht:t∈flL f.body) (O:List (List Str)):DE (dfB p O) t.id=XZ (YI (bkO p O) t):=by
 obtain ⟨it,h1,rfl⟩:=v6z h hj ht;unfold DE dfB;rw [u3m,u4q,h1];rfl
theorem v5d (h:QM p=true) (hj:p.procs[j]? = some f) {t:S} (ht:t∈flL f.body) (I:List (List Str)):DE (usB p I) t.id=XZ (KI (bkI p I) t):=by
 obtain ⟨it,h1,rfl⟩:=v6z h hj ht;unfold DE usB;rw [u3m,u4q,h1];rfl
theorem w3p (h:QM p=true) (hj:p.procs[j]? = some f) {x:Int} (hx:Rch (dR p j f) 0 x):x = -1∨Rch (wR p j f) 0 x:=by
 induction hx with
 | refl=>exact .inr .refl
 | tail h1 h2 ih =>
   rcases (w3d h hj).1 h2 with h3|⟨_,_,_,_,_,_,_,rfl⟩
   ·rcases ih with rfl|ih
    ·exfalso;exact (w8y h hj ((z0a h hj).2 (.inl h3))).2.2.1 rfl
    ·exact .inr (.tail ih h3)
   ·exact .inl rfl
theorem v9f (h:QM p=true) (hj:p.procs[j]? = some f) {D:List (List Str)} {x:Str} {a:Int} (ha:Rch (nR p j f D x) 0 a) : ∃ y,plP p j f y∧ixI p j f y=a∧Rch (dR p j f) 0 y:=by
 induction ha with
 | refl=>exact ⟨0,.inl rfl,by unfold ixI VL;rw [if_pos rfl],.refl⟩
 | tail h1 h2 ih =>
   obtain ⟨y,h3,h4,h5⟩:=ih;obtain ⟨s,hs,he⟩:=u3s.1 h2.2;obtain ⟨h6,h7⟩:=w3b h hj ⟨s,hs,rfl,rfl⟩;have e1:ixI p j f s.src=_:=u5j Prod.fst he;have e2:ixI p j f s.dst=_:=u5j Prod.snd he;have h8:=KZ h6 h3 (e1.trans h4.symm);exact ⟨s.dst,h7,e2,.tail h5 ⟨s,hs,h8,rfl⟩⟩
theorem w9k {y:Int} (hy:plP p j f y):idN p j f (ixI p j f y)=y:=z8a hy
theorem v7u {U:List (List Str)} {o:List Str} {x:Str} (hj:p.procs[j]? = some f) (h:QM p=true) {y:Int} (hy:plP p j f y) (hh:hitN p j f U o x (ixI p j f y)=true):(y = -1∧x∈o) ∨ ∃ t∈flL f.body,t.id=y∧x∈DE U y:=by
 have hr:=JD hy;unfold hitN at hh;by_cases hE:ixI p j f y=(cntL f.body+2:Nat)-1
 ·rw [u5z hE] at hh;exact .inl ⟨KZ hy (.inr (.inl rfl)) (hE.trans ix_exit.symm),ZU.1 hh⟩
 ·rw [u5h hE] at hh;by_cases h0:0<ixI p j f y
  ·rw [u5z h0] at hh;have h1:=ZU.1 hh;rw [w9k hy] at h1;rcases hy with rfl|rfl|⟨h2,h3⟩
   ·unfold ixI VL at h0;rw [if_pos rfl] at h0;omega
   ·exact absurd ix_exit hE
   ·obtain ⟨t,ht,_,h4⟩:=BH h hj h2 h3;exact .inr ⟨t,ht,h4,h1⟩
  ·rw [u5h h0] at hh;cases hh
theorem v7v {U:List (List Str)} {o:List Str} {x:Str} (h:QM p=true) (hj:p.procs[j]? = some f) {t:S} (ht:t∈flL f.body) (hu:x∈DE U t.id):hitN p j f U o x (ixI p j f t.id)=true:=by
 have hb:=ZW (QK h).1 hj ht;have hy:plP p j f t.id := .inr (.inr hb);have hr:=JD hy;unfold hitN;have hE : ¬ixI p j f t.id=(cntL f.body+2:Nat)-1:=fun he=>by
  have:=KZ hy (.inr (.inl rfl)) (he.trans ix_exit.symm);omega
 have h0:0<ixI p j f t.id:=by
  rcases Int.lt_or_le 0 (ixI p j f t.id) with h1|h1
  ·exact h1
  ·have h2:ixI p j f t.id=ixI p j f 0:=by
    have:ixI p j f 0=0:=by unfold ixI VL;rw [if_pos rfl]
    omega
   have:=KZ hy (.inl rfl) h2;omega
 rw [u5h hE,u5z h0];show inS (DE U (idN p j f (ixI p j f t.id))) x=true;rw [w9k hy];exact ZU.2 hu
theorem v0d {D:List (List Str)} {x:Str} (h:QM p=true) (hj:p.procs[j]? = some f) {y:Int} (hy:plP p j f y) (hne:y ≠ -1) (hp:BY p j f D x (ixI p j f y)=false) : ∃ t∈flL f.body,t.id=y∧x∈DE D y:=by
 unfold BY at hp;by_cases hE:ixI p j f y=(cntL f.body+2:Nat)-1
 ·exact absurd (KZ hy (.inr (.inl rfl)) (hE.trans ix_exit.symm)) hne
 ·rw [u5h hE] at hp;by_cases h0:0<ixI p j f y
  ·rw [u5z h0] at hp;have h1:inS (DE D (idN p j f (ixI p j f y))) x=true:=by simpa using hp
   rw [w9k hy] at h1;rcases hy with rfl|rfl|⟨h2,h3⟩
   ·unfold ixI VL at h0;rw [if_pos rfl] at h0;omega
   ·exact absurd rfl hne
   ·obtain ⟨t,ht,_,h4⟩:=BH h hj h2 h3;exact ⟨t,ht,h4,ZU.1 h1⟩
  ·rw [u5h h0] at hp;cases hp
end
theorem z6y {L:List (List Str)} {i k:Nat} {l:List Str} (hi:i<L.length):(L.set i l).getD k []=if k=i then l else L.getD k []:=by
 rw [u3m,u7c,u3m];by_cases h:i=k
 ·subst h;rw [if_pos rfl,if_pos hi,if_pos rfl];rfl
 ·rw [if_neg h,if_neg (u8z h)]
structure GsI (F:List (List Str)->List (List Str)) (n:Nat) (L O:List (List Str)):Prop where
 len:O.length=n
 rise : ∀ o∈O,o.Pairwise ltT
 le:leO O L
 up:leO O (F O)
structure GsF (F:List (List Str)->List (List Str)) (n:Nat) (L:List (List Str)):Prop where
 len : ∀ O,(F O).length=n
 rise : ∀ O,∀ o∈F O,o.Pairwise ltT
 mono : ∀ A B,leO A B->leO (F A) (F B)
 fix:F L=L
section
variable {F:List (List Str)->List (List Str)} {n:Nat} {L O:List (List Str)}
theorem GsI.zero (hF:GsF F n L):GsI F n L (List.replicate n []):=by
 have e : ∀ (i:Nat) (x:Str),¬x∈(List.replicate n ([]:List Str)).getD i []:=fun i x h=>by
  rw [u3m,u4r] at h;split at h<;>cases h
 exact ⟨u5m,fun o ho=>by rw [u6b ho];exact .nil,fun i x h=>absurd h (e i x),fun i x h=>absurd h (e i x)⟩
theorem GsI.sub (hF:GsF F n L) (h:GsI F n L O) (i:Nat) : ∀ x∈O.getD i [],x∈(F O).getD i []:=fun x hx=>h.up i x hx
theorem GsI.same (hF:GsF F n L) (h:GsI F n L O) {i:Nat} (hl : ¬(O.getD i []).length<((F O).getD i []).length):(F O).getD i []=O.getD i [] :=
 (z9r (YU h.rise i) (YU (hF.rise O) i) (h.sub hF i) (by omega)).symm
theorem GsI.step (hF:GsF F n L) (h:GsI F n L O) {i:Nat} (hi:i<n):GsI F n L (O.set i ((F O).getD i [])):=by
 have hil:i<O.length:=by rw [h.len];exact hi
 have h1:leO O (O.set i ((F O).getD i [])):=fun k x hx=>by
  rw [z6y hil];split
  ·rename_i he;exact h.up i x (he▸hx)
  ·exact hx
 have h2:=hF.mono _ _ h1;refine ⟨by rw [u6i];exact h.len,fun o ho => ?_,fun k x hx => ?_,fun k x hx => ?_⟩
 ·rcases u8v ho with ho|rfl
  ·exact h.rise o ho
  ·exact YU (hF.rise O) i
 ·rw [z6y hil] at hx;split at hx
  ·rename_i he;subst he;have:=hF.mono _ _ h.le k x hx
   rwa [hF.fix] at this
  ·exact h.le k x hx
 ·rw [z6y hil] at hx;split at hx
  ·rename_i he;subst he;exact h2 k x hx
  ·exact h2 k x (h.up k x hx)
theorem w7k : ∀ {O:List (List Str)} {i:Nat} {l:List Str},i<O.length->tot (O.set i l)+(O.getD i []).length=tot O+l.length
 | [],i,l,h=>absurd h (u9t _)
 | a::O,0,l,_=>by
   have e : ∀ (x:List Str) (l:List (List Str)),tot (x::l)=x.length+tot l:=fun x l=>by unfold tot;rw [u4m,u9p]
   rw [List.set_cons_zero,e,e];show l.length+tot O+a.length=_;omega
 | a::O,i+1,l,h=>by
   have e : ∀ (x:List Str) (l:List (List Str)),tot (x::l)=x.length+tot l:=fun x l=>by unfold tot;rw [u4m,u9p]
   have ih:=w7k (O:=O) (i:=i) (l:=l) (by simpa using h);rw [List.set_cons_succ,e,e];have h1:(a::O).getD (i+1) []=O.getD i []:=rfl;rw [h1];omega
theorem GsI.more (h:GsI F n L O) {i:Nat} (hi:i<n) (hl:(O.getD i []).length<((F O).getD i []).length):tot O<tot (O.set i ((F O).getD i [])):=by
 have:=w7k (O:=O) (i:=i) (l:=(F O).getD i []) (by rw [h.len];exact hi);omega
theorem v4j {A B:List (List Str)} (hl:A.length=B.length) (h1 : ∀ o∈A,o.Pairwise ltT) (h2 : ∀ o∈B,o.Pairwise ltT) (h3:leO A B) (h4:leO B A):A=B:=by
 have h5:=z3a hl h1 h2 h3;have h6:=z3a hl.symm h2 h1 h4;exact h5.2 h6.1
theorem GsI.done (hF:GsF F n L) (h:GsI F n L O) (hf : ∀ i,i<n->(F O).getD i []=O.getD i []):F O=O:=by
 refine List.ext_getElem (by rw [hF.len,h.len]) fun i h1 h2 => ?_;have:=hf i (by rw [hF.len] at h1;exact h1);rw [u3m,u3m,u3h h1,u3h h2] at this;exact this
theorem GsI.least {it:Nat->List (List Str)} (hF:GsF F n L) (h:GsI F n L O) (hf:F O=O) (h0 : ∀ i x,¬x∈(it 0).getD i []) (hs : ∀ k,it (k+1)=F (it k)) {k:Nat} (hk:L=it k) (hLl:L.length=n) (hLr : ∀ o∈L,o.Pairwise ltT):O=L:=by
 have h1 : ∀ k,leO (it k) O:=fun k=>by
  induction k with
  | zero=>exact fun i x hx=>absurd hx (h0 i x)
  | succ k ih =>
    rw [hs,<- hf];exact hF.mono _ _ ih
 exact v4j (by rw [h.len,hLl]) h.rise hLr h.le (hk▸h1 k)
end
theorem v2h {n i:Nat} {x:Str} : ¬x∈(List.replicate n ([]:List Str)).getD i []:=fun h=>by
 rw [u3m,u4r] at h;split at h<;>cases h
section
variable {p:Pg}
theorem gsO (hc:QM p=true):GsF (rdO p) p.procs.length (QV p).outs :=
 ⟨fun O=>(x5o p _).len,fun O=>(x5o p _).rise,fun _ _ h=>z9u h,(GW hc).fixO⟩
theorem gsI (hc:QM p=true):GsF (rdI p (QV p).defs (QV p).outs) p.procs.length (QV p).ins :=
 ⟨fun O=>(x5i p _ _ _).len,fun O=>(x5i p _ _ _).rise,fun _ _ h=>z9v hc h,(GW hc).fixI⟩
theorem w9v (hc:QM p=true) {O:List (List Str)} (h:GsI (rdO p) p.procs.length (QV p).outs O) (hf:rdO p O=O):O=(QV p).outs:=by
 obtain ⟨k,hk⟩:=(GW hc).outs;exact h.least (it:=itO p) (gsO hc) hf (fun i x=>v2h) (fun k=>rfl) hk (UF hc).1.len (UF hc).1.rise
theorem w9w (hc:QM p=true) {I:List (List Str)} (h:GsI (rdI p (QV p).defs (QV p).outs) p.procs.length (QV p).ins I) (hf:rdI p (QV p).defs (QV p).outs I=I):I=(QV p).ins:=by
 obtain ⟨k,hk⟩:=(GW hc).ins;exact h.least (it:=itI p (QV p).defs (QV p).outs) (gsI hc) hf (fun i x=>v2h) (fun k=>rfl) hk (UF hc).2.len (UF hc).2.rise
theorem GsI.okO (hc:QM p=true) {O:List (List Str)} {F:List (List Str)->List (List Str)} (h:GsI F p.procs.length (QV p).outs O):OkO p O :=
 ⟨h.len,h.rise,fun i hi n hn=>(UF hc).1.sub i hi n (h.le i n hn)⟩
theorem GsI.okI (hc:QM p=true) {I:List (List Str)} {F:List (List Str)->List (List Str)} (h:GsI F p.procs.length (QV p).ins I):OkI p I :=
 ⟨h.len,h.rise,fun i n hn=>(UF hc).2.sub i n (h.le i n hn)⟩
end
section
variable {p:Pg} {j:Nat} {f:Pr}
theorem x1d (hm:UB p=true) (hj:p.procs[j]? = some f) {t:S}:t∈flL f.body ↔ ∃ x∈flatU f,x.s=t:=by
 rw [<- show (flatU f).map RI.s=flL f.body from PH 1 0 false f.body,u3s]
theorem q9i (h:QM p=true) (hj:p.procs[j]? = some f) {y:Int} (h0:0<y):JS (WJ p f.name) y=true↔Rch (wR p j f) 0 y:=by
 obtain ⟨k,hk,hw⟩:=x9o h (u4d hj);obtain ⟨rfl,_⟩:=z9q h hk hj rfl;rw [ZI,(z8g p f.name).2,q9o hw];exact ⟨fun h=>h.2,fun h=>⟨h0,h⟩⟩
theorem z1d (h:QM p=true) (hj:p.procs[j]? = some f):VT p f.name=GU (QQ p j f) f:=by
 obtain ⟨k,hk,hw⟩:=x9o h (u4d hj);obtain ⟨rfl,_⟩:=z9q h hk hj rfl;exact x4a hw hk
def q1b (p:Pg) (f:Pr) (O:List (List Str)) (L:List RI):List Str:=L.flatMap fun x=>bif JS (WJ p f.name) x.s.id then XZ (YI (bkO p O) x.s) else []
def w4h (p:Pg) (f:Pr) (O:List (List Str)):List Str:=(q1b p f O (flatU f)).filter (comB p)++((f.params.filter fun x=>x.ref&&inS (q1b p f O (flatU f)) x.name).map Param.name)
theorem x1l (h:QM p=true) (hj:p.procs[j]? = some f) {O:List (List Str)} {n:Str}:n∈q1b p f O (flatU f) ↔ ∃ t∈flL f.body,Rch (wR p j f) 0 t.id∧n∈YI (bkO p O) t:=by
 unfold q1b;rw [u4o];constructor
 ·rintro ⟨x,hx,hn⟩;have ht:x.s∈flL f.body:=BT hx;have hb:=ZW (QK h).1 hj ht;cases hq:JS (WJ p f.name) x.s.id with
  | false=>rw [hq] at hn;cases hn
  | true =>
    rw [hq,u4y] at hn;exact ⟨x.s,ht,(q9i h hj (by omega)).1 hq,XF.1 hn⟩
 ·rintro ⟨t,ht,h1,h2⟩;obtain ⟨x,hx,rfl⟩:=(x1d (QK h).1 hj).1 ht;have hb:=ZW (QK h).1 hj ht;refine ⟨x,hx,?_⟩;rw [(q9i h hj (by omega)).2 h1,u4y];exact XF.2 h2
theorem w4f (h:QM p=true) (hj:p.procs[j]? = some f) (O:List (List Str)):XZ (w4h p f O)=(rdO p O).getD j []:=by
 have hjl:j<p.procs.length:=(u3e.1 hj).1;have hp:=BO hj;refine HG ltT.irr ltT.trans (WN _) (YU (x5o p _).rise j) fun n => ?_;unfold rdO;rw [XF,x8r hjl,hp];unfold w4h;rw [u3p,u4i,x1l h hj,u3s];have hit : ∀ t,t∈flL f.body ↔ ∃ it∈itsOf p j f,it.s=t:=fun t=>by
  rw [<- u3s,show (itsOf p j f).map Item.s=flL f.body by
   show (itL (j:Nat) 0 (-1) 0 (QN p.procs j) f.body).map Item.s=_;rw [LA]]
 have lv : ∀ {t:S},t∈flL f.body->(lvB p j t.id=true↔Rch (wR p j f) 0 t.id):=fun {t} ht=>by
  unfold lvB;rw [hp];exact x8g h hj (.inr (.inr (ZW (QK h).1 hj ht)))
 constructor
 ·rintro (⟨⟨t,ht,h1,h2⟩,h3⟩|⟨x,hx,rfl⟩)
  ·obtain ⟨it,hi,rfl⟩:=(hit t).1 ht;exact ⟨it,hi,(lv ht).2 h1,by rw [w0a h hj ht];exact XF.2 h2,x0q.2 (.inl (DA.1 h3))⟩
  ·obtain ⟨h1,h2⟩:=u4i.1 hx;rw [u4u] at h2;obtain ⟨t,ht,h3,h4⟩:=(x1l h hj).1 (ZU.1 h2.2);obtain ⟨it,hi,rfl⟩:=(hit t).1 ht;refine ⟨it,hi,(lv ht).2 h3,by rw [w0a h hj ht];exact XF.2 h4,x0q.2 (.inr ?_)⟩;have e:x=⟨x.name,true⟩:=by cases x;simp only at h2 ⊢;rw [h2.1]
   rw [<- e];exact h1
 ·rintro ⟨it,hi,h1,h2,h3⟩;have ht:it.s∈flL f.body:=(hit _).2 ⟨it,hi,rfl⟩;rw [w0a h hj ht,XF] at h2;have h4 : ∃ t∈flL f.body,Rch (wR p j f) 0 t.id∧n∈YI (bkO p O) t:=⟨it.s,ht,(lv ht).1 h1,h2⟩;rcases x0q.1 h3 with h5|h5
  ·exact .inl ⟨h4,DA.2 h5⟩
  ·exact .inr ⟨⟨n,true⟩,u4i.2 ⟨h5,by rw [u7e];exact ZU.2 ((x1l h hj).2 h4)⟩,rfl⟩
def gvB (p:Pg) (f:Pr) (O:List (List Str)) (v:Str) (x:RI):Bool:=JS (WJ p f.name) x.s.id&&inS (XZ (YI (bkO p O) x.s)) v
def gvR (p:Pg) (f:Pr) (O:List (List Str)) (v:Str) (L:List RI):List Int:=(L.filter (gvB p f O v)).map fun x=>x.s.id
theorem w4m (h:QM p=true) (hj:p.procs[j]? = some f) {O:List (List Str)} {v:Str} {y:Int}:y∈gvR p f O v (flatU f) ↔ ∃ t∈flL f.body,t.id=y∧Rch (wR p j f) 0 t.id∧v∈DE (dfB p O) t.id:=by
 unfold gvR;rw [u3s];constructor
 ·rintro ⟨x,hx,rfl⟩;obtain ⟨h1,h2⟩:=u4i.1 hx;have ht:=BT h1;have hb:=ZW (QK h).1 hj ht;unfold gvB at h2;rw [u4u] at h2;exact ⟨x.s,ht,rfl,(q9i h hj (by omega)).1 h2.1,by rw [w0a h hj ht];exact ZU.1 h2.2⟩
 ·rintro ⟨t,ht,rfl,h1,h2⟩;obtain ⟨x,hx,rfl⟩:=(x1d (QK h).1 hj).1 ht;have hb:=ZW (QK h).1 hj ht;refine ⟨x,u4i.2 ⟨hx,?_⟩,rfl⟩;unfold gvB;rw [(q9i h hj (by omega)).2 h1,ZU.2 (by rw [<- w0a h hj ht];exact h2)];rfl
theorem v4r {D:List (List Str)} {x:Str} (h:QM p=true) (hj:p.procs[j]? = some f) {t:S} (ht:t∈flL f.body) (hu:x∈DE D t.id):BY p j f D x (ixI p j f t.id)=false:=by
 have hb:=ZW (QK h).1 hj ht;have hy:plP p j f t.id := .inr (.inr hb);have hr:=JD hy;unfold BY;have hE : ¬ixI p j f t.id=(cntL f.body+2:Nat)-1:=fun he=>by
  have:=KZ hy (.inr (.inl rfl)) (he.trans ix_exit.symm);omega
 have h0:0<ixI p j f t.id:=by
  rcases Int.lt_or_le 0 (ixI p j f t.id) with h1|h1
  ·exact h1
  ·have h2:ixI p j f t.id=ixI p j f 0:=by
    have:ixI p j f 0=0:=by unfold ixI VL;rw [if_pos rfl]
    omega
   have:=KZ hy (.inl rfl) h2;omega
 rw [u5h hE,u5z h0];show (!inS (DE D (idN p j f (ixI p j f t.id))) x)=false;rw [w9k hy,ZU.2 hu];rfl
theorem v6d (h:QM p=true) (hj:p.procs[j]? = some f) {a b:Int} (hd:dR p j f a b):a ≠ -1:=by
 rcases (w3d h hj).1 hd with h3|⟨l,hl,t,ht,h4,h5,rfl,_⟩
 ·exact (w8y h hj ((z0a h hj).2 (.inl h3))).2.2.1
 ·have:=ZW (QK h).1 hj ht;omega
theorem v3n (h:QM p=true) (hj:p.procs[j]? = some f) {O:List (List Str)} {v:Str} {y:Int}:Rch (frR (VT p f.name) 0 (gvR p f O v (flatU f))) 0 y↔plP p j f y∧Rch (nR p j f (dfB p O) v) 0 (ixI p j f y):=by
 have e0:ixI p j f 0=0:=by unfold ixI VL;rw [if_pos rfl]
 have hdn:=z1d h hj;have hd0 : ∀ {y},Rch (frR (VT p f.name) 0 (gvR p f O v (flatU f))) 0 y->Rch (dR p j f) 0 y:=fun {y} hy=>hy.mono fun a b hab=>by
  rw [hdn] at hab;exact hab.2
 constructor
 ·intro hy;induction hy with
  | refl=>exact ⟨.inl rfl,by rw [e0];exact .refl⟩
  | @tail a b h1 h2 ih =>
    obtain ⟨h3,h4⟩:=ih;have hab:dR p j f a b:=by
     have:=h2.2;rw [hdn] at this;exact this
    obtain ⟨h5,h6⟩:=w3b h hj hab;refine ⟨h6,.tail h4 ⟨?_,(v0p h hj h5 h6).2 hab⟩⟩;cases hq:BY p j f (dfB p O) v (ixI p j f a) with
    | true=>rfl
    | false =>
      exfalso;obtain ⟨t,ht,rfl,h8⟩:=v0d h hj h3 (v6d h hj hab) hq;have hb:=ZW (QK h).1 hj ht;have hl:Rch (wR p j f) 0 t.id:=by
       rcases w3p h hj (hd0 h1) with h9|h9
       ·omega
       ·exact h9
      have hg:=ZI.2 ((w4m h hj).2 ⟨t,ht,rfl,hl,h8⟩);rcases h2.1 with h9|h9
      ·omega
      ·rw [hg] at h9;cases h9
 ·rintro ⟨hy,hr⟩;have key : ∀ a,Rch (nR p j f (dfB p O) v) 0 a -> ∃ y,plP p j f y∧ixI p j f y=a∧Rch (frR (VT p f.name) 0 (gvR p f O v (flatU f))) 0 y:=fun a ha=>by
   induction ha with
   | refl=>exact ⟨0,.inl rfl,e0,.refl⟩
   | tail h1 h2 ih =>
     obtain ⟨y,h3,h4,h5⟩:=ih;obtain ⟨s,hs,he⟩:=u3s.1 h2.2;obtain ⟨h6,h7⟩:=w3b h hj ⟨s,hs,rfl,rfl⟩;have e1:ixI p j f s.src=_:=u5j Prod.fst he;have e2:ixI p j f s.dst=_:=u5j Prod.snd he;have h8:=KZ h6 h3 (e1.trans h4.symm);refine ⟨s.dst,h7,e2,.tail h5 ⟨.inr ?_,s,by rw [hdn];exact hs,h8,rfl⟩⟩;cases hq:JS (gvR p f O v (flatU f)) y with
     | false=>rfl
     | true =>
       exfalso;obtain ⟨t,ht,rfl,_,h9⟩:=(w4m h hj).1 (ZI.1 hq);have:=v4r h hj ht h9;rw [h4,h2.1] at this;cases this
  obtain ⟨z,h1,h2,h3⟩:=key _ hr;rw [KZ hy h1 h2.symm];exact h3
def ndB (p:Pg) (f:Pr) (I:List (List Str)) (o:List Str) (seen:List Int) (v:Str):Bool:=inS o v&&JS seen (-1)||(flatU f).any fun x=>JS seen x.s.id&&inS (XZ (KI (bkI p I) x.s)) v
theorem v7g (h:QM p=true) (hj:p.procs[j]? = some f) {O I:List (List Str)} {o:List Str} {v:Str} {seen:List Int} (hs : ∀ y,y∈seen↔Rch (frR (VT p f.name) 0 (gvR p f O v (flatU f))) 0 y):ndB p f I o seen v=z5c p j f (dfB p O) (usB p I) o v:=by
 rw [u6a,MN h hj];unfold ndB;rw [u8y,u4u,u5n];constructor
 ·rintro (⟨h1,h2⟩|⟨x,hx,h1⟩)
  ·obtain ⟨_,h3⟩:=(v3n h hj).1 ((hs _).1 (ZI.1 h2));refine ⟨_,h3,?_⟩;unfold hitN;rw [u5z ix_exit];exact h1
  ·rw [u4u] at h1;obtain ⟨_,h3⟩:=(v3n h hj).1 ((hs _).1 (ZI.1 h1.1));exact ⟨_,h3,v7v h hj (BT hx) (by rw [v5d h hj (BT hx)];exact ZU.1 h1.2)⟩
 ·rintro ⟨a,h1,h2⟩;obtain ⟨y,hy,rfl,_⟩:=v9f h hj h1;have h3:=ZI.2 ((hs y).2 ((v3n h hj).2 ⟨hy,h1⟩));rcases v7u hj h hy h2 with ⟨rfl,h4⟩|⟨t,ht,rfl,h4⟩
  ·exact .inl ⟨ZU.2 h4,h3⟩
  ·obtain ⟨x,hx,rfl⟩:=(x1d (QK h).1 hj).1 ht;refine .inr ⟨x,hx,?_⟩;rw [h3,ZU.2 (by rw [<- v5d h hj ht];exact h4)];rfl
theorem v7y (h:QM p=true) (hj:p.procs[j]? = some f) (O I:List (List Str)) {q:Str->Bool} (hq : ∀ v,comB p v=true->q v=z5c p j f (dfB p O) (usB p I) (O.getD j []) v):XZ ((XE::p.globals).filter q)=(rdI p (dfB p O) O I).getD j []:=by
 have hjl:j<p.procs.length:=(u3e.1 hj).1;have hp:=BO hj;refine HG ltT.irr ltT.trans (WN _) (YU (x5i p _ _ _).rise j) fun n => ?_;unfold rdI;rw [XF,x8d hjl,hp,u4i,u3c,<- DA];exact and_congr_right fun h1=>by rw [hq n h1]
end
end Go.Ab
