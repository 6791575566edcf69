/- ref3: a program whose main has, of what stands in its body, the simple statements alone. -/
import Derived.Test.YtmfnbgbblkhneaaGreatRchL11
import Derived.Test.YtmfnbgbblkhneaaGreatRchL14
import Derived.Test.YtmfnbgbblkhneaaGreatRchL15
import Derived.Test.YtmfnbgbblkhneaaGreatRchL17
import Derived.Test.YtmfnbgbblkhneaaGreatRchL18
import Derived.Test.YtmfnbgbblkhneaaGreatRchL20
import Derived.Test.YtmfnbgbblkhneaaGreatRchL21
import Derived.Test.YtmfnbgbblkhneaaGreatRchL23
import Derived.Test.YtmfnbgbblkhneaaGreatRchL24
set_option linter.unusedSimpArgs false
set_option linter.unusedVariables false
set_option maxRecDepth 100000
set_option maxHeartbeats 16000000
open List (map_take)
namespace Go.Ab
open Go.Proofs.Tryz
open Go.Proofs
variable {a:Int}{j:Nat}{p:Pg}
def lnS(s:S):S:=.mk s.id s.kind [] s.name s.proc s.x s.has s.args s.thn s.els
def lnL(l:List S):List S:=(l.filter fun s=>decide (s.kind<=3)).map lnS
def lnPr(f:Pr):Pr:=bif f.name==mainS then⟨f.name,f.params,f.vars,lnL f.body,[]⟩else f
def YP(p:Pg):Pg:=⟨p.globals,p.procs.map lnPr⟩
def XF(p:Pg):Pg:=q5u (YP p)
def DN(p:Pg)(j:Nat):List Pr:=(p.procs.take j).map lnPr++p.procs.drop j
theorem O9{l:List S}{k:Nat}(h:k<l.length):lnL (l.take (k+1))=lnL (l.take k)++if l[k].kind<=3 then [lnS l[k]]else []:=by
 unfold lnL;rw[x3u h,x5r,x3y];congr 1;by_cases h1:l[k].kind<=3<;>simp[h1]
theorem q3d(l:List S):(lnL l).length<=l.length:=by
 unfold lnL;rw[x2m];exact x5y _ _
theorem Ap(p:Pg)(h:j<=p.procs.length):(DN p j).length=p.procs.length:=by
 unfold DN;rw[x2s,x2m,x3m,x5f];omega
theorem Ad(p:Pg)(hj:j<p.procs.length):(DN p j)[j]?=some p.procs[j]:=by
 unfold DN;rw[x4u (by rw[x2m,x3m];omega),x2m,x3m,x4c];rw[show j+(j-min j p.procs.length)=j by omega,x2n hj]
theorem Ss(p:Pg)(hj:j<p.procs.length):DN p (j+1)=(DN p j).set j (lnPr p.procs[j]):=by
 unfold DN;have hl:((p.procs.take j).map lnPr).length=j:=by rw[x2m,x3m];omega
 rw[x6h _ _ (by omega),hl,x7l,x4v hj,x6b,x3u hj,x3y];simp
theorem ElS.put{es:List AV}{x x':AV}(hl:x'.cells.length=x.cells.length)(hc:∀(i:Nat)(c':AV),x'.cells[i]?=some c'->∃c,x.cells[i]?=some c/\Sub c c'):ElS (es.set j x) (es.set j x'):=by
 refine⟨by simp,fun m y hy=>?_⟩;rw[x7x]at hy⊢;split at hy
 ·rename_i h;split at hy
  ·cases hy;rename_i h2;exact⟨x,by rw[if_pos h,if_pos h2],hl,hc⟩
  ·cases hy
 ·rename_i h;exact⟨y,by rw[if_neg h];exact hy,rfl,fun i c' hc'=>⟨c',hc',Sub.refl _⟩⟩
theorem Zj(p:Pg)(h:CopyF p)(hN:CopyF (YP p))(hc:cntP (YP p).procs<=100000):SpecP prog 22 [.agg p.cells] (fun r=>r=.agg (XF p).cells):=by
 refine sB NV func22 rfl call22 ?_;conv=>whnf
 have hpm:(p.procs.map fun f=>AV.agg f.cells).length=p.procs.length:=x2m _;have hpl:=h.procs;have hNm:=MD (YP p) hN hc;repeat' (first|((first|(refine iM fun _=>?_)|refine dA ?_|refine x2t rfl ?_|refine aD ?_|refine aR ?_|refine bP ?_|(refine iA fun _=>?_)|refine IdxK.xs (by omega) ?_|refine QX (by omega) ?_|(refine ByteK.at (by omega) ?_)|refine wI ?_|(refine CallK.heap [] 20 (x3d (x3n _) x4x) x4z (GA p h) rfl rfl ?_;rintro l' H' ⟨rfl,rfl⟩));conv=>whnf)|(apply bD<;>intro _<;>first|omega|conv=>whnf)|(apply bE<;>intro _<;>first|omega|conv=>whnf)|(apply bN<;>intro _<;>conv=>whnf)|(apply bB<;>intro _<;>conv=>whnf))
 refine LoopK.inv QY (fun j:Nat=>⟨[(2,.ptr 1 0),(3,.ptr 0 0),(12,.p (.int .i64 p.procs.length)),(13,.p (.int .i64 j))],[(0,.obj 25 [.p (eStrs p.globals),.hd 26 0 p.procs.length]),(26,.own 45 5 ((DN p j).map fun f=>.agg f.cells)),(1,.obj 25 [.p .nils,.p .nils])]⟩) (fun j=>j<=p.procs.length) (fun j=>p.procs.length-j) 0
  (Le.of_eq (by rw[show DN p 0=p.procs from rfl];rfl)) (x3z _) ?_
 intro j h2;have hrl:=Ap p h2;rcases x3v j p.procs.length with hj|hj
 ·have hget:((DN p j).map fun f=>AV.agg f.cells)[j]?=some (.agg p.procs[j].cells):=by rw[x2e,Ad p hj];rfl
  have hset:((DN p j).map fun f=>AV.agg f.cells).set j (.agg (lnPr p.procs[j]).cells)=(DN p (j+1)).map fun f=>AV.agg f.cells:=by
   rw[Ss p hj,<-x4m]
  generalize((DN p j).map fun f=>AV.agg f.cells)=row at hget hset⊢;obtain⟨f,hf⟩ : ∃f,f=p.procs[j]:=⟨_,rfl⟩;rw[<-hf]at hget hset;cases hm:f.name==mainS with
  | false=>
    have hsame:row=(DN p (j+1)).map fun f=>AV.agg f.cells:=by
     rw[<-hset];have:lnPr f=f:=by unfold lnPr;rw[hm];rfl
     rw[this];refine(x8k fun i=>?_).symm;rw[x7x];split
     ·rename_i hij;subst hij;split
      ·exact hget.symm
      ·rename_i hlt;rw[x4a (by omega)]
     ·rfl
    conv=>whnf
    repeat' (first|((first|(refine iM fun _=>?_)|refine dA ?_|refine x2t rfl ?_|refine aD ?_|refine aR ?_|refine bP ?_|(refine iA fun _=>?_)|refine IdxK.xs (by omega) ?_|refine QX (by omega) ?_|(refine ByteK.at (by omega) ?_)|refine wI ?_|refine x4j j rfl hj ?_|refine x5z j 0 (.agg f.cells) (by show(0+j)*5+0=j*5+0;omega) hget ?_);conv=>whnf)|(apply bD<;>intro _<;>first|omega|conv=>whnf)|(apply bE<;>intro _<;>first|omega|conv=>whnf)|(apply bN<;>intro _<;>conv=>whnf)|(apply bB<;>intro _<;>conv=>whnf))
    all_goals first
     |exact absurd (hm.symm.trans (show(f.name==mainS)=true by assumption)) (by decide)
     |exact⟨j+1,hj,by omega,Le.of_eq (by rw[hsame];rfl)⟩
  | true=>
    have hlm:lnPr f=⟨f.name,f.params,f.vars,lnL f.body,[]⟩:=by unfold lnPr;rw[hm];rfl
    have hbl:f.body.length<=100000:=by
     have:=(h.pr p.procs[j] (x3w hj)).2.2.2.1;rw[<-hf]at this;have:=V4 f.body;omega
    conv=>whnf
    repeat' (first|((first|(refine iM fun _=>?_)|refine dA ?_|refine x2t rfl ?_|refine aD ?_|refine aR ?_|refine bP ?_|(refine iA fun _=>?_)|refine IdxK.xs (by omega) ?_|refine QX (by omega) ?_|(refine ByteK.at (by omega) ?_)|refine wI ?_|refine x4j j rfl hj ?_|refine x5z j 0 (.agg f.cells) (by show(0+j)*5+0=j*5+0;omega) hget ?_|refine x5z j 3 (.agg f.cells) (by show(0+j)*5+3=j*5+3;omega) hget ?_);conv=>whnf)|(apply bD<;>intro _<;>first|omega|conv=>whnf)|(apply bE<;>intro _<;>first|omega|conv=>whnf)|(apply bN<;>intro _<;>conv=>whnf)|(apply bB<;>intro _<;>conv=>whnf))
    all_goals try exact absurd (hm.symm.trans (show(f.name==mainS)=false by assumption)) (by decide)
    refine LoopK.inv QY (fun k:Nat=>⟨[(2,.ptr 1 0),(3,.ptr 0 0),(4,.p (.int .i64 j)),(5,.hd 2 0 (lnL (f.body.take k)).length),(12,.p (.int .i64 p.procs.length)),(13,.p (.int .i64 j)),(28,.p (eSs f.body)),(29,.p (.int .i64 (S.avs f.body).length)),(30,.p (.int .i64 k))],[(2,.own 55 13 (S.avs (lnL (f.body.take k)))),(0,.obj 25 [.p (eStrs p.globals),.hd 26 0 p.procs.length]),(26,.own 45 5 row),(1,.obj 25 [.p .nils,.p .nils])]⟩) (fun k=>k<=f.body.length) (fun k=>f.body.length-k) 0
     (Le.mk [(2,.own 55 13 [])] (by simp[Chunk.new0];rfl) (by simp) (by simp) (.r (.r (.r (.cons (.nil x2r) (.r (.r (.r (.r (.r .nil))))))))) (.new x2r (.cons rfl (.refl _) (.cons rfl (.refl _) (.cons rfl (.refl _) .nil))))) (x3z _) ?_
    intro k hk;have hbm:(S.avs f.body).length=f.body.length:=by rw[S.avs_eq,x2m]
    rcases x3v k f.body.length with hk2|hk2
    ·have hav:S.avs (lnL (f.body.take (k+1)))=S.avs (lnL (f.body.take k))++if f.body[k].kind<=3 then [.agg (lnS f.body[k]).cells]else []:=by
      rw[S.avs_eq,S.avs_eq,O9 hk2,x3y];split<;>rfl
     have hln:=q3d (f.body.take k);rw[x3m]at hln;have hlc:(lnL (f.body.take k)).length=(S.avs (lnL (f.body.take k))).length:=by rw[S.avs_eq,x2m]
     have hlc2:(lnL (f.body.take (k+1))).length=(S.avs (lnL (f.body.take (k+1)))).length:=by rw[S.avs_eq,x2m]
     rw[hlc]at hln⊢;generalize S.avs (lnL (f.body.take k))=acc at*
     conv=>whnf
     repeat' (first|((first|(refine iM fun _=>?_)|refine dA ?_|refine x2t rfl ?_|refine aD ?_|refine aR ?_|refine bP ?_|(refine iA fun _=>?_)|refine IdxK.xs (by omega) ?_|refine QX (by omega) ?_|(refine ByteK.at (by omega) ?_)|refine wI ?_|refine x6y (es:=acc) rfl rfl (by show(acc.length+1)*208<=140737488355328;omega) (by show acc.length+1<=9223372036854775807;omega) (fun x hx=>by rcases x2a.1 hx with rfl;exact⟨rfl,rfl⟩) ?_);conv=>whnf)|(apply bD<;>intro _<;>first|omega|conv=>whnf)|(apply bE<;>intro _<;>first|omega|conv=>whnf)|(apply bN<;>intro _<;>conv=>whnf)|(apply bB<;>intro _<;>conv=>whnf))
     ·have h3:f.body[k].kind<=3:=by assumption
      rw[if_pos h3]at hav;exact⟨k+1,hk2,by omega,(Le.els (.els (I5 (ElS.refl acc) (x':=.agg (lnS f.body[k]).cells) (by rfl) (fun i c' hc=>by
       match i,hc with
       |0,hc=>cases hc;exact⟨_,rfl,by first|exact Sub.refl _|exact Sub.nils⟩
       |1,hc=>cases hc;exact⟨_,rfl,by first|exact Sub.refl _|exact Sub.nils⟩
       |2,hc=>cases hc;exact⟨_,rfl,by first|exact Sub.refl _|exact Sub.nils⟩
       |3,hc=>cases hc;exact⟨_,rfl,by first|exact Sub.refl _|exact Sub.nils⟩
       |4,hc=>cases hc;exact⟨_,rfl,by first|exact Sub.refl _|exact Sub.nils⟩
       |5,hc=>cases hc;exact⟨_,rfl,by first|exact Sub.refl _|exact Sub.nils⟩
       |6,hc=>cases hc;exact⟨_,rfl,by first|exact Sub.refl _|exact Sub.nils⟩
       |7,hc=>cases hc;exact⟨_,rfl,by first|exact Sub.refl _|exact Sub.nils⟩
       |8,hc=>cases hc;exact⟨_,rfl,by first|exact Sub.refl _|exact Sub.nils⟩
       |9,hc=>cases hc;exact⟨_,rfl,by first|exact Sub.refl _|exact Sub.nils⟩
       |10,hc=>cases hc;exact⟨_,rfl,by first|exact Sub.refl _|exact Sub.nils⟩
       |11,hc=>cases hc;exact⟨_,rfl,by first|exact Sub.refl _|exact Sub.nils⟩
       |12,hc=>cases hc;exact⟨_,rfl,by first|exact Sub.refl _|exact Sub.nils⟩
       |i+13,hc=>simp[AV.cells,S.cells]at hc)) (.same (.same (.same .nil))))).trans (Le.of_eq (by rw[hlc2,hav];simp only[x2s];rfl))⟩
     ·have h3:¬f.body[k].kind<=3:=by assumption
      rw[if_neg h3,x4b]at hav;exact⟨k+1,hk2,by omega,Le.of_eq (by rw[hlc2,hav];rfl)⟩
    ·rw[x3f hk2];have hg2:(row.set j (.agg (Pr.mk f.name f.params f.vars (lnL f.body) f.fin).cells))[j]?=some (.agg (Pr.mk f.name f.params f.vars (lnL f.body) f.fin).cells):=by
      rw[x7x,if_pos rfl,if_pos (by have:=(x2o.1 hget).1;omega)]
     have hlc:(lnL f.body).length=(S.avs (lnL f.body)).length:=by rw[S.avs_eq,x2m]
     have hels:ElS (row.set j (.agg [.str f.name,.sl (f.params.map fun a=>.agg a.cells),eStrs f.vars,eSs (lnL f.body),.nils])) ((DN p (j+1)).map fun f=>.agg f.cells):=by
      rw[<-hset,hlm];refine ElS.put rfl fun i c' hc=>?_
      match i,hc with
      |0,hc=>cases hc;exact⟨_,rfl,Sub.refl _⟩
      |1,hc=>cases hc;exact⟨_,rfl,Sub.refl _⟩
      |2,hc=>cases hc;exact⟨_,rfl,Sub.refl _⟩
      |3,hc=>cases hc;exact⟨_,rfl,Sub.refl _⟩
      |4,hc=>cases hc;exact⟨_,rfl,Sub.nils⟩
      |i+5,hc=>simp[AV.cells,Pr.cells]at hc
     conv=>whnf
     repeat' (first|((first|(refine iM fun _=>?_)|refine x2t rfl ?_|refine aD ?_|refine aR ?_|refine bP ?_|(refine iA fun _=>?_)|refine IdxK.xs (by omega) ?_|refine QX (by omega) ?_|(refine ByteK.at (by omega) ?_)|refine wI ?_);conv=>whnf)|(apply bD<;>intro _<;>first|omega|conv=>whnf)|(apply bE<;>intro _<;>first|omega|conv=>whnf)|(apply bN<;>intro _<;>conv=>whnf)|(apply bB<;>intro _<;>conv=>whnf))
     refine DrawK.le (I7 (k:=2) rfl (.cons (.keep rfl) (.cons (.keep rfl) (.cons (.keep rfl) (.cons (.row hlc) (.cons (.keep rfl) (.cons (.keep rfl) (.cons (.keep rfl) (.cons (.keep rfl) (.cons (.keep rfl) (.cons (.keep rfl) .nil)))))))))) (.drop (.obj (by decide) (.cons (.keep rfl) (.cons (.keep rfl) .nil)) (.own (by decide) (.obj (by decide) (.cons (.keep rfl) (.cons (.keep rfl) .nil)) .nil))))) ?_;refine DrawK.of QY mixed (.cons 0 false (.cons 2 false (.cons 3 false (.cons 5 false (.cons 6 false (.fork 1 (.cons 7 false (.cons 8 false (.fork 4 (.cons 9 true (.cons 10 true (.cons 11 true (.cons 12 true .nil)))) 9 (.cons 4 true (.cons 10 true (.cons 11 true (.cons 12 true .nil))))))) 4 (.cons 1 true (.cons 7 true (.cons 8 true (.cons 9 true (.cons 10 true (.cons 11 true (.cons 12 true .nil))))))))))))) (by kernel_rfl) ?_;conv=>whnf
     repeat' (first|((first|(refine iM fun _=>?_)|refine dA ?_|refine x2t rfl ?_|refine aD ?_|refine aR ?_|refine bP ?_|(refine iA fun _=>?_)|refine IdxK.xs (by omega) ?_|refine QX (by omega) ?_|(refine ByteK.at (by omega) ?_)|refine wI ?_|refine x4j j rfl hj ?_|refine x5i j 3 (.agg f.cells) (.agg (Pr.mk f.name f.params f.vars (lnL f.body) f.fin).cells) (by show(0+j)*5+3=j*5+3;omega) hget (x7b rfl) rfl ?_|refine x5i j 4 (.agg (Pr.mk f.name f.params f.vars (lnL f.body) f.fin).cells) (.agg [.str f.name,.sl (f.params.map fun a=>.agg a.cells),eStrs f.vars,eSs (lnL f.body),.nils]) (by show(0+j)*5+4=j*5+4;omega) hg2 (x7b rfl) rfl ?_);conv=>whnf)|(apply bD<;>intro _<;>first|omega|conv=>whnf)|(apply bE<;>intro _<;>first|omega|conv=>whnf)|(apply bN<;>intro _<;>conv=>whnf)|(apply bB<;>intro _<;>conv=>whnf)|(refine x2t ?_ ?_<;>conv=>whnf))
     all_goals
      refine⟨j+1,hj,by omega,?_⟩;rw[List.set_set];exact Le.els (.same (.els hels (.same .nil)))
 ·have hje:j=p.procs.length:=by omega
  subst hje;have hA:DN p p.procs.length=(YP p).procs:=by
   unfold DN YP;rw[x8x,List.drop_length,x4b]
  have hcl:p.procs.length=((YP p).procs.map fun f=>AV.agg f.cells).length:=by rw[x2m,<-hA,hrl]
  rw[hA];conv=>whnf
  repeat' (first|((first|(refine iM fun _=>?_)|refine dA ?_|refine x2t rfl ?_|refine aD ?_|refine aR ?_|refine bP ?_|(refine iA fun _=>?_)|refine IdxK.xs (by omega) ?_|refine QX (by omega) ?_|(refine ByteK.at (by omega) ?_)|refine wI ?_);conv=>whnf)|(apply bD<;>intro _<;>first|omega|conv=>whnf)|(apply bE<;>intro _<;>first|omega|conv=>whnf)|(apply bN<;>intro _<;>conv=>whnf)|(apply bB<;>intro _<;>conv=>whnf))
  refine Me [(0,.obj 25 [.p (eStrs p.globals),.hd 26 0 p.procs.length]),(26,.own 45 5 ((YP p).procs.map fun f=>.agg f.cells))] [(1,.obj 25 [.p .nils,.p .nils])] [(2,.ptr 1 0)] rfl (avs:=[.agg (YP p).cells]) (.cons (.agg (cs:=(YP p).cells) rfl fun i l c h1 h3=>(by
   match i,h1,h3 with
   |0,h1,h3=>cases h1;cases h3;exact .p (Sub.refl _)
   |1,h1,h3=>cases h1;cases h3;exact .hd rfl hcl
   | i+2,h1,h3=>simp at h1)) .nil) (fun i=>by
     match i with
     |0=>exact .inr rfl
     |1=>exact .inr rfl
     |2=>exact .inl rfl
     |i+3=>exact .inr rfl) ?_
  refine CallK.pure hNm (.cons (Sub.refl _) .nil) ?_;rintro _ rfl;conv=>whnf
  repeat' (first|((first|(refine iM fun _=>?_)|refine dA ?_|refine x2t rfl ?_|refine aD ?_|refine aR ?_|refine bP ?_|(refine iA fun _=>?_)|refine IdxK.xs (by omega) ?_|refine QX (by omega) ?_|(refine ByteK.at (by omega) ?_)|refine wI ?_);conv=>whnf)|(apply bD<;>intro _<;>first|omega|conv=>whnf)|(apply bE<;>intro _<;>first|omega|conv=>whnf)|(apply bN<;>intro _<;>conv=>whnf)|(apply bB<;>intro _<;>conv=>whnf))
  all_goals first
   |exact⟨_,.p (Sub.refl _),rfl⟩
variable {P:Int->Bool}
theorem DI{nm:Str}{T T':List Str}(hT:∀v∈T',v∈T):∀(l:List Arg)(seen:List Str),ZJ nm T l seen=true->ZJ nm T' l seen=true
 |[],seen,h=>rfl
 | a::r,seen,h=>by
   rw[ZJ]at h⊢;cases ha:a.ref with
   | false=>
     rw[ha,x3t]at h;rw[x3t];exact DI hT r seen h
   | true =>
     rw[ha,x3p]at h;rw[x3p];cases h1:((seen.any fun s=>a.name==s)||((a.name==nm)||T.any fun s=>a.name==s))with
     |true=>rw[h1]at h;cases h
     | false=>
       rw [h1,x3t]at h;rw[x6s,x6s]at h1;have h2:(T'.any fun s=>a.name==s)=false:=by
        cases hc:T'.any fun s=>a.name==s with
        |false=>rfl
        | true=>
          have:=MQ.2 (hT _ (MQ.1 hc));rw[h1.2.2]at this;cases this
       rw[h1.1,h1.2.1,h2];exact DI hT r _ h
structure LnT(s t:S):Prop where
 kind:t.kind=s.kind
 name:t.name=s.name
 proc:t.proc=s.proc
 x:t.x=s.x
 args:t.args=s.args
theorem LnT.refl(s:S):LnT s s:=⟨rfl,rfl,rfl,rfl,rfl⟩
theorem LnT.trans{s t u:S}(h:LnT s t)(k:LnT t u):LnT s u:=⟨k.kind.trans h.kind,k.name.trans h.name,k.proc.trans h.proc,k.x.trans h.x,k.args.trans h.args⟩
theorem LnT.names{s t:S}(h:LnT s t):ZK t=ZK s:=by
 unfold ZK FW;rw[h.kind,h.name,h.x,h.args]
theorem AK(s:S)(n:Nat):LnT s (nmS n s):=by
 rw[Nr];exact⟨rfl,rfl,rfl,rfl,rfl⟩
theorem Gp(s:S)(n:Nat):(nmS n s).thn=nmL (n+1) s.thn/\(nmS n s).els=nmL (n+1+cntL s.thn) s.els/\(nmS n s).id=((n+1:Nat):Int)/\(nmS n s).labels=s.labels:=by
 rw[Nr];exact⟨rfl,rfl,rfl,rfl⟩
mutual
theorem q6n:∀(s:S)(k n m:Nat)(pr pr' up up' nx nx' lp lp':Int),(lp'=0↔lp=0)->∀it'∈itS pr' up' nx' lp' m (nmS k s),∃it∈itS pr up nx lp n s,LnT it.s it'.s/\it'.s.labels=it.s.labels/\(it'.loop=0↔it.loop=0)
 | .mk id kind labels name proc x has args thn els,k,n,m,pr,pr',up,up',nx,nx',lp,lp',hl,it',h=>by
   obtain⟨h1,h2,_,h4⟩:=Gp (.mk id kind labels name proc x has args thn els) k;have hO:=AK (.mk id kind labels name proc x has args thn els) k;have hlp:(if(nmS k (.mk id kind labels name proc x has args thn els)).kind=6 then(m:Int)+1 else lp')=0↔(if kind=6 then(n:Int)+1 else lp)=0:=by
    rw[hO.kind];show(if kind=6 then(m:Int)+1 else lp')=0↔_;by_cases hk:kind=6
    ·rw[if_pos hk,if_pos hk];omega
    ·rw[if_neg hk,if_neg hk];exact hl
   rw[q1x,h1,h2]at h;rw[itS];rcases x2i.1 h with rfl|h
   ·exact⟨_,x2r,hO,h4,hl⟩
   ·rcases x3x.1 h with h|h
    ·obtain⟨it,a,b⟩:=Nj thn _ (n+1) _ pr _ (n+1) _ (if kind=6 then n+1 else nx) _ _ _ hlp it' h;exact⟨it,x2c _ (x3x.2 (.inl a)),b⟩
    ·obtain⟨it,a,b⟩:=Nj els _ (n+1+cntL thn) _ pr _ (n+1) _ (if kind=6 then n+1 else nx) _ _ _ hlp it' h;exact⟨it,x2c _ (x3x.2 (.inr a)),b⟩
theorem Nj:∀(l:List S)(k n m:Nat)(pr pr' up up' nx nx' lp lp':Int),(lp'=0↔lp=0)->∀it'∈itL pr' up' nx' lp' m (nmL k l),∃it∈itL pr up nx lp n l,LnT it.s it'.s/\it'.s.labels=it.s.labels/\(it'.loop=0↔it.loop=0)
 |[],k,n,m,pr,pr',up,up',nx,nx',lp,lp',hl,it',h=>by rw[nmL,itL]at h;cases h
 | s::r,k,n,m,pr,pr',up,up',nx,nx',lp,lp',hl,it',h=>by
   rw[nmL,itL]at h;rw[itL];rcases x3x.1 h with h|h
   ·obtain⟨it,a,b⟩:=q6n s k n m pr pr' up up' (if r.isEmpty then nx else n+1+ZW s) _ lp lp' hl it' h;exact⟨it,x3x.2 (.inl a),b⟩
   ·obtain⟨it,a,b⟩:=Nj r _ (n+ZW s) _ pr pr' up up' nx nx' lp lp' hl it' h;exact⟨it,x3x.2 (.inr a),b⟩
end
mutual
theorem q3g:∀(s:S)(k:Nat),(flS (nmS k s)).map S.labels=(flS s).map S.labels
 | .mk id kind labels name proc x has args thn els,k=>by
   obtain⟨h1,h2,_,h4⟩:=Gp (.mk id kind labels name proc x has args thn els) k;have h1:_=nmL (k+1) thn:=h1;have h2:_=nmL (k+1+cntL thn) els:=h2;rw[HI,h1,h2,flS,x3l,x3l,x3y,x3y,D2 thn,D2 els,h4]
theorem D2:∀(l:List S)(k:Nat),(flL (nmL k l)).map S.labels=(flL l).map S.labels
 |[],k=>by rw[nmL]
 |s::r,k=>by rw[nmL,flL,flL,x3y,x3y,q3g s,D2 r]
end
theorem AJ{l:List S}{n:Nat}{t:S}(ht:t∈flL (nmL n l)):∃s∈flL l,LnT s t/\t.labels=s.labels:=by
 rw[<-DD 0 0 (-1) 0 0 (nmL n l)]at ht;obtain⟨it',h1,rfl⟩:=x3q.1 ht;obtain⟨it,h2,h3,h4,_⟩:=Nj l n 0 0 0 0 0 0 (-1) (-1) 0 0 Iff.rfl it' h1;exact⟨it.s,by rw[<-DD 0 0 (-1) 0 0 l];exact x6m h2,h3,h4⟩
theorem Nt{s u:S}(hu:LnT s u)(hh:u.has=s.has)(h1:u.thn.length=s.thn.length)(h2:u.els.length=s.els.length)(h:XA s=true)(n:Nat):XA (nmS n u)=true:=by
 have e:XA (nmS n u)=XA s:=by
  obtain⟨a,b,c,d,e⟩:=hu;obtain⟨g1,g2,_,_⟩:=Gp u n;have hl1:(nmS n u).thn.length=s.thn.length:=by rw[g1,Xo,h1]
  have hl2:(nmS n u).els.length=s.els.length:=by rw[g2,Xo,h2]
  have hO:=AK u n;have hh2:(nmS n u).has=s.has:=by rw[Nr];exact hh
  unfold XA;rw[hl1,hl2,hO.kind,hO.name,hO.proc,hO.x,hO.args,hh2,a,b,c,d,e]
 rw[e,h]
theorem Na{s:S}(h:oneOk s=true):XA s=true:=by
 unfold oneOk at h;exact(Bool.and_eq_true_iff.1 h).1
mutual
theorem q4q:∀(s:S){nest seen m:Int}(n:Nat),Jb nest seen s=some m->n+ZW s<=200->Jb nest n (nmS n s)=some ((n+ZW s:Nat):Int)
 | .mk id kind labels name proc x has args thn els,nest,seen,m,n,h,hn=>by
   obtain⟨h1,_,m1,h3,h4⟩:=JK h;obtain⟨e1,e2,e3,e4⟩:=Gp (.mk id kind labels name proc x has args thn els) n;have hc:ZW (.mk id kind labels name proc x has args thn els)=1+cntL thn+cntL els:=by rw[ZW]
   rw[hc]at hn;have q1:=Df thn (n+1) h3 (by omega);have q2:=Df els (n+1+cntL thn) h4 (by omega);have hlb:=(VE h1).labels;rw[Dp,if_neg (by omega),if_neg (by rw[e3];omega),e4,hlb,Nt (LnT.refl _) rfl rfl rfl (Na h1),e1,e2];show(bif true then bif true then(match WY (nest+1) ((n:Int)+1) (nmL (n+1) thn)with|some m=>WY (nest+1) m (nmL (n+1+cntL thn) els)|none=>none)else none else none)=_;rw[show((n:Int)+1)=((n+1:Nat):Int) by omega,q1];show WY (nest+1) ((n+1+cntL thn:Nat):Int) _=_;rw[q2,hc];congr 2;omega
theorem Df:∀(l:List S){nest seen m:Int}(n:Nat),WY nest seen l=some m->n+cntL l<=200->WY nest n (nmL n l)=some ((n+cntL l:Nat):Int)
 |[],nest,seen,m,n,h,hn=>by rw[nmL,WY,cntL];rfl
 | s::r,nest,seen,m,n,h,hn=>by
   obtain⟨h1,m1,h2,h3⟩:=US h;have hc:cntL (s::r)=ZW s+cntL r:=by rw[cntL]
   rw[hc]at hn;have q1:=q4q s n h2 (by omega);have q2:=Df r (n+ZW s) h3 (by omega);rw[nmL,WY,if_neg (by omega),q1];show WY nest ((n+ZW s:Nat):Int) _=_;rw[q2,hc];congr 2;omega
end
theorem Qw(s:S)(r:List S):lnL (s::r)=if s.kind<=3 then lnS s::lnL r else lnL r:=by
 unfold lnL;by_cases h:s.kind<=3<;>simp[h]
theorem J4{s:S}(h:oneOk s=true)(hk:s.kind<=3):s.thn=[]/\s.els=[]:=by
 have hF:=VE h;exact⟨x4e (by rcases hF.thn with h|h|h<;>omega),x4e (by rcases hF.els with h|h<;>omega)⟩
theorem Vh:∀(l:List S){seen m:Int}(n:Nat),WY 1 seen l=some m->n+cntL (lnL l)<=200->WY 1 n (nmL n (lnL l))=some ((n+cntL (lnL l):Nat):Int)/\flL (lnL l)=lnL l/\cntL (lnL l)=(lnL l).length
 |[],seen,m,n,h,hn=>⟨by rw[show lnL []=[]from rfl,nmL,WY,cntL];rfl,by rw[show lnL []=[]from rfl,flL],by rw[show lnL []=[]from rfl,cntL];rfl⟩
 | s::r,seen,m,n,h,hn=>by
   obtain⟨_,m1,h2,h3⟩:=US h;rw[Qw]at hn⊢;by_cases hk:s.kind<=3
   ·rw[if_pos hk]at hn⊢;obtain⟨h1,_⟩:=JK h2;obtain⟨e1,e2⟩:=J4 h1 hk;have hs:ZW (lnS s)=1:=by rw[ZV];show 1+cntL s.thn+cntL s.els=1;rw[e1,e2,cntL]
    have hc:cntL (lnS s::lnL r)=1+cntL (lnL r):=by rw[cntL,hs]
    rw[hc]at hn;obtain⟨q1,q2,q3⟩:=Vh r (n+1) h3 (by omega);obtain⟨g1,g2,g3,g4⟩:=Gp (lnS s) n;have g1:(nmS n (lnS s)).thn=nmL (n+1) s.thn:=g1;have g2:(nmS n (lnS s)).els=nmL (n+1+cntL s.thn) s.els:=g2;have g4:(nmS n (lnS s)).labels=[]:=g4;have p1:Jb 1 n (nmS n (lnS s))=some ((n+1:Nat):Int):=by
     rw[Dp,if_neg (by omega),if_neg (by rw[g3];omega),g4,Nt (s:=s) (u:=lnS s) ⟨rfl,rfl,rfl,rfl,rfl⟩ rfl rfl rfl (Na h1),g1,g2,e1,e2];have r1:∀k:Nat,nmL k ([]:List S)=[]:=fun k=>by rw[nmL]
     rw[r1,r1];show(bif true then bif true then(match WY (1+1) ((n:Int)+1) []with|some m=>WY (1+1) m []|none=>none)else none else none)=_;rw[WY];rfl
    refine⟨?_,?_,?_⟩
    ·rw[nmL,WY,if_neg (by omega),p1,hs];show WY 1 ((n+1:Nat):Int) (nmL (n+1) (lnL r))=_;rw[q1,hc];congr 2;omega
    ·rw[flL,HI,q2];show lnS s::(flL s.thn++flL s.els)++lnL r=_;rw[e1,e2,flL];rfl
    ·rw[hc,q3,x4q];omega
   ·rw[if_neg hk]at hn⊢;exact Vh r n h3 hn
theorem q1y(l:List S):cntL (lnL l)<=cntL l:=by
 induction l with
 |nil=>exact x3g _
 | cons s r ih=>
   rw[Qw,cntL];split
   ·rw[cntL];have:ZW (lnS s)=ZW s:=by rw[ZV,ZV];rfl
    omega
   ·omega
theorem D7(f:Pr):cntL (lnPr f).body<=cntL f.body:=by
 unfold lnPr;cases f.name==mainS with
 |true=>exact q1y f.body
 |false=>exact x3g _
theorem Ox{f:Pr}{seen m:Int}(h:WY 1 seen f.body=some m)(n:Nat)(hn:n+cntL (lnPr f).body<=200):WY 1 n (nmL n (lnPr f).body)=some ((n+cntL (lnPr f).body:Nat):Int):=by
 unfold lnPr at hn⊢;cases hq:f.name==mainS with
 |true=>rw[hq]at hn;exact(Vh f.body n h hn).1
 |false=>rw[hq]at hn;exact Df f.body n h hn
theorem Oq{f:Pr}(h:JX f=true)(b:List S):JX ⟨(lnPr f).name,(lnPr f).params,(lnPr f).vars,b,(lnPr f).fin⟩=true:=by
 obtain⟨g1,g2,g3,g4,g5,g6⟩:=WC.1 h;unfold lnPr;cases f.name==mainS with
 |true=>exact WC.2 ⟨g1,g2,g3,g4,rfl,g6⟩
 |false=>exact WC.2 ⟨g1,g2,g3,g4,g5,g6⟩
theorem Yv:∀(l:List Pr)(n:Nat),(∀f∈l,JX f=true/\∃a b,WY 1 a f.body=some b)->n+cntP (l.map lnPr)<=200->(XG n (UM n (l.map lnPr))).isSome=true
 |[],n,_,_=>rfl
 | f::r,n,h,hn=>by
   obtain⟨h1,a,b,h2⟩:=h f x2r;rw[x3l,cntP]at hn;rw[x3l,UM,XG,Oq h1,x3p];show(match WY 1 n (nmL n (lnPr f).body)with|some m=>XG m _|none=>none).isSome=true;rw[Ox h2 n (by omega)];exact Yv r (n+cntL (lnPr f).body) (fun g hg=>h g (x2c _ hg)) (by omega)
structure LnP(f g:Pr):Prop where
 name:g.name=f.name
 params:g.params=f.params
 vars:g.vars=f.vars
 body:∃n,g.body=nmL n (lnPr f).body
 fin:g.fin=(lnPr f).fin
theorem D6(f:Pr)(n:Nat):LnP f ⟨(lnPr f).name,(lnPr f).params,(lnPr f).vars,nmL n (lnPr f).body,(lnPr f).fin⟩:=by
 refine⟨?_,?_,?_,⟨n,rfl⟩,rfl⟩<;>(unfold lnPr;cases f.name==mainS<;>rfl)
theorem LnP.flat{f g:Pr}(h:LnP f g){t:S}(ht:t∈flL g.body):∃s∈flL f.body,LnT s t:=by
 obtain⟨n,hb⟩:=h.body;rw[hb]at ht;obtain⟨u,h1,h2,_⟩:=AJ ht;unfold lnPr at h1;cases hq:f.name==mainS with
 |false=>rw[hq]at h1;exact⟨u,h1,h2⟩
 | true =>
   rw [hq]at h1;have key:∀l:List S,u∈flL (lnL l)->∃s∈flL l,LnT s u:=fun l=>by
    induction l with
    |nil=>intro h;cases h
    | cons s r ih=>
      intro h;rw[Qw]at h;rw[flL];split at h
      ·rw[flL,HI]at h;rcases x3x.1 h with h|h
       ·rcases x2i.1 h with rfl|h
        ·exact⟨s,x4h _ (by rw[HI];exact x2r),⟨rfl,rfl,rfl,rfl,rfl⟩⟩
        ·exact⟨u,x4h _ (by rw[HI];exact x2c _ h),.refl _⟩
       ·obtain⟨s',a,b⟩:=ih h;exact⟨s',x4f _ a,b⟩
      ·obtain⟨s',a,b⟩:=ih h;exact⟨s',x4f _ a,b⟩
   obtain⟨s,a,b⟩:=key _ h1;exact⟨s,a,b.trans h2⟩
theorem Uj{q:Pr->Bool}(hq:∀f g:Pr,g.name=f.name->q g=q f):∀(l:List Pr)(n:Nat),(l.find? q=none/\(UM n (l.map lnPr)).find? q=none)\/∃f g,l.find? q=some f/\(UM n (l.map lnPr)).find? q=some g/\LnP f g
 |[],n=>.inl ⟨rfl,rfl⟩
 | f::r,n=>by
   have hO:=D6 f n;rw[x3l,UM,x7m,x7m,hq f _ hO.name];cases q f with
   |true=>exact .inr ⟨f,_,rfl,rfl,hO⟩
   |false=>exact Uj hq r _
theorem Lt(p:Pg){g:Pr}(h:(XF p).procs[j]?=some g):∃f,p.procs[j]?=some f/\g=⟨(lnPr f).name,(lnPr f).params,(lnPr f).vars,nmL (QB (p.procs.map lnPr) j) (lnPr f).body,(lnPr f).fin⟩:=by
 have h:(UM 0 (p.procs.map lnPr))[j]?=some g:=h;have hl:j<p.procs.length:=by
  have:=(x2o.1 h).1;rw[YQ,x2m]at this;exact this
 have h1:=Yp (p.procs.map lnPr) 0 j (lnPr p.procs[j]) (by rw[x2e,x2n hl];rfl);rw[h1,x5m]at h;exact⟨p.procs[j],x2n hl,(x5j h).symm⟩
theorem MV(p:Pg):procsN (XF p)=procsN p:=by
 have key:∀(l:List Pr)(n:Nat),(UM n (l.map lnPr)).map Pr.name=l.map Pr.name:=fun l=>by
  induction l with
  |nil=>intro n;rfl
  | cons f r ih=>
    intro n;rw[x3l,UM,x3l,x3l,ih,(D6 f n).name]
 exact key p.procs 0
theorem S8(p:Pg){n z:Str}(h:z∈UJ (XF p) n):z∈UJ p n:=by
 unfold UJ at h⊢;rcases Uj (q:=fun f=>f.name==n) (fun f g h=>by rw[h]) p.procs 0 with⟨h1,h2⟩|⟨f,g,h1,h2,h3⟩
 ·rw[show(XF p).procs=UM 0 (p.procs.map lnPr)from rfl,h2]at h;cases h
 ·rw[show(XF p).procs=UM 0 (p.procs.map lnPr)from rfl,h2]at h;rw[h1];simp only[S7]at h⊢;obtain⟨t,a,b,c⟩:=h;obtain⟨s,d,e⟩:=h3.flat a;exact⟨s,d,by rw[<-e.kind,b],by rw[<-e.proc,c]⟩
theorem A2(p:Pg){n v:Str}(h:v∈Ue (XF p) n):v∈Ue p n:=by
 unfold Ue at h⊢;rcases Uj (q:=fun f=>f.name==n) (fun f g h=>by rw[h]) p.procs 0 with⟨h1,h2⟩|⟨f,g,h1,h2,h3⟩
 ·rw[show(XF p).procs=UM 0 (p.procs.map lnPr)from rfl,h2]at h;cases h
 ·rw[show(XF p).procs=UM 0 (p.procs.map lnPr)from rfl,h2]at h;rw[h1];simp only[x3c]at h⊢;obtain⟨t,a,b⟩:=h;obtain⟨s,d,e⟩:=h3.flat a;refine⟨s,d,?_⟩;unfold Sv at b⊢;rw[e.names]at b;exact b
theorem O7(h:QE p=true):QE (XF p)=true:=by
 obtain⟨hm,hs,ha,hjm,hal⟩:=QK h;obtain⟨c1,c2,c3⟩:=XJ h;have hcl:cntP (p.procs.map lnPr)<=cntP p.procs:=by
  have key:∀l:List Pr,cntP (l.map lnPr)<=cntP l:=fun l=>by
   induction l with
   |nil=>exact x3g _
   | cons f r ih=>
     rw[x3l,cntP,cntP];have:=D7 f;omega
  exact key _
 have hPr:∀g∈(XF p).procs,∃f∈p.procs,LnP f g:=fun g hg=>by
  obtain⟨j,hj,rfl⟩:=x9n hg;obtain⟨f,h1,h2⟩:=Lt p (x2n hj);exact⟨f,x3k h1,by rw[h2];exact D6 f _⟩
 have hM:YL (XF p)=true:=by
  obtain⟨_,_,_,hp⟩:=JJ hm;unfold YL at hm⊢;simp only[x3h]at hm⊢;refine⟨⟨⟨hm.1.1.1,?_⟩,hm.1.2⟩,Yv p.procs 0 hp (by omega)⟩;show decide ((UM 0 (p.procs.map lnPr)).length<=16)=true;rw[YQ,x2m];exact hm.1.1.2
 obtain⟨hb,hS⟩:=(Qp hm).1 hs;have hmb:ZY (XF p)=false:=by
  unfold ZY at hb⊢;rw[MV,show(XF p).globals=p.globals from rfl,show(XF p).procs=UM 0 (p.procs.map lnPr)from rfl];rcases Uj (q:=fun f=>mainS==f.name) (fun f g h=>by rw[h]) p.procs 0 with⟨h1,h2⟩|⟨f,g,h1,h2,h3⟩
  ·rw[h1]at hb;rw[h2];exact hb
  ·rw[h1]at hb;rw[h2];simp only[h3.params]at hb⊢;exact hb
 have hkn:∀{f g:Pr}(v:Str),LnP f g->JQ (XF p) g v=JQ p f v:=fun {f g} v hP=>by
  unfold JQ;rw[hP.params,hP.vars];rfl
 have hsc:(QA (XF p)).1=0:=(Qp hM).2 ⟨hmb,fun g hg=>by
  obtain⟨f,hf,hP⟩:=hPr g hg;refine⟨?_,fun t ht=>?_⟩
  ·have:=(hS f hf).nd;unfold allV Jd at this⊢;rw[hP.params,hP.vars];exact this
  ·obtain⟨s,h1,h2⟩:=hP.flat ht;have h3:=(hS f hf).kn s h1;unfold knownB at h3⊢;rw[x3h]at h3⊢;rw[h2.kind,h2.proc,MV];refine⟨?_,h3.2⟩;rw[x4d];intro v hv;rw[h2.names]at hv;rw[hkn v hP];exact x4d.1 h3.1 v hv⟩
 have hst:∀t∈VN (XF p),∃s∈VN p,LnT s t:=fun t ht=>by
  obtain⟨g,hg,ht⟩:=x3c.1 ht;obtain⟨f,hf,hP⟩:=hPr g hg;obtain⟨s,h1,h2⟩:=hP.flat ht;exact⟨s,x3c.2 ⟨f,hf,h1⟩,h2⟩
 have har:(VZ (XF p)).1=0:=(U4 hsc).2 fun t ht h4=>by
  obtain⟨s,h1,h2⟩:=hst t ht;have h5:=(U4 hs).1 ha s h1 (by rw[<-h2.kind,h4]);unfold FB at h5⊢;rw[h2.kind,h2.proc,h2.args,show(XF p).procs=UM 0 (p.procs.map lnPr)from rfl];rcases Uj (q:=fun f=>f.name==s.proc) (fun f g h=>by rw[h]) p.procs 0 with⟨k1,k2⟩|⟨f,g,k1,k2,k3⟩
  ·rw[k1]at h5;rw[k2];exact h5
  ·rw[k1]at h5;rw[k2];simp only[k3.params]at h5⊢;exact h5
 have hju:(PG (XF p)).1=0:=(RA hsc).2 fun j g hg=>by
  obtain⟨f,hf,hge⟩:=Lt p hg;obtain⟨h1,h2⟩:=(RA hs).1 hjm j f hf;obtain⟨_,a,b,hrow⟩:=(JJ hm).2.2.2 f (x3k hf);have hcf:=KU _ _ (x3k hf);cases hq:f.name==mainS with
  | true=>
    have hbody:g.body=nmL (QB (p.procs.map lnPr) j) (lnL f.body):=by rw[hge];unfold lnPr;rw[hq];rfl
    have hfin:g.fin=[]:=by rw[hge];unfold lnPr;rw[hq];rfl
    have hlc:=q1y f.body;obtain⟨_,hfl,_⟩:=Vh f.body 0 hrow (by omega);have hsm:∀t∈flL g.body,t.kind<=3/\t.labels=[]:=fun t ht=>by
     rw[hbody]at ht;obtain⟨u,k1,k2,k3⟩:=AJ ht;rw[hfl]at k1;unfold lnL at k1;obtain⟨s,k4,rfl⟩:=x3q.1 k1;have:=(x4w.1 k4).2;exact⟨by rw[k2.kind];exact x9x this,k3⟩
    refine⟨fun it hi=>?_,?_⟩
    ·have hk:=(hsm it.s (Wc hi)).1;unfold VK;rw[if_neg (by omega),if_neg (by omega)]
    ·have e:D3 g=[]:=by
      unfold D3;rw[hfin,x4b];exact List.flatMap_eq_nil_iff.2 fun t ht=>(hsm t ht).2
     rw[e];exact x8f
  | false=>
    have hbody:g.body=nmL (QB (p.procs.map lnPr) j) f.body:=by rw[hge];unfold lnPr;rw[hq];rfl
    have hfin:g.fin=f.fin:=by rw[hge];unfold lnPr;rw[hq];rfl
    have hlab:D3 g=D3 f:=by
     unfold D3;rw[hbody,hfin,List.flatMap_def,List.flatMap_def,D2]
    refine⟨fun it' hi=>?_,by rw[hlab];exact h2⟩;have hi:it'∈itL (j:Nat) 0 (-1) 0 (QB (XF p).procs j) g.body:=hi;rw[hbody]at hi;obtain⟨it,k3,k4,_,k5⟩:=Nj f.body _ (QB p.procs j) _ (j:Nat) _ 0 0 (-1) (-1) 0 0 Iff.rfl it' hi;have h6:=h1 it k3;unfold VK at h6⊢;rw[k4.kind,k4.name];split
    ·rename_i h8;rw[if_pos h8]at h6;have h9:¬it.loop=0:=by simpa using h6
     have:¬it'.loop=0:=fun h=>h9 (k5.1 h);simpa using this
    ·rename_i h8;rw[if_neg h8]at h6;split
     ·rename_i h9;rw[if_pos h9]at h6;exact Cd.2 (by rw[hlab];exact Cd.1 h6)
     ·rfl
 have hali:(GK (XF p)).1=0:=(P4 har).2 fun t ht h4=>by
  obtain⟨s,h1,h2⟩:=hst t ht;have h4':s.kind=4:=by rw[<-h2.kind,h4]
  rw[h2.name,h2.proc,h2.args];refine DI (fun v hv=>?_) _ _ ((P4 ha).1 hal s h1 h4');have hn:s.proc∈procsN p:=by
   unfold VN at h1;obtain⟨f,hf1,hf2⟩:=x3c.1 h1;exact(Z7 hs hf1 hf2 h4').1
  rw[N6 hsc (by rw[MV];exact hn)]at hv;rw[N6 hs hn];obtain⟨m,h6,h7⟩:=hv;exact⟨m,h6.mono fun x y hxy=>S8 p hxy,A2 p h7⟩
 exact q2f.2 ⟨hM,hsc,har,hju,hali⟩
theorem Ln(pr up nx lp:Int):∀(l:List S)(n:Nat),(∀t∈l,t.thn=[]/\t.els=[])->∀it∈itL pr up nx lp n l,∃(i:Nat) (h:i<l.length),it.s=l[i]/\it.next=if i+1<l.length then((n+i+2:Nat):Int)else nx
 |[],n,_,it,h=>by rw[itL]at h;cases h
 | s::r,n,hs,it,h=>by
   obtain⟨e1,e2⟩:=hs s x2r;have hc:ZW s=1:=by rw[ZV,e1,e2,cntL]
   rw[itL,q1x,e1,e2,itL,itL,hc]at h;rcases x3x.1 h with h|h
   ·obtain rfl:=x2a.1 h;refine⟨0,by simp,rfl,?_⟩;show(if r.isEmpty then nx else(n:Int)+1+(1:Nat))=_;cases r with
    |nil=>simp
    |cons a b=>simp;omega
   ·obtain⟨i,h1,h2,h3⟩:=Ln pr up nx lp r (n+1) (fun t ht=>hs t (x2c _ ht)) it h;refine⟨i+1,by simpa using h1,by simpa using h2,?_⟩;rw[h3];simp only[x4q];split
    ·rename_i h4;rw[if_pos (by omega)];omega
    ·rename_i h4;rw[if_neg (by omega)]
theorem AT{R:Int->Int->Prop}:∀(l:List Int)(a:Int),(∀x,l.head?=some x->R a x)->(∀(i:Nat)(h:i+1<l.length),R l[i] l[i+1])->MW R a l
 |[],_,_,_=>trivial
 |x::r,a,h0,h1=>⟨h0 x rfl,AT r x (fun y hy=>by
    cases r with
    |nil=>cases hy
    |cons z r=>cases hy;exact h1 0 (by simp)) fun i h=>h1 (i+1) (by simpa using h)⟩
theorem Pw{n:Nat}{at_:List Nat}{steps:List (Int×Int)}(hnd:at_.Nodup)(hlt:∀a∈at_,a<n)(hm:at_.length<=5000)(hch:∀t∈steps,t.2=t.1+1){g:Nat}(hg:g<at_.length):∀(c:Nat),EO n steps at_ g c->∃a,at_[g]?=some a/\a<c/\∀b,a<b->b<c->b∉at_
 | c,h=>by
   obtain⟨_,a,h1,h2,h3⟩:=q2n hnd hlt hm hg h;have h4:(c:Int)=(a:Int)+1:=hch _ h2;obtain rfl:c=a+1:=by omega
   rcases h3 with h3|⟨h3,h5⟩
   ·exact⟨a,h3,by omega,fun b hb hb2=>by omega⟩
   ·obtain⟨a',k1,k2,k3⟩:=Pw hnd hlt hm hch hg a h5;refine⟨a',k1,by omega,fun b hb hb2=>?_⟩;rcases x3v b a with h6|h6
    ·exact k3 b hb h6
    ·obtain rfl:b=a:=by omega
     exact h3
def wantV(D:Int->List Str)(v:Str)(w:List Int)(l:List Int):List Int:=l.foldl (fun w f=>bif inS (D f) v then [f]else w) w
theorem Hk(D:Int->List Str)(v:Str)(w l:List Int)(f:Int):wantV D v w (l++[f])=bif inS (D f) v then [f]else wantV D v w l:=by
 unfold wantV;rw[x7n];rfl
theorem Mm(D:Int->List Str)(v:Str)(w l:List Int):∀j,j<=l.length->(∃(i:Nat) (h:i<l.length),i<j/\wantV D v w (l.take j)=[l[i]]/\Nh D v (l.take j)=l[i]/\v∈D l[i]/\∀(b:Nat)(hb:b<l.length),i<b->b<j->v∉D l[b])\/
  (wantV D v w (l.take j)=w/\Nh D v (l.take j)=0/\∀(b:Nat)(hb:b<l.length),b<j->v∉D l[b])
 |0,_=>.inr ⟨by rw[x9y];rfl,by rw[x9y];rfl,fun b _ h=>by omega⟩
 | j+1,h=>by
   have hj:j<l.length:=by omega
   rw[x3u hj,Hk,Gu];cases hd:inS (D l[j]) v with
   |true=>exact .inl ⟨j,hj,by omega,rfl,rfl,WP.1 hd,fun b _ h1 h2=>by omega⟩
   | false=>
     have hn:v∉D l[j]:=fun h=>by rw[WP.2 h]at hd;cases hd
     rw[x3t,x3t];rcases Mm D v w l j (by omega)with⟨i,h1,h2,h3,h4,h5,h6⟩|⟨h1,h2,h3⟩
     ·refine .inl ⟨i,h1,by omega,h3,h4,h5,fun b hb k1 k2=>?_⟩;rcases x3v b j with h7|h7
      ·exact h6 b hb k1 h7
      ·obtain rfl:b=j:=by omega
       exact hn
     ·refine .inr ⟨h1,h2,fun b hb k1=>?_⟩;rcases x3v b j with h7|h7
      ·exact h3 b hb h7
      ·obtain rfl:b=j:=by omega
       exact hn
theorem Tp{l:List Int}(hr:l.Pairwise (· < ·))(h:∀x,x∈l↔x=a):l=[a]:=by
 cases l with
 |nil=>exact absurd ((h a).2 rfl) (by simp)
 | cons x r=>
   obtain rfl:=(h x).1 x2r;cases r with
   |nil=>rfl
   | cons y r=>
     have h1:=(h y).1 (x2c _ x2r);have h2:=(x6k.1 hr).1 y x2r;omega
theorem Fm{id:Int}{v:Str}{l:List Fl}{x:Int}:x∈DV id v l↔(⟨x,id,v⟩:Fl)∈l:=by
 unfold DV;rw[x3q];constructor
 ·rintro⟨s,h1,rfl⟩;obtain⟨h2,h3⟩:=x4w.1 h1;simp only[x3h,x3i,x6d]at h3;obtain⟨a,b,c⟩:=s;simp only at h3;rw[<-h3.1,<-h3.2];exact h2
 ·exact fun h=>⟨_,x4w.2 ⟨h,by simp⟩,rfl⟩
theorem RB{l:List Fl}{c:Int}{v:Str}(h:q8s l a c v=true):(⟨a,c,v⟩:Fl)∈l:=by
 obtain⟨s,h1,h2⟩:=x4o.1 h;simp only[x3h,x3i,x6d]at h2;obtain⟨a',b',c'⟩:=s;simp only at h2;rw[<-h2.1,<-h2.2.1,<-h2.2.2];exact h1
structure FlatP(g:Pr):Prop where
 sub:∀t∈g.body,t.thn=[]/\t.els=[]
 kind:∀t∈g.body,t.kind<=3
section
variable {q:Pg}{k:Nat}{g:Pr}(hc:QE q=true)(hk:q.procs[k]? = some g)(hF:FlatP g)
include hc hk hF
omit hc hk in
theorem NM:flL g.body=g.body:=by
 have key:∀l:List S,(∀t∈l,t.thn=[]/\t.els=[])->flL l=l:=fun l=>by
  induction l with
  |nil=>intro _;rw[flL]
  | cons s r ih=>
    intro h;obtain⟨e1,e2⟩:=h s x2r;rw[flL,HI,e1,e2,flL,ih fun t ht=>h t (x2c _ ht)];rfl
 exact key _ hF.sub
theorem Uk:(g.body.map S.id)=KO (QB q.procs k) g.body.length/\cntL g.body=g.body.length:=by
 have h1:=D9 (QK hc).1 hk;have h2:=Xn g.body;rw[NM hF]at h1 h2;rw[<-h2]at h1;exact⟨h1,h2.symm⟩
theorem KC{i:Nat}(h:i<g.body.length):g.body[i].id=(QB q.procs k+i+1:Nat)/\(ixI q k g g.body[i].id).toNat=i+1:=by
 obtain⟨h1,h2⟩:=Uk hc hk hF;have h3:(g.body.map S.id)[i]?=some g.body[i].id:=by rw[x2e,x2n h];rfl
 rw[h1]at h3;unfold KO at h3;rw[x2e,x9k h]at h3;have h4:g.body[i].id=(QB q.procs k+1+1*i:Nat):=(x5j h3).symm;have h5:g.body[i].id=(QB q.procs k+i+1:Nat):=by rw[h4];omega
 refine⟨h5,?_⟩;have:=(Ll hc hk (t:=g.body[i]) (by rw[NM hF];exact x3w h)).2.1;omega
theorem q6u{b:Int}(h:wR q k g a b):ixI q k g b=ixI q k g a+1:=by
 obtain⟨s,hs,rfl,rfl⟩:=h;have hcnt:=(Uk hc hk hF).2;have h1:=((JC hc hk).2 s).1 hs;have nz:∀{i:Nat}(h:i<g.body.length),ixI q k g ((QB q.procs k+i+1:Nat):Int)=(i+1:Nat):=fun {i} h=>by
  obtain⟨k1,k2⟩:=KC hc hk hF h;have:=(WQ (Ll hc hk (t:=g.body[i]) (by rw[NM hF];exact x3w h)).1).1;rw[k1]at k2 this;omega
 unfold QD at h1;rcases x2i.1 h1 with rfl|h1
 ·show ixI q k g (if _ then _ else _)=ixI q k g 0+1;rw[V6];split
  ·have:=nz (i:=0) (by omega);rw[show((QB q.procs k:Nat):Int)+1=((QB q.procs k+0+1:Nat):Int) by omega,this];omega
  ·rw[CW,hcnt];omega
 ·obtain⟨it,h2,h3⟩:=x3c.1 h1;obtain⟨y,h4,rfl⟩:=x3q.1 h3;obtain⟨i,h5,h6,h7⟩:=Ln _ _ _ _ g.body _ hF.sub it h2;have h8:=hF.kind g.body[i] (x3w h5);rw[<-h6]at h8;unfold YD at h4;rw[if_neg (by omega),if_neg (by omega),if_neg (by omega),if_neg (by omega),if_neg (by omega),if_neg (by omega)]at h4;have h4:=x2a.1 h4;show ixI q k g y=ixI q k g it.s.id+1;rw[h4,h7,h6,(KC hc hk hF h5).1,nz h5];split
  ·rename_i h9;rw[show QB q.procs k+i+2=QB q.procs k+(i+1)+1 by omega,nz h9];omega
  ·rw[CW,hcnt];omega
theorem IY:∀t∈UL (QQ q k g) g,t.2=t.1+1:=fun t ht=>by
 unfold UL at ht;obtain⟨s,hs,rfl⟩:=x3q.1 ht;have hd:dR q k g s.src s.dst:=⟨s,hs,rfl,rfl⟩;rcases(RZ hc hk).1 hd with h|⟨_,_,u,hu,_,h10,_⟩
 ·exact q6u hc hk hF h
 ·rw[NM hF]at hu;have:=hF.kind u hu;omega
theorem CF:MW (wR q k g) 0 (g.body.map S.id):=by
 obtain⟨hids,hcnt⟩:=Uk hc hk hF;refine AT _ _ (fun x hx=>?_) fun i h=>?_
 ·have hl:0<g.body.length:=by
   cases hb:g.body with
   |nil=>rw[hb]at hx;cases hx
   |cons a b=>simp
  have h1:x=(QB q.procs k+0+1:Nat):=by
   rw[<-(KC hc hk hF hl).1];rw[List.head?_eq_getElem?,x2e,x2n hl]at hx;exact(x5j hx).symm
  have h2:=IX hc hk;unfold q6j at h2;rw[if_pos (by omega)]at h2;rw[h1];exact h2
 ·rw[x2m]at h;have hi:i<g.body.length:=by omega
  have ht:g.body[i]∈(itsOf q k g).map Item.s:=by
   show _∈(itL (k:Nat) 0 (-1) 0 (QB q.procs k) g.body).map Item.s;rw[DD,NM hF];exact x3w hi
  obtain⟨it,h1,h2⟩:=x3q.1 ht;obtain⟨i',h3,h4,h5⟩:=Ln _ _ _ _ g.body _ hF.sub it h1;have e:i'=i:=by
   have a:=(KC hc hk hF h3).1;have b:=(KC hc hk hF hi).1;rw[<-h4,h2,b]at a;omega
  subst e;have h8:=hF.kind it.s (by rw[h2];exact x3w hi);have hgo:it.next∈YD (sheetOf q) g it:=by
   unfold YD;rw[if_neg (by omega),if_neg (by omega),if_neg (by omega),if_neg (by omega),if_neg (by omega),if_neg (by omega)];exact x2r
  have hw:=x2b hc hk h1 hgo;rw[h5,if_pos h,h2]at hw;rw[x5t,x5t,(KC hc hk hF h).1];exact hw
theorem CG{i:Nat}(hi:i<g.body.length){v:Str}(hv:v∈usesN q g.body[i].id):DV g.body[i].id v (XE q k g)=wantV (defsN q) v (if JQ q g v=4 then []else [0]) ((g.body.map S.id).take i):=by
 have hnd2:=q0s hc k g;have hr:=CR hc hnd2 g.body[i].id v;have hP:=CF hc hk hF;have hml:(g.body.map S.id).length=g.body.length:=x2m _;have hpos:∀e∈g.body.map S.id,0<e:=fun e he=>by
  obtain⟨j,hj,rfl⟩:=x9n he;rw[x5t,(KC hc hk hF (by omega)).1];omega
 have hget:∀{j:Nat}(h:j<(g.body.map S.id).length),(g.body.map S.id)[j]=(QB q.procs k+j+1:Nat):=fun {j} h=>by
  rw[x5t,(KC hc hk hF (by omega)).1]
 obtain⟨hnd,hlt,hm5,hmem⟩:=q2u hc hk v;have hcnt:=(Uk hc hk hF).2;obtain⟨hidi,hixi⟩:=KC hc hk hF hi;have hex:=OB hc hk hP hpos (j:=i) (by omega) (v:=v) (by rw[x5t];exact hv);rw[x5t]at hex;have hgiv:∀b,v∈WL q k g b->b<cntL g.body+2->b<=i->(b=0/\v∈q6p q g.name++g.params.map Param.name)\/∃(h:b-1<(g.body.map S.id).length),b≠0/\v∈defsN q (g.body.map S.id)[b-1]:=fun b hb h1 h2=>by
  rcases q0t hc hk h1 hb with h3|⟨h3,h4,_,h5⟩
  ·exact .inl h3
  ·refine .inr ⟨by omega,h3,?_⟩;rw[hget,show QB q.procs k+(b-1)+1=QB q.procs k+b by omega];exact h5
 have hone:∀x,(⟨x,g.body[i].id,v⟩:Fl)∈XE q k g->∃a:Nat,x=QP q k (cntL g.body+2:Nat) a/\a<=i/\v∈WL q k g a/\∀b:Nat,a<b->b<=i->v∉WL q k g b:=fun x hx=>by
  obtain⟨nm,c,a,h1,h2,h3,h4,_⟩:=Kl hx;have e1:x=QP q k (cntL g.body+2:Nat) a:=x5u Fl.src h4;have e2:g.body[i].id=QP q k (cntL g.body+2:Nat) c:=x5u Fl.dst h4;obtain rfl:v=nm:=x5u Fl.var h4;have hce:c=i+1:=by
   have:=(Q8 (p:=q) (j:=k) (f:=g) (i:=(c:Nat)) ⟨by omega,by omega⟩).2;rw[<-e2]at this;omega
  subst hce;rw[e1,e2]at hx;obtain⟨_,gi,k1,k2⟩:=(RY hc hk h2 h1).1 hx;obtain⟨a',k3,k4,k5⟩:=Pw hnd hlt hm5 (IY hc hk hF) (x2o.1 k1).1 (i+1) k2;rw[k1]at k3;obtain rfl:a=a':=x5j k3;exact⟨a,e1,by omega,h3,fun b h5 h6 hb=>k5 b h5 (by omega) ((hmem b).2 ⟨by omega,hb⟩)⟩
 rcases Mm (defsN q) v (if JQ q g v=4 then []else [0]) (g.body.map S.id) i (by omega)with⟨j,h1,h2,h3,h4,h5,h6⟩|⟨h1,h2,h3⟩
 ·rw [h3];refine Tp hr fun x=>?_;rw[Fm];constructor
  ·intro hx;obtain⟨a,e1,e2,e3,e4⟩:=hone x hx;have hjl:j<g.body.length:=by omega
   have hgj:v∈WL q k g (j+1):=by
    obtain⟨t,ht,he,hR⟩:=R6 hc hk hP hpos h1;have:=A1 hc hk (t:=g.body[j]) (by rw[NM hF];exact x3w hjl) (by rw[x5t]at hR;exact hR) (nm:=v) (by rw[x5t]at h5;exact h5)
    rwa[(KC hc hk hF hjl).2]at this
   have haj:a=j+1:=by
    rcases Nat.lt_trichotomy a (j+1)with h7|h7|h7
    ·exact absurd hgj (e4 (j+1) h7 (by omega))
    ·exact h7
    ·exfalso;rcases hgiv a e3 (by omega) e2 with⟨h8,_⟩|⟨h8,h9,h10⟩
     ·omega
     ·exact h6 (a-1) h8 (by omega) (by omega) h10
   rw[e1,haj,hget];unfold QP loI;rw[if_neg (by omega),if_neg (by omega)];omega
  ·rintro rfl;rw[h4]at hex;rcases hex with h7|⟨h7,_⟩
   ·exact RB h7
   ·have:=hpos _ (x3w h1);omega
 ·rw [h1];rw[h2]at hex;have hz:∀x,(⟨x,g.body[i].id,v⟩:Fl)∈XE q k g->x=0/\v∈q6p q g.name++g.params.map Param.name:=fun x hx=>by
   obtain⟨a,e1,e2,e3,e4⟩:=hone x hx;rcases hgiv a e3 (by omega) e2 with⟨rfl,h5⟩|⟨h5,h6,h7⟩
   ·exact⟨by rw[e1];exact if_pos rfl,h5⟩
   ·exact absurd h7 (h3 (a-1) h5 (by omega))
  split
  ·rename_i h4;refine List.eq_nil_iff_forall_not_mem.2 fun x hx=>?_;obtain⟨_,h5⟩:=hz x (Fm.1 hx);have hfm:=x3k hk;rcases x3x.1 h5 with h5|h5
   ·rw [(AR hc hk).2.2]at h5;have h6:=BF.1 ((Fz hc).2.sub k v h5);have hnd:=(((Qp (QK hc).1).1 (QK hc).2.1).2 g hfm).nd;unfold JQ at h4;cases hq:g.params.find? fun a=>a.name==v with
    |some a=>rw[hq]at h4;simp only at h4;cases ha:a.ref<;>rw[ha]at h4<;>simp at h4
    | none=>
      rw[hq]at h4;simp only at h4;cases hvv:g.vars.any fun s=>v==s with
      | true=>
        have h7:v∈Jd g:=x4f _ (MQ.1 hvv);rcases h6 with h6|h6
        ·have:=Dw hc hfm h7;rw[h6,q4p]at this;cases this
        ·unfold allV at hnd;rw[x4l]at hnd;exact hnd.2.2 v h6 v h7 rfl
      | false=>
        rw[hvv]at h4;cases hg:q.globals.any fun s=>v==s<;>rw[hg]at h4<;>simp at h4
   ·unfold JQ at h4;obtain⟨a,ha,hae⟩:=x3q.1 h5;cases hq:g.params.find? fun a=>a.name==v with
    |some a=>rw[hq]at h4;simp only at h4;cases ha:a.ref<;>rw[ha]at h4<;>simp at h4
    | none=>
      have:=x6q.1 hq a ha;simp[hae]at this
  ·rename_i h4;refine Tp hr fun x=>?_;rw[Fm];exact⟨fun hx=>(hz x hx).1,fun hx=>by
    subst hx;rcases hex with h5|⟨_,h5⟩
    ·exact RB h5
    ·exact absurd h5 h4⟩
end
theorem Sq(hf:Fit p)(n:Str):(GP p n).length<=1000000000:=by
 unfold GP;split
 ·rename_i hq;exact Xl hf hq.1 (Ya (R7 hq.2))
 ·simp
theorem CL(hf:Fit p)(id:Int)(v:Str):(fromR p id v).length<=1000000000:=by
 unfold fromR;split
 ·exact x4k (Po _ _ _) (Sq hf _)
 ·simp
theorem CU(hc:QE p=true){k:Nat}{g:Pr}(hk:p.procs[k]?=some g){t:S}(ht:t∈flL g.body):(Uu p t.id).2.1=g.name:=by
 have hm:=(QK hc).1;have hb:=ZI hm hk ht;have hle:=((QJ p).2.2.2.2 _ _ hk).2.2.1;have hll:=(QJ p).2.2.2.1;obtain⟨_,_,_,_,_,_,_,ho,_⟩:=Pb hc (id:=t.id) (by omega) (by omega);unfold Uu at ho⊢;cases hr:Pd p t.id with
 |none=>rw[hr]at ho;cases ho
 | some y=>
   simp only;unfold Pd at hr;obtain⟨f,hf,h3⟩:=x7t hr;unfold CV at h3;rw[x7r]at h3;obtain⟨x,h4,rfl⟩:=h3;obtain⟨k',hk',rfl⟩:=x4t.1 hf;rw[LI hm (x3w hk')]at h4;have h5:x.s.id=t.id:=by simpa using x6n h4
   have h6:=q6v (x5n h4);obtain⟨i1,u1,u2⟩:=IS (p:=p) (j:=k) ht;obtain⟨i2,v1,v2⟩:=IS (p:=p) (j:=k') h6;have e1:=q3j hc hk u1;have e2:=q3j hc (x2n hk') v1;rw[u2]at e1;rw[v2,h5,e1]at e2;have e3:i1=i2:=x5j e2;have p1:=KK _ _ _ _ _ _ i1 u1;have p2:=KK _ _ _ _ _ _ i2 v1;rw[<-e3,p1]at p2;have e4:k=k':=by exact_mod_cast p2
   subst e4;rw[x2n hk']at hk;cases hk;rfl
mutual
theorem x0a:∀(s:S)(n:Nat),wS (nmS n s)=wS s
 | .mk id kind labels name proc x has args thn els,n=>by
   have h1:=q0h thn (n+1);have h2:=q0h els (n+1+cntL thn);rw[Nr,wS,wS];show wX x+Ma labels+1+1+BW args+wL (nmL (n+1) thn)+wL (nmL (n+1+cntL thn) els)=_;rw[h1,h2]
theorem q0h:∀(l:List S)(n:Nat),wL (nmL n l)=wL l
 |[],n=>by rw[nmL]
 |s::r,n=>by rw[nmL,wL,wL,x0a s,q0h r]
end
theorem x0c(l:List S):wL (lnL l)<=wL l:=by
 induction l with
 |nil=>exact x3g _
 | cons s r ih=>
   rw[Qw,wL];split
   ·rw[wL];have:wS (lnS s)<=wS s:=by
     rw[Mn,Mn];show wX s.x+Ma []+1+1+BW s.args+wL s.thn+wL s.els<=_;rw[Ma];omega
    omega
   ·omega
theorem O8(hf:Fit p):Fit (XF p):=by
 have key:∀(l:List Pr)(n:Nat),ER (UM n (l.map lnPr))<=ER l:=fun l=>by
  induction l with
  |nil=>intro n;exact x3g _
  | cons f r ih=>
    intro n;have h1:=ih (n+cntL (lnPr f).body);have h2:wPr ⟨(lnPr f).name,(lnPr f).params,(lnPr f).vars,nmL n (lnPr f).body,(lnPr f).fin⟩<=wPr f:=by
     have h3:=q0h (lnPr f).body n;unfold wPr;simp only;rw[h3];unfold lnPr;cases f.name==mainS with
     | true=>
       have:=x0c f.body;simp only[x3p];rw[show Ma ([]:List Str)=0 by rw[Ma]];omega
     |false=>simp only[x3t];omega
    rw[x3l,UM,ER,ER];omega
 have:=key p.procs 0;unfold Fit wPg at*
 show Ma p.globals+ER (UM 0 (p.procs.map lnPr))<=_;omega
theorem Ah(hf:Fit p)(hc:QE p=true):CopyF (YP p)/\cntP (YP p).procs<=100000:=by
 have hC:=q5a hf hc;obtain⟨_,_,c3⟩:=XJ hc;have hcl:cntP (p.procs.map lnPr)<=cntP p.procs:=by
  have key:∀l:List Pr,cntP (l.map lnPr)<=cntP l:=fun l=>by
   induction l with
   |nil=>exact x3g _
   | cons f r ih=>
     rw[x3l,cntP,cntP];have:=D7 f;omega
  exact key _
 refine⟨⟨by show(p.procs.map lnPr).length<=1000;rw[x2m];exact hC.procs,hC.globals,fun g hg=>?_⟩,by show cntP (p.procs.map lnPr)<=_;omega⟩;obtain⟨f,hfm,rfl⟩:=x3q.1 hg;obtain⟨a1,a2,a3,a4,a5⟩:=hC.pr f hfm;have hcn:=D7 f;unfold lnPr at hcn⊢;cases hq:f.name==mainS with
 |false=>exact⟨a1,a2,a3,a4,a5⟩
 | true =>
   rw [hq]at hcn;refine⟨a1,by simp,a3,x4k hcn a4,fun t ht=>?_⟩;have key:∀l:List S,(∀t∈flL l,okC t/\t.id ≠ -1)->∀t∈flL (lnL l),okC t/\t.id ≠ -1:=fun l=>by
    induction l with
    |nil=>intro _ t h;cases h
    | cons s r ih=>
      intro h t ht;have hr:=ih fun u hu=>h u (by rw[flL];exact x4f _ hu);have hs:∀u∈flS s,okC u/\u.id ≠ -1:=fun u hu=>h u (by rw[flL];exact x4h _ hu);rw[Qw]at ht;split at ht
      ·rw[flL,HI]at ht;rcases x3x.1 ht with ht|ht
       ·rcases x2i.1 ht with rfl|ht
        ·obtain⟨⟨b1,b2,b3,b4⟩,b5⟩:=hs s (by rw[HI];exact x2r);exact⟨⟨b1,by simp[lnS,S.labels],b3,b4⟩,b5⟩
        ·exact hs t (by rw[HI];exact x2c _ ht)
       ·exact hr t ht
      ·exact hr t ht
   exact key f.body a5 t ht
theorem q1p:∀(l:List S){seen m:Int},WY 1 seen l=some m->∀s∈l,oneOk s=true
 |[],_,_,_,s,hs=>by cases hs
 | a::r,seen,m,h,s,hs=>by
   obtain⟨_,m1,h2,h3⟩:=US h;rcases x2i.1 hs with rfl|hs
   ·exact(JK h2).1
   ·exact q1p r h3 s hs
theorem AW:∀(l:List S)(n:Nat),∀t∈nmL n l,∃s∈l,∃m,t=nmS m s
 |[],n,t,h=>by rw[nmL]at h;cases h
 | a::r,n,t,h=>by
   rw[nmL]at h;rcases x2i.1 h with rfl|h
   ·exact⟨a,x2r,n,rfl⟩
   ·obtain⟨s,h1,h2⟩:=AW r _ t h;exact⟨s,x2c _ h1,h2⟩
structure LineF(q:Pg)(g:Pr):Prop where
 fit:Fit q
 proc:procM q mainS=(g,true)
 cnt:g.body.length<=100000
 law:∀(i:Nat)(h:i<g.body.length)(v:Str),v∈usesN q g.body[i].id->fromR q g.body[i].id v=wantV (defsN q) v (if kindO q mainS v=4 then []else [0]) ((g.body.map S.id).take i)
theorem Sl(hf:Fit p)(hc:QE p=true):∃g,LineF (XF p) g:=by
 have hq:=O7 hc;obtain⟨k0,g,hk0,_,hn,_⟩:=Ov hq;obtain⟨k,hk,hw⟩:=TG hq (x3k hk0);obtain⟨f,hfk,hge⟩:=Lt p hk;have hfn:f.name=mainS:=by
  rw[<-hn,hge];exact((D6 f 0).name).symm
 have hfb:(f.name==mainS)=true:=by rw[hfn];exact x6u _
 have hbody:g.body=nmL (QB (p.procs.map lnPr) k) (lnL f.body):=by rw[hge];unfold lnPr;rw[hfb];rfl
 obtain⟨_,a,b,hrow⟩:=(JJ (QK hc).1).2.2.2 f (x3k hfk);have hF:FlatP g:=by
  have key:∀t∈g.body,(t.thn=[]/\t.els=[])/\t.kind<=3:=fun t ht=>by
   rw[hbody]at ht;obtain⟨u,h1,m,rfl⟩:=AW _ _ t ht;unfold lnL at h1;obtain⟨s,h2,rfl⟩:=x3q.1 h1;obtain⟨h3,h4⟩:=x4w.1 h2;have h4:=x9x h4;obtain⟨e1,e2⟩:=J4 (q1p _ hrow s h3) h4;obtain⟨g1,g2,_,_⟩:=Gp (lnS s) m;refine⟨⟨?_,?_⟩,by rw[(AK (lnS s) m).kind];exact h4⟩
   ·rw[g1,show(lnS s).thn=[]from e1,nmL]
   ·rw[g2,show(lnS s).els=[]from e2,nmL]
  exact⟨fun t ht=>(key t ht).1,fun t ht=>(key t ht).2⟩
 have hcn:=(XJ hq).2.2;have hcf:=KU _ _ (x3k hk);have hlen:=(Uk hq hk hF).2;rw[hn]at hw;obtain⟨k',f',hk',hwe,_,_,hfi⟩:=Jj hw;have hkk:k=k':=by
  have:(QQ (XF p) k g).j=(QQ (XF p) k' f').j:=by rw[hwe]
  exact this
 subst hkk;obtain rfl:g=f':=by rw[hk]at hk';exact x5j hk'
 refine⟨g,O8 hf,(AS hw hk).2,by omega,fun i h v hv=>?_⟩;have ht:g.body[i]∈flL g.body:=by rw[NM hF];exact x3w h
 have hkd:kindO (XF p) mainS v=JQ (XF p) g v:=by
  unfold kindO;rw[(QK hq).1,x3p,hfi]
 have hb:=ZI (QK hq).1 hk ht;obtain⟨_,_,_,hlen2,hsp⟩:=QJ (XF p);obtain⟨_,_,hle,_⟩:=hsp k g hk;have hfr:fromR (XF p) g.body[i].id v=DV g.body[i].id v (XE (XF p) k g):=by
  unfold fromR;rw[if_pos ⟨hq,by omega,by omega⟩,CU hq hk ht,hn,Ps hq hk hw]
 rw[hfr,hkd];exact CG hq hk hF h hv
theorem HA(p:Pg)(n:Int):SpecP prog 5 [.agg p.cells,.int .i64 n] (fun r=>r=.tt):=by
 refine sB KM func5 rfl call5 ?_;conv=>whnf
 cases hfb:q0n p with
 | false=>
   have hno:¬gPg p<=20000:=by unfold q0n at hfb;simpa using hfb
   repeat' (first|((first|(refine iM fun _=>?_)|refine cP (WF _) ?_|refine dA ?_|refine x2t rfl ?_|refine aD ?_|refine aR ?_|refine bP ?_|(refine iA fun _=>?_)|refine IdxK.xs (by omega) ?_|refine QX (by omega) ?_|(refine ByteK.at (by omega) ?_)|refine wI ?_|refine cP XT ?_);conv=>whnf)|(apply bD<;>intro _<;>first|omega|conv=>whnf)|(apply bE<;>intro _<;>first|omega|conv=>whnf)|(apply bN<;>intro _<;>conv=>whnf)|(apply bB<;>intro _<;>conv=>whnf))
   all_goals first
    |exact⟨_,.p (Sub.refl _),rfl⟩
    |(exfalso;simp_all;done)
 | true =>
   have hf:Fit p:=q6z hfb;have hfit:gPg p<=20000:=by unfold q0n at hfb;simpa using hfb
   have hS:=MH p hf 60;cases hs:Mx p 60 with
   | false=>
     rw[hs]at hS;repeat' (first|((first|(refine iM fun _=>?_)|refine cP (WF _) ?_|refine dA ?_|refine x2t rfl ?_|refine aD ?_|refine aR ?_|refine bP ?_|(refine iA fun _=>?_)|refine IdxK.xs (by omega) ?_|refine QX (by omega) ?_|(refine ByteK.at (by omega) ?_)|refine wI ?_|refine cP XT ?_|refine cP hS ?_);conv=>whnf)|(apply bD<;>intro _<;>first|omega|conv=>whnf)|(apply bE<;>intro _<;>first|omega|conv=>whnf)|(apply bN<;>intro _<;>conv=>whnf)|(apply bB<;>intro _<;>conv=>whnf))
     all_goals first
      |contradiction
      |exact⟨_,.p (Sub.refl _),rfl⟩
   | true =>
     rw[hs]at hS;have hc:=Ev hs;obtain⟨hcp,hcc⟩:=Ah hf hc;have hLn:=Zj p (q5a hf hc) hcp hcc;obtain⟨g,F⟩:=Sl hf hc;generalize XF p=q at*
     obtain⟨Ff,Fp,Fc,Fl⟩:=F;have hPr:=PP q mainS;rw[Fp]at hPr;simp only at hPr;have hgm:(S.avs g.body).length=g.body.length:=by rw[S.avs_eq,x2m]
     by_cases h0:g.body.length=0
     ·have hgm2:=hgm;repeat' (first|((first|(refine iM fun _=>?_)|refine cP (WF _) ?_|refine dA ?_|refine x2t rfl ?_|refine aD ?_|refine aR ?_|refine bP ?_|(refine iA fun _=>?_)|refine IdxK.xs (by omega) ?_|refine QX (by omega) ?_|(refine ByteK.at (by omega) ?_)|refine wI ?_|refine cP XT ?_|refine cP hS ?_|refine cP hLn ?_|refine cP hPr ?_);conv=>whnf)|(apply bD<;>intro _<;>first|omega|conv=>whnf)|(apply bE<;>intro _<;>first|omega|conv=>whnf)|(apply bN<;>intro _<;>conv=>whnf)|(apply bB<;>intro _<;>conv=>whnf))
      all_goals first
       |contradiction
       |exact⟨_,.p (Sub.refl _),rfl⟩
       |(exfalso;omega)
     have hMd:=Wi n (g.body.length:Int) (by omega);have hmr:=T5 (n:=n) (k:=(g.body.length:Int)) (by omega);obtain⟨a,ha⟩ : ∃a:Nat,Ao n g.body.length=a:=⟨(Ao n g.body.length).toNat,by omega⟩;rw[ha]at hMd;have hal:a<g.body.length:=by omega
     have hB:(S.avs g.body)[a]?=some (.agg g.body[a].cells):=by rw[S.avs_eq,x2e,x2n hal];rfl
     have hU:=Sg q Ff g.body[a].id;have Fl:=Fl a hal;have hFr:=fun v=>Gt q Ff g.body[a].id v;have hFl:=fun v=>CL Ff g.body[a].id v;have hKi:=fun v=>SF q mainS v;have hDe:=fun id=>Sk q Ff id;have hIn:=fun id v=>Jk (defsN q id) v;obtain⟨V,hV⟩ : ∃V,V=usesN q g.body[a].id:=⟨_,rfl⟩;rw[<-hV]at hU Fl;have hVm:(V.map AV.str).length=V.length:=x2m _;obtain⟨T,hT⟩ : ∃T,T=g.body.take a:=⟨_,rfl⟩;have hTa:((S.avs g.body).take a).drop 0=S.avs T:=by rw[x9t,hT,S.avs_eq,S.avs_eq,map_take]
     have hTi:(g.body.map S.id).take a=T.map S.id:=by rw[hT,map_take]
     have hTl:T.length=a:=by rw[hT,x3m];omega
     have hTm:(S.avs T).length=T.length:=by rw[S.avs_eq,x2m]
     rw[hTi]at Fl;clear hT hTi;repeat' (first|((first|(refine iM fun _=>?_)|refine cP (WF _) ?_|refine dA ?_|refine x2t rfl ?_|refine aD ?_|refine aR ?_|refine bP ?_|(refine iA fun _=>?_)|refine IdxK.xs (by omega) ?_|refine QX (by omega) ?_|(refine ByteK.at (by omega) ?_)|refine wI ?_|refine cP XT ?_|refine cP hS ?_|refine cP hLn ?_|refine cP hPr ?_|(refine CallK.pure hMd (.cons (Sub.refl _) (.cons (Sub.of_eq (by rw[hgm])) .nil)) ?_;rintro _ rfl)|refine cP hU ?_);conv=>whnf)|(apply bD<;>intro _<;>first|omega|conv=>whnf)|(apply bE<;>intro _<;>first|omega|conv=>whnf)|(apply bN<;>intro _<;>conv=>whnf)|(apply bB<;>intro _<;>conv=>whnf)|(refine IdxK.at (k:=a) rfl hB rfl ?_;conv=>whnf))
     all_goals try contradiction
     all_goals try (exfalso;omega)
     refine LoopK.inv QY (fun j:Nat=>⟨[(5,.p (.ip q.cells)),(6,.p (.ip g.cells)),(8,.p (.int .i64 a)),(45,.p (eStrs V)),(46,.p (.int .i64 (V.map AV.str).length)),(47,.p (.int .i64 j))],[]⟩) (fun j=>j<=V.length) (fun j=>V.length-j) 0 (Le.of_eq rfl) (x3z _) ?_;intro j hj;rcases x3v j V.length with hj2|hj2
     ·have Fj:=Fl V[j] (x3w hj2);have hFr:=hFr V[j];have hKi:=hKi V[j];have hIn:=fun id=>hIn id V[j];rw[Fj]at hFr;obtain⟨w0,hw0⟩ : ∃w0,w0=(if kindO q mainS V[j]=4 then([]:List Int)else [0]):=⟨_,rfl⟩;rw[<-hw0]at hFr;have hE:=YA (wantV (defsN q) V[j] w0 (T.map S.id)) (wantV (defsN q) V[j] w0 (T.map S.id));rw[x5g rfl]at hE;have hz:wantV (defsN q) V[j] w0 ((T.map S.id).take 0)=w0:=by rw[x9y];rfl
      by_cases h4:kindO q mainS V[j]=4;all_goals
       first
        |rw[if_pos h4]at hw0
        |rw[if_neg h4]at hw0
       generalize kindO q mainS V[j]=kd at*
       conv=>whnf
       repeat' (first|((first|(refine iM fun _=>?_)|refine dA ?_|refine x2t rfl ?_|refine aD ?_|refine aR ?_|refine bP ?_|(refine iA fun _=>?_)|refine IdxK.xs (by omega) ?_|refine QX (by omega) ?_|(refine ByteK.at (by omega) ?_)|refine wI ?_|refine cP hKi ?_|refine x2t (fun e he=>by rw[S.avs_eq]at he;obtain⟨x,_,rfl⟩:=x3q.1 he;rfl) ?_|refine SlK.mk 0 a rfl rfl (by omega) (by omega) ?_);conv=>whnf)|(apply bD<;>intro _<;>first|omega|conv=>whnf)|(apply bE<;>intro _<;>first|omega|conv=>whnf)|(apply bN<;>intro _<;>conv=>whnf)|(apply bB<;>intro _<;>conv=>whnf))
       all_goals try contradiction
       all_goals try (exfalso;omega)
       rw [hTa];refine LoopK.inv QY (fun m:Nat=>⟨[(5,.p (.ip q.cells)),(6,.p (.ip g.cells)),(8,.p (.int .i64 a)),(10,.p (.str V[j])),(11,.p (QO (wantV (defsN q) V[j] w0 ((T.map S.id).take m)))),(45,.p (eStrs V)),(46,.p (.int .i64 (V.map AV.str).length)),(47,.p (.int .i64 j)),(59,.p (.sl (S.avs T))),(60,.p (.int .i64 (S.avs T).length)),(61,.p (.int .i64 m))],[]⟩) (fun m=>m<=T.length) (fun m=>T.length-m) 0
        (by first
          |exact Le.of_eq (by rw[hz,hw0];rfl)
          | (rw[hz,hw0]
             exact Le.mk [] (by simp) (by simp) (by simp) (.r (.r (.r (.r (.cons (.p Sub.nils) (.r (.r (.r (.r (.r (.r .nil))))))))))) .nil)
          |trace_state) (x3z _) ?_
       intro m hm;rcases x3v m T.length with hm2|hm2
       ·have hst:wantV (defsN q) V[j] w0 ((T.map S.id).take (m+1))=bif inS (defsN q T[m].id) V[j]then [T[m].id]else wantV (defsN q) V[j] w0 ((T.map S.id).take m):=by
         rw[x3u (by rw[x2m];exact hm2),Hk,x5t]
        have hD1:=hDe T[m].id;have hI1:=hIn T[m].id;generalize wantV (defsN q) V[j] w0 ((T.map S.id).take m)=cur at*
        cases hd:inS (defsN q T[m].id) V[j];all_goals
         rw[hd]at hI1 hst;conv=>whnf
         repeat' (first|((first|(refine iM fun _=>?_)|refine dA ?_|refine x2t rfl ?_|refine aD ?_|refine aR ?_|refine bP ?_|(refine iA fun _=>?_)|refine IdxK.xs (by omega) ?_|refine QX (by omega) ?_|(refine ByteK.at (by omega) ?_)|refine wI ?_|refine cP hD1 ?_|refine cP hI1 ?_);conv=>whnf)|(apply bD<;>intro _<;>first|omega|conv=>whnf)|(apply bE<;>intro _<;>first|omega|conv=>whnf)|(apply bN<;>intro _<;>conv=>whnf)|(apply bB<;>intro _<;>conv=>whnf))
         all_goals first
          |contradiction
          |exact⟨m+1,hm2,by omega,Le.of_eq (by rw[hst];rfl)⟩
       ·rw[x3f (show(T.map S.id).length<=m by rw[x2m];exact hm2)];conv=>whnf
        repeat' (first|((first|(refine iM fun _=>?_)|refine dA ?_|refine x2t rfl ?_|refine aD ?_|refine aR ?_|refine bP ?_|(refine iA fun _=>?_)|refine IdxK.xs (by omega) ?_|refine QX (by omega) ?_|(refine ByteK.at (by omega) ?_)|refine wI ?_|refine cP hFr ?_|refine cP hE ?_);conv=>whnf)|(apply bD<;>intro _<;>first|omega|conv=>whnf)|(apply bE<;>intro _<;>first|omega|conv=>whnf)|(apply bN<;>intro _<;>conv=>whnf)|(apply bB<;>intro _<;>conv=>whnf)|(refine IdxK.at (k:=a) rfl hB rfl ?_;conv=>whnf))
        all_goals first
         |contradiction
         |exact⟨j+1,hj2,by omega,Le.of_eq rfl⟩
         |(exfalso;omega)
     ·conv=>whnf
      repeat' (first|((first|(refine iM fun _=>?_)|refine dA ?_|refine x2t rfl ?_|refine aD ?_|refine aR ?_|refine bP ?_|(refine iA fun _=>?_)|refine IdxK.xs (by omega) ?_|refine QX (by omega) ?_|(refine ByteK.at (by omega) ?_)|refine wI ?_);conv=>whnf)|(apply bD<;>intro _<;>first|omega|conv=>whnf)|(apply bE<;>intro _<;>first|omega|conv=>whnf)|(apply bN<;>intro _<;>conv=>whnf)|(apply bB<;>intro _<;>conv=>whnf))
      all_goals first
       |contradiction
       |exact⟨_,.p (Sub.refl _),rfl⟩
       |exact⟨_,.p (Lz rfl),rfl⟩
end Go.Ab
