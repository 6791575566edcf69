/- graph: how many nodes, who is next; solve: each list's set. -/
import Derived.Laws.StructEq
import Derived.ChangeKeysEq
import Derived.Test.YtmfnbgbblkhneaaGreatRchL4
import Derived.Test.YtmfnbgbblkhneaaGreatRchL6
import Derived.Test.YtmfnbgbblkhneaaGreatRchL8
import Derived.Test.YtmfnbgbblkhneaaGreatRchL9
import Derived.Test.YtmfnbgbblkhneaaGreatRchL10
import Derived.Test.YtmfnbgbblkhneaaGreatRchL13
set_option linter.unusedSimpArgs false
set_option linter.unusedVariables false
set_option maxRecDepth 100000
set_option maxHeartbeats 16000000
open Nat (beq)
namespace Go.Ab
open Go.Proofs.Tryz
open Go.Proofs
variable {K:St->Prop}{N i j k sz:Nat}{P:Program}{T:Tab}{e:TypeId}{es:List AV}{f:Pr}{it:Item}{o:Oper}{p:Pg}{s:St}{σ:Mem}
theorem Uo(g:List (List Int)×List (List Int)):SpecP prog 237 [VW g] (fun r=>r=.int .i64 g.1.length):=by
 refine sB Xu func237 rfl call237 ?_;conv=>whnf
 have hl:((avI g.1).map AV.sl).length=g.1.length:=by unfold avI;rw[x2m,x2m]
 repeat' (first|((first|(refine iM fun _=>?_)|refine dA ?_|refine x2t rfl ?_|refine aD ?_|refine aR ?_|refine bP ?_|(refine iA fun _=>?_)|refine IdxK.xs (by omega) ?_|refine QX (by omega) ?_|(refine ByteK.at (by omega) ?_)|refine wI ?_);conv=>whnf)|(apply bD<;>intro _<;>first|omega|conv=>whnf)|(apply bE<;>intro _<;>first|omega|conv=>whnf)|(apply bN<;>intro _<;>conv=>whnf)|(apply bB<;>intro _<;>conv=>whnf))
 all_goals first
  |exact RetK.int (by rw[hl])
theorem DO(l:List Int)(hl:l.length<=1000000):SpecP prog 267 [QO l] (fun r=>r=QO l):=by
 refine sB GO func267 rfl call267 ?_;conv=>whnf
 have hlm:(l.map (AV.int .i64)).length=l.length:=x2m _;repeat' (first|((first|(refine iM fun _=>?_)|refine dA ?_|refine x2t rfl ?_|refine aD ?_|refine aR ?_|(refine iA fun _=>?_)|refine IdxK.xs (by omega) ?_|refine QX (by omega) ?_|(refine ByteK.at (by omega) ?_)|refine wI ?_|refine K8 QY rfl rfl rfl rfl (fun q hq=>?_)|refine x9b (fun x hx=>by cases hx) rfl ?_|refine x6y (n:=0) rfl rfl (by show _*8<=140737488355328;omega) (by show _<=9223372036854775807;omega) (fun x hx=>by obtain⟨y,_,rfl⟩:=x3q.1 hx;exact⟨rfl,rfl⟩) ?_);conv=>whnf)|(apply bD<;>intro _<;>first|omega|conv=>whnf)|(apply bE<;>intro _<;>first|omega|conv=>whnf)|(apply bN<;>intro _<;>conv=>whnf)|(apply bB<;>intro _<;>conv=>whnf))
 all_goals first
  |exact⟨_,.p Sub.nils,by rw[x8b.1 (hq (by assumption))];rfl⟩
  |exact⟨_,.hd rfl (by simp),rfl⟩
theorem Wt(g:List (List Int)×List (List Int))(a:Int)(hl:∀r∈g.1,r.length<=1000000):SpecP prog 238 [VW g,.int .i64 a] (fun r=>r=QO (if ZF g.1.length a=true then g.1.getD a.toNat []else [])):=by
 refine sB MI func238 rfl call238 ?_;conv=>whnf
 have hH:=DG g a;cases hb:ZF g.1.length a with
 | false=>
   rw[hb]at hH;repeat' (first|((first|(refine iM fun _=>?_)|refine dA ?_|refine x2t rfl ?_|refine aD ?_|refine aR ?_|refine bP ?_|(refine iA fun _=>?_)|refine IdxK.xs (by omega) ?_|refine QX (by omega) ?_|(refine ByteK.at (by omega) ?_)|refine wI ?_|refine cP hH ?_);conv=>whnf)|(apply bD<;>intro _<;>first|omega|conv=>whnf)|(apply bE<;>intro _<;>first|omega|conv=>whnf)|(apply bN<;>intro _<;>conv=>whnf)|(apply bB<;>intro _<;>conv=>whnf))
   all_goals first
    |contradiction
    |exact⟨_,.p Sub.nils,rfl⟩
 | true=>
   rw[hb]at hH;have hr:0<=a/\a<g.1.length:=by
    unfold ZF at hb;simpa using hb
   have hlt:a.toNat<g.1.length:=by omega
   have hg:((avI g.1).map AV.sl)[a.toNat]?=some (QO (g.1.getD a.toNat [])):=by
    unfold avI;rw[x2e,x2e,x2l,x2n hlt];rfl
   have hC:=DO (g.1.getD a.toNat []) (by rw[x2l,x2n hlt];exact hl _ (x3w hlt));rw[if_pos rfl];generalize g.1.getD a.toNat []=row at*
   repeat' (first|((first|(refine iM fun _=>?_)|refine dA ?_|refine x2t rfl ?_|refine aD ?_|refine aR ?_|refine bP ?_|(refine iA fun _=>?_)|refine IdxK.xs (by omega) ?_|refine QX (by omega) ?_|(refine ByteK.at (by omega) ?_)|refine wI ?_|refine cP hH ?_|(refine IdxK.at (k:=a.toNat) (by omega) hg rfl ?_)|refine cP hC ?_);conv=>whnf)|(apply bD<;>intro _<;>first|omega|conv=>whnf)|(apply bE<;>intro _<;>first|omega|conv=>whnf)|(apply bN<;>intro _<;>conv=>whnf)|(apply bB<;>intro _<;>conv=>whnf))
   all_goals first
    |contradiction
    |exact⟨_,.p (Sub.refl _),rfl⟩
def eWm(m:List (List Wd)):List (List AV):=m.map fun r=>r.map eW
def LC(m:List (List Wd)):AV:=.sl ((eWm m).map .sl)
def I3(w:Nat)(l:List (List Int))(i:Nat):List (List Wd):=(l.take i).map (HL w)++List.replicate (l.length-i) []
theorem OM(w:Nat)(l:List (List Int))(h:i<=l.length):(I3 w l i).length=l.length:=by
 unfold I3;rw[x2s,x2m,x3m,x5x];omega
theorem OL(w:Nat)(l:List (List Int))(h:i<l.length):(I3 w l i).set i (HL w l[i])=I3 w l (i+1):=by
 unfold I3;have hl:((l.take i).map (HL w)).length=i:=by rw[x2m,x3m];omega
 rw[x6h _ _ (by omega),hl,x7l,show l.length-i=(l.length-(i+1))+1 by omega,x7o,x6b,x3u h,x3y,x3s];rfl
theorem Sc{N':Nat}{sl:List (Nat×LV)}(n:Nat)(h0:(sl.all fun x=>x.2.xfree 0)=true):
  Le N' ⟨sl,[(0,.own 270 1 (List.replicate n .nils))]⟩ ⟨sl,[(0,.ext (.mat 270 255 1 (List.replicate n []) []))]⟩:=by
 have hm:=LH (N:=N') (sl:=sl) (H:=[(0,.own 270 1 (List.replicate n .nils))])
  (H':=[(0,.ext (.mat 270 255 1 (List.replicate (List.replicate n AV.nils).length []) []))])
  0 255 1 (e:=270) (es:=List.replicate n .nils) rfl (fun x hx=>x6j hx) rfl h0 rfl rfl (by simp[GM])
 simpa using hm
theorem H6(l:List (List Int))(hl:l.length<=5000)(hr:∀r∈l,r.length<=5000)(most:Nat)(hm:most<=5000)(hf:∀r∈l,∀f∈r,0<=f/\f<most):SpecP prog 197 [eMat l,.int .i64 most] (fun r=>r=.tup [LC (l.map (HL (most/64+1))),.tt]):=by
 refine sB Bs func197 rfl call197 ?_;conv=>whnf
 have hlm:((avI l).map AV.sl).length=l.length:=by unfold avI;rw[x2m,x2m]
 obtain⟨w,hw⟩ : ∃w,w=most/64+1:=⟨_,rfl⟩;rw[<-hw];have e7:=Io most;repeat' (first|((first|(refine iM fun _=>?_)|refine dA ?_|refine x2t rfl ?_|refine aD ?_|refine aR ?_|refine bP ?_|(refine iA fun _=>?_)|refine IdxK.xs (by omega) ?_|refine QX (by omega) ?_|(refine ByteK.at (by omega) ?_)|refine wI ?_|refine x8v l.length (by omega) (by show 24*_<=140737488355328;omega) (by unfold maxLen;omega) ?_);conv=>whnf)|(apply bD<;>intro _<;>first|omega|conv=>whnf)|(apply bE<;>intro _<;>first|omega|conv=>whnf)|(apply bN<;>intro _<;>conv=>whnf)|(apply bB<;>intro _<;>conv=>whnf))
 refine LoopK.inv QY (fun i:Nat=>⟨[(1,.p (.int .i64 most)),(6,.hd 0 0 l.length),(14,.p (eMat l)),(15,.p (.int .i64 l.length)),(16,.p (.int .i64 i))],[(0,.ext (.mat 270 255 1 (eWm (I3 w l i)) []))]⟩) (fun i=>i<=l.length) (fun i=>l.length-i) 0
  (by
    refine Le.trans (Sc l.length rfl) ?_;exact Le.mk [] (by simp) (by simp) (by simp) (.r (.r (.r (.cons (.of_eq (by rw[hlm];rfl)) (.r .nil))))) (.cons rfl (.of_eq (by simp[eWm,I3])) .nil)) (x3z _) ?_
 intro i hi;rcases x3v i l.length with h1|h1
 ·have hsl:=OM w l hi;have hst:=OL w l h1;have hrl:=hr _ (x3w h1);have hfi:=hf _ (x3w h1);have hge:((avI l).map AV.sl)[i]?=some (QO l[i]):=by unfold avI;rw[x2e,x2e,x2n h1];rfl
  generalize I3 w l i=rows at hsl hst⊢;generalize l[i]=fs at hst hrl hfi hge;have hel:(eWm rows).length=l.length:=by unfold eWm;rw[x2m,hsl]
  have hfl:(fs.map (AV.int .i64)).length=fs.length:=x2m _;conv=>whnf
  repeat' (first|((first|(refine iM fun _=>?_)|refine dA ?_|refine x2t rfl ?_|refine aD ?_|refine aR ?_|refine bP ?_|(refine iA fun _=>?_)|refine IdxK.xs (by omega) ?_|refine QX (by omega) ?_|(refine ByteK.at (by omega) ?_)|refine x2t (by decide) ?_|refine Wr.i64 (by first|omega|(rw[e7];omega)) (by first|omega|(rw[e7];omega)) ?_|(refine IdxK.at (k:=i) rfl hge rfl ?_)|refine x8v w (by rw[hw,e7];omega) (by show 8*_<=140737488355328;omega) (by unfold maxLen;omega) ?_|refine x4j i rfl h1 ?_|(refine FA QY rfl rfl rfl rfl rfl rfl rfl rfl rfl (by decide) i [] (by omega) (by omega) (by simp) ⟨by simp,by simp,by simp⟩ ?_));conv=>whnf)|(apply bD<;>intro _<;>first|omega|conv=>whnf)|(apply bE<;>intro _<;>first|omega|conv=>whnf)|(apply bN<;>intro _<;>conv=>whnf)|(apply bB<;>intro _<;>conv=>whnf))
  have hav:∀h,(avI l)[i]'h=fs.map (.int .i64):=fun h=>by
   have h2:=hge;rw[x2e,x2n h]at h2;have h3:AV.sl (avI l)[i]=.sl (fs.map (.int .i64)):=x5j h2;exact(AV.sl.inj h3)
  simp only[hav];refine LoopK.inv QY (fun j:Nat=>⟨[(1,.p (.int .i64 most)),(6,.hd 0 0 l.length),(7,.p (.int .i64 i)),(14,.p (eMat l)),(15,.p (.int .i64 l.length)),(16,.p (.int .i64 i)),(28,.p (QO fs)),(29,.p (.int .i64 (fs.map (AV.int .i64)).length)),(30,.p (.int .i64 j))],[(0,.ext (.mat 270 255 1 ((eWm rows).set i ((HL w (fs.take j)).map eW)) []))]⟩) (fun j=>j<=fs.length) (fun j=>fs.length-j) 0
   (Le.of_eq (by simp[HL];exact⟨⟨rfl,rfl⟩,rfl⟩)) (x3z _) ?_
  intro j hj;rcases x3v j fs.length with h2|h2
  ·obtain⟨hf0,hf1⟩:=hfi _ (x3w h2);have hsu:=E3 w fs h2;have hrw:=Vg w (fs.take j);have hfj:fs[j]=((fs[j].toNat:Nat):Int):=by omega
   have hg2:(fs.map (AV.int .i64))[j]?=some (.int .i64 fs[j]):=by rw[x2e,x2n h2];rfl
   generalize HL w (fs.take j)=ws at*
   have hput:=K3 ws fs[j].toNat (by rw[hrw,hw];omega) (by omega);rw[<-hfj,<-hsu]at hput;have hpl:(HL w (fs.take (j+1))).length=ws.length:=by rw[Vg,hrw]
   generalize hws:HL w (fs.take (j+1))=ws' at*
   have hwm:(ws.map eW).length=ws.length:=x2m _;have hput2:SpecH prog 236 [.hd 1000 0 (ws.map eW).length,.p (.int .i64 fs[j])] ((1000,.own 255 1 (ws.map eW))::bif false then [(1001,.own 0 0 [])]else []) (fun r H=>(∃b,r=.p (.bool b))/\H=[wsH 1000 ws']):=by rw[hwm];exact hput
   have hrow:((eWm rows).set i (ws.map eW))[i]?=some (ws.map eW):=x5w (by omega);have hss:((eWm rows).set i (ws.map eW)).set i (ws'.map eW)=(eWm rows).set i (ws'.map eW):=List.set_set _;conv=>whnf
   repeat' (first|((first|(refine iM fun _=>?_)|refine dA ?_|refine x2t rfl ?_|refine aD ?_|refine aR ?_|refine bP ?_|(refine iA fun _=>?_)|refine IdxK.xs (by omega) ?_|refine QX (by omega) ?_|(refine ByteK.at (by omega) ?_)|refine wI ?_|(refine IdxK.at (k:=j) rfl hg2 rfl ?_)|refine x4j i rfl h1 ?_|refine RowK.mk i (ws.map eW) (by omega) hrow (by simp) ?_|(refine Zb 0 i 0 false (ws'.map eW) (S:=fun c=>∃b,c=.bool b) (.row (.p (Sub.refl _) .nil)) hput2 rfl hrow (by omega) (fun h=>by cases h) (fun l' H' hh=>by obtain⟨⟨b,hb⟩,hH⟩:=hh;exact⟨_,hb,⟨b,rfl⟩,hH⟩) (by rw[x2m,x2m,hpl]) ?_;rintro _ ⟨b,rfl⟩));conv=>whnf)|(apply bD<;>intro _<;>first|omega|conv=>whnf)|(apply bE<;>intro _<;>first|omega|conv=>whnf)|(apply bN<;>intro _<;>conv=>whnf)|(apply bB<;>intro _<;>conv=>whnf)|(refine x2t ?_ ?_<;>conv=>whnf))
   all_goals first
    |(exfalso;omega)
    |exact⟨j+1,h2,by omega,Le.of_eq (by rw[hss,hws];rfl)⟩
  ·have hall:fs.take j=fs:=x3f h2;rw[hall];have hme:(eWm rows).set i ((HL w fs).map eW)=eWm (rows.set i (HL w fs)):=by unfold eWm;rw[x4m]
   rw[hme,hst];conv=>whnf
   repeat' (first|((first|(refine iM fun _=>?_)|refine dA ?_|refine x2t rfl ?_|refine aD ?_|refine aR ?_|refine bP ?_|(refine iA fun _=>?_)|refine IdxK.xs (by omega) ?_|refine QX (by omega) ?_|(refine ByteK.at (by omega) ?_)|refine wI ?_);conv=>whnf)|(apply bD<;>intro _<;>first|omega|conv=>whnf)|(apply bE<;>intro _<;>first|omega|conv=>whnf)|(apply bN<;>intro _<;>conv=>whnf)|(apply bB<;>intro _<;>conv=>whnf))
   all_goals first
    |(exfalso;omega)
    |exact⟨i+1,h1,by omega,Le.of_eq rfl⟩
 ·obtain rfl:i=l.length:=by omega
  have hall:I3 w l l.length=l.map (HL w):=by unfold I3;rw[x8x,x7l];simp
  rw[hall];conv=>whnf
  repeat' (first|((first|(refine iM fun _=>?_)|refine dA ?_|refine x2t rfl ?_|refine aD ?_|refine aR ?_|refine bP ?_|(refine iA fun _=>?_)|refine IdxK.xs (by omega) ?_|refine QX (by omega) ?_|(refine ByteK.at (by omega) ?_)|refine wI ?_);conv=>whnf)|(apply bD<;>intro _<;>first|omega|conv=>whnf)|(apply bE<;>intro _<;>first|omega|conv=>whnf)|(apply bN<;>intro _<;>conv=>whnf)|(apply bB<;>intro _<;>conv=>whnf))
  all_goals exact⟨_,.tup (cs:=[LC (l.map (HL w)),.tt]) rfl (fun q u c hq hc=>by
   match q,hq,hc with
   |0,hq,hc=>cases hq;cases hc;exact .mat rfl (by unfold eWm;simp)
   |1,hq,hc=>cases hq;cases hc;exact .p (Sub.refl _)
   |q+2,hq,_=>simp at hq),rfl⟩
theorem RepE.drop{vs:List Value}(h:RepE σ sz es vs)(k:Nat):RepE σ sz (es.drop k) (vs.drop (k*sz)):=by
 refine⟨by rw[x5f,x5f,h.len,Nat.sub_mul],fun i e hi=>?_,fun i e j c hi hj=>?_⟩
 ·rw[x4c]at hi;exact h.size _ e hi
 ·rw[x4c]at hi;obtain⟨u,hu,hr⟩:=h.rep _ e j c hi hj;exact⟨u,by rw[x4c,<-x6z,<-x5d];exact hu,hr⟩
theorem Fx{β:Lab}{w:World}{ie:TyI}{xs:List AV}(t ty:TypeId)(ht:P.underlying t=some (.slice e))(hie:TyOK P e ie)(hz:ie.zero.cells.size=ie.size)(hown:(Chunk.own e ie.size es).holds σ β w k){off n:Nat}(hoff:0<off)(hn:off+n=es.length){v:Value}(hv:RepL σ β (.hd k off n) v){x:Value}{news:List Value}{ad:Addr}{c:Nat}(hx:x=.slice (some ad) xs.length c)(hcell:∀(j:Nat)(u:Value),news[j]?=some u->w.cell? (ad.add j)=some u)(hnews:RepE σ ie.size xs news)(h1:∀u∈news,u.oneCell'=true)(hxs:0<xs.length)(h63:n+xs.length<=maxLen)(hbytes:(n+xs.length)*ie.bytes<=140737488355328)(hlt:∀i,β k=some i->∀b,i.has b->b<w.heap.size):
  ∃v' w' i',(Builtin.append_ #[t,t] ty #[v,x]).run P w=.ok v' w'/\Frm (fun b=>∃i,β k=some i/\i.has b) w w'/\
   (∀i,i'=some i->∀b,i.has b->b<w'.heap.size/\((∃i0,β k=some i0/\i0.has b)\/w.heap.size<=b))/\
   (((Chunk.own e ie.size (es++xs)).holds σ (β.set k i') w' k/\RepL σ (β.set k i') (.hd k off (n+xs.length)) v')\/
     ((Chunk.own e ie.size (es.drop off++xs)).holds σ (β.set k i') w' k/\RepL σ (β.set k i') (.hd k 0 (n+xs.length)) v')):=by
 obtain⟨fi,hfi,hfs,hfb,hfz⟩:=hie.getInfo;have hsetk:∀i':Option BInfo,(β.set k i') k=i':=fun i'=>by simp[Lab.set]
 have hmax:(n+xs.length:Nat)<=(9223372036854775807:Int):=by simp only[maxLen]at h63;omega
 rcases ZL.1 hown with⟨hb0,rfl⟩|⟨i,vs,hi,hisz,hh,hvs,hlen,hcapm,hE⟩
 ·simp at hn;omega
 rcases hv.hdI with⟨hk,_⟩|⟨i',o,hk,hl,ho,hvv⟩
 ·rw[hi]at hk;cases hk
 rw[hi]at hk;cases hk;subst hx hvv;have hnl:=hnews.len;by_cases hroom:n+xs.length<=i.cap-off
 ·have hoo:o=off*ie.size:=by
   rcases ho with ho|ho
   ·rw[<-hisz];exact ho
   ·omega
  subst hoo;have hrm:es.length+xs.length<=i.cap:=by omega
  have e1:off*ie.size+n*ie.size=es.length*ie.size:=by rw[<-x5d,hn]
  have hfit:off*ie.size+n*ie.size+news.length<=vs.size:=by rw[e1,hnl,hvs,<-x5d];exact x4s _ hrm
  have hr:(Builtin.append_ #[t,t] ty #[.slice (some ⟨i.blk,off*ie.size,none⟩) n (i.cap-off),.slice (some ad) xs.length c]).run P w =
    .ok (.slice (some ⟨i.blk,off*ie.size,none⟩) (n+xs.length) (i.cap-off)) (w.setRow i.blk (vs.toList.take (off*ie.size+n*ie.size)++news++vs.toList.drop (off*ie.size+n*ie.size+news.length)).toArray):=by
   have hf:=run_firstCells_some (P:=P) w fi.size xs.length ad xs.length c news (by rw[hfs];exact hnl) hcell;rw[hfs]at hf;have hst:=run_storeCells_at P i.blk (off*ie.size+n*ie.size) e news 0 vs w hh (by simpa using hfit) h1;simp only[x8u]at hst;simp[Builtin.append_,run_underlying ht,sizeOf,typeInfo,hfi,Builtin.lenOf,hroom,hf,JP,hfs,hst]
  have hb:β.set k (some i)=β:=by funext j;unfold Lab.set;split<;>simp_all
  refine⟨_,_,some i,hr,⟨rfl,rfl,rfl,x3g _,by simp,fun b _ hnb=>setRow_other w i.blk b _ fun he=>hnb ⟨i,hi,.inl he.symm⟩⟩,fun i1 h1 b hb=>?_,.inl ⟨?_,?_⟩⟩
  ·cases h1;exact⟨by simpa using hlt i hi b hb,.inl ⟨i,hi,hb⟩⟩
  ·rw[hb,e1];refine ZL.2 (.inr ⟨i,_,hi,hisz,setRow_heap w i.blk vs _ e _ hh,?_,by simpa using hrm,hcapm,?_⟩)
   ·simp only[x6l,x2s,x3m,x5f,x5b];omega
   ·have hAll:=hE.append hnews;rw[show(vs.toList.take (es.length*ie.size)++news++vs.toList.drop (es.length*ie.size+news.length)).toArray.toList.take ((es++xs).length*ie.size)=vs.toList.take (es.length*ie.size)++news by
     rw[<-hAll.len];simp only[List.take_left]]
    exact hAll
  ·rw[hb];exact .hd k off (n+xs.length) i (off*ie.size) hi (by omega) (.inl (by rw[hisz]))
 ·obtain⟨olds,hO,hcells⟩ : ∃olds,RepE σ ie.size (es.drop off) olds/\∀(j:Nat)(u:Value),olds[j]?=some u->w.cell? ((⟨i.blk,o,none⟩:Addr).add j)=some u:=by
   refine⟨_,hE.drop off,fun j u hu=>?_⟩;have hu0:=hu;rw[x4c,x4g]at hu;rcases ho with ho|ho
   ·rw[JP,ho,hisz];split at hu
    ·simp only[World.cell?,hh];simpa using hu
    ·cases hu
   ·have hn0:n=0:=by omega
    split at hu
    ·rename_i hlt2;have:es.length=off:=by omega
     rw[this]at hlt2;omega
    ·cases hu
  have hdl:(es.drop off).length=n:=by rw[x5f];omega
  have hr:=run_append_grow (P:=P) w t ty e fi ie.zero ht hfi hfz ⟨i.blk,o,none⟩ n (i.cap-off) olds (by rw[hfs,hO.len,hdl]) hcells ad xs.length c news (by rw[hfs];exact hnl) hcell (by omega) hmax (by rw[hfb];exact growslice_fits (by omega) hbytes);have hge:=grownCap_ge w (n+xs.length) (i.cap-off) e;have hcm:=grownCap_le_maxLen w (n+xs.length) (i.cap-off) e h63;generalize grownCap w (n+xs.length) (i.cap-off) e=cap at hge hcm hr;have hsz:(w.drew.alloc (.cells (olds.toArray++news.toArray++Builtin.zeroCells ie.zero.cells (cap-(n+xs.length))) e)).heap.size=w.heap.size+1:=by
   show(w.heap.push _).size=_;simp
  have hAll:=hO.append hnews;have hnew:(w.drew.alloc (.cells (olds.toArray++news.toArray++Builtin.zeroCells ie.zero.cells (cap-(n+xs.length))) e)).heap[w.heap.size]?=some (.cells (olds.toArray++news.toArray++Builtin.zeroCells ie.zero.cells (cap-(n+xs.length))) e (0,0)):=heap_alloc_new w.drew _;refine⟨_,_,some ⟨w.heap.size,cap,ie.size,[],hcm⟩,hr,⟨rfl,rfl,rfl,Nat.le_succ _,by omega,fun b hb _=>by first|exact heap_alloc_old w.drew _ b hb|exact heap_alloc_old w.drew _ hb⟩,fun i hi b hb=>?_,.inr ⟨ZL.2 (.inr ⟨⟨w.heap.size,cap,ie.size,[],hcm⟩,_,hsetk _,rfl,hnew,?_,by rw[x2s,hdl];exact hge,hcm,?_⟩),?_⟩⟩
  ·cases hi;rw[MM]at hb;exact⟨by omega,.inr (by omega)⟩
  ·simp only[Array.size_append,x6l,size_zeroCells,hz,hO.len,hnl,hdl];rw[<-x5d,<-x5d];congr 1;omega
  ·rw[show(olds.toArray++news.toArray++Builtin.zeroCells ie.zero.cells (cap-(n+xs.length))).toList.take ((es.drop off++xs).length*ie.size)=olds++news by
    rw[<-hAll.len];simp only[Array.toList_append];exact List.take_left]
   exact hAll
  ·have:=x9s (σ:=σ) (β:=β.set k (some ⟨w.heap.size,cap,ie.size,[],hcm⟩)) k 0 (n+xs.length) ⟨w.heap.size,cap,ie.size,[],hcm⟩ 0 (hsetk _) (by simpa using hge) (.inl (by simp));simpa using this
theorem TS(hT:TabOK P T){x y:Operand}{t:TypeId}(hop:o.op=.call {callee:=.builtin .append,args:=#[x,y],argTypes:=#[t,t]}){off n:Nat}(hx:QM s.sl x=.hd k off n)(hoff:0<off){i ie:TyI}(ht:T.get t=some i)(hd:i.desc=.slice e)(hie:T.get e=some ie)(hg:getH s.H k=some (.own e sz es))(hsz:sz=ie.size)(hz:ie.zero.cells.size=ie.size)(hpos:0<ie.size)(hn:off+n=es.length){xs:List AV}(hy:QM s.sl y=.p (.sl xs))(hxl:0<xs.length)(hxs:∀x∈xs,x.cells.length=ie.size/\x.cells.all AV.one=true)(h63:n+xs.length<=maxLen)(hb:(n+xs.length)*ie.bytes<=140737488355328)(h1:q5y k <|Yz s.sl k fun sl=>DB s.H k (.own e sz (es++xs)) fun H=>setD N sl o.dst (.hd k off (n+xs.length)) fun sl=>K ⟨sl,H⟩)(h2:q5y k <|Yz s.sl k fun sl=>DB s.H k (.own e sz (es.drop off++xs)) fun H=>setD N sl o.dst (.hd k 0 (n+xs.length)) fun sl=>K ⟨sl,H⟩):OpK P N s o K:=by
 refine⟨fun σ β a w hr Q=>?_⟩;subst hsz;have hx':=QZ hr.slots x;rw[hx]at hx';have hu:=hT.of ht;rw[hd]at hu;have hlab:=QN hg;obtain⟨xs2,m,⟨rfl,rfl⟩,hsrc⟩:=Ta hr (y:=y) (C:=fun ys m=>ys=xs/\m=xs.length) (sz:=ie.size) (by unfold q1m;rw[hy];exact⟨rfl,rfl⟩) hpos;obtain⟨news,hyv,hE⟩:=hsrc rfl fun x hx=>(hxs x hx).1;have hone:=hE.oneAll hpos fun x hx=>(hxs x hx).2;rcases hyv with⟨_,hnn⟩|⟨ad,c,hyv,hcell⟩
 ·have:=hE.len;rw[hnn,x7g]at this;rcases Nat.mul_eq_zero.1 this.symm with h|h<;>omega
 obtain⟨v',w',i',hrun,hfrm,hi',hcases⟩:=Fx (P:=P) t o.type hu (hT _ _ hie) hz (hr.heap.chunks k _ (QG hg)) hoff hn hx' hyv hcell hE hone hxl h63 hb (fun i hi b hb=>(hr.heap.apart k hlab i hi b hb).2);have fin:∀(es':List AV)(off':Nat),(Chunk.own e ie.size es').holds σ (β.set k i') w' k->RepL σ (β.set k i') (.hd k off' (n+xs2.length)) v'->(q5y k <|Yz s.sl k fun sl=>DB s.H k (.own e ie.size es') fun H=>setD N sl o.dst (.hd k off' (n+xs2.length)) fun sl=>K ⟨sl,H⟩)->
   o.wp P a w (fun a' w'=>∃σ' β' s',K s'/\Rel N σ' β' s' a' w'/\Later σ β s.H w σ' β' s'.H w') Q:=fun es' off' hch hv' hK=>by
  obtain⟨hpk,hK⟩:=M2 hK;obtain⟨sl1,hK,hs1⟩:=NE hK;obtain⟨H1,hK,hH1,hH2,hH3⟩:=HH hK;obtain⟨hh,hl⟩:=Nv hr.heap hpk hlab hfrm hi' hH1 (fun j c hj hne=>by
   obtain⟨c0,h1,rfl⟩:=hH2 j c hj hne;exact⟨Chunk.kill_free k c0,(hr.heap.chunks j c0 h1).kill k⟩) (fun c hc=>by rw[hH3 c hc];exact hch)
  have hrel:Rel N σ (β.set k i') ⟨sl1,H1⟩ a w':=⟨hr.size,hr.defers,fun i=>by
   obtain⟨h1,h2⟩:=hs1 i;have:RepL σ β (getS sl1 i) (a.tmps.getD i undef):=by
    rcases h1 with h1|h1
    ·rw[h1];exact hr.slots i
    ·rw[h1];exact .p (.any _)
   exact this.set i' h2,hh⟩
  obtain⟨sl,hK,hr'⟩:=hrel.setD hv' hK;refine XS (w':=w') ?_ ⟨σ,_,_,hK,hr',hl⟩;simp[execOp,hop,resolve,invoke,builtin,hrun]
 rcases hcases with⟨g1,g2⟩|⟨g1,g2⟩
 ·exact fin _ _ g1 g2 h1
 ·exact fin _ _ g1 g2 h2
def TI(k t:Nat)(cs:List AV):List (Nat×LV)->(List (Nat×LV)->Prop)->Prop
 |[],K=>K []
 |(j,l)::r,K=>bif beq j t then TI k t cs r fun r=>K ((j,.p (.agg cs))::r)else YF (l.kill k) fun l=>TI k t cs r fun r=>K ((j,l)::r)
theorem Xh{k t:Nat}{cs:List AV}:∀{sl:List (Nat×LV)}{K:List (Nat×LV)->Prop},TI k t cs sl K->∃sl',K sl'/\∀i,getS sl' i=(getS sl i).kill k\/(i=t/\getS sl' i=.p (.agg cs))
 |[],_,h=>⟨[],h,fun _=>.inl rfl⟩
 | (j,l)::r,K,h=>by
   unfold TI at h;cases hb:beq j t with
   | true=>
     rw[hb,x3p]at h;have hj:j=t:=Nat.eq_of_beq_eq_true hb;obtain⟨sl',hK,hs⟩:=Xh h;refine⟨_,hK,fun i=>?_⟩;simp only[getS];cases hi:j==i with
     |true=>exact .inr ⟨by rw[<-hj];exact(by simpa using hi:j=i).symm,rfl⟩
     |false=>exact hs i
   | false=>
     rw[hb,x3t,XW]at h;obtain⟨sl',hK,hs⟩:=Xh h;refine⟨_,hK,fun i=>?_⟩;simp only[getS];cases hi:j==i with
     |true=>exact .inl rfl
     |false=>exact hs i
theorem Cz{t:Nat}{ls:List LV}{cs:List AV}(hg:getH s.H k=some (.own e sz es))(ht:getS s.sl t=.agg ls)(hln:ls.length=cs.length)(hcs:∀(j:Nat)(l:LV)(c:AV),ls[j]?=some l->cs[j]?=some c->(∃a,l=.p a/\Sub a c)\/(∃n,l=.hd k 0 n/\n=es.length/\c=.sl es))(h:TI k t cs s.sl fun sl=>PH k s.H fun H=>K ⟨sl,H⟩):∃s',K s'/\Le N s s':=by
 obtain⟨sl,h,hsl⟩:=Xh h;obtain⟨H,h,hsub,hH⟩:=BA h;have agg:∀{σ τ:Mem}{β:Lab}{v:Value},σ.le τ->RepL σ β (.agg ls) v->(∀v,RepL σ β (.hd k 0 es.length) v->Rep τ (.sl es) v)->Rep τ (.agg cs) v:=fun {σ τ β v} hle hv hrow=>by
  cases hv with
  | agg _ vs u hn hc hrr=>
    refine Rep.agg cs vs u (by rw[hn,hln]) (fun j c hj=>?_) fun j c hj=>?_
    ·have hlt:j<ls.length:=by rw[hln];exact(x2o.1 hj).1
     exact hc j _ (x2n hlt)
    ·have hlt:j<ls.length:=by rw[hln];exact(x2o.1 hj).1
     have h1:=hrr j _ (x2n hlt);rcases hcs j _ c (x2n hlt) hj with⟨a,h2,h3⟩|⟨n,h2,rfl,rfl⟩
     ·rw[h2]at h1;cases h1 with
      |p hp=>exact h3 _ _ (hp.mono hle)
     ·rw[h2]at h1;exact hrow _ h1
 refine⟨_,h,fun σ β a w hr=>?_⟩;rcases ZL.1 (hr.heap.chunks k _ (QG hg))with⟨hb0,rfl⟩|⟨i,vs,hi,hisz,hh,hn,hle',hmax,hE⟩
 ·refine⟨σ,β,⟨hr.size,hr.defers,fun j=>?_,⟨hr.heap.mem,fun j c' hj=>?_,hsub.nodup hr.heap.nodup,fun j hj=>hr.heap.apart j (hsub.subset hj),fun j hj j' hj'=>hr.heap.inj j (hsub.subset hj) j' (hsub.subset hj')⟩⟩,Mem.le_refl σ,Frm.refl _ _,fun _ h0 h1=>absurd h0 h1,fun b ⟨j,hj,r⟩=>.inl ⟨j,hsub.subset hj,r⟩,fun _ _ _=>rfl⟩
  ·show RepL σ β (getS sl j) _;have hv:=hr.slots j;rcases hsl j with he|⟨rfl,h2⟩
   ·rw[he];exact hv.kill k
   ·rw[h2];rw[ht]at hv;refine .p (agg (Mem.le_refl σ) hv fun v hv=>?_);rcases hv.hdI with⟨_,_,_,he⟩|⟨i,_,hk,_⟩
    ·rw[he];exact .nilsl
    ·rw[hb0]at hk;cases hk
  ·obtain⟨_,c,h2,rfl⟩:=hH j c' hj;exact(hr.heap.chunks j c h2).kill k
 ·refine hr.lay hi (QN hg) hh (fun τ hle hτ j v hv=>?_) (fun τ hle hτ j c' hj=>?_) (hsub.nodup hr.heap.nodup)
  ·show RepL τ β (getS sl j) v;rcases hsl j with he|⟨rfl,h2⟩
   ·rw[he];exact(hv.kill k).mono hle
   ·rw [h2];rw[ht]at hv;refine .p (agg hle hv fun v hv=>?_);rcases hv.hdI with⟨hk,_⟩|⟨i',oo,hk,hl,ho,rfl⟩
    ·rw[hi]at hk;cases hk
    ·rw[hi]at hk;cases hk;have hoo:oo=0:=by
      rcases ho with ho|ho
      ·simpa using ho
      ·omega
     subst hoo;obtain⟨u,hu⟩ : ∃u:Nat->Nat->Value,∀(m:Nat)(x:AV)(j:Nat)(c:AV),es[m]?=some x->x.cells[j]?=some c->vs[m*sz+j]?=some (u m j)/\Rep σ c (u m j):=by
      refine⟨fun m j=>(vs[m*sz+j]?).getD undef,fun m x j c hx hj=>?_⟩;obtain⟨v,h1,h2⟩:=hE.rep m x j c hx hj;rw[x4g]at h1;split at h1
      ·have h1':vs[m*sz+j]?=some v:=by simpa using h1
       exact⟨by simp[h1'],by simpa[h1']using h2⟩
      ·cases h1
     exact .sl es i.blk 0 _ sz vs u hτ (by omega) (by omega) hE.size (fun m x j c hx hj=>by simpa using(hu m x j c hx hj).1) fun m x j c hx hj=>(hu m x j c hx hj).2.mono hle
  ·obtain⟨h1,c,h2,rfl⟩:=hH j c' hj;exact⟨h1,c,h2,fun hold=>(hold.kill k).mono hle fun _ _ _ _=>rfl⟩
theorem TC(hT:TabOK P T)(t:Nat){ls:List LV}(cs:List AV)(hg:getH s.H k=some (.own e sz es))(ht:getS s.sl t=.agg ls)(hln:ls.length=cs.length)(hcs:∀(j:Nat)(l:LV)(c:AV),ls[j]?=some l->cs[j]?=some c->(∃a,l=.p a/\Sub a c)\/(∃n,l=.hd k 0 n/\n=es.length/\c=.sl es))(h:TI k t cs s.sl fun sl=>PH k s.H fun H=>opW P T N ⟨sl,H⟩ o K):OpK P N s o K:=⟨fun σ β a w hr Q=>by
 obtain⟨s1,h1,hle⟩:=Cz (N:=N) hg ht hln hcs (K:=fun s'=>opW P T N s' o K) h;obtain⟨σ1,β1,hr1,hl1⟩:=hle σ β a w hr;exact Oper.wp_mono (fun a' w' ⟨σ',β',s2,hK,hr',hl⟩=>⟨σ',β',s2,hK,hr',hl1.trans hl⟩) (Qg hT h1 hr1 Q)⟩
section
variable {P:Program}{T:Tab}{N:Nat}{o:Oper}{K:St->Prop}{s:St}
end
section
variable {P:Program}{T:Tab}{N:Nat}{o:Oper}{s:St}{hr:Bool}
def setCell(b:Nat)(c:AV)(l:List (Nat×AV)):List (Nat×AV):=l.map fun x=>if x.1=b then(b,c)else x
end
theorem Ks{k2:Nat}{c c2:Chunk}(h:KA s k k2 c c2 K):∃s2,K s2/\KA s k k2 c c2 fun s3=>s3=s2:=by
 unfold KA at h⊢;obtain⟨sl,h1,_⟩:=WK (by rfl) h;have key:∀{f:LV->LV}{l:List (Nat×LV)}{K:List (Nat×LV)->Prop},Yw f l K↔K (l.map fun x=>(x.1,f x.2)):=fun {f} l=>by
  induction l with
  |nil=>intro K;rfl
  |cons x r ih=>intro K;simp only[Yw,XW,ih,x3l]
 have key2:∀{f:LV->LV}{c:Chunk}{H:Heap},∃H',∀K:Heap->Prop,Xi k k2 f c H K↔K H':=fun {f c} H=>by
  induction H with
  |nil=>exact⟨[],fun K=>Iff.rfl⟩
  | cons x r ih=>
    obtain⟨H',hH'⟩:=ih;obtain⟨j,d⟩:=x;simp only[Xi,Qv];cases j==k2 with
    |true=>exact⟨H',fun K=>by simp only[x3p];exact hH' _⟩
    | false=>
      cases j==k with
      |true=>exact⟨(j,c)::H',fun K=>by simp only[x3p,x3t];exact hH' _⟩
      |false=>exact⟨(j,d.mapL f)::H',fun K=>by simp only[x3t];exact hH' _⟩
 rw[key]at h;simp only[key];obtain⟨H',hH'⟩:=key2 (f:=LV.xkill k) (c:=c) (H:=s.H);rw[hH']at h;exact⟨_,h,(hH' _).2 rfl⟩
theorem OpK.focus(hT:TabOK P T)(t k a k2:Nat){e e2:Nat}{rows:List (List AV)}{hole:List Nat}{row:List AV}(hu:WU k2 s=true)(hg:getH s.H k=some (.ext (.mat e e2 sz rows hole)))(hrow:rows[a]?=some row)(hnh:a∉hole)(hpin:ZD k=false)(ht:getS s.sl t=.ext k (.row a row.length))(h:KA s k k2 (.ext (.mat e e2 sz rows (a::hole))) (.own e2 sz row) fun s2=>opW P T N ⟨(t,.hd k2 0 row.length)::s2.sl,s2.H⟩ o K):OpK P N s o K:=by
 obtain⟨s2,h,he⟩:=Ks h;refine⟨fun σ β ac w hr Q=>?_⟩;obtain⟨β',hr',hl,hrep,hrow'⟩:=RJ hr hu hg hrow hnh hpin he;have hr2:Rel N σ β' ⟨(t,.hd k2 0 row.length)::s2.sl,s2.H⟩ ac w:=⟨hr'.size,hr'.defers,fun i=>by
  show RepL σ β' (getS ((t,.hd k2 0 row.length)::s2.sl) i) _;simp only[getS];cases hi:t==i with
  | true=>
    have:t=i:=by simpa using hi
    subst this;have h1:=hr.slots t;rw[ht]at h1;exact hrow' _ h1
  |false=>exact hr'.slots i,hr'.heap⟩
 exact Oper.wp_mono (fun a' w' ⟨σ',β'',s3,hK,hr3,hl3⟩=>⟨σ',β'',s3,hK,hr3,hl.trans hl3⟩) (Qg hT h hr2 Q)
theorem Rel.layI{β:Lab}{s':St}{a:Act}{w:World}(hr:Rel N σ β s a w){i:BInfo}(hi:β k=some i)(hk:k∈s.H.map (·.1))(hcell:∀b,i.has b->∃c e fr,w.heap[b]?=some (.cells c e fr))(hsl:∀τ:Mem,σ.le τ->(∀b c e fr,i.has b->w.heap[b]?=some (.cells c e fr)->τ b=some c)->∀j v,RepL σ β (getS s.sl j) v->RepL τ β (getS s'.sl j) v)(hch:∀τ:Mem,σ.le τ->∀j c',(j,c')∈s'.H->j≠k/\∃c,(j,c)∈s.H/\(c.holds σ β w j->c'.holds τ β w j))(hnd:(s'.H.map (·.1)).Nodup):
  ∃σ' β',Rel N σ' β' s' a w/\Later σ β s.H w σ' β' s'.H w:=by
 let τ:Mem:=fun b=>@ite _ (i.has b) (Classical.propDecidable _) (match w.heap[b]?with
  |some (.cells c _ _)=>some c
  |_=>none) (σ b)
 have hpos:∀b c e fr,i.has b->w.heap[b]?=some (.cells c e fr)->τ b=some c:=fun b c e fr hb hh=>by
  show @ite _ (i.has b) (Classical.propDecidable _) _ _=_;rw[if_pos hb,hh]
 have hneg:∀b,¬i.has b->τ b=σ b:=fun b hb=>by
  show @ite _ (i.has b) (Classical.propDecidable _) _ _=_;rw[if_neg hb]
 have hle:σ.le τ:=fun b c hb=>by
  rw[hneg b]
  ·exact hb
  ·intro hib;rw[(hr.heap.apart k hk i hi b hib).1]at hb;cases hb
 have hlab:∀j∈s'.H.map (·.1),j≠k/\j∈s.H.map (·.1):=fun j hj=>by
  obtain⟨⟨j',c'⟩,hm,rfl⟩:=x3q.1 hj;obtain⟨h1,c,h2,_⟩:=hch τ hle j' c' hm;exact⟨h1,x3q.2 ⟨_,h2,rfl⟩⟩
 refine⟨τ,β,⟨hr.size,hr.defers,fun j=>hsl τ hle hpos j _ (hr.slots j),⟨fun b c hb=>?_,fun j c' hj=>?_,hnd,fun j hj ij hij b hb=>?_,fun j hj j' hj'=>hr.heap.inj j (hlab j hj).2 j' (hlab j' hj').2⟩⟩,hle,Frm.refl _ _,fun b hb hb'=>.inl ?_,fun b ⟨j,hj,hjb⟩=>.inl ⟨j,(hlab j hj).2,hjb⟩,fun _ _ _=>rfl⟩
 ·by_cases ho:i.has b
  ·obtain⟨c0,e,fr,hh⟩:=hcell b ho;rw[hpos b c0 e fr ho hh]at hb;cases hb;exact⟨_,_,hh⟩
  ·rw[hneg b ho]at hb;exact hr.heap.mem b c hb
 ·obtain⟨_,c,h2,h3⟩:=hch τ hle j c' hj;exact h3 (hr.heap.chunks j c h2)
 ·have h1:=hlab j hj;have h2:=hr.heap.apart j h1.2 ij hij b hb;refine⟨?_,h2.2⟩;rw[hneg b fun he=>h1.1 (hr.heap.inj j h1.2 k hk ij i hij hi b hb he)];exact h2.1
 ·by_cases ho:i.has b
  ·exact⟨k,hk,i,hi,ho⟩
  ·rw[hneg b ho]at hb';exact absurd hb hb'
theorem I6{sl sl':List (Nat×LV)}{H H':Heap}{e2:TypeId}{rows:List (List AV)}(hg:getH H k=some (.ext (.mat e e2 sz rows [])))(hsl:∀i,getS sl' i=(getS sl i).kill k\/(getS sl i=.hd k 0 rows.length/\getS sl' i=.p (.sl (rows.map .sl))))(hsub:(H'.map (·.1)).Sublist (H.map (·.1)))(hH:∀j c',(j,c')∈H'->j≠k/\(j,c')∈H/\c'.kill k=c'):Le N ⟨sl,H⟩ ⟨sl',H'⟩:=fun σ β a w hr=>by
 have hk:=QN hg;rcases hr.heap.chunks k _ (QG hg)with⟨hb0,hr0⟩|⟨i,vs,hi,h1,h2,h3,h4,h5,h6,h7,h8⟩
 ·refine⟨σ,β,⟨hr.size,hr.defers,fun j=>?_,⟨hr.heap.mem,fun j c' hj=>?_,hsub.nodup hr.heap.nodup,fun j hj=>hr.heap.apart j (hsub.subset hj),fun j hj j' hj'=>hr.heap.inj j (hsub.subset hj) j' (hsub.subset hj')⟩⟩,Mem.le_refl σ,Frm.refl _ _,fun _ h0 h1=>absurd h0 h1,fun b ⟨j,hj,r⟩=>.inl ⟨j,hsub.subset hj,r⟩,fun _ _ _=>rfl⟩
  ·show RepL σ β (getS sl' j) _;have hv:=hr.slots j;rcases hsl j with he|⟨g1,g2⟩
   ·rw[he];exact hv.kill k
   ·rw[g2];have hv:RepL σ β (getS sl j) _:=hv;rw[g1]at hv;rcases hv.hdI with⟨_,_,_,he⟩|⟨i,_,hk,_⟩
    ·rw[he,hr0];exact .p .nilsl
    ·rw[hb0]at hk;cases hk
  ·exact hr.heap.chunks j c' (hH j c' hj).2.1
 ·have hrow:∀(b c a':Nat),i.subs[a']?=some (some (b,c))->∃ws,w.heap[b]?=some (.cells ws e2 (0,0)):=fun b c a' hs=>by
   have ha:a'<rows.length:=by rw[<-h6];exact(x2o.1 hs).1
   rcases(h8 a' _ (x2n ha)).2 (by simp)with⟨q1,_⟩|⟨b',c',ws,q1,_,q3,_⟩
   ·rw[hs]at q1;cases q1
   ·rw[hs]at q1;cases q1;exact⟨ws,q3⟩
  refine hr.layI hi hk (fun b hb=>?_) (fun τ hle hτ j v hv=>?_) (fun τ hle j c' hj=>?_) (hsub.nodup hr.heap.nodup)
  ·rcases hb with rfl|⟨c,hb⟩
   ·exact⟨_,_,_,h2⟩
   ·obtain⟨a',ha',hs⟩:=x4t.1 hb;obtain⟨ws,hw⟩:=hrow b c a' (by rw[x2n ha',hs]);exact⟨_,_,_,hw⟩
  ·show RepL τ β (getS sl' j) v;have hv:RepL σ β (getS sl j) v:=hv;rcases hsl j with he|⟨g1,g2⟩
   ·rw[he];exact(hv.kill k).mono hle
   ·rw [g2];rw[g1]at hv;rcases hv.hdI with⟨hk',_⟩|⟨i',oo,hk',hl,ho,rfl⟩
    ·rw[hi]at hk';cases hk'
    ·rw [hi]at hk';cases hk';have hoo:oo=0:=by
      rcases ho with ho|ho
      ·simpa using ho
      ·omega
     subst hoo;have hrl:∀(m:Nat)(x:AV),(rows.map AV.sl)[m]?=some x->∃row,rows[m]?=some row/\x=.sl row:=fun m x hx=>by
      rw[x2e]at hx;cases hq:rows[m]?with
      |none=>rw[hq]at hx;cases hx
      |some row=>rw[hq]at hx;cases hx;exact⟨row,rfl,rfl⟩
     have hcellv:∀(m:Nat)(row:List AV),rows[m]?=some row->∃u,vs[m]?=some u/\Rep τ (.sl row) u:=fun m row hm=>by
      rcases(h8 m row hm).2 (by simp)with⟨q1,rfl,q3⟩|⟨b,c,ws,q1,q2,q3,q4,q5,q6,q7⟩
      ·exact⟨_,q3,.nilsl⟩
      ·refine⟨_,q2,.sl row b 0 c sz ws (fun m j=>(ws[m*sz+j]?).getD undef) (hτ b ws _ _ (.inr ⟨c,x3k q1⟩) q3) q5 q6 (fun m x hx=>(q7 m x hx).1) (fun m x j c' hx hj=>?_) fun m x j c' hx hj=>?_⟩
       ·obtain⟨u,r4,_⟩:=(q7 m x hx).2 j c' hj;simp[r4]
       ·obtain⟨u,r4,r5⟩:=(q7 m x hx).2 j c' hj;simpa[r4]using r5.mono hle
     have hfin:Rep τ (.sl (rows.map .sl)) (.slice (some ⟨i.blk,0,none⟩) (rows.map AV.sl).length i.cap):=by
      refine .sl (rows.map .sl) i.blk 0 i.cap 1 vs (fun m j=>(vs[m*1+j]?).getD undef) (hτ _ _ _ _ i.has_blk h2) (by simpa using h4) h5 (fun m x hx=>?_) (fun m x j c' hx hj=>?_) fun m x j c' hx hj=>?_
      ·obtain⟨row,_,rfl⟩:=hrl m x hx;rfl
      ·obtain⟨row,g3,rfl⟩:=hrl m x hx;obtain⟨u,g4,g5⟩:=hcellv m row g3;have hj0:j=0:=by
        have:=(x2o.1 hj).1;simpa[AV.cells]using this
       subst hj0;simp[g4]
      ·obtain⟨row,g3,rfl⟩:=hrl m x hx;obtain⟨u,g4,g5⟩:=hcellv m row g3;have hj0:j=0:=by
        have:=(x2o.1 hj).1;simpa[AV.cells]using this
       subst hj0;cases hj;simpa[g4]using g5
     have:RepL τ β (.p (.sl (rows.map .sl))) (.slice (some ⟨i.blk,0,none⟩) (rows.map AV.sl).length i.cap):=.p hfin;simpa using this
  ·obtain⟨g1,g2,g3⟩:=hH j c' hj;refine⟨g1,c',g2,fun hold=>?_⟩;have:=(hold.kill k).mono hle fun _ _ _ _=>rfl
   rwa[g3]at this
theorem EX{α:Type}{l m:List α}(h:l.take j=m.take j)(hl:j<l.length)(hm:j<m.length)(he:l[j]=m[j]):l.take (j+1)=m.take (j+1):=by
 rw[x3u hl,x3u hm,h,he]
theorem Ih{α:Type}{l m:List α}(h:l.take j=m.take j)(hl:l.length<=j)(hm:m.length<=j):l=m:=by
 rwa[x3f hl,x3f hm]at h
theorem YA(l m:List Int):SpecP prog 16 [QO l,QO m] (fun r=>r=.bool (decide (l=m))):=by
 refine sB FG func16 rfl call16 ?_;conv=>whnf
 have h1:(l.map (AV.int .i64)).length=l.length:=x2m _;have h2:(m.map (AV.int .i64)).length=m.length:=x2m _;repeat' (first|(refine iM fun _=>?_;conv=>whnf)|(apply bE<;>intro _<;>first|omega|conv=>whnf))
 all_goals first
  |exact RetK.ff (x4i fun h=>by subst h;omega)
  |skip
 have hlen:l.length=m.length:=by omega
 refine LoopK.inv QY (fun j:Nat=>⟨[(0,.p (QO l)),(1,.p (QO m)),(12,.p (.int .i64 (l.map (AV.int .i64)).length)),(13,.p (.int .i64 j))],[]⟩) (fun j=>j<=l.length/\l.take j=m.take j) (fun j=>l.length-j) 0 (Le.of_eq rfl) ⟨x3z _,rfl⟩ ?_;rintro j ⟨h3,h4⟩;rcases x3v j l.length with hj|hj
 ·conv=>whnf
  repeat' (first|((first|refine dA ?_|(refine iA fun _=>?_)|refine wI ?_);conv=>whnf)|(apply bD<;>intro _<;>first|omega|conv=>whnf)|(apply bE<;>intro _<;>first|omega|conv=>whnf))
  all_goals first
   |exact RetK.ff (x4i fun h=>by subst h;simp_all)
   |exact⟨j+1,⟨by omega,EX h4 hj (by omega) (by simp_all)⟩,by omega,Le.of_eq rfl⟩
 ·conv=>whnf
  repeat' (apply bD<;>intro _<;>first|omega|conv=>whnf)
  exact RetK.tt (x5g (Ih h4 hj (by omega)))
theorem B5(w:Way)(f:Pr)(n:Nat)(hw:w.n=n)(hj:w.p.procs[w.j]?=some f)(hc:cntP w.p.procs<=1000)(hn:n<=5000)(l:List Step)(hlen:l.length<=1000000):SpecP prog 140 [.ip w.cells,eSteps l] (fun r=>r=VW (QR n (l.map (ixP w.p w.j f w.n)))):=by
 refine sB FT func140 rfl call140 ?_;conv=>whnf
 repeat' ((first|refine dA ?_|(refine CallK.pure (JW w f hj hc (by omega) l hlen) (.cons (Sub.refl _) (.cons (Sub.refl _) .nil)) ?_;rintro _ rfl)|(refine CallK.pure (Y0 n hn (l.map (ixP w.p w.j f w.n)) (by rw[x2m];exact hlen)) (.cons (Sub.int hw) (.cons (Sub.refl _) .nil)) ?_;rintro _ rfl));conv=>whnf)
 exact RetK.p rfl
theorem B6(p:Pg)(j:Nat)(f:Pr)(n:Nat)(real:AV)(lv:List AV)(hj:p.procs[j]?=some f)(hc:cntP p.procs<=1000)(hn:n<=5000)(l:List Step)(hlen:l.length<=1000000):
  SpecH prog 140 [.ptr 1000 0,.p (eSteps l)] (q0f p j n real lv) (fun r H=>r=.p (VW (QR n (l.map (ixP p j f n))))/\H=q0f p j n real lv):=by
 refine sH FT func140 rfl call140 ?_;conv=>whnf
 refine DrawK.of QY mixed (.cons 0 false (.cons 1 false (.cons 2 false (.cons 4 false (.cons 5 false (.fork 3 (.cons 6 true (.cons 7 true (.cons 8 true .nil))) 6 (.cons 3 true (.cons 7 true (.cons 8 true .nil))))))))) (by kernel_rfl) ?_;conv=>whnf
 repeat' (first|(refine CallK.pure (Y0 n hn (l.map (ixP p j f n)) (by rw[x2m];exact hlen)) (.cons (Sub.refl _) (.cons (Sub.refl _) .nil)) ?_;rintro _ rfl;conv=>whnf)|(refine x2t ?_ ?_<;>conv=>whnf)|(refine CallK.heap [(1000,1000),(2000,2000)] 0 (by repeat' (first|exact x4x|refine x3d ?_ ?_|exact x3n _|exact x3e Sub.nils|exact x3e (Sub.tt rfl)|exact x3e (Sub.ff rfl)|exact x3e (Sub.int (by omega)))) (by refine x3j (j:=1000) rfl rfl ?_ ?_;exact CSub.refl _;refine x3j (j:=2000) rfl rfl ?_ ?_;exact CSub.refl _;exact x4z) (B2 p j f n real lv hj hc (by omega) l hlen) rfl rfl ?_;rintro l' H' ⟨es,rfl,rfl,rfl⟩;conv=>whnf))
 all_goals exact⟨_,x3n _,rfl,rfl⟩
theorem Ge{n:Nat}{N:List (List Int)}(h:XU n N){a:Nat}{b:Int}(hb:0<=b/\b<n):XU n (Gl N a b):=by
 unfold Gl;refine⟨by rw[x5e];exact h.1,fun r hr x hx=>?_⟩;rcases x6i hr with hr|rfl
 ·exact h.2 r hr x hx
 ·unfold W5 at hx;have hg:∀y∈N.getD a [],0<=y/\y<n:=fun y hy=>by
   rcases x3v a N.length with ha|ha
   ·rw[x2l,x2n ha]at hy;exact h.2 _ (x3w ha) y hy
   ·rw[x2l,x4a ha]at hy;cases hy
  rcases x3x.1 hx with hx|hx
  ·exact hg x (x9g hx)
  ·rcases x2i.1 hx with rfl|hx
   ·exact hb
   ·exact hg x (List.mem_of_mem_drop hx)
theorem q2x{n:Nat}{g:List (List Int)×List (List Int)}(h:XU n g.1/\XU n g.2)(e:Int×Int):XU n (B9 n g e).1/\XU n (B9 n g e).2:=by
 rw[Vo,K9];cases hc:ZF n e.1&&ZF n e.2 && !(g.1.getD e.1.toNat []).contains e.2
 ·exact h
 ·simp only[x3h]at hc;exact⟨Ge h.1 (XI hc.1.2),Ge h.2 (XI hc.1.1)⟩
theorem IJ{n:Nat}(l:List (Int×Int)):∀{g:List (List Int)×List (List Int)},XU n g.1/\XU n g.2->XU n (l.foldl (B9 n) g).1/\XU n (l.foldl (B9 n) g).2:=by
 induction l with
 |nil=>intro g h;exact h
 |cons e r ih=>intro g h;exact ih (q2x h e)
theorem JN(n:Nat)(l:List (Int×Int)):XU n (QR n l).1/\XU n (QR n l).2:=by
 have h0:XU n (List.replicate n []):=⟨by simp,fun r hr=>by rw[x6j hr];simp⟩;exact IJ l ⟨h0,h0⟩
theorem Wr.eq{n m:Int}{K:Int->Prop}(h:n=m)(h1 : -9223372036854775808<=m)(h2:m<=9223372036854775807)(hK:K m):Wr .i64 n K:=by
 subst h;exact Wr.i64 h1 h2 hK
theorem Zo:∀(a:Step)(l:List Step),(XQ a l).length<=l.length
 |_,[]=>x3g _
 | a,b::r=>by
   have:=Zo b r;rw[XQ];cases ZH b a<;>simp<;>omega
theorem Ns(l:List Step):(WA l).length<=l.length:=by
 unfold WA;rw[<-Z9 (l:=l)];cases YC l with
 |nil=>exact x3g _
 | cons a r=>
   have:=Zo a r;simp[NB];omega
theorem A4(sh:Sheet)(f:Pr)(it:Item):(YD sh f it).length<=2:=by
 unfold YD;split<;>(try split)<;>(try split)<;>(try split)<;>(try split)<;>(try split)<;>simp
theorem W3{α β:Type}{g:α->List β}(h:∀x,(g x).length<=2):∀l:List α,(l.flatMap g).length<=2*l.length
 |[]=>by simp
 | a::r=>by
   have:=W3 h r;have:=h a;rw[x4n,x2s,x4q];omega
theorem Wq(p:Pg)(j:Nat)(f:Pr):(QD p j f).length<=1+2*cntL f.body:=by
 unfold QD;have:=W3 (g:=fun it=>(YD (sheetOf p) f it).map (Step.mk it.s.id · 1)) (fun it=>by rw[x2m];exact A4 _ _ _) (itL j 0 (-1) 0 (QB p.procs j) f.body);rw[ZT]at this;rw[x4q];omega
theorem D8:∀(i:Nat)(l:List Bool)(a:Int),a∈FZ i l->(i:Int)<=a/\a<i+l.length
 |_,[],_,h=>by rw[FZ]at h;cases h
 | i,b::r,a,h=>by
   rw[FZ]at h;have key:a∈FZ (i+1) r->(i:Int)<=a/\a<i+(b::r).length:=fun h=>by
    have:=D8 (i+1) r a h;simp only[x4q];omega
   cases b with
   |false=>exact key h
   | true=>
     rcases x2i.1 h with rfl|h
     ·simp only[x4q];omega
     ·exact key h
theorem SC(n:Nat)(l:List Int):wkInv n (BQ n l):=by
 unfold BQ;have:∀(l:List Int)(st:List Bool×List Int),wkInv n st->wkInv n (l.foldl (fun st a=>bif ZF n a then KB st a else st) st):=fun l=>by
  induction l with
  |nil=>intro st h;exact h
  | cons a r ih=>
    intro st h;refine ih _ ?_;show wkInv n (bif ZF n a then KB st a else st);cases hb:ZF n a with
    |true=>exact Qn h (XI hb)
    |false=>exact h
 exact this l _ (MP n)
theorem SG{n:Nat}{rows:List (List Int)}(h:XU n rows)(l:List Int):(ZP rows l).length=n:=by
 unfold ZP;rw[h.1];exact(BU h _ _ (SC n l)).1
def KP(l:List Int)(b:List Bool):List Bool:=l.foldl (fun b a=>b.set a.toNat true) b
def QQ(p:Pg)(j:Nat)(f:Pr):Way:=
 let real:=WA (QD p j f);let n:=cntL f.body+2
 ⟨p,j,n,real,KP (FZ 0 (ZP (QR n (real.map (ixP p j f n))).1 [0])) (List.replicate n false)⟩
theorem q5q(p:Pg)(j:Nat)(f:Pr)(hj:p.procs[j]?=some f)(hc:cntP p.procs<=1000)(hl:∀it∈itsOf p j f,it.s.kind=7->1<=it.loop/\it.loop<=(sheetOf p).l.length)(hok:∀s∈QD p j f,okSt s):SpecP prog 85 [.ip (sheetOf p).cells,.int .i64 j] (fun r=>r=.ip (QQ p j f).cells):=by
 refine sB C9 func85 rfl call85 ?_;conv=>whnf
 obtain⟨_,_,_,hlen,hsp⟩:=QJ p;obtain⟨hlo,hhi,hle,_⟩:=hsp j f hj;repeat' ((first|refine dA ?_|refine x2t rfl ?_|refine aR ?_|(refine IdxK.at rfl (VT hlo) rfl ?_)|(refine IdxK.at rfl (VT hhi) rfl ?_)|refine cP (Wm p j f hj hc hl hok) ?_|refine Wr.eq (m:=cntL f.body) (by omega) (by omega) (by omega) ?_|refine Wr.eq (m:=(cntL f.body+2:Nat)) (by omega) (by omega) (by omega) ?_|refine x8v (cntL f.body+2) rfl (by show 1*_<=140737488355328;omega) (by unfold maxLen;omega) ?_);conv=>whnf)
 have hrl:(WA (QD p j f)).length<=1000000:=by have:=Ns (QD p j f);have:=Wq p j f;omega
 refine CallK.heap [(1000,0),(2000,1)] 0 (by repeat' (first|exact x4x|refine x3d ?_ ?_|exact x3n _|exact x3e Sub.nils|exact x3e (Sub.tt rfl)|exact x3e (Sub.ff rfl)|exact x3e (Sub.int (by omega)))) (x3j (j:=0) rfl rfl (CSub.of_eq (by rw[x5x];rfl)) (x3j (j:=1) rfl rfl (CSub.refl _) x4z)) (B6 p j f (cntL f.body+2) (eSteps (WA (QD p j f))) (List.replicate (cntL f.body+2) .ff) hj hc (by omega) (WA (QD p j f)) hrl) rfl rfl ?_;rintro l' H' ⟨rfl,rfl⟩;conv=>whnf
 obtain⟨hgi,_⟩:=JN (cntL f.body+2) ((WA (QD p j f)).map (ixP p j f (cntL f.body+2:Nat)));repeat' ((first|(refine iM fun _=>?_)|refine x2t rfl ?_|refine aD ?_|refine bP ?_|(refine CallK.pure (Xs (cntL f.body+2) (by omega) _ hgi [0] (by simp)) (.cons (Sub.refl _) (.cons (Sub.refl _) .nil)) ?_;rintro _ rfl));conv=>whnf)
 have hlm:∀a∈FZ 0 (ZP (QR (cntL f.body+2) ((WA (QD p j f)).map (ixP p j f (cntL f.body+2:Nat)))).1 [0]),0<=a/\a<(cntL f.body+2:Nat):=fun a ha=>by
  have:=D8 _ _ _ ha;rw[SG hgi]at this;omega
 have hnw:QQ p j f=⟨p,j,(cntL f.body+2:Nat),WA (QD p j f),KP (FZ 0 (ZP (QR (cntL f.body+2) ((WA (QD p j f)).map (ixP p j f (cntL f.body+2:Nat)))).1 [0])) (List.replicate (cntL f.body+2) false)⟩:=rfl;rw[hnw];have hlb:((FZ 0 (ZP (QR (cntL f.body+2) ((WA (QD p j f)).map (ixP p j f (cntL f.body+2:Nat)))).1 [0])).map (AV.int .i64)).length<=9223372036854775807:=by assumption
 generalize FZ 0 (ZP (QR (cntL f.body+2) ((WA (QD p j f)).map (ixP p j f (cntL f.body+2:Nat)))).1 [0])=lst at hlm hlb⊢;have hll:(lst.map (AV.int .i64)).length=lst.length:=x2m _;refine LoopK.inv QY (fun x:Nat×List Bool=>⟨[(5,.ptr 0 0),(46,.p (QO lst)),(47,.p (.int .i64 (lst.map (AV.int .i64)).length)),(48,.p (.int .i64 x.1))],[(0,.obj 120 [.p (.ip (sheetOf p).cells),.p (.int .i64 j),.p (.int .i64 (cntL f.body+2:Nat)),.p (eSteps (WA (QD p j f))),.hd 1 0 (cntL f.body+2)]),(1,.own 4 1 (x.2.map bv))]⟩)
  (fun x=>x.1<=lst.length/\x.2.length=cntL f.body+2/\KP (lst.drop x.1) x.2=KP lst (List.replicate (cntL f.body+2) false)) (fun x=>lst.length-x.1) (0,List.replicate (cntL f.body+2) false)
  (Le.of_eq (by simp only[x6x,x5x];rfl)) ⟨x3z _,by simp,rfl⟩ ?_
 rintro⟨m,b⟩ ⟨h2,h3,h4⟩;simp only at h2 h3 h4⊢;rcases x3v m lst.length with hm|hm;rotate_left 1
 ·rw[x3b hm]at h4;rw[<-h4];conv=>whnf
  repeat' (apply bD<;>intro _<;>first|omega|conv=>whnf)
  exact⟨_,.ptr (cs:=[.ip (sheetOf p).cells,.int .i64 j,.int .i64 (cntL f.body+2:Nat),eSteps (WA (QD p j f)),.sl (b.map bv)]) rfl rfl (fun i x c h5 h6=>by
   match i,h5,h6 with
   |0,h5,h6=>cases h5;cases h6;exact .p (Sub.refl _)
   |1,h5,h6=>cases h5;cases h6;exact .p (Sub.refl _)
   |2,h5,h6=>cases h5;cases h6;exact .p (Sub.refl _)
   |3,h5,h6=>cases h5;cases h6;exact .p (Sub.refl _)
   |4,h5,h6=>cases h5;cases h6;exact .hd rfl (by rw[x2m,h3])),rfl⟩
 rw[x4v hm]at h4;have ha:=hlm _ (x3w hm);have hal:lst[m].toNat<b.length:=by omega
 have hbe:(b.map bv)[lst[m].toNat]?=some (bv b[lst[m].toNat]):=by simp[hal]
 conv=>whnf
 repeat' (first|((first|refine x2t rfl ?_|(refine iA fun _=>?_)|refine wI ?_|refine x4j lst[m].toNat (by omega) (by omega) ?_|refine x5i lst[m].toNat 0 (bv b[lst[m].toNat]) .tt (by omega) hbe (x3g 1) (by cases b[lst[m].toNat]<;>rfl) ?_);conv=>whnf)|(apply bD<;>intro _<;>first|omega|conv=>whnf))
 exact⟨(m+1,b.set lst[m].toNat true),⟨by simp only;omega,by simp only[x5e];exact h3,h4⟩,by simp only;omega,Le.of_eq (by simp only[x4m];rfl)⟩
def KO(n c:Nat):List Int:=(List.range' (n+1) c).map fun(k:Nat)=>(k:Int)
theorem HG(n a b:Nat):KO n (a+b)=KO n a++KO (n+a) b:=by
 unfold KO;rw[<-x3y,show n+a+1=n+1+1*a by omega,List.range'_append]
theorem IN(n:Nat):KO n 1=[((n+1:Nat):Int)]:=by simp[KO]
mutual
theorem OH(nest:Int):∀(t:S){n:Nat}{m:Int},Jb nest n t=some m->(flS t).map S.id=KO n (ZW t)
 | .mk id kind labels name proc x has args thn els,n,m,h=>by
   simp only[Jb]at h;split at h
   ·cases h
   split at h
   ·cases h
   rename_i hid;cases hn:namesB labels<;>rw[hn]at h
   ·cases h
   cases hf:XA (.mk id kind labels name proc x has args thn els)<;>rw[hf]at h
   ·cases h
   simp only[x3p]at h;split at h
   ·rename_i m1 h1;have h1':WY (nest+1) ((n+1:Nat):Int) thn=some m1:=by rw[<-h1];rfl
    have h2:=KF _ _ thn h1';have h3:=Qf (nest+1) thn h1';have h':WY (nest+1) ((n+1+cntL thn:Nat):Int) els=some m:=by rw[<-h,h2];rfl
    have h4:=Qf (nest+1) els h';rw[flS,ZW,x3l,x3y,h3,h4,show 1+cntL thn+cntL els=1+(cntL thn+cntL els) by omega,HG,IN,HG];have:id=((n+1:Nat):Int):=by omega
    rw[show(S.mk id kind labels name proc x has args thn els).id=id from rfl,this];rfl
   ·cases h
theorem Qf(nest:Int):∀(l:List S){n:Nat}{m:Int},WY nest n l=some m->(flL l).map S.id=KO n (cntL l)
 |[],n,m,h=>by rw[flL,cntL];rfl
 | t::r,n,m,h=>by
   simp only[WY]at h;split at h
   ·cases h
   split at h
   ·rename_i m1 h1;have h2:=Tn _ _ t h1;have h3:=OH nest t h1;have h':WY nest ((n+ZW t:Nat):Int) r=some m:=by rw[<-h,h2];rfl
    have h4:=Qf nest r h';rw[flL,cntL,x3y,h3,h4,HG]
   ·cases h
end
theorem Gh:∀(l:List Pr){n:Nat}{m:Int},XG n l=some m->∀(j:Nat)(f:Pr),l[j]?=some f->(flL f.body).map S.id=KO (n+QB l j) (cntL f.body)
 |[],_,_,_,j,f,hj=>by simp at hj
 | g::r,n,m,h,j,f,hj=>by
   rw[XG]at h;cases hm:JX g<;>rw[hm]at h
   ·cases h
   simp only[x3p]at h;split at h
   ·rename_i m1 h1;cases j with
    | zero=>
      simp at hj;subst hj;exact Qf 1 g.body h1
    | succ j=>
      have h2:=KF _ _ g.body h1;have h':XG ((n+cntL g.body:Nat):Int) r=some m:=by rw[<-h,h2];rfl
      have:=Gh r h' j f (by simpa using hj);rw[QB,this,x6z]
   ·cases h
theorem D9(h:YL p=true)(hj:p.procs[j]?=some f):(flL f.body).map S.id=KO (QB p.procs j) (cntL f.body):=by
 unfold YL at h;simp only[x3h]at h;cases hm:XG 0 p.procs with
 |none=>rw[hm]at h;cases h.2
 | some m=>
   have:=Gh p.procs (n:=0) hm j f hj;simpa using this
theorem IP{n c:Nat}{a:Int}(h:a∈KO n c):(n:Int)+1<=a/\a<=n+c:=by
 unfold KO at h;obtain⟨k,hk,rfl⟩:=x3q.1 h;rw[List.mem_range']at hk;obtain⟨i,hi,rfl⟩:=hk;omega
def okI(lo hi:Nat)(x:Int):Prop:=x = -1\/((lo:Int)+1<=x/\x<=hi)
mutual
theorem q3y(proc:Int)(lo hi:Nat):∀(t:S)(up nx loop:Int)(n:Nat)(it:Item),it∈itS proc up nx loop n t->okI lo hi nx->(loop=0\/((lo:Int)+1<=loop/\loop<=hi))->lo<=n->n+ZW t<=hi->
  okI lo hi it.next/\(it.loop=0\/((lo:Int)+1<=it.loop/\it.loop<=hi))
 | .mk id kind labels name pr x has args thn els,up,nx,loop,n,it,h,h1,h2,h3,h4=>by
   rw[itS]at h;rw[ZW]at h4;rcases x2i.1 h with rfl|h
   ·exact⟨h1,h2⟩
   ·have h5:okI lo hi (if kind=6 then((n:Int)+1)else nx):=by
     split
     ·exact .inr ⟨by omega,by omega⟩
     ·exact h1
    have h6:(if kind=6 then((n:Int)+1)else loop)=0\/((lo:Int)+1<=(if kind=6 then((n:Int)+1)else loop)/\(if kind=6 then((n:Int)+1)else loop)<=hi):=by
     split
     ·exact .inr ⟨by omega,by omega⟩
     ·exact h2
    rcases x3x.1 h with h|h
    ·exact Fo proc lo hi thn _ _ _ _ it h h5 h6 (by omega) (by omega)
    ·exact Fo proc lo hi els _ _ _ _ it h h5 h6 (by omega) (by omega)
theorem Fo(proc:Int)(lo hi:Nat):∀(l:List S)(up nx loop:Int)(n:Nat)(it:Item),it∈itL proc up nx loop n l->okI lo hi nx->(loop=0\/((lo:Int)+1<=loop/\loop<=hi))->lo<=n->n+cntL l<=hi->
  okI lo hi it.next/\(it.loop=0\/((lo:Int)+1<=it.loop/\it.loop<=hi))
 |[],up,nx,loop,n,it,h,h1,h2,h3,h4=>by rw[itL]at h;cases h
 | t::r,up,nx,loop,n,it,h,h1,h2,h3,h4=>by
   rw[itL]at h;rw[cntL]at h4;rcases x3x.1 h with h|h
   ·refine q3y proc lo hi t _ _ _ _ it h ?_ h2 h3 (by omega);cases r with
    |nil=>exact h1
    | cons u r=>
      have:1<=cntL (u::r):=by rw[cntL,ZV];omega
      exact .inr ⟨by simp;omega,by simp;omega⟩
   ·exact Fo proc lo hi r _ _ _ _ it h h1 h2 (by omega) (by omega)
end
theorem LE:∀(l:List S)(v:S),v∈l->v∈flL l
 |[],v,h=>by cases h
 | t::r,v,h=>by
   rw[flL];rcases x2i.1 h with rfl|h
   ·refine x3x.2 (.inl ?_);rw[HI];exact x2r
   ·exact x3x.2 (.inr (LE r v h))
theorem QK(h:QE p=true):YL p=true/\(QA p).1=0/\(VZ p).1=0/\(PG p).1=0/\(GK p).1=0:=by
 unfold QE q2z at h;simp only[x3i]at h;by_cases h1:YL p=false
 ·rw[if_pos h1]at h;cases h
 rw[if_neg h1]at h;by_cases h2:(QA p).1=0
 ·rw[if_neg (by omega)]at h;by_cases h3:(VZ p).1=0
  ·rw[if_neg (by omega)]at h;by_cases h4:(PG p).1=0
   ·rw[if_neg (by omega)]at h;exact⟨by simpa using h1,h2,h3,h4,h⟩
   ·rw[if_pos h4]at h;exact absurd h h4
  ·rw[if_pos h3]at h;exact absurd h h3
 ·rw[if_pos h2]at h;exact absurd h h2
theorem Yq{f:Pr}:∀(l:List Item)(seen:List Str){s:List Str},YB f l seen=.ok s->∀it∈l,VK f it=true
 |[],_,_,_,it,h=>by cases h
 | a::r,seen,s,h,it,hi=>by
   rw[YB]at h;cases hj:VC seen a.s.labels with
   |none=>rw[hj]at h;cases h
   | some s1=>
     rw[hj]at h;simp only at h;cases hl:VK f a with
     |false=>rw[hl]at h;cases h
     | true=>
       rw[hl,x3p]at h;rcases x2i.1 hi with rfl|hi
       ·exact hl
       ·exact Yq r s1 h it hi
theorem Je(hs:(QA p).1=0)(h:(PG p).1=0)(hj:p.procs[j]?=some f):∀it∈itsOf p j f,VK f it=true:=by
 unfold PG at h;rw[if_neg (by omega)]at h;have hn:(List.range p.procs.length).findSome? (UI p)=none:=by
  cases hq:(List.range p.procs.length).findSome? (UI p)with
  |none=>rfl
  |some a=>rw[hq]at h;cases h
 rw[x7v]at hn;have hlt:j<p.procs.length:=(x2o.1 hj).1;have:=hn j (x4y.2 hlt);unfold UI at this;rw[hj]at this;simp only at this;cases hr:YB f (itL (j:Nat) 0 (-1) 0 (QB p.procs j) f.body) []with
 |error id=>rw[hr]at this;cases this
 |ok seen=>exact Yq _ _ hr
mutual
theorem IV:∀(t u v:S),u∈flS t->v∈u.thn\/v∈u.els->v∈flS t
 | .mk id kind labels name proc x has args thn els,u,v,h,hv=>by
   rw[flS]at h⊢;rcases x2i.1 h with rfl|h
   ·refine x2c _ (x3x.2 ?_);rcases hv with hv|hv
    ·exact .inl (LE thn v hv)
    ·exact .inr (LE els v hv)
   ·rcases x3x.1 h with h|h
    ·exact x2c _ (x3x.2 (.inl (Vq thn u v h hv)))
    ·exact x2c _ (x3x.2 (.inr (Vq els u v h hv)))
theorem Vq:∀(l:List S)(u v:S),u∈flL l->v∈u.thn\/v∈u.els->v∈flL l
 |[],u,v,h,hv=>by rw[flL]at h;cases h
 | t::r,u,v,h,hv=>by
   rw[flL]at h⊢;rcases x3x.1 h with h|h
   ·exact x3x.2 (.inl (IV t u v h hv))
   ·exact x3x.2 (.inr (Vq r u v h hv))
end
theorem Wc(h:it∈itsOf p j f):it.s∈flL f.body:=by
 unfold itsOf at h;rw[<-DD (j:Nat) 0 (-1) 0 (QB p.procs j) f.body];exact x3q.2 ⟨it,h,rfl⟩
theorem ZI(hm:YL p=true)(hj:p.procs[j]?=some f){t:S}(h:t∈flL f.body):(QB p.procs j:Int)+1<=t.id/\t.id<=(QB p.procs j+cntL f.body:Nat):=by
 have h1:=D9 hm hj;have h2:t.id∈KO (QB p.procs j) (cntL f.body):=by
  rw[<-h1];exact x3q.2 ⟨t,h,rfl⟩
 have:=IP h2;omega
theorem Y7(h:it∈itsOf p j f):okI (QB p.procs j) (QB p.procs j+cntL f.body) it.next/\(it.loop=0\/((QB p.procs j:Int)+1<=it.loop/\it.loop<=(QB p.procs j+cntL f.body:Nat))):=
 Fo (j:Nat) _ _ f.body 0 (-1) 0 _ it h (.inl rfl) (.inl rfl) (x3g _) (x3g _)
theorem DE(hj:p.procs[j]?=some f)(h1:QB p.procs j<=k)(h2:k<QB p.procs j+cntL f.body):∃it,(sheetOf p).l[k]?=some it/\it∈itsOf p j f:=by
 obtain⟨_,_,_,hlen,hsp⟩:=QJ p;obtain⟨_,_,hle,hd⟩:=hsp j f hj;have hk:k<(sheetOf p).l.length:=by omega
 refine⟨(sheetOf p).l[k],x2n hk,?_⟩;unfold itsOf;rw[<-hd];refine x5s.2 ⟨k-QB p.procs j,?_⟩;rw[x4c,x4g,if_pos (by omega),show QB p.procs j+(k-QB p.procs j)=k by omega,x2n hk]
theorem q2i(hm:YL p=true)(hj:p.procs[j]?=some f)(h:it∈itsOf p j f)(hl:VK f it=true):∀x∈YD (sheetOf p) f it,okI (QB p.procs j) (QB p.procs j+cntL f.body) x:=by
 obtain⟨hnx,hlo⟩:=Y7 h;have hs:=Wc h;have hid:=ZI hm hj hs;have hhead:∀(l:List S)(o:Int),(∀v∈l,v∈it.s.thn\/v∈it.s.els)->okI (QB p.procs j) (QB p.procs j+cntL f.body) o->okI (QB p.procs j) (QB p.procs j+cntL f.body) (Sy l o):=fun l o hv ho=>by
  cases l with
  |nil=>exact ho
  |cons v r=>exact .inr (ZI hm hj (Vq f.body it.s v hs (hv v x2r)))
 have hloop:it.s.kind=7\/it.s.kind=8->(QB p.procs j:Int)+1<=it.loop/\it.loop<=(QB p.procs j+cntL f.body:Nat):=fun hk=>by
  unfold VK at hl;rw[if_pos hk]at hl;rcases hlo with h0|h0
  ·rw[h0]at hl;cases hl
  ·exact h0
 intro x hx;unfold YD at hx;split at hx
 ·simp only[x2i,x9f,or_false]at hx;rcases hx with rfl|rfl
  ·exact hhead _ _ (fun v hv=>.inl hv) hnx
  ·exact hhead _ _ (fun v hv=>.inr hv) hnx
 split at hx
 ·simp only[x2i,x9f,or_false]at hx;rcases hx with rfl|rfl
  ·exact hhead _ _ (fun v hv=>.inl hv) (.inr hid)
  ·exact hnx
 split at hx
 ·rename_i hk;have hlp:=hloop (.inl hk);obtain⟨u,hu1,hu2⟩:=DE hj (k:=(it.loop-1).toNat) (by omega) (by omega);rw[hu1]at hx;rw[x2a.1 hx];exact(Y7 hu2).1
 split at hx
 ·rename_i hk;rw[x2a.1 hx];exact .inr (hloop (.inr hk))
 split at hx
 ·rw[x2a.1 hx];exact .inl rfl
 split at hx
 ·rename_i h7 h8 _ hk;rw[x2a.1 hx];unfold VK at hl;rw[if_neg (by omega),if_pos hk]at hl;unfold atB at hl⊢;split
  ·rename_i t ht;exact .inr (ZI hm hj (x5n ht))
  ·rename_i hn;rw[hn]at hl;simp only at hl;cases hfin:f.fin.any fun s=>it.s.name==s with
   |true=>exact .inl rfl
   |false=>rw[hfin]at hl;cases hl
 ·rw[x2a.1 hx];exact hnx
theorem Ux(h:QE p=true)(hj:p.procs[j]?=some f):(∀it∈itsOf p j f,it.s.kind=7->1<=it.loop/\it.loop<=(sheetOf p).l.length)/\
  (∀s∈QD p j f,(s.src=0\/((QB p.procs j:Int)+1<=s.src/\s.src<=(QB p.procs j+cntL f.body:Nat)))/\okI (QB p.procs j) (QB p.procs j+cntL f.body) s.dst)/\∀s∈QD p j f,okSt s:=by
 obtain⟨hm,hs,_,hjm,_⟩:=QK h;have hld:=Je hs hjm hj;obtain⟨_,_,_,hlen,hsp⟩:=QJ p;obtain⟨_,_,hle,_⟩:=hsp j f hj;obtain⟨_,_,hcn⟩:=VQ hm;have key:∀s∈QD p j f,(s.src=0\/((QB p.procs j:Int)+1<=s.src/\s.src<=(QB p.procs j+cntL f.body:Nat)))/\okI (QB p.procs j) (QB p.procs j+cntL f.body) s.dst:=fun s hx=>by
  unfold QD at hx;rcases x2i.1 hx with rfl|hx
  ·refine⟨.inl rfl,?_⟩;show okI _ _ (if QB p.procs j<QB p.procs j+cntL f.body then((QB p.procs j:Nat)+1:Int)else -1);split
   ·exact .inr ⟨by omega,by omega⟩
   ·exact .inl rfl
  ·obtain⟨it,hit,hz⟩:=x3c.1 hx;obtain⟨y,hy,rfl⟩:=x3q.1 hz;exact⟨.inr (ZI hm hj (Wc hit)),q2i hm hj hit (hld it hit) y hy⟩
 refine⟨fun it hit hk=>?_,key,fun s hx=>?_⟩
 ·have hl:=hld it hit;unfold VK at hl;rw[if_pos (.inl hk)]at hl;rcases(Y7 hit).2 with h0|h0
  ·rw[h0]at hl;cases hl
  ·omega
 ·obtain⟨h1,h2⟩:=key s hx;unfold okSt okI at*
  omega
def EA(p:Pg)(n:Str):Option Way:=bif QE p then(match p.procs.find? (fun f=>f.name==n)with
 |some f=>some (QQ p (p.procs.findIdx fun f=>f.name==n) f)
 |none=>none)else none
theorem XJ(h:QE p=true):p.globals.length<=16/\p.procs.length<=16/\cntP p.procs<=200:=VQ (QK h).1
theorem IM{n:Str}(h:¬n∈procsN p):Xc (fun f=>f.name==n) p.procs = -1/\p.procs.find? (fun f=>f.name==n)=none:=by
 have h1:p.procs.any (fun f=>f.name==n)=false:=by
  rw[x7i];intro f hf hn;exact h (x3q.2 ⟨f,hf,by simpa using hn⟩)
 refine⟨by unfold Xc;rw[h1];rfl,?_⟩;rw[x6q];intro f hf;have:=x7i.1 h1 f hf;simpa using this
theorem Lb{n:Str}(h:n∈procsN p):∃(k:Nat) (hk:k<p.procs.length),Xc (fun f=>f.name==n) p.procs=k/\p.procs.findIdx (fun f=>f.name==n)=k/\p.procs.find? (fun f=>f.name==n)=some p.procs[k]/\p.procs[k].name=n:=by
 obtain⟨k,hk,h1,h2,h3⟩:=Du h;refine⟨k,hk,h1,?_,h2,h3⟩;unfold Xc at h1;cases ha:p.procs.any (fun f=>f.name==n)with
 |true=>rw[ha,x3p]at h1;omega
 |false=>rw[ha,x3t]at h1;omega
theorem Jj{n:Str}{w:Way}(h:EA p n=some w):∃(k:Nat) (f:Pr),p.procs[k]?=some f/\w=QQ p k f/\QE p=true/\f.name=n/\p.procs.find? (fun f=>f.name==n)=some f:=by
 unfold EA at h;cases hc:QE p with
 |false=>rw[hc]at h;cases h
 | true=>
   rw[hc,x3p]at h;by_cases hn:n∈procsN p
   ·obtain⟨k,hk,h1,h2,h3,h4⟩:=Lb hn;rw[h3,h2]at h;cases h;exact⟨k,p.procs[k],by simp,rfl,rfl,h4,h3⟩
   ·rw[(IM hn).2]at h;cases h
def q6j(p:Pg)(k:Nat)(f:Pr):Int:=if QB p.procs k<QB p.procs k+cntL f.body then((QB p.procs k:Nat)+1:Int)else -1
def x1v(p:Pg)(id:Int):Int×Bool:=bif QE p&&(decide (1<=id)&&decide (id<=(sheetOf p).l.length))then(((sheetOf p).l[(id-1).toNat]?.map Item.next).getD 0,true)else(0,false)
def QP(p:Pg)(j:Nat)(n i:Int):Int:=if i=0 then 0 else if i=n-1 then -1 else loI p j+i-1
theorem UW(w:Way)(f:Pr)(hj:w.p.procs[w.j]?=some f)(hc:cntP w.p.procs<=1000)(hn:0<=w.n/\w.n<=5000)(i:Int)(hi:0<=i/\i<=5000):SpecP prog 64 [.ip w.cells,.int .i64 i] (fun r=>r=.int .i64 (QP w.p w.j w.n i)):=by
 refine sB Va func64 rfl call64 ?_;conv=>whnf
 obtain⟨_,_,_,hlen,hsp⟩:=QJ w.p;obtain⟨hlo,hhi,hle,_⟩:=hsp w.j f hj;repeat' (first|((first|refine dA ?_|refine wI ?_|(refine IdxK.at rfl (VT hlo) rfl ?_));conv=>whnf)|(apply bD<;>intro _<;>first|omega|conv=>whnf))
 all_goals exact RetK.int (by unfold QP loI;(repeat' split)<;>omega)
theorem Z8(l:List Int):∀b:List Bool,(KP l b).length=b.length:=by
 induction l with
 |nil=>intro b;rfl
 | cons a r ih=>
   intro b;show(KP r (b.set a.toNat true)).length=b.length;rw[ih,x5e]
theorem DrawK.le{ops:Array Oper}{info:Info}{id:Nat}{s':St}(hle:Le N s s')(h:DrawK P T N info id ops K s'):DrawK P T N info id ops K s:=by
 refine⟨⟨fun σ β a w hr=>?_⟩⟩;obtain⟨σ1,β1,hr1,hl1⟩:=hle σ β a w hr;refine Code.wp_mono (fun e a' w' hk=>?_) (h.ok.ok σ1 β1 a w hr1);obtain⟨σ',β',s2,hk,hr',hl⟩:=hk;exact⟨σ',β',s2,hk,hr',hl1.trans hl⟩
def OI(p:Pg)(id:Int):Option S:=((sheetOf p).l[(id-1).toNat]?).map Item.s
def q6m(p:Pg)(some':List Str)(t:Step):Bool:=decide (t.src=0)||match OI p t.src with
 |some s=> !(decide (s.kind=4) && !(some'.any fun x=>s.proc==x))
 |none=>true
def q8p(w:Way)(f:Pr)(some':List Str):Bool:=
 (FZ 0 (ZP (QR (cntL f.body+2) ((w.real.filter (q6m w.p some')).map (ixP w.p w.j f w.n))).1 [0])).any fun s=>decide (w.n-1=s)
def x1p(p:Pg)(st:List Str×Bool)(k:Nat):List Str×Bool:=match p.procs[k]?with
 |some f=>bif !(st.1.any fun s=>f.name==s)&&q8p (QQ p k f) f st.1 then(st.1++[f.name],true)else st
 |none=>st
def E1(p:Pg)(out:List Str):List Str×Bool:=(List.range p.procs.length).foldl (x1p p) (out,false)
def q5i(p:Pg):Nat->List Str->List Str
 |0,out=>out
 |k+1,out=>bif (E1 p out).2 then q5i p k (E1 p out).1 else(E1 p out).1
def q8b(p:Pg):List Str:=bif QE p then JZ (q5i p (p.procs.length+1) [])else []
def Xa(a b:Step):Prop:=QT a.src<QT b.src\/(QT a.src=QT b.src/\QT a.dst<QT b.dst)
def I2(s:Step):Prop:=okSt s/\s.kind=1
theorem GV{a b:Step}(h1:a.src=b.src)(h2:a.dst=b.dst)(h3:a.kind=b.kind):a=b:=by
 cases a;cases b;simp_all
theorem GC{a b:Step}:FU a b=true↔QT a.src<QT b.src\/(QT a.src=QT b.src/\(QT a.dst<QT b.dst\/(QT a.dst=QT b.dst/\a.kind<b.kind))):=by
 have h:FU a b=decide (Rg a b<0):=rfl;rw[h,x3i];unfold Rg;simp only[orI];split
 ·rename_i h1;rw[VL]at h1;split
  ·rename_i h2;rw[VL]at h2;split
   ·rename_i h3;rw[VL]at h3;omega
   ·rw[KV];omega
  ·rename_i h2;rw[VL]at h2;rw[KV];omega
 ·rename_i h1;rw[VL]at h1;rw[KV];omega
theorem Qt(l:List Step):(YC l).Pairwise fun a b=>FU b a=false:=by
 have:=x8m (le:=fun x y=> !FU y x) (fun a b c h1 h2=>by
  simp only[x5l]at h1 h2⊢;rw[x8j,ne_eq,GC]at h1 h2⊢;omega) (fun a b=>by
  cases h1:FU b a with
  |false=>rfl
  | true=>
    have h2:FU a b=false:=by
     rw[x8j,ne_eq,GC];rw[GC]at h1;omega
    rw[h2];rfl) l
 refine List.Pairwise.imp ?_ this;intro a b h;simpa using h
theorem W9{a b:Step}(ha:I2 a)(hb:I2 b):ZH a b=true↔a=b:=by
 unfold ZH;simp only[x3h,x3i];refine⟨fun h=>GV h.1 h.2 (by rw[ha.2,hb.2]),fun h=>by rw[h];exact⟨rfl,rfl⟩⟩
theorem q3b{a b:Step}(ha:I2 a)(hb:I2 b)(h:FU b a=false)(hne:a≠b):Xa a b:=by
 rw[x8j,ne_eq,GC]at h;unfold Xa;by_cases h1:QT a.src=QT b.src
 ·by_cases h2:QT a.dst=QT b.dst
  ·exact absurd (GV (YX ha.1.1 hb.1.1 h1) (YX ha.1.2 hb.1.2 h2) (by rw[ha.2,hb.2])) hne
  ·omega
 ·omega
theorem Xe{a b c:Step}(h:Xa a b)(h':Xa b c):Xa a c:=by unfold Xa at*;omega
theorem HF{a:Step}(h:Xa a a):False:=by unfold Xa at h;omega
theorem LT:∀(l:List Step)(a:Step),I2 a->(∀s∈l,I2 s)->(a::l).Pairwise (fun a b=>FU b a=false)->(a::XQ a l).Pairwise Xa/\∀s,s∈a::XQ a l↔s∈a::l
 |[],a,_,_,_=>⟨by simp[XQ],by simp[XQ]⟩
 | b::r,a,ha,hl,h=>by
   have hb:=hl b x2r;have hr:∀s∈r,I2 s:=fun s hs=>hl s (x2c _ hs);rw[x6k]at h;obtain⟨h1,h2⟩:=h;obtain⟨i1,i2⟩:=LT r b hb hr h2;rw[XQ];cases hs:ZH b a with
   | true=>
     obtain rfl:=(W9 hb ha).1 hs;rw[x3p];exact⟨i1,fun s=>by rw[i2];simp⟩
   | false=>
     rw[x3t];have hne:a≠b:=fun e=>by
      rw[(W9 hb ha).2 e.symm]at hs;cases hs
     have hlt:=q3b ha hb (h1 b x2r) hne;refine⟨?_,fun s=>by rw[x2i,i2,<-x2i (a:=s) (b:=a)]⟩;rw[x6k];refine⟨fun s hsm=>?_,i1⟩;rcases x2i.1 hsm with rfl|hsm
     ·exact hlt
     ·exact Xe hlt ((x6k.1 i1).1 s hsm)
theorem SV{l:List Step}(hok:∀s∈l,I2 s):(WA l).Pairwise Xa/\∀s,s∈WA l↔s∈l:=by
 have hp:∀s,s∈YC l↔s∈l:=fun s=>(Jq l).mem_iff;have hs:=Qt l;unfold WA;cases hq:YC l with
 | nil=>
   rw[hq]at hp;exact⟨by simp[NB],fun s=>by rw[<-hp];simp[NB]⟩
 | cons a r=>
   rw[hq]at hp hs;have hok':∀s∈a::r,I2 s:=fun s h=>hok s ((hp s).1 h);obtain⟨h1,h2⟩:=LT r a (hok' a x2r) (fun s h=>hok' s (x2c _ h)) hs;exact⟨h1,fun s=>by rw[NB,h2,hp]⟩
theorem H9:∀{l m:List Step},l.Pairwise Xa->m.Pairwise Xa->(∀s,s∈l↔s∈m)->l=m
 |[],[],_,_,_=>rfl
 |[],b::m,_,_,h=>by have:=(h b).2 x2r;cases this
 |a::l,[],_,_,h=>by have:=(h a).1 x2r;cases this
 | a::l,b::m,hl,hm,h=>by
   rw[x6k]at hl hm;have hab:a=b:=by
    rcases x2i.1 ((h a).1 x2r)with e|ha
    ·exact e
    ·rcases x2i.1 ((h b).2 x2r)with e|hb
     ·exact e.symm
     ·exact(HF (Xe (hl.1 b hb) (hm.1 a ha))).elim
   subst hab;congr 1;refine H9 hl.2 hm.2 fun s=>⟨fun hs=>?_,fun hs=>?_⟩
   ·rcases x2i.1 ((h s).1 (x2c _ hs))with rfl|h'
    ·exact(HF (hl.1 _ hs)).elim
    ·exact h'
   ·rcases x2i.1 ((h s).2 (x2c _ hs))with rfl|h'
    ·exact(HF (hm.1 _ hs)).elim
    ·exact h'
theorem Mj(h:QE p=true)(hj:p.procs[j]?=some f):∀s∈QD p j f,I2 s:=by
 obtain⟨_,_,h3⟩:=Ux h hj;intro s hs;refine⟨h3 s hs,?_⟩;unfold QD at hs;rcases x2i.1 hs with rfl|hs
 ·rfl
 ·obtain⟨it,_,hz⟩:=x3c.1 hs;obtain⟨y,_,rfl⟩:=x3q.1 hz;rfl
theorem JC(h:QE p=true)(hj:p.procs[j]?=some f):(QQ p j f).real.Pairwise Xa/\∀s,s∈(QQ p j f).real↔s∈QD p j f:=SV (Mj h hj)
theorem OZ(h:QE p=true)(hj:p.procs[j]?=some f){s:Step}(hs:s∈QD p j f):s=⟨0,q6j p j f,1⟩\/(1<=s.src/\s.src<=9223372036854775806):=by
 obtain⟨_,_,hcn⟩:=XJ h;obtain⟨_,_,_,hlen,hsp⟩:=QJ p;obtain⟨_,_,hle,_⟩:=hsp j f hj;unfold QD at hs;rcases x2i.1 hs with rfl|hs
 ·exact .inl rfl
 ·obtain⟨it,hit,hz⟩:=x3c.1 hs;obtain⟨y,_,rfl⟩:=x3q.1 hz;have:=ZI (QK h).1 hj (Wc hit);refine .inr ?_;simp only;omega
theorem KN(c:UInt8):SpecP prog 164 [.int .u8 c.toNat] (fun r=>r=.bool (YO c)):=by
 refine sB PW func164 rfl call164 ?_;conv=>whnf
 repeat' (apply bD<;>intro _<;>first|omega|conv=>whnf)
 ·exact RetK.bool (by simp_all[YO];try omega)
 ·exact RetK.ff (by simp_all[YO];try omega)
theorem X2(c:UInt8):SpecP prog 165 [.int .u8 c.toNat] (fun r=>r=.bool (NS c)):=by
 refine sB PZ func165 rfl call165 ?_;conv=>whnf
 repeat' (apply bD<;>intro _<;>first|omega|conv=>whnf)
 ·exact RetK.bool (by simp_all[NS];try omega)
 ·exact RetK.ff (by simp_all[NS];try omega)
def wordsL:List Str:=[[103,108,111,98,97,108],[112,114,111,99],[118,97,114],[114,101,102],[105,102],[101,108,115,101],[119,104,105,108,101],[98,114,101,97,107],[99,111,110,116,105,110,117,101],[114,101,116,117,114,110],[103,111,116,111],[114,101,97,100],[112,114,105,110,116]]
theorem X1:SpecP prog 211 [] (fun r=>r=eStrs wordsL):=by
 refine sB PX func211 rfl call211 ?_;conv=>whnf
 repeat' ((first|refine x2t rfl ?_|refine aD ?_|refine BsK.pureL rfl rfl ?_);conv=>whnf)
 exact RetK.p rfl
theorem Sh(s:Str):W6 s=wordsL.any fun w=>w==s:=by
 rw[x7k];unfold W6 wordsL;simp only[x6p,x3i,List.any_cons,List.any_nil,Bool.or_false,x6d,or_assoc,@eq_comm _ s]
theorem Zu(s:Str):SpecP prog 166 [.str s] (fun r=>r=.bool (W6 s)):=by
 refine sB NQ func166 rfl call166 ?_;conv=>whnf
 rw[Sh];repeat' ((first|(refine iM fun _=>?_)|refine cP X1 ?_);conv=>whnf)
 have hlb:wordsL.length<=1000:=by decide
 generalize wordsL=l at hlb⊢;have hl:(l.map AV.str).length=l.length:=x2m _;refine LoopK.inv QY (fun j:Nat=>⟨[(0,.p (.str s)),(5,.p (eStrs l)),(6,.p (.int .i64 (l.map AV.str).length)),(7,.p (.int .i64 j))],[]⟩) (fun j=>j<=l.length/\(l.drop j).any (fun w=>w==s)=l.any fun w=>w==s) (fun j=>l.length-j) 0 (Le.of_eq rfl) ⟨x3z _,rfl⟩ ?_;rintro j ⟨h2,h3⟩;conv=>whnf
 repeat' (first|((first|(refine iA fun _=>?_)|refine wI ?_);conv=>whnf)|(apply bD<;>intro _<;>first|omega|conv=>whnf)|(apply bB<;>intro _<;>conv=>whnf))
 ·exact RetK.tt (by rw[<-h3,F9 (p:=fun w=>w==s) (by omega) (by assumption)])
 ·exact⟨j+1,⟨by omega,by rw[<-h3,Kz (p:=fun w=>w==s) (by omega) (by assumption)]⟩,by omega,Le.of_eq rfl⟩
 ·exact RetK.ff (by rw[<-h3,Xf (by omega)])
theorem Lr{s:Str}(h:s.length<=i):JM s i=i:=Qz fun hi=>by omega
theorem XP(s:Str):SpecP prog 109 [.str s] (fun r=>r=.bool (isName s)):=by
 refine sB PO func109 rfl call109 ?_;conv=>whnf
 by_cases hs:s=[]
 ·subst hs;have e:isName []=false:=by unfold isName;rw[dif_neg (by simp)]
  rw[e];repeat' (first|(refine iM fun _=>?_;conv=>whnf)|(apply bD<;>intro _<;>first|omega|conv=>whnf)|(apply bB<;>intro _<;>conv=>whnf))
  all_goals first
   |exact RetK.ff rfl
   |(exfalso;simp_all;done)
 have hlen:0<s.length:=x9m.2 hs;have hsb:(s==(⟨#[]⟩:ByteArray).data.toList)=false:=by simpa using hs
 repeat' (first|((first|(refine iM fun _=>?_)|refine cP (KN _) ?_|(refine ByteK.at (by omega) ?_));conv=>whnf)|(apply bD<;>intro _<;>first|omega|conv=>whnf)|(apply bN<;>intro _<;>conv=>whnf)|(apply bB<;>intro _<;>conv=>whnf))
 ·exfalso;rename_i h;rw[hsb]at h;cases h
 ·exact RetK.ff (by unfold isName;rw[dif_neg (by omega)])
 rotate_left 1
 ·exact RetK.ff (by unfold isName;rw[dif_pos (by omega)];simp_all)
 have hl0:YO s[0]=true:=by assumption
 have hle:s.length<=8:=by omega
 have e0:JM s 0=JM s 1:=(BT hlen (by unfold IR;rw[hl0];rfl)).symm;have en:isName s=(decide (JM s 1=s.length) && !W6 s):=by
  unfold isName;rw[dif_pos (by omega),hl0,e0];rfl
 refine LoopK.inv QY (fun j:Nat=>⟨[(0,.p (.str s)),(3,.p (.int .i64 j))],[]⟩) (fun j=>1<=j/\j<=s.length/\JM s j=JM s 1) (fun j=>s.length-j) 1 (Le.of_eq rfl) ⟨x3g _,hlen,rfl⟩ ?_;rintro j ⟨h1,h2,h3⟩;conv=>whnf
 repeat' (first|((first|(refine iM fun _=>?_)|refine cP (KN _) ?_|refine cP (X2 _) ?_|refine cP (Zu _) ?_|(refine ByteK.at (by omega) ?_)|refine wI ?_);conv=>whnf)|(apply bD<;>intro _<;>first|omega|conv=>whnf)|(apply bN<;>intro _<;>conv=>whnf))
 all_goals first
  |exact⟨j+1,⟨by omega,by omega,by rw[BT (by omega) (by simp_all[IR])];exact h3⟩,by omega,Le.of_eq rfl⟩
  |exact RetK.ff (by rw[en,<-h3,Qz fun _=>by simp_all[IR]];simp;omega)
  |exact RetK.bool (by rw[en,<-h3,Lr (by omega),show j=s.length by omega];simp)
theorem UV(l:List Str):SpecP prog 108 [eStrs l] (fun r=>r=.bool (namesB l)):=by
 refine sB PU func108 rfl call108 ?_;conv=>whnf
 refine iM fun _=>?_;conv=>whnf
 refine LoopK.inv QY (fun j:Nat=>⟨[(5,.p (eStrs l)),(6,.p (.int .i64 (l.map AV.str).length)),(7,.p (.int .i64 j))],[]⟩) (fun j=>j<=l.length/\(l.drop j).all isName=namesB l) (fun j=>l.length-j) 0 (Le.of_eq rfl) ⟨x3z _,rfl⟩ ?_;rintro j ⟨h2,h3⟩;have hl:(l.map AV.str).length=l.length:=x2m _;conv=>whnf
 repeat' (first|((first|refine cP (XP _) ?_|(refine iA fun _=>?_)|refine wI ?_);conv=>whnf)|(apply bD<;>intro _<;>first|omega|conv=>whnf)|(apply bN<;>intro _<;>conv=>whnf))
 ·exact⟨j+1,⟨by omega,by rw[HW (by omega) (by assumption)];exact h3⟩,by omega,Le.of_eq rfl⟩
 ·exact RetK.ff (by rw[<-h3,Zt (by omega) (by assumption)])
 ·exact RetK.tt (by rw[<-h3,HZ (by omega)])
end Go.Ab
