/- graph: how many nodes, who is next; solve: each list's set. -/
import Derived.Laws.StructEq
import Derived.ChangeKeysEq
import Derived.Test.YtmfnbgbblkhneaaGreatRchA4
import Derived.Test.YtmfnbgbblkhneaaGreatRchA6
import Derived.Test.YtmfnbgbblkhneaaGreatRchA8
import Derived.Test.YtmfnbgbblkhneaaGreatRchA9
import Derived.Test.YtmfnbgbblkhneaaGreatRchA10
import Derived.Test.YtmfnbgbblkhneaaGreatRchA13
set_option linter.unusedSimpArgs false
set_option linter.unusedVariables false
set_option maxRecDepth 100000
set_option maxHeartbeats 16000000
namespace Go.Ab
open Go.Proofs.Tryz
open Go.Proofs
variable {K:St->Prop}{N j k n sz:Nat}{P:Program}{e:TypeId}{es:List AV}{f:Pr}{it:Item}{p:Pg}{s:St}{σ:Mem}
theorem Vf(g:List (List Int)×List (List Int)):SpecP prog 237 [VQ g] (fun r=>r=.int .i64 g.1.length):=by
 refine sB Q1 func237 rfl call237 ?_;conv=>whnf
 have hl:((avI g.1).map AV.sl).length=g.1.length:=by unfold avI;rw[q7f,q7f]
 repeat' (first|((first|(refine iM fun _=>?_)|refine dA ?_|refine q7p rfl ?_|refine aD ?_|refine aR ?_|refine bP ?_|(refine iA fun _=>?_)|refine IdxK.xs (by omega) ?_|refine QX (by omega) ?_|(refine ByteK.at (by omega) ?_)|refine wI ?_);conv=>whnf)|(apply bD<;>intro _<;>first|omega|conv=>whnf)|(apply bE<;>intro _<;>first|omega|conv=>whnf)|(apply bN<;>intro _<;>conv=>whnf)|(apply bB<;>intro _<;>conv=>whnf))
 all_goals first
  |exact RetK.int (by rw[hl])
theorem FN(l:List Int)(hl:l.length<=1000000):SpecP prog 267 [QA l] (fun r=>r=QA l):=by
 refine sB GX func267 rfl call267 ?_;conv=>whnf
 have hlm:(l.map (AV.int .i64)).length=l.length:=q7f _;repeat' (first|((first|(refine iM fun _=>?_)|refine dA ?_|refine q7p rfl ?_|refine aD ?_|refine aR ?_|(refine iA fun _=>?_)|refine IdxK.xs (by omega) ?_|refine QX (by omega) ?_|(refine ByteK.at (by omega) ?_)|refine wI ?_|refine Yt QK rfl rfl rfl rfl (fun q hq=>?_)|refine x3e (fun x hx=>by cases hx) rfl ?_|refine x1m (n:=0) rfl rfl (by show _*8<=140737488355328;omega) (by show _<=9223372036854775807;omega) (fun x hx=>by obtain⟨y,_,rfl⟩:=q7s.1 hx;exact⟨rfl,rfl⟩) ?_);conv=>whnf)|(apply bD<;>intro _<;>first|omega|conv=>whnf)|(apply bE<;>intro _<;>first|omega|conv=>whnf)|(apply bN<;>intro _<;>conv=>whnf)|(apply bB<;>intro _<;>conv=>whnf))
 all_goals first
  |exact⟨_,.p Sub.nils,by rw[x3z.1 (hq (by assumption))];rfl⟩
  |exact⟨_,.hd rfl (by simp),rfl⟩
theorem Zu(g:List (List Int)×List (List Int))(a:Int)(hl:∀r∈g.1,r.length<=1000000):SpecP prog 238 [VQ g,.int .i64 a] (fun r=>r=QA (if ZG g.1.length a=true then g.1.getD a.toNat []else [])):=by
 refine sB NU func238 rfl call238 ?_;conv=>whnf
 have hH:=FZ g a;cases hb:ZG g.1.length a with
 | false=>
   rw[hb]at hH;repeat' (first|((first|(refine iM fun _=>?_)|refine dA ?_|refine q7p rfl ?_|refine aD ?_|refine aR ?_|refine bP ?_|(refine iA fun _=>?_)|refine IdxK.xs (by omega) ?_|refine QX (by omega) ?_|(refine ByteK.at (by omega) ?_)|refine wI ?_|refine cP hH ?_);conv=>whnf)|(apply bD<;>intro _<;>first|omega|conv=>whnf)|(apply bE<;>intro _<;>first|omega|conv=>whnf)|(apply bN<;>intro _<;>conv=>whnf)|(apply bB<;>intro _<;>conv=>whnf))
   all_goals first
    |contradiction
    |exact⟨_,.p Sub.nils,rfl⟩
 | true=>
   rw[hb]at hH;have hr:0<=a/\a<g.1.length:=by
    unfold ZG at hb;simpa using hb
   have hlt:a.toNat<g.1.length:=by omega
   have hg:((avI g.1).map AV.sl)[a.toNat]?=some (QA (g.1.getD a.toNat [])):=by
    unfold avI;rw[q7l,q7l,q7h,q7g hlt];rfl
   have hC:=FN (g.1.getD a.toNat []) (by rw[q7h,q7g hlt];exact hl _ (q7i hlt));rw[if_pos rfl];generalize g.1.getD a.toNat []=row at*
   repeat' (first|((first|(refine iM fun _=>?_)|refine dA ?_|refine q7p rfl ?_|refine aD ?_|refine aR ?_|refine bP ?_|(refine iA fun _=>?_)|refine IdxK.xs (by omega) ?_|refine QX (by omega) ?_|(refine ByteK.at (by omega) ?_)|refine wI ?_|refine cP hH ?_|(refine IdxK.at (k:=a.toNat) (by omega) hg rfl ?_)|refine cP hC ?_);conv=>whnf)|(apply bD<;>intro _<;>first|omega|conv=>whnf)|(apply bE<;>intro _<;>first|omega|conv=>whnf)|(apply bN<;>intro _<;>conv=>whnf)|(apply bB<;>intro _<;>conv=>whnf))
   all_goals first
    |contradiction
    |exact⟨_,.p (Sub.refl _),rfl⟩
def eWm(m:List (List Wd)):List (List AV):=m.map fun r=>r.map eW
def NO(m:List (List Wd)):AV:=.sl ((eWm m).map .sl)
def Az(w:Nat)(l:List (List Int))(i:Nat):List (List Wd):=(l.take i).map (GD w)++List.replicate (l.length-i) []
theorem EF(w:Nat)(l:List (List Int)){i:Nat}(h:i<=l.length):(Az w l i).length=l.length:=by
 unfold Az;rw[q7b,q7f,q8n,q9d];omega
theorem ED(w:Nat)(l:List (List Int)){i:Nat}(h:i<l.length):(Az w l i).set i (GD w l[i])=Az w l (i+1):=by
 unfold Az;have hl:((l.take i).map (GD w)).length=i:=by rw[q7f,q8n];omega
 rw[x1d _ _ (by omega),hl,x2r,show l.length-i=(l.length-(i+1))+1 by omega,x2f,x1n,q8q h,q7o,q8d];rfl
theorem RE{N':Nat}{sl:List (Nat×LV)}(n:Nat)(h0:(sl.all fun x=>x.2.xfree 0)=true):
  Le N' ⟨sl,[(0,.own 270 1 (List.replicate n .nils))]⟩ ⟨sl,[(0,.ext (.mat 270 255 1 (List.replicate n []) []))]⟩:=by
 have hm:=ND (N:=N') (sl:=sl) (H:=[(0,.own 270 1 (List.replicate n .nils))])
  (H':=[(0,.ext (.mat 270 255 1 (List.replicate (List.replicate n AV.nils).length []) []))])
  0 255 1 (e:=270) (es:=List.replicate n .nils) rfl (fun x hx=>x0a hx) rfl h0 rfl rfl (by simp[KM])
 simpa using hm
theorem Kq(l:List (List Int))(hl:l.length<=5000)(hr:∀r∈l,r.length<=5000)(most:Nat)(hm:most<=5000)(hf:∀r∈l,∀f∈r,0<=f/\f<most):SpecP prog 197 [eMat l,.int .i64 most] (fun r=>r=.tup [NO (l.map (GD (most/64+1))),.tt]):=by
 refine sB Fm func197 rfl call197 ?_;conv=>whnf
 have hlm:((avI l).map AV.sl).length=l.length:=by unfold avI;rw[q7f,q7f]
 obtain⟨w,hw⟩ : ∃w,w=most/64+1:=⟨_,rfl⟩;rw[<-hw];have e7:=AK most;repeat' (first|((first|(refine iM fun _=>?_)|refine dA ?_|refine q7p rfl ?_|refine aD ?_|refine aR ?_|refine bP ?_|(refine iA fun _=>?_)|refine IdxK.xs (by omega) ?_|refine QX (by omega) ?_|(refine ByteK.at (by omega) ?_)|refine wI ?_|refine x2m l.length (by omega) (by show 24*_<=140737488355328;omega) (by unfold maxLen;omega) ?_);conv=>whnf)|(apply bD<;>intro _<;>first|omega|conv=>whnf)|(apply bE<;>intro _<;>first|omega|conv=>whnf)|(apply bN<;>intro _<;>conv=>whnf)|(apply bB<;>intro _<;>conv=>whnf))
 refine LoopK.inv QK (fun i:Nat=>⟨[(1,.p (.int .i64 most)),(6,.hd 0 0 l.length),(14,.p (eMat l)),(15,.p (.int .i64 l.length)),(16,.p (.int .i64 i))],[(0,.ext (.mat 270 255 1 (eWm (Az w l i)) []))]⟩) (fun i=>i<=l.length) (fun i=>l.length-i) 0
  (by
    refine Le.trans (RE l.length rfl) ?_;exact Le.mk [] (by simp) (by simp) (by simp) (.r (.r (.r (.cons (.of_eq (by rw[hlm];rfl)) (.r .nil))))) (.cons rfl (.of_eq (by simp[eWm,Az])) .nil)) (q7c _) ?_
 intro i hi;rcases q7e i l.length with h1|h1
 ·have hsl:=EF w l hi;have hst:=ED w l h1;have hrl:=hr _ (q7i h1);have hfi:=hf _ (q7i h1);have hge:((avI l).map AV.sl)[i]?=some (QA l[i]):=by unfold avI;rw[q7l,q7l,q7g h1];rfl
  generalize Az w l i=rows at hsl hst⊢;generalize l[i]=fs at hst hrl hfi hge;have hel:(eWm rows).length=l.length:=by unfold eWm;rw[q7f,hsl]
  have hfl:(fs.map (AV.int .i64)).length=fs.length:=q7f _;conv=>whnf
  repeat' (first|((first|(refine iM fun _=>?_)|refine dA ?_|refine q7p rfl ?_|refine aD ?_|refine aR ?_|refine bP ?_|(refine iA fun _=>?_)|refine IdxK.xs (by omega) ?_|refine QX (by omega) ?_|(refine ByteK.at (by omega) ?_)|refine q7p (by decide) ?_|refine Wr.i64 (by first|omega|(rw[e7];omega)) (by first|omega|(rw[e7];omega)) ?_|(refine IdxK.at (k:=i) rfl hge rfl ?_)|refine x2m w (by rw[hw,e7];omega) (by show 8*_<=140737488355328;omega) (by unfold maxLen;omega) ?_|refine q9x i rfl h1 ?_|(refine HR QK rfl rfl rfl rfl rfl rfl rfl rfl rfl (by decide) i [] (by omega) (by omega) (by simp) ⟨by simp,by simp,by simp⟩ ?_));conv=>whnf)|(apply bD<;>intro _<;>first|omega|conv=>whnf)|(apply bE<;>intro _<;>first|omega|conv=>whnf)|(apply bN<;>intro _<;>conv=>whnf)|(apply bB<;>intro _<;>conv=>whnf))
  have hav:∀h,(avI l)[i]'h=fs.map (.int .i64):=fun h=>by
   have h2:=hge;rw[q7l,q7g h]at h2;have h3:AV.sl (avI l)[i]=.sl (fs.map (.int .i64)):=x0m h2;exact(AV.sl.inj h3)
  simp only[hav];refine LoopK.inv QK (fun j:Nat=>⟨[(1,.p (.int .i64 most)),(6,.hd 0 0 l.length),(7,.p (.int .i64 i)),(14,.p (eMat l)),(15,.p (.int .i64 l.length)),(16,.p (.int .i64 i)),(28,.p (QA fs)),(29,.p (.int .i64 (fs.map (AV.int .i64)).length)),(30,.p (.int .i64 j))],[(0,.ext (.mat 270 255 1 ((eWm rows).set i ((GD w (fs.take j)).map eW)) []))]⟩) (fun j=>j<=fs.length) (fun j=>fs.length-j) 0
   (Le.of_eq (by simp[GD];exact⟨⟨rfl,rfl⟩,rfl⟩)) (q7c _) ?_
  intro j hj;rcases q7e j fs.length with h2|h2
  ·obtain⟨hf0,hf1⟩:=hfi _ (q7i h2);have hsu:=Cz w fs h2;have hrw:=W5 w (fs.take j);have hfj:fs[j]=((fs[j].toNat:Nat):Int):=by omega
   have hg2:(fs.map (AV.int .i64))[j]?=some (.int .i64 fs[j]):=by rw[q7l,q7g h2];rfl
   generalize GD w (fs.take j)=ws at*
   have hput:=Yb ws fs[j].toNat (by rw[hrw,hw];omega) (by omega);rw[<-hfj,<-hsu]at hput;have hpl:(GD w (fs.take (j+1))).length=ws.length:=by rw[W5,hrw]
   generalize hws:GD w (fs.take (j+1))=ws' at*
   have hwm:(ws.map eW).length=ws.length:=q7f _;have hput2:SpecH prog 236 [.hd 1000 0 (ws.map eW).length,.p (.int .i64 fs[j])] ((1000,.own 255 1 (ws.map eW))::bif false then [(1001,.own 0 0 [])]else []) (fun r H=>(∃b,r=.p (.bool b))/\H=[wsH 1000 ws']):=by rw[hwm];exact hput
   have hrow:((eWm rows).set i (ws.map eW))[i]?=some (ws.map eW):=q9p (by omega);have hss:((eWm rows).set i (ws.map eW)).set i (ws'.map eW)=(eWm rows).set i (ws'.map eW):=List.set_set _;conv=>whnf
   repeat' (first|((first|(refine iM fun _=>?_)|refine dA ?_|refine q7p rfl ?_|refine aD ?_|refine aR ?_|refine bP ?_|(refine iA fun _=>?_)|refine IdxK.xs (by omega) ?_|refine QX (by omega) ?_|(refine ByteK.at (by omega) ?_)|refine wI ?_|(refine IdxK.at (k:=j) rfl hg2 rfl ?_)|refine q9x i rfl h1 ?_|refine RowK.mk i (ws.map eW) (by omega) hrow (by simp) ?_|(refine Xv 0 i 0 false (ws'.map eW) (S:=fun c=>∃b,c=.bool b) (.row (.p (Sub.refl _) .nil)) hput2 rfl hrow (by omega) (fun h=>by cases h) (fun l' H' hh=>by obtain⟨⟨b,hb⟩,hH⟩:=hh;exact⟨_,hb,⟨b,rfl⟩,hH⟩) (by rw[q7f,q7f,hpl]) ?_;rintro _ ⟨b,rfl⟩));conv=>whnf)|(apply bD<;>intro _<;>first|omega|conv=>whnf)|(apply bE<;>intro _<;>first|omega|conv=>whnf)|(apply bN<;>intro _<;>conv=>whnf)|(apply bB<;>intro _<;>conv=>whnf)|(refine q7p ?_ ?_<;>conv=>whnf))
   all_goals first
    |(exfalso;omega)
    |exact⟨j+1,h2,by omega,Le.of_eq (by rw[hss,hws];rfl)⟩
  ·have hall:fs.take j=fs:=q8y h2;rw[hall];have hme:(eWm rows).set i ((GD w fs).map eW)=eWm (rows.set i (GD w fs)):=by unfold eWm;rw[q9k]
   rw[hme,hst];conv=>whnf
   repeat' (first|((first|(refine iM fun _=>?_)|refine dA ?_|refine q7p rfl ?_|refine aD ?_|refine aR ?_|refine bP ?_|(refine iA fun _=>?_)|refine IdxK.xs (by omega) ?_|refine QX (by omega) ?_|(refine ByteK.at (by omega) ?_)|refine wI ?_);conv=>whnf)|(apply bD<;>intro _<;>first|omega|conv=>whnf)|(apply bE<;>intro _<;>first|omega|conv=>whnf)|(apply bN<;>intro _<;>conv=>whnf)|(apply bB<;>intro _<;>conv=>whnf))
   all_goals first
    |(exfalso;omega)
    |exact⟨i+1,h1,by omega,Le.of_eq rfl⟩
 ·obtain rfl:i=l.length:=by omega
  have hall:Az w l l.length=l.map (GD w):=by unfold Az;rw[x2w,x2r];simp
  rw[hall];conv=>whnf
  repeat' (first|((first|(refine iM fun _=>?_)|refine dA ?_|refine q7p rfl ?_|refine aD ?_|refine aR ?_|refine bP ?_|(refine iA fun _=>?_)|refine IdxK.xs (by omega) ?_|refine QX (by omega) ?_|(refine ByteK.at (by omega) ?_)|refine wI ?_);conv=>whnf)|(apply bD<;>intro _<;>first|omega|conv=>whnf)|(apply bE<;>intro _<;>first|omega|conv=>whnf)|(apply bN<;>intro _<;>conv=>whnf)|(apply bB<;>intro _<;>conv=>whnf))
  all_goals exact⟨_,.tup (cs:=[NO (l.map (GD w)),.tt]) rfl (fun q u c hq hc=>by
   match q,hq,hc with
   |0,hq,hc=>cases hq;cases hc;exact .mat rfl (by unfold eWm;simp)
   |1,hq,hc=>cases hq;cases hc;exact .p (Sub.refl _)
   |q+2,hq,_=>simp at hq),rfl⟩
theorem RepE.drop{vs:List Value}(h:RepE σ sz es vs)(k:Nat):RepE σ sz (es.drop k) (vs.drop (k*sz)):=by
 refine⟨by rw[x0u,x0u,h.len,Nat.sub_mul],fun i e hi=>?_,fun i e j c hi hj=>?_⟩
 ·rw[q9f]at hi;exact h.size _ e hi
 ·rw[q9f]at hi;obtain⟨u,hu,hr⟩:=h.rep _ e j c hi hj;exact⟨u,by rw[q9f,<-x1x,<-q9o];exact hu,hr⟩
theorem Gx{β:Lab}{w:World}{ie:TyI}{xs:List AV}(t ty:TypeId)(ht:P.underlying t=some (.slice e))(hie:TyOK P e ie)(hz:ie.zero.cells.size=ie.size)(hown:(Chunk.own e ie.size es).holds σ β w k){off:Nat}(hoff:0<off)(hn:off+n=es.length){v:Value}(hv:RepL σ β (.hd k off n) v){x:Value}{news:List Value}{ad:Addr}{c:Nat}(hx:x=.slice (some ad) xs.length c)(hcell:∀(j:Nat)(u:Value),news[j]?=some u->w.cell? (ad.add j)=some u)(hnews:RepE σ ie.size xs news)(h1:∀u∈news,u.oneCell'=true)(hxs:0<xs.length)(h63:n+xs.length<=maxLen)(hbytes:(n+xs.length)*ie.bytes<=140737488355328)(hlt:∀i,β k=some i->∀b,i.has b->b<w.heap.size):
  ∃v' w' i',(Builtin.append_ #[t,t] ty #[v,x]).run P w=.ok v' w'/\Frm (fun b=>∃i,β k=some i/\i.has b) w w'/\
   (∀i,i'=some i->∀b,i.has b->b<w'.heap.size/\((∃i0,β k=some i0/\i0.has b)\/w.heap.size<=b))/\
   (((Chunk.own e ie.size (es++xs)).holds σ (β.set k i') w' k/\RepL σ (β.set k i') (.hd k off (n+xs.length)) v')\/
     ((Chunk.own e ie.size (es.drop off++xs)).holds σ (β.set k i') w' k/\RepL σ (β.set k i') (.hd k 0 (n+xs.length)) v')):=by
 obtain⟨fi,hfi,hfs,hfb,hfz⟩:=hie.getInfo;have hsetk:∀i':Option BInfo,(β.set k i') k=i':=fun i'=>by simp[Lab.set]
 have hmax:(n+xs.length:Nat)<=(9223372036854775807:Int):=by simp only[maxLen]at h63;omega
 rcases WL.1 hown with⟨hb0,rfl⟩|⟨i,vs,hi,hisz,hh,hvs,hlen,hcapm,hE⟩
 ·simp at hn;omega
 rcases hv.hdI with⟨hk,_⟩|⟨i',o,hk,hl,ho,hvv⟩
 ·rw[hi]at hk;cases hk
 rw[hi]at hk;cases hk;subst hx hvv;have hnl:=hnews.len;by_cases hroom:n+xs.length<=i.cap-off
 ·have hoo:o=off*ie.size:=by
   rcases ho with ho|ho
   ·rw[<-hisz];exact ho
   ·omega
  subst hoo;have hrm:es.length+xs.length<=i.cap:=by omega
  have e1:off*ie.size+n*ie.size=es.length*ie.size:=by rw[<-q9o,hn]
  have hfit:off*ie.size+n*ie.size+news.length<=vs.size:=by rw[e1,hnl,hvs,<-q9o];exact q9y _ hrm
  have hr:(Builtin.append_ #[t,t] ty #[.slice (some ⟨i.blk,off*ie.size,none⟩) n (i.cap-off),.slice (some ad) xs.length c]).run P w =
    .ok (.slice (some ⟨i.blk,off*ie.size,none⟩) (n+xs.length) (i.cap-off)) (w.setRow i.blk (vs.toList.take (off*ie.size+n*ie.size)++news++vs.toList.drop (off*ie.size+n*ie.size+news.length)).toArray):=by
   have hf:=run_firstCells_some (P:=P) w fi.size xs.length ad xs.length c news (by rw[hfs];exact hnl) hcell;rw[hfs]at hf;have hst:=run_storeCells_at P i.blk (off*ie.size+n*ie.size) e news 0 vs w hh (by simpa using hfit) h1;simp only[x2l]at hst;simp[Builtin.append_,run_underlying ht,sizeOf,typeInfo,hfi,Builtin.lenOf,hroom,hf,YL,hfs,hst]
  have hb:β.set k (some i)=β:=by funext j;unfold Lab.set;split<;>simp_all
  refine⟨_,_,some i,hr,⟨rfl,rfl,rfl,q8z _,by simp,fun b _ hnb=>setRow_other w i.blk b _ fun he=>hnb ⟨i,hi,.inl he.symm⟩⟩,fun i1 h1 b hb=>?_,.inl ⟨?_,?_⟩⟩
  ·cases h1;exact⟨by simpa using hlt i hi b hb,.inl ⟨i,hi,hb⟩⟩
  ·rw[hb,e1];refine WL.2 (.inr ⟨i,_,hi,hisz,setRow_heap w i.blk vs _ e _ hh,?_,by simpa using hrm,hcapm,?_⟩)
   ·simp only[x1z,q7b,q8n,x0u,x0z];omega
   ·have hAll:=hE.append hnews;rw[show(vs.toList.take (es.length*ie.size)++news++vs.toList.drop (es.length*ie.size+news.length)).toArray.toList.take ((es++xs).length*ie.size)=vs.toList.take (es.length*ie.size)++news by
     rw[<-hAll.len];simp only[List.take_left]]
    exact hAll
  ·rw[hb];exact .hd k off (n+xs.length) i (off*ie.size) hi (by omega) (.inl (by rw[hisz]))
 ·obtain⟨olds,hO,hcells⟩ : ∃olds,RepE σ ie.size (es.drop off) olds/\∀(j:Nat)(u:Value),olds[j]?=some u->w.cell? ((⟨i.blk,o,none⟩:Addr).add j)=some u:=by
   refine⟨_,hE.drop off,fun j u hu=>?_⟩;have hu0:=hu;rw[q9f,q9z]at hu;rcases ho with ho|ho
   ·rw[YL,ho,hisz];split at hu
    ·simp only[World.cell?,hh];simpa using hu
    ·cases hu
   ·have hn0:n=0:=by omega
    split at hu
    ·rename_i hlt2;have:es.length=off:=by omega
     rw[this]at hlt2;omega
    ·cases hu
  have hdl:(es.drop off).length=n:=by rw[x0u];omega
  have hr:=run_append_grow (P:=P) w t ty e fi ie.zero ht hfi hfz ⟨i.blk,o,none⟩ n (i.cap-off) olds (by rw[hfs,hO.len,hdl]) hcells ad xs.length c news (by rw[hfs];exact hnl) hcell (by omega) hmax (by rw[hfb];exact growslice_fits (by omega) hbytes);have hge:=grownCap_ge w (n+xs.length) (i.cap-off) e;have hcm:=grownCap_le_maxLen w (n+xs.length) (i.cap-off) e h63;generalize grownCap w (n+xs.length) (i.cap-off) e=cap at hge hcm hr;have hsz:(w.drew.alloc (.cells (olds.toArray++news.toArray++Builtin.zeroCells ie.zero.cells (cap-(n+xs.length))) e)).heap.size=w.heap.size+1:=by
   show(w.heap.push _).size=_;simp
  have hAll:=hO.append hnews;have hnew:(w.drew.alloc (.cells (olds.toArray++news.toArray++Builtin.zeroCells ie.zero.cells (cap-(n+xs.length))) e)).heap[w.heap.size]?=some (.cells (olds.toArray++news.toArray++Builtin.zeroCells ie.zero.cells (cap-(n+xs.length))) e (0,0)):=heap_alloc_new w.drew _;refine⟨_,_,some ⟨w.heap.size,cap,ie.size,[],hcm⟩,hr,⟨rfl,rfl,rfl,Nat.le_succ _,by omega,fun b hb _=>by first|exact heap_alloc_old w.drew _ b hb|exact heap_alloc_old w.drew _ hb⟩,fun i hi b hb=>?_,.inr ⟨WL.2 (.inr ⟨⟨w.heap.size,cap,ie.size,[],hcm⟩,_,hsetk _,rfl,hnew,?_,by rw[q7b,hdl];exact hge,hcm,?_⟩),?_⟩⟩
  ·cases hi;rw[PE]at hb;exact⟨by omega,.inr (by omega)⟩
  ·simp only[Array.size_append,x1z,size_zeroCells,hz,hO.len,hnl,hdl];rw[<-q9o,<-q9o];congr 1;omega
  ·rw[show(olds.toArray++news.toArray++Builtin.zeroCells ie.zero.cells (cap-(n+xs.length))).toList.take ((es.drop off++xs).length*ie.size)=olds++news by
    rw[<-hAll.len];simp only[Array.toList_append];exact List.take_left]
   exact hAll
  ·have:=x4z (σ:=σ) (β:=β.set k (some ⟨w.heap.size,cap,ie.size,[],hcm⟩)) k 0 (n+xs.length) ⟨w.heap.size,cap,ie.size,[],hcm⟩ 0 (hsetk _) (by simpa using hge) (.inl (by simp));simpa using this
theorem Re{T:Tab}(hT:TabOK P T){o:Oper}{x y:Operand}{t:TypeId}(hop:o.op=.call {callee:=.builtin .append,args:=#[x,y],argTypes:=#[t,t]}){off:Nat}(hx:QL s.sl x=.hd k off n)(hoff:0<off){i ie:TyI}(ht:T.get t=some i)(hd:i.desc=.slice e)(hie:T.get e=some ie)(hg:getH s.H k=some (.own e sz es))(hsz:sz=ie.size)(hz:ie.zero.cells.size=ie.size)(hpos:0<ie.size)(hn:off+n=es.length){xs:List AV}(hy:QL s.sl y=.p (.sl xs))(hxl:0<xs.length)(hxs:∀x∈xs,x.cells.length=ie.size/\x.cells.all AV.one=true)(h63:n+xs.length<=maxLen)(hb:(n+xs.length)*ie.bytes<=140737488355328)(h1:q0h k <|Vi s.sl k fun sl=>FU s.H k (.own e sz (es++xs)) fun H=>setD N sl o.dst (.hd k off (n+xs.length)) fun sl=>K ⟨sl,H⟩)(h2:q0h k <|Vi s.sl k fun sl=>FU s.H k (.own e sz (es.drop off++xs)) fun H=>setD N sl o.dst (.hd k 0 (n+xs.length)) fun sl=>K ⟨sl,H⟩):OpK P N s o K:=by
 refine⟨fun σ β a w hr Q=>?_⟩;subst hsz;have hx':=QZ hr.slots x;rw[hx]at hx';have hu:=hT.of ht;rw[hd]at hu;have hlab:=QN hg;obtain⟨xs2,m,⟨rfl,rfl⟩,hsrc⟩:=R6 hr (y:=y) (C:=fun ys m=>ys=xs/\m=xs.length) (sz:=ie.size) (by unfold IW;rw[hy];exact⟨rfl,rfl⟩) hpos;obtain⟨news,hyv,hE⟩:=hsrc rfl fun x hx=>(hxs x hx).1;have hone:=hE.oneAll hpos fun x hx=>(hxs x hx).2;rcases hyv with⟨_,hnn⟩|⟨ad,c,hyv,hcell⟩
 ·have:=hE.len;rw[hnn,x1a]at this;rcases Nat.mul_eq_zero.1 this.symm with h|h<;>omega
 obtain⟨v',w',i',hrun,hfrm,hi',hcases⟩:=Gx (P:=P) t o.type hu (hT _ _ hie) hz (hr.heap.chunks k _ (QF hg)) hoff hn hx' hyv hcell hE hone hxl h63 hb (fun i hi b hb=>(hr.heap.apart k hlab i hi b hb).2);have fin:∀(es':List AV)(off':Nat),(Chunk.own e ie.size es').holds σ (β.set k i') w' k->RepL σ (β.set k i') (.hd k off' (n+xs2.length)) v'->(q0h k <|Vi s.sl k fun sl=>FU s.H k (.own e ie.size es') fun H=>setD N sl o.dst (.hd k off' (n+xs2.length)) fun sl=>K ⟨sl,H⟩)->
   o.wp P a w (fun a' w'=>∃σ' β' s',K s'/\Rel N σ' β' s' a' w'/\Later σ β s.H w σ' β' s'.H w') Q:=fun es' off' hch hv' hK=>by
  obtain⟨hpk,hK⟩:=Bd hK;obtain⟨sl1,hK,hs1⟩:=PG hK;obtain⟨H1,hK,hH1,hH2,hH3⟩:=GJ hK;obtain⟨hh,hl⟩:=B2 hr.heap hpk hlab hfrm hi' hH1 (fun j c hj hne=>by
   obtain⟨c0,h1,rfl⟩:=hH2 j c hj hne;exact⟨Chunk.kill_free k c0,(hr.heap.chunks j c0 h1).kill k⟩) (fun c hc=>by rw[hH3 c hc];exact hch)
  have hrel:Rel N σ (β.set k i') ⟨sl1,H1⟩ a w':=⟨hr.size,hr.defers,fun i=>by
   obtain⟨h1,h2⟩:=hs1 i;have:RepL σ β (getS sl1 i) (a.tmps.getD i undef):=by
    rcases h1 with h1|h1
    ·rw[h1];exact hr.slots i
    ·rw[h1];exact .p (.any _)
   exact this.set i' h2,hh⟩
  obtain⟨sl,hK,hr'⟩:=hrel.setD hv' hK;refine XE (w':=w') ?_ ⟨σ,_,_,hK,hr',hl⟩;simp[execOp,hop,resolve,invoke,builtin,hrun]
 rcases hcases with⟨g1,g2⟩|⟨g1,g2⟩
 ·exact fin _ _ g1 g2 h1
 ·exact fin _ _ g1 g2 h2
section
variable {P:Program}{T:Tab}{N:Nat}{o:Oper}{K:St->Prop}{s:St}
end
section
variable {P:Program}{T:Tab}{N:Nat}{o:Oper}{s:St}{hr:Bool}
def setCell(b:Nat)(c:AV)(l:List (Nat×AV)):List (Nat×AV):=l.map fun x=>if x.1=b then(b,c)else x
end
theorem Jv{k2:Nat}{c c2:Chunk}(h:KZ s k k2 c c2 K):∃s2,K s2/\KZ s k k2 c c2 fun s3=>s3=s2:=by
 unfold KZ at h⊢;obtain⟨sl,h1,_⟩:=WW (by rfl) h;have key:∀{f:LV->LV}{l:List (Nat×LV)}{K:List (Nat×LV)->Prop},Vo f l K↔K (l.map fun x=>(x.1,f x.2)):=fun {f} l=>by
  induction l with
  |nil=>intro K;rfl
  |cons x r ih=>intro K;simp only[Vo,XB,ih,q8f]
 have key2:∀{f:LV->LV}{c:Chunk}{H:Heap},∃H',∀K:Heap->Prop,Qf k k2 f c H K↔K H':=fun {f c} H=>by
  induction H with
  |nil=>exact⟨[],fun K=>Iff.rfl⟩
  | cons x r ih=>
    obtain⟨H',hH'⟩:=ih;obtain⟨j,d⟩:=x;simp only[Qf,MN];cases j==k2 with
    |true=>exact⟨H',fun K=>by simp only[q8g];exact hH' _⟩
    | false=>
      cases j==k with
      |true=>exact⟨(j,c)::H',fun K=>by simp only[q8g,q8b];exact hH' _⟩
      |false=>exact⟨(j,d.mapL f)::H',fun K=>by simp only[q8b];exact hH' _⟩
 rw[key]at h;simp only[key];obtain⟨H',hH'⟩:=key2 (f:=LV.xkill k) (c:=c) (H:=s.H);rw[hH']at h;exact⟨_,h,(hH' _).2 rfl⟩
theorem OpK.focus{T:Tab}(hT:TabOK P T){o:Oper}(t k a k2:Nat){e e2:Nat}{rows:List (List AV)}{hole:List Nat}{row:List AV}(hu:WX k2 s=true)(hg:getH s.H k=some (.ext (.mat e e2 sz rows hole)))(hrow:rows[a]?=some row)(hnh:a∉hole)(hpin:ZJ k=false)(ht:getS s.sl t=.ext k (.row a row.length))(h:KZ s k k2 (.ext (.mat e e2 sz rows (a::hole))) (.own e2 sz row) fun s2=>opW P T N ⟨(t,.hd k2 0 row.length)::s2.sl,s2.H⟩ o K):OpK P N s o K:=by
 obtain⟨s2,h,he⟩:=Jv h;refine⟨fun σ β ac w hr Q=>?_⟩;obtain⟨β',hr',hl,hrep,hrow'⟩:=Mm hr hu hg hrow hnh hpin he;have hr2:Rel N σ β' ⟨(t,.hd k2 0 row.length)::s2.sl,s2.H⟩ ac w:=⟨hr'.size,hr'.defers,fun i=>by
  show RepL σ β' (getS ((t,.hd k2 0 row.length)::s2.sl) i) _;simp only[getS];cases hi:t==i with
  | true=>
    have:t=i:=by simpa using hi
    subst this;have h1:=hr.slots t;rw[ht]at h1;exact hrow' _ h1
  |false=>exact hr'.slots i,hr'.heap⟩
 exact Oper.wp_mono (fun a' w' ⟨σ',β'',s3,hK,hr3,hl3⟩=>⟨σ',β'',s3,hK,hr3,hl.trans hl3⟩) (Uz hT h hr2 Q)
theorem Rel.layI{β:Lab}{s':St}{a:Act}{w:World}(hr:Rel N σ β s a w){i:BInfo}(hi:β k=some i)(hk:k∈s.H.map (·.1))(hcell:∀b,i.has b->∃c e fr,w.heap[b]?=some (.cells c e fr))(hsl:∀τ:Mem,σ.le τ->(∀b c e fr,i.has b->w.heap[b]?=some (.cells c e fr)->τ b=some c)->∀j v,RepL σ β (getS s.sl j) v->RepL τ β (getS s'.sl j) v)(hch:∀τ:Mem,σ.le τ->∀j c',(j,c')∈s'.H->j≠k/\∃c,(j,c)∈s.H/\(c.holds σ β w j->c'.holds τ β w j))(hnd:(s'.H.map (·.1)).Nodup):
  ∃σ' β',Rel N σ' β' s' a w/\Later σ β s.H w σ' β' s'.H w:=by
 let τ:Mem:=fun b=>@ite _ (i.has b) (Classical.propDecidable _) (match w.heap[b]?with
  |some (.cells c _ _)=>some c
  |_=>none) (σ b)
 have hpos:∀b c e fr,i.has b->w.heap[b]?=some (.cells c e fr)->τ b=some c:=fun b c e fr hb hh=>by
  show @ite _ (i.has b) (Classical.propDecidable _) _ _=_;rw[if_pos hb,hh]
 have hneg:∀b,¬i.has b->τ b=σ b:=fun b hb=>by
  show @ite _ (i.has b) (Classical.propDecidable _) _ _=_;rw[if_neg hb]
 have hle:σ.le τ:=fun b c hb=>by
  rw[hneg b]
  ·exact hb
  ·intro hib;rw[(hr.heap.apart k hk i hi b hib).1]at hb;cases hb
 have hlab:∀j∈s'.H.map (·.1),j≠k/\j∈s.H.map (·.1):=fun j hj=>by
  obtain⟨⟨j',c'⟩,hm,rfl⟩:=q7s.1 hj;obtain⟨h1,c,h2,_⟩:=hch τ hle j' c' hm;exact⟨h1,q7s.2 ⟨_,h2,rfl⟩⟩
 refine⟨τ,β,⟨hr.size,hr.defers,fun j=>hsl τ hle hpos j _ (hr.slots j),⟨fun b c hb=>?_,fun j c' hj=>?_,hnd,fun j hj ij hij b hb=>?_,fun j hj j' hj'=>hr.heap.inj j (hlab j hj).2 j' (hlab j' hj').2⟩⟩,hle,Frm.refl _ _,fun b hb hb'=>.inl ?_,fun b ⟨j,hj,hjb⟩=>.inl ⟨j,(hlab j hj).2,hjb⟩,fun _ _ _=>rfl⟩
 ·by_cases ho:i.has b
  ·obtain⟨c0,e,fr,hh⟩:=hcell b ho;rw[hpos b c0 e fr ho hh]at hb;cases hb;exact⟨_,_,hh⟩
  ·rw[hneg b ho]at hb;exact hr.heap.mem b c hb
 ·obtain⟨_,c,h2,h3⟩:=hch τ hle j c' hj;exact h3 (hr.heap.chunks j c h2)
 ·have h1:=hlab j hj;have h2:=hr.heap.apart j h1.2 ij hij b hb;refine⟨?_,h2.2⟩;rw[hneg b fun he=>h1.1 (hr.heap.inj j h1.2 k hk ij i hij hi b hb he)];exact h2.1
 ·by_cases ho:i.has b
  ·exact⟨k,hk,i,hi,ho⟩
  ·rw[hneg b ho]at hb';exact absurd hb hb'
theorem Ay{sl sl':List (Nat×LV)}{H H':Heap}{e2:TypeId}{rows:List (List AV)}(hg:getH H k=some (.ext (.mat e e2 sz rows [])))(hsl:∀i,getS sl' i=(getS sl i).kill k\/(getS sl i=.hd k 0 rows.length/\getS sl' i=.p (.sl (rows.map .sl))))(hsub:(H'.map (·.1)).Sublist (H.map (·.1)))(hH:∀j c',(j,c')∈H'->j≠k/\(j,c')∈H/\c'.kill k=c'):Le N ⟨sl,H⟩ ⟨sl',H'⟩:=fun σ β a w hr=>by
 have hk:=QN hg;rcases hr.heap.chunks k _ (QF hg)with⟨hb0,hr0⟩|⟨i,vs,hi,h1,h2,h3,h4,h5,h6,h7,h8⟩
 ·refine⟨σ,β,⟨hr.size,hr.defers,fun j=>?_,⟨hr.heap.mem,fun j c' hj=>?_,hsub.nodup hr.heap.nodup,fun j hj=>hr.heap.apart j (hsub.subset hj),fun j hj j' hj'=>hr.heap.inj j (hsub.subset hj) j' (hsub.subset hj')⟩⟩,Mem.le_refl σ,Frm.refl _ _,fun _ h0 h1=>absurd h0 h1,fun b ⟨j,hj,r⟩=>.inl ⟨j,hsub.subset hj,r⟩,fun _ _ _=>rfl⟩
  ·show RepL σ β (getS sl' j) _;have hv:=hr.slots j;rcases hsl j with he|⟨g1,g2⟩
   ·rw[he];exact hv.kill k
   ·rw[g2];have hv:RepL σ β (getS sl j) _:=hv;rw[g1]at hv;rcases hv.hdI with⟨_,_,_,he⟩|⟨i,_,hk,_⟩
    ·rw[he,hr0];exact .p .nilsl
    ·rw[hb0]at hk;cases hk
  ·exact hr.heap.chunks j c' (hH j c' hj).2.1
 ·have hrow:∀(b c a':Nat),i.subs[a']?=some (some (b,c))->∃ws,w.heap[b]?=some (.cells ws e2 (0,0)):=fun b c a' hs=>by
   have ha:a'<rows.length:=by rw[<-h6];exact(q7t.1 hs).1
   rcases(h8 a' _ (q7g ha)).2 (by simp)with⟨q1,_⟩|⟨b',c',ws,q1,_,q3,_⟩
   ·rw[hs]at q1;cases q1
   ·rw[hs]at q1;cases q1;exact⟨ws,q3⟩
  refine hr.layI hi hk (fun b hb=>?_) (fun τ hle hτ j v hv=>?_) (fun τ hle j c' hj=>?_) (hsub.nodup hr.heap.nodup)
  ·rcases hb with rfl|⟨c,hb⟩
   ·exact⟨_,_,_,h2⟩
   ·obtain⟨a',ha',hs⟩:=x0w.1 hb;obtain⟨ws,hw⟩:=hrow b c a' (by rw[q7g ha',hs]);exact⟨_,_,_,hw⟩
  ·show RepL τ β (getS sl' j) v;have hv:RepL σ β (getS sl j) v:=hv;rcases hsl j with he|⟨g1,g2⟩
   ·rw[he];exact(hv.kill k).mono hle
   ·rw [g2];rw[g1]at hv;rcases hv.hdI with⟨hk',_⟩|⟨i',oo,hk',hl,ho,rfl⟩
    ·rw[hi]at hk';cases hk'
    ·rw [hi]at hk';cases hk';have hoo:oo=0:=by
      rcases ho with ho|ho
      ·simpa using ho
      ·omega
     subst hoo;have hrl:∀(m:Nat)(x:AV),(rows.map AV.sl)[m]?=some x->∃row,rows[m]?=some row/\x=.sl row:=fun m x hx=>by
      rw[q7l]at hx;cases hq:rows[m]?with
      |none=>rw[hq]at hx;cases hx
      |some row=>rw[hq]at hx;cases hx;exact⟨row,rfl,rfl⟩
     have hcellv:∀(m:Nat)(row:List AV),rows[m]?=some row->∃u,vs[m]?=some u/\Rep τ (.sl row) u:=fun m row hm=>by
      rcases(h8 m row hm).2 (by simp)with⟨q1,rfl,q3⟩|⟨b,c,ws,q1,q2,q3,q4,q5,q6,q7⟩
      ·exact⟨_,q3,.nilsl⟩
      ·refine⟨_,q2,.sl row b 0 c sz ws (fun m j=>(ws[m*sz+j]?).getD undef) (hτ b ws _ _ (.inr ⟨c,q8u q1⟩) q3) q5 q6 (fun m x hx=>(q7 m x hx).1) (fun m x j c' hx hj=>?_) fun m x j c' hx hj=>?_⟩
       ·obtain⟨u,r4,_⟩:=(q7 m x hx).2 j c' hj;simp[r4]
       ·obtain⟨u,r4,r5⟩:=(q7 m x hx).2 j c' hj;simpa[r4]using r5.mono hle
     have hfin:Rep τ (.sl (rows.map .sl)) (.slice (some ⟨i.blk,0,none⟩) (rows.map AV.sl).length i.cap):=by
      refine .sl (rows.map .sl) i.blk 0 i.cap 1 vs (fun m j=>(vs[m*1+j]?).getD undef) (hτ _ _ _ _ i.has_blk h2) (by simpa using h4) h5 (fun m x hx=>?_) (fun m x j c' hx hj=>?_) fun m x j c' hx hj=>?_
      ·obtain⟨row,_,rfl⟩:=hrl m x hx;rfl
      ·obtain⟨row,g3,rfl⟩:=hrl m x hx;obtain⟨u,g4,g5⟩:=hcellv m row g3;have hj0:j=0:=by
        have:=(q7t.1 hj).1;simpa[AV.cells]using this
       subst hj0;simp[g4]
      ·obtain⟨row,g3,rfl⟩:=hrl m x hx;obtain⟨u,g4,g5⟩:=hcellv m row g3;have hj0:j=0:=by
        have:=(q7t.1 hj).1;simpa[AV.cells]using this
       subst hj0;cases hj;simpa[g4]using g5
     have:RepL τ β (.p (.sl (rows.map .sl))) (.slice (some ⟨i.blk,0,none⟩) (rows.map AV.sl).length i.cap):=.p hfin;simpa using this
  ·obtain⟨g1,g2,g3⟩:=hH j c' hj;refine⟨g1,c',g2,fun hold=>?_⟩;have:=(hold.kill k).mono hle fun _ _ _ _=>rfl
   rwa[g3]at this
theorem CG{α:Type}{l m:List α}(h:l.take j=m.take j)(hl:j<l.length)(hm:j<m.length)(he:l[j]=m[j]):l.take (j+1)=m.take (j+1):=by
 rw[q8q hl,q8q hm,h,he]
theorem As{α:Type}{l m:List α}(h:l.take j=m.take j)(hl:l.length<=j)(hm:m.length<=j):l=m:=by
 rwa[q8y hl,q8y hm]at h
theorem YK(l m:List Int):SpecP prog 16 [QA l,QA m] (fun r=>r=.bool (decide (l=m))):=by
 refine sB HZ func16 rfl call16 ?_;conv=>whnf
 have h1:(l.map (AV.int .i64)).length=l.length:=q7f _;have h2:(m.map (AV.int .i64)).length=m.length:=q7f _;repeat' (first|(refine iM fun _=>?_;conv=>whnf)|(apply bE<;>intro _<;>first|omega|conv=>whnf))
 all_goals first
  |exact RetK.ff (x0y fun h=>by subst h;omega)
  |skip
 have hlen:l.length=m.length:=by omega
 refine LoopK.inv QK (fun j:Nat=>⟨[(0,.p (QA l)),(1,.p (QA m)),(12,.p (.int .i64 (l.map (AV.int .i64)).length)),(13,.p (.int .i64 j))],[]⟩) (fun j=>j<=l.length/\l.take j=m.take j) (fun j=>l.length-j) 0 (Le.of_eq rfl) ⟨q7c _,rfl⟩ ?_;rintro j ⟨h3,h4⟩;rcases q7e j l.length with hj|hj
 ·conv=>whnf
  repeat' (first|((first|refine dA ?_|(refine iA fun _=>?_)|refine wI ?_);conv=>whnf)|(apply bD<;>intro _<;>first|omega|conv=>whnf)|(apply bE<;>intro _<;>first|omega|conv=>whnf))
  all_goals first
   |exact RetK.ff (x0y fun h=>by subst h;simp_all)
   |exact⟨j+1,⟨by omega,CG h4 hj (by omega) (by simp_all)⟩,by omega,Le.of_eq rfl⟩
 ·conv=>whnf
  repeat' (apply bD<;>intro _<;>first|omega|conv=>whnf)
  exact RetK.tt (x0b (As h4 hj (by omega)))
theorem F0(w:Way)(f:Pr)(n:Nat)(hw:w.n=n)(hj:w.p.procs[w.j]?=some f)(hc:cntP w.p.procs<=1000)(hn:n<=5000)(l:List Step)(hlen:l.length<=1000000):SpecP prog 140 [.ip w.cells,eSteps l] (fun r=>r=VQ (QC n (l.map (ixP w.p w.j f w.n)))):=by
 refine sB HB func140 rfl call140 ?_;conv=>whnf
 repeat' ((first|refine dA ?_|(refine CallK.pure (YG w f hj hc (by omega) l hlen) (.cons (Sub.refl _) (.cons (Sub.refl _) .nil)) ?_;rintro _ rfl)|(refine CallK.pure (Vd n hn (l.map (ixP w.p w.j f w.n)) (by rw[q7f];exact hlen)) (.cons (Sub.int hw) (.cons (Sub.refl _) .nil)) ?_;rintro _ rfl));conv=>whnf)
 exact RetK.p rfl
theorem F1(p:Pg)(j:Nat)(f:Pr)(n:Nat)(real:AV)(lv:List AV)(hj:p.procs[j]?=some f)(hc:cntP p.procs<=1000)(hn:n<=5000)(l:List Step)(hlen:l.length<=1000000):
  SpecH prog 140 [.ptr 1000 0,.p (eSteps l)] (I6 p j n real lv) (fun r H=>r=.p (VQ (QC n (l.map (ixP p j f n))))/\H=I6 p j n real lv):=by
 refine sH HB func140 rfl call140 ?_;conv=>whnf
 refine DrawK.of QK mixed (.cons 0 false (.cons 1 false (.cons 2 false (.cons 4 false (.cons 5 false (.fork 3 (.cons 6 true (.cons 7 true (.cons 8 true .nil))) 6 (.cons 3 true (.cons 7 true (.cons 8 true .nil))))))))) (by kernel_rfl) ?_;conv=>whnf
 repeat' (first|(refine CallK.pure (Vd n hn (l.map (ixP p j f n)) (by rw[q7f];exact hlen)) (.cons (Sub.refl _) (.cons (Sub.refl _) .nil)) ?_;rintro _ rfl;conv=>whnf)|(refine q7p ?_ ?_<;>conv=>whnf)|(refine CallK.heap [(1000,1000),(2000,2000)] 0 (by repeat' (first|exact q8c|refine q8w ?_ ?_|exact q8k _|exact q8m Sub.nils|exact q8m (Sub.tt rfl)|exact q8m (Sub.ff rfl)|exact q8m (Sub.int (by omega)))) (by refine q8x (j:=1000) rfl rfl ?_ ?_;exact CSub.refl _;refine q8x (j:=2000) rfl rfl ?_ ?_;exact CSub.refl _;exact q8a) (Ha p j f n real lv hj hc (by omega) l hlen) rfl rfl ?_;rintro l' H' ⟨es,rfl,rfl,rfl⟩;conv=>whnf))
 all_goals exact⟨_,q8k _,rfl,rfl⟩
theorem K3{N:List (List Int)}(h:XG n N){a:Nat}{b:Int}(hb:0<=b/\b<n):XG n (Ji N a b):=by
 unfold Ji;refine⟨by rw[x0d];exact h.1,fun r hr x hx=>?_⟩;rcases x1j hr with hr|rfl
 ·exact h.2 r hr x hx
 ·unfold Xc at hx;have hg:∀y∈N.getD a [],0<=y/\y<n:=fun y hy=>by
   rcases q7e a N.length with ha|ha
   ·rw[q7h,q7g ha]at hy;exact h.2 _ (q7i ha) y hy
   ·rw[q7h,q9i ha]at hy;cases hy
  rcases q7a.1 hx with hx|hx
  ·exact hg x (x3c hx)
  ·rcases q7r.1 hx with rfl|hx
   ·exact hb
   ·exact hg x (List.mem_of_mem_drop hx)
theorem IP{g:List (List Int)×List (List Int)}(h:XG n g.1/\XG n g.2)(e:Int×Int):XG n (F4 n g e).1/\XG n (F4 n g e).2:=by
 rw[Wf,Ys];cases hc:ZG n e.1&&ZG n e.2 && !(g.1.getD e.1.toNat []).contains e.2
 ·exact h
 ·simp only[q8j]at hc;exact⟨K3 h.1 (XI hc.1.2),K3 h.2 (XI hc.1.1)⟩
theorem AN(l:List (Int×Int)):∀{g:List (List Int)×List (List Int)},XG n g.1/\XG n g.2->XG n (l.foldl (F4 n) g).1/\XG n (l.foldl (F4 n) g).2:=by
 induction l with
 |nil=>intro g h;exact h
 |cons e r ih=>intro g h;exact ih (IP h e)
theorem YS(n:Nat)(l:List (Int×Int)):XG n (QC n l).1/\XG n (QC n l).2:=by
 have h0:XG n (List.replicate n []):=⟨by simp,fun r hr=>by rw[x0a hr];simp⟩;exact AN l ⟨h0,h0⟩
theorem Wr.eq{n m:Int}{K:Int->Prop}(h:n=m)(h1 : -9223372036854775808<=m)(h2:m<=9223372036854775807)(hK:K m):Wr .i64 n K:=by
 subst h;exact Wr.i64 h1 h2 hK
theorem Xp:∀(a:Step)(l:List Step),(XY a l).length<=l.length
 |_,[]=>q8z _
 | a,b::r=>by
   have:=Xp b r;rw[XY];cases ZY b a<;>simp<;>omega
theorem Bu(l:List Step):(WM l).length<=l.length:=by
 unfold WM;rw[<-Qo (l:=l)];cases YJ l with
 |nil=>exact q8z _
 | cons a r=>
   have:=Xp a r;simp[PX];omega
theorem Sl(sh:Sheet)(f:Pr)(it:Item):(goesI sh f it).length<=2:=by
 unfold goesI;split<;>(try split)<;>(try split)<;>(try split)<;>(try split)<;>(try split)<;>simp
theorem Xr{α β:Type}{g:α->List β}(h:∀x,(g x).length<=2):∀l:List α,(l.flatMap g).length<=2*l.length
 |[]=>by simp
 | a::r=>by
   have:=Xr h r;have:=h a;rw[q9m,q7b,q8s];omega
theorem Xo(p:Pg)(j:Nat)(f:Pr):(QP p j f).length<=1+2*QU f.body:=by
 unfold QP;have:=Xr (g:=fun it=>(goesI (sheetOf p) f it).map (Step.mk it.s.id · 1)) (fun it=>by rw[q7f];exact Sl _ _ _) (itL j 0 (-1) 0 (QM p.procs j) f.body);rw[ZF]at this;rw[q8s];omega
theorem H5:∀(i:Nat)(l:List Bool)(a:Int),a∈HU i l->(i:Int)<=a/\a<i+l.length
 |_,[],_,h=>by rw[HU]at h;cases h
 | i,b::r,a,h=>by
   rw[HU]at h;have key:a∈HU (i+1) r->(i:Int)<=a/\a<i+(b::r).length:=fun h=>by
    have:=H5 (i+1) r a h;simp only[q8s];omega
   cases b with
   |false=>exact key h
   | true=>
     rcases q7r.1 h with rfl|h
     ·simp only[q8s];omega
     ·exact key h
theorem Td(n:Nat)(l:List Int):wkInv n (FM n l):=by
 unfold FM;have:∀(l:List Int)(st:List Bool×List Int),wkInv n st->wkInv n (l.foldl (fun st a=>bif ZG n a then JS st a else st) st):=fun l=>by
  induction l with
  |nil=>intro st h;exact h
  | cons a r ih=>
    intro st h;refine ih _ ?_;show wkInv n (bif ZG n a then JS st a else st);cases hb:ZG n a with
    |true=>exact LX h (XI hb)
    |false=>exact h
 exact this l _ (PC n)
theorem Tq{rows:List (List Int)}(h:XG n rows)(l:List Int):(ZN rows l).length=n:=by
 unfold ZN;rw[h.1];exact(FC h _ _ (Td n l)).1
def JX(l:List Int)(b:List Bool):List Bool:=l.foldl (fun b a=>b.set a.toNat true) b
def QQ(p:Pg)(j:Nat)(f:Pr):Way:=
 let real:=WM (QP p j f);let n:=QU f.body+2
 ⟨p,j,n,real,JX (HU 0 (ZN (QC n (real.map (ixP p j f n))).1 [0])) (List.replicate n false)⟩
theorem A5(p:Pg)(j:Nat)(f:Pr)(hj:p.procs[j]?=some f)(hc:cntP p.procs<=1000)(hl:∀it∈itsOf p j f,it.s.kind=7->1<=it.loop/\it.loop<=(sheetOf p).l.length)(hok:∀s∈QP p j f,okSt s):SpecP prog 85 [.ip (sheetOf p).cells,.int .i64 j] (fun r=>r=.ip (QQ p j f).cells):=by
 refine sB Ti func85 rfl call85 ?_;conv=>whnf
 obtain⟨_,_,_,hlen,hsp⟩:=QV p;obtain⟨hlo,hhi,hle,_⟩:=hsp j f hj;repeat' ((first|refine dA ?_|refine q7p rfl ?_|refine aR ?_|(refine IdxK.at rfl (VM hlo) rfl ?_)|(refine IdxK.at rfl (VM hhi) rfl ?_)|refine cP (Zw p j f hj hc hl hok) ?_|refine Wr.eq (m:=QU f.body) (by omega) (by omega) (by omega) ?_|refine Wr.eq (m:=(QU f.body+2:Nat)) (by omega) (by omega) (by omega) ?_|refine x2m (QU f.body+2) rfl (by show 1*_<=140737488355328;omega) (by unfold maxLen;omega) ?_);conv=>whnf)
 have hrl:(WM (QP p j f)).length<=1000000:=by have:=Bu (QP p j f);have:=Xo p j f;omega
 refine CallK.heap [(1000,0),(2000,1)] 0 (by repeat' (first|exact q8c|refine q8w ?_ ?_|exact q8k _|exact q8m Sub.nils|exact q8m (Sub.tt rfl)|exact q8m (Sub.ff rfl)|exact q8m (Sub.int (by omega)))) (q8x (j:=0) rfl rfl (CSub.of_eq (by rw[q9d];rfl)) (q8x (j:=1) rfl rfl (CSub.refl _) q8a)) (F1 p j f (QU f.body+2) (eSteps (WM (QP p j f))) (List.replicate (QU f.body+2) .ff) hj hc (by omega) (WM (QP p j f)) hrl) rfl rfl ?_;rintro l' H' ⟨rfl,rfl⟩;conv=>whnf
 obtain⟨hgi,_⟩:=YS (QU f.body+2) ((WM (QP p j f)).map (ixP p j f (QU f.body+2:Nat)));repeat' ((first|(refine iM fun _=>?_)|refine q7p rfl ?_|refine aD ?_|refine bP ?_|(refine CallK.pure (Qu (QU f.body+2) (by omega) _ hgi [0] (by simp)) (.cons (Sub.refl _) (.cons (Sub.refl _) .nil)) ?_;rintro _ rfl));conv=>whnf)
 have hlm:∀a∈HU 0 (ZN (QC (QU f.body+2) ((WM (QP p j f)).map (ixP p j f (QU f.body+2:Nat)))).1 [0]),0<=a/\a<(QU f.body+2:Nat):=fun a ha=>by
  have:=H5 _ _ _ ha;rw[Tq hgi]at this;omega
 have hnw:QQ p j f=⟨p,j,(QU f.body+2:Nat),WM (QP p j f),JX (HU 0 (ZN (QC (QU f.body+2) ((WM (QP p j f)).map (ixP p j f (QU f.body+2:Nat)))).1 [0])) (List.replicate (QU f.body+2) false)⟩:=rfl;rw[hnw];have hlb:((HU 0 (ZN (QC (QU f.body+2) ((WM (QP p j f)).map (ixP p j f (QU f.body+2:Nat)))).1 [0])).map (AV.int .i64)).length<=9223372036854775807:=by assumption
 generalize HU 0 (ZN (QC (QU f.body+2) ((WM (QP p j f)).map (ixP p j f (QU f.body+2:Nat)))).1 [0])=lst at hlm hlb⊢;have hll:(lst.map (AV.int .i64)).length=lst.length:=q7f _;refine LoopK.inv QK (fun x:Nat×List Bool=>⟨[(5,.ptr 0 0),(46,.p (QA lst)),(47,.p (.int .i64 (lst.map (AV.int .i64)).length)),(48,.p (.int .i64 x.1))],[(0,.obj 120 [.p (.ip (sheetOf p).cells),.p (.int .i64 j),.p (.int .i64 (QU f.body+2:Nat)),.p (eSteps (WM (QP p j f))),.hd 1 0 (QU f.body+2)]),(1,.own 4 1 (x.2.map bv))]⟩)
  (fun x=>x.1<=lst.length/\x.2.length=QU f.body+2/\JX (lst.drop x.1) x.2=JX lst (List.replicate (QU f.body+2) false)) (fun x=>lst.length-x.1) (0,List.replicate (QU f.body+2) false)
  (Le.of_eq (by simp only[x0l,q9d];rfl)) ⟨q7c _,by simp,rfl⟩ ?_
 rintro⟨m,b⟩ ⟨h2,h3,h4⟩;simp only at h2 h3 h4⊢;rcases q7e m lst.length with hm|hm;rotate_left 1
 ·rw[q8v hm]at h4;rw[<-h4];conv=>whnf
  repeat' (apply bD<;>intro _<;>first|omega|conv=>whnf)
  exact⟨_,.ptr (cs:=[.ip (sheetOf p).cells,.int .i64 j,.int .i64 (QU f.body+2:Nat),eSteps (WM (QP p j f)),.sl (b.map bv)]) rfl rfl (fun i x c h5 h6=>by
   match i,h5,h6 with
   |0,h5,h6=>cases h5;cases h6;exact .p (Sub.refl _)
   |1,h5,h6=>cases h5;cases h6;exact .p (Sub.refl _)
   |2,h5,h6=>cases h5;cases h6;exact .p (Sub.refl _)
   |3,h5,h6=>cases h5;cases h6;exact .p (Sub.refl _)
   |4,h5,h6=>cases h5;cases h6;exact .hd rfl (by rw[q7f,h3])),rfl⟩
 rw[q8o hm]at h4;have ha:=hlm _ (q7i hm);have hal:lst[m].toNat<b.length:=by omega
 have hbe:(b.map bv)[lst[m].toNat]?=some (bv b[lst[m].toNat]):=by simp[hal]
 conv=>whnf
 repeat' (first|((first|refine q7p rfl ?_|(refine iA fun _=>?_)|refine wI ?_|refine q9x lst[m].toNat (by omega) (by omega) ?_|refine x0r lst[m].toNat 0 (bv b[lst[m].toNat]) .tt (by omega) hbe (q8z 1) (by cases b[lst[m].toNat]<;>rfl) ?_);conv=>whnf)|(apply bD<;>intro _<;>first|omega|conv=>whnf))
 exact⟨(m+1,b.set lst[m].toNat true),⟨by simp only;omega,by simp only[x0d];exact h3,h4⟩,by simp only;omega,Le.of_eq (by simp only[q9k];rfl)⟩
def Zj(n c:Nat):List Int:=(List.range' (n+1) c).map fun(k:Nat)=>(k:Int)
theorem Zs(n a b:Nat):Zj n (a+b)=Zj n a++Zj (n+a) b:=by
 unfold Zj;rw[<-q7o,show n+a+1=n+1+1*a by omega,List.range'_append]
theorem AE(n:Nat):Zj n 1=[((n+1:Nat):Int)]:=by simp[Zj]
mutual
theorem EY(nest:Int):∀(t:S){n:Nat}{m:Int},Bs nest n t=some m->(flS t).map S.id=Zj n (ZC t)
 | .mk id kind labels name proc x has args thn els,n,m,h=>by
   simp only[Bs]at h;split at h
   ·cases h
   split at h
   ·cases h
   rename_i hid;cases hn:namesB labels<;>rw[hn]at h
   ·cases h
   cases hf:VR (.mk id kind labels name proc x has args thn els)<;>rw[hf]at h
   ·cases h
   simp only[q8g]at h;split at h
   ·rename_i m1 h1;have h1':JY (nest+1) ((n+1:Nat):Int) thn=some m1:=by rw[<-h1];rfl
    have h2:=JR _ _ thn h1';have h3:=MI (nest+1) thn h1';have h':JY (nest+1) ((n+1+QU thn:Nat):Int) els=some m:=by rw[<-h,h2];rfl
    have h4:=MI (nest+1) els h';rw[flS,ZC,q8f,q7o,h3,h4,show 1+QU thn+QU els=1+(QU thn+QU els) by omega,Zs,AE,Zs];have:id=((n+1:Nat):Int):=by omega
    rw[show(S.mk id kind labels name proc x has args thn els).id=id from rfl,this];rfl
   ·cases h
theorem MI(nest:Int):∀(l:List S){n:Nat}{m:Int},JY nest n l=some m->(flL l).map S.id=Zj n (QU l)
 |[],n,m,h=>by rw[flL,QU];rfl
 | t::r,n,m,h=>by
   simp only[JY]at h;split at h
   ·cases h
   split at h
   ·rename_i m1 h1;have h2:=R0 _ _ t h1;have h3:=EY nest t h1;have h':JY nest ((n+ZC t:Nat):Int) r=some m:=by rw[<-h,h2];rfl
    have h4:=MI nest r h';rw[flL,QU,q7o,h3,h4,Zs]
   ·cases h
end
theorem Jr:∀(l:List Pr){n:Nat}{m:Int},XO n l=some m->∀(j:Nat)(f:Pr),l[j]?=some f->(flL f.body).map S.id=Zj (n+QM l j) (QU f.body)
 |[],_,_,_,j,f,hj=>by simp at hj
 | g::r,n,m,h,j,f,hj=>by
   rw[XO]at h;cases hm:DI g<;>rw[hm]at h
   ·cases h
   simp only[q8g]at h;split at h
   ·rename_i m1 h1;cases j with
    | zero=>
      simp at hj;subst hj;exact MI 1 g.body h1
    | succ j=>
      have h2:=JR _ _ g.body h1;have h':XO ((n+QU g.body:Nat):Int) r=some m:=by rw[<-h,h2];rfl
      have:=Jr r h' j f (by simpa using hj);rw[QM,this,x1x]
   ·cases h
theorem SP(h:HY p=true)(hj:p.procs[j]?=some f):(flL f.body).map S.id=Zj (QM p.procs j) (QU f.body):=by
 unfold HY at h;simp only[q8j]at h;cases hm:XO 0 p.procs with
 |none=>rw[hm]at h;cases h.2
 | some m=>
   have:=Jr p.procs (n:=0) hm j f hj;simpa using this
theorem Me{c:Nat}{a:Int}(h:a∈Zj n c):(n:Int)+1<=a/\a<=n+c:=by
 unfold Zj at h;obtain⟨k,hk,rfl⟩:=q7s.1 h;rw[List.mem_range']at hk;obtain⟨i,hi,rfl⟩:=hk;omega
def okI(lo hi:Nat)(x:Int):Prop:=x = -1\/((lo:Int)+1<=x/\x<=hi)
mutual
theorem Og(proc:Int)(lo hi:Nat):∀(t:S)(up nx loop:Int)(n:Nat)(it:Item),it∈itS proc up nx loop n t->okI lo hi nx->(loop=0\/((lo:Int)+1<=loop/\loop<=hi))->lo<=n->n+ZC t<=hi->
  okI lo hi it.next/\(it.loop=0\/((lo:Int)+1<=it.loop/\it.loop<=hi))
 | .mk id kind labels name pr x has args thn els,up,nx,loop,n,it,h,h1,h2,h3,h4=>by
   rw[itS]at h;rw[ZC]at h4;rcases q7r.1 h with rfl|h
   ·exact⟨h1,h2⟩
   ·have h5:okI lo hi (if kind=6 then((n:Int)+1)else nx):=by
     split
     ·exact .inr ⟨by omega,by omega⟩
     ·exact h1
    have h6:(if kind=6 then((n:Int)+1)else loop)=0\/((lo:Int)+1<=(if kind=6 then((n:Int)+1)else loop)/\(if kind=6 then((n:Int)+1)else loop)<=hi):=by
     split
     ·exact .inr ⟨by omega,by omega⟩
     ·exact h2
    rcases q7a.1 h with h|h
    ·exact Ge proc lo hi thn _ _ _ _ it h h5 h6 (by omega) (by omega)
    ·exact Ge proc lo hi els _ _ _ _ it h h5 h6 (by omega) (by omega)
theorem Ge(proc:Int)(lo hi:Nat):∀(l:List S)(up nx loop:Int)(n:Nat)(it:Item),it∈itL proc up nx loop n l->okI lo hi nx->(loop=0\/((lo:Int)+1<=loop/\loop<=hi))->lo<=n->n+QU l<=hi->
  okI lo hi it.next/\(it.loop=0\/((lo:Int)+1<=it.loop/\it.loop<=hi))
 |[],up,nx,loop,n,it,h,h1,h2,h3,h4=>by rw[itL]at h;cases h
 | t::r,up,nx,loop,n,it,h,h1,h2,h3,h4=>by
   rw[itL]at h;rw[QU]at h4;rcases q7a.1 h with h|h
   ·refine Og proc lo hi t _ _ _ _ it h ?_ h2 h3 (by omega);cases r with
    |nil=>exact h1
    | cons u r=>
      have:1<=QU (u::r):=by rw[QU,VN];omega
      exact .inr ⟨by simp;omega,by simp;omega⟩
   ·exact Ge proc lo hi r _ _ _ _ it h h1 h2 (by omega) (by omega)
end
theorem Gf:∀(l:List S)(v:S),v∈l->v∈flL l
 |[],v,h=>by cases h
 | t::r,v,h=>by
   rw[flL];rcases q7r.1 h with rfl|h
   ·refine q7a.2 (.inl ?_);rw[q1y];exact q7d
   ·exact q7a.2 (.inr (Gf r v h))
theorem QD(h:QO p=true):HY p=true/\(XZ p).1=0/\(UM p).1=0/\(Zg p).1=0/\(NB p).1=0:=by
 unfold QO I7 at h;simp only[q8e]at h;by_cases h1:HY p=false
 ·rw[if_pos h1]at h;cases h
 rw[if_neg h1]at h;by_cases h2:(XZ p).1=0
 ·rw[if_neg (by omega)]at h;by_cases h3:(UM p).1=0
  ·rw[if_neg (by omega)]at h;by_cases h4:(Zg p).1=0
   ·rw[if_neg (by omega)]at h;exact⟨by simpa using h1,h2,h3,h4,h⟩
   ·rw[if_pos h4]at h;exact absurd h h4
  ·rw[if_pos h3]at h;exact absurd h h3
 ·rw[if_pos h2]at h;exact absurd h h2
theorem Va{f:Pr}:∀(l:List Item)(seen:List Str){s:List Str},DE f l seen=.ok s->∀it∈l,YA f it=true
 |[],_,_,_,it,h=>by cases h
 | a::r,seen,s,h,it,hi=>by
   rw[DE]at h;cases hj:YC seen a.s.labels with
   |none=>rw[hj]at h;cases h
   | some s1=>
     rw[hj]at h;simp only at h;cases hl:YA f a with
     |false=>rw[hl]at h;cases h
     | true=>
       rw[hl,q8g]at h;rcases q7r.1 hi with rfl|hi
       ·exact hl
       ·exact Va r s1 h it hi
theorem BK(hs:(XZ p).1=0)(h:(Zg p).1=0)(hj:p.procs[j]?=some f):∀it∈itsOf p j f,YA f it=true:=by
 unfold Zg at h;rw[if_neg (by omega)]at h;have hn:(List.range p.procs.length).findSome? (JP p)=none:=by
  cases hq:(List.range p.procs.length).findSome? (JP p)with
  |none=>rfl
  |some a=>rw[hq]at h;cases h
 rw[x2z]at hn;have hlt:j<p.procs.length:=(q7t.1 hj).1;have:=hn j (q9q.2 hlt);unfold JP at this;rw[hj]at this;simp only at this;cases hr:DE f (itL (j:Nat) 0 (-1) 0 (QM p.procs j) f.body) []with
 |error id=>rw[hr]at this;cases this
 |ok seen=>exact Va _ _ hr
mutual
theorem AD:∀(t u v:S),u∈flS t->v∈u.thn\/v∈u.els->v∈flS t
 | .mk id kind labels name proc x has args thn els,u,v,h,hv=>by
   rw[flS]at h⊢;rcases q7r.1 h with rfl|h
   ·refine q7n _ (q7a.2 ?_);rcases hv with hv|hv
    ·exact .inl (Gf thn v hv)
    ·exact .inr (Gf els v hv)
   ·rcases q7a.1 h with h|h
    ·exact q7n _ (q7a.2 (.inl (Zr thn u v h hv)))
    ·exact q7n _ (q7a.2 (.inr (Zr els u v h hv)))
theorem Zr:∀(l:List S)(u v:S),u∈flL l->v∈u.thn\/v∈u.els->v∈flL l
 |[],u,v,h,hv=>by rw[flL]at h;cases h
 | t::r,u,v,h,hv=>by
   rw[flL]at h⊢;rcases q7a.1 h with h|h
   ·exact q7a.2 (.inl (AD t u v h hv))
   ·exact q7a.2 (.inr (Zr r u v h hv))
end
theorem Zk(h:it∈itsOf p j f):it.s∈flL f.body:=by
 unfold itsOf at h;rw[<-MF (j:Nat) 0 (-1) 0 (QM p.procs j) f.body];exact q7s.2 ⟨it,h,rfl⟩
theorem WG(hm:HY p=true)(hj:p.procs[j]?=some f){t:S}(h:t∈flL f.body):(QM p.procs j:Int)+1<=t.id/\t.id<=(QM p.procs j+QU f.body:Nat):=by
 have h1:=SP hm hj;have h2:t.id∈Zj (QM p.procs j) (QU f.body):=by
  rw[<-h1];exact q7s.2 ⟨t,h,rfl⟩
 have:=Me h2;omega
theorem Qk(h:it∈itsOf p j f):okI (QM p.procs j) (QM p.procs j+QU f.body) it.next/\(it.loop=0\/((QM p.procs j:Int)+1<=it.loop/\it.loop<=(QM p.procs j+QU f.body:Nat))):=
 Ge (j:Nat) _ _ f.body 0 (-1) 0 _ it h (.inl rfl) (.inl rfl) (q8z _) (q8z _)
theorem KC(hj:p.procs[j]?=some f)(h1:QM p.procs j<=k)(h2:k<QM p.procs j+QU f.body):∃it,(sheetOf p).l[k]?=some it/\it∈itsOf p j f:=by
 obtain⟨_,_,_,hlen,hsp⟩:=QV p;obtain⟨_,_,hle,hd⟩:=hsp j f hj;have hk:k<(sheetOf p).l.length:=by omega
 refine⟨(sheetOf p).l[k],q7g hk,?_⟩;unfold itsOf;rw[<-hd];refine x0g.2 ⟨k-QM p.procs j,?_⟩;rw[q9f,q9z,if_pos (by omega),show QM p.procs j+(k-QM p.procs j)=k by omega,q7g hk]
theorem Oq(hm:HY p=true)(hj:p.procs[j]?=some f)(h:it∈itsOf p j f)(hl:YA f it=true):∀x∈goesI (sheetOf p) f it,okI (QM p.procs j) (QM p.procs j+QU f.body) x:=by
 obtain⟨hnx,hlo⟩:=Qk h;have hs:=Zk h;have hid:=WG hm hj hs;have hhead:∀(l:List S)(o:Int),(∀v∈l,v∈it.s.thn\/v∈it.s.els)->okI (QM p.procs j) (QM p.procs j+QU f.body) o->okI (QM p.procs j) (QM p.procs j+QU f.body) (B1 l o):=fun l o hv ho=>by
  cases l with
  |nil=>exact ho
  |cons v r=>exact .inr (WG hm hj (Zr f.body it.s v hs (hv v q7d)))
 have hloop:it.s.kind=7\/it.s.kind=8->(QM p.procs j:Int)+1<=it.loop/\it.loop<=(QM p.procs j+QU f.body:Nat):=fun hk=>by
  unfold YA at hl;rw[if_pos hk]at hl;rcases hlo with h0|h0
  ·rw[h0]at hl;cases hl
  ·exact h0
 intro x hx;unfold goesI at hx;split at hx
 ·simp only[q7r,List.not_mem_nil,or_false]at hx;rcases hx with rfl|rfl
  ·exact hhead _ _ (fun v hv=>.inl hv) hnx
  ·exact hhead _ _ (fun v hv=>.inr hv) hnx
 split at hx
 ·simp only[q7r,List.not_mem_nil,or_false]at hx;rcases hx with rfl|rfl
  ·exact hhead _ _ (fun v hv=>.inl hv) (.inr hid)
  ·exact hnx
 split at hx
 ·rename_i hk;have hlp:=hloop (.inl hk);obtain⟨u,hu1,hu2⟩:=KC hj (k:=(it.loop-1).toNat) (by omega) (by omega);rw[hu1]at hx;rw[q7m.1 hx];exact(Qk hu2).1
 split at hx
 ·rename_i hk;rw[q7m.1 hx];exact .inr (hloop (.inr hk))
 split at hx
 ·rw[q7m.1 hx];exact .inl rfl
 split at hx
 ·rename_i h7 h8 _ hk;rw[q7m.1 hx];unfold YA at hl;rw[if_neg (by omega),if_pos hk]at hl;unfold atB at hl⊢;split
  ·rename_i t ht;exact .inr (WG hm hj (x0c ht))
  ·rename_i hn;rw[hn]at hl;simp only at hl;cases hfin:f.fin.any fun s=>it.s.name==s with
   |true=>exact .inl rfl
   |false=>rw[hfin]at hl;cases hl
 ·rw[q7m.1 hx];exact hnx
theorem Q7(h:QO p=true)(hj:p.procs[j]?=some f):(∀it∈itsOf p j f,it.s.kind=7->1<=it.loop/\it.loop<=(sheetOf p).l.length)/\
  (∀s∈QP p j f,(s.src=0\/((QM p.procs j:Int)+1<=s.src/\s.src<=(QM p.procs j+QU f.body:Nat)))/\okI (QM p.procs j) (QM p.procs j+QU f.body) s.dst)/\∀s∈QP p j f,okSt s:=by
 obtain⟨hm,hs,_,hjm,_⟩:=QD h;have hld:=BK hs hjm hj;obtain⟨_,_,_,hlen,hsp⟩:=QV p;obtain⟨_,_,hle,_⟩:=hsp j f hj;obtain⟨_,_,hcn⟩:=WC hm;have key:∀s∈QP p j f,(s.src=0\/((QM p.procs j:Int)+1<=s.src/\s.src<=(QM p.procs j+QU f.body:Nat)))/\okI (QM p.procs j) (QM p.procs j+QU f.body) s.dst:=fun s hx=>by
  unfold QP at hx;rcases q7r.1 hx with rfl|hx
  ·refine⟨.inl rfl,?_⟩;show okI _ _ (if QM p.procs j<QM p.procs j+QU f.body then((QM p.procs j:Nat)+1:Int)else -1);split
   ·exact .inr ⟨by omega,by omega⟩
   ·exact .inl rfl
  ·obtain⟨it,hit,hz⟩:=q8r.1 hx;obtain⟨y,hy,rfl⟩:=q7s.1 hz;exact⟨.inr (WG hm hj (Zk hit)),Oq hm hj hit (hld it hit) y hy⟩
 refine⟨fun it hit hk=>?_,key,fun s hx=>?_⟩
 ·have hl:=hld it hit;unfold YA at hl;rw[if_pos (.inl hk)]at hl;rcases(Qk hit).2 with h0|h0
  ·rw[h0]at hl;cases hl
  ·omega
 ·obtain⟨h1,h2⟩:=key s hx;unfold okSt okI at*
  omega
def X7(p:Pg)(n:Str):Option Way:=bif QO p then(match p.procs.find? (fun f=>f.name==n)with
 |some f=>some (QQ p (p.procs.findIdx fun f=>f.name==n) f)
 |none=>none)else none
def q6h:Option Way->AV
 |some w=>.ip w.cells
 |none=>.nilp
theorem XP(h:QO p=true):p.globals.length<=16/\p.procs.length<=16/\cntP p.procs<=200:=WC (QD h).1
theorem Mi{n:Str}(h:¬n∈procsN p):Qj (fun f=>f.name==n) p.procs = -1/\p.procs.find? (fun f=>f.name==n)=none:=by
 have h1:p.procs.any (fun f=>f.name==n)=false:=by
  rw[x2e];intro f hf hn;exact h (q7s.2 ⟨f,hf,by simpa using hn⟩)
 refine⟨by unfold Qj;rw[h1];rfl,?_⟩;rw[x0o];intro f hf;have:=x2e.1 h1 f hf;simpa using this
theorem Gt{n:Str}(h:n∈procsN p):∃(k:Nat) (hk:k<p.procs.length),Qj (fun f=>f.name==n) p.procs=k/\p.procs.findIdx (fun f=>f.name==n)=k/\p.procs.find? (fun f=>f.name==n)=some p.procs[k]/\p.procs[k].name=n:=by
 obtain⟨k,hk,h1,h2,h3⟩:=Hq h;refine⟨k,hk,h1,?_,h2,h3⟩;unfold Qj at h1;cases ha:p.procs.any (fun f=>f.name==n)with
 |true=>rw[ha,q8g]at h1;omega
 |false=>rw[ha,q8b]at h1;omega
theorem q2t(p:Pg)(hf:Fit p)(n:Str):SpecP prog 63 [.agg p.cells,.str n] (fun r=>r=q6h (X7 p n)):=by
 refine sB Au func63 rfl call63 ?_;conv=>whnf
 cases hc:QO p with
 | false=>
   have e:X7 p n=none:=by unfold X7;rw[hc];rfl
   have hA:¬(I7 p).1=0:=by unfold QO at hc;simpa using hc
   rw[e];repeat' (first|(refine cP (KN p hf) ?_;conv=>whnf)|(apply bE<;>intro _<;>first|omega|conv=>whnf))
   all_goals first
    |exact RetK.p rfl
    |(exfalso;exact hA (by assumption))
 | true=>
   obtain⟨hg,hpl,hcn⟩:=XP hc;have hA:(I7 p).1=0:=by unfold QO at hc;simpa using hc
   have hsp:(sheetOf p).p.procs=p.procs:=by rw[(QV p).1]
   by_cases hn:n∈procsN p
   ·obtain⟨k,hk,h1,h2,h3,h4⟩:=Gt hn;have e:X7 p n=some (QQ p k p.procs[k]):=by unfold X7;rw[hc,h3,h2];rfl
    have hkj:p.procs[k]?=some p.procs[k]:=by simp
    obtain⟨w1,_,w3⟩:=Q7 hc hkj;rw[e];repeat' (first|((first|refine cP (KN p hf) ?_|refine cP (XF _ _) ?_|(refine CallK.pure (JD p (by omega) (by omega)) (.cons (Sub.refl _) .nil) ?_;rintro _ rfl)|(refine CallK.pure (A5 p k p.procs[k] hkj (by omega) w1 w3) (.cons (Sub.refl _) (.cons (Sub.int h1) .nil)) ?_;rintro _ rfl));conv=>whnf)|(apply bD<;>intro _<;>first|omega|conv=>whnf)|(apply bE<;>intro _<;>first|omega|conv=>whnf))
    all_goals rw[hsp]at*
    all_goals first
     |exact RetK.p rfl
     |(exfalso;omega)
   ·obtain⟨h1,h2⟩:=Mi hn;have e:X7 p n=none:=by unfold X7;rw[hc,h2];rfl
    rw[e];repeat' (first|((first|refine cP (KN p hf) ?_|refine cP (XF _ _) ?_|(refine CallK.pure (JD p (by omega) (by omega)) (.cons (Sub.refl _) .nil) ?_;rintro _ rfl));conv=>whnf)|(apply bD<;>intro _<;>first|omega|conv=>whnf)|(apply bE<;>intro _<;>first|omega|conv=>whnf))
    all_goals rw[hsp]at*
    all_goals first
     |exact RetK.p rfl
     |(exfalso;omega)
theorem KI{n:Str}{w:Way}(h:X7 p n=some w):∃(k:Nat) (f:Pr),p.procs[k]?=some f/\w=QQ p k f/\QO p=true/\f.name=n/\p.procs.find? (fun f=>f.name==n)=some f:=by
 unfold X7 at h;cases hc:QO p with
 |false=>rw[hc]at h;cases h
 | true=>
   rw[hc,q8g]at h;by_cases hn:n∈procsN p
   ·obtain⟨k,hk,h1,h2,h3,h4⟩:=Gt hn;rw[h3,h2]at h;cases h;exact⟨k,p.procs[k],by simp,rfl,rfl,h4,h3⟩
   ·rw[(Mi hn).2]at h;cases h
def q2o(p:Pg)(k:Nat)(f:Pr):Int:=if QM p.procs k<QM p.procs k+QU f.body then((QM p.procs k:Nat)+1:Int)else -1
def ofR(p:Pg)(n:Str):List Step:=match X7 p n with
 |some w=>w.real
 |none=>[]
def q5o(p:Pg)(id:Int):Int×Bool:=bif QO p&&(decide (1<=id)&&decide (id<=(sheetOf p).l.length))then(((sheetOf p).l[(id-1).toNat]?.map Item.next).getD 0,true)else(0,false)
def QH(p:Pg)(j:Nat)(n i:Int):Int:=if i=0 then 0 else if i=n-1 then -1 else loI p j+i-1
theorem WY(w:Way)(f:Pr)(hj:w.p.procs[w.j]?=some f)(hc:cntP w.p.procs<=1000)(hn:0<=w.n/\w.n<=5000)(i:Int)(hi:0<=i/\i<=5000):SpecP prog 64 [.ip w.cells,.int .i64 i] (fun r=>r=.int .i64 (QH w.p w.j w.n i)):=by
 refine sB Wy func64 rfl call64 ?_;conv=>whnf
 obtain⟨_,_,_,hlen,hsp⟩:=QV w.p;obtain⟨hlo,hhi,hle,_⟩:=hsp w.j f hj;repeat' (first|((first|refine dA ?_|refine wI ?_|(refine IdxK.at rfl (VM hlo) rfl ?_));conv=>whnf)|(apply bD<;>intro _<;>first|omega|conv=>whnf))
 all_goals exact RetK.int (by unfold QH loI;(repeat' split)<;>omega)
theorem DM(l:List Int):∀b:List Bool,(JX l b).length=b.length:=by
 induction l with
 |nil=>intro b;rfl
 | cons a r ih=>
   intro b;show(JX r (b.set a.toNat true)).length=b.length;rw[ih,x0d]
def B8(w:Way):List Int:=((List.range' 1 (w.n-2).toNat).filter fun i=>w.live.getD i false).map fun(i:Nat)=>QH w.p w.j w.n i
def PH(p:Pg)(n:Str):List Int:=match X7 p n with
 |some w=>B8 w
 |none=>[]
theorem AQ(p:Pg)(hf:Fit p)(n:Str):SpecP prog 34 [.agg p.cells,.str n] (fun r=>r=QA (PH p n)):=by
 refine sB Rb func34 rfl call34 ?_;conv=>whnf
 have hW:=q2t p hf n;unfold PH;cases hw:X7 p n with
 | none=>
   rw[hw]at hW;repeat' (refine cP hW ?_;conv=>whnf)
   exact⟨_,.p Sub.nils,rfl⟩
 | some w=>
   obtain⟨k,f,hkj,hwe,hc,_⟩:=KI hw;obtain⟨_,_,hcn⟩:=XP hc;obtain⟨_,_,_,_,hsp⟩:=QV p;obtain⟨_,_,hle,_⟩:=hsp k f hkj;have hwp:w.p=p:=by rw[hwe];rfl
   have hwj:w.j=k:=by rw[hwe];rfl
   have hwn:w.n=(QU f.body+2:Nat):=by rw[hwe];rfl
   have hwl:w.live.length=QU f.body+2:=by rw[hwe];show(JX _ (List.replicate (QU f.body+2) false)).length=_;rw[DM];simp
   have hwj':w.p.procs[w.j]?=some f:=by rw[hwp,hwj];exact hkj
   have hcn':cntP w.p.procs<=1000:=by rw[hwp];omega
   rw[hw]at hW;clear hwe hw;repeat' (refine cP hW ?_;conv=>whnf)
   refine LoopK.inv QK (fun x:Nat×List Int=>⟨[(5,.p (.ip w.cells)),(6,.hd 0 0 x.2.length),(7,.p (.int .i64 x.1))],[(0,.own 3 1 (x.2.map (.int .i64)))]⟩)
    (fun x=>1<=x.1/\x.1<=QU f.body+1/\x.2.length<=x.1/\x.2++(((List.range' x.1 (QU f.body+1-x.1)).filter fun i=>w.live.getD i false).map fun(i:Nat)=>QH w.p w.j w.n i)=B8 w) (fun x=>QU f.body+1-x.1) (1,[])
    (Le.mk [(0,.own 3 1 [])] (by simp[Chunk.new0];rfl) (by simp) (by simp) (.r (.cons (.nil q7d) (.cons (.of_eq rfl) .nil))) (.new q7d .nil))
    ⟨q8z _,by simp only;omega,by simp,by unfold B8;rw[hwn,show((QU f.body+2:Nat)-2:Int).toNat=QU f.body+1-1 by omega];rfl⟩ ?_
   rintro⟨i,acc⟩ ⟨h1,h2,h3,h4⟩;simp only at h1 h2 h3 h4⊢;rcases q7e i (QU f.body+1)with hi|hi;rotate_left 1
   ·rw[show QU f.body+1-i=0 by omega]at h4;simp only[List.range'_zero,List.filter_nil,x3q,q9h]at h4;subst h4;conv=>whnf
    repeat' (first|(refine wI ?_;conv=>whnf)|(apply bD<;>intro _<;>first|omega|conv=>whnf))
    all_goals first
     |exact⟨_,.hd rfl (by simp),rfl⟩
     |(exfalso;omega)
   have hil:i<w.live.length:=by omega
   rw[show QU f.body+1-i=QU f.body+1-(i+1)+1 by omega,List.range'_succ,x3s]at h4;have hpl:=WY w f hwj' hcn' (by omega) i (by omega);cases hl:w.live.getD i false with
   | true=>
     have hle:(w.live.map bv)[i]?=some .tt:=by
      have:w.live[i]=true:=by simpa[hil]using hl
      simp[hil,this,bv]
     rw[hl]at h4;conv=>whnf
     repeat' (first|((first|refine q7p rfl ?_|refine aD ?_|refine bP ?_|refine wI ?_|(refine IdxK.at rfl hle rfl ?_)|refine cP hpl ?_|refine XX (by simp) (by simp;omega) ?_);conv=>whnf)|(apply bD<;>intro _<;>first|omega|conv=>whnf))
     all_goals first
      |exact⟨(i+1,acc++[QH w.p w.j w.n i]),⟨by simp only;omega,by simp only;omega,by simp;omega,by simpa using h4⟩,by simp only;omega,Le.of_eq (by simp only[q7b,q7o];rfl)⟩
      |(exfalso;omega)
   | false=>
     have hle:(w.live.map bv)[i]?=some .ff:=by
      have:w.live[i]=false:=by simpa[hil]using hl
      simp[hil,this,bv]
     rw[hl]at h4;conv=>whnf
     repeat' (first|((first|refine wI ?_|(refine IdxK.at rfl hle rfl ?_));conv=>whnf)|(apply bD<;>intro _<;>first|omega|conv=>whnf))
     all_goals first
      |exact⟨(i+1,acc),⟨by simp only;omega,by simp only;omega,by simp only;omega,by simpa using h4⟩,by simp only;omega,Le.of_eq rfl⟩
      |(exfalso;omega)
def IV(p:Pg)(id:Int):Option S:=((sheetOf p).l[(id-1).toNat]?).map Item.s
def Qg(a b:Step):Prop:=QS a.src<QS b.src\/(QS a.src=QS b.src/\QS a.dst<QS b.dst)
def Ax(s:Step):Prop:=okSt s/\s.kind=1
theorem KF{a b:Step}(h1:a.src=b.src)(h2:a.dst=b.dst)(h3:a.kind=b.kind):a=b:=by
 cases a;cases b;simp_all
theorem KA{a b:Step}:GI a b=true↔QS a.src<QS b.src\/(QS a.src=QS b.src/\(QS a.dst<QS b.dst\/(QS a.dst=QS b.dst/\a.kind<b.kind))):=by
 have h:GI a b=decide (No a b<0):=rfl;rw[h,q8e];unfold No;simp only[orI];split
 ·rename_i h1;rw[VB]at h1;split
  ·rename_i h2;rw[VB]at h2;split
   ·rename_i h3;rw[VB]at h3;omega
   ·rw[JH];omega
  ·rename_i h2;rw[VB]at h2;rw[JH];omega
 ·rename_i h1;rw[VB]at h1;rw[JH];omega
theorem LY(l:List Step):(YJ l).Pairwise fun a b=>GI b a=false:=by
 have:=x3v (le:=fun x y=> !GI y x) (fun a b c h1 h2=>by
  simp only[x0p]at h1 h2⊢;rw[x2a,ne_eq,KA]at h1 h2⊢;omega) (fun a b=>by
  cases h1:GI b a with
  |false=>rfl
  | true=>
    have h2:GI a b=false:=by
     rw[x2a,ne_eq,KA];rw[KA]at h1;omega
    rw[h2];rfl) l
 refine List.Pairwise.imp ?_ this;intro a b h;simpa using h
theorem Xi{a b:Step}(ha:Ax a)(hb:Ax b):ZY a b=true↔a=b:=by
 unfold ZY;simp only[q8j,q8e];refine⟨fun h=>KF h.1 h.2 (by rw[ha.2,hb.2]),fun h=>by rw[h];exact⟨rfl,rfl⟩⟩
theorem Ob{a b:Step}(ha:Ax a)(hb:Ax b)(h:GI b a=false)(hne:a≠b):Qg a b:=by
 rw[x2a,ne_eq,KA]at h;unfold Qg;by_cases h1:QS a.src=QS b.src
 ·by_cases h2:QS a.dst=QS b.dst
  ·exact absurd (KF (US ha.1.1 hb.1.1 h1) (US ha.1.2 hb.1.2 h2) (by rw[ha.2,hb.2])) hne
  ·omega
 ·omega
theorem Qh{a b c:Step}(h:Qg a b)(h':Qg b c):Qg a c:=by unfold Qg at*;omega
theorem GK{a:Step}(h:Qg a a):False:=by unfold Qg at h;omega
theorem NE:∀(l:List Step)(a:Step),Ax a->(∀s∈l,Ax s)->(a::l).Pairwise (fun a b=>GI b a=false)->(a::XY a l).Pairwise Qg/\∀s,s∈a::XY a l↔s∈a::l
 |[],a,_,_,_=>⟨by simp[XY],by simp[XY]⟩
 | b::r,a,ha,hl,h=>by
   have hb:=hl b q7d;have hr:∀s∈r,Ax s:=fun s hs=>hl s (q7n _ hs);rw[x1q]at h;obtain⟨h1,h2⟩:=h;obtain⟨i1,i2⟩:=NE r b hb hr h2;rw[XY];cases hs:ZY b a with
   | true=>
     obtain rfl:=(Xi hb ha).1 hs;rw[q8g];exact⟨i1,fun s=>by rw[i2];simp⟩
   | false=>
     rw[q8b];have hne:a≠b:=fun e=>by
      rw[(Xi hb ha).2 e.symm]at hs;cases hs
     have hlt:=Ob ha hb (h1 b q7d) hne;refine⟨?_,fun s=>by rw[q7r,i2,<-q7r (a:=s) (b:=a)]⟩;rw[x1q];refine⟨fun s hsm=>?_,i1⟩;rcases q7r.1 hsm with rfl|hsm
     ·exact hlt
     ·exact Qh hlt ((x1q.1 i1).1 s hsm)
theorem T4{l:List Step}(hok:∀s∈l,Ax s):(WM l).Pairwise Qg/\∀s,s∈WM l↔s∈l:=by
 have hp:∀s,s∈YJ l↔s∈l:=fun s=>(Ut l).mem_iff;have hs:=LY l;unfold WM;cases hq:YJ l with
 | nil=>
   rw[hq]at hp;exact⟨by simp[PX],fun s=>by rw[<-hp];simp[PX]⟩
 | cons a r=>
   rw[hq]at hp hs;have hok':∀s∈a::r,Ax s:=fun s h=>hok s ((hp s).1 h);obtain⟨h1,h2⟩:=NE r a (hok' a q7d) (fun s h=>hok' s (q7n _ h)) hs;exact⟨h1,fun s=>by rw[PX,h2,hp]⟩
theorem Kw:∀{l m:List Step},l.Pairwise Qg->m.Pairwise Qg->(∀s,s∈l↔s∈m)->l=m
 |[],[],_,_,_=>rfl
 |[],b::m,_,_,h=>by have:=(h b).2 q7d;cases this
 |a::l,[],_,_,h=>by have:=(h a).1 q7d;cases this
 | a::l,b::m,hl,hm,h=>by
   rw[x1q]at hl hm;have hab:a=b:=by
    rcases q7r.1 ((h a).1 q7d)with e|ha
    ·exact e
    ·rcases q7r.1 ((h b).2 q7d)with e|hb
     ·exact e.symm
     ·exact(GK (Qh (hl.1 b hb) (hm.1 a ha))).elim
   subst hab;congr 1;refine Kw hl.2 hm.2 fun s=>⟨fun hs=>?_,fun hs=>?_⟩
   ·rcases q7r.1 ((h s).1 (q7n _ hs))with rfl|h'
    ·exact(GK (hl.1 _ hs)).elim
    ·exact h'
   ·rcases q7r.1 ((h s).2 (q7n _ hs))with rfl|h'
    ·exact(GK (hm.1 _ hs)).elim
    ·exact h'
theorem P4(h:QO p=true)(hj:p.procs[j]?=some f):∀s∈QP p j f,Ax s:=by
 obtain⟨_,_,h3⟩:=Q7 h hj;intro s hs;refine⟨h3 s hs,?_⟩;unfold QP at hs;rcases q7r.1 hs with rfl|hs
 ·rfl
 ·obtain⟨it,_,hz⟩:=q8r.1 hs;obtain⟨y,_,rfl⟩:=q7s.1 hz;rfl
theorem KS(h:QO p=true)(hj:p.procs[j]?=some f):(QQ p j f).real.Pairwise Qg/\∀s,s∈(QQ p j f).real↔s∈QP p j f:=T4 (P4 h hj)
theorem Eo(h:QO p=true)(hj:p.procs[j]?=some f){s:Step}(hs:s∈QP p j f):s=⟨0,q2o p j f,1⟩\/(1<=s.src/\s.src<=9223372036854775806):=by
 obtain⟨_,_,hcn⟩:=XP h;obtain⟨_,_,_,hlen,hsp⟩:=QV p;obtain⟨_,_,hle,_⟩:=hsp j f hj;unfold QP at hs;rcases q7r.1 hs with rfl|hs
 ·exact .inl rfl
 ·obtain⟨it,hit,hz⟩:=q8r.1 hs;obtain⟨y,_,rfl⟩:=q7s.1 hz;have:=WG (QD h).1 hj (Zk hit);refine .inr ?_;simp only;omega
def Bj(x:X):Bool:=decide (Yu x.op=(x.kids.length:Int))&&(decide (x.op=1)||decide (x.n=0))&&decide (0<=x.n)&&(decide (x.op=2) == !(x.name==[]))&&((x.name==[])||isName x.name)
def AM:Nat->X->Bool
 |0,_=>true
 |k+1,x=>Bj x&&x.kids.all (AM k)
def q1r:List Nat->Nat
 |[]=>0
 |a::r=>max a (q1r r)
def TE:Nat->X->Nat
 |0,_=>1
 |m+1,x=>1+q1r (x.kids.map (TE m))
theorem On{l:List Nat}{m:Nat}(h:∀a∈l,a<=m):q1r l<=m:=by
 induction l with
 |nil=>exact q7c _
 | cons a r ih=>
   have:=ih fun b hb=>h b (q7n _ hb);have:=h a q7d;rw[q1r];omega
def mayXR(x:X):Bool:=decide (TE 20 x<=20)&&AM (wX x+1) x
theorem Q8:∀(n:Nat)(x:X),UJ n x=true->TE n x<=n/\∀k,AM k x=true
 |0,x,h=>by rw[UJ]at h;cases h
 | n+1,x,h=>by
   rw [UJ]at h;simp only[q8j,q8e]at h;obtain⟨h1,h2⟩:=h;have hkids:(∀y∈x.kids,UJ n y=true)/\Bj x=true:=by
    split at h2
    ·rename_i ho;simp only[q8j,q8e]at h2;have hk0:x.kids=[]:=by
      rw[ho]at h1;have:Yu 1=0:=by decide
      rw[this]at h1;exact x2h.1 (by omega)
     refine⟨by rw[hk0];simp,?_⟩;unfold Bj;rw[h1,ho,h2.2];simp[h2.1]
    split at h2
    ·rename_i ho;simp only[q8j,q8e]at h2;have hk0:x.kids=[]:=by
      rw[ho]at h1;have:Yu 2=0:=by decide
      rw[this]at h1;exact x2h.1 (by omega)
     have hne:(x.name==[])=false:=by
      cases hq:x.name with
      | nil=>
        have:=h2.2;rw[hq]at this;unfold isName at this;rw[dif_neg (by simp)]at this;cases this
      |cons a r=>rfl
     refine⟨by rw[hk0];simp,?_⟩;unfold Bj;rw[h1,ho,h2.2,hne,h2.1];simp
    ·rename_i ho1 ho2;simp only[q8j,q8e,q9b]at h2;refine⟨h2.2,?_⟩;unfold Bj;rw[h1,h2.1.1,h2.1.2];simp[ho1,ho2]
   refine⟨?_,fun k=>?_⟩
   ·rw[TE];have:q1r (x.kids.map (TE n))<=n:=On fun a ha=>by
     obtain⟨y,hy,rfl⟩:=q7s.1 ha;exact(Q8 n y (hkids.1 y hy)).1
    omega
   ·cases k with
    |zero=>rfl
    | succ k=>
      rw[AM,hkids.2,Bool.true_and,q9b];exact fun y hy=>(Q8 n y (hkids.1 y hy)).2 k
theorem Il{x:X}(h:Aq x=true):mayXR x=true:=by
 obtain⟨h1,h2⟩:=Q8 20 x h;unfold mayXR;rw[x0b h1,h2];rfl
def argR(a:Arg):Bool:=bif a.ref then isName a.name&&noneB a.x else(a.name==[])&&mayXR a.x
theorem Ox{a:Arg}(h:Vp a=true):argR a=true:=by
 unfold Vp GE BH at h;unfold argR;cases hr:a.ref with
 | true=>
   rw[hr]at h;simpa using h
 | false=>
   rw[hr]at h;simp only[q8b,Bool.not_false,q8g,q8j]at h;rw[h.1,Il h.2];rfl
end Go.Ab
