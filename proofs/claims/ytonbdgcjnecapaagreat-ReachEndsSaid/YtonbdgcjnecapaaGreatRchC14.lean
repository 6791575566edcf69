/- graph: how many nodes, who is next; solve: each list's set. -/
import Derived.Laws.StructEq
import Derived.ChangeKeysEq
import Derived.Test.YtonbdgcjnecapaaGreatRchC4
import Derived.Test.YtonbdgcjnecapaaGreatRchC6
import Derived.Test.YtonbdgcjnecapaaGreatRchC7
import Derived.Test.YtonbdgcjnecapaaGreatRchC9
import Derived.Test.YtonbdgcjnecapaaGreatRchC10
import Derived.Test.YtonbdgcjnecapaaGreatRchC13
set_option linter.all false
set_option maxRecDepth 100000
set_option maxHeartbeats 16000000
namespace Go.Ab
open Go.Proofs.Tryz
open Go.Proofs
variable {K:St->Prop}{N i j k sz:Nat}{P:Program}{e:TypeId}{es:List AV}{f:Pr}{it:Item}{p:Pg}{s:St}{σ:Mem}
def Uc(g:List (List Int)×List (List Int)):SpecP prog 289 [VV g] (fun r=>r=.int .i64 g.1.length):=by
 refine sB Xz func289 rfl call289 ?_;conv=>whnf
 have h:((avI g.1).map AV.sl).length=g.1.length:=by unfold avI;rw[x0j,x0j]
 repeat' (first|((first|(refine iM fun _=>?_)|refine dA ?_|refine x0h rfl ?_|refine aD ?_|refine aR ?_|refine bP ?_|(refine iA fun _=>?_)|refine IdxK.xs (by omega) ?_|refine QX (by omega) ?_|(refine ByteK.at (by omega) ?_)|refine wI ?_);conv=>whnf)|(apply bD<;>intro _<;>first|omega|conv=>whnf)|(apply bE<;>intro _<;>first|omega|conv=>whnf)|(apply bN<;>intro _<;>conv=>whnf)|(apply bB<;>intro _<;>conv=>whnf))
 all_goals first
  |exact RetK.int (by rw[h])
def DM(l:List Int)(u:l.length<=1000000):SpecP prog 323 [QI l] (fun r=>r=QI l):=by
 refine sB GL func323 rfl call323 ?_;conv=>whnf
 have m:(l.map (AV.int .i64)).length=l.length:=x0j _;repeat' (first|((first|(refine iM fun _=>?_)|refine dA ?_|refine x0h rfl ?_|refine aD ?_|refine aR ?_|(refine iA fun _=>?_)|refine IdxK.xs (by omega) ?_|refine QX (by omega) ?_|(refine ByteK.at (by omega) ?_)|refine wI ?_|refine K3 QK rfl rfl rfl rfl (fun q t=>?_)|refine x6n (fun x h=>by cases h) rfl ?_|refine x4n (n:=0) rfl rfl (by show _*8<=140737488355328;omega) (by show _<=9223372036854775807;omega) (fun x h=>by obtain⟨y,_,rfl⟩:=x0n.1 h;exact⟨rfl,rfl⟩) ?_);conv=>whnf)|(apply bD<;>intro _<;>first|omega|conv=>whnf)|(apply bE<;>intro _<;>first|omega|conv=>whnf)|(apply bN<;>intro _<;>conv=>whnf)|(apply bB<;>intro _<;>conv=>whnf))
 all_goals first
  |exact⟨_,.p Sub.nils,by rw[x6z.1 (t (by assumption))];rfl⟩
  |exact⟨_,.hd rfl (by simp),rfl⟩
def Wc(g:List (List Int)×List (List Int))(a:Int)(t:∀r∈g.1,r.length<=1000000):SpecP prog 290 [VV g,.int .i64 a] (fun r=>r=QI (if ZK g.1.length a=true then g.1.getD a.toNat []else [])):=by
 refine sB MS func290 rfl call290 ?_;conv=>whnf
 have l:=DW g a;cases m:ZK g.1.length a with
 | false=>
   rw[m]at l;repeat' (first|((first|(refine iM fun _=>?_)|refine dA ?_|refine x0h rfl ?_|refine aD ?_|refine aR ?_|refine bP ?_|(refine iA fun _=>?_)|refine IdxK.xs (by omega) ?_|refine QX (by omega) ?_|(refine ByteK.at (by omega) ?_)|refine wI ?_|refine cP l ?_);conv=>whnf)|(apply bD<;>intro _<;>first|omega|conv=>whnf)|(apply bE<;>intro _<;>first|omega|conv=>whnf)|(apply bN<;>intro _<;>conv=>whnf)|(apply bB<;>intro _<;>conv=>whnf))
   all_goals first
    |contradiction
    |exact⟨_,.p Sub.nils,rfl⟩
 | true=>
   rw[m]at l;have hr:0<=a/\a<g.1.length:=by
    unfold ZK at m;simpa using m
   have h:a.toNat<g.1.length:=by omega
   have q:((avI g.1).map AV.sl)[a.toNat]?=some (QI (g.1.getD a.toNat [])):=by
    unfold avI;rw[x0d,x0d,x0y,x0u h];rfl
   have n:=DM (g.1.getD a.toNat []) (by rw[x0y,x0u h];exact t _ (x0s h));rw[if_pos rfl];generalize g.1.getD a.toNat []=row at*
   repeat' (first|((first|(refine iM fun _=>?_)|refine dA ?_|refine x0h rfl ?_|refine aD ?_|refine aR ?_|refine bP ?_|(refine iA fun _=>?_)|refine IdxK.xs (by omega) ?_|refine QX (by omega) ?_|(refine ByteK.at (by omega) ?_)|refine wI ?_|refine cP l ?_|(refine IdxK.at (k:=a.toNat) (by omega) q rfl ?_)|refine cP n ?_);conv=>whnf)|(apply bD<;>intro _<;>first|omega|conv=>whnf)|(apply bE<;>intro _<;>first|omega|conv=>whnf)|(apply bN<;>intro _<;>conv=>whnf)|(apply bB<;>intro _<;>conv=>whnf))
   all_goals first
    |contradiction
    |exact⟨_,.p (Sub.refl _),rfl⟩
def eWm(m:List (List Wd)):List (List AV):=m.map fun r=>r.map eW
def LR(m:List (List Wd)):AV:=.sl ((eWm m).map .sl)
def Es(w:Nat)(l:List (List Int))(i:Nat):List (List Wd):=(l.take i).map (HK w)++List.replicate (l.length-i) []
def O7(w:Nat)(l:List (List Int))(h:i<=l.length):(Es w l i).length=l.length:=by
 unfold Es;rw[x0g,x0j,x1f,x2d];omega
def O8(w:Nat)(l:List (List Int))(h:i<l.length):(Es w l i).set i (HK w l[i])=Es w l (i+1):=by
 unfold Es;have m:((l.take i).map (HK w)).length=i:=by rw[x0j,x1f];omega
 rw[x4d _ _ (by omega),m,x5s,show l.length-i=(l.length-(i+1))+1 by omega,x5b,x4p,x0a h,x0c,x1k];rfl
def S4{h:Nat}{sl:List (Nat×LV)}(n:Nat)(l:(sl.all fun x=>x.2.xfree 0)=true):
  Le h ⟨sl,[(0,.own 303 1 (List.replicate n .nils))]⟩ ⟨sl,[(0,.ext (.mat 303 282 1 (List.replicate n []) []))]⟩:=by
 have m:=LU (N:=h) (sl:=sl) (H:=[(0,.own 303 1 (List.replicate n .nils))])
  (H':=[(0,.ext (.mat 303 282 1 (List.replicate (List.replicate n AV.nils).length []) []))])
  0 282 1 (e:=303) (es:=List.replicate n .nils) rfl (fun x q=>x3r q) rfl l rfl rfl (by simp[GJ])
 simpa using m
def Gc(l:List (List Int))(hl:l.length<=5000)(hr:∀r∈l,r.length<=5000)(m:Nat)(hm:m<=5000)(hf:∀r∈l,∀f∈r,0<=f/\f<m):SpecP prog 233 [eMat l,.int .i64 m] (fun r=>r=.tup [LR (l.map (HK (m/64+1))),.tt]):=by
 refine sB By func233 rfl call233 ?_;conv=>whnf
 have J:((avI l).map AV.sl).length=l.length:=by unfold avI;rw[x0j,x0j]
 obtain⟨w,U⟩ : ∃w,w=m/64+1:=⟨_,rfl⟩;rw[<-U];have E:=EO m;repeat' (first|((first|(refine iM fun _=>?_)|refine dA ?_|refine x0h rfl ?_|refine aD ?_|refine aR ?_|refine bP ?_|(refine iA fun _=>?_)|refine IdxK.xs (by omega) ?_|refine QX (by omega) ?_|(refine ByteK.at (by omega) ?_)|refine wI ?_|refine x5r l.length (by omega) (by show 24*_<=140737488355328;omega) (by unfold maxLen;omega) ?_);conv=>whnf)|(apply bD<;>intro _<;>first|omega|conv=>whnf)|(apply bE<;>intro _<;>first|omega|conv=>whnf)|(apply bN<;>intro _<;>conv=>whnf)|(apply bB<;>intro _<;>conv=>whnf))
 refine LoopK.inv QK (fun i:Nat=>⟨[(1,.p (.int .i64 m)),(6,.hd 0 0 l.length),(14,.p (eMat l)),(15,.p (.int .i64 l.length)),(16,.p (.int .i64 i))],[(0,.ext (.mat 303 282 1 (eWm (Es w l i)) []))]⟩) (fun i=>i<=l.length) (fun i=>l.length-i) 0
  (by
    refine Le.trans (S4 l.length rfl) ?_;exact Le.mk [] (by simp) (by simp) (by simp) (.r (.r (.r (.cons (.of_eq (by rw[J];rfl)) (.r .nil))))) (.cons rfl (.of_eq (by simp[eWm,Es])) .nil)) (x0l _) ?_
 intro i hi;rcases x0t i l.length with v|v
 .have D:=O7 w l hi;have g:=O8 w l v;have O:=hr _ (x0s v);have B:=hf _ (x0s v);have z:((avI l).map AV.sl)[i]?=some (QI l[i]):=by unfold avI;rw[x0d,x0d,x0u v];rfl
  generalize Es w l i=rows at D g⊢;generalize l[i]=fs at g O B z;have hel:(eWm rows).length=l.length:=by unfold eWm;rw[x0j,D]
  have hfl:(fs.map (AV.int .i64)).length=fs.length:=x0j _;conv=>whnf
  repeat' (first|((first|(refine iM fun _=>?_)|refine dA ?_|refine x0h rfl ?_|refine aD ?_|refine aR ?_|refine bP ?_|(refine iA fun _=>?_)|refine IdxK.xs (by omega) ?_|refine QX (by omega) ?_|(refine ByteK.at (by omega) ?_)|refine x0h (by decide) ?_|refine Wr.i64 (by first|omega|(rw[E];omega)) (by first|omega|(rw[E];omega)) ?_|(refine IdxK.at (k:=i) rfl z rfl ?_)|refine x5r w (by rw[U,E];omega) (by show 8*_<=140737488355328;omega) (by unfold maxLen;omega) ?_|refine x1i i rfl v ?_|(refine FB QK rfl rfl rfl rfl rfl rfl rfl rfl rfl (by decide) i [] (by omega) (by omega) (by simp) ⟨by simp,by simp,by simp⟩ ?_));conv=>whnf)|(apply bD<;>intro _<;>first|omega|conv=>whnf)|(apply bE<;>intro _<;>first|omega|conv=>whnf)|(apply bN<;>intro _<;>conv=>whnf)|(apply bB<;>intro _<;>conv=>whnf))
  have F:∀h,(avI l)[i]'h=fs.map (.int .i64):=fun h=>by
   have t:=z;rw[x0d,x0u h]at t;have Z:AV.sl (avI l)[i]=.sl (fs.map (.int .i64)):=x3h t;exact(AV.sl.inj Z)
  simp only[F];refine LoopK.inv QK (fun j:Nat=>⟨[(1,.p (.int .i64 m)),(6,.hd 0 0 l.length),(7,.p (.int .i64 i)),(14,.p (eMat l)),(15,.p (.int .i64 l.length)),(16,.p (.int .i64 i)),(28,.p (QI fs)),(29,.p (.int .i64 (fs.map (AV.int .i64)).length)),(30,.p (.int .i64 j))],[(0,.ext (.mat 303 282 1 ((eWm rows).set i ((HK w (fs.take j)).map eW)) []))]⟩) (fun j=>j<=fs.length) (fun j=>fs.length-j) 0
   (Le.of_eq (by simp[HK];exact⟨⟨rfl,rfl⟩,rfl⟩)) (x0l _) ?_
  intro j hj;rcases x0t j fs.length with t|t
  .obtain ⟨hf0,hf1⟩:=B _ (x0s t);have R:=Af w fs t;have C:=Vj w (fs.take j);have G:fs[j]=((fs[j].toNat:Nat):Int):=by omega
   have I:(fs.map (AV.int .i64))[j]?=some (.int .i64 fs[j]):=by rw[x0d,x0u t];rfl
   generalize HK w (fs.take j)=ws at*
   have x:=Ji ws fs[j].toNat (by rw[C,U];omega) (by omega);rw[<-G,<-R]at x;have M:(HK w (fs.take (j+1))).length=ws.length:=by rw[Vj,C]
   generalize Y:HK w (fs.take (j+1))=ws' at*
   have V:(ws.map eW).length=ws.length:=x0j _;have a:SpecH prog 288 [.hd 1000 0 (ws.map eW).length,.p (.int .i64 fs[j])] ((1000,.own 282 1 (ws.map eW))::bif false then [(1001,.own 0 0 [])]else []) (fun r H=>(∃b,r=.p (.bool b))/\H=[wsH 1000 ws']):=by rw[V];exact x
   have y:((eWm rows).set i (ws.map eW))[i]?=some (ws.map eW):=x2p (by omega);have Q:((eWm rows).set i (ws.map eW)).set i (ws'.map eW)=(eWm rows).set i (ws'.map eW):=List.set_set _;conv=>whnf
   repeat' (first|((first|(refine iM fun _=>?_)|refine dA ?_|refine x0h rfl ?_|refine aD ?_|refine aR ?_|refine bP ?_|(refine iA fun _=>?_)|refine IdxK.xs (by omega) ?_|refine QX (by omega) ?_|(refine ByteK.at (by omega) ?_)|refine wI ?_|(refine IdxK.at (k:=j) rfl I rfl ?_)|refine x1i i rfl v ?_|refine RowK.mk i (ws.map eW) (by omega) y (by simp) ?_|(refine Zm 0 i 0 false (ws'.map eW) (S:=fun c=>∃b,c=.bool b) (.row (.p (Sub.refl _) .nil)) a rfl y (by omega) (fun h=>by cases h) (fun l' H' hh=>by obtain⟨⟨b,hb⟩,hH⟩:=hh;exact⟨_,hb,⟨b,rfl⟩,hH⟩) (by rw[x0j,x0j,M]) ?_;rintro _ ⟨b,rfl⟩));conv=>whnf)|(apply bD<;>intro _<;>first|omega|conv=>whnf)|(apply bE<;>intro _<;>first|omega|conv=>whnf)|(apply bN<;>intro _<;>conv=>whnf)|(apply bB<;>intro _<;>conv=>whnf)|(refine x0h ?_ ?_<;>conv=>whnf))
   all_goals first
    |(exfalso;omega)
    |exact⟨j+1,t,by omega,Le.of_eq (by rw[Q,Y];rfl)⟩
  .have n:fs.take j=fs:=x1w t;rw[n];have L:(eWm rows).set i ((HK w fs).map eW)=eWm (rows.set i (HK w fs)):=by unfold eWm;rw[x2y]
   rw[L,g];conv=>whnf
   repeat' (first|((first|(refine iM fun _=>?_)|refine dA ?_|refine x0h rfl ?_|refine aD ?_|refine aR ?_|refine bP ?_|(refine iA fun _=>?_)|refine IdxK.xs (by omega) ?_|refine QX (by omega) ?_|(refine ByteK.at (by omega) ?_)|refine wI ?_);conv=>whnf)|(apply bD<;>intro _<;>first|omega|conv=>whnf)|(apply bE<;>intro _<;>first|omega|conv=>whnf)|(apply bN<;>intro _<;>conv=>whnf)|(apply bB<;>intro _<;>conv=>whnf))
   all_goals first
    |(exfalso;omega)
    |exact⟨i+1,v,by omega,Le.of_eq rfl⟩
 .obtain rfl:i=l.length:=by omega
  have n:Es w l l.length=l.map (HK w):=by unfold Es;rw[x5o,x5s];simp
  rw[n];conv=>whnf
  repeat' (first|((first|(refine iM fun _=>?_)|refine dA ?_|refine x0h rfl ?_|refine aD ?_|refine aR ?_|refine bP ?_|(refine iA fun _=>?_)|refine IdxK.xs (by omega) ?_|refine QX (by omega) ?_|(refine ByteK.at (by omega) ?_)|refine wI ?_);conv=>whnf)|(apply bD<;>intro _<;>first|omega|conv=>whnf)|(apply bE<;>intro _<;>first|omega|conv=>whnf)|(apply bN<;>intro _<;>conv=>whnf)|(apply bB<;>intro _<;>conv=>whnf))
  all_goals exact⟨_,.tup (cs:=[LR (l.map (HK w)),.tt]) rfl (fun q u c d A=>by
   match q,d,A with
   |0,d,A=>cases d;cases A;exact .mat rfl (by unfold eWm;simp)
   |1,d,A=>cases d;cases A;exact .p (Sub.refl _)
   |q+2,d,_=>simp at d),rfl⟩
theorem RepE.drop{vs:List Value}(h:RepE σ sz es vs)(k:Nat):RepE σ sz (es.drop k) (vs.drop (k*sz)):=by
 refine⟨by rw[x3w,x3w,h.len,Nat.sub_mul],fun i e l=>?_,fun i e j c l m=>?_⟩
 .rw [x2g]at l;exact h.size _ e l
 .rw [x2g]at l;obtain⟨u,q,hr⟩:=h.rep _ e j c l m;exact⟨u,by rw[x2g,<-x3o,<-x3q];exact q,hr⟩
def Hs{β:Lab}{w:World}{l:TyI}{xs:List AV}(t ty:TypeId)(ht:P.underlying t=some (.slice e))(hie:TyOK P e l)(hz:l.zero.cells.size=l.size)(hown:(Chunk.own e l.size es).holds σ β w k){off n:Nat}(hoff:0<off)(hn:off+n=es.length){v:Value}(hv:RepL σ β (.hd k off n) v){x:Value}{h:List Value}{M:Addr}{c:Nat}(hx:x=.slice (some M) xs.length c)(a:∀(j:Nat)(u:Value),h[j]?=some u->w.cell? (M.add j)=some u)(r:RepE σ l.size xs h)(h1:∀u∈h,u.oneCell'=true)(hxs:0<xs.length)(O:n+xs.length<=maxLen)(B:(n+xs.length)*l.bytes<=140737488355328)(hlt:∀i,β k=some i->∀b,i.has b->b<w.heap.size):
  ∃v' w' i',(Builtin.append_ #[t,t] ty #[v,x]).run P w=.ok v' w'/\Frm (fun b=>∃i,β k=some i/\i.has b) w w'/\
   (∀i,i'=some i->∀b,i.has b->b<w'.heap.size/\((∃i0,β k=some i0/\i0.has b)\/w.heap.size<=b))/\
   (((Chunk.own e l.size (es++xs)).holds σ (β.set k i') w' k/\RepL σ (β.set k i') (.hd k off (n+xs.length)) v')\/
     ((Chunk.own e l.size (es.drop off++xs)).holds σ (β.set k i') w' k/\RepL σ (β.set k i') (.hd k 0 (n+xs.length)) v')):=by
 obtain⟨fi,Q,d,hfb,hfz⟩:=hie.getInfo;have g:∀i':Option BInfo,(β.set k i') k=i':=fun i'=>by simp[Lab.set]
 have Y:(n+xs.length:Nat)<=(9223372036854775807:Int):=by simp only[maxLen]at O;omega
 rcases ZI.1 hown with⟨hb0,rfl⟩|⟨i,vs,D,y,hh,hvs,hlen,G,hE⟩
 .simp at hn;omega
 rcases hv.hdI with⟨U,_⟩|⟨i',o,U,hl,F,hvv⟩
 .rw [D]at U;cases U
 rw[D]at U;cases U;subst hx hvv;have E:=r.len;by_cases J:n+xs.length<=i.cap-off
 .have hoo:o=off*l.size:=by
   rcases F with F|F
   .rw [<-y];exact F
   .omega
  subst hoo;have hrm:es.length+xs.length<=i.cap:=by omega
  have e1:off*l.size+n*l.size=es.length*l.size:=by rw[<-x3q,hn]
  have R:off*l.size+n*l.size+h.length<=vs.size:=by rw[e1,E,hvs,<-x3q];exact x2z _ hrm
  have hr:(Builtin.append_ #[t,t] ty #[.slice (some ⟨i.blk,off*l.size,none⟩) n (i.cap-off),.slice (some M) xs.length c]).run P w =
    .ok (.slice (some ⟨i.blk,off*l.size,none⟩) (n+xs.length) (i.cap-off)) (w.setRow i.blk (vs.toList.take (off*l.size+n*l.size)++h++vs.toList.drop (off*l.size+n*l.size+h.length)).toArray):=by
   have hf:=run_firstCells_some (P:=P) w fi.size xs.length M xs.length c h (by rw[d];exact E) a;rw[d]at hf;have hst:=run_storeCells_at P i.blk (off*l.size+n*l.size) e h 0 vs w hh (by simpa using R) h1;simp only[x5t]at hst;simp[Builtin.append_,run_underlying ht,sizeOf,typeInfo,Q,Builtin.lenOf,J,hf,JX,d,hst]
  have A:β.set k (some i)=β:=by funext j;unfold Lab.set;split<;>simp_all
  refine⟨_,_,some i,hr,⟨rfl,rfl,rfl,x0o _,by simp,fun b _ hnb=>setRow_other w i.blk b _ fun he=>hnb ⟨i,D,.inl he.symm⟩⟩,fun i1 h1 b A=>?_,.inl ⟨?_,?_⟩⟩
  .cases h1;exact⟨by simpa using hlt i D b A,.inl ⟨i,D,A⟩⟩
  .rw [A,e1];refine ZI.2 (.inr ⟨i,_,D,y,setRow_heap w i.blk vs _ e _ hh,?_,by simpa using hrm,G,?_⟩)
   .simp only[x4x,x0g,x1f,x3w,x3x];omega
   .have q:=hE.append r;rw[show(vs.toList.take (es.length*l.size)++h++vs.toList.drop (es.length*l.size+h.length)).toArray.toList.take ((es++xs).length*l.size)=vs.toList.take (es.length*l.size)++h by
     rw[<-q.len];simp only[List.take_left]]
    exact q
  .rw [A];exact .hd k off (n+xs.length) i (off*l.size) D (by omega) (.inl (by rw[y]))
 .obtain ⟨m,hO,C⟩ : ∃m,RepE σ l.size (es.drop off) m/\∀(j:Nat)(u:Value),m[j]?=some u->w.cell? ((⟨i.blk,o,none⟩:Addr).add j)=some u:=by
   refine⟨_,hE.drop off,fun j u L=>?_⟩;have hu0:=L;rw[x2g,x1e]at L;rcases F with F|F
   .rw [JX,F,y];split at L
    .simp only[World.cell?,hh];simpa using L
    .cases L
   .have hn0:n=0:=by omega
    split at L
    .rename_i V;have:es.length=off:=by omega
     rw[this]at V;omega
    .cases L
  have H:(es.drop off).length=n:=by rw[x3w];omega
  have hr:=run_append_grow (P:=P) w t ty e fi l.zero ht Q hfz ⟨i.blk,o,none⟩ n (i.cap-off) m (by rw[d,hO.len,H]) C M xs.length c h (by rw[d];exact E) a (by omega) Y (by rw[hfb];exact growslice_fits (by omega) B);have I:=grownCap_ge w (n+xs.length) (i.cap-off) e;have z:=grownCap_le_maxLen w (n+xs.length) (i.cap-off) e O;generalize grownCap w (n+xs.length) (i.cap-off) e=cap at I z hr;have hsz:(w.drew.alloc (.cells (m.toArray++h.toArray++Builtin.zeroCells l.zero.cells (cap-(n+xs.length))) e)).heap.size=w.heap.size+1:=by
   show(w.heap.push _).size=_;simp
  have q:=hO.append r;have Z:(w.drew.alloc (.cells (m.toArray++h.toArray++Builtin.zeroCells l.zero.cells (cap-(n+xs.length))) e)).heap[w.heap.size]?=some (.cells (m.toArray++h.toArray++Builtin.zeroCells l.zero.cells (cap-(n+xs.length))) e (0,0)):=heap_alloc_new w.drew _;refine⟨_,_,some ⟨w.heap.size,cap,l.size,[],z⟩,hr,⟨rfl,rfl,rfl,Nat.le_succ _,by omega,fun b A _=>by first|exact heap_alloc_old w.drew _ b A|exact heap_alloc_old w.drew _ A⟩,fun i D b A=>?_,.inr ⟨ZI.2 (.inr ⟨⟨w.heap.size,cap,l.size,[],z⟩,_,g _,rfl,Z,?_,by rw[x0g,H];exact I,z,?_⟩),?_⟩⟩
  .cases D;rw[MD]at A;exact⟨by omega,.inr (by omega)⟩
  .simp only[Array.size_append,x4x,size_zeroCells,hz,hO.len,E,H];rw[<-x3q,<-x3q];congr 1;omega
  .rw [show(m.toArray++h.toArray++Builtin.zeroCells l.zero.cells (cap-(n+xs.length))).toList.take ((es.drop off++xs).length*l.size)=m++h by
    rw[<-q.len];simp only[Array.toList_append];exact List.take_left]
   exact q
  .have:=x7w (σ:=σ) (β:=β.set k (some ⟨w.heap.size,cap,l.size,[],z⟩)) k 0 (n+xs.length) ⟨w.heap.size,cap,l.size,[],z⟩ 0 (g _) (by simpa using I) (.inl (by simp));simpa using this
def TX{T:Tab}(hT:TabOK P T){o:Oper}{x y:Operand}{t:TypeId}(hop:o.op=.call {callee:=.builtin .append,args:=#[x,y],argTypes:=#[t,t]}){off n:Nat}(L:QL s.sl x=.hd k off n)(D:0<off){i q:TyI}(ht:T.get t=some i)(hd:i.desc=.slice e)(hie:T.get e=some q)(hg:getH s.H k=some (.own e sz es))(hsz:sz=q.size)(hz:q.zero.cells.size=q.size)(d:0<q.size)(hn:off+n=es.length){xs:List AV}(hy:QL s.sl y=.p (.sl xs))(hxl:0<xs.length)(O:∀x∈xs,x.cells.length=q.size/\x.cells.all AV.one=true)(Z:n+xs.length<=maxLen)(hb:(n+xs.length)*q.bytes<=140737488355328)(r:q3f k <|Y7 s.sl k fun sl=>DY s.H k (.own e sz (es++xs)) fun H=>setD N sl o.dst (.hd k off (n+xs.length)) fun sl=>K ⟨sl,H⟩)(Y:q3f k <|Y7 s.sl k fun sl=>DY s.H k (.own e sz (es.drop off++xs)) fun H=>setD N sl o.dst (.hd k 0 (n+xs.length)) fun sl=>K ⟨sl,H⟩):OpK P N s o K:=by
 refine⟨fun σ β a w hr Q=>?_⟩;subst hsz;have M:=QZ hr.E x;rw[L]at M;have hu:=hT.of ht;rw[hd]at hu;have z:=QM hg;obtain⟨U,m,⟨rfl,rfl⟩,J⟩:=Tz hr (y:=y) (C:=fun ys m=>ys=xs/\m=xs.length) (sz:=q.size) (by unfold OA;rw[hy];exact⟨rfl,rfl⟩) d;obtain⟨news,A,hE⟩:=J rfl fun x L=>(O x L).1;have F:=hE.oneAll d fun x L=>(O x L).2;rcases A with⟨_,hnn⟩|⟨ad,c,A,g⟩
 .have:=hE.len;rw[hnn,x4s]at this;rcases Nat.mul_eq_zero.1 this.symm with h|h<;>omega
 obtain⟨v',w',i',I,B,hi',v⟩:=Hs (P:=P) t o.type hu (hT _ _ hie) hz (hr.heap.chunks k _ (QD hg)) D hn M A g hE F hxl Z hb (fun i hi b hb=>(hr.heap.apart k z i hi b hb).2);have fin:∀(es':List AV)(l:Nat),(Chunk.own e q.size es').holds σ (β.set k i') w' k->RepL σ (β.set k i') (.hd k l (n+U.length)) v'->(q3f k <|Y7 s.sl k fun sl=>DY s.H k (.own e q.size es') fun H=>setD N sl o.dst (.hd k l (n+U.length)) fun sl=>K ⟨sl,H⟩)->
   o.wp P a w (fun a' w'=>∃σ' β' s',K s'/\Rel N σ' β' s' a' w'/\Later σ β s.H w σ' β' s'.H w') Q:=fun es' l hch hv' u=>by
  obtain⟨hpk,u⟩:=Nv u;obtain⟨R,u,hs1⟩:=NI u;obtain⟨H1,u,hH1,hH2,hH3⟩:=HZ u;obtain⟨hh,hl⟩:=Pc hr.heap hpk z B hi' hH1 (fun j c hj hne=>by
   obtain⟨c0,r,rfl⟩:=hH2 j c hj hne;exact⟨Chunk.kill_free k c0,(hr.heap.chunks j c0 r).kill k⟩) (fun c hc=>by rw[hH3 c hc];exact hch)
  have G:Rel N σ (β.set k i') ⟨R,H1⟩ a w':=⟨hr.size,hr.defers,fun i=>by
   obtain⟨r,Y⟩:=hs1 i;have:RepL σ β (getS R i) (a.tmps.getD i undef):=by
    rcases r with r|r
    .rw [r];exact hr.E i
    .rw [r];exact .p (.any _)
   exact this.set i' Y,hh⟩
  obtain⟨sl,u,hr'⟩:=G.setD hv' u;refine XI (w':=w') ?_ ⟨σ,_,_,u,hr',hl⟩;simp[execOp,hop,resolve,invoke,builtin,I]
 rcases v with⟨g1,V⟩|⟨g1,V⟩
 .exact fin _ _ g1 V r
 .exact fin _ _ g1 V Y
section
variable {P:Program}{T:Tab}{N:Nat}{o:Oper}{K:St->Prop}{s:St}
end
section
variable {P:Program}{T:Tab}{N:Nat}{o:Oper}{s:St}{hr:Bool}
def setCell(b:Nat)(c:AV)(l:List (Nat×AV)):List (Nat×AV):=l.map fun x=>if x.1=b then(b,c)else x
end
def Kd{q:Nat}{c u:Chunk}(h:KP s k q c u K):∃v,K v/\KP s k q c u fun w=>w=v:=by
 unfold KP at h⊢;obtain⟨sl,y,_⟩:=WY (by rfl) h;have key:∀{f:LV->LV}{l:List (Nat×LV)}{K:List (Nat×LV)->Prop},Y8 f l K↔K (l.map fun x=>(x.1,f x.2)):=fun {f} l=>by
  induction l with
  |nil=>intro K;rfl
  |cons x r t=>intro K;simp only[Y8,XB,t,x1j]
 have n:∀{f:LV->LV}{c:Chunk}{H:Heap},∃H',∀K:Heap->Prop,Xa k q f c H K↔K H':=fun {f c} H=>by
  induction H with
  |nil=>exact⟨[],fun K=>Iff.rfl⟩
  | cons x r t=>
    obtain⟨H',m⟩:=t;obtain⟨j,d⟩:=x;simp only[Xa,Q8];cases j==q with
    |true=>exact⟨H',fun K=>by simp only[x1u];exact m _⟩
    | false=>
      cases j==k with
      |true=>exact⟨(j,c)::H',fun K=>by simp only[x1u,x1g];exact m _⟩
      |false=>exact⟨(j,d.mapL f)::H',fun K=>by simp only[x1g];exact m _⟩
 rw[key]at h;simp only[key];obtain⟨H',m⟩:=n (f:=LV.xkill k) (c:=c) (H:=s.H);rw[m]at h;exact⟨_,h,(m _).2 rfl⟩
theorem OpK.focus{T:Tab}(hT:TabOK P T){o:Oper}(t k a x:Nat){e e2:Nat}{rows:List (List AV)}{l:List Nat}{row:List AV}(L:WW x s=true)(F:getH s.H k=some (.ext (.mat e e2 sz rows l)))(v:rows[a]?=some row)(z:a∉l)(u:ZY k=false)(J:getS s.sl t=.ext k (.row a row.length))(h:KP s k x (.ext (.mat e e2 sz rows (a::l))) (.own e2 sz row) fun r=>opW P T N ⟨(t,.hd x 0 row.length)::r.sl,r.H⟩ o K):OpK P N s o K:=by
 obtain⟨r,h,D⟩:=Kd h;refine⟨fun σ β B w hr Q=>?_⟩;obtain⟨β',m,I,A,q⟩:=Rp hr L F v z u D;have b:Rel N σ β' ⟨(t,.hd x 0 row.length)::r.sl,r.H⟩ B w:=⟨m.size,m.defers,fun i=>by
  show RepL σ β' (getS ((t,.hd x 0 row.length)::r.sl) i) _;simp only[getS];cases G:t==i with
  | true=>
    have:t=i:=by simpa using G
    subst this;have g:=hr.E t;rw[J]at g;exact q _ g
  |false=>exact m.E i,m.heap⟩
 exact Oper.wp_mono (fun O w' ⟨σ',β'',M,C,c,y⟩=>⟨σ',β'',M,C,c,I.trans y⟩) (Yd hT h b Q)
theorem Rel.layI{β:Lab}{s':St}{a:Act}{w:World}(hr:Rel N σ β s a w){i:BInfo}(I:β k=some i)(O:k∈s.H.map (·.1))(y:∀b,i.has b->∃c e u,w.heap[b]?=some (.cells c e u))(R:∀τ:Mem,σ.le τ->(∀b c e u,i.has b->w.heap[b]?=some (.cells c e u)->τ b=some c)->∀j v,RepL σ β (getS s.sl j) v->RepL τ β (getS s'.sl j) v)(C:∀τ:Mem,σ.le τ->∀j c',(j,c')∈s'.H->j≠k/\∃c,(j,c)∈s.H/\(c.holds σ β w j->c'.holds τ β w j))(Q:(s'.H.map (·.1)).Nodup):
  ∃σ' β',Rel N σ' β' s' a w/\Later σ β s.H w σ' β' s'.H w:=by
 let τ:Mem:=fun b=>@ite _ (i.has b) (Classical.propDecidable _) (match w.heap[b]?with
  |some (.cells c _ _)=>some c
  |_=>none) (σ b)
 have x:∀b c e u,i.has b->w.heap[b]?=some (.cells c e u)->τ b=some c:=fun b c e u l F=>by
  show @ite _ (i.has b) (Classical.propDecidable _) _ _=_;rw[if_pos l,F]
 have q:∀b,¬i.has b->τ b=σ b:=fun b l=>by
  show @ite _ (i.has b) (Classical.propDecidable _) _ _=_;rw[if_neg l]
 have t:σ.le τ:=fun b c l=>by
  rw[q b]
  .exact l
  .intro J;rw[(hr.heap.apart k O i I b J).1]at l;cases l
 have m:∀j∈s'.H.map (·.1),j≠k/\j∈s.H.map (·.1):=fun j r=>by
  obtain⟨⟨G,c'⟩,hm,rfl⟩:=x0n.1 r;obtain⟨A,c,z,_⟩:=C τ t G c' hm;exact⟨A,x0n.2 ⟨_,z,rfl⟩⟩
 refine⟨τ,β,⟨hr.size,hr.defers,fun j=>R τ t x j _ (hr.E j),⟨fun b c l=>?_,fun j c' r=>?_,Q,fun j r U D b l=>?_,fun j r G L=>hr.heap.inj j (m j r).2 G (m G L).2⟩⟩,t,Frm.refl _ _,fun b l B=>.inl ?_,fun b ⟨j,r,M⟩=>.inl ⟨j,(m j r).2,M⟩,fun _ _ _=>rfl⟩
 .by_cases g:i.has b
  .obtain ⟨V,e,u,F⟩:=y b g;rw[x b V e u g F]at l;cases l;exact⟨_,_,F⟩
  .rw [q b g]at l;exact hr.heap.mem b c l
 .obtain ⟨_,c,z,Y⟩:=C τ t j c' r;exact Y (hr.heap.chunks j c z)
 .have A:=m j r;have z:=hr.heap.apart j A.2 U D b l;refine⟨?_,z.2⟩;rw[q b fun Z=>A.1 (hr.heap.inj j A.2 k O U i D I b l Z)];exact z.1
 .by_cases g:i.has b
  .exact ⟨k,O,i,I,g⟩
  .rw [q b g]at B;exact absurd l B
def Eo{sl z:List (Nat×LV)}{H H':Heap}{e2:TypeId}{rows:List (List AV)}(hg:getH H k=some (.ext (.mat e e2 sz rows [])))(O:∀i,getS z i=(getS sl i).kill k\/(getS sl i=.hd k 0 rows.length/\getS z i=.p (.sl (rows.map .sl))))(h:(H'.map (·.1)).Sublist (H.map (·.1)))(hH:∀j c',(j,c')∈H'->j≠k/\(j,c')∈H/\c'.kill k=c'):Le N ⟨sl,H⟩ ⟨z,H'⟩:=fun σ β a w hr=>by
 have R:=QM hg;rcases hr.heap.chunks k _ (QD hg)with⟨hb0,hr0⟩|⟨i,vs,hi,h1,h2,h3,h4,h5,h6,h7,h8⟩
 .refine ⟨σ,β,⟨hr.size,hr.defers,fun j=>?_,⟨hr.heap.mem,fun j c' l=>?_,h.nodup hr.heap.nodup,fun j l=>hr.heap.apart j (h.subset l),fun j l j' hj'=>hr.heap.inj j (h.subset l) j' (h.subset hj')⟩⟩,Mem.le_refl σ,Frm.refl _ _,fun _ h0 h1=>absurd h0 h1,fun b ⟨j,l,r⟩=>.inl ⟨j,h.subset l,r⟩,fun _ _ _=>rfl⟩
  .show RepL σ β (getS z j) _;have y:=hr.E j;rcases O j with G|⟨g1,D⟩
   .rw [G];exact y.kill k
   .rw [D];have y:RepL σ β (getS sl j) _:=y;rw[g1]at y;rcases y.hdI with⟨_,_,_,G⟩|⟨i,_,R,_⟩
    .rw [G,hr0];exact .p .nilsl
    .rw [hb0]at R;cases R
  .exact hr.heap.chunks j c' (hH j c' l).2.1
 .have L:∀(b c C:Nat),i.subs[C]?=some (some (b,c))->∃ws,w.heap[b]?=some (.cells ws e2 (0,0)):=fun b c C M=>by
   have ha:C<rows.length:=by rw[<-h6];exact(x0m.1 M).1
   rcases(h8 C _ (x0u ha)).2 (by simp)with⟨g,_⟩|⟨b',c',ws,g,_,Q,_⟩
   .rw [M]at g;cases g
   .rw [M]at g;cases g;exact⟨ws,Q⟩
  refine hr.layI hi R (fun b Z=>?_) (fun τ d hτ j v y=>?_) (fun τ d j c' l=>?_) (h.nodup hr.heap.nodup)
  .rcases Z with rfl|⟨c,Z⟩
   .exact ⟨_,_,_,h2⟩
   .obtain ⟨C,Y,M⟩:=x2m.1 Z;obtain⟨ws,hw⟩:=L b c C (by rw[x0u Y,M]);exact⟨_,_,_,hw⟩
  .show RepL τ β (getS z j) v;have y:RepL σ β (getS sl j) v:=y;rcases O j with G|⟨g1,D⟩
   .rw [G];exact(y.kill k).mono d
   .rw [D];rw[g1]at y;rcases y.hdI with⟨t,_⟩|⟨i',oo,t,hl,U,rfl⟩
    .rw [hi]at t;cases t
    .rw [hi]at t;cases t;have hoo:oo=0:=by
      rcases U with U|U
      .simpa using U
      .omega
     subst hoo;have B:∀(m:Nat)(x:AV),(rows.map AV.sl)[m]?=some x->∃row,rows[m]?=some row/\x=.sl row:=fun m x n=>by
      rw[x0d]at n;cases hq:rows[m]?with
      |none=>rw[hq]at n;cases n
      |some row=>rw[hq]at n;cases n;exact⟨row,rfl,rfl⟩
     have q:∀(m:Nat)(row:List AV),rows[m]?=some row->∃u,vs[m]?=some u/\Rep τ (.sl row) u:=fun m row hm=>by
      rcases(h8 m row hm).2 (by simp)with⟨g,rfl,Q⟩|⟨b,c,ws,g,q2,Q,q4,q5,q6,q7⟩
      .exact ⟨_,Q,.nilsl⟩
      .refine ⟨_,q2,.sl row b 0 c sz ws (fun m j=>(ws[m*sz+j]?).getD undef) (hτ b ws _ _ (.inr ⟨c,x0i g⟩) Q) q5 q6 (fun m x n=>(q7 m x n).1) (fun m x j c' n l=>?_) fun m x j c' n l=>?_⟩
       .obtain ⟨u,r4,_⟩:=(q7 m x n).2 j c' l;simp[r4]
       .obtain ⟨u,r4,r5⟩:=(q7 m x n).2 j c' l;simpa[r4]using r5.mono d
     have I:Rep τ (.sl (rows.map .sl)) (.slice (some ⟨i.blk,0,none⟩) (rows.map AV.sl).length i.cap):=by
      refine .sl (rows.map .sl) i.blk 0 i.cap 1 vs (fun m j=>(vs[m*1+j]?).getD undef) (hτ _ _ _ _ i.has_blk h2) (by simpa using h4) h5 (fun m x n=>?_) (fun m x j c' n l=>?_) fun m x j c' n l=>?_
      .obtain ⟨row,_,rfl⟩:=B m x n;rfl
      .obtain ⟨row,F,rfl⟩:=B m x n;obtain⟨u,V,g5⟩:=q m row F;have A:j=0:=by
        have:=(x0m.1 l).1;simpa[AV.cells]using this
       subst A;simp[V]
      .obtain ⟨row,F,rfl⟩:=B m x n;obtain⟨u,V,g5⟩:=q m row F;have A:j=0:=by
        have:=(x0m.1 l).1;simpa[AV.cells]using this
       subst A;cases l;simpa[V]using g5
     have:RepL τ β (.p (.sl (rows.map .sl))) (.slice (some ⟨i.blk,0,none⟩) (rows.map AV.sl).length i.cap):=.p I;simpa using this
  .obtain ⟨g1,D,F⟩:=hH j c' l;refine⟨g1,c',D,fun J=>?_⟩;have:=(J.kill k).mono d fun _ _ _ _=>rfl
   rwa[F]at this
def AC{α:Type}{l m:List α}(h:l.take j=m.take j)(q:j<l.length)(r:j<m.length)(n:l[j]=m[j]):l.take (j+1)=m.take (j+1):=by
 rw[x0a q,x0a r,h,n]
def ED{α:Type}{l m:List α}(h:l.take j=m.take j)(n:l.length<=j)(q:m.length<=j):l=m:=by
 rwa[x1w n,x1w q]at h
def PG(l m:List Int):SpecP prog 44 [QI l,QI m] (fun r=>r=.bool (decide (l=m))):=by
 refine sB FQ func44 rfl call44 ?_;conv=>whnf
 have u:(l.map (AV.int .i64)).length=l.length:=x0j _;have v:(m.map (AV.int .i64)).length=m.length:=x0j _;repeat' (first|(refine iM fun _=>?_;conv=>whnf)|(apply bE<;>intro _<;>first|omega|conv=>whnf))
 all_goals first
  |exact RetK.ff (x2h fun h=>by subst h;omega)
  |skip
 have t:l.length=m.length:=by omega
 refine LoopK.inv QK (fun j:Nat=>⟨[(0,.p (QI l)),(1,.p (QI m)),(12,.p (.int .i64 (l.map (AV.int .i64)).length)),(13,.p (.int .i64 j))],[]⟩) (fun j=>j<=l.length/\l.take j=m.take j) (fun j=>l.length-j) 0 (Le.of_eq rfl) ⟨x0l _,rfl⟩ ?_;rintro j ⟨w,q⟩;rcases x0t j l.length with n|n
 .conv=>whnf
  repeat' (first|((first|refine dA ?_|(refine iA fun _=>?_)|refine wI ?_);conv=>whnf)|(apply bD<;>intro _<;>first|omega|conv=>whnf)|(apply bE<;>intro _<;>first|omega|conv=>whnf))
  all_goals first
   |exact RetK.ff (x2h fun h=>by subst h;simp_all)
   |exact⟨j+1,⟨by omega,AC q n (by omega) (by simp_all)⟩,by omega,Le.of_eq rfl⟩
 .conv=>whnf
  repeat' (apply bD<;>intro _<;>first|omega|conv=>whnf)
  exact RetK.tt (x2a (ED q n (by omega)))
def Dm(w:Way)(f:Pr)(n:Nat)(u:w.n=n)(q:w.p.A[w.j]?=some f)(m:cntP w.p.A<=1000)(t:n<=5000)(l:List Step)(h:l.length<=1000000):SpecP prog 159 [.ip w.cells,eSteps l] (fun r=>r=VV (QS n (l.map (ixP w.p w.j f w.n)))):=by
 refine sB FG func159 rfl call159 ?_;conv=>whnf
 repeat' ((first|refine dA ?_|(refine CallK.pure (YR w f q m (by omega) l h) (.cons (Sub.refl _) (.cons (Sub.refl _) .nil)) ?_;rintro _ rfl)|(refine CallK.pure (Ua n t (l.map (ixP w.p w.j f w.n)) (by rw[x0j];exact h)) (.cons (Sub.int u) (.cons (Sub.refl _) .nil)) ?_;rintro _ rfl));conv=>whnf)
 exact RetK.p rfl
def Dl(p:Pg)(j:Nat)(f:Pr)(n:Nat)(h:AV)(q:List AV)(u:p.A[j]?=some f)(t:cntP p.A<=1000)(v:n<=5000)(l:List Step)(m:l.length<=1000000):
  SpecH prog 159 [.ptr 1000 0,.p (eSteps l)] (Om p j n h q) (fun r H=>r=.p (VV (QS n (l.map (ixP p j f n))))/\H=Om p j n h q):=by
 refine sH FG func159 rfl call159 ?_;conv=>whnf
 refine DrawK.of QK mixed (.cons 0 false (.cons 1 false (.cons 2 false (.cons 4 false (.cons 5 false (.fork 3 (.cons 6 true (.cons 7 true (.cons 8 true .nil))) 6 (.cons 3 true (.cons 7 true (.cons 8 true .nil))))))))) (by kernel_rfl) ?_;conv=>whnf
 repeat' (first|(refine CallK.pure (Ua n v (l.map (ixP p j f n)) (by rw[x0j];exact m)) (.cons (Sub.refl _) (.cons (Sub.refl _) .nil)) ?_;rintro _ rfl;conv=>whnf)|(refine x0h ?_ ?_<;>conv=>whnf)|(refine CallK.heap [(1000,1000),(2000,2000)] 0 (by repeat' (first|exact x1m|refine x1x ?_ ?_|exact x1v _|exact x1d Sub.nils|exact x1d (Sub.tt rfl)|exact x1d (Sub.ff rfl)|exact x1d (Sub.int (by omega)))) (by refine x0e (j:=1000) rfl rfl ?_ ?_;exact CSub.refl _;refine x0e (j:=2000) rfl rfl ?_ ?_;exact CSub.refl _;exact x1l) (Db p j f n h q u t (by omega) l m) rfl rfl ?_;rintro l' H' ⟨es,rfl,rfl,rfl⟩;conv=>whnf))
 all_goals exact⟨_,x1v _,rfl,rfl⟩
def Gn{n:Nat}{N:List (List Int)}(h:XK n N){a:Nat}{b:Int}(u:0<=b/\b<n):XK n (Gk N a b):=by
 unfold Gk;refine⟨by rw[x3g];exact h.1,fun r hr x l=>?_⟩;rcases x4j hr with hr|rfl
 .exact h.2 r hr x l
 .unfold W7 at l;have t:∀y∈N.getD a [],0<=y/\y<n:=fun y q=>by
   rcases x0t a N.length with m|m
   .rw [x0y,x0u m]at q;exact h.2 _ (x0s m) y q
   .rw [x0y,x2f m]at q;cases q
  rcases x0r.1 l with l|l
  .exact t x (x6c l)
  .rcases x0p.1 l with rfl|l
   .exact u
   .exact t x (List.mem_of_mem_drop l)
def q0j{n:Nat}{g:List (List Int)×List (List Int)}(h:XK n g.1/\XK n g.2)(e:Int×Int):XK n (Dc n g e).1/\XK n (Dc n g e).2:=by
 rw[Va,K4];cases l:ZK n e.1&&ZK n e.2 && !(g.1.getD e.1.toNat []).contains e.2
 .exact h
 .simp only[x1z]at l;exact⟨Gn h.1 (XO l.1.2),Gn h.2 (XO l.1.1)⟩
def I7{n:Nat}(l:List (Int×Int)):∀{g:List (List Int)×List (List Int)},XK n g.1/\XK n g.2->XK n (l.foldl (Dc n) g).1/\XK n (l.foldl (Dc n) g).2:=by
 induction l with
 |nil=>intro g h;exact h
 |cons e r m=>intro g h;exact m (q0j h e)
def JW(n:Nat)(l:List (Int×Int)):XK n (QS n l).1/\XK n (QS n l).2:=by
 have h:XK n (List.replicate n []):=⟨by simp,fun r hr=>by rw[x3r hr];simp⟩;exact I7 l ⟨h,h⟩
theorem Wr.eq{n m:Int}{K:Int->Prop}(h:n=m)(l : -9223372036854775808<=m)(q:m<=9223372036854775807)(r:K m):Wr .i64 n K:=by
 subst h;exact Wr.i64 l q r
theorem W1:∀(a:Step)(l:List Step),(XW a l).length<=l.length
 |_,[]=>x0o _
 | a,b::r=>by
   have:=W1 b r;rw[XW];cases ZU b a<;>simp<;>omega
def N8(l:List Step):(WC l).length<=l.length:=by
 unfold WC;rw[<-Z9 (l:=l)];cases YB l with
 |nil=>exact x0o _
 | cons a r=>
   have:=W1 a r;simp[NB];omega
def Ci(h:Sheet)(f:Pr)(it:Item):(goesI h f it).length<=2:=by
 unfold goesI;split<;>(try split)<;>(try split)<;>(try split)<;>(try split)<;>(try split)<;>simp
theorem W5{α β:Type}{g:α->List β}(h:∀x,(g x).length<=2):∀l:List α,(l.flatMap g).length<=2*l.length
 |[]=>by simp
 | a::r=>by
   have:=W5 h r;have:=h a;rw[x1o,x0g,x1r];omega
def Wz(p:Pg)(j:Nat)(f:Pr):(QP p j f).length<=1+2*QW f.body:=by
 unfold QP;have:=W5 (g:=fun it=>(goesI (sheetOf p) f it).map (Step.mk it.s.id · 1)) (fun it=>by rw[x0j];exact Ci _ _ _) (itL j 0 (-1) 0 (QR p.A j) f.body);rw[ZH]at this;rw[x1r];omega
theorem Fp:∀(i:Nat)(l:List Bool)(a:Int),a∈FW i l->(i:Int)<=a/\a<i+l.length
 |_,[],_,h=>by rw[FW]at h;cases h
 | i,b::r,a,h=>by
   rw[FW]at h;have key:a∈FW (i+1) r->(i:Int)<=a/\a<i+(b::r).length:=fun h=>by
    have:=Fp (i+1) r a h;simp only[x1r];omega
   cases b with
   |false=>exact key h
   | true=>
     rcases x0p.1 h with rfl|h
     .simp only[x1r];omega
     .exact key h
def Ss(n:Nat)(l:List Int):wkInv n (DL n l):=by
 unfold DL;have:∀(l:List Int)(st:List Bool×List Int),wkInv n st->wkInv n (l.foldl (fun st a=>bif ZK n a then KU st a else st) st):=fun l=>by
  induction l with
  |nil=>intro st h;exact h
  | cons a r q=>
    intro st h;refine q _ ?_;show wkInv n (bif ZK n a then KU st a else st);cases m:ZK n a with
    |true=>exact Qh h (XO m)
    |false=>exact h
 exact this l _ (MH n)
def Sj{n:Nat}{rows:List (List Int)}(h:XK n rows)(l:List Int):(ZN rows l).length=n:=by
 unfold ZN;rw[h.1];exact(DS h _ _ (Ss n l)).1
def JP(l:List Int)(b:List Bool):List Bool:=l.foldl (fun b a=>b.set a.toNat true) b
def QQ(p:Pg)(j:Nat)(f:Pr):Way:=
 let h:=WC (QP p j f);let n:=QW f.body+2
 ⟨p,j,n,h,JP (FW 0 (ZN (QS n (h.map (ixP p j f n))).1 [0])) (List.replicate n false)⟩
def Ep(p:Pg)(j:Nat)(f:Pr)(g:p.A[j]?=some f)(I:cntP p.A<=1000)(M:∀it∈itsOf p j f,it.s.kind=7->1<=it.loop/\it.loop<=(sheetOf p).l.length)(E:∀s∈QP p j f,okSt s):SpecP prog 93 [.ip (sheetOf p).cells,.int .i64 j] (fun r=>r=.ip (QQ p j f).cells):=by
 refine sB SJ func93 rfl call93 ?_;conv=>whnf
 obtain⟨_,_,_,J,G⟩:=QJ p;obtain⟨C,d,O,_⟩:=G j f g;repeat' ((first|refine dA ?_|refine x0h rfl ?_|refine aR ?_|(refine IdxK.at rfl (VS C) rfl ?_)|(refine IdxK.at rfl (VS d) rfl ?_)|refine cP (Wt p j f g I M E) ?_|refine Wr.eq (m:=QW f.body) (by omega) (by omega) (by omega) ?_|refine Wr.eq (m:=(QW f.body+2:Nat)) (by omega) (by omega) (by omega) ?_|refine x5r (QW f.body+2) rfl (by show 1*_<=140737488355328;omega) (by unfold maxLen;omega) ?_);conv=>whnf)
 have F:(WC (QP p j f)).length<=1000000:=by have:=N8 (QP p j f);have:=Wz p j f;omega
 refine CallK.heap [(1000,0),(2000,1)] 0 (by repeat' (first|exact x1m|refine x1x ?_ ?_|exact x1v _|exact x1d Sub.nils|exact x1d (Sub.tt rfl)|exact x1d (Sub.ff rfl)|exact x1d (Sub.int (by omega)))) (x0e (j:=0) rfl rfl (CSub.of_eq (by rw[x2d];rfl)) (x0e (j:=1) rfl rfl (CSub.refl _) x1l)) (Dl p j f (QW f.body+2) (eSteps (WC (QP p j f))) (List.replicate (QW f.body+2) .ff) g I (by omega) (WC (QP p j f)) F) rfl rfl ?_;rintro l' H' ⟨rfl,rfl⟩;conv=>whnf
 obtain⟨t,_⟩:=JW (QW f.body+2) ((WC (QP p j f)).map (ixP p j f (QW f.body+2:Nat)));repeat' ((first|(refine iM fun _=>?_)|refine x0h rfl ?_|refine aD ?_|refine bP ?_|(refine CallK.pure (Xm (QW f.body+2) (by omega) _ t [0] (by simp)) (.cons (Sub.refl _) (.cons (Sub.refl _) .nil)) ?_;rintro _ rfl));conv=>whnf)
 have u:∀a∈FW 0 (ZN (QS (QW f.body+2) ((WC (QP p j f)).map (ixP p j f (QW f.body+2:Nat)))).1 [0]),0<=a/\a<(QW f.body+2:Nat):=fun a H=>by
  have:=Fp _ _ _ H;rw[Sj t]at this;omega
 have D:QQ p j f=⟨p,j,(QW f.body+2:Nat),WC (QP p j f),JP (FW 0 (ZN (QS (QW f.body+2) ((WC (QP p j f)).map (ixP p j f (QW f.body+2:Nat)))).1 [0])) (List.replicate (QW f.body+2) false)⟩:=rfl;rw[D];have B:((FW 0 (ZN (QS (QW f.body+2) ((WC (QP p j f)).map (ixP p j f (QW f.body+2:Nat)))).1 [0])).map (AV.int .i64)).length<=9223372036854775807:=by assumption
 generalize FW 0 (ZN (QS (QW f.body+2) ((WC (QP p j f)).map (ixP p j f (QW f.body+2:Nat)))).1 [0])=lst at u B⊢;have Q:(lst.map (AV.int .i64)).length=lst.length:=x0j _;refine LoopK.inv QK (fun x:Nat×List Bool=>⟨[(5,.ptr 0 0),(46,.p (QI lst)),(47,.p (.int .i64 (lst.map (AV.int .i64)).length)),(48,.p (.int .i64 x.1))],[(0,.obj 127 [.p (.ip (sheetOf p).cells),.p (.int .i64 j),.p (.int .i64 (QW f.body+2:Nat)),.p (eSteps (WC (QP p j f))),.hd 1 0 (QW f.body+2)]),(1,.own 4 1 (x.2.map bv))]⟩)
  (fun x=>x.1<=lst.length/\x.2.length=QW f.body+2/\JP (lst.drop x.1) x.2=JP lst (List.replicate (QW f.body+2) false)) (fun x=>lst.length-x.1) (0,List.replicate (QW f.body+2) false)
  (Le.of_eq (by simp only[x3b,x2d];rfl)) ⟨x0l _,by simp,rfl⟩ ?_
 rintro⟨m,b⟩ ⟨L,w,q⟩;simp only at L w q⊢;rcases x0t m lst.length with v|v;rotate_left 1
 .rw [x1q v]at q;rw[<-q];conv=>whnf
  repeat' (apply bD<;>intro _<;>first|omega|conv=>whnf)
  exact⟨_,.ptr (cs:=[.ip (sheetOf p).cells,.int .i64 j,.int .i64 (QW f.body+2:Nat),eSteps (WC (QP p j f)),.sl (b.map bv)]) rfl rfl (fun i x c h n=>by
   match i,h,n with
   |0,h,n=>cases h;cases n;exact .p (Sub.refl _)
   |1,h,n=>cases h;cases n;exact .p (Sub.refl _)
   |2,h,n=>cases h;cases n;exact .p (Sub.refl _)
   |3,h,n=>cases h;cases n;exact .p (Sub.refl _)
   |4,h,n=>cases h;cases n;exact .hd rfl (by rw[x0j,w])),rfl⟩
 rw[x1c v]at q;have H:=u _ (x0s v);have y:lst[m].toNat<b.length:=by omega
 have z:(b.map bv)[lst[m].toNat]?=some (bv b[lst[m].toNat]):=by simp[y]
 conv=>whnf
 repeat' (first|((first|refine x0h rfl ?_|(refine iA fun _=>?_)|refine wI ?_|refine x1i lst[m].toNat (by omega) (by omega) ?_|refine x3p lst[m].toNat 0 (bv b[lst[m].toNat]) .tt (by omega) z (x0o 1) (by cases b[lst[m].toNat]<;>rfl) ?_);conv=>whnf)|(apply bD<;>intro _<;>first|omega|conv=>whnf))
 exact⟨(m+1,b.set lst[m].toNat true),⟨by simp only;omega,by simp only[x3g];exact w,q⟩,by simp only;omega,Le.of_eq (by simp only[x2y];rfl)⟩
def GY(n c:Nat):List Int:=(List.range' (n+1) c).map fun(k:Nat)=>(k:Int)
def HX(n a b:Nat):GY n (a+b)=GY n a++GY (n+a) b:=by
 unfold GY;rw[<-x0c,show n+a+1=n+1+1*a by omega,List.range'_append]
def Iv(n:Nat):GY n 1=[((n+1:Nat):Int)]:=by simp[GY]
mutual
theorem O2(nest:Int):∀(t:S){n:Nat}{m:Int},D7 nest n t=some m->(flS t).map S.id=GY n (ZD t)
 | .mk id kind M name C x has args F L,n,m,h=>by
   simp only[D7]at h;split at h
   ·cases h
   split at h
   ·cases h
   rename_i hid;cases hn:namesB M<;>rw[hn]at h
   ·cases h
   cases hf:WB (.mk id kind M name C x has args F L)<;>rw[hf]at h
   ·cases h
   simp only[x1u]at h;split at h
   ·rename_i m1 h1;have h1':YL (nest+1) ((n+1:Nat):Int) F=some m1:=by rw[<-h1];rfl
    have h2:=KW _ _ F h1';have h3:=Qj (nest+1) F h1';have h':YL (nest+1) ((n+1+QW F:Nat):Int) L=some m:=by rw[<-h,h2];rfl
    have h4:=Qj (nest+1) L h';rw[flS,ZD,x1j,x0c,h3,h4,show 1+QW F+QW L=1+(QW F+QW L) by omega,HX,Iv,HX];have:id=((n+1:Nat):Int):=by omega
    rw[show(S.mk id kind M name C x has args F L).id=id from rfl,this];rfl
   ·cases h
theorem Qj(nest:Int):∀(l:List S){n:Nat}{m:Int},YL nest n l=some m->(flL l).map S.id=GY n (QW l)
 |[],n,m,h=>by rw[flL,QW];rfl
 | t::r,n,m,h=>by
   simp only[YL]at h;split at h
   ·cases h
   split at h
   ·rename_i m1 h1;have h2:=T6 _ _ t h1;have h3:=O2 nest t h1;have h':YL nest ((n+ZD t:Nat):Int) r=some m:=by rw[<-h,h2];rfl
    have h4:=Qj nest r h';rw[flL,QW,x0c,h3,h4,HX]
   ·cases h
end
theorem Gw:∀(l:List Pr){n:Nat}{m:Int},XR n l=some m->∀(j:Nat)(f:Pr),l[j]?=some f->(flL f.body).map S.id=GY (n+QR l j) (QW f.body)
 |[],_,_,_,j,f,hj=>by simp at hj
 | g::r,n,m,h,j,f,hj=>by
   rw[XR]at h;cases v:KN g<;>rw[v]at h
   .cases h
   simp only[x1u]at h;split at h
   .rename_i w q;cases j with
    | zero=>
      simp at hj;subst hj;exact Qj 1 g.body q
    | succ j=>
      have u:=KW _ _ g.body q;have t:XR ((n+QW g.body:Nat):Int) r=some m:=by rw[<-h,u];rfl
      have:=Gw r t j f (by simpa using hj);rw[QR,this,x3o]
   .cases h
def CE(h:JJ p=true)(q:p.A[j]?=some f):(flL f.body).map S.id=GY (QR p.A j) (QW f.body):=by
 unfold JJ at h;simp only[x1z]at h;cases l:XR 0 p.A with
 |none=>rw[l]at h;cases h.2
 | some m=>
   have:=Gw p.A (n:=0) l j f q;simpa using this
def Ra{n c:Nat}{a:Int}(h:a∈GY n c):(n:Int)+1<=a/\a<=n+c:=by
 unfold GY at h;obtain⟨k,l,rfl⟩:=x0n.1 h;rw[List.mem_range']at l;obtain⟨i,m,rfl⟩:=l;omega
def okI(l h:Nat)(x:Int):Prop:=x = -1\/((l:Int)+1<=x/\x<=h)
mutual
theorem q1d(C:Int)(lo hi:Nat):∀(t:S)(up nx loop:Int)(n:Nat)(it:Item),it∈itS C up nx loop n t->okI lo hi nx->(loop=0\/((lo:Int)+1<=loop/\loop<=hi))->lo<=n->n+ZD t<=hi->
  okI lo hi it.next/\(it.loop=0\/((lo:Int)+1<=it.loop/\it.loop<=hi))
 | .mk id kind M name pr x has args F L,up,nx,loop,n,it,h,h1,h2,h3,h4=>by
   rw[itS]at h;rw[ZD]at h4;rcases x0p.1 h with rfl|h
   ·exact⟨h1,h2⟩
   ·have h5:okI lo hi (if kind=6 then((n:Int)+1)else nx):=by
     split
     ·exact .inr ⟨by omega,by omega⟩
     ·exact h1
    have h6:(if kind=6 then((n:Int)+1)else loop)=0\/((lo:Int)+1<=(if kind=6 then((n:Int)+1)else loop)/\(if kind=6 then((n:Int)+1)else loop)<=hi):=by
     split
     ·exact .inr ⟨by omega,by omega⟩
     ·exact h2
    rcases x0r.1 h with h|h
    ·exact Fh C lo hi F _ _ _ _ it h h5 h6 (by omega) (by omega)
    ·exact Fh C lo hi L _ _ _ _ it h h5 h6 (by omega) (by omega)
theorem Fh(C:Int)(lo hi:Nat):∀(l:List S)(up nx loop:Int)(n:Nat)(it:Item),it∈itL C up nx loop n l->okI lo hi nx->(loop=0\/((lo:Int)+1<=loop/\loop<=hi))->lo<=n->n+QW l<=hi->
  okI lo hi it.next/\(it.loop=0\/((lo:Int)+1<=it.loop/\it.loop<=hi))
 |[],up,nx,loop,n,it,h,h1,h2,h3,h4=>by rw[itL]at h;cases h
 | t::r,up,nx,loop,n,it,h,h1,h2,h3,h4=>by
   rw[itL]at h;rw[QW]at h4;rcases x0r.1 h with h|h
   ·refine q1d C lo hi t _ _ _ _ it h ?_ h2 h3 (by omega);cases r with
    |nil=>exact h1
    | cons u r=>
      have:1<=QW (u::r):=by rw[QW,VX];omega
      exact .inr ⟨by simp;omega,by simp;omega⟩
   ·exact Fh C lo hi r _ _ _ _ it h h1 h2 (by omega) (by omega)
end
theorem Fx:∀(l:List S)(v:S),v∈l->v∈flL l
 |[],v,h=>by cases h
 | t::r,v,h=>by
   rw[flL];rcases x0p.1 h with rfl|h
   .refine x0r.2 (.inl ?_);rw[q4j];exact x0k
   .exact x0r.2 (.inr (Fx r v h))
def QF(h:QE p=true):JJ p=true/\(XX p).1=0/\(UT p).1=0/\(Wi p).1=0/\(LY p).1=0:=by
 unfold QE Ol at h;simp only[x1n]at h;by_cases l:JJ p=false
 .rw [if_pos l]at h;cases h
 rw[if_neg l]at h;by_cases m:(XX p).1=0
 .rw [if_neg (by omega)]at h;by_cases n:(UT p).1=0
  .rw [if_neg (by omega)]at h;by_cases q:(Wi p).1=0
   .rw [if_neg (by omega)]at h;exact⟨by simpa using l,m,n,q,h⟩
   .rw [if_pos q]at h;exact absurd h q
  .rw [if_pos n]at h;exact absurd h n
 .rw [if_pos m]at h;exact absurd h m
theorem Y5{f:Pr}:∀(l:List Item)(seen:List Str){s:List Str},PV f l seen=.ok s->∀it∈l,JU f it=true
 |[],_,_,_,it,h=>by cases h
 | a::r,seen,s,h,it,m=>by
   rw[PV]at h;cases q:JV seen a.s.M with
   |none=>rw[q]at h;cases h
   | some t=>
     rw[q]at h;simp only at h;cases n:JU f a with
     |false=>rw[n]at h;cases h
     | true=>
       rw[n,x1u]at h;rcases x0p.1 m with rfl|m
       .exact n
       .exact Y5 r t h it m
def PP(r:(XX p).1=0)(h:(Wi p).1=0)(m:p.A[j]?=some f):∀it∈itsOf p j f,JU f it=true:=by
 unfold Wi at h;rw[if_neg (by omega)]at h;have n:(List.range p.A.length).findSome? (KQ p)=none:=by
  cases q:(List.range p.A.length).findSome? (KQ p)with
  |none=>rfl
  |some a=>rw[q]at h;cases h
 rw[x5z]at n;have l:j<p.A.length:=(x0m.1 m).1;have:=n j (x1a.2 l);unfold KQ at this;rw[m]at this;simp only at this;cases hr:PV f (itL (j:Nat) 0 (-1) 0 (QR p.A j) f.body) []with
 |error id=>rw[hr]at this;cases this
 |ok seen=>exact Y5 _ _ hr
mutual
theorem I4:∀(t u v:S),u∈flS t->v∈u.F\/v∈u.L->v∈flS t
 | .mk id kind M name C x has args F L,u,v,h,hv=>by
   rw[flS]at h⊢;rcases x0p.1 h with rfl|h
   ·refine x0f _ (x0r.2 ?_);rcases hv with hv|hv
    ·exact .inl (Fx F v hv)
    ·exact .inr (Fx L v hv)
   ·rcases x0r.1 h with h|h
    ·exact x0f _ (x0r.2 (.inl (V7 F u v h hv)))
    ·exact x0f _ (x0r.2 (.inr (V7 L u v h hv)))
theorem V7:∀(l:List S)(u v:S),u∈flL l->v∈u.F\/v∈u.L->v∈flL l
 |[],u,v,h,hv=>by rw[flL]at h;cases h
 | t::r,u,v,h,hv=>by
   rw[flL]at h⊢;rcases x0r.1 h with h|h
   ·exact x0r.2 (.inl (I4 t u v h hv))
   ·exact x0r.2 (.inr (V7 r u v h hv))
end
def We(h:it∈itsOf p j f):it.s∈flL f.body:=by
 unfold itsOf at h;rw[<-Q4 (j:Nat) 0 (-1) 0 (QR p.A j) f.body];exact x0n.2 ⟨it,h,rfl⟩
def WD(q:JJ p=true)(n:p.A[j]?=some f){t:S}(h:t∈flL f.body):(QR p.A j:Int)+1<=t.id/\t.id<=(QR p.A j+QW f.body:Nat):=by
 have l:=CE q n;have m:t.id∈GY (QR p.A j) (QW f.body):=by
  rw[<-l];exact x0n.2 ⟨t,h,rfl⟩
 have:=Ra m;omega
def Xt(h:it∈itsOf p j f):okI (QR p.A j) (QR p.A j+QW f.body) it.next/\(it.loop=0\/((QR p.A j:Int)+1<=it.loop/\it.loop<=(QR p.A j+QW f.body:Nat))):=
 Fh (j:Nat) _ _ f.body 0 (-1) 0 _ it h (.inl rfl) (.inl rfl) (x0o _) (x0o _)
def GD(r:p.A[j]?=some f)(u:QR p.A j<=k)(v:k<QR p.A j+QW f.body):∃it,(sheetOf p).l[k]?=some it/\it∈itsOf p j f:=by
 obtain⟨_,_,_,n,h⟩:=QJ p;obtain⟨_,_,t,q⟩:=h j f r;have m:k<(sheetOf p).l.length:=by omega
 refine⟨(sheetOf p).l[k],x0u m,?_⟩;unfold itsOf;rw[<-q];refine x3y.2 ⟨k-QR p.A j,?_⟩;rw[x2g,x1e,if_pos (by omega),show QR p.A j+(k-QR p.A j)=k by omega,x0u m]
def q1w(C:JJ p=true)(c:p.A[j]?=some f)(h:it∈itsOf p j f)(q:JU f it=true):∀x∈goesI (sheetOf p) f it,okI (QR p.A j) (QR p.A j+QW f.body) x:=by
 obtain⟨y,B⟩:=Xt h;have G:=We h;have g:=WD C c G;have n:∀(l:List S)(o:Int),(∀v∈l,v∈it.s.F\/v∈it.s.L)->okI (QR p.A j) (QR p.A j+QW f.body) o->okI (QR p.A j) (QR p.A j+QW f.body) (Ps l o):=fun l o a J=>by
  cases l with
  |nil=>exact J
  |cons v r=>exact .inr (WD C c (V7 f.body it.s v G (a v x0k)))
 have w:it.s.kind=7\/it.s.kind=8->(QR p.A j:Int)+1<=it.loop/\it.loop<=(QR p.A j+QW f.body:Nat):=fun z=>by
  unfold JU at q;rw[if_pos z]at q;rcases B with d|d
  .rw [d]at q;cases q
  .exact d
 intro x m;unfold goesI at m;split at m
 .simp only[x0p,List.not_mem_nil,or_false]at m;rcases m with rfl|rfl
  .exact n _ _ (fun v a=>.inl a) y
  .exact n _ _ (fun v a=>.inr a) y
 split at m
 .simp only[x0p,List.not_mem_nil,or_false]at m;rcases m with rfl|rfl
  .exact n _ _ (fun v a=>.inl a) (.inr g)
  .exact y
 split at m
 .rename_i z;have H:=w (.inl z);obtain⟨u,D,E⟩:=GD c (k:=(it.loop-1).toNat) (by omega) (by omega);rw[D]at m;rw[x0b.1 m];exact(Xt E).1
 split at m
 .rename_i z;rw[x0b.1 m];exact .inr (w (.inr z))
 split at m
 .rw [x0b.1 m];exact .inl rfl
 split at m
 .rename_i O Q _ z;rw[x0b.1 m];unfold JU at q;rw[if_neg (by omega),if_pos z]at q;unfold atB at q⊢;split
  .rename_i t M;exact .inr (WD C c (x3l M))
  .rename_i I;rw[I]at q;simp only at q;cases b:f.fin.any fun s=>it.s.name==s with
   |true=>exact .inl rfl
   |false=>rw[b]at q;cases q
 .rw [x0b.1 m];exact y
def Xj(h:QE p=true)(r:p.A[j]?=some f):(∀it∈itsOf p j f,it.s.kind=7->1<=it.loop/\it.loop<=(sheetOf p).l.length)/\
  (∀s∈QP p j f,(s.src=0\/((QR p.A j:Int)+1<=s.src/\s.src<=(QR p.A j+QW f.body:Nat)))/\okI (QR p.A j) (QR p.A j+QW f.body) s.dst)/\∀s∈QP p j f,okSt s:=by
 obtain⟨v,d,_,u,_⟩:=QF h;have q:=PP d u r;obtain⟨_,_,_,z,w⟩:=QJ p;obtain⟨_,_,c,_⟩:=w j f r;obtain⟨_,_,a⟩:=WO v;have key:∀s∈QP p j f,(s.src=0\/((QR p.A j:Int)+1<=s.src/\s.src<=(QR p.A j+QW f.body:Nat)))/\okI (QR p.A j) (QR p.A j+QW f.body) s.dst:=fun s n=>by
  unfold QP at n;rcases x0p.1 n with rfl|n
  .refine ⟨.inl rfl,?_⟩;show okI _ _ (if QR p.A j<QR p.A j+QW f.body then((QR p.A j:Nat)+1:Int)else -1);split
   .exact .inr ⟨by omega,by omega⟩
   .exact .inl rfl
  .obtain ⟨it,m,B⟩:=x1p.1 n;obtain⟨y,g,rfl⟩:=x0n.1 B;exact⟨.inr (WD v r (We m)),q1w v r m (q it m) y g⟩
 refine⟨fun it m b=>?_,key,fun s n=>?_⟩
 .have t:=q it m;unfold JU at t;rw[if_pos (.inl b)]at t;rcases(Xt m).2 with x|x
  .rw [x]at t;cases t
  .omega
 .obtain ⟨C,D⟩:=key s n;unfold okSt okI at*
  omega
def Qo(p:Pg)(n:Str):Option Way:=bif QE p then(match p.A.find? (fun f=>f.name==n)with
 |some f=>some (QQ p (p.A.findIdx fun f=>f.name==n) f)
 |none=>none)else none
def q9g:Option Way->AV
 |some w=>.ip w.cells
 |none=>.nilp
def XP(h:QE p=true):p.D.length<=16/\p.A.length<=16/\cntP p.A<=200:=WO (QF h).1
def Re{n:Str}(h:¬n∈procsN p):Xr (fun f=>f.name==n) p.A = -1/\p.A.find? (fun f=>f.name==n)=none:=by
 have m:p.A.any (fun f=>f.name==n)=false:=by
  rw[x5a];intro f l q;exact h (x0n.2 ⟨f,l,by simpa using q⟩)
 refine⟨by unfold Xr;rw[m];rfl,?_⟩;rw[x3a];intro f l;have:=x5a.1 m f l;simpa using this
def Fj{n:Str}(h:n∈procsN p):∃(k:Nat) (q:k<p.A.length),Xr (fun f=>f.name==n) p.A=k/\p.A.findIdx (fun f=>f.name==n)=k/\p.A.find? (fun f=>f.name==n)=some p.A[k]/\p.A[k].name=n:=by
 obtain⟨k,q,l,r,t⟩:=Fa h;refine⟨k,q,l,?_,r,t⟩;unfold Xr at l;cases m:p.A.any (fun f=>f.name==n)with
 |true=>rw[m,x1u]at l;omega
 |false=>rw[m,x1g]at l;omega
def q5m(p:Pg)(t:Fit p)(n:Str):SpecP prog 64 [.agg p.cells,.str n] (fun r=>r=q9g (Qo p n)):=by
 refine sB Ei func64 rfl call64 ?_;conv=>whnf
 cases h:QE p with
 | false=>
   have e:Qo p n=none:=by unfold Qo;rw[h];rfl
   have v:¬(Ol p).1=0:=by unfold QE at h;simpa using h
   rw[e];repeat' (first|(refine cP (FL p t) ?_;conv=>whnf)|(apply bE<;>intro _<;>first|omega|conv=>whnf))
   all_goals first
    |exact RetK.p rfl
    |(exfalso;exact v (by assumption))
 | true=>
   obtain⟨d,z,y⟩:=XP h;have v:(Ol p).1=0:=by unfold QE at h;simpa using h
   have m:(sheetOf p).p.A=p.A:=by rw[(QJ p).1]
   by_cases w:n∈procsN p
   .obtain ⟨k,g,u,q,x,c⟩:=Fj w;have e:Qo p n=some (QQ p k p.A[k]):=by unfold Qo;rw[h,x,q];rfl
    have l:p.A[k]?=some p.A[k]:=by simp
    obtain⟨a,_,b⟩:=Xj h l;rw[e];repeat' (first|((first|refine cP (FL p t) ?_|refine cP (XZ _ _) ?_|(refine CallK.pure (JI p (by omega) (by omega)) (.cons (Sub.refl _) .nil) ?_;rintro _ rfl)|(refine CallK.pure (Ep p k p.A[k] l (by omega) a b) (.cons (Sub.refl _) (.cons (Sub.int u) .nil)) ?_;rintro _ rfl));conv=>whnf)|(apply bD<;>intro _<;>first|omega|conv=>whnf)|(apply bE<;>intro _<;>first|omega|conv=>whnf))
    all_goals rw[m]at*
    all_goals first
     |exact RetK.p rfl
     |(exfalso;omega)
   .obtain ⟨u,q⟩:=Re w;have e:Qo p n=none:=by unfold Qo;rw[h,q];rfl
    rw[e];repeat' (first|((first|refine cP (FL p t) ?_|refine cP (XZ _ _) ?_|(refine CallK.pure (JI p (by omega) (by omega)) (.cons (Sub.refl _) .nil) ?_;rintro _ rfl));conv=>whnf)|(apply bD<;>intro _<;>first|omega|conv=>whnf)|(apply bE<;>intro _<;>first|omega|conv=>whnf))
    all_goals rw[m]at*
    all_goals first
     |exact RetK.p rfl
     |(exfalso;omega)
def JM{n:Str}{w:Way}(h:Qo p n=some w):∃(k:Nat) (f:Pr),p.A[k]?=some f/\w=QQ p k f/\QE p=true/\f.name=n/\p.A.find? (fun f=>f.name==n)=some f:=by
 unfold Qo at h;cases m:QE p with
 |false=>rw[m]at h;cases h
 | true=>
   rw[m,x1u]at h;by_cases q:n∈procsN p
   .obtain ⟨k,v,u,r,l,t⟩:=Fj q;rw[l,r]at h;cases h;exact⟨k,p.A[k],by simp,rfl,rfl,t,l⟩
   .rw [(Re q).2]at h;cases h
def q5a(p:Pg)(k:Nat)(f:Pr):Int:=if QR p.A k<QR p.A k+QW f.body then((QR p.A k:Nat)+1:Int)else -1
def ofR(p:Pg)(n:Str):List Step:=match Qo p n with
 |some w=>w.real
 |none=>[]
def q8a(p:Pg)(id:Int):Int×Bool:=bif QE p&&(decide (1<=id)&&decide (id<=(sheetOf p).l.length))then(((sheetOf p).l[(id-1).toNat]?.map Item.next).getD 0,true)else(0,false)
def QH(p:Pg)(j:Nat)(n i:Int):Int:=if i=0 then 0 else if i=n-1 then -1 else loI p j+i-1
def WG(w:Way)(f:Pr)(t:w.p.A[w.j]?=some f)(v:cntP w.p.A<=1000)(y:0<=w.n/\w.n<=5000)(i:Int)(x:0<=i/\i<=5000):SpecP prog 65 [.ip w.cells,.int .i64 i] (fun r=>r=.int .i64 (QH w.p w.j w.n i)):=by
 refine sB Vr func65 rfl call65 ?_;conv=>whnf
 obtain⟨_,_,_,m,l⟩:=QJ w.p;obtain⟨h,q,u,_⟩:=l w.j f t;repeat' (first|((first|refine dA ?_|refine wI ?_|(refine IdxK.at rfl (VS h) rfl ?_));conv=>whnf)|(apply bD<;>intro _<;>first|omega|conv=>whnf))
 all_goals exact RetK.int (by unfold QH loI;(repeat' split)<;>omega)
def BM(l:List Int):∀b:List Bool,(JP l b).length=b.length:=by
 induction l with
 |nil=>intro b;rfl
 | cons a r h=>
   intro b;show(JP r (b.set a.toNat true)).length=b.length;rw[h,x3g]
def N0(w:Way):List Int:=((List.range' 1 (w.n-2).toNat).filter fun i=>w.live.getD i false).map fun(i:Nat)=>QH w.p w.j w.n i
def NO(p:Pg)(n:Str):List Int:=match Qo p n with
 |some w=>N0 w
 |none=>[]
def ER(p:Pg)(I:Fit p)(n:Str):SpecP prog 31 [.agg p.cells,.str n] (fun r=>r=QI (NO p n)):=by
 refine sB Tm func31 rfl call31 ?_;conv=>whnf
 have a:=q5m p I n;unfold NO;cases c:Qo p n with
 | none=>
   rw[c]at a;repeat' (refine cP a ?_;conv=>whnf)
   exact⟨_,.p Sub.nils,rfl⟩
 | some w=>
   obtain⟨k,f,v,h,G,_⟩:=JM c;obtain⟨_,_,H⟩:=XP G;obtain⟨_,_,_,_,g⟩:=QJ p;obtain⟨_,_,q,_⟩:=g k f v;have z:w.p=p:=by rw[h];rfl
   have B:w.j=k:=by rw[h];rfl
   have C:w.n=(QW f.body+2:Nat):=by rw[h];rfl
   have L:w.live.length=QW f.body+2:=by rw[h];show(JP _ (List.replicate (QW f.body+2) false)).length=_;rw[BM];simp
   have y:w.p.A[w.j]?=some f:=by rw[z,B];exact v
   have u:cntP w.p.A<=1000:=by rw[z];omega
   rw[c]at a;clear h c;repeat' (refine cP a ?_;conv=>whnf)
   refine LoopK.inv QK (fun x:Nat×List Int=>⟨[(5,.p (.ip w.cells)),(6,.hd 0 0 x.2.length),(7,.p (.int .i64 x.1))],[(0,.own 3 1 (x.2.map (.int .i64)))]⟩)
    (fun x=>1<=x.1/\x.1<=QW f.body+1/\x.2.length<=x.1/\x.2++(((List.range' x.1 (QW f.body+1-x.1)).filter fun i=>w.live.getD i false).map fun(i:Nat)=>QH w.p w.j w.n i)=N0 w) (fun x=>QW f.body+1-x.1) (1,[])
    (Le.mk [(0,.own 3 1 [])] (by simp[Chunk.new0];rfl) (by simp) (by simp) (.r (.cons (.nil x0k) (.cons (.of_eq rfl) .nil))) (.new x0k .nil))
    ⟨x0o _,by simp only;omega,by simp,by unfold N0;rw[C,show((QW f.body+2:Nat)-2:Int).toNat=QW f.body+1-1 by omega];rfl⟩ ?_
   rintro⟨i,t⟩ ⟨D,E,F,l⟩;simp only at D E F l⊢;rcases x0t i (QW f.body+1)with J|J;rotate_left 1
   .rw [show QW f.body+1-i=0 by omega]at l;simp only[List.range'_zero,List.filter_nil,x5j,x2v]at l;subst l;conv=>whnf
    repeat' (first|(refine wI ?_;conv=>whnf)|(apply bD<;>intro _<;>first|omega|conv=>whnf))
    all_goals first
     |exact⟨_,.hd rfl (by simp),rfl⟩
     |(exfalso;omega)
   have m:i<w.live.length:=by omega
   rw[show QW f.body+1-i=QW f.body+1-(i+1)+1 by omega,List.range'_succ,x6s]at l;have d:=WG w f y u (by omega) i (by omega);cases b:w.live.getD i false with
   | true=>
     have q:(w.live.map bv)[i]?=some .tt:=by
      have:w.live[i]=true:=by simpa[m]using b
      simp[m,this,bv]
     rw[b]at l;conv=>whnf
     repeat' (first|((first|refine x0h rfl ?_|refine aD ?_|refine bP ?_|refine wI ?_|(refine IdxK.at rfl q rfl ?_)|refine cP d ?_|refine XU (by simp) (by simp;omega) ?_);conv=>whnf)|(apply bD<;>intro _<;>first|omega|conv=>whnf))
     all_goals first
      |exact⟨(i+1,t++[QH w.p w.j w.n i]),⟨by simp only;omega,by simp only;omega,by simp;omega,by simpa using l⟩,by simp only;omega,Le.of_eq (by simp only[x0g,x0c];rfl)⟩
      |(exfalso;omega)
   | false=>
     have q:(w.live.map bv)[i]?=some .ff:=by
      have:w.live[i]=false:=by simpa[m]using b
      simp[m,this,bv]
     rw[b]at l;conv=>whnf
     repeat' (first|((first|refine wI ?_|(refine IdxK.at rfl q rfl ?_));conv=>whnf)|(apply bD<;>intro _<;>first|omega|conv=>whnf))
     all_goals first
      |exact⟨(i+1,t),⟨by simp only;omega,by simp only;omega,by simp only;omega,by simpa using l⟩,by simp only;omega,Le.of_eq rfl⟩
      |(exfalso;omega)
def OE(p:Pg)(id:Int):Option S:=((sheetOf p).l[(id-1).toNat]?).map Item.s
def Xs(a b:Step):Prop:=QT a.src<QT b.src\/(QT a.src=QT b.src/\QT a.dst<QT b.dst)
def Et(s:Step):Prop:=okSt s/\s.kind=1
def GQ{a b:Step}(h:a.src=b.src)(l:a.dst=b.dst)(m:a.kind=b.kind):a=b:=by
 cases a;cases b;simp_all
def GB{a b:Step}:HS a b=true↔QT a.src<QT b.src\/(QT a.src=QT b.src/\(QT a.dst<QT b.dst\/(QT a.dst=QT b.dst/\a.kind<b.kind))):=by
 have h:HS a b=decide (Ll a b<0):=rfl;rw[h,x1n];unfold Ll;simp only[orI];split
 .rename_i l;rw[VR]at l;split
  .rename_i m;rw[VR]at m;split
   .rename_i n;rw[VR]at n;omega
   .rw [JC];omega
  .rename_i m;rw[VR]at m;rw[JC];omega
 .rename_i l;rw[VR]at l;rw[JC];omega
def Qp(l:List Step):(YB l).Pairwise fun a b=>HS b a=false:=by
 have:=x6v (le:=fun x y=> !HS y x) (fun a b c m n=>by
  simp only[x3f]at m n⊢;rw[x5c,ne_eq,GB]at m n⊢;omega) (fun a b=>by
  cases m:HS b a with
  |false=>rfl
  | true=>
    have n:HS a b=false:=by
     rw[x5c,ne_eq,GB];rw[GB]at m;omega
    rw[n];rfl) l
 refine List.Pairwise.imp ?_ this;intro a b h;simpa using h
def Wx{a b:Step}(l:Et a)(m:Et b):ZU a b=true↔a=b:=by
 unfold ZU;simp only[x1z,x1n];refine⟨fun h=>GQ h.1 h.2 (by rw[l.2,m.2]),fun h=>by rw[h];exact⟨rfl,rfl⟩⟩
def q1l{a b:Step}(l:Et a)(m:Et b)(h:HS b a=false)(n:a≠b):Xs a b:=by
 rw[x5c,ne_eq,GB]at h;unfold Xs;by_cases q:QT a.src=QT b.src
 .by_cases r:QT a.dst=QT b.dst
  .exact absurd (GQ (UE l.1.1 m.1.1 q) (UE l.1.2 m.1.2 r) (by rw[l.2,m.2])) n
  .omega
 .omega
def Xc{a b c:Step}(h:Xs a b)(l:Xs b c):Xs a c:=by unfold Xs at*;omega
def HW{a:Step}(h:Xs a a):False:=by unfold Xs at h;omega
theorem LN:∀(l:List Step)(a:Step),Et a->(∀s∈l,Et s)->(a::l).Pairwise (fun a b=>HS b a=false)->(a::XW a l).Pairwise Xs/\∀s,s∈a::XW a l↔s∈a::l
 |[],a,_,_,_=>⟨by simp[XW],by simp[XW]⟩
 | b::r,a,ha,hl,h=>by
   have t:=hl b x0k;have hr:∀s∈r,Et s:=fun s q=>hl s (x0f _ q);rw[x3e]at h;obtain⟨x,y⟩:=h;obtain⟨v,w⟩:=LN r b t hr y;rw[XW];cases q:ZU b a with
   | true=>
     obtain rfl:=(Wx t ha).1 q;rw[x1u];exact⟨v,fun s=>by rw[w];simp⟩
   | false=>
     rw[x1g];have u:a≠b:=fun e=>by
      rw[(Wx t ha).2 e.symm]at q;cases q
     have n:=q1l ha t (x b x0k) u;refine⟨?_,fun s=>by rw[x0p,w,<-x0p (a:=s) (b:=a)]⟩;rw[x3e];refine⟨fun s m=>?_,v⟩;rcases x0p.1 m with rfl|m
     .exact n
     .exact Xc n ((x3e.1 v).1 s m)
def Sx{l:List Step}(q:∀s∈l,Et s):(WC l).Pairwise Xs/\∀s,s∈WC l↔s∈l:=by
 have n:∀s,s∈YB l↔s∈l:=fun s=>(J7 l).mem_iff;have u:=Qp l;unfold WC;cases t:YB l with
 | nil=>
   rw[t]at n;exact⟨by simp[NB],fun s=>by rw[<-n];simp[NB]⟩
 | cons a r=>
   rw[t]at n u;have m:∀s∈a::r,Et s:=fun s h=>q s ((n s).1 h);obtain⟨v,w⟩:=LN r a (m a x0k) (fun s h=>m s (x0f _ h)) u;exact⟨v,fun s=>by rw[NB,w,n]⟩
theorem Ge:∀{l m:List Step},l.Pairwise Xs->m.Pairwise Xs->(∀s,s∈l↔s∈m)->l=m
 |[],[],_,_,_=>rfl
 |[],b::m,_,_,h=>by have:=(h b).2 x0k;cases this
 |a::l,[],_,_,h=>by have:=(h a).1 x0k;cases this
 | a::l,b::m,hl,hm,h=>by
   rw[x3e]at hl hm;have r:a=b:=by
    rcases x0p.1 ((h a).1 x0k)with e|t
    .exact e
    .rcases x0p.1 ((h b).2 x0k)with e|u
     .exact e.symm
     .exact (HW (Xc (hl.1 b u) (hm.1 a t))).elim
   subst r;congr 1;refine Ge hl.2 hm.2 fun s=>⟨fun n=>?_,fun n=>?_⟩
   .rcases x0p.1 ((h s).1 (x0f _ n))with rfl|q
    .exact (HW (hl.1 _ n)).elim
    .exact q
   .rcases x0p.1 ((h s).2 (x0f _ n))with rfl|q
    .exact (HW (hm.1 _ n)).elim
    .exact q
def Ns(h:QE p=true)(n:p.A[j]?=some f):∀s∈QP p j f,Et s:=by
 obtain⟨_,_,m⟩:=Xj h n;intro s l;refine⟨m s l,?_⟩;unfold QP at l;rcases x0p.1 l with rfl|l
 .rfl
 .obtain ⟨it,_,q⟩:=x1p.1 l;obtain⟨y,_,rfl⟩:=x0n.1 q;rfl
def GF(h:QE p=true)(l:p.A[j]?=some f):(QQ p j f).real.Pairwise Xs/\∀s,s∈(QQ p j f).real↔s∈QP p j f:=Sx (Ns h l)
def IC(h:QE p=true)(q:p.A[j]?=some f){s:Step}(l:s∈QP p j f):s=⟨0,q5a p j f,1⟩\/(1<=s.src/\s.src<=9223372036854775806):=by
 obtain⟨_,_,t⟩:=XP h;obtain⟨_,_,_,r,n⟩:=QJ p;obtain⟨_,_,u,_⟩:=n j f q;unfold QP at l;rcases x0p.1 l with rfl|l
 .exact .inl rfl
 .obtain ⟨it,m,v⟩:=x1p.1 l;obtain⟨y,_,rfl⟩:=x0n.1 v;have:=WD (QF h).1 q (We m);refine .inr ?_;simp only;omega
def KY(c:UInt8):SpecP prog 191 [.int .u8 c.toNat] (fun r=>r=.bool (YM c)):=by
 refine sB BE func191 rfl call191 ?_;conv=>whnf
 repeat' (apply bD<;>intro _<;>first|omega|conv=>whnf)
 .exact RetK.bool (by simp_all[YM];try omega)
 .exact RetK.ff (by simp_all[YM];try omega)
def Qe(c:UInt8):SpecP prog 192 [.int .u8 c.toNat] (fun r=>r=.bool (NA c)):=by
 refine sB BA func192 rfl call192 ?_;conv=>whnf
 repeat' (apply bD<;>intro _<;>first|omega|conv=>whnf)
 .exact RetK.bool (by simp_all[NA];try omega)
 .exact RetK.ff (by simp_all[NA];try omega)
def wordsL:List Str:=[[103,108,111,98,97,108],[112,114,111,99],[118,97,114],[114,101,102],[105,102],[101,108,115,101],[119,104,105,108,101],[98,114,101,97,107],[99,111,110,116,105,110,117,101],[114,101,116,117,114,110],[103,111,116,111],[114,101,97,100],[112,114,105,110,116]]
def Qa:SpecP prog 248 [] (fun r=>r=eStrs wordsL):=by
 refine sB BC func248 rfl call248 ?_;conv=>whnf
 repeat' ((first|refine x0h rfl ?_|refine aD ?_|refine BsK.pureL rfl rfl ?_);conv=>whnf)
 exact RetK.p rfl
def TS(s:Str):W8 s=wordsL.any fun w=>w==s:=by
 rw[x4b];unfold W8 wordsL;simp only[x3i,x1n,List.any_cons,List.any_nil,Bool.or_false,x3s,or_assoc,@eq_comm _ s]
def Zk(s:Str):SpecP prog 193 [.str s] (fun r=>r=.bool (W8 s)):=by
 refine sB PO func193 rfl call193 ?_;conv=>whnf
 rw[TS];repeat' ((first|(refine iM fun _=>?_)|refine cP Qa ?_);conv=>whnf)
 have m:wordsL.length<=1000:=by decide
 generalize wordsL=l at m⊢;have q:(l.map AV.str).length=l.length:=x0j _;refine LoopK.inv QK (fun j:Nat=>⟨[(0,.p (.str s)),(5,.p (eStrs l)),(6,.p (.int .i64 (l.map AV.str).length)),(7,.p (.int .i64 j))],[]⟩) (fun j=>j<=l.length/\(l.drop j).any (fun w=>w==s)=l.any fun w=>w==s) (fun j=>l.length-j) 0 (Le.of_eq rfl) ⟨x0l _,rfl⟩ ?_;rintro j ⟨n,h⟩;conv=>whnf
 repeat' (first|((first|(refine iA fun _=>?_)|refine wI ?_);conv=>whnf)|(apply bD<;>intro _<;>first|omega|conv=>whnf)|(apply bB<;>intro _<;>conv=>whnf))
 .exact RetK.tt (by rw[<-h,U0 (p:=fun w=>w==s) (by omega) (by assumption)])
 .exact ⟨j+1,⟨by omega,by rw[<-h,Vo (p:=fun w=>w==s) (by omega) (by assumption)]⟩,by omega,Le.of_eq rfl⟩
 .exact RetK.ff (by rw[<-h,NH (by omega)])
def L6{s:Str}(h:s.length<=i):JY s i=i:=Q7 fun l=>by omega
def XL(s:Str):SpecP prog 125 [.str s] (fun r=>r=.bool (isName s)):=by
 refine sB PI func125 rfl call125 ?_;conv=>whnf
 by_cases q:s=[]
 .subst q;have e:isName []=false:=by unfold isName;rw[dif_neg (by simp)]
  rw[e];repeat' (first|(refine iM fun _=>?_;conv=>whnf)|(apply bD<;>intro _<;>first|omega|conv=>whnf)|(apply bB<;>intro _<;>conv=>whnf))
  all_goals first
   |exact RetK.ff rfl
   |(exfalso;simp_all;done)
 have l:0<s.length:=x6x.2 q;have t:(s==(⟨#[]⟩:ByteArray).data.toList)=false:=by simpa using q
 repeat' (first|((first|(refine iM fun _=>?_)|refine cP (KY _) ?_|(refine ByteK.at (by omega) ?_));conv=>whnf)|(apply bD<;>intro _<;>first|omega|conv=>whnf)|(apply bN<;>intro _<;>conv=>whnf)|(apply bB<;>intro _<;>conv=>whnf))
 .exfalso;rename_i h;rw[t]at h;cases h
 .exact RetK.ff (by unfold isName;rw[dif_neg (by omega)])
 rotate_left 1
 .exact RetK.ff (by unfold isName;rw[dif_pos (by omega)];simp_all)
 have m:YM s[0]=true:=by assumption
 have w:s.length<=8:=by omega
 have v:JY s 0=JY s 1:=(BH l (by unfold Iy;rw[m];rfl)).symm;have u:isName s=(decide (JY s 1=s.length) && !W8 s):=by
  unfold isName;rw[dif_pos (by omega),m,v];rfl
 refine LoopK.inv QK (fun j:Nat=>⟨[(0,.p (.str s)),(3,.p (.int .i64 j))],[]⟩) (fun j=>1<=j/\j<=s.length/\JY s j=JY s 1) (fun j=>s.length-j) 1 (Le.of_eq rfl) ⟨x0o _,l,rfl⟩ ?_;rintro j ⟨x,y,n⟩;conv=>whnf
 repeat' (first|((first|(refine iM fun _=>?_)|refine cP (KY _) ?_|refine cP (Qe _) ?_|refine cP (Zk _) ?_|(refine ByteK.at (by omega) ?_)|refine wI ?_);conv=>whnf)|(apply bD<;>intro _<;>first|omega|conv=>whnf)|(apply bN<;>intro _<;>conv=>whnf))
 all_goals first
  |exact⟨j+1,⟨by omega,by omega,by rw[BH (by omega) (by simp_all[Iy])];exact n⟩,by omega,Le.of_eq rfl⟩
  |exact RetK.ff (by rw[u,<-n,Q7 fun _=>by simp_all[Iy]];simp;omega)
  |exact RetK.bool (by rw[u,<-n,L6 (by omega),show j=s.length by omega];simp)
def UW(l:List Str):SpecP prog 124 [eStrs l] (fun r=>r=.bool (namesB l)):=by
 refine sB BO func124 rfl call124 ?_;conv=>whnf
 refine iM fun _=>?_;conv=>whnf
 refine LoopK.inv QK (fun j:Nat=>⟨[(5,.p (eStrs l)),(6,.p (.int .i64 (l.map AV.str).length)),(7,.p (.int .i64 j))],[]⟩) (fun j=>j<=l.length/\(l.drop j).all isName=namesB l) (fun j=>l.length-j) 0 (Le.of_eq rfl) ⟨x0l _,rfl⟩ ?_;rintro j ⟨m,h⟩;have n:(l.map AV.str).length=l.length:=x0j _;conv=>whnf
 repeat' (first|((first|refine cP (XL _) ?_|(refine iA fun _=>?_)|refine wI ?_);conv=>whnf)|(apply bD<;>intro _<;>first|omega|conv=>whnf)|(apply bN<;>intro _<;>conv=>whnf))
 .exact ⟨j+1,⟨by omega,by rw[GT (by omega) (by assumption)];exact h⟩,by omega,Le.of_eq rfl⟩
 .exact RetK.ff (by rw[<-h,Za (by omega) (by assumption)])
 .exact RetK.tt (by rw[<-h,GR (by omega)])
end Go.Ab
