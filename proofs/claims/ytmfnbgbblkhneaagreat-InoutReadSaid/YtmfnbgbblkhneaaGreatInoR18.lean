/- ref3: a new statement, but for what stands in it. -/
import Derived.Test.YtmfnbgbblkhneaaGreatInoR13
import Derived.Test.YtmfnbgbblkhneaaGreatInoR16
import Derived.Test.YtmfnbgbblkhneaaGreatInoR17
set_option linter.unusedSimpArgs false
set_option linter.unusedVariables false
set_option maxRecDepth 100000
set_option maxHeartbeats 16000000
namespace Go.Ab
open Go.Proofs.Tryz
open Go.Proofs
variable {a:Int}{i:Nat}{it:Item}
def q1i(s:S):S:=.mk s.id s.kind s.labels s.name s.proc s.x s.has s.args [] []
theorem UE(s:S)(hx:wX s.x<=20000)(hl:s.labels.length<=1000000)(ha:s.args.length<=1000000)(hax:∀a∈s.args,wX a.x<=20000):SpecP prog 115 [.agg s.cells] (fun r=>r=.agg (q1i s).cells):=by
 refine sB HZ func115 rfl call115 ?_;conv=>whnf
 have hal:(s.args.map fun a=>AV.agg a.cells).length=s.args.length:=q3f _;have hC:=UH 20001 s.x (by omega) (by omega);repeat' (first|((first|(refine iM fun _=>?_)|refine dA ?_|refine q3l rfl ?_|refine cP hC ?_|refine cP (ZM s.labels hl) ?_);conv=>whnf)|(refine q3l ?_ ?_<;>conv=>whnf))
 all_goals
  refine LoopK.inv QY (fun j:Nat=>⟨[(2,.ptr 1 0),(3,.ptr 0 0),(24,.p (RV s.args)),(25,.p (.int .i64 (s.args.map fun a=>AV.agg a.cells).length)),(26,.p (.int .i64 j))],[(0,.obj 55 [.p (.int .i64 s.id),.p (.int .i64 s.kind),.p (eStrs s.labels),.p (.str s.name),.p (.str s.proc),.p (.int .i64 s.x.op),.p (.int .i64 s.x.n),.p (.str s.x.name),.p (.sl (X.avs s.x.kids)),.p (.bool s.has),.hd 2 0 j,.p .nils,.p .nils]),(1,.obj 55 [.p (.int .i64 0),.p (.int .i64 0),.p .nils,.p (.str []),.p (.str []),.p (.int .i64 0),.p (.int .i64 0),.p (.str []),.p .nils,.p .ff,.p .nils,.p .nils,.p .nils]),(2,.own 140 6 ((s.args.take j).map fun a=>.agg a.cells))]⟩) (fun j=>j<=s.args.length) (fun j=>s.args.length-j) 0
   (Le.mk [(2,.own 140 6 [])] (by simp[Chunk.new0];rfl) (by simp) (by simp) (.r (.r (.r (.r (.r .nil))))) (.cons rfl (.obj (.r (.r (.r (.r (.r (.r (.r (.r (.r (.r (.cons (.nil q3d) (.r (.r .nil)))))))))))))) (.cons rfl (.refl _) (.new q3d .nil)))) (q3o _) ?_
  intro j h2;rcases q4w j s.args.length with hj|hj
  ·have hax1:=hax _ (q4u hj);have hD:=UH 20001 s.args[j].x (by omega) (by omega);have htk:((s.args.take (j+1)).map fun a=>AV.agg a.cells)=((s.args.take j).map fun a=>AV.agg a.cells)++[.agg s.args[j].cells]:=by
    rw[q4y hj,q4z];rfl
   have hcl:((s.args.take j).map fun a=>AV.agg a.cells).length=j:=by rw[q3f,q4l];omega
   generalize((s.args.take j).map fun a=>AV.agg a.cells)=acc at htk hcl⊢;conv=>whnf
   repeat' (first|((first|refine dA ?_|refine q3l rfl ?_|refine aD ?_|refine bP ?_|(refine iA fun _=>?_)|refine wI ?_|refine cP hD ?_|refine q6g hcl.symm rfl (by show(j+1)*80<=140737488355328;omega) (by show j+1<=9223372036854775807;omega) (fun x hx=>by rcases q3r.1 hx with rfl;exact⟨rfl,rfl⟩) ?_);conv=>whnf)|(apply bD<;>intro _<;>first|omega|conv=>whnf)|(refine q3l ?_ ?_<;>conv=>whnf))
   all_goals exact⟨j+1,hj,by omega,Le.of_eq (by rw[htk];rfl)⟩
  ·have hall:((s.args.take j).map fun a=>AV.agg a.cells)=s.args.map fun a=>.agg a.cells:=by rw[q4g hj]
   have hcl:((s.args.take j).map fun a=>AV.agg a.cells).length=j:=by rw[q3f,q4l];omega
   conv=>whnf
   repeat' (first|(refine q3l rfl ?_;conv=>whnf)|(apply bD<;>intro _<;>first|omega|conv=>whnf))
   refine⟨_,.agg (cs:=(q1i s).cells) rfl fun i l c h1 h3=>?_,rfl⟩
   match i,h1,h3 with
   |0,h1,h3=>cases h1;cases h3;exact .p (Sub.refl _)
   |1,h1,h3=>cases h1;cases h3;exact .p (Sub.refl _)
   |2,h1,h3=>cases h1;cases h3;exact .p (Sub.refl _)
   |3,h1,h3=>cases h1;cases h3;exact .p (Sub.refl _)
   |4,h1,h3=>cases h1;cases h3;exact .p (Sub.refl _)
   |5,h1,h3=>cases h1;cases h3;exact .p (Sub.refl _)
   |6,h1,h3=>cases h1;cases h3;exact .p (Sub.refl _)
   |7,h1,h3=>cases h1;cases h3;exact .p (Sub.refl _)
   |8,h1,h3=>cases h1;cases h3;exact .p (Sub.refl _)
   |9,h1,h3=>cases h1;cases h3;exact .p (Sub.refl _)
   | 10,h1,h3=>
     cases h1;cases h3;show Frz _ _ (.sl (s.args.map fun a=>.agg a.cells));rw[<-hall];exact .hd rfl hcl.symm
   |11,h1,h3=>cases h1;cases h3;exact .p Sub.nils
   |12,h1,h3=>cases h1;cases h3;exact .p Sub.nils
   |i+13,h1,h3=>simp at h1
mutual
def nmS(n:Nat):S->S
 |.mk _ kind labels name proc x has args thn els=>.mk ((n+1:Nat):Int) kind labels name proc x has args (nmL (n+1) thn) (nmL (n+1+cntL thn) els)
def nmL(n:Nat):List S->List S
 |[]=>[]
 |t::r=>nmS n t::nmL (n+WJ t) r
end
theorem IG(n:Nat)(t:S):nmS n t=.mk ((n+1:Nat):Int) t.kind t.labels t.name t.proc t.x t.has t.args (nmL (n+1) t.thn) (nmL (n+1+cntL t.thn) t.els):=by
 cases t;rw[nmS];rfl
theorem Jm(n:Nat):∀l:List S,(nmL n l).length=l.length
 |[]=>by rw[nmL]
 |t::r=>by rw[nmL,q4m,q4m,Jm _ r]
theorem Td:∀(l:List S)(n j:Nat)(h:j<l.length),(nmL n l)[j]?=some (nmS (n+cntL (l.take j)) l[j])
 |t::r,n,0,h=>by rw[nmL];simp[cntL]
 | t::r,n,j+1,h=>by
   rw[nmL,q8q,Td r (n+WJ t) j (by simpa using h),List.take_succ_cons,cntL,q5e];rfl
theorem Gs:∀(l:List S)(j:Nat)(h:j<l.length),cntL (l.take (j+1))=cntL (l.take j)+WJ l[j]
 |t::r,0,h=>by simp[cntL]
 | t::r,j+1,h=>by
   rw[List.take_succ_cons,List.take_succ_cons,cntL,cntL,Gs r j (by simpa using h),q5e];rfl
theorem J1:∀l:List S,l.length<=cntL l
 |[]=>by simp
 | t::r=>by
   rw[cntL,q4m];have:=J1 r;have:1<=WJ t:=by cases t;rw[WJ];omega
   omega
def okC(t:S):Prop:=wX t.x<=20000/\t.labels.length<=1000000/\t.args.length<=1000000/\∀a∈t.args,wX a.x<=20000
theorem J2:∀{l:List S}{t:S},t∈l->WJ t<=cntL l
 | a::r,t,h=>by
   rw[cntL];rcases q3t.1 h with rfl|h
   ·omega
   ·have:=J2 h;omega
theorem FB:∀(k:Nat)(l:List S)(_:cntL l<k)(n:Nat)(_:n+cntL l<=1000000)(_:∀t∈flL l,okC t),SpecP prog 107 [eSs l,.int .i64 (n:Nat)] (fun r=>r=.tup [eSs (nmL n l),.int .i64 (n+cntL l:Nat)]):=by
 intro k;induction k with
 |zero=>intro l h;omega
 | succ k ih=>
   intro l hk n hn hok;have hsl:(S.avs l).length=l.length:=by rw[S.avs_eq,q3f]
   have hcl:=J1 l;refine sB KR func107 rfl call107 ?_;conv=>whnf
   repeat' (refine iM fun _=>?_;conv=>whnf)
   refine LoopK.inv QY (fun j:Nat=>⟨[(1,.p (.int .i64 (n+cntL (l.take j):Nat))),(6,.hd 0 0 j),(10,.p (eSs l)),(11,.p (.int .i64 (S.avs l).length)),(12,.p (.int .i64 j))],[(0,.own 55 13 (S.avs ((nmL n l).take j)))]⟩) (fun j=>j<=l.length) (fun j=>l.length-j) 0
    (Le.mk [(0,.own 55 13 [])] (by simp[Chunk.new0];rfl) (by simp) (by simp) (.cons (.of_eq (by simp[cntL];rfl)) (.cons (.nil q3d) (.r (.r (.r .nil))))) (.new q3d .nil)) (q3o _) ?_
   intro j h2;rcases q4w j l.length with hj|hj
   ·have htk:=Gs l j hj;have htm:=J2 (q4u hj);have hcs:=WK l[j];have hget:=Td l n j hj;have hlb:cntL (l.take (j+1))<=cntL l:=by
     conv=>rhs;rw[<-List.take_append_drop (j+1) l]
     have:∀a b:List S,cntL (a++b)=cntL a+cntL b:=fun a b=>by
      induction a with
      |nil=>simp[cntL]
      |cons x r ih=>rw[List.cons_append,cntL,cntL,ih,q5e]
     rw[this];omega
    have hself:=hok _ (NQ l _ (q4u hj));have hsub:∀t,t∈flL l[j].thn\/t∈flL l[j].els->okC t:=fun t ht=>hok t (by
     have:t∈flS l[j]:=by
      rw[RK];exact q3n _ (q3a.2 ht)
     have key:∀(m:List S)(i:Nat)(h:i<m.length),t∈flS m[i]->t∈flL m:=fun m=>by
      induction m with
      |nil=>intro i h;simp at h
      | cons a r ih=>
        intro i h ht;rw[flL];cases i with
        |zero=>exact q3a.2 (.inl ht)
        |succ i=>exact q3a.2 (.inr (ih i (by simpa using h) ht))
     exact key l j hj this)
    have h5:=UE l[j] hself.1 hself.2.1 hself.2.2.1 hself.2.2.2;have h6:=ih l[j].thn (by omega) (n+cntL (l.take j)+1) (by omega) fun t ht=>hsub t (.inl ht);have h7:=ih l[j].els (by omega) (n+cntL (l.take j)+1+cntL l[j].thn) (by omega) fun t ht=>hsub t (.inr ht);have hacl:j=(S.avs ((nmL n l).take j)).length:=by rw[S.avs_eq,q3f,q4l,Jm];omega
    have hav:S.avs ((nmL n l).take (j+1))=S.avs ((nmL n l).take j)++[.agg (nmS (n+cntL (l.take j)) l[j]).cells]:=by
     rw[S.avs_eq,S.avs_eq,List.take_add_one,hget,q4z];rfl
    conv=>whnf
    repeat' (first|((first|refine q3l rfl ?_|refine aD ?_|refine bP ?_|refine QN (by omega) ?_|refine wI ?_|refine cP h5 ?_|(refine CallK.pure h6 (.cons (Sub.refl _) (.cons (Sub.int (by omega)) .nil)) ?_;rintro _ rfl)|(refine CallK.pure h7 (.cons (Sub.refl _) (.cons (Sub.int (by omega)) .nil)) ?_;rintro _ rfl)|refine q6g hacl rfl (by show(j+1)*208<=140737488355328;omega) (by show j+1<=9223372036854775807;omega) (fun x hx=>by rcases q3r.1 hx with rfl;exact⟨rfl,rfl⟩) ?_);conv=>whnf)|(apply bD<;>intro _<;>first|omega|conv=>whnf))
    exact⟨j+1,hj,by omega,Le.mk [] (by simp) (by simp) (by simp) (.cons (.of_eq (by rw[htk,hcs,show n+(cntL (l.take j)+(1+cntL l[j].thn+cntL l[j].els))=n+cntL (l.take j)+1+cntL l[j].thn+cntL l[j].els by omega];rfl)) (.r (.r (.r (.r .nil))))) (.cons rfl (.of_eq (by rw[hav,IG];rfl)) .nil)⟩
   ·have hall:(nmL n l).take j=nmL n l:=q4g (by rw[Jm];exact hj);have hall2:l.take j=l:=q4g hj;have hjl:j=(S.avs (nmL n l)).length:=by rw[S.avs_eq,q3f,Jm];omega
    rw[hall,hall2];conv=>whnf
    repeat' (apply bD<;>intro _<;>first|omega|conv=>whnf)
    refine⟨_,.tup (cs:=[eSs (nmL n l),.int .i64 (n+cntL l:Nat)]) rfl fun i l' c h1 h3=>?_,rfl⟩
    match i,h1,h3 with
    |0,h1,h3=>cases h1;cases h3;exact .hd rfl hjl
    |1,h1,h3=>cases h1;cases h3;exact .p (Sub.refl _)
    |i+2,h1,h3=>simp at h1
def ElS(es es':List AV):Prop:=es'.length=es.length/\∀(m:Nat)(x':AV),es'[m]?=some x'->∃x,es[m]?=some x/\x'.cells.length=x.cells.length/\∀(j:Nat)(c':AV),x'.cells[j]?=some c'->∃c,x.cells[j]?=some c/\Sub c c'
inductive SubH:Heap->Heap->Prop
 |nil:SubH [] []
 |same {c:Nat×Chunk} {H H':Heap} (h:SubH H H'):SubH (c::H) (c::H')
 |els {k:Nat} {e:TypeId} {sz:Nat} {es es':List AV} {H H':Heap} (hp:ElS es es') (h:SubH H H'):SubH ((k,.own e sz es)::H) ((k,.own e sz es')::H')
theorem SubH.get{H H':Heap}(h:SubH H H'):H'.map (·.1)=H.map (·.1)/\∀j c',(j,c')∈H'->(j,c')∈H\/∃e sz es es',(j,Chunk.own e sz es)∈H/\c'=.own e sz es'/\ElS es es':=by
 induction h with
 |nil=>exact⟨rfl,by simp⟩
 | same h ih=>
   refine⟨by simp[ih.1],fun j c' hj=>?_⟩;rcases q3t.1 hj with rfl|hj
   ·exact .inl q3d
   ·rcases ih.2 j c' hj with h1|⟨e,sz,es,es',h1,h2⟩
    ·exact .inl (q3n _ h1)
    ·exact .inr ⟨e,sz,es,es',q3n _ h1,h2⟩
 | @els k e sz es es' H H' hp h ih=>
   refine⟨by simp[ih.1],fun j c' hj=>?_⟩;rcases q3t.1 hj with hj|hj
   ·cases hj;exact .inr ⟨e,sz,es,es',q3d,rfl,hp⟩
   ·rcases ih.2 j c' hj with h1|⟨e,sz,es,es',h1,h2⟩
    ·exact .inl (q3n _ h1)
    ·exact .inr ⟨e,sz,es,es',q3n _ h1,h2⟩
theorem Le.els{N:Nat}{sl:List (Nat×LV)}{H H':Heap}(h:SubH H H'):Le N ⟨sl,H⟩ ⟨sl,H'⟩:=fun σ β a w hr=>by
 obtain⟨hk,hc⟩:=h.get;refine⟨σ,β,⟨hr.size,hr.defers,hr.slots,⟨hr.heap.mem,fun j c' hj=>?_,by show(H'.map (·.1)).Nodup;rw[hk];exact hr.heap.nodup,fun j hj=>hr.heap.apart j (by rw[<-hk];exact hj),fun j hj j' hj'=>hr.heap.inj j (by rw[<-hk];exact hj) j' (by rw[<-hk];exact hj')⟩⟩,Mem.le_refl σ,Frm.refl _ w,fun b h0 h1=>absurd h0 h1,fun b ⟨j,hj,r⟩=>.inl ⟨j,by rw[<-hk];exact hj,r⟩,fun _ _ _=>rfl⟩;rcases hc j c' hj with h1|⟨e,sz,es,es',h1,rfl,h2⟩
 ·exact hr.heap.chunks j c' h1
 ·rcases hr.heap.chunks j _ h1 with⟨h3,h4⟩|⟨i,vs,h3,h4,h5,h6,h7,h8,h9⟩
  ·refine .inl ⟨h3,?_⟩;have:=h2.1;rw[h4]at this;exact q5b this
  ·refine .inr ⟨i,vs,h3,h4,h5,h6,by rw[h2.1];exact h7,h8,fun m x' hx=>?_⟩;obtain⟨x,g1,g2,g3⟩:=h2.2 m x' hx;refine⟨by rw[g2];exact(h9 m x g1).1,fun j c' hc=>?_⟩;obtain⟨c,g4,g5⟩:=g3 j c' hc;obtain⟨u,g6,g7⟩:=(h9 m x g1).2 j c g4;exact⟨u,g6,g5 _ _ g7⟩
def nxE(rows:List (List Int))(t:Int×Int):List (List Int):=rows.set t.1.toNat (rows.getD t.1.toNat []++[t.2])
def NP(n:Nat)(l:List (Int×Int)):List (List Int):=l.foldl nxE (List.replicate n [])
theorem Tm(rows:List (List Int))(t:Int×Int):(nxE rows t).length=rows.length:=q5s
theorem H6:∀(l:List (Int×Int))(rows:List (List Int)),(l.foldl nxE rows).length=rows.length
 |[],_=>rfl
 |t::r,rows=>by rw[q6v,H6 r,Tm]
theorem Wg(n:Nat)(l:List (Int×Int)):(NP n l).length=n:=by
 unfold NP;rw[H6,q5d]
theorem H5:∀(l:List (Int×Int))(rows:List (List Int))(a:Nat),((l.foldl nxE rows).getD a []).length<=(rows.getD a []).length+l.length
 |[],_,_=>q4h _
 | t::r,rows,a=>by
   rw[q6v];have h1:=H5 r (nxE rows t) a;have h2:((nxE rows t).getD a []).length<=(rows.getD a []).length+1:=by
    unfold nxE;simp only[q3p,q6o];by_cases he:t.1.toNat=a
    ·subst he;by_cases hl:t.1.toNat<rows.length
     ·simp[hl]
     ·simp[hl]
    ·simp[he]
   rw[q4m];omega
theorem Ha(n:Nat)(l:List (Int×Int))(a:Nat):((NP n l).getD a []).length<=l.length:=by
 have:=H5 l (List.replicate n []) a;have e:((List.replicate n ([]:List Int)).getD a []).length=0:=by
  rw[q3p,q4s];split<;>rfl
 unfold NP;omega
theorem Tj{N':Nat}{sl:List (Nat×LV)}(n:Nat)(h0:(sl.all fun x=>x.2.xfree 0)=true):
  Le N' ⟨sl,[(0,.own 29 1 (List.replicate n .nils))]⟩ ⟨sl,[(0,.ext (.mat 29 3 1 (List.replicate n []) []))]⟩:=by
 have hm:=Ye (N:=N') (sl:=sl) (H:=[(0,.own 29 1 (List.replicate n .nils))])
  (H':=[(0,.ext (.mat 29 3 1 (List.replicate (List.replicate n AV.nils).length []) []))])
  0 3 1 (e:=29) (es:=List.replicate n .nils) rfl (fun x hx=>q6l hx) rfl h0 rfl rfl (by simp[GW])
 simpa using hm
theorem Nj{p:Pg}(h:XX p=true){j:Nat}{f:Pr}(hj:p.procs[j]?=some f){k:Nat}(h1:QL p.procs j<=k)(h2:k<QL p.procs j+cntL f.body)(hk:(sheetOf p).l[k]?=some it):it.s.id=(k:Int)+1:=by
 obtain⟨t,_,h4,h5⟩:=Kv h hj (a:=(k:Int)+1) (by omega) (by omega);unfold Si at h4;rw[show((k:Int)+1-1).toNat=k by omega,hk]at h4;cases h4;exact h5
theorem AQ{p:Pg}{j:Nat}{f:Pr}(hi:it∈itsOf p j f){y:Int}(hy:y∈UJ (sheetOf p) f it):(⟨it.s.id,y,1⟩:Step)∈QK p j f:=by
 unfold QK;exact q3n _ (q5g.2 ⟨it,hi,q3s.2 ⟨y,hy,rfl⟩⟩)
theorem F3{n:Nat}{part:List Int}(hp:∀k,k<n->0<=part.getD k 0/\part.getD k 0<n){i:Nat}(hi:i<n):∀(l:List (Int×Int)){o:List Bool},o.length=n->(∀t∈l,0<=t.1/\t.1<n)->
  ((l.foldl (LL part) o).getD i false=true↔o.getD i false=true\/∃t∈l,part.getD t.1.toNat 0≠part.getD t.2.toNat 0/\part.getD t.1.toNat 0=i)
 |[],o,_,_=>by simp
 | t::r,o,ho,hr=>by
   rw [q6v,F3 hp hi r (by rw[F5];exact ho) fun u hu=>hr u (q3n _ hu)];have h1:=hr t q3d;have h2:=hp t.1.toNat (by omega);have key:(LL part o t).getD i false=true↔o.getD i false=true\/(part.getD t.1.toNat 0≠part.getD t.2.toNat 0/\part.getD t.1.toNat 0=i):=by
    unfold LL;split
    ·rename_i he;constructor
     ·exact .inl
     ·rintro(h3|⟨h3,_⟩)
      ·exact h3
      ·exact absurd he h3
    ·rename_i he;rw[ZN (by omega)];split
     ·rename_i h3;constructor
      ·intro _;exact .inr ⟨he,by omega⟩
      ·intro _;rfl
     ·rename_i h3;constructor
      ·exact .inl
      ·rintro(h4|⟨_,h4⟩)
       ·exact h4
       ·exact absurd (by omega) h3
   rw[key,or_assoc];constructor
   ·rintro(h3|⟨h3,h4⟩|⟨u,hu,h3⟩)
    ·exact .inl h3
    ·exact .inr ⟨t,q3d,h3,h4⟩
    ·exact .inr ⟨u,q3n _ hu,h3⟩
   ·rintro(h3|⟨u,hu,h3⟩)
    ·exact .inl h3
    ·rcases q3t.1 hu with rfl|hu
     ·exact .inr (.inl h3)
     ·exact .inr (.inr ⟨u,hu,h3⟩)
theorem Cr{n:Nat}{part:List Int}(hn:0<n)(hp:∀k,k<n->0<=part.getD k 0/\part.getD k 0<n)(hi:i<n){l:List (Int×Int)}(hr:∀t∈l,0<=t.1/\t.1<n):
  (Jt n part l).getD i false=true↔part.getD 0 0=i\/part.getD (n-1) 0=i\/∃t∈l,part.getD t.1.toNat 0≠part.getD t.2.toNat 0/\part.getD t.1.toNat 0=i:=by
 have h0:=hp 0 hn;have h1:=hp (n-1) (by omega);unfold Jt;rw[F3 hp hi l (by simp[Vr]) hr];have key:(Vr n part).getD i false=true↔part.getD 0 0=i\/part.getD (n-1) 0=i:=by
  unfold Vr;rw[ZN (by rw[q5s,q5d];omega),ZN (by rw[q5d];omega)];split
  ·exact⟨fun _=>.inr (by omega),fun _=>rfl⟩
  ·split
   ·exact⟨fun _=>.inl (by omega),fun _=>rfl⟩
   ·have:(List.replicate n false).getD i false=false:=by
     rw[q3p,q4s];split<;>rfl
    rw[this];constructor
    ·intro h;cases h
    ·rintro(h|h)<;>omega
 rw[key,or_assoc]
section
variable {p:Pg}{j:Nat}{f:Pr}
theorem Xp{i:Int}(h:0<=i/\i<(cntL f.body+2:Nat)):plP p j f (ZY p j (cntL f.body+2:Nat) i)/\ixI p j f (ZY p j (cntL f.body+2:Nat) i)=i:=by
 unfold ZY ixI YJ plP loI hiI;constructor
 ·(repeat' split)<;>omega
 ·(repeat' split)<;>omega
theorem Co{x:Int}(h:plP p j f x):ZY p j (cntL f.body+2:Nat) (ixI p j f x)=x:=by
 have h1:=Xp (p:=p) (j:=j) (f:=f) (KX h);exact Hf h1.1 h h1.2
theorem Je:prsW (QQ p j f) f=(QQ p j f).real.map (ixP p j f (cntL f.body+2:Nat)):=rfl
theorem Ao(h:XX p=true)(hj:p.procs[j]?=some f):∀t∈prsW (QQ p j f) f,(0<=t.1/\t.1<(cntL f.body+2:Nat))/\0<=t.2/\t.2<(cntL f.body+2:Nat):=fun t ht=>by
 rw[Je]at ht;obtain⟨s,hs,rfl⟩:=q3s.1 ht;obtain⟨h1,h2⟩:=WI h hj s hs;exact⟨KX h1,KX h2⟩
def wE(p:Pg)(j:Nat)(f:Pr):Int->Int->Prop:=rowE (QC (cntL f.body+2) (prsW (QQ p j f) f)).1
def wR(p:Pg)(j:Nat)(f:Pr):Int->Int->Prop:=stR (QQ p j f).real
theorem I0(h:XX p=true)(hj:p.procs[j]?=some f){i k:Int}:wE p j f i k ↔ ∃a b,wR p j f a b/\ixI p j f a=i/\ixI p j f b=k:=by
 unfold wE wR;rw[Mn];constructor
 ·rintro⟨h1,_,_⟩;rw[Je]at h1;obtain⟨s,hs,he⟩:=q3s.1 h1;exact⟨s.src,s.dst,⟨s,hs,rfl,rfl⟩,q5i Prod.fst he,q5i Prod.snd he⟩
 ·rintro⟨a,b,⟨s,hs,rfl,rfl⟩,rfl,rfl⟩;obtain⟨h1,h2⟩:=WI h hj s hs;exact⟨q3s.2 ⟨s,hs,rfl⟩,Ju (KX h1),Ju (KX h2)⟩
theorem O5(h:XX p=true)(hj:p.procs[j]?=some f){b:Int}(hr:wR p j f a b):plP p j f a/\plP p j f b:=by
 obtain⟨s,hs,rfl,rfl⟩:=hr;exact WI h hj s hs
theorem AX(h:XX p=true)(hj:p.procs[j]?=some f){b:Int}(ha:plP p j f a)(hb:plP p j f b):Rch (wE p j f) (ixI p j f a) (ixI p j f b)↔Rch (wR p j f) a b:=by
 constructor
 ·intro hr;obtain⟨c,h1,h2,h3⟩:=hr.closed (S:=fun k=>∃c,plP p j f c/\ixI p j f c=k/\Rch (wR p j f) a c) (by
   rintro i k ⟨c,h1,h2,h3⟩ h4;obtain⟨x,y,h5,h6,h7⟩:=(I0 h hj).1 h4;have h8:=O5 h hj h5;have:x=c:=Hf h8.1 h1 (by rw[h6,h2]);subst this;exact⟨y,h8.2,h7,.tail h3 h5⟩) ⟨a,ha,rfl,.refl⟩
  rw[<-Hf h1 hb h2];exact h3
 ·intro hr;exact(hr.closed (S:=fun c=>plP p j f c/\Rch (wE p j f) (ixI p j f a) (ixI p j f c)) (fun x y ⟨h1,h2⟩ h3=>⟨(O5 h hj h3).2,.tail h2 ((I0 h hj).2 ⟨x,y,h3,rfl,rfl⟩)⟩) ⟨ha,.refl⟩).2
theorem IA(h:XX p=true)(hj:p.procs[j]?=some f){b:Int}(ha:plP p j f a)(hb:plP p j f b):sccP (wE p j f) (ixI p j f a) (ixI p j f b)↔sccP (wR p j f) a b:=by
 unfold sccP;rw[AX h hj ha hb,AX h hj hb ha]
def FX(p:Pg)(j:Nat)(f:Pr)(i:Int):Int:=(WE (QQ p j f) f).getD i.toNat 0
theorem Wb:WE (QQ p j f) f=LR (cntL f.body+2) (QC (cntL f.body+2) (prsW (QQ p j f) f)).1:=rfl
theorem N7{i:Int}(hi:0<=i/\i<(cntL f.body+2:Nat)):MinP (wE p j f) i (FX p j f i):=by
 unfold FX;rw[Wb];exact LT (JO _ _).1 hi
theorem Ce{k:Nat}(hk:k<cntL f.body+2):0<=(WE (QQ p j f) f).getD k 0/\(WE (QQ p j f) f).getD k 0<(cntL f.body+2:Nat):=by
 rw[Wb];exact N5 (JO _ _).1 hk
theorem N6:(WE (QQ p j f) f).length=cntL f.body+2:=by rw[Wb,FZ]
theorem MinP.same{E:Int->Int->Prop}{x y v:Int}(h:MinP E x v)(hs:sccP E x y):MinP E y v:=⟨hs.symm.trans h.scc,fun z hz=>h.le z (hs.trans hz)⟩
theorem Ca{i k:Int}(hi:0<=i/\i<(cntL f.body+2:Nat))(hk:0<=k/\k<(cntL f.body+2:Nat)):FX p j f i=FX p j f k↔sccP (wE p j f) i k:=by
 have h1:=N7 (p:=p) (j:=j) hi;have h2:=N7 (p:=p) (j:=j) hk;constructor
 ·intro he;rw[<-he]at h2;exact h1.scc.trans h2.scc.symm
 ·intro hs;exact(h1.same hs).uniq h2
theorem BL(h:XX p=true)(hj:p.procs[j]?=some f){b:Int}(ha:plP p j f a)(hb:plP p j f b):FX p j f (ixI p j f a)=FX p j f (ixI p j f b)↔sccP (wR p j f) a b:=by
 rw[Ca (KX ha) (KX hb),IA h hj ha hb]
structure TrapP(p:Pg)(j:Nat)(f:Pr)(l:List Int)(r:Int):Prop where
 pl:plP p j f r
 mem:∀b,b∈l↔plP p j f b/\sccP (wR p j f) r b
 cl:∀b c,sccP (wR p j f) r b->wR p j f b c->sccP (wR p j f) r c
 n0:¬sccP (wR p j f) r 0
 nx:¬sccP (wR p j f) r (-1)
theorem Sx{plc:Int->Int}{part:List Int}{q:Nat}{b:Int}:b∈FH plc part i q ↔ ∃k:Nat,k<q/\part.getD k 0=i/\plc k=b:=by
 unfold FH;constructor
 ·intro h;obtain⟨k,hk,rfl⟩:=q3s.1 h;obtain⟨h1,h2⟩:=q5q.1 hk;exact⟨k,q6r.1 h1,q7g.1 h2,rfl⟩
 ·rintro⟨k,h1,h2,rfl⟩;exact q3s.2 ⟨k,q5q.2 ⟨q6r.2 h1,q7g.2 h2⟩,rfl⟩
theorem ix0:ixI p j f 0=0:=by unfold ixI YJ;rw[if_pos rfl]
theorem ix1:ixI p j f (-1)=((cntL f.body+2:Nat):Int)-1:=by unfold ixI YJ;rw[if_neg (by omega),if_pos rfl]
theorem pl0:plP p j f 0:=.inl rfl
theorem pl1:plP p j f (-1):=.inr (.inl rfl)
theorem Xn(k:Nat):(WE (QQ p j f) f).getD k 0=FX p j f k:=by
 unfold FX;rw[Int.toNat_natCast]
theorem Es(h:XX p=true)(hj:p.procs[j]?=some f)(hi:i<cntL f.body+2):(Jt (cntL f.body+2) (WE (QQ p j f) f) (prsW (QQ p j f) f)).getD i false=true ↔
  FX p j f (ixI p j f 0)=i\/FX p j f (ixI p j f (-1))=i\/∃a b,wR p j f a b/\¬sccP (wR p j f) a b/\FX p j f (ixI p j f a)=i:=by
 rw[Cr (by omega) (fun k hk=>Ce hk) hi fun t ht=>(Ao h hj t ht).1,ix0,ix1];have e1:(WE (QQ p j f) f).getD (cntL f.body+2-1) 0=FX p j f (((cntL f.body+2:Nat):Int)-1):=by
  unfold FX;congr 1;omega
 have e0:(WE (QQ p j f) f).getD 0 0=FX p j f 0:=rfl;rw[e0,e1];refine or_congr Iff.rfl (or_congr Iff.rfl ?_);constructor
 ·rintro⟨t,ht,h1,h2⟩;rw[Je]at ht;obtain⟨s,hs,rfl⟩:=q3s.1 ht;obtain⟨h3,h4⟩:=WI h hj s hs;exact⟨s.src,s.dst,⟨s,hs,rfl,rfl⟩,fun hsc=>h1 ((BL h hj h3 h4).2 hsc),h2⟩
 ·rintro⟨a,b,⟨s,hs,rfl,rfl⟩,h1,h2⟩;obtain⟨h3,h4⟩:=WI h hj s hs;exact⟨ixP p j f (cntL f.body+2:Nat) s,by rw[Je];exact q3s.2 ⟨s,hs,rfl⟩,fun he=>h1 ((BL h hj h3 h4).1 he),h2⟩
theorem Fd{l:List Int}:l∈trapsW (QQ p j f) f ↔ ∃i:Nat,i<cntL f.body+2/\FX p j f i=i/\(Jt (cntL f.body+2) (WE (QQ p j f) f) (prsW (QQ p j f) f)).getD i false=false/\l=FH (ZY p j (cntL f.body+2:Nat)) (WE (QQ p j f) f) i (cntL f.body+2):=by
 unfold trapsW Q2;rw[N6];constructor
 ·intro hl;obtain⟨i,hi,rfl⟩:=q3s.1 hl;obtain⟨h1,h2⟩:=q5q.1 hi;unfold V2 at h2;rw[q4k,q7g,q6y,Xn]at h2;exact⟨i,q6r.1 h1,h2.1,h2.2,rfl⟩
 ·rintro⟨i,h1,h2,h3,rfl⟩;refine q3s.2 ⟨i,q5q.2 ⟨q6r.2 h1,?_⟩,rfl⟩;unfold V2;rw[q4k,q7g,q6y,Xn];exact⟨h2,h3⟩
theorem CI(h:XX p=true)(hj:p.procs[j]?=some f)(hi:i<cntL f.body+2)(hp:FX p j f i=i)(b:Int):
  b∈FH (ZY p j (cntL f.body+2:Nat)) (WE (QQ p j f) f) i (cntL f.body+2)↔plP p j f b/\sccP (wR p j f) (ZY p j (cntL f.body+2:Nat) i) b:=by
 obtain⟨h1,h2⟩:=Xp (p:=p) (j:=j) (f:=f) (i:=i) (by omega);rw[Sx];constructor
 ·rintro⟨k,h3,h4,rfl⟩;obtain⟨h5,h6⟩:=Xp (p:=p) (j:=j) (f:=f) (i:=k) (by omega);refine⟨h5,(BL h hj h1 h5).1 ?_⟩;rw[h2,h6,hp,<-Xn,h4]
 ·rintro⟨h3,h4⟩;have h5:=KX h3;refine⟨(ixI p j f b).toNat,by omega,?_,?_⟩
  ·rw[Xn,show(((ixI p j f b).toNat:Nat):Int)=ixI p j f b by omega,<-(BL h hj h1 h3).2 h4,h2,hp]
  ·rw[show(((ixI p j f b).toNat:Nat):Int)=ixI p j f b by omega,Co h3]
theorem Sz(h:XX p=true)(hj:p.procs[j]?=some f){l:List Int}(hl:l∈trapsW (QQ p j f) f):∃r,TrapP p j f l r:=by
 obtain⟨i,hi,hp,ho,rfl⟩:=Fd.1 hl;obtain⟨h1,h2⟩:=Xp (p:=p) (j:=j) (f:=f) (i:=i) (by omega);have ho2:¬_:=fun hx=>by
  have:=(Es h hj hi).2 hx;rw[ho]at this;cases this
 have hpr:FX p j f (ixI p j f (ZY p j (cntL f.body+2:Nat) i))=i:=by rw[h2,hp]
 refine⟨_,h1,CI h hj hi hp,fun b c hb hbc=>?_,fun hs=>ho2 (.inl ?_),fun hs=>ho2 (.inr (.inl ?_))⟩
 ·have h3:=O5 h hj hbc;by_cases hsc:sccP (wR p j f) b c
  ·exact hb.trans hsc
  ·refine absurd (.inr (.inr ⟨b,c,hbc,hsc,?_⟩)) ho2;rw[<-(BL h hj h1 h3.1).2 hb,hpr]
 ·rw[<-(BL h hj h1 pl0).2 hs,hpr]
 ·rw[<-(BL h hj h1 pl1).2 hs,hpr]
end
theorem Nw{p:Pg}{j:Nat}{f:Pr}(hj:p.procs[j]?=some f)(hcn:cntP p.procs<=200):(QQ p j f).real.length<=100000:=by
 obtain⟨_,_,_,hlen,hsp⟩:=QU p;obtain⟨_,_,hle,_⟩:=hsp j f hj;have h9:=F0 (QK p j f);have h10:=Qr p j f;show(WX (QK p j f)).length<=100000;omega
theorem N2{p:Pg}(h:XX p=true){j:Nat}{f:Pr}(hj:p.procs[j]?=some f):∀it∈itsOf p j f,∀s∈fOf it,okSt s:=fun it hi s hs=>by
 obtain⟨hm,_⟩:=QD h;obtain⟨_,_,hcn⟩:=XS h;obtain⟨_,_,_,hlen,hsp⟩:=QU p;obtain⟨_,_,hle,_⟩:=hsp j f hj;have h1:=VK hm hj (KQ hi);have h2:=(LD hi).1;unfold fOf at hs;split at hs
 ·rw[q3r.1 hs];unfold okI at h2;unfold okSt;constructor
  ·show it.s.id≠_;omega
  ·show it.next≠_;omega
 ·cases hs
theorem Nm{p:Pg}(h:XX p=true){j:Nat}{f:Pr}(hj:p.procs[j]?=some f){l:List Int}(hl:l∈trapsW (QQ p j f) f):l.length<=cntL f.body+2/\∀id∈l,(QL p.procs j:Int)+1<=id/\id<=(QL p.procs j+cntL f.body:Nat):=by
 constructor
 ·obtain⟨i,_,_,_,rfl⟩:=Fd.1 hl;exact Ff _ _ _ _
 ·intro id hid;obtain⟨r,ht⟩:=Sz h hj hl;obtain⟨h1,h2⟩:=(ht.mem id).1 hid;rcases h1 with rfl|rfl|h1
  ·exact absurd h2 ht.n0
  ·exact absurd h2 ht.nx
  ·exact h1
theorem Og{p:Pg}(h:XX p=true){j:Nat}{f:Pr}(hj:p.procs[j]?=some f):WayT (QQ p j f) f (cntL f.body+2):=by
 obtain⟨_,_,hcn⟩:=XS h;obtain⟨_,_,_,hlen,hsp⟩:=QU p;obtain⟨_,_,hle,_⟩:=hsp j f hj;refine⟨rfl,hj,by show cntP p.procs<=1000;omega,by omega,by omega,q5p (Nw hj hcn) (by decide),Ao h hj,?_,fun l hl=>?_,fun s hs=>(BU h hj).2.2 s (((KJ h hj).2 s).1 hs),N2 h hj⟩
 ·have:=Fh (ZY p j (cntL f.body+2:Nat)) (WE (QQ p j f) f) (Jt (cntL f.body+2) (WE (QQ p j f) f) (prsW (QQ p j f) f)) (cntL f.body+2);have e:trapsW (QQ p j f) f=Q2 (ZY p j (cntL f.body+2:Nat)) (WE (QQ p j f) f) (Jt (cntL f.body+2) (WE (QQ p j f) f) (prsW (QQ p j f) f)) (cntL f.body+2):=by
   unfold trapsW;rw[N6];rfl
  rw[e];omega
 ·obtain⟨h1,h2⟩:=Nm h hj hl;refine⟨by omega,fun id hid=>?_⟩;have:=h2 id hid;show 1<=id/\id<=(sheetOf p).l.length;omega
instance (a b:Step):Decidable (LB a b):=inferInstanceAs (Decidable (_\/_))
instance:DecidableEq Step:=fun a b=>decidable_of_iff (a.src=b.src/\a.dst=b.dst/\a.kind=b.kind) ⟨fun h=>JR h.1 h.2.1 h.2.2,fun h=>by rw[h];exact⟨rfl,rfl,rfl⟩⟩
theorem EZ{a b:Step}(ha:okSt a)(hb:okSt b)(h:GE b a=false):(a.src=b.src/\a.dst=b.dst/\a.kind<=b.kind)\/LB a b:=by
 rw[q8f,ne_eq,KF]at h;unfold LB;by_cases h1:ZV a.src=ZV b.src
 ·by_cases h2:ZV a.dst=ZV b.dst
  ·exact .inl ⟨KU ha.1 hb.1 h1,KU ha.2 hb.2 h2,by omega⟩
  ·exact .inr (by omega)
 ·exact .inr (by omega)
theorem Qy:∀(l:List Step)(a:Step),okSt a->(∀s∈l,okSt s)->(a::l).Pairwise (fun a b=>GE b a=false)->
  (∀s∈XZ a l,LB a s)/\(XZ a l).Pairwise LB/\(∀s∈XZ a l,s∈l)/\∀s∈l,(s.src=a.src/\s.dst=a.dst/\a.kind<=s.kind)\/∃s'∈XZ a l,s'.src=s.src/\s'.dst=s.dst/\s'.kind<=s.kind
 |[],a,_,_,_=>by simp[XZ]
 | b::r,a,ha,hl,h=>by
   have hb:=hl b q3d;have hr:∀s∈r,okSt s:=fun s hs=>hl s (q3n _ hs);rw[q6n]at h;obtain⟨h1,h2⟩:=h;obtain⟨i1,i2,i3,i4⟩:=Qy r b hb hr h2;have hab:=EZ ha hb (h1 b q3d);rw[XZ];cases hs:ZJ b a with
   | true=>
     unfold ZJ at hs;simp only[q4k,q4o]at hs;have hk:a.kind<=b.kind:=by
      rcases hab with h3|h3
      ·exact h3.2.2
      ·unfold LB at h3;rw[hs.1,hs.2]at h3;omega
     rw[q4v];refine⟨fun s hs'=>?_,i2,fun s hs'=>q3n _ (i3 s hs'),fun s hs'=>?_⟩
     ·have:=i1 s hs';unfold LB at this⊢
      rwa[<-hs.1,<-hs.2]
     ·rcases q3t.1 hs' with rfl|hs'
      ·exact .inl ⟨hs.1,hs.2,hk⟩
      ·rcases i4 s hs' with⟨h3,h4,h5⟩|h3
       ·exact .inl ⟨by rw[h3,hs.1],by rw[h4,hs.2],by omega⟩
       ·exact .inr h3
   | false=>
     have hlt:LB a b:=by
      rcases hab with h3|h3
      ·unfold ZJ at hs;simp[h3.1,h3.2.1]at hs
      ·exact h3
     rw[q4f];refine⟨fun s hs'=>?_,q6n.2 ⟨i1,i2⟩,fun s hs'=>?_,fun s hs'=>?_⟩
     ·rcases q3t.1 hs' with rfl|hs'
      ·exact hlt
      ·exact LP hlt (i1 s hs')
     ·rcases q3t.1 hs' with rfl|hs'
      ·exact q3d
      ·exact q3n _ (i3 s hs')
     ·rcases q3t.1 hs' with rfl|hs'
      ·exact .inr ⟨s,q3d,rfl,rfl,q8k _⟩
      ·rcases i4 s hs' with⟨h3,h4,h5⟩|⟨s',h3,h4⟩
       ·exact .inr ⟨b,q3d,h3.symm,h4.symm,h5⟩
       ·exact .inr ⟨s',q3n _ h3,h4⟩
theorem HO{l:List Step}(hok:∀s∈l,okSt s):(WX l).Pairwise LB/\(∀s∈WX l,s∈l)/\∀s∈l,∃s'∈WX l,s'.src=s.src/\s'.dst=s.dst/\s'.kind<=s.kind:=by
 have hp:∀s,s∈UC l↔s∈l:=fun s=>(V0 l).mem_iff;have hs:=MX l;unfold WX;cases hq:UC l with
 | nil=>
   rw[hq]at hp;refine⟨by simp[BY],by simp[BY],fun s hs=>?_⟩;have:=(hp s).2 hs;cases this
 | cons a r=>
   rw[hq]at hp hs;have hok':∀s∈a::r,okSt s:=fun s h=>hok s ((hp s).1 h);obtain⟨h1,h2,h3,h4⟩:=Qy r a (hok' a q3d) (fun s h=>hok' s (q3n _ h)) hs;rw[BY];refine⟨q6n.2 ⟨h1,h2⟩,fun s hs'=>?_,fun s hs'=>?_⟩
   ·rcases q3t.1 hs' with rfl|hs'
    ·exact(hp s).1 q3d
    ·exact(hp s).1 (q3n _ (h3 s hs'))
   ·rcases q3t.1 ((hp s).2 hs')with rfl|hs'
    ·exact⟨s,q3d,rfl,rfl,q8k _⟩
    ·rcases h4 s hs' with⟨h5,h6,h7⟩|⟨s',h5,h6⟩
     ·exact⟨a,q3d,h5.symm,h6.symm,h7⟩
     ·exact⟨s',q3n _ h5,h6⟩
theorem Ty{l:List Step}(h:l.Pairwise LB){a b:Step}(ha:a∈l)(hb:b∈l)(h1:a.src=b.src)(h2:a.dst=b.dst):a=b:=by
 have hn:∀{x y:Step},x.src=y.src->x.dst=y.dst->¬LB x y:=fun {x y} e1 e2 hlt=>by
  unfold LB at hlt;rw[e1,e2]at hlt;omega
 induction h with
 |nil=>cases ha
 | @cons c r hc hr ih=>
   rcases q3t.1 ha with e1|ha'
   ·rcases q3t.1 hb with e2|hb'
    ·rw[e1,e2]
    ·exact absurd (hc b hb') (by rw[<-e1];exact hn h1 h2)
   ·rcases q3t.1 hb with e2|hb'
    ·exact absurd (hc a ha') (by rw[<-e2];exact hn h1.symm h2.symm)
    ·exact ih ha' hb'
theorem FO{l m:List Step}(hok:∀s∈l,okSt s)(h1:m.Pairwise LB)(h2:∀s∈m,s∈l)(h3:∀s∈l,∃s'∈m,s'.src=s.src/\s'.dst=s.dst/\s'.kind<=s.kind):WX l=m:=by
 obtain⟨g1,g2,g3⟩:=HO hok;refine Y7 g1 h1 fun s=>⟨fun hs=>?_,fun hs=>?_⟩
 ·obtain⟨a,ha,h4,h5,h6⟩:=h3 s (g2 s hs);obtain⟨b,hb,h7,h8,h9⟩:=g3 a (h2 a ha);have:=Ty g1 hb hs (h7.trans h4) (h8.trans h5);subst this;have:a=b:=JR h4 h5 (by omega);rw[<-this];exact ha
 ·obtain⟨a,ha,h4,h5,h6⟩:=g3 s (h2 s hs);obtain⟨b,hb,h7,h8,h9⟩:=h3 a (g2 a ha);have:=Ty h1 hb hs (h7.trans h4) (h8.trans h5);subst this;have:a=b:=JR h4 h5 (by omega);rw[<-this];exact ha
theorem IS:(QQ someP 1 f1).real=[⟨0,5,1⟩,⟨5,6,1⟩,⟨6,7,1⟩,⟨6,8,1⟩,⟨7,-1,1⟩,⟨8,-1,1⟩]:=ID
theorem IT:(QQ someP 0 f0).real=[⟨0,1,1⟩,⟨1,2,1⟩,⟨2,3,1⟩,⟨3,4,1⟩,⟨4,-1,1⟩]:=IF
theorem Ou:prsW (QQ someP 1 f1) f1=[(0,1),(1,2),(2,3),(2,4),(3,5),(4,5)]:=by
 unfold prsW;rw[IS]
 kernel_rfl
theorem Ov:prsW (QQ someP 0 f0) f0=[(0,1),(1,2),(2,3),(3,4),(4,5)]:=by
 unfold prsW;rw[IT]
 kernel_rfl
theorem II:trapsW (QQ someP 1 f1) f1=[]:=by
 unfold trapsW WE;rw[Ou]
 kernel_rfl
theorem IE:trapsW (QQ someP 0 f0) f0=[]:=by
 unfold trapsW WE;rw[Ov]
 kernel_rfl
theorem Oi:HN (QQ someP 1 f1) f1=[⟨0,5,1⟩,⟨5,6,1⟩,⟨6,7,1⟩,⟨6,8,1⟩,⟨7,-1,1⟩,⟨8,-1,1⟩]:=by
 unfold HN VT;rw[II,IS];exact FO (by unfold okSt;decide) (by decide) (by decide) (by decide)
theorem Cn{p:Pg}(h:XX p=true){j:Nat}{f:Pr}(hj:p.procs[j]?=some f):¬wR p j f a 0:=fun⟨s,hs,_,hd⟩=>by
 have h1:=((BU h hj).2.1 s (((KJ h hj).2 s).1 hs)).2;unfold okI at h1;omega
theorem Bg{p:Pg}(h:XX p=true){j:Nat}{f:Pr}(hj:p.procs[j]?=some f){t:S}(ht:t∈flL f.body):Si p t.id=some t:=by
 have hb:=VK (QD h).1 hj ht;obtain⟨u,hu,h1,h2⟩:=Kv h hj hb.1 hb.2;obtain⟨it,hi,rfl⟩:=IW (p:=p) (j:=j) ht;obtain⟨iu,hiu,rfl⟩:=IW (p:=p) (j:=j) hu;rw[Am (QD h).1 hj hiu hi h2]at h1;exact h1
theorem MU{p:Pg}(h:XX p=true){j:Nat}{f:Pr}(hj:p.procs[j]?=some f){s:Step}:s∈VT (QQ p j f) f ↔ ∃l∈trapsW (QQ p j f) f,∃t∈flL f.body,t.id∈l/\t.kind=10/\s=⟨t.id,-1,3⟩:=by
 unfold VT;constructor
 ·intro hs;obtain⟨l,hl,hs⟩:=q5g.1 hs;obtain⟨id,hid,hs⟩:=q5g.1 hs;have hb:=(Nm h hj hl).2 id hid;obtain⟨t,ht,h1,h2⟩:=Kv h hj hb.1 hb.2;have e:(QQ p j f).p=p:=rfl;unfold vOf at hs;rw[e,h1]at hs;simp only at hs;split at hs
  ·rename_i hk;exact⟨l,hl,t,ht,by rw[h2];exact hid,hk,by rw[h2];simpa using hs⟩
  ·cases hs
 ·rintro⟨l,hl,t,ht,hid,hk,rfl⟩;refine q5g.2 ⟨l,hl,q5g.2 ⟨t.id,hid,?_⟩⟩;have e:(QQ p j f).p=p:=rfl;unfold vOf;rw[e,Bg h hj ht];simp[hk]
theorem J4{p:Pg}(h:XX p=true){j:Nat}{f:Pr}(hj:p.procs[j]?=some f):∀s∈VT (QQ p j f) f++(QQ p j f).real,okSt s:=fun s hs=>
 (q3a.1 hs).elim ((Og h hj).virt_ok s) ((Og h hj).hok s)
theorem Ra{p:Pg}(h:XX p=true){j:Nat}{f:Pr}(hj:p.procs[j]?=some f){s:Step}(hs:s∈VT (QQ p j f) f++(QQ p j f).real):stR (HN (QQ p j f) f) s.src s.dst:=by
 obtain⟨s',h1,h2,h3,_⟩:=(HO (J4 h hj)).2.2 s hs;exact⟨s',h1,h2,h3⟩
theorem P9{p:Pg}(h:XX p=true){j:Nat}{f:Pr}(hj:p.procs[j]?=some f):(HN (QQ p j f) f).length<=200000:=by
 obtain⟨_,_,hcn⟩:=XS h;obtain⟨_,_,_,hlen,hsp⟩:=QU p;obtain⟨_,_,hle,_⟩:=hsp j f hj;obtain⟨h1,h2,_⟩:=HO (J4 h hj);have h3:=Wf (l:=HN (QQ p j f) f) (m:=(QQ p j f).real++(Xg (QL p.procs j) (cntL f.body)).map fun id=>⟨id,-1,3⟩) (Cg h1) fun s hs=>by
  rcases q3a.1 (h2 s hs)with h4|h4
  ·obtain⟨l,hl,t,ht,hid,hk,rfl⟩:=(MU h hj).1 h4;have hb:=VK (QD h).1 hj ht;exact q3a.2 (.inr (q3s.2 ⟨t.id,C2 hb.1 hb.2,rfl⟩))
  ·exact q3a.2 (.inl h4)
 rw[q3m,q3f]at h3;have h4:=Nw hj hcn;have h5:(Xg (QL p.procs j) (cntL f.body)).length=cntL f.body:=by unfold Xg;simp
 omega
theorem Wr.u64{n:Int}{K:Int->Prop}(h1:0<=n)(h2:n<=18446744073709551615)(hk:K n):Wr .u64 n K:=
 .fit ⟨by simp[IntKind.min,IntKind.signed];omega,by simp[IntKind.max,IntKind.signed,IntKind.bits];omega⟩ hk
theorem Rq{P:Program}{hr:Bool}{s:St}{o:Oper}{K:LV->Prop}{t u:TypeId}{x y:Operand}(hop:o.op=.binOp .shr t x y u)(ha:0<=a)(hx:QR s.sl x=.p (.int .u64 a))(hy:QR s.sl y=.p (.int .u64 1)){m:Int}(hm:m=a/2)(hK:K (.p (.int .u64 m))):ValO P hr s o K:=by
 subst hm;refine⟨fun σ β ac w hs _=>⟨_,.int .u64 (a/2),hK,.p (.int _ _),fun w' _ _=>?_⟩⟩;have h1:=QZ hs x;have h2:=QZ hs y;rw[hx]at h1;rw[hy]at h2;cases h1 with
 | p h1=>
   cases h2 with
   | p h2=>
     have key:∀(n:Int)(v:Value),Rep σ (.int .u64 n) v->v=.int .u64 n:=fun n v hv=>by
      cases hv;rfl
     have e1:=key _ _ h1;have e2:=key _ _ h2;have e3:a.fdiv (2^1)=a/2:=Int.fdiv_eq_ediv_of_nonneg _ (by decide);have hg:(eqGuard .shr t x y (.int .u64 a) (.int .u64 1)).run P w'=.ok () w':=by unfold eqGuard;rfl
     simp only[execOp,hop,e1,e2,Sem.run_bind,hg,Result.andThen_ok,binOp,Op.shift];rw[if_neg (by decide)];simp only[show min (1:Int).toNat IntKind.u64.bits=1 by decide,e3];rfl
theorem ZA(l m:List Str):SpecP prog 89 [eStrs l,eStrs m] (fun r=>r=.bool (decide (l=m))):=by
 refine sB UB func89 rfl call89 ?_;conv=>whnf
 have h1:(l.map AV.str).length=l.length:=q3f _;have h2:(m.map AV.str).length=m.length:=q3f _;repeat' (first|(refine iM fun _=>?_;conv=>whnf)|(apply bE<;>intro _<;>first|omega|conv=>whnf))
 all_goals first
  |exact RetK.ff (q6f fun h=>by subst h;omega)
  |skip
 have hlen:l.length=m.length:=by omega
 refine LoopK.inv QY (fun j:Nat=>⟨[(0,.p (eStrs l)),(1,.p (eStrs m)),(12,.p (.int .i64 (l.map AV.str).length)),(13,.p (.int .i64 j))],[]⟩) (fun j=>j<=l.length/\l.take j=m.take j) (fun j=>l.length-j) 0 (Le.of_eq rfl) ⟨q3o _,rfl⟩ ?_;rintro j ⟨h3,h4⟩;rcases q4w j l.length with hj|hj
 ·have hjm:j<m.length:=by omega
  have hst:l[j]=m[j]->l.take (j+1)=m.take (j+1):=fun he=>by rw[q4y hj,q4y hjm,h4,he]
  have hno:l[j]≠m[j]->¬l=m:=fun hne he=>hne (by subst he;rfl);conv=>whnf
  repeat' (first|((first|refine dA ?_|(refine iA fun _=>?_)|refine wI ?_);conv=>whnf)|(apply bD<;>intro _<;>first|omega|conv=>whnf)|(apply bN<;>intro _<;>conv=>whnf))
  all_goals first
   | (have h9:l[j]=m[j]:=eq_of_beq (by assumption)
      exact⟨j+1,⟨hj,hst h9⟩,by omega,Le.of_eq rfl⟩)
   | (have h9:¬l[j]=m[j]:=by
       have h8:(l[j]==m[j])=false:=by assumption
       simpa using h8
      exact RetK.ff (q6f (hno h9)))
 ·rw[q4g hj,q4g (by omega)]at h4;conv=>whnf
  repeat' (apply bD<;>intro _<;>first|omega|conv=>whnf)
  all_goals exact RetK.tt (q6t h4)
theorem MO(a:Str):SpecP prog 162 [.str a] (fun r=>r=.bool false):=by
 refine sB DM func162 rfl call162 ?_;conv=>whnf
 skip
 all_goals exact RetK.bool (by simp)
theorem DG(a:Str):SpecP prog 200 [.str a] (fun r=>r=.bool false):=by
 refine sB GO func200 rfl call200 ?_;conv=>whnf
 skip
 all_goals exact RetK.bool (by simp)
theorem X3(a b:Str):SpecP prog 199 [.str a,.str b] (fun r=>r=.bool (Op.bytesLess a b)):=by
 refine sB PV func199 rfl call199 ?_;conv=>whnf
 repeat' (first|(refine cP (MO a) ?_;conv=>whnf)|(apply bB<;>intro _<;>conv=>whnf))
 all_goals first
  |contradiction
  |exact RetK.p rfl
theorem VU(l:List Str)(x:Str)(hs:l.Pairwise ltT)(hlen:l.length<=1000000000):SpecP prog 158 [eStrs l,.str x] (fun r=>∃k:Int,r=.tup [.int .i64 k,.bool (inS l x)]):=by
 refine sB WD func158 rfl call158 ?_;conv=>whnf
 have hll:(l.map AV.str).length=l.length:=q3f _;repeat' (refine iM fun _=>?_;conv=>whnf)
 refine LoopK.inv QY (fun y:Nat×Nat=>⟨[(0,.p (eStrs l)),(1,.p (.str x)),(6,.p (.int .i64 (l.map AV.str).length)),(7,.p (.int .i64 y.1)),(8,.p (.int .i64 y.2))],[]⟩) (fun y=>y.1<=y.2/\y.2<=l.length/\(∀(k:Nat)(h:k<l.length),k<y.1->ltT l[k] x)/\∀(k:Nat)(h:k<l.length),y.2<=k->¬ltT l[k] x) (fun y=>y.2-y.1) (0,l.length) (Le.of_eq (by rw[hll];rfl)) ⟨q3o _,q4h _,fun k h h1=>by simp only at h1;omega,fun k h h1=>by simp only at h1;omega⟩ ?_;rintro⟨i,j⟩ ⟨h1,h2,h3,h4⟩;simp only at h1 h2 h3 h4⊢;have hlt:∀(a b:Nat)(ha:a<l.length)(hb:b<l.length),a<b->ltT l[a] l[b]:=fun a b ha hb hab=>List.pairwise_iff_getElem.1 hs a b ha hb hab;rcases q4w i j with hij|hij
 ·have hh:(i+j)/2<l.length:=by omega
  have hL:=X3 l[(i+j)/2] x;conv=>whnf
  repeat' (first|((first|(refine iA fun _=>?_)|refine wI ?_|refine Wr.u64 (by omega) (by omega) ?_|refine Rq rfl (by omega) rfl rfl (m:=(((i+j)/2:Nat):Int)) (by omega) ?_|refine cP hL ?_);conv=>whnf)|(apply bD<;>intro _<;>first|omega|conv=>whnf)|(apply bB<;>intro _<;>conv=>whnf))
  all_goals first
   | (have h9:Op.bytesLess l[(i+j)/2] x=true:=by assumption
      refine⟨((i+j)/2+1,j),⟨by simp only;omega,h2,fun k hk hk2=>?_,h4⟩,by simp only;omega,Le.of_eq rfl⟩;simp only at hk2;rcases q4w k ((i+j)/2)with h10|h10
      ·exact ltT.trans _ _ _ (hlt _ _ hk hh h10) h9
      ·have:k=(i+j)/2:=by omega
       subst this;exact h9)
   | (have h9:Op.bytesLess l[(i+j)/2] x=false:=by assumption
      have h11:¬ltT l[(i+j)/2] x:=fun h=>by unfold ltT at h;rw[h9]at h;cases h
      refine⟨(i,(i+j)/2),⟨by simp only;omega,by simp only;omega,h3,fun k hk hk2 h12=>?_⟩,by simp only;omega,Le.of_eq rfl⟩;simp only at hk2;rcases q4w ((i+j)/2) k with h10|h10
      ·exact h11 (ltT.trans _ _ _ (hlt _ _ hh hk h10) h12)
      ·have:k=(i+j)/2:=by omega
       subst this;exact h11 h12)
 ·obtain rfl:i=j:=by omega
  rcases q4w i l.length with hi|hi
  ·have hin:inS l x=(l[i]==x):=by
    rw[Bool.eq_iff_iff,HA,q7g];constructor
    ·intro hx;obtain⟨k,hk,rfl⟩:=q6k.1 hx;rcases Nat.lt_trichotomy k i with h5|h5|h5
     ·exact absurd (h3 k hk h5) (W8 _)
     ·subst h5;rfl
     ·exact absurd (hlt i k hi hk h5) (h4 i hi (q4h _))
    ·intro h5;rw[<-h5];exact q4u hi
   have hN:=DG l[i];conv=>whnf
   repeat' (first|((first|(refine iA fun _=>?_)|refine cP hN ?_);conv=>whnf)|(apply bD<;>intro _<;>first|omega|conv=>whnf)|(apply bB<;>intro _<;>conv=>whnf))
   all_goals first
    |(exfalso;omega)
    |(exfalso;simp_all;done)
    | (have h9:inS l x=true:=by rw[hin];assumption
       exact⟨_,.p (Sub.tup (.cons (Sub.refl _) (.cons (Sub.tt h9) .nil))),_,rfl⟩)
    | (have h9:inS l x=false:=by rw[hin];assumption
       exact⟨_,.p (Sub.tup (.cons (Sub.refl _) (.cons (Sub.ff h9) .nil))),_,rfl⟩)
  ·have hin:inS l x=false:=by
    cases h5:inS l x with
    |false=>rfl
    | true=>
      obtain⟨k,hk,h6⟩:=q6k.1 (HA.1 h5);exact absurd (h3 k hk (by omega)) (by rw[h6];exact W8 _)
   conv=>whnf
   repeat' (apply bD<;>intro _<;>first|omega|conv=>whnf)
   all_goals first
    |(exfalso;omega)
    |exact⟨_,.p (Sub.tup (.cons (Sub.refl _) (.cons (Sub.ff hin) .nil))),_,rfl⟩
    |exact⟨_,.p (Sub.refl _),_,by rw[hin];rfl⟩
theorem Xj(l:List Str)(x:Str)(hs:l.Pairwise ltT)(hlen:l.length<=1000000000):SpecP prog 99 [eStrs l,.str x] (fun r=>r=.bool (inS l x)):=by
 refine sB Na func99 rfl call99 ?_;conv=>whnf
 have hB:=VU l x hs hlen;repeat' (refine CallK.pure hB (.cons (Sub.refl _) (.cons (Sub.refl _) .nil)) ?_;rintro _ ⟨k,rfl⟩;conv=>whnf)
 all_goals first
  |exact RetK.p rfl
theorem F6{σ:Mem}{a:Param}{v:Value}(h:Rep σ (.agg a.cells) v):v=.agg #[.string ⟨a.name.toArray⟩,.bool a.ref]:=by
 cases h with
 | agg cs vs u hn hc hr=>
   have hs:vs.size=2:=hn;have g0:vs[0]?=some (.string ⟨a.name.toArray⟩):=by
    have h1:=hc 0 (.str a.name) rfl;have h2:=hr 0 (.str a.name) rfl;generalize u 0=w at h1 h2;cases h2;exact h1
   have g1:vs[1]?=some (.bool a.ref):=by
    have h1:=hc 1 (.bool a.ref) rfl;have h2:=hr 1 (.bool a.ref) rfl;generalize u 1=w at h1 h2;cases h2;exact h1
   congr 1;apply Array.ext_getElem?;intro i
   match i with
   |0=>exact g0
   |1=>exact g1
   |i+2=>rw[q8j (by omega),q8j (by simp)]
instance:DecidableEq Param:=fun a b=>decidable_of_iff (a.name=b.name/\a.ref=b.ref) (by cases a;cases b;simp)
theorem ValO.params{hr:Bool}{s:St}{o:Oper}{K:LV->Prop}{x y:Operand}{u:TypeId}(hop:o.op=.binOp .eql 59 x y u){a b:Param}(hx:QR s.sl x=.p (.agg a.cells))(hy:QR s.sl y=.p (.agg b.cells))(hK:K (.p (.bool (decide (a=b))))):ValO prog hr s o K:=by
 refine⟨fun σ β ac w hs _=>⟨_,.bool (decide (a=b)),hK,.p (.bool _),fun w' _ _=>?_⟩⟩;have h1:ac.eval x=.agg #[.string ⟨a.name.toArray⟩,.bool a.ref]:=by
  have:=QZ hs x;rw[hx]at this;cases this with
  |p h=>exact F6 h
 have h2:ac.eval y=.agg #[.string ⟨b.name.toArray⟩,.bool b.ref]:=by
  have:=QZ hs y;rw[hy]at this;cases this with
  |p h=>exact F6 h
 have hu:prog.underlying 59=some (.struct (prog.fieldsOf 59)):=by kernel_rfl
 have hs':prog.underlying 9=some .string:=by kernel_rfl
 have hb':prog.underlying 4=some .bool:=by kernel_rfl
 have hf:(prog.fieldsOf 59).toList=(match ty59.desc with |.struct fs=>fs.toList|_=>[]):=by kernel_rfl
 have he:(Op.equalIn 10000 59 (.agg #[.string ⟨a.name.toArray⟩,.bool a.ref]) (.agg #[.string ⟨b.name.toArray⟩,.bool b.ref])).run prog w'=.ok (decide (a=b)) w':=by
  rw[run_equalIn_struct w' 9999 _ _ _ hu (by kernel_rfl),hf];simp only[ty59,Op.eqFields];have p0:∀(x:ByteArray)(y:Bool),(part 9 #[.string x,.bool y] 0).run prog w'=.ok (.string x) w':=fun x y=>run_part_plain w' (by kernel_rfl) rfl;have p1:∀(x:ByteArray)(y:Bool),(part 4 #[.string x,.bool y] 1).run prog w'=.ok (.bool y) w':=fun x y=>run_part_plain w' (by kernel_rfl) rfl;have es:∀x y:ByteArray,(Op.equalIn 9999 9 (.string x) (.string y)).run prog w'=.ok (x.toList==y.toList) w':=fun x y=>run_equalIn_string (P:=prog) w' 9998 9 x y hs';have eb:∀x y:Bool,(Op.equalIn 9999 4 (.bool x) (.bool y)).run prog w'=.ok (x==y) w':=fun x y=>run_equalIn_bool (P:=prog) w' 9998 4 x y hb';have e:decide (a=b)=(((⟨a.name.toArray⟩:ByteArray).toList==(⟨b.name.toArray⟩:ByteArray).toList)&&(a.ref==b.ref)):=by
   rw[ByteArray.toList_eq,ByteArray.toList_eq,Bool.eq_iff_iff,decide_eq_true_iff,q4k,q7g,q7g];cases a;cases b;simp
  simp only[ne_eq,show ¬("Name" = "_") by decide,show ¬("Ref" = "_") by decide,not_false_eq_true,if_true,Sem.run_bind,p0,p1,Result.andThen_ok,es,eb,Sem.run_ite,Sem.run_pure,e];cases((⟨a.name.toArray⟩:ByteArray).toList==(⟨b.name.toArray⟩:ByteArray).toList)<;>cases(a.ref==b.ref)<;>simp
 simp only[execOp,hop,h1,h2,Sem.run_bind,run_eqGuard_agg _ _ _ _ _ _ _ (show prog.eqGuardType prog.depth 59=false by kernel_rfl),Result.andThen_ok,run_eql_struct,he,Sem.run_pure]
theorem VN(l:List Param)(x:Param):SpecP prog 189 [.sl (l.map fun a=>.agg a.cells),.agg x.cells] (fun r=>∃k:Int,r=.int .i64 k/\(0<=k↔x∈l)):=by
 refine sB WA func189 rfl call189 ?_;conv=>whnf
 have hll:(l.map fun a=>AV.agg a.cells).length=l.length:=q3f _;repeat' (refine iM fun _=>?_;conv=>whnf)
 refine LoopK.inv QY (fun j:Nat=>⟨[(0,.p (.sl (l.map fun a=>.agg a.cells))),(3,.p (.ip x.cells)),(7,.p (.int .i64 (l.map fun a=>AV.agg a.cells).length)),(8,.p (.int .i64 j))],[]⟩) (fun j=>j<=l.length/\x∉l.take j) (fun j=>l.length-j) 0 (Le.of_eq rfl) ⟨q3o _,by simp⟩ ?_;rintro j ⟨h2,h3⟩;rcases q4w j l.length with hj|hj
 ·have htk:x∈l.take (j+1)↔x∈l.take j\/x=l[j]:=GY hj;conv=>whnf
  repeat' (first|((first|refine dA ?_|(refine iA fun _=>?_)|refine wI ?_|refine ValO.params (a:=x) (b:=l[j]) rfl rfl rfl ?_);conv=>whnf)|(apply bD<;>intro _<;>first|omega|conv=>whnf))
  all_goals first
   | (have h9:x=l[j]:=by assumption
      exact⟨_,.p (Sub.refl _),j,rfl,⟨fun _=>by rw[h9];exact q4u hj,fun _=>by omega⟩⟩)
   | (have h9:¬x=l[j]:=by assumption
      exact⟨j+1,⟨hj,fun h8=>(htk.1 h8).elim h3 h9⟩,by omega,Le.of_eq rfl⟩)
 ·rw[q4g hj]at h3;conv=>whnf
  repeat' (apply bD<;>intro _<;>first|omega|conv=>whnf)
  all_goals exact⟨_,.p (Sub.refl _),-1,rfl,by simp[h3]⟩
theorem WL(l:List Param)(x:Param):SpecP prog 147 [.sl (l.map fun a=>.agg a.cells),.agg x.cells] (fun r=>r=.bool (decide (x∈l))):=by
 refine sB ZI func147 rfl call147 ?_;conv=>whnf
 have hI:=VN l x;repeat' (refine CallK.pure hI (.cons (Sub.refl _) (.cons (Sub.refl _) .nil)) ?_;rintro _ ⟨k,rfl,hk⟩;conv=>whnf)
 all_goals first
  |exact RetK.bool (by rw[Bool.eq_iff_iff,decide_eq_true_iff,decide_eq_true_iff];exact hk)
theorem I5{p:Pg}(h:XX p=true){j:Nat}{f:Pr}(hj:p.procs[j]?=some f):∀s∈U2 (QQ p j f) f,okSt s:=fun s hs=>by
 unfold U2 at hs;rcases q3a.1 hs with hs|hs
 ·rcases q3a.1 hs with hs|hs
  ·exact J4 h hj s hs
  ·rw[q3r.1 hs];exact⟨by decide,by decide⟩
 ·obtain⟨it,hi,hs⟩:=q5g.1 hs;exact N2 h hj it hi s hs
theorem IZ{p:Pg}(h:XX p=true){j:Nat}{f:Pr}(hj:p.procs[j]?=some f)(hi:it∈itsOf p j f):(sheetOf p).l[(it.s.id-1).toNat]?=some it:=by
 have hb:=VK (QD h).1 hj (KQ hi);obtain⟨it',h1,h2⟩:=NA hj (k:=(it.s.id-1).toNat) (by omega) (by omega);have h3:=Nj h hj (by omega) (by omega) h1;rw[h1,Am (QD h).1 hj h2 hi (by omega)]
def Jl(n:Nat):List Pr->List Pr
 |[]=>[]
 |f::r=>⟨f.name,f.params,f.vars,nmL n f.body,f.fin⟩::Jl (n+cntL f.body) r
def EC(p:Pg):Pg:=⟨p.globals,Jl 0 p.procs⟩
theorem N0{p:Pg}(h:XX p=true):∃(k:Nat) (f:Pr),p.procs[k]?=some f/\p.procs.filter (fun f=>f.name==mainS)=[f]/\f.name=mainS/\f.params=[]:=by
 obtain⟨hm,hs,_⟩:=QD h;obtain⟨_,hb,_⟩:=JX hs;unfold WG at hb;simp only[q8r,Bool.not_eq_false']at hb;obtain⟨_,h2,h3,h4⟩:=hb;have hnd:=Nl h2;obtain⟨k,hk,h5,h6⟩:=Po h3;have h7:=q7s h6;have hn:p.procs[k].name=mainS:=by
  have:mainS=p.procs[k].name:=by simpa using h7
  exact this.symm
 rw [h6]at h4;have hp:p.procs[k].params=[]:=q5b (by simpa using h4);refine⟨k,p.procs[k],q3b hk,?_,hn,hp⟩;have key:∀(l:List Pr),(l.map Pr.name).Nodup->∀f∈l,f.name=mainS->l.filter (fun f=>f.name==mainS)=[f]:=fun l=>by
  induction l with
  |nil=>intro _ f hf;cases hf
  | cons g r ih=>
    intro hnd f hf hfn;rw[q4t,q5h]at hnd;rcases q3t.1 hf with rfl|hf
    ·rw[q6x (by simp[hfn])];congr 1;rw[List.filter_eq_nil_iff];intro g hg he;exact hnd.1 (by rw[hfn,<-show g.name=mainS by simpa using he];exact List.mem_map_of_mem hg)
    ·rw[q6d (by
      intro he;exact hnd.1 (by rw[show g.name=mainS by simpa using he,<-hfn];exact List.mem_map_of_mem hf))]
     exact ih hnd.2 f hf hfn
 exact key p.procs hnd _ (q4u hk) hn
section
variable {p:Pg}{k:Nat}{f:Pr}
end
theorem Ur:∀(l:List Pr){n:Nat}{m:Int},XE n l=some m->∀(j:Nat)(f:Pr),l[j]?=some f->∃m',YM 1 ((n+QL l j:Nat):Int) f.body=some m'
 |[],_,_,_,j,f,hj=>by simp at hj
 | g::r,n,m,h,j,f,hj=>by
   rw[XE]at h;cases hm:DY g<;>rw[hm]at h
   ·cases h
   simp only[q4v]at h;split at h
   ·rename_i m1 h1;cases j with
    | zero=>
      cases hj;exact⟨m1,h1⟩
    | succ j=>
      have h2:=JQ _ _ g.body h1;have h':XE ((n+cntL g.body:Nat):Int) r=some m:=by rw[<-h,h2];rfl
      obtain⟨m',h3⟩:=Ur r h' j f (by simpa using hj);exact⟨m',by rw[<-h3,QL];congr 1;omega⟩
   ·cases h
theorem Ep{p:Pg}(h:HE p=true){j:Nat}{f:Pr}(hj:p.procs[j]?=some f):∃m,YM 1 ((QL p.procs j:Nat):Int) f.body=some m:=by
 unfold HE at h;simp only[q4k]at h;obtain⟨m,hm⟩:=Option.isSome_iff_exists.1 h.2;obtain⟨m',h'⟩:=Ur p.procs (n:=0) hm j f hj;exact⟨m',by rw[<-h'];congr 1;omega⟩
theorem Y4:∀(l:List Int)(b:List Bool)(i:Nat),i<b.length->((GA l b).getD i false=true↔b.getD i false=true\/∃a∈l,a.toNat=i)
 |[],b,i,hi=>by simp[GA]
 | a::r,b,i,hi=>by
   have ih:=Y4 r (b.set a.toNat true) i (by rw[q5s];exact hi);have e:GA (a::r) b=GA r (b.set a.toNat true):=rfl;rw[e,ih];simp only[q3t,exists_eq_or_imp];by_cases ha:a.toNat=i
   ·simp[ha,hi,q3p,q6o]
   ·simp[ha,q3p,q6o]
theorem Ck{p:Pg}(h:XX p=true){j:Nat}{f:Pr}(hj:p.procs[j]?=some f){y:Int}(hy:plP p j f y):(QQ p j f).live.getD (ixI p j f y).toNat false=true↔Rch (wR p j f) 0 y:=by
 have hrng:=KX hy;have hl:(QQ p j f).live=GA (GT 0 (ZF (QC (cntL f.body+2) ((QQ p j f).real.map (ixP p j f (cntL f.body+2:Nat)))).1 [0])) (List.replicate (cntL f.body+2) false):=rfl;rw[hl,Y4 _ _ _ (by rw[q5d];omega)];have h0:(List.replicate (cntL f.body+2) false).getD (ixI p j f y).toNat false=false:=by
  rw[q3p,q4s];split<;>rfl
 rw[h0];have hs:=Y9 (F:=(QQ p j f).real) (WI h hj) hy;unfold wR;rw[<-hs];constructor
 ·rintro(h1|⟨a,h1,h2⟩)
  ·cases h1
  ·have ha:=Jp _ _ _ h1
   rwa[show ixI p j f y=a by omega]
 ·exact fun h1=>.inr ⟨_,h1,rfl⟩
section
variable {p:Pg}{k:Nat}{f:Pr}
end
theorem H7:∀(l:List (Int×Int))(rows:List (List Int)),(∀t∈l,0<=t.1/\t.1<rows.length)->∀(a:Nat)(x:Int),x∈(l.foldl nxE rows).getD a []↔x∈rows.getD a []\/∃t∈l,t.1=a/\t.2=x
 |[],rows,_,a,x=>by simp
 | t::r,rows,h,a,x=>by
   obtain⟨h1,h2⟩:=h t q3d;rw[q6v,H7 r (nxE rows t) (fun u hu=>by rw[Tm];exact h u (q3n _ hu))];have e:x∈(nxE rows t).getD a []↔x∈rows.getD a []\/(t.1=a/\t.2=x):=by
    unfold nxE;simp only[q3p,q6o];by_cases he:t.1.toNat=a
    ·subst he;have e0:t.1=(t.1.toNat:Int):=by omega
     rw[if_pos rfl,if_pos (by omega)];simp only[q7u,q3a,q3r];constructor
     ·rintro(h3|h3)
      ·exact .inl h3
      ·exact .inr ⟨e0,h3.symm⟩
     ·rintro(h3|⟨_,h3⟩)
      ·exact .inl h3
      ·exact .inr h3.symm
    ·rw[if_neg he];constructor
     ·exact .inl
     ·rintro(h3|⟨h3,_⟩)
      ·exact h3
      ·omega
   rw[e];simp only[q3t,exists_eq_or_imp,or_assoc]
theorem Wh{n:Nat}{l:List (Int×Int)}(h:∀t∈l,0<=t.1/\t.1<n){a:Nat}{x:Int}:x∈(NP n l).getD a [] ↔ ∃t∈l,t.1=a/\t.2=x:=by
 unfold NP;rw[H7 l _ (by simpa using h)];have:(List.replicate n ([]:List Int)).getD a []=[]:=by
  rw[q3p,q4s];split<;>rfl
 rw[this];simp
mutual
theorem CG:∀(t:S){nest seen m:Int},Fx nest seen t=some m->∀u∈flS t,oneOk u=true
 | .mk id kind labels name pr x has args thn els,nest,seen,m,h,u,hu=>by
   obtain⟨h1,_,m1,h3,h4⟩:=LC h;rw[flS]at hu;rcases q3t.1 hu with rfl|hu
   ·exact h1
   ·rcases q3a.1 hu with hu|hu
    ·exact Xr thn h3 u hu
    ·exact Xr els h4 u hu
theorem Xr:∀(l:List S){nest seen m:Int},YM nest seen l=some m->∀u∈flL l,oneOk u=true
 |[],_,_,_,_,u,hu=>by rw[flL]at hu;cases hu
 | t::r,nest,seen,m,h,u,hu=>by
   obtain⟨_,m1,h1,h2⟩:=DX h;rw[flL]at hu;rcases q3a.1 hu with hu|hu
   ·exact CG t h1 u hu
   ·exact Xr r h2 u hu
end
theorem P2{p:Pg}{j:Nat}{f:Pr}(h:XX p=true)(hj:p.procs[j]?=some f){t:S}(ht:t∈flL f.body):OneF t:=by
 obtain⟨m,hr⟩:=Ep (QD h).1 hj;exact Tc (Xr _ hr t ht)
section
variable {p:Pg}{j:Nat}{f:Pr}
def O7(p:Pg)(j:Nat)(f:Pr):Int->Int->Prop:=stR (q2v (QQ p j f) f)
theorem Rx(h:XX p=true)(hj:p.procs[j]?=some f){b:Int}:O7 p j f a b↔wR p j f a b\/(a=0/\b = -1)\/(∃l∈trapsW (QQ p j f) f,∃t∈flL f.body,t.id∈l/\t.kind=10/\a=t.id/\b = -1)\/∃it∈itsOf p j f,7<=it.s.kind/\a=it.s.id/\b=it.next:=by
 have hA:=HO (I5 h hj);have hraw:∀s,s∈U2 (QQ p j f) f↔s∈VT (QQ p j f) f\/s∈(QQ p j f).real\/s=⟨0,-1,2⟩\/s∈(itsOf p j f).flatMap fOf:=fun s=>by
  have e:U2 (QQ p j f) f=VT (QQ p j f) f++(QQ p j f).real++[⟨0,-1,2⟩]++(itsOf p j f).flatMap fOf:=rfl;rw[e];simp only[q3a,q3r,or_assoc]
 have hof:∀s∈U2 (QQ p j f) f,O7 p j f s.src s.dst:=fun s hs=>by
  obtain⟨s',h1,h2,h3,_⟩:=hA.2.2 s hs;exact⟨s',h1,h2,h3⟩
 constructor
 ·rintro⟨s,hs,rfl,rfl⟩;rcases(hraw s).1 (hA.2.1 s hs)with h1|h1|h1|h1
  ·obtain⟨l,hl,t,ht,hid,hk,rfl⟩:=(MU h hj).1 h1;exact .inr (.inr (.inl ⟨l,hl,t,ht,hid,hk,rfl,rfl⟩))
  ·exact .inl ⟨s,h1,rfl,rfl⟩
  ·rw[h1];exact .inr (.inl ⟨rfl,rfl⟩)
  ·obtain⟨it,hi,hs⟩:=q5g.1 h1;unfold fOf at hs;split at hs
   ·rw[q3r.1 hs];exact .inr (.inr (.inr ⟨it,hi,by omega,rfl,rfl⟩))
   ·cases hs
 ·rintro(⟨s,hs,rfl,rfl⟩|⟨rfl,rfl⟩|⟨l,hl,t,ht,hid,hk,rfl,rfl⟩|⟨it,hi,hk,rfl,rfl⟩)
  ·exact hof s ((hraw s).2 (.inr (.inl hs)))
  ·exact hof ⟨0,-1,2⟩ ((hraw _).2 (.inr (.inr (.inl rfl))))
  ·exact hof ⟨t.id,-1,3⟩ ((hraw _).2 (.inl ((MU h hj).2 ⟨l,hl,t,ht,hid,hk,rfl⟩)))
  ·refine hof ⟨it.s.id,it.next,2⟩ ((hraw _).2 (.inr (.inr (.inr (q5g.2 ⟨it,hi,?_⟩)))));have hF:=(P2 h hj (KQ hi)).hi;unfold fOf;rw[if_pos (by omega)];exact q3r.2 rfl
theorem I2(h:XX p=true)(hj:p.procs[j]?=some f){b:Int}(hr:O7 p j f a b):plP p j f a/\plP p j f b/\a ≠ -1/\b≠0:=by
 have hst:∀t∈flL f.body,plP p j f t.id/\t.id ≠ -1:=fun t ht=>by
  have hb:=VK (QD h).1 hj ht;exact⟨.inr (.inr hb),by omega⟩
 rcases(Rx h hj).1 hr with h1|⟨rfl,rfl⟩|⟨l,hl,t,ht,hid,hk,rfl,rfl⟩|⟨it,hi,hk,rfl,rfl⟩
 ·obtain⟨h2,h3⟩:=O5 h hj h1;refine⟨h2,h3,?_,fun e=>Cn h hj (e▸h1)⟩;obtain⟨s,hs,rfl,rfl⟩:=h1;rcases CX h hj (((KJ h hj).2 s).1 hs)with h4|h4
  ·rw[h4];show(0:Int) ≠ -1;decide
  ·omega
 ·exact⟨.inl rfl,.inr (.inl rfl),by decide,by decide⟩
 ·exact⟨(hst t ht).1,.inr (.inl rfl),(hst t ht).2,by decide⟩
 ·have h1:=(LD hi).1;unfold okI at h1;refine⟨(hst _ (KQ hi)).1,?_,(hst _ (KQ hi)).2,by omega⟩;rcases h1 with h1|h1
  ·exact .inr (.inl h1)
  ·exact .inr (.inr h1)
end
namespace Own
end Own
open Go.Proofs
def rng(a b:Int)(v:Int):Prop:=a<=v/\v<=b
def q1t(l:List Int)(i:Nat):Int:=l.getD i 0
def srt(K:Int->Int)(l:List Int)(a b:Nat):Prop:=∀i k,a<=i->i<k->k<b->K (q1t l k)<=K (q1t l i)
def blk(K:Int->Int)(l:List Int)(bs n:Nat):Prop:=∀q,srt K l (q*bs) (min (q*bs+bs) n)
def CS:List AV:=[.int .i64 (-1),.int .i64 0,.nils,.str [],.str [],.int .i64 0,.int .i64 0,.str [],.nils,.ff,.nils,.nils,.nils]
theorem Xw:∀(k:Nat)(l:List S)(_:cntL l<k)(_:cntL l<=1000000)(_:∀t∈flL l,okC t/\t.id ≠ -1),SpecP prog 163 [eSs l,.agg CS] (fun r=>r=eSs l):=by
 intro k;induction k with
 |zero=>intro l h;omega
 | succ k ih=>
   intro l hk hn hok;have hsl:(S.avs l).length=l.length:=by rw[S.avs_eq,q3f]
   have hcl:=J1 l;refine sB PP func163 rfl call163 ?_;conv=>whnf
   repeat' (refine iM fun _=>?_;conv=>whnf)
   refine LoopK.inv QY (fun j:Nat=>⟨[(3,.p (.ip CS)),(5,.hd 0 0 j),(9,.p (eSs l)),(10,.p (.int .i64 (S.avs l).length)),(11,.p (.int .i64 j))],[(0,.own 55 13 (S.avs (l.take j)))]⟩) (fun j=>j<=l.length) (fun j=>l.length-j) 0
    (Le.mk [(0,.own 55 13 [])] (by simp[Chunk.new0];rfl) (by simp) (by simp) (.r (.cons (.nil q3d) (.r (.r (.r .nil))))) (.new q3d .nil)) (q3o _) ?_
   intro j h2;rcases q4w j l.length with hj|hj
   ·have htm:=J2 (q4u hj);have hcs:=WK l[j];have hself:=hok _ (NQ l _ (q4u hj));have hsub:∀t,t∈flL l[j].thn\/t∈flL l[j].els->okC t/\t.id ≠ -1:=fun t ht=>hok t (by
     have:t∈flS l[j]:=by
      rw[RK];exact q3n _ (q3a.2 ht)
     have key:∀(m:List S)(i:Nat)(h:i<m.length),t∈flS m[i]->t∈flL m:=fun m=>by
      induction m with
      |nil=>intro i h;simp at h
      | cons a r ih=>
        intro i h ht;rw[flL];cases i with
        |zero=>exact q3a.2 (.inl ht)
        |succ i=>exact q3a.2 (.inr (ih i (by simpa using h) ht))
     exact key l j hj this)
    have h5:=UE l[j] hself.1.1 hself.1.2.1 hself.1.2.2.1 hself.1.2.2.2;have hid:=hself.2;have h6:=ih l[j].thn (by omega) (by omega) fun t ht=>hsub t (.inl ht);have h7:=ih l[j].els (by omega) (by omega) fun t ht=>hsub t (.inr ht);have hacl:j=(S.avs (l.take j)).length:=by rw[S.avs_eq,q3f,q4l];omega
    have hav:S.avs (l.take (j+1))=S.avs (l.take j)++[.agg l[j].cells]:=by
     rw[S.avs_eq,S.avs_eq,q4y hj,q4z];rfl
    generalize S.avs (l.take j)=acc at hacl hav⊢;have e:l[j]=.mk l[j].id l[j].kind l[j].labels l[j].name l[j].proc l[j].x l[j].has l[j].args l[j].thn l[j].els:=by cases l[j];rfl
    conv=>whnf
    repeat' (first|((first|refine dA ?_|refine q3l rfl ?_|refine aD ?_|refine bP ?_|refine QN (by omega) ?_|refine wI ?_|refine cP h5 ?_|refine cP h6 ?_|refine cP h7 ?_|refine q6g hacl rfl (by show(j+1)*208<=140737488355328;omega) (by show j+1<=9223372036854775807;omega) (fun x hx=>by rcases q3r.1 hx with rfl;exact⟨rfl,rfl⟩) ?_);conv=>whnf)|(apply bD<;>intro _<;>first|omega|conv=>whnf))
    all_goals first
     |exact⟨j+1,hj,by omega,Le.of_eq (by rw[hav];rfl)⟩
     |contradiction
   ·have hall:l.take j=l:=q4g hj;have hjl:j=(S.avs l).length:=by rw[S.avs_eq,q3f];omega
    rw[hall];conv=>whnf
    repeat' (apply bD<;>intro _<;>first|omega|conv=>whnf)
    exact⟨_,.hd rfl hjl,rfl⟩
theorem Tl:∀(l:List Pr)(j:Nat),QL l j<=cntP l
 |_,0=>by rw[QL];omega
 |[],j+1=>by rw[QL];omega
 |g::r,j+1=>by rw[QL,cntP];have:=Tl r j;omega
structure CopyF(p:Pg):Prop where
 procs:p.procs.length<=1000
 globals:p.globals.length<=1000000
 pr:∀f∈p.procs,f.vars.length<=1000000/\f.fin.length<=1000000/\f.params.length<=1000000/\cntL f.body<=100000/\∀t∈flL f.body,okC t/\t.id ≠ -1
def q2k(p:Pg):Heap:=[(2,.obj 25 [.p (eStrs p.globals),.hd 1 0 p.procs.length]),(1,.own 45 5 (p.procs.map fun f=>.agg f.cells))]
def Ol(p:Pg):Heap:=[(6,.own 45 5 (p.procs.map fun f=>.agg f.cells)),(1,.obj 25 [.p (eStrs p.globals),.hd 6 0 p.procs.length])]
theorem Xz(p:Pg)(h:CopyF p):SpecH prog 106 [.p (.agg p.cells),.p (.agg CS)] [] (fun r H=>r=.agg [.p (eStrs p.globals),.hd 1 0 p.procs.length]/\H=q2k p):=by
 refine sH PD func106 rfl call106 ?_;conv=>whnf
 have hgt:=ZM p.globals h.globals;have hpm:(p.procs.map fun f=>AV.agg f.cells).length=p.procs.length:=q3f _;have hpl:=h.procs;repeat' ((first|(refine iM fun _=>?_)|refine q3l rfl ?_|refine cP hgt ?_);conv=>whnf)
 refine LoopK.inv QY (fun j:Nat=>⟨[(3,.p (.ip CS)),(4,.ptr 2 0),(5,.ptr 0 0),(14,.p (.sl (p.procs.map fun f=>AV.agg f.cells))),(15,.p (.int .i64 (p.procs.map fun f=>AV.agg f.cells).length)),(16,.p (.int .i64 j))],[(0,.obj 25 [.p (eStrs p.globals),.hd 1 0 j]),(2,.obj 25 [.p .nils,.p .nils]),(1,.own 45 5 ((p.procs.take j).map fun f=>.agg f.cells))]⟩) (fun j=>j<=p.procs.length) (fun j=>p.procs.length-j) 0
  (Le.mk [(1,.own 45 5 [])] (by simp[Chunk.new0];rfl) (by simp) (by simp) (.r (.r (.r (.r (.r (.r .nil)))))) (.cons rfl (.obj (.r (.cons (.nil q3d) .nil))) (.cons rfl (.refl _) (.new q3d .nil)))) (q3o _) ?_
 intro j h2;rcases q4w j p.procs.length with hj|hj
 ·obtain⟨hv,hfin,hpm2,hcb,hok⟩:=h.pr _ (q4u hj);have h5:=ZM p.procs[j].vars hv;have h6:=ZM p.procs[j].fin hfin;have h7:=Xw (cntL p.procs[j].body+1) p.procs[j].body (by omega) (by omega) hok;have htl:((p.procs.take j).map fun f=>AV.agg f.cells).length=j:=by rw[q3f,q4l];omega
  have htk:((p.procs.take (j+1)).map fun f=>AV.agg f.cells)=((p.procs.take j).map fun f=>AV.agg f.cells)++[.agg p.procs[j].cells]:=by
   rw[q4y hj,q4z];rfl
  generalize((p.procs.take j).map fun f=>AV.agg f.cells)=acc at htl htk⊢;have hpa:(p.procs[j].params.map fun x=>AV.agg x.cells).length=p.procs[j].params.length:=q3f _;conv=>whnf
  repeat' (first|((first|refine dA ?_|refine q3l rfl ?_|refine aD ?_|(refine iA fun _=>?_)|refine cP h5 ?_|refine cP h6 ?_|refine cP h7 ?_|refine q6g rfl rfl (by rw[hpa];show(0+p.procs[j].params.length)*24<=140737488355328;omega) (by rw[hpa];show 0+p.procs[j].params.length<=9223372036854775807;omega) (fun x hx=>by obtain⟨y,_,rfl⟩:=q3s.1 hx;exact⟨rfl,rfl⟩) ?_);conv=>whnf)|(apply bD<;>intro _<;>first|omega|conv=>whnf)|(refine q3l ?_ ?_<;>conv=>whnf))
  all_goals
   refine M9 QY (k:=4) 41 p.procs[j].cells rfl rfl rfl (fun q u c h1 h2=>?_) ?_
   ·match q,h1,h2 with
    |0,h1,h2=>cases h1;cases h2;exact .inl ⟨_,rfl,Sub.refl _⟩
    |1,h1,h2=>cases h1;cases h2;exact .inr ⟨_,rfl,by simp,rfl⟩
    |2,h1,h2=>cases h1;cases h2;exact .inl ⟨_,rfl,Sub.refl _⟩
    |3,h1,h2=>cases h1;cases h2;exact .inl ⟨_,rfl,Sub.refl _⟩
    |4,h1,h2=>cases h1;cases h2;exact .inl ⟨_,rfl,Sub.refl _⟩
    |q+5,h1,h2=>simp at h1
   conv=>whnf
   repeat' ((first|refine q3l rfl ?_|refine aD ?_|refine bP ?_|refine wI ?_|refine q6g htl.symm rfl (by show(j+1)*112<=140737488355328;omega) (by show j+1<=9223372036854775807;omega) (fun x hx=>by rcases q3r.1 hx with rfl;exact⟨rfl,rfl⟩) ?_);conv=>whnf)
   exact⟨j+1,hj,by omega,Le.of_eq (by rw[htk];rfl)⟩
 ·have hA:((p.procs.take j).map fun f=>AV.agg f.cells)=p.procs.map fun f=>.agg f.cells:=by
   rw[q4g hj]
  have hje:j=p.procs.length:=by omega
  subst hje;rw[hA];conv=>whnf
  repeat' (first|(refine q3l rfl ?_;conv=>whnf)|(apply bD<;>intro _<;>first|omega|conv=>whnf))
  exact⟨_,q3e _,rfl,rfl⟩
theorem Q6(p:Pg)(h:CopyF p):SpecH prog 55 [.p (.agg p.cells)] [] (fun r H=>r=.agg [.p (eStrs p.globals),.hd 6 0 p.procs.length]/\H=Ol p):=by
 refine sH DO func55 rfl call55 ?_;conv=>whnf
 repeat' ((first|refine q3l rfl ?_|(refine CallK.heap [] 5 (q3i (q3e _) (q3i (q3e _) q4d)) q4b (Xz p h) rfl rfl ?_;rintro l' H' ⟨rfl,rfl⟩));conv=>whnf)
 exact⟨_,q3e _,rfl,rfl⟩
def BN(p:Pg)(j:Nat):List Pr:=(Jl 0 p.procs).take j++p.procs.drop j
theorem He:∀(l:List Pr)(n j:Nat)(f:Pr),l[j]?=some f->(Jl n l)[j]?=some ⟨f.name,f.params,f.vars,nmL (n+QL l j) f.body,f.fin⟩
 |g::r,n,0,f,h=>by cases h;rw[Jl];rfl
 | g::r,n,j+1,f,h=>by
   rw[Jl,q8q,He r (n+cntL g.body) j f (by simpa using h),QL,q5e]
theorem KW:∀(l:List Pr)(n:Nat),(Jl n l).length=l.length
 |[],n=>rfl
 |g::r,n=>by rw[Jl,q4m,q4m,KW r]
theorem Tp(p:Pg){j:Nat}(h:j<=p.procs.length):(BN p j).length=p.procs.length:=by
 unfold BN;rw[q3m,q4l,q6u,KW];omega
theorem Tb(p:Pg){j:Nat}(hj:j<p.procs.length):(BN p j)[j]?=some p.procs[j]:=by
 unfold BN;rw[q5x (by rw[q4l,KW];omega),q4l,KW,q5t];rw[show j+(j-min j p.procs.length)=j by omega,q3b hj]
theorem L4(p:Pg){j:Nat}(hj:j<p.procs.length):BN p (j+1)=(BN p j).set j ⟨p.procs[j].name,p.procs[j].params,p.procs[j].vars,nmL (QL p.procs j) p.procs[j].body,p.procs[j].fin⟩:=by
 have h1:=He p.procs 0 j _ (q3b hj);rw[q5n]at h1;unfold BN;have hl:((Jl 0 p.procs).take j).length=j:=by rw[q4l,KW];omega
 rw[List.set_append_right _ _ (by omega),hl,Nat.sub_self,q4a hj,List.set_cons_zero,List.take_add_one,h1];simp
theorem Tr{l:List Pr}{j:Nat}(hj:j<l.length):QL l (j+1)=QL l j+cntL l[j].body:=by
 induction l generalizing j with
 |nil=>simp at hj
 | cons g r ih=>
   cases j with
   |zero=>rw[QL,QL,QL];simp
   | succ j=>
     rw[QL,QL,ih (by simpa using hj)];simp only[List.getElem_cons_succ];omega
theorem PQ(p:Pg)(h:CopyF p)(hc:cntP p.procs<=100000):SpecP prog 56 [.agg p.cells] (fun r=>r=.agg (EC p).cells):=by
 refine sB HD func56 rfl call56 ?_;conv=>whnf
 have hpm:(p.procs.map fun f=>AV.agg f.cells).length=p.procs.length:=q3f _;have hpl:=h.procs;repeat' ((first|(refine iM fun _=>?_)|refine q3l rfl ?_|(refine CallK.heap [] 20 (q3i (q3e _) q4d) q4b (Q6 p h) rfl rfl ?_;rintro l' H' ⟨rfl,rfl⟩));conv=>whnf)
 refine LoopK.inv QY (fun j:Nat=>⟨[(1,.p (.ip p.cells)),(2,.ptr 1 0),(3,.ptr 0 0),(4,.p (.int .i64 (QL p.procs j))),(10,.p (.int .i64 p.procs.length)),(11,.p (.int .i64 j))],[(0,.obj 25 [.p (eStrs p.globals),.hd 26 0 p.procs.length]),(26,.own 45 5 ((BN p j).map fun f=>.agg f.cells)),(1,.obj 25 [.p .nils,.p .nils])]⟩) (fun j=>j<=p.procs.length) (fun j=>p.procs.length-j) 0
  (Le.of_eq (by rw[show BN p 0=p.procs from rfl,show QL p.procs 0=0 by rw[QL]];rfl)) (q3o _) ?_
 intro j h2;have hrl:=Tp p h2;rcases q4w j p.procs.length with hj|hj
 ·obtain⟨hv,hfin,hpm2,hcb,hok⟩:=h.pr _ (q4u hj);have hle:=Tl p.procs j;have h5:=FB (cntL p.procs[j].body+1) p.procs[j].body (by omega) (QL p.procs j) (by omega) fun t ht=>(hok t ht).1;have hget:((BN p j).map fun f=>AV.agg f.cells)[j]?=some (.agg p.procs[j].cells):=by rw[q4x,Tb p hj];rfl
  have hset:((BN p j).map fun f=>AV.agg f.cells).set j (.agg (Pr.mk p.procs[j].name p.procs[j].params p.procs[j].vars (nmL (QL p.procs j) p.procs[j].body) p.procs[j].fin).cells)=(BN p (j+1)).map fun f=>AV.agg f.cells:=by
   rw[L4 p hj,<-q5a]
  have hst:=Tr hj;generalize((BN p j).map fun f=>AV.agg f.cells)=row at hget hset⊢;conv=>whnf
  repeat' (first|((first|refine q3l rfl ?_|(refine iA fun _=>?_)|refine wI ?_|refine DrawK.of QY mixed (.cons 3 false (.cons 4 false (.cons 5 false (.cons 6 false (.cons 7 false (.cons 8 false (.cons 9 false (.cons 0 false (.cons 2 false (.fork 1 (.cons 10 true (.cons 11 false (.cons 12 false (.cons 14 true (.cons 15 true (.cons 13 false (.cons 16 true (.cons 17 true .nil)))))))) 10 (.cons 1 true (.cons 11 false (.cons 12 false (.cons 14 true (.cons 15 true (.cons 13 false (.cons 16 true (.cons 17 true .nil)))))))))))))))))) (by kernel_rfl) ?_|refine cP h5 ?_|refine q5z j rfl hj ?_|refine q7z j 3 (.agg p.procs[j].cells) (.agg (Pr.mk p.procs[j].name p.procs[j].params p.procs[j].vars (nmL (QL p.procs j) p.procs[j].body) p.procs[j].fin).cells) (by show(0+j)*5+3=j*5+3;omega) hget (q7p rfl) rfl ?_);conv=>whnf)|(apply bD<;>intro _<;>first|omega|conv=>whnf)|(refine q3l ?_ ?_<;>conv=>whnf))
  all_goals exact⟨j+1,hj,by omega,Le.of_eq (by rw[<-hset,hst];rfl)⟩
 ·have hje:j=p.procs.length:=by omega
  subst hje;have hA:BN p p.procs.length=(EC p).procs:=by
   unfold BN EC;rw[q4g (by rw[KW];exact q4h _),q4j (q4h _),q5c]
  have hcl:p.procs.length=((EC p).procs.map fun f=>AV.agg f.cells).length:=by rw[q3f,<-hA,hrl]
  rw[hA];conv=>whnf
  repeat' (first|(refine q3l rfl ?_;conv=>whnf)|(apply bD<;>intro _<;>first|omega|conv=>whnf))
  refine⟨_,.agg (cs:=(EC p).cells) rfl fun i l c h1 h3=>?_,rfl⟩
  match i,h1,h3 with
  |0,h1,h3=>cases h1;cases h3;exact .p (Sub.refl _)
  | 1,h1,h3=>
    cases h1;cases h3;exact .hd rfl hcl
  |i+2,h1,h3=>simp at h1
section
variable {p:Pg}{j:Nat}{f:Pr}
end
section
variable {p:Pg}{j:Nat}{f:Pr}
end
end Go.Ab
