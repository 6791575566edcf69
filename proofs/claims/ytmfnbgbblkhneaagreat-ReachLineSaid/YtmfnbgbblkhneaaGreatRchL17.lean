/- ref3: a new expression. -/
import Derived.Test.YtmfnbgbblkhneaaGreatRchL14
import Derived.Test.YtmfnbgbblkhneaaGreatRchL15
import Derived.Test.YtmfnbgbblkhneaaGreatRchL16
set_option linter.unusedSimpArgs false
set_option linter.unusedVariables false
set_option maxRecDepth 100000
set_option maxHeartbeats 16000000
open Int (ofNat)
namespace Go.Ab
open Go.Proofs.Tryz
open Go.Proofs
variable {p:Pg}{s:Str}{w:Nat}
theorem YU:∀(k:Nat)(x:X)(_:wX x<k)(_:k<=20002),SpecP prog 174 [.agg x.cells] (fun r=>r=.agg x.cells):=by
 intro k;induction k with
 |zero=>intro x h;omega
 | succ k ih=>
   intro x hx hk;have hxe:wX x=1+wXs x.kids:=by cases x;rw[wX];rfl
   have hkl:=X.avs_len x.kids;have hkn:=ET x.kids;refine sB HQ func174 rfl call174 ?_;conv=>whnf
   repeat' ((first|(refine iM fun _=>?_)|refine x2t rfl ?_);conv=>whnf)
   all_goals
    refine LoopK.inv QY (fun j:Nat=>⟨[(1,.p (.ip x.cells)),(2,.ptr 1 0),(3,.ptr 0 0),(14,.p (.int .i64 (X.avs x.kids).length)),(15,.p (.int .i64 j))],[(0,.obj 52 [.p (.int .i64 x.op),.p (.int .i64 x.n),.p (.str (x.name)),.hd 2 0 j]),(1,.obj 52 [.p (.int .i64 0),.p (.int .i64 0),.p (.str []),.p .nils]),(2,.own 52 4 (X.avs (x.kids.take j)))]⟩) (fun j=>j<=x.kids.length) (fun j=>x.kids.length-j) 0
     (Le.mk [(2,.own 52 4 [])] (by simp[Chunk.new0];rfl) (by simp) (by simp) (.r (.r (.r (.r (.r .nil))))) (.cons rfl (.obj (.r (.r (.r (.cons (.nil x2r) .nil))))) (.cons rfl (.refl _) (.new x2r .nil)))) (x3z _) ?_
    intro j h2;rcases x3v j x.kids.length with hj|hj
    ·have hkw:=q1a (x3w hj);have hih:=ih x.kids[j] (by omega) (by omega);have htk:X.avs (x.kids.take (j+1))=X.avs (x.kids.take j)++[.agg (x.kids[j]).cells]:=by
      rw[X.avs_eq,X.avs_eq,x3u hj,x3y];rfl
     have hal:(X.avs (x.kids.take j)).length=j:=by rw[X.avs_len,x3m];omega
     generalize X.avs (x.kids.take j)=acc at htk hal⊢;conv=>whnf
     repeat' (first|((first|refine dA ?_|refine x2t rfl ?_|refine aD ?_|refine bP ?_|refine IdxK.xs (by omega) ?_|refine wI ?_|refine cP hih ?_|refine x6y hal.symm rfl (by show(j+1)*56<=140737488355328;omega) (by show j+1<=9223372036854775807;omega) (fun x hx=>by rcases x2a.1 hx with rfl;exact⟨rfl,rfl⟩) ?_);conv=>whnf)|(apply bD<;>intro _<;>first|omega|conv=>whnf)|(refine x2t ?_ ?_<;>conv=>whnf))
     all_goals exact⟨j+1,hj,by omega,Le.of_eq (by rw[htk];rfl)⟩
    ·have hall:X.avs (x.kids.take j)=X.avs x.kids:=by rw[x3f hj]
     have hal:(X.avs (x.kids.take j)).length=j:=by rw[X.avs_len,x3m];omega
     conv=>whnf
     repeat' (first|(refine x2t rfl ?_;conv=>whnf)|(apply bD<;>intro _<;>first|omega|conv=>whnf))
     refine⟨_,.agg (cs:=x.cells) rfl fun i l c h1 h3=>?_,rfl⟩
     match i,h1,h3 with
     |0,h1,h3=>cases h1;cases h3;exact .p (Sub.refl _)
     |1,h1,h3=>cases h1;cases h3;exact .p (Sub.refl _)
     |2,h1,h3=>cases h1;cases h3;exact .p (Sub.refl _)
     | 3,h1,h3=>
       cases h1;cases h3;show Frz _ _ (.sl (X.avs x.kids));rw[<-hall];exact .hd rfl hal.symm
     |i+4,h1,h3=>simp at h1
def x1k(s:S):S:=.mk s.id s.kind s.labels s.name s.proc s.x s.has s.args [] []
theorem YI(s:S)(hx:wX s.x<=20000)(hl:s.labels.length<=1000000)(ha:s.args.length<=1000000)(hax:∀a∈s.args,wX a.x<=20000):SpecP prog 115 [.agg s.cells] (fun r=>r=.agg (x1k s).cells):=by
 refine sB FF func115 rfl call115 ?_;conv=>whnf
 have hal:(s.args.map fun a=>AV.agg a.cells).length=s.args.length:=x2m _;have hC:=YU 20001 s.x (by omega) (by omega);repeat' (first|((first|(refine iM fun _=>?_)|refine dA ?_|refine x2t rfl ?_|refine cP hC ?_|refine cP (ZS s.labels hl) ?_);conv=>whnf)|(refine x2t ?_ ?_<;>conv=>whnf))
 all_goals
  refine LoopK.inv QY (fun j:Nat=>⟨[(2,.ptr 1 0),(3,.ptr 0 0),(24,.p (CX s.args)),(25,.p (.int .i64 (s.args.map fun a=>AV.agg a.cells).length)),(26,.p (.int .i64 j))],[(0,.obj 55 [.p (.int .i64 s.id),.p (.int .i64 s.kind),.p (eStrs s.labels),.p (.str s.name),.p (.str s.proc),.p (.int .i64 s.x.op),.p (.int .i64 s.x.n),.p (.str s.x.name),.p (.sl (X.avs s.x.kids)),.p (.bool s.has),.hd 2 0 j,.p .nils,.p .nils]),(1,.obj 55 [.p (.int .i64 0),.p (.int .i64 0),.p .nils,.p (.str []),.p (.str []),.p (.int .i64 0),.p (.int .i64 0),.p (.str []),.p .nils,.p .ff,.p .nils,.p .nils,.p .nils]),(2,.own 140 6 ((s.args.take j).map fun a=>.agg a.cells))]⟩) (fun j=>j<=s.args.length) (fun j=>s.args.length-j) 0
   (Le.mk [(2,.own 140 6 [])] (by simp[Chunk.new0];rfl) (by simp) (by simp) (.r (.r (.r (.r (.r .nil))))) (.cons rfl (.obj (.r (.r (.r (.r (.r (.r (.r (.r (.r (.r (.cons (.nil x2r) (.r (.r .nil)))))))))))))) (.cons rfl (.refl _) (.new x2r .nil)))) (x3z _) ?_
  intro j h2;rcases x3v j s.args.length with hj|hj
  ·have hax1:=hax _ (x3w hj);have hD:=YU 20001 s.args[j].x (by omega) (by omega);have htk:((s.args.take (j+1)).map fun a=>AV.agg a.cells)=((s.args.take j).map fun a=>AV.agg a.cells)++[.agg s.args[j].cells]:=by
    rw[x3u hj,x3y];rfl
   have hcl:((s.args.take j).map fun a=>AV.agg a.cells).length=j:=by rw[x2m,x3m];omega
   generalize((s.args.take j).map fun a=>AV.agg a.cells)=acc at htk hcl⊢;conv=>whnf
   repeat' (first|((first|refine dA ?_|refine x2t rfl ?_|refine aD ?_|refine bP ?_|(refine iA fun _=>?_)|refine wI ?_|refine cP hD ?_|refine x6y hcl.symm rfl (by show(j+1)*80<=140737488355328;omega) (by show j+1<=9223372036854775807;omega) (fun x hx=>by rcases x2a.1 hx with rfl;exact⟨rfl,rfl⟩) ?_);conv=>whnf)|(apply bD<;>intro _<;>first|omega|conv=>whnf)|(refine x2t ?_ ?_<;>conv=>whnf))
   all_goals exact⟨j+1,hj,by omega,Le.of_eq (by rw[htk];rfl)⟩
  ·have hall:((s.args.take j).map fun a=>AV.agg a.cells)=s.args.map fun a=>.agg a.cells:=by rw[x3f hj]
   have hcl:((s.args.take j).map fun a=>AV.agg a.cells).length=j:=by rw[x2m,x3m];omega
   conv=>whnf
   repeat' (first|(refine x2t rfl ?_;conv=>whnf)|(apply bD<;>intro _<;>first|omega|conv=>whnf))
   refine⟨_,.agg (cs:=(x1k s).cells) rfl fun i l c h1 h3=>?_,rfl⟩
   match i,h1,h3 with
   |0,h1,h3=>cases h1;cases h3;exact .p (Sub.refl _)
   |1,h1,h3=>cases h1;cases h3;exact .p (Sub.refl _)
   |2,h1,h3=>cases h1;cases h3;exact .p (Sub.refl _)
   |3,h1,h3=>cases h1;cases h3;exact .p (Sub.refl _)
   |4,h1,h3=>cases h1;cases h3;exact .p (Sub.refl _)
   |5,h1,h3=>cases h1;cases h3;exact .p (Sub.refl _)
   |6,h1,h3=>cases h1;cases h3;exact .p (Sub.refl _)
   |7,h1,h3=>cases h1;cases h3;exact .p (Sub.refl _)
   |8,h1,h3=>cases h1;cases h3;exact .p (Sub.refl _)
   |9,h1,h3=>cases h1;cases h3;exact .p (Sub.refl _)
   | 10,h1,h3=>
     cases h1;cases h3;show Frz _ _ (.sl (s.args.map fun a=>.agg a.cells));rw[<-hall];exact .hd rfl hcl.symm
   |11,h1,h3=>cases h1;cases h3;exact .p Sub.nils
   |12,h1,h3=>cases h1;cases h3;exact .p Sub.nils
   |i+13,h1,h3=>simp at h1
mutual
def nmS(n:Nat):S->S
 |.mk _ kind labels name proc x has args thn els=>.mk ((n+1:Nat):Int) kind labels name proc x has args (nmL (n+1) thn) (nmL (n+1+cntL thn) els)
def nmL(n:Nat):List S->List S
 |[]=>[]
 |t::r=>nmS n t::nmL (n+ZW t) r
end
theorem Nr(n:Nat)(t:S):nmS n t=.mk ((n+1:Nat):Int) t.kind t.labels t.name t.proc t.x t.has t.args (nmL (n+1) t.thn) (nmL (n+1+cntL t.thn) t.els):=by
 cases t;rw[nmS];rfl
theorem Xo(n:Nat):∀l:List S,(nmL n l).length=l.length
 |[]=>by rw[nmL]
 |t::r=>by rw[nmL,x4q,x4q,Xo _ r]
theorem AZ:∀(l:List S)(n j:Nat)(h:j<l.length),(nmL n l)[j]?=some (nmS (n+cntL (l.take j)) l[j])
 |t::r,n,0,h=>by rw[nmL];simp[cntL]
 | t::r,n,j+1,h=>by
   rw[nmL,x8p,AZ r (n+ZW t) j (by simpa using h),List.take_succ_cons,cntL,x6z];rfl
theorem Pu:∀(l:List S)(j:Nat)(h:j<l.length),cntL (l.take (j+1))=cntL (l.take j)+ZW l[j]
 |t::r,0,h=>by simp[cntL]
 | t::r,j+1,h=>by
   rw[List.take_succ_cons,List.take_succ_cons,cntL,cntL,Pu r j (by simpa using h),x6z];rfl
theorem V4:∀l:List S,l.length<=cntL l
 |[]=>by simp
 | t::r=>by
   rw[cntL,x4q];have:=V4 r;have:1<=ZW t:=by cases t;rw[ZW];omega
   omega
def okC(t:S):Prop:=wX t.x<=20000/\t.labels.length<=1000000/\t.args.length<=1000000/\∀a∈t.args,wX a.x<=20000
theorem Fv:∀{l:List S}{t:S},t∈l->ZW t<=cntL l
 | a::r,t,h=>by
   rw[cntL];rcases x2i.1 h with rfl|h
   ·omega
   ·have:=Fv h;omega
theorem BY:∀(k:Nat)(l:List S)(_:cntL l<k)(n:Nat)(_:n+cntL l<=1000000)(_:∀t∈flL l,okC t),SpecP prog 107 [eSs l,.int .i64 (n:Nat)] (fun r=>r=.tup [eSs (nmL n l),.int .i64 (n+cntL l:Nat)]):=by
 intro k;induction k with
 |zero=>intro l h;omega
 | succ k ih=>
   intro l hk n hn hok;have hsl:(S.avs l).length=l.length:=by rw[S.avs_eq,x2m]
   have hcl:=V4 l;refine sB HX func107 rfl call107 ?_;conv=>whnf
   repeat' (refine iM fun _=>?_;conv=>whnf)
   refine LoopK.inv QY (fun j:Nat=>⟨[(1,.p (.int .i64 (n+cntL (l.take j):Nat))),(6,.hd 0 0 j),(10,.p (eSs l)),(11,.p (.int .i64 (S.avs l).length)),(12,.p (.int .i64 j))],[(0,.own 55 13 (S.avs ((nmL n l).take j)))]⟩) (fun j=>j<=l.length) (fun j=>l.length-j) 0
    (Le.mk [(0,.own 55 13 [])] (by simp[Chunk.new0];rfl) (by simp) (by simp) (.cons (.of_eq (by simp[cntL];rfl)) (.cons (.nil x2r) (.r (.r (.r .nil))))) (.new x2r .nil)) (x3z _) ?_
   intro j h2;rcases x3v j l.length with hj|hj
   ·have htk:=Pu l j hj;have htm:=Fv (x3w hj);have hcs:=ZV l[j];have hget:=AZ l n j hj;have hlb:cntL (l.take (j+1))<=cntL l:=by
     conv=>rhs;rw[<-x7s (j+1) l]
     have:∀a b:List S,cntL (a++b)=cntL a+cntL b:=fun a b=>by
      induction a with
      |nil=>simp[cntL]
      |cons x r ih=>rw[List.cons_append,cntL,cntL,ih,x6z]
     rw[this];omega
    have hself:=hok _ (LE l _ (x3w hj));have hsub:∀t,t∈flL l[j].thn\/t∈flL l[j].els->okC t:=fun t ht=>hok t (by
     have:t∈flS l[j]:=by
      rw[HI];exact x2c _ (x3x.2 ht)
     have key:∀(m:List S)(i:Nat)(h:i<m.length),t∈flS m[i]->t∈flL m:=fun m=>by
      induction m with
      |nil=>intro i h;simp at h
      | cons a r ih=>
        intro i h ht;rw[flL];cases i with
        |zero=>exact x3x.2 (.inl ht)
        |succ i=>exact x3x.2 (.inr (ih i (by simpa using h) ht))
     exact key l j hj this)
    have h5:=YI l[j] hself.1 hself.2.1 hself.2.2.1 hself.2.2.2;have h6:=ih l[j].thn (by omega) (n+cntL (l.take j)+1) (by omega) fun t ht=>hsub t (.inl ht);have h7:=ih l[j].els (by omega) (n+cntL (l.take j)+1+cntL l[j].thn) (by omega) fun t ht=>hsub t (.inr ht);have hacl:j=(S.avs ((nmL n l).take j)).length:=by rw[S.avs_eq,x2m,x3m,Xo];omega
    have hav:S.avs ((nmL n l).take (j+1))=S.avs ((nmL n l).take j)++[.agg (nmS (n+cntL (l.take j)) l[j]).cells]:=by
     rw[S.avs_eq,S.avs_eq,List.take_add_one,hget,x3y];rfl
    conv=>whnf
    repeat' (first|((first|refine x2t rfl ?_|refine aD ?_|refine bP ?_|refine QX (by omega) ?_|refine wI ?_|refine cP h5 ?_|(refine CallK.pure h6 (.cons (Sub.refl _) (.cons (Sub.int (by omega)) .nil)) ?_;rintro _ rfl)|(refine CallK.pure h7 (.cons (Sub.refl _) (.cons (Sub.int (by omega)) .nil)) ?_;rintro _ rfl)|refine x6y hacl rfl (by show(j+1)*208<=140737488355328;omega) (by show j+1<=9223372036854775807;omega) (fun x hx=>by rcases x2a.1 hx with rfl;exact⟨rfl,rfl⟩) ?_);conv=>whnf)|(apply bD<;>intro _<;>first|omega|conv=>whnf))
    exact⟨j+1,hj,by omega,Le.mk [] (by simp) (by simp) (by simp) (.cons (.of_eq (by rw[htk,hcs,show n+(cntL (l.take j)+(1+cntL l[j].thn+cntL l[j].els))=n+cntL (l.take j)+1+cntL l[j].thn+cntL l[j].els by omega];rfl)) (.r (.r (.r (.r .nil))))) (.cons rfl (.of_eq (by rw[hav,Nr];rfl)) .nil)⟩
   ·have hall:(nmL n l).take j=nmL n l:=x3f (by rw[Xo];exact hj);have hall2:l.take j=l:=x3f hj;have hjl:j=(S.avs (nmL n l)).length:=by rw[S.avs_eq,x2m,Xo];omega
    rw[hall,hall2];conv=>whnf
    repeat' (apply bD<;>intro _<;>first|omega|conv=>whnf)
    refine⟨_,.tup (cs:=[eSs (nmL n l),.int .i64 (n+cntL l:Nat)]) rfl fun i l' c h1 h3=>?_,rfl⟩
    match i,h1,h3 with
    |0,h1,h3=>cases h1;cases h3;exact .hd rfl hjl
    |1,h1,h3=>cases h1;cases h3;exact .p (Sub.refl _)
    |i+2,h1,h3=>simp at h1
def ElS(es es':List AV):Prop:=es'.length=es.length/\∀(m:Nat)(x':AV),es'[m]?=some x'->∃x,es[m]?=some x/\x'.cells.length=x.cells.length/\∀(j:Nat)(c':AV),x'.cells[j]?=some c'->∃c,x.cells[j]?=some c/\Sub c c'
theorem ElS.refl(es:List AV):ElS es es:=⟨rfl,fun _ x' h=>⟨x',h,rfl,fun _ c' hc=>⟨c',hc,Sub.refl _⟩⟩⟩
theorem I5{es es':List AV}(h:ElS es es'){x x':AV}(hl:x'.cells.length=x.cells.length)(hc:∀(j:Nat)(c':AV),x'.cells[j]?=some c'->∃c,x.cells[j]?=some c/\Sub c c'):ElS (es++[x]) (es'++[x']):=by
 refine⟨by simp[h.1],fun m y hy=>?_⟩;rcases x3v m es'.length with hm|hm
 ·rw[x4p hm]at hy;obtain⟨z,h1,h2⟩:=h.2 m y hy;exact⟨z,by rw[x4p (by rw[<-h.1];exact hm)];exact h1,h2⟩
 ·rw[x4u hm]at hy;have hm0:m-es'.length=0:=by
   have:=(x2o.1 hy).1;simp at this;omega
  rw[hm0]at hy;cases hy;exact⟨x,by rw[x4u (by rw[<-h.1];exact hm),<-h.1,hm0];rfl,hl,hc⟩
inductive SubH:Heap->Heap->Prop
 |nil:SubH [] []
 |same {c:Nat×Chunk} {H H':Heap} (h:SubH H H'):SubH (c::H) (c::H')
 |els {k:Nat} {e:TypeId} {sz:Nat} {es es':List AV} {H H':Heap} (hp:ElS es es') (h:SubH H H'):SubH ((k,.own e sz es)::H) ((k,.own e sz es')::H')
theorem SubH.get{H H':Heap}(h:SubH H H'):H'.map (·.1)=H.map (·.1)/\∀j c',(j,c')∈H'->(j,c')∈H\/∃e sz es es',(j,Chunk.own e sz es)∈H/\c'=.own e sz es'/\ElS es es':=by
 induction h with
 |nil=>exact⟨rfl,by simp⟩
 | same h ih=>
   refine⟨by simp[ih.1],fun j c' hj=>?_⟩;rcases x2i.1 hj with rfl|hj
   ·exact .inl x2r
   ·rcases ih.2 j c' hj with h1|⟨e,sz,es,es',h1,h2⟩
    ·exact .inl (x2c _ h1)
    ·exact .inr ⟨e,sz,es,es',x2c _ h1,h2⟩
 | @els k e sz es es' H H' hp h ih=>
   refine⟨by simp[ih.1],fun j c' hj=>?_⟩;rcases x2i.1 hj with hj|hj
   ·cases hj;exact .inr ⟨e,sz,es,es',x2r,rfl,hp⟩
   ·rcases ih.2 j c' hj with h1|⟨e,sz,es,es',h1,h2⟩
    ·exact .inl (x2c _ h1)
    ·exact .inr ⟨e,sz,es,es',x2c _ h1,h2⟩
theorem Le.els{N:Nat}{sl:List (Nat×LV)}{H H':Heap}(h:SubH H H'):Le N ⟨sl,H⟩ ⟨sl,H'⟩:=fun σ β a w hr=>by
 obtain⟨hk,hc⟩:=h.get;refine⟨σ,β,⟨hr.size,hr.defers,hr.slots,⟨hr.heap.mem,fun j c' hj=>?_,by show(H'.map (·.1)).Nodup;rw[hk];exact hr.heap.nodup,fun j hj=>hr.heap.apart j (by rw[<-hk];exact hj),fun j hj j' hj'=>hr.heap.inj j (by rw[<-hk];exact hj) j' (by rw[<-hk];exact hj')⟩⟩,Mem.le_refl σ,Frm.refl _ w,fun b h0 h1=>absurd h0 h1,fun b ⟨j,hj,r⟩=>.inl ⟨j,by rw[<-hk];exact hj,r⟩,fun _ _ _=>rfl⟩;rcases hc j c' hj with h1|⟨e,sz,es,es',h1,rfl,h2⟩
 ·exact hr.heap.chunks j c' h1
 ·rcases hr.heap.chunks j _ h1 with⟨h3,h4⟩|⟨i,vs,h3,h4,h5,h6,h7,h8,h9⟩
  ·refine .inl ⟨h3,?_⟩;have:=h2.1;rw[h4]at this;exact x4e this
  ·refine .inr ⟨i,vs,h3,h4,h5,h6,by rw[h2.1];exact h7,h8,fun m x' hx=>?_⟩;obtain⟨x,g1,g2,g3⟩:=h2.2 m x' hx;refine⟨by rw[g2];exact(h9 m x g1).1,fun j c' hc=>?_⟩;obtain⟨c,g4,g5⟩:=g3 j c' hc;obtain⟨u,g6,g7⟩:=(h9 m x g1).2 j c g4;exact⟨u,g6,g5 _ _ g7⟩
def nxE(rows:List (List Int))(t:Int×Int):List (List Int):=rows.set t.1.toNat (rows.getD t.1.toNat []++[t.2])
def Qk(n:Nat)(l:List (Int×Int)):List (List Int):=l.foldl nxE (List.replicate n [])
theorem AG(rows:List (List Int))(t:Int×Int):(nxE rows t).length=rows.length:=x5e
theorem Pa:∀(l:List (Int×Int))(rows:List (List Int)),(l.foldl nxE rows).length=rows.length
 |[],_=>rfl
 |t::r,rows=>by rw[x6v,Pa r,AG]
theorem Yd(n:Nat)(l:List (Int×Int)):(Qk n l).length=n:=by
 unfold Qk;rw[Pa,x5x]
theorem Pc:∀(l:List (Int×Int))(rows:List (List Int))(a:Nat),((l.foldl nxE rows).getD a []).length<=(rows.getD a []).length+l.length
 |[],_,_=>x3g _
 | t::r,rows,a=>by
   rw[x6v];have h1:=Pc r (nxE rows t) a;have h2:((nxE rows t).getD a []).length<=(rows.getD a []).length+1:=by
    unfold nxE;simp only[x2l,x7x];by_cases he:t.1.toNat=a
    ·subst he;by_cases hl:t.1.toNat<rows.length
     ·simp[hl]
     ·simp[hl]
    ·simp[he]
   rw[x4q];omega
theorem Nl(n:Nat)(l:List (Int×Int))(a:Nat):((Qk n l).getD a []).length<=l.length:=by
 have:=Pc l (List.replicate n []) a;have e:((List.replicate n ([]:List Int)).getD a []).length=0:=by
  rw[x2l,x3o];split<;>rfl
 unfold Qk;omega
inductive SlRel(P:LV->LV->Prop):List (Nat×LV)->List (Nat×LV)->Prop
 |nil:SlRel P [] []
 |cons {j:Nat} {l l':LV} {r r':List (Nat×LV)} (h:P l l') (hr:SlRel P r r'):SlRel P ((j,l)::r) ((j,l')::r')
theorem SlRel.get{P:LV->LV->Prop}(h0:P (.p .any) (.p .any)){sl sl':List (Nat×LV)}(h:SlRel P sl sl')(i:Nat):P (getS sl i) (getS sl' i):=by
 induction h with
 |nil=>exact h0
 | @cons j l l' r r' h hr ih=>
   simp only[getS];cases j==i with
   |true=>exact h
   |false=>exact ih
theorem Ac{N':Nat}{sl:List (Nat×LV)}(n:Nat)(h0:(sl.all fun x=>x.2.xfree 0)=true):
  Le N' ⟨sl,[(0,.own 29 1 (List.replicate n .nils))]⟩ ⟨sl,[(0,.ext (.mat 29 3 1 (List.replicate n []) []))]⟩:=by
 have hm:=LH (N:=N') (sl:=sl) (H:=[(0,.own 29 1 (List.replicate n .nils))])
  (H':=[(0,.ext (.mat 29 3 1 (List.replicate (List.replicate n AV.nils).length []) []))])
  0 3 1 (e:=29) (es:=List.replicate n .nils) rfl (fun x hx=>x6j hx) rfl h0 rfl rfl (by simp[GM])
 simpa using hm
def svA(w n a:Nat):List (List Wd):=List.replicate a (List.replicate w 0)++List.replicate (n-a) []
def tdA(n a:Nat):List Int:=(List.range a).map ofNat++List.replicate (n-a) 0
def wtA(n a:Nat):List Bool:=List.replicate a true++List.replicate (n-a) false
theorem q4f{n a:Nat}(h:a<n):(svA w n a).set a (List.replicate w 0)=svA w n (a+1):=by
 unfold svA;rw[x6h _ _ (by simp),x5x,x7l,show n-a=(n-(a+1))+1 by omega,x7o,x6b,List.replicate_succ' (n:=a),x3s];rfl
theorem q4m{n a:Nat}(h:a<n):(tdA n a).set a (a:Int)=tdA n (a+1):=by
 unfold tdA;rw[x6h _ _ (by simp),x2m,x5a,x7l,show n-a=(n-(a+1))+1 by omega,x7o,x6b,x7f,x3y,x3s];rfl
theorem q5w{n a:Nat}(h:a<n):(wtA n a).set a true=wtA n (a+1):=by
 unfold wtA;rw[x6h _ _ (by simp),x5x,x7l,show n-a=(n-(a+1))+1 by omega,x7o,x6b,List.replicate_succ' (n:=a),x3s];rfl
theorem q4h{n a:Nat}(h:a<=n):(svA w n a).length=n:=by unfold svA;simp;omega
theorem q4n{n a:Nat}(h:a<=n):(tdA n a).length=n:=by unfold tdA;simp;omega
theorem q5z{n a:Nat}(h:a<=n):(wtA n a).length=n:=by unfold wtA;simp;omega
def svO(tm:Int):Heap:=[(1,.obj 210 [.p .nils,.p (.int .i64 tm)]),(0,.obj 210 [.p .nils,.p (.int .i64 0)])]
def svH(inn:List (List Wd))(td:List Int)(wt:List Bool)(tm:Int):Heap:=(4,.own 4 1 (wt.map bv))::(3,.own 3 1 (td.map (.int .i64)))::(2,.ext (.mat 270 255 1 (eWm inn) []))::svO tm
theorem q0x{N:Nat}{sl:List (Nat×LV)}(n:Nat)(es ws:List AV)(tm:Int)(h0:(sl.all fun x=>x.2.xfree 2)=true):
  Le N ⟨sl,(4,.own 4 1 ws)::(3,.own 3 1 es)::(2,.own 270 1 (List.replicate n .nils))::svO tm⟩ ⟨sl,(4,.own 4 1 ws)::(3,.own 3 1 es)::(2,.ext (.mat 270 255 1 (List.replicate n []) []))::svO tm⟩:=by
 have hm:=LH (N:=N) (sl:=sl) (H:=(4,.own 4 1 ws)::(3,.own 3 1 es)::(2,.own 270 1 (List.replicate n .nils))::svO tm)
  (H':=(4,.own 4 1 ws)::(3,.own 3 1 es)::(2,.ext (.mat 270 255 1 (List.replicate (List.replicate n AV.nils).length []) []))::svO tm)
  2 255 1 (e:=270) (es:=List.replicate n .nils) rfl (fun x hx=>x6j hx) rfl h0 rfl rfl (by simp[GM,svO])
 simpa using hm
theorem q7g{N:Nat}(inn:List (List Wd)){a:Nat}(hel:(eWm inn).length=a)(most:Nat)(tm:Int):
  Le N ⟨[(3,.p (.int .i64 most)),(8,.ptr 0 0),(9,.ptr 1 0),(11,.hd 2 0 a),(130,.p (.int .i64 a)),(131,.p (.int .i64 0))],(2,.ext (.mat 270 255 1 (eWm inn) []))::svO tm⟩
   ⟨[(3,.p (.int .i64 most)),(8,.ptr 0 0),(9,.ptr 1 0),(11,.p (LC inn)),(130,.p (.int .i64 a)),(131,.p (.int .i64 0))],svO tm⟩:=by
 refine I6 (k:=2) (e:=270) (e2:=255) (sz:=1) (rows:=eWm inn) rfl (fun i=>?_) (by show [1,0].Sublist [2,1,0];decide) fun j c' hj=>?_
 ·refine SlRel.get (P:=fun l l'=>l'=l.kill 2\/(l=.hd 2 0 (eWm inn).length/\l'=.p (.sl ((eWm inn).map .sl)))) (.inl rfl) ?_ i;exact .cons (.inl rfl) (.cons (.inl rfl) (.cons (.inl rfl) (.cons (.inr ⟨by rw[hel],rfl⟩) (.cons (.inl rfl) (.cons (.inl rfl) .nil)))))
 ·rcases x2i.1 hj with h|h
  ·cases h;exact⟨by decide,x2c _ x2r,rfl⟩
  ·rcases x2a.1 h with h;cases h;exact⟨by decide,x2c _ (x2c _ x2r),rfl⟩
theorem IF{goes:List Wd}{i:Nat}(hl:goes.length=w)(h:i<w):(goes.take i++List.replicate (w-i) 0).set i (goes[i]'(by omega))=goes.take (i+1)++List.replicate (w-(i+1)) 0:=by
 rw[x6h _ _ (by rw[x3m];omega),x3m,show i-min i goes.length=0 by omega,show w-i=(w-(i+1))+1 by omega,x7o,x6b,x3u (by omega),x3s];rfl
theorem Rj(g:List (List Int)×List (List Int))(n:Nat)(hn:n<=5000)(hg:XU n g.1)(hgl:∀r∈g.1,r.length<=1000000)(most:Nat)(hm:most<=5000)(gen kill:List (List Wd))(hgn:gen.length=n)(hkn:kill.length=n)(hgw:∀r∈gen,r.length=most/64+1)(hkw:∀r∈kill,r.length=most/64+1):SpecP prog 198 [VW g,LC gen,LC kill,.int .i64 most] (fun r=>∃(inn:List (List Wd)) (tm:Int),(∀b:Int,0<=b->b<n->∀f,f/64<most/64+1->(bitW (inn.getD b.toNat []) f=true↔SolP g.1 gen kill f b))/\inn.length=n/\r=.agg [eMat (inn.map fun row=>UO row most),.int .i64 tm]):=by
 refine sB Ht func198 rfl call198 ?_;conv=>whnf
 have hgl0:=hgl;have hL:=Uo g;have hgl1:g.1.length=n:=hg.1;rw[hgl1]at hL;obtain⟨w,hw⟩ : ∃w,w=most/64+1:=⟨_,rfl⟩;rw[<-hw];rw[<-hw]at hgw hkw;have e7:=Io most;repeat' (first|((first|(refine iM fun _=>?_)|refine dA ?_|refine x2t rfl ?_|refine aD ?_|refine aR ?_|refine bP ?_|(refine iA fun _=>?_)|refine IdxK.xs (by omega) ?_|refine QX (by omega) ?_|(refine ByteK.at (by omega) ?_)|refine wI ?_|refine cP hL ?_|refine x8v n (by omega) (by first|(show 24*_<=140737488355328;omega)|(show 8*_<=140737488355328;omega)|(show 1*_<=140737488355328;omega)) (by unfold maxLen;omega) ?_);conv=>whnf)|(apply bD<;>intro _<;>first|omega|conv=>whnf)|(apply bE<;>intro _<;>first|omega|conv=>whnf)|(apply bN<;>intro _<;>conv=>whnf)|(apply bB<;>intro _<;>conv=>whnf))
 refine LoopK.inv QY (fun a:Nat=>⟨[(0,.p (VW g)),(1,.p (LC gen)),(2,.p (LC kill)),(3,.p (.int .i64 most)),(8,.ptr 0 0),(9,.ptr 1 0),(11,.hd 2 0 n),(12,.hd 3 0 n),(13,.hd 4 0 n),(30,.p (.int .i64 n)),(31,.p (.int .i64 a))],svH (svA w n a) (tdA n a) (wtA n a) 0⟩) (fun a=>a<=n) (fun a=>n-a) 0
  (by
    refine Le.trans (q0x n _ _ 0 rfl) ?_;exact Le.of_eq (by simp[svH,svA,tdA,wtA,eWm,bv];exact⟨rfl,.inr rfl,.inr rfl⟩)) (x3z _) ?_
 intro a ha;rcases x3v a n with h1|h1
 ·have g1:=q4f (w:=w) h1;have g2:=q4m h1;have g3:=q5w h1;have l1:=q4h (w:=w) ha;have l2:=q4n ha;have l3:=q5z ha;have x2:((tdA n a).map (AV.int .i64))[a]?=some (.int .i64 ((tdA n a)[a]'(by omega))):=by rw[x2e,x2n (by omega)];rfl
  have x3:((wtA n a).map bv)[a]?=some (bv ((wtA n a)[a]'(by omega))):=by rw[x2e,x2n (by omega)];rfl
  generalize(tdA n a)[a]'(by omega)=o2 at x2;generalize(wtA n a)[a]'(by omega)=o3 at x3;have q1:(eWm (svA w n a)).set a (List.replicate w (.int .u64 0))=eWm (svA w n (a+1)):=by rw[<-g1];unfold eWm;rw[x4m,x6x];rfl
  have q2:((tdA n a).map (AV.int .i64)).set a (.int .i64 a)=(tdA n (a+1)).map (AV.int .i64):=by rw[<-g2,x4m]
  have q3:((wtA n a).map bv).set a .tt=(wtA n (a+1)).map bv:=by rw[<-g3,x4m];rfl
  generalize svA w n a=inn at*
  generalize tdA n a=td at*
  generalize wtA n a=wt at*
  have hel:(eWm inn).length=n:=by unfold eWm;rw[x2m,l1]
  unfold svH svO;conv=>whnf
  repeat' (first|((first|(refine iM fun _=>?_)|refine dA ?_|refine x2t rfl ?_|refine aD ?_|refine aR ?_|refine bP ?_|(refine iA fun _=>?_)|refine IdxK.xs (by omega) ?_|refine QX (by omega) ?_|(refine ByteK.at (by omega) ?_)|refine x2t (by decide) ?_|refine Wr.i64 (by first|omega|(rw[e7];omega)) (by first|omega|(rw[e7];omega)) ?_|refine x8v w (by rw[hw,e7];omega) (by show 8*_<=140737488355328;omega) (by unfold maxLen;omega) ?_|refine x4j a rfl h1 ?_|(refine FA QY rfl rfl rfl rfl rfl rfl rfl rfl rfl (by decide) a [] (by omega) (by omega) (by simp) ⟨by simp,by simp,by simp⟩ ?_)|refine x5i a 0 _ (.int .i64 a) (by omega) x2 (x3g 1) rfl ?_|refine x5i a 0 _ .tt (by omega) x3 (x3g 1) (by cases o3<;>rfl) ?_);conv=>whnf)|(apply bD<;>intro _<;>first|omega|conv=>whnf)|(apply bE<;>intro _<;>first|omega|conv=>whnf)|(apply bN<;>intro _<;>conv=>whnf)|(apply bB<;>intro _<;>conv=>whnf))
  all_goals exact⟨a+1,h1,by omega,Le.of_eq (by show _=St.mk _ (svH (svA w n (a+1)) (tdA n (a+1)) (wtA n (a+1)) 0);unfold svH svO;rw[<-q1,<-q2,<-q3];rfl)⟩
 ·obtain rfl:a=n:=by omega
  have hB:a*(64*w)<=5000*(64*79):=Nat.mul_le_mul hn (by omega);have hst:=Ed (n:=a) (w:=w) (nx:=g.1) (gen:=gen) (kill:=kill) (by omega);have i1:svA w a a=List.replicate a (List.replicate w 0):=by unfold svA;simp
  have i2:tdA a a=(List.range a).map ofNat:=by unfold tdA;simp
  have i3:wtA a a=List.replicate a true:=by unfold wtA;simp
  rw[i1,i2,i3];conv=>whnf
  repeat' (first|((first|(refine iM fun _=>?_)|refine dA ?_|refine x2t rfl ?_|refine aD ?_|refine aR ?_|refine bP ?_|(refine iA fun _=>?_)|refine IdxK.xs (by omega) ?_|refine QX (by omega) ?_|(refine ByteK.at (by omega) ?_)|refine wI ?_);conv=>whnf)|(apply bD<;>intro _<;>first|omega|conv=>whnf)|(apply bE<;>intro _<;>first|omega|conv=>whnf)|(apply bN<;>intro _<;>conv=>whnf)|(apply bB<;>intro _<;>conv=>whnf))
  refine LoopK.inv QY (fun x:SvS×List Int×Int=>⟨[(0,.p (VW g)),(1,.p (LC gen)),(2,.p (LC kill)),(3,.p (.int .i64 most)),(8,.ptr 0 0),(9,.ptr 1 0),(11,.hd 2 0 a),(12,.hd 3 x.2.1.length x.1.todo.length),(13,.hd 4 0 a)],svH x.1.inn (x.2.1++x.1.todo) x.1.waits x.2.2⟩)
   (fun x=>SvI a w g.1 gen kill x.1/\(∀y:Int,0<=y->y<a->y∉x.1.todo->closedA a w g.1 gen kill x.1.inn y)/\0<=x.2.2/\(x.2.1.length:Int)<=x.2.2/\x.2.2.toNat+(a*(64*w)+x.1.todo.length-VR w x.1.inn)<=a*(64*w)+a)
   (fun x=>a*(64*w)+x.1.todo.length-VR w x.1.inn) (⟨List.replicate a (List.replicate w 0),(List.range a).map ofNat,List.replicate a true⟩,[],0)
   (Le.mk [] (by simp) (by simp) (by simp[svH,svO]) (.r (.r (.r (.r (.r (.r (.r (.cons (.of_eq (by simp only[x2m,x5a];rfl)) (.r .nil))))))))) (.cons rfl (.refl _) (.cons rfl (.refl _) (.cons rfl (.refl _) (.cons rfl (.refl _) (.cons rfl (.refl _) .nil)))))) ⟨hst,fun y h0 h1 hy=>absurd (x3q.2 ⟨y.toNat,x4y.2 (by omega),by show((y.toNat:Nat):Int)=y;omega⟩) hy,Int.le_refl _,Int.le_refl _,by simp only[x2m,x5a];omega⟩ ?_
  rintro⟨st,pre,tm⟩ ⟨hI,hcl,ht0,hpt,hmu⟩;simp only at hI hcl ht0 hpt hmu⊢;cases htd:st.todo with
  | nil=>
    rw[htd]at hcl hmu;unfold svH svO;conv=>whnf
    repeat' (first|((first|(refine iM fun _=>?_)|refine dA ?_|refine x2t rfl ?_|refine aD ?_|refine aR ?_|refine bP ?_|(refine iA fun _=>?_)|refine IdxK.xs (by omega) ?_|refine QX (by omega) ?_|(refine ByteK.at (by omega) ?_)|refine wI ?_);conv=>whnf)|(apply bD<;>intro _<;>first|omega|conv=>whnf)|(apply bE<;>intro _<;>first|omega|conv=>whnf)|(apply bN<;>intro _<;>conv=>whnf)|(apply bB<;>intro _<;>conv=>whnf))
    all_goals try (exfalso;simp only[x7g]at*;omega)
    obtain⟨inn,todo,waits⟩:=st;simp only at htd hI hcl hmu⊢;subst htd;have hil:=hI.len;simp only at hil;have hel:(eWm inn).length=a:=by unfold eWm;rw[x2m,hil]
    have hfin:∀b:Int,0<=b->b<a->∀f,f/64<w->(bitW (inn.getD b.toNat []) f=true↔SolP g.1 gen kill f b):=fun b h0 h1 f hf=>OA hI hcl rfl (by omega) h0 h1 hf;have hrow:=hI.rows;simp only at hrow;refine LoopK.inv QY (fun i:Nat=>⟨[(3,.p (.int .i64 most)),(8,.ptr 0 0),(9,.ptr 1 0),(11,.p (LC inn)),(130,.p (.int .i64 a)),(131,.p (.int .i64 i))],[(1,.obj 210 [.hd 5 0 i,.p (.int .i64 tm)]),(0,.obj 210 [.p .nils,.p (.int .i64 0)]),(5,.own 29 1 ((inn.take i).map fun r=>QO (UO r most)))]⟩) (fun i=>i<=a) (fun i=>a-i) 0
     (by
       refine Le.trans (q7g (N:=_) inn hel most tm) ?_;exact Le.mk [(5,.own 29 1 [])] (by simp[Chunk.new0];rfl) (by simp) (by simp) (.r (.r (.r (.r (.r (.r .nil)))))) (.cons rfl (.obj (.cons (.nil x2r) (.r .nil))) (.cons rfl (.refl _) (.new x2r .nil)))) (x3z _) ?_
    intro i hi;rcases x3v i a with h1|h1
    ·have hlt:i<inn.length:=by omega
     have eI:((eWm inn).map AV.sl)[i]?=some (.sl (inn[i].map eW)):=by unfold eWm;rw[x2e,x2e,x2n hlt];rfl
     have hrl:=hrow _ (x3w hlt);have hLi:=J8 inn[i] most (by omega) (by omega);have hacl:((inn.take i).map fun r=>QO (UO r most)).length=i:=by rw[x2m,x3m];omega
     have hacs:((inn.take (i+1)).map fun r=>QO (UO r most))=((inn.take i).map fun r=>QO (UO r most))++[QO (UO inn[i] most)]:=by rw[x3u hlt,x3y];rfl
     generalize((inn.take i).map fun r=>QO (UO r most))=acc at hacl hacs⊢;generalize inn[i]=row at*
     conv=>whnf
     repeat' (first|((first|(refine iM fun _=>?_)|refine dA ?_|refine x2t rfl ?_|refine aD ?_|refine aR ?_|refine bP ?_|(refine iA fun _=>?_)|refine IdxK.xs (by omega) ?_|refine QX (by omega) ?_|(refine ByteK.at (by omega) ?_)|refine wI ?_|(refine IdxK.at (k:=i) rfl eI rfl ?_)|refine cP hLi ?_|refine x6y hacl.symm rfl (by show(i+1)*24<=140737488355328;omega) (by show i+1<=9223372036854775807;omega) (fun x hx=>by rcases x2a.1 hx with rfl;exact⟨rfl,rfl⟩) ?_);conv=>whnf)|(apply bD<;>intro _<;>first|omega|conv=>whnf)|(apply bE<;>intro _<;>first|omega|conv=>whnf)|(apply bN<;>intro _<;>conv=>whnf)|(apply bB<;>intro _<;>conv=>whnf)|(refine x2t ?_ ?_<;>conv=>whnf))
     all_goals first
      |(exfalso;omega)
      |exact⟨i+1,h1,by omega,Le.of_eq (by rw[hacs];rfl)⟩
    ·obtain rfl:i=a:=by omega
     have hall:((inn.take i).map fun r=>QO (UO r most))=inn.map fun r=>QO (UO r most):=by rw[x3f (by omega)]
     have hal2:(inn.map fun r=>QO (UO r most)).length=i:=by rw[x2m,hil]
     rw[hall];conv=>whnf
     repeat' (first|((first|(refine iM fun _=>?_)|refine dA ?_|refine x2t rfl ?_|refine aD ?_|refine aR ?_|refine bP ?_|(refine iA fun _=>?_)|refine IdxK.xs (by omega) ?_|refine QX (by omega) ?_|(refine ByteK.at (by omega) ?_)|refine wI ?_);conv=>whnf)|(apply bD<;>intro _<;>first|omega|conv=>whnf)|(apply bE<;>intro _<;>first|omega|conv=>whnf)|(apply bN<;>intro _<;>conv=>whnf)|(apply bB<;>intro _<;>conv=>whnf))
     all_goals try (exfalso;omega)
     have he:(avI (inn.map fun row=>UO row most)).map AV.sl=inn.map fun r=>QO (UO r most):=by
      unfold avI;rw[x7p,x7p];rfl
     refine⟨_,.agg (cs:=[eMat (inn.map fun row=>UO row most),.int .i64 tm]) rfl fun q l c h1 h3=>?_,⟨inn,tm,hfin,hil,rfl⟩⟩
     match q,h1,h3 with
     | 0,h1,h3=>
       cases h1;cases h3;show Frz _ _ (.sl ((avI (inn.map fun row=>UO row most)).map AV.sl));rw[he];exact .hd rfl hal2.symm
     |1,h1,h3=>cases h1;cases h3;exact .p (Sub.refl _)
     |q+2,h1,h3=>simp at h1
  | cons x r=>
    have har:=hI.rng x (by rw[htd];exact x2r);obtain⟨hJ,hgs⟩:=Oo hI hcl htd;have hca:=Uw (w:=w) st.inn;rw[hI.len]at hca;rw[htd]at hmu;simp only[x4q]at hmu;obtain⟨inn,todo,waits⟩:=st;simp only at htd hI hcl hmu hJ hgs hca⊢;subst htd;obtain⟨xn,hxn⟩ : ∃xn:Nat,x=xn:=⟨x.toNat,by omega⟩;subst hxn;rw[x5c]at hJ hgs;have hxl:xn<a:=by omega
    have hil:=hI.len;have hwl:=hI.wl;simp only at hil hwl;have hiw:=hI.rows _ (x3w (show xn<inn.length by omega));have e1:((pre++(xn:Int)::r).map (AV.int .i64))[pre.length]?=some (.int .i64 xn):=by rw[x2e,x4u (x3g _),x7l];rfl
    have e2:(waits.map bv)[xn]?=some (bv (waits[xn]'(by omega))):=by rw[x2e,x2n (by omega)];rfl
    generalize waits[xn]'(by omega)=w0 at e2;have hrm:(waits.map bv).set xn .ff=(waits.set xn false).map bv:=by rw[x4m];rfl
    have hwm:(waits.map bv).length=a:=by rw[x2m,hwl]
    have hpm:((pre++(xn:Int)::r).map (AV.int .i64)).length=pre.length+(r.length+1):=by simp
    unfold svH svO;conv=>whnf
    repeat' (first|((first|(refine iM fun _=>?_)|refine dA ?_|refine x2t rfl ?_|refine aD ?_|refine aR ?_|refine bP ?_|(refine iA fun _=>?_)|refine IdxK.xs (by omega) ?_|refine QX (by omega) ?_|(refine ByteK.at (by omega) ?_)|refine x4j 0 rfl (by simp) ?_|refine x5z pre.length 0 (.int .i64 xn) (by omega) e1 ?_|refine SlK.mk 1 (r.length+1) rfl rfl (by omega) (by simp) ?_|refine x4j xn rfl (by omega) ?_|refine x5i xn 0 _ .ff (by omega) e2 (x3g 1) (by cases w0<;>rfl) ?_|refine x2t (by decide) ?_|refine Wr.i64 (by first|omega|(rw[e7];omega)) (by first|omega|(rw[e7];omega)) ?_|refine x8v w (by rw[hw,e7];omega) (by show 8*_<=140737488355328;omega) (by unfold maxLen;omega) ?_);conv=>whnf)|(apply bD<;>intro _<;>first|omega|conv=>whnf)|(apply bE<;>intro _<;>first|omega|conv=>whnf)|(apply bN<;>intro _<;>conv=>whnf)|(apply bB<;>intro _<;>conv=>whnf))
    all_goals try (exfalso;simp only[x4q]at*;omega)
    have hxg:xn<gen.length:=by omega
    have hxk:xn<kill.length:=by omega
    have hG:=hgw _ (x3w hxg);have hK:=hkw _ (x3w hxk);have eG:((eWm gen).map AV.sl)[xn]?=some (.sl (gen[xn].map eW)):=by unfold eWm;rw[x2e,x2e,x2n hxg];rfl
    have eK:((eWm kill).map AV.sl)[xn]?=some (.sl (kill[xn].map eW)):=by unfold eWm;rw[x2e,x2e,x2n hxk];rfl
    have eI:(eWm inn)[xn]?=some ((inn[xn]'(by omega)).map eW):=by unfold eWm;rw[x2e,x2n (by omega)];rfl
    have hel:(eWm inn).length=a:=by unfold eWm;rw[x2m,hil]
    have hgoes:goA w gen kill inn xn=PK w gen[xn] (inn[xn]'(by omega)) kill[xn]:=by
     unfold goA;rw[x2l,x2n hxg,x2l,x2n (by omega),x2l,x2n hxk];rfl
    rw[hgoes]at hJ hgs;generalize hgG:gen[xn]=G at*
    generalize hgK:kill[xn]=Kr at*
    generalize hgI:inn[xn]'(by omega)=I at*
    have hgl:(PK w G I Kr).length=w:=A5 _ _ _ _;refine LoopK.inv QY (fun i:Nat=>⟨[(0,.p (VW g)),(1,.p (LC gen)),(2,.p (LC kill)),(3,.p (.int .i64 most)),(8,.ptr 0 0),(9,.ptr 1 0),(11,.hd 2 0 a),(12,.hd 3 (pre.length+1) r.length),(13,.hd 4 0 a),(15,.p (.int .i64 xn)),(16,.hd 5 0 w),(69,.p (.int .i64 w)),(70,.p (.int .i64 i))],(5,.own 255 1 (((PK w G I Kr).take i++List.replicate (w-i) 0).map eW))::svH inn (pre++(xn:Int)::r) (waits.set xn false) (tm+1)⟩) (fun i=>i<=w) (fun i=>w-i) 0
     (Le.of_eq (by unfold svH svO;simp[hrm,eW];exact⟨rfl,rfl,.inr rfl⟩)) (x3z _) ?_
    intro i hi;rcases x3v i w with h1|h1
    ·have gI:(I.map eW)[i]?=some (.int .u64 ((I[i]'(by omega)).toNat:Int)):=C3 (by omega);have gG:(G.map eW)[i]?=some (.int .u64 ((G[i]'(by omega)).toNat:Int)):=C3 (by omega);have gK:(Kr.map eW)[i]?=some (.int .u64 ((Kr[i]'(by omega)).toNat:Int)):=C3 (by omega);have hset:=IF (goes:=PK w G I Kr) (w:=w) hgl h1;have hgi:(PK w G I Kr)[i]'(by omega)=G[i]'(by omega) |||(I[i]'(by omega) &&& ~~~ (Kr[i]'(by omega))):=by
      unfold PK;rw[x5t,x8t,x2l,x2n (by omega),x2l,x2n (by omega),x2l,x2n (by omega)];rfl
     rw[hgi]at hset;obtain⟨acc,hacc⟩ : ∃acc,acc=((PK w G I Kr).take i++List.replicate (w-i) 0):=⟨_,rfl⟩;have hal:acc.length=w:=by rw[hacc,x2s,x3m,x5x];omega
     have gA:(acc.map eW)[i]?=some (eW (acc[i]'(by omega))):=by rw[x2e,x2n (by omega)];rfl
     rw[<-hacc]at hset⊢;generalize acc[i]'(by omega)=o5 at gA;generalize I[i]'(by omega)=x1 at*
     generalize G[i]'(by omega)=x2 at*
     generalize Kr[i]'(by omega)=x3 at*
     have hst2:(acc.map eW).set i (eW (x2 |||(x1 &&& ~~~x3)))=((PK w G I Kr).take (i+1)++List.replicate (w-(i+1)) 0).map eW:=by rw[<-hset,x4m]
     have ham:(acc.map eW).length=w:=by rw[x2m,hal]
     have hIm:(I.map eW).length=w:=by rw[x2m];exact hiw
     unfold svH svO;conv=>whnf
     repeat' (first|((first|(refine iM fun _=>?_)|refine dA ?_|refine x2t rfl ?_|refine aD ?_|refine aR ?_|refine bP ?_|(refine iA fun _=>?_)|refine IdxK.xs (by omega) ?_|refine QX (by omega) ?_|(refine ByteK.at (by omega) ?_)|refine wI ?_|(refine IdxK.at (k:=xn) rfl eG rfl ?_)|(refine IdxK.at (k:=i) rfl gG rfl ?_)|(refine IdxK.at (k:=xn) rfl eK rfl ?_)|(refine IdxK.at (k:=i) rfl gK rfl ?_)|refine x4j xn rfl (by omega) ?_|refine x4j i rfl (by omega) ?_|refine RowK.mk xn _ (by omega) eI (by simp) ?_|refine RLd.mk _ i 0 _ eI (by simp) (by omega) gI ?_|refine UF rfl x1 x3 _ rfl rfl rfl rfl (.inr (.inr ⟨rfl,rfl⟩)) ?_|refine UF rfl x2 _ _ rfl rfl rfl rfl (.inr (.inl ⟨rfl,rfl⟩)) ?_|refine x5i i 0 (eW o5) (eW (x2 |||(x1 &&& ~~~x3))) (by omega) gA (x3g 1) rfl ?_);conv=>whnf)|(apply bD<;>intro _<;>first|omega|conv=>whnf)|(apply bE<;>intro _<;>first|omega|conv=>whnf)|(apply bN<;>intro _<;>conv=>whnf)|(apply bB<;>intro _<;>conv=>whnf))
     all_goals first
      |(exfalso;omega)
      |exact⟨i+1,h1,by omega,Le.of_eq (by rw[<-hst2];rfl)⟩
    ·have hie:i=w:=by omega
     rw[hie];have hall:(PK w G I Kr).take w++List.replicate (w-w) 0=PK w G I Kr:=by rw[x3f (by omega),x7l];simp
     rw[hall];obtain⟨gw,hgw2⟩ : ∃gw,gw=PK w G I Kr:=⟨_,rfl⟩;rw[<-hgw2]at hgl hgs hJ⊢;have hNx:=Wt g xn hgl0;have hhas:ZF g.1.length (xn:Int)=true:=by unfold ZF;simp;omega
     rw[if_pos hhas,x5c]at hNx;unfold svH svO;conv=>whnf
     repeat' (first|((first|(refine iM fun _=>?_)|refine dA ?_|refine x2t rfl ?_|refine aD ?_|refine aR ?_|refine bP ?_|(refine iA fun _=>?_)|refine IdxK.xs (by omega) ?_|refine QX (by omega) ?_|(refine ByteK.at (by omega) ?_)|refine wI ?_|refine cP hNx ?_);conv=>whnf)|(apply bD<;>intro _<;>first|omega|conv=>whnf)|(apply bE<;>intro _<;>first|omega|conv=>whnf)|(apply bN<;>intro _<;>conv=>whnf)|(apply bB<;>intro _<;>conv=>whnf))
     all_goals try (exfalso;omega)
     have hnx:∀r∈g.1,∀b∈r,0<=b/\b<a:=hg.2;have hnxl:(g.1.getD xn []).length<=1000000:=by
      rw[x2l,x2n (by omega)];exact hgl0 _ (x3w (by omega))
     have hnr:∀b∈g.1.getD xn [],0<=b/\b<a:=fun b hb=>by
      rw[x2l,x2n (by omega)]at hb;exact hnx _ (x3w (by omega)) b hb
     obtain⟨nxt,hnxt⟩ : ∃nxt,nxt=g.1.getD xn []:=⟨_,rfl⟩;have hE:∀{st:SvS},SvJ a w g.1 gen kill xn gw nxt.length st->∀x:Int,0<=x->x<a->x∉st.todo->closedA a w g.1 gen kill st.inn x:=fun {st} h=>by
      subst hnxt;exact IQ h
     have hJn:∀{j:Nat}{st:SvS},SvJ a w g.1 gen kill xn gw j st->∀hj:j<nxt.length,SvJ a w g.1 gen kill xn gw (j+1) (jnE gw st nxt[j])/\VR w st.inn+(jnE gw st nxt[j]).todo.length<=VR w (jnE gw st nxt[j]).inn+st.todo.length:=fun {j st} h hj=>by
      subst hnxt;exact q3k hnx har.1 har.2 hgl hgs h hj
     rw[<-hnxt]at hnr hnxl⊢;clear hgs hNx;have hnl:(nxt.map (AV.int .i64)).length=nxt.length:=x2m _;refine LoopK.inv QY (fun x:Nat×SvS×List Int=>⟨[(0,.p (VW g)),(1,.p (LC gen)),(2,.p (LC kill)),(3,.p (.int .i64 most)),(8,.ptr 0 0),(9,.ptr 1 0),(11,.hd 2 0 a),(12,.hd 3 x.2.2.length x.2.1.todo.length),(13,.hd 4 0 a),(16,.hd 5 0 w),(102,.p (QO nxt)),(103,.p (.int .i64 (nxt.map (AV.int .i64)).length)),(104,.p (.int .i64 x.1))],(5,.own 255 1 (gw.map eW))::svH x.2.1.inn (x.2.2++x.2.1.todo) x.2.1.waits (tm+1)⟩)
      (fun x=>x.1<=nxt.length/\SvJ a w g.1 gen kill xn gw x.1 x.2.1/\VR w inn+x.2.1.todo.length<=VR w x.2.1.inn+r.length/\(x.2.2.length:Int)<=tm+1)
      (fun x=>nxt.length-x.1) (0,⟨inn,r,waits.set xn false⟩,pre++[(xn:Int)]) (Le.of_eq (by unfold svH svO;simp;rfl)) ⟨x3z _,hJ,x3g _,by simp;omega⟩ ?_
     rintro⟨j,⟨inn2,todo2,waits2⟩,pre2⟩ ⟨h2,h3,h4,h5⟩;simp only at h2 h3 h4 h5⊢;have hca2:=Uw (w:=w) inn2;have hl2:=h3.I.len;simp only at hl2;rw[hl2]at hca2;rcases x3v j nxt.length with hj|hj
     ·obtain⟨h6,h7⟩:=hJn h3 hj;have hbr:=hnr _ (x3w hj);obtain⟨bn,hbj⟩ : ∃bn:Nat,nxt[j]=bn:=⟨nxt[j].toNat,by omega⟩;rw[hbj]at h6 h7 hbr;have hbl:bn<inn2.length:=by omega
      have hwl2:=h3.I.wl;simp only at hwl2;unfold jnE at h6 h7;simp only[x5c]at h6 h7;rw[x2l,x2n hbl,x5q,x2l,x2n (show bn<waits2.length by omega),x5q]at h6 h7;have hrw:=h3.I.rows _ (x3w hbl);have eR:(eWm inn2)[bn]?=some (inn2[bn].map eW):=by unfold eWm;rw[x2e,x2n hbl];rfl
      have eW2:(waits2.map bv)[bn]?=some (bv (waits2[bn]'(by omega))):=by rw[x2e,x2n (by omega)];rfl
      have hmset:(eWm inn2).set bn ((ZM inn2[bn] gw).map eW)=eWm (inn2.set bn (ZM inn2[bn] gw)):=by unfold eWm;rw[x4m]
      have hwset:(waits2.map bv).set bn .tt=(waits2.set bn true).map bv:=by rw[x4m];rfl
      generalize inn2[bn]=row at*
      generalize waits2[bn]'(by omega)=wb at*
      have hjo:=SL row gw (by omega) (by omega);have hjl:=Y9 (b:=row) (c:=gw) (by omega);have hrm2:(row.map eW).length=w:=by rw[x2m];exact hrw
      have hgm2:(gw.map eW).length=w:=by rw[x2m];exact hgl
      have hel2:(eWm inn2).length=a:=by unfold eWm;rw[x2m,hl2]
      have hwm2:(waits2.map bv).length=a:=by rw[x2m,hwl2]
      have hjo2:SpecH prog 239 [.hd 1000 0 (row.map eW).length,.hd 1001 0 w] ((1000,.own 255 1 (row.map eW))::bif true then [(1001,.own 255 1 (gw.map eW))]else []) (fun r H=>r=.p (.bool (Qy row gw row.length))/\H=[wsH 1000 (ZM row gw),wsH 1001 gw]):=by
       rw[hrm2];rw[hrw,hgl]at hjo;rw[hrw];exact hjo
      generalize Qy row gw row.length=mv at*
      unfold svH svO;rcases wb with _|_;rcases pre2 with _|⟨y,p2⟩;all_goals
       conv=>whnf
       repeat' (first|((first|(refine iM fun _=>?_)|refine dA ?_|refine x2t rfl ?_|refine aD ?_|refine aR ?_|refine bP ?_|(refine iA fun _=>?_)|refine IdxK.xs (by omega) ?_|refine QX (by omega) ?_|(refine ByteK.at (by omega) ?_)|refine wI ?_|refine x4j bn hbj (by omega) ?_|refine RowK.mk bn _ (by omega) eR (by simp) ?_|(refine Zb 2 bn 5 true ((ZM row gw).map eW) (S:=fun c=>c=.bool mv) (.row (.own rfl .nil)) hjo2 rfl eR (by omega) (fun _=>⟨rfl,by decide⟩) (fun l' H' hh=>by obtain⟨h8,h9⟩:=hh;exact⟨_,h8,rfl,h9⟩) (by rw[x2m,x2m,hjl]) ?_;rintro _ rfl)|refine x5z bn 0 _ (by omega) eW2 ?_|refine x5i bn 0 _ .tt (by omega) eW2 (x3g 1) rfl ?_|refine XH (by simp) (by simp;omega) ?_|refine TS QY rfl rfl (Nat.succ_pos _) rfl rfl rfl rfl rfl rfl (by decide) (by rw[x2m,x2s]) rfl (Nat.succ_pos _) (fun x hx=>by rcases x2a.1 hx with rfl;exact⟨rfl,rfl⟩) (by show _+1<=maxLen;unfold maxLen;omega) (by show(_+1)*8<=_;omega) ?_ ?_);conv=>whnf)|(apply bD<;>intro _<;>first|omega|conv=>whnf)|(apply bE<;>intro _<;>first|omega|conv=>whnf)|(apply bN<;>intro _<;>conv=>whnf)|(apply bB<;>intro _<;>conv=>whnf)|(refine x2t ?_ ?_<;>conv=>whnf))
       all_goals try (exfalso;simp_all;done)
       all_goals first
        | (have hq:(mv && !true)=false:=by simp[*]
           rw[hq,x3t]at h6 h7;exact⟨(j+1,⟨inn2.set bn (ZM row gw),todo2,waits2⟩,_),⟨hj,h6,by simp only at h7⊢;omega,h5⟩,by simp only;omega,Le.of_eq (by rw[<-hmset];rfl)⟩)
        | (have hq:(mv && !false)=false:=by simp[*]
           rw[hq,x3t]at h6 h7;exact⟨(j+1,⟨inn2.set bn (ZM row gw),todo2,waits2⟩,_),⟨hj,h6,by simp only at h7⊢;omega,h5⟩,by simp only;omega,Le.of_eq (by rw[<-hmset];rfl)⟩)
        | (have hq:(mv && !false)=true:=by simp[*]
           rw[hq,x3p]at h6 h7;exact⟨(j+1,⟨inn2.set bn (ZM row gw),todo2++[(bn:Int)],waits2.set bn true⟩,_),⟨hj,h6,by simp only[x2s,x3a]at h7⊢;omega,h5⟩,by simp only;omega,Le.of_eq (by simp only[svH,svO,<-hmset,<-hwset,hbj,x3y,x3s,x2s,x3l,x9u];rfl)⟩)
        | (have hq:(mv && !false)=true:=by simp[*]
           rw[hq,x3p]at h6 h7;exact⟨(j+1,⟨inn2.set bn (ZM row gw),todo2++[(bn:Int)],waits2.set bn true⟩,[]),⟨hj,h6,by simp only[x2s,x3a]at h7⊢;omega,by simp only[x7g];omega⟩,by simp only;omega,Le.of_eq (by rw[<-List.map_drop,List.drop_left];simp only[svH,svO,<-hmset,<-hwset,hbj,x3y,x3s,x2s,x3l,x9u];rfl)⟩)
     ·obtain rfl:j=nxt.length:=by omega
      have hcl2:=hE h3;unfold svH svO;conv=>whnf
      repeat' (first|((first|(refine iM fun _=>?_)|refine dA ?_|refine x2t rfl ?_|refine aD ?_|refine aR ?_|refine bP ?_|(refine iA fun _=>?_)|refine IdxK.xs (by omega) ?_|refine QX (by omega) ?_|(refine ByteK.at (by omega) ?_)|refine wI ?_);conv=>whnf)|(apply bD<;>intro _<;>first|omega|conv=>whnf)|(apply bE<;>intro _<;>first|omega|conv=>whnf)|(apply bN<;>intro _<;>conv=>whnf)|(apply bB<;>intro _<;>conv=>whnf))
      all_goals try (exfalso;omega)
      all_goals first
       |exact⟨(⟨inn2,todo2,waits2⟩,pre2,tm+1),⟨h3.I,hcl2,by simp only;omega,h5,by simp only;omega⟩,by simp only[x4q];omega,lE⟩
def x1d(n:Nat)(steps:List (Int×Int))(gen kill:List (List Int))(most:Nat)(r:AV):Prop:=∃(inn:List (List Wd)) (tm:Int),(∀b:Int,0<=b->b<n->∀f,f/64<most/64+1->(bitW (inn.getD b.toNat []) f=true↔SolP (QR n steps).1 (gen.map (HL (most/64+1))) (kill.map (HL (most/64+1))) f b))/\inn.length=n/\r=.tup [.agg [eMat (inn.map fun row=>UO row most),.int .i64 tm],.tt]
theorem Tc(n:Nat)(hn:n<=5000)(steps:List (Int×Int))(hl:steps.length<=1000000)(hs:∀s∈steps,(0<=s.1/\s.1<n)/\0<=s.2/\s.2<n)(gen kill:List (List Int))(hg:gen.length=n)(hk:kill.length=n)(most:Nat)(hm:most<=5000)(hgr:∀r∈gen,r.length<=5000/\∀f∈r,0<=f/\f<most)(hkr:∀r∈kill,r.length<=5000/\∀f∈r,0<=f/\f<most):SpecP prog 157 [.int .i64 n,.sl (avP steps),eMat gen,eMat kill,.int .i64 most] (fun r=>x1d n steps gen kill most r):=by
 refine sB TM func157 rfl call157 ?_;conv=>whnf
 have hgm:((avI gen).map AV.sl).length=n:=by unfold avI;rw[x2m,x2m,hg]
 have hkm:((avI kill).map AV.sl).length=n:=by unfold avI;rw[x2m,x2m,hk]
 have hsm:(avP steps).length=steps.length:=x2m _;repeat' (first|((first|(refine iM fun _=>?_)|refine dA ?_|refine x2t rfl ?_|refine aD ?_|refine aR ?_|refine bP ?_|(refine iA fun _=>?_)|refine IdxK.xs (by omega) ?_|refine QX (by omega) ?_|(refine ByteK.at (by omega) ?_)|refine wI ?_);conv=>whnf)|(apply bD<;>intro _<;>first|omega|conv=>whnf)|(apply bE<;>intro _<;>first|omega|conv=>whnf)|(apply bN<;>intro _<;>conv=>whnf)|(apply bB<;>intro _<;>conv=>whnf))
 all_goals try (exfalso;omega)
 refine LoopK.inv QY (fun j:Nat=>⟨[(0,.p (.int .i64 n)),(1,.p (.sl (avP steps))),(2,.p (eMat gen)),(3,.p (eMat kill)),(4,.p (.int .i64 most)),(10,.ptr 0 0),(45,.p (.sl (avP steps))),(46,.p (.int .i64 (avP steps).length)),(47,.p (.int .i64 j))],[(0,.obj 210 [.p .nils,.p (.int .i64 0)])]⟩) (fun j=>j<=steps.length) (fun j=>steps.length-j) 0 (Le.of_eq rfl) (x3z _) ?_;intro j hj;rcases x3v j steps.length with h1|h1
 ·have hsj:=hs _ (x3w h1);have hgj:(avP steps)[j]?=some (.agg [.int .i64 steps[j].1,.int .i64 steps[j].2]):=by unfold avP;rw[x2e,x2n h1];rfl
  generalize steps[j]=s at*
  obtain⟨x,y⟩:=s;simp only at hsj hgj;conv=>whnf
  repeat' (first|((first|(refine iM fun _=>?_)|refine dA ?_|refine x2t rfl ?_|refine aD ?_|refine aR ?_|refine bP ?_|(refine iA fun _=>?_)|refine IdxK.xs (by omega) ?_|refine QX (by omega) ?_|(refine ByteK.at (by omega) ?_)|refine wI ?_|(refine IdxK.at (k:=j) rfl hgj rfl ?_)|refine x4j 0 rfl (by decide) ?_|refine x4j 1 rfl (by decide) ?_);conv=>whnf)|(apply bD<;>intro _<;>first|omega|conv=>whnf)|(apply bE<;>intro _<;>first|omega|conv=>whnf)|(apply bN<;>intro _<;>conv=>whnf)|(apply bB<;>intro _<;>conv=>whnf))
  all_goals first
   |(exfalso;omega)
   |exact⟨j+1,h1,by omega,Le.of_eq rfl⟩
 ·have hG:=Y0 n hn steps hl;have hS1:=H6 gen (by omega) (fun r hr=>(hgr r hr).1) most hm (fun r hr=>(hgr r hr).2);have hS2:=H6 kill (by omega) (fun r hr=>(hkr r hr).1) most hm (fun r hr=>(hkr r hr).2);have hin:=(JN n steps).1;have hgrl:∀r∈(QR n steps).1,r.length<=1000000:=fun r hr=>by
   have h2:=(BL (n:=n) (l:=steps) (x3g _)).1;rw[x8x]at h2;have:=(h2.2 r hr).2;omega
  have hSo:=Rj (QR n steps) n hn hin hgrl most hm (gen.map (HL (most/64+1))) (kill.map (HL (most/64+1))) (by rw[x2m,hg]) (by rw[x2m,hk]) (fun r hr=>by obtain⟨x,_,rfl⟩:=x3q.1 hr;exact Vg _ _) (fun r hr=>by obtain⟨x,_,rfl⟩:=x3q.1 hr;exact Vg _ _);conv=>whnf
  repeat' (first|((first|(refine iM fun _=>?_)|refine dA ?_|refine x2t rfl ?_|refine aD ?_|refine aR ?_|refine bP ?_|(refine iA fun _=>?_)|refine IdxK.xs (by omega) ?_|refine QX (by omega) ?_|(refine ByteK.at (by omega) ?_)|refine wI ?_|refine cP hS1 ?_|refine cP hS2 ?_|refine cP hG ?_|(refine CallK.pure hSo (.cons (Sub.refl _) (.cons (Sub.refl _) (.cons (Sub.refl _) (.cons (Sub.refl _) .nil)))) ?_;rintro _ ⟨inn,tm,hin1,hin2,rfl⟩));conv=>whnf)|(apply bD<;>intro _<;>first|omega|conv=>whnf)|(apply bE<;>intro _<;>first|omega|conv=>whnf)|(apply bN<;>intro _<;>conv=>whnf)|(apply bB<;>intro _<;>conv=>whnf))
  all_goals first
   |(exfalso;omega)
   |contradiction
   |exact⟨_,.p (Sub.refl _),inn,tm,hin1,hin2,rfl⟩
def q0n(p:Pg):Bool:=decide (gPg p<=20000)
theorem q6z(h:q0n p=true):Fit p:=by
 have:=x0i p;have h1:gPg p<=20000:=by simpa[q0n]using h
 unfold Fit;omega
theorem WF(p:Pg):SpecP prog 11 [.agg p.cells] (fun r=>r=.bool (q0n p)):=by
 refine sB NZ func11 rfl call11 ?_;conv=>whnf
 have hl:(p.procs.map fun f=>AV.agg f.cells).length=p.procs.length:=x2m _;have q0:=XR (a:=0+PM p.globals) (by omega);repeat' (refine CallK.pure (XD p.globals 0 (by omega)) (.cons (Sub.refl _) (.cons (Sub.refl _) .nil)) ?_;rintro _ rfl;conv=>whnf)
 refine LoopK.inv QY (fun y:Nat×Int=>⟨[(1,.p (.ip p.cells)),(3,.p (.int .i64 y.2)),(4,.p (.int .i64 y.1))],[]⟩) (fun y=>y.1<=p.procs.length/\(0<=y.2/\y.2<=20001)/\XZ (y.2+Lg (p.procs.drop y.1))=XZ (gPg p:Nat)) (fun y=>p.procs.length-y.1) (0,XZ (0+PM p.globals)) (Le.of_eq rfl) ⟨x3z _,q0,by
  show XZ (XZ (0+PM p.globals)+Lg p.procs)=_;rw[ZX (by omega)];congr 1;unfold gPg;omega⟩ ?_
 rintro⟨j,m⟩ ⟨h2,h3,h4⟩;simp only at h2 h3 h4⊢;have last:∀{x:Int},0<=x/\x<=20001->XZ x=XZ (gPg p:Nat)->(decide (x<=20000))=q0n p:=fun {x} hx h=>by
  unfold q0n;unfold XZ at h;by_cases h1:gPg p<=20000
  ·rw[x5g h1,x3i];split at h<;>split at h<;>omega
  ·rw[x4i h1,x5k];split at h<;>split at h<;>omega
 rcases x3v j p.procs.length with hj|hj;rotate_left 1
 ·rw[x3b hj,Lg]at h4;conv=>whnf
  repeat' (first|(refine iM fun _=>?_;conv=>whnf)|(apply bD<;>intro _<;>first|omega|conv=>whnf))
  all_goals exact RetK.bool (last h3 (by rw[<-h4];simp))
 rw[x4v hj,Lg]at h4;have hpe:gPr p.procs[j]=1+p.procs[j].name.length+PM p.procs[j].vars+PM p.procs[j].fin+I0 p.procs[j].params+gL p.procs[j].body:=rfl;have q1:=XR (a:=m+(1+p.procs[j].name.length:Nat)) (by omega);have q2:=XR (a:=XZ (m+(1+p.procs[j].name.length:Nat))+PM p.procs[j].vars) (by omega);have q3:=XR (a:=XZ (XZ (m+(1+p.procs[j].name.length:Nat))+PM p.procs[j].vars)+PM p.procs[j].fin) (by omega);conv=>whnf
 repeat' (first|((first|(refine iM fun _=>?_)|refine dA ?_|refine x2t rfl ?_|(refine iA fun _=>?_)|refine cP (QC p.procs[j].name _ h3) ?_|refine cP (XD p.procs[j].vars _ q1) ?_|refine cP (XD p.procs[j].fin _ q2) ?_);conv=>whnf)|(apply bD<;>intro _<;>first|omega|conv=>whnf))
 rotate_left 1
 ·exact RetK.bool (last h3 (by rw[<-h4,<-YZ (by omega) h3.2 (by omega),Dn h3.2]))
 have h5:XZ (XZ (XZ (XZ (m+(1+p.procs[j].name.length:Nat))+PM p.procs[j].vars)+PM p.procs[j].fin)+(I0 p.procs[j].params+(gL p.procs[j].body+Lg (p.procs.drop (j+1))):Nat))=XZ (gPg p:Nat):=by
  rw[ZX (by omega),x8l,ZX (by omega),x8l,ZX (by omega),<-h4,hpe];congr 1;omega
 generalize XZ (XZ (XZ (m+(1+p.procs[j].name.length:Nat))+PM p.procs[j].vars)+PM p.procs[j].fin)=m0 at q3 h5⊢;have hal:(p.procs[j].params.map fun a=>AV.agg a.cells).length=p.procs[j].params.length:=x2m _;refine LoopK.inv QY (fun y:Nat×Int=>⟨[(1,.p (.ip p.cells)),(3,.p (.int .i64 y.2)),(4,.p (.int .i64 j)),(5,.p (.ip p.procs[j].cells)),(6,.p (.int .i64 y.1))],[]⟩) (fun y=>y.1<=p.procs[j].params.length/\(0<=y.2/\y.2<=20001)/\XZ (y.2+(I0 (p.procs[j].params.drop y.1)+(gL p.procs[j].body+Lg (p.procs.drop (j+1))):Nat))=XZ (gPg p:Nat)) (fun y=>p.procs[j].params.length-y.1) (0,m0) (Le.of_eq rfl) ⟨x3z _,q3,h5⟩ ?_;rintro⟨a,m2⟩ ⟨h6,h7,h8⟩;simp only at h6 h7 h8⊢;have fin:XZ (m2+(gL p.procs[j].body+Lg (p.procs.drop (j+1)):Nat))=XZ (gPg p:Nat)->(0<=XZ (m2+gL p.procs[j].body)/\XZ (m2+gL p.procs[j].body)<=20001)/\XZ (XZ (m2+gL p.procs[j].body)+Lg (p.procs.drop (j+1)))=XZ (gPg p:Nat):=fun h=>by
  refine⟨XR (by omega),?_⟩;rw[ZX (by omega),<-h];congr 1;omega
 have full:m2>20000->XZ (m2+(gL p.procs[j].body+Lg (p.procs.drop (j+1)):Nat))=XZ (gPg p:Nat):=fun h=>by
  rw[<-h8,<-YZ h h7.2 (by omega),<-YZ h h7.2 (by omega)]
 rcases x3v a p.procs[j].params.length with ha|ha;rotate_left 1
 ·have h9:XZ (m2+(gL p.procs[j].body+Lg (p.procs.drop (j+1)):Nat))=XZ (gPg p:Nat):=by
   rw[x3b ha,I0,x5m]at h8;exact h8
  obtain⟨f1,f2⟩:=fin h9;conv=>whnf
  repeat' (first|((first|(refine iM fun _=>?_)|refine wI ?_|(refine CallK.pure (UU (gL p.procs[j].body+1) p.procs[j].body (by omega) m2 h7) (.cons (Sub.refl _) (.cons (Sub.refl _) .nil)) ?_;rintro _ rfl));conv=>whnf)|(apply bD<;>intro _<;>first|omega|conv=>whnf))
  all_goals exact⟨(j+1,XZ (m2+gL p.procs[j].body)),⟨by simp only;omega,f1,f2⟩,by simp only;omega,Le.of_eq rfl⟩
 rw[x4v ha,I0]at h8;conv=>whnf
 repeat' (first|((first|(refine iM fun _=>?_)|(refine iA fun _=>?_)|refine wI ?_|refine cP (QC p.procs[j].params[a].name _ h7) ?_|(refine CallK.pure (UU (gL p.procs[j].body+1) p.procs[j].body (by omega) m2 h7) (.cons (Sub.refl _) (.cons (Sub.refl _) .nil)) ?_;rintro _ rfl));conv=>whnf)|(apply bD<;>intro _<;>first|omega|conv=>whnf))
 ·have h10:XZ (XZ (m2+(1+p.procs[j].params[a].name.length:Nat))+(I0 (p.procs[j].params.drop (a+1))+(gL p.procs[j].body+Lg (p.procs.drop (j+1))):Nat))=XZ (gPg p:Nat):=by
   rw[ZX (by omega),<-h8];congr 1;omega
  exact⟨(a+1,XZ (m2+(1+p.procs[j].params[a].name.length:Nat))),⟨by simp only;omega,XR (by omega),h10⟩,by simp only;omega,Le.of_eq rfl⟩
 ·obtain⟨f1,f2⟩:=fin (full (by omega));exact⟨(j+1,XZ (m2+gL p.procs[j].body)),⟨by simp only;omega,f1,f2⟩,by simp only;omega,Le.of_eq rfl⟩
inductive SubE:List AV->List AV->Prop
 |nil:SubE [] []
 |cons {a b:AV} {xs ys:List AV} (h:SubL a.cells b.cells) (hs:SubE xs ys):SubE (a::xs) (b::ys)
theorem SubE.get{xs ys:List AV}(h:SubE xs ys):xs.length=ys.length/\∀(i:Nat)(b:AV),ys[i]?=some b->∃a,xs[i]?=some a/\SubL a.cells b.cells:=by
 induction h with
 |nil=>exact⟨rfl,by simp⟩
 | cons h hs ih=>
   refine⟨by simp[ih.1],fun i b hb=>?_⟩;cases i with
   |zero=>simp at hb;subst hb;exact⟨_,rfl,h⟩
   |succ i=>exact ih.2 i b (by simpa using hb)
theorem Sub.sl{xs ys:List AV}(h:SubE xs ys):Sub (.sl xs) (.sl ys):=fun σ v hr=>by
 obtain⟨hl,hg⟩:=h.get;cases hr with
 | nilsl=>
   obtain rfl:ys=[]:=by simpa using hl.symm
   exact .nilsl
 | slz b=>
   obtain rfl:ys=[]:=by simpa using hl.symm
   exact .slz b
 | sl _ b off cap sz cells u hb hcap hmax hsz hc hrr=>
   rw[hl];refine .sl ys b off cap sz cells u hb (by omega) hmax (fun i e hi=>?_) (fun i e j c hi hj=>?_) (fun i e j c hi hj=>?_)
   ·obtain⟨a,h1,h2⟩:=hg i e hi;rw[<-hsz i a h1,h2.1]
   ·obtain⟨a,h1,h2⟩:=hg i e hi;obtain⟨d,h3,_⟩:=h2.get hj;exact hc i a j d h1 h3
   ·obtain⟨a,h1,h2⟩:=hg i e hi;obtain⟨d,h3,h4⟩:=h2.get hj;exact h4 _ _ (hrr i a j d h1 h3)
theorem V1(n:Int):SpecP prog 77 [.int .i64 n] (fun r=>r=.agg (X.mk 1 n [] []).cells):=by
 refine sB LY func77 rfl call77 ?_;conv=>whnf
 repeat' (refine x2t rfl ?_;conv=>whnf)
 exact⟨_,.p (Sub.agg (by repeat' (first|exact SubL.nil|refine SubL.cons ?_ ?_|exact Sub.refl _|exact Sub.nils|exact Sub.ff rfl))),rfl⟩
theorem Zd(s:Str):SpecP prog 78 [.str s] (fun r=>r=.agg (X.mk 2 0 s []).cells):=by
 refine sB NJ func78 rfl call78 ?_;conv=>whnf
 repeat' (refine x2t rfl ?_;conv=>whnf)
 exact⟨_,.p (Sub.agg (by repeat' (first|exact SubL.nil|refine SubL.cons ?_ ?_|exact Sub.refl _|exact Sub.nils|exact Sub.ff rfl))),rfl⟩
theorem FY(op:Int)(a b:X):SpecP prog 79 [.int .i64 op,.agg a.cells,.agg b.cells] (fun r=>r=.agg (X.mk op 0 [] [a,b]).cells):=by
 refine sB LG func79 rfl call79 ?_;conv=>whnf
 repeat' ((first|refine x2t rfl ?_|refine aD ?_|refine BsK.pureL rfl rfl ?_);conv=>whnf)
 have e:X.avs [a,b]=[.agg a.cells,.agg b.cells]:=by simp only[X.avs,X.av_eq]
 exact⟨_,.p (Sub.agg (SubL.cons (Sub.refl _) (SubL.cons (Sub.refl _) (SubL.cons (Sub.refl _) (SubL.cons (Sub.of_eq (by show _=AV.sl (X.avs [a,b]);rw[e];rfl)) SubL.nil))))),rfl⟩
def bs(l:List Nat):Str:=l.map fun n=>UInt8.ofNat n
def someP:Pg:=⟨[[103]],[
 ⟨[109,97,105,110],[],[[118]],[
   .mk 1 1 [] [118] [] (.mk 1 2 [] []) false [] [] [],
   .mk 2 4 [] [103] [112] (.mk 0 0 [] []) false [⟨false,[],.mk 1 3 [] []⟩,⟨true,[118],.mk 0 0 [] []⟩] [] [],
   .mk 3 3 [] [] [] (.mk 2 0 [118] []) false [] [] [],
   .mk 4 3 [] [] [] (.mk 2 0 [103] []) false [] [] []],[]⟩,
 ⟨[112],[⟨[120],false⟩,⟨[121],true⟩],[],[
   .mk 5 1 [] [121] [] (.mk 8 0 [] [.mk 2 0 [121] [],.mk 2 0 [120] []]) false [] [] [],
   .mk 6 5 [] [] [] (.mk 12 0 [] [.mk 2 0 [121] [],.mk 1 9 [] []]) false [] [.mk 7 10 [] [101] [] (.mk 0 0 [] []) false [] [] []] [],
   .mk 8 9 [] [] [] (.mk 2 0 [121] []) true [] [] []],[[101]]⟩]⟩
theorem Zk:SpecP prog 42 [] (fun r=>r=.agg someP.cells):=by
 refine sB NU func42 rfl call42 ?_;conv=>whnf
 repeat' ((first|refine cP (V1 _) ?_|refine cP (Zd _) ?_|refine x2t rfl ?_|refine aD ?_|refine bP ?_|refine BsK.pureL rfl rfl ?_|refine cP (FY 8 (.mk 2 0 [121] []) (.mk 2 0 [120] [])) ?_|refine cP (FY 12 (.mk 2 0 [121] []) (.mk 1 9 [] [])) ?_);conv=>whnf)
 exact⟨_,.p (Sub.agg (by repeat' (first|exact SubL.nil|exact SubE.nil|exact Sub.nils|exact Sub.ff rfl|exact Sub.tt rfl|refine SubL.cons ?_ ?_|refine SubE.cons ?_ ?_|exact Sub.refl _|refine Sub.agg ?_|refine Sub.sl ?_))),rfl⟩
theorem Dc:Fit someP:=by unfold Fit;decide
theorem Ds:QE someP=true:=by kernel_rfl
def f0:Pr:=someP.procs[0]'(by decide)
def f1:Pr:=someP.procs[1]'(by decide)
theorem q6a:WA (QD someP 0 f0)=[⟨0,1,1⟩,⟨1,2,1⟩,⟨2,3,1⟩,⟨3,4,1⟩,⟨4,-1,1⟩]:=by
 have h1:QD someP 0 f0=[⟨0,1,1⟩,⟨1,2,1⟩,⟨2,3,1⟩,⟨3,4,1⟩,⟨4,-1,1⟩]:=by kernel_rfl
 unfold WA YC;rw[h1,List.mergeSort_of_pairwise (by decide)];rfl
theorem q6e:WA (QD someP 1 f1)=[⟨0,5,1⟩,⟨5,6,1⟩,⟨6,7,1⟩,⟨6,8,1⟩,⟨7,-1,1⟩,⟨8,-1,1⟩]:=by
 have h1:QD someP 1 f1=[⟨0,5,1⟩,⟨5,6,1⟩,⟨6,7,1⟩,⟨6,8,1⟩,⟨7,-1,1⟩,⟨8,-1,1⟩]:=by kernel_rfl
 unfold WA YC;rw[h1,List.mergeSort_of_pairwise (by decide)];rfl
theorem C1:∀(k:Nat)(l:List S)(_:cntL l<k)(_:cntL l<=1000000),SpecP prog 47 [eSs l] (fun r=>r=.int .i64 (cntL l)):=by
 intro k;induction k with
 |zero=>intro l h;omega
 | succ k ih=>
   intro l hk hl;have hll:=S.avs_len l;have hlc:l.length<=cntL l:=by
    clear hk hl hll;induction l with
    |nil=>simp
    |cons t r ihr=>rw[cntL,ZV,x4q];omega
   refine sB Ba func47 rfl call47 ?_;conv=>whnf
   repeat' (refine iM fun _=>?_;conv=>whnf)
   refine LoopK.inv QY (fun y:Nat×Nat=>⟨[(0,.p (eSs l)),(3,.p (.int .i64 y.2)),(8,.p (.int .i64 (S.avs l).length)),(9,.p (.int .i64 y.1))],[]⟩) (fun y=>y.1<=l.length/\y.2+cntL (l.drop y.1)=cntL l+(l.length-y.1)) (fun y=>l.length-y.1) (0,l.length) (Le.of_eq (by simp only[S.avs_len];rfl)) ⟨x3z _,by simp;omega⟩ ?_;rintro⟨j,n⟩ ⟨h2,h3⟩;simp only at h2 h3⊢;rcases x3v j l.length with hj|hj
   ·have hst:=LL hj;have hcs:=ZV l[j];have h4:cntL (l.drop j)<=cntL l:=by
     have:∀(l:List S)(j:Nat),cntL (l.drop j)<=cntL l:=fun l=>by
      induction l with
      |nil=>intro j;simp
      | cons t r ihr=>
        intro j;cases j with
        |zero=>simp
        |succ j=>rw[List.drop_succ_cons,cntL];have:=ihr j;omega
     exact this l j
    conv=>whnf
    repeat' (first|((first|refine dA ?_|refine QX (by omega) ?_|refine wI ?_|(refine CallK.pure (ih l[j].thn (by omega) (by omega)) (.cons (Sub.refl _) .nil) ?_;rintro _ rfl)|(refine CallK.pure (ih l[j].els (by omega) (by omega)) (.cons (Sub.refl _) .nil) ?_;rintro _ rfl));conv=>whnf)|(apply bD<;>intro _<;>first|omega|conv=>whnf))
    all_goals exact⟨(j+1,n+(cntL l[j].thn+cntL l[j].els)),⟨by simp only;omega,by simp only;omega⟩,by simp only;omega,Le.of_eq rfl⟩
   ·conv=>whnf
    rw[x3b hj,cntL]at h3;repeat' (apply bD<;>intro _<;>first|omega|conv=>whnf)
    exact RetK.int (by omega)
theorem C0(p:Pg)(hc:cntP p.procs<=1000):SpecP prog 13 [.agg p.cells] (fun r=>r=.int .i64 (cntP p.procs)):=by
 refine sB Bc func13 rfl call13 ?_;conv=>whnf
 have hl2:(p.procs.map fun f=>AV.agg f.cells).length=p.procs.length:=x2m _;repeat' (refine iM fun _=>?_;conv=>whnf)
 refine LoopK.inv QY (fun y:Nat×Nat=>⟨[(3,.p (.int .i64 y.2)),(7,.p (.sl (p.procs.map fun f=>.agg f.cells))),(8,.p (.int .i64 (p.procs.map fun f=>AV.agg f.cells).length)),(9,.p (.int .i64 y.1))],[]⟩) (fun y=>y.1<=p.procs.length/\y.2+cntP (p.procs.drop y.1)=cntP p.procs) (fun y=>p.procs.length-y.1) (0,0) (Le.of_eq rfl) ⟨x3z _,by simp⟩ ?_;rintro⟨j,n⟩ ⟨h2,h3⟩;simp only at h2 h3⊢;rcases x3v j p.procs.length with hj|hj
 ·have hst:=Uv hj;have hcm:=KU _ _ (x3w hj);conv=>whnf
  repeat' (first|((first|refine x2t rfl ?_|(refine iA fun _=>?_)|refine wI ?_|(refine CallK.pure (C1 (cntL p.procs[j].body+1) p.procs[j].body (by omega) (by omega)) (.cons (Sub.refl _) .nil) ?_;rintro _ rfl));conv=>whnf)|(apply bD<;>intro _<;>first|omega|conv=>whnf))
  exact⟨(j+1,n+cntL p.procs[j].body),⟨by simp only;omega,by simp only;omega⟩,by simp only;omega,Le.of_eq rfl⟩
 ·conv=>whnf
  rw[x3b hj,cntP]at h3;repeat' (apply bD<;>intro _<;>first|omega|conv=>whnf)
  exact RetK.int (by omega)
def Mx(p:Pg)(most:Int):Bool:=QE p&&decide ((cntP p.procs:Int)<=most)
theorem WP{l:List Str}{x:Str}:inS l x=true↔x∈l:=by
 unfold inS;rw[x4o];constructor
 ·rintro⟨y,h1,h2⟩;have:y=x:=by simpa using h2
  rw[<-this];exact h1
 ·intro h;exact⟨x,h,by simp⟩
theorem Vd(h:QE p=true){j:Nat}{f:Pr}(hj:p.procs[j]?=some f){a:Int}(h1:(QB p.procs j:Int)+1<=a)(h2:a<=(QB p.procs j+cntL f.body:Nat)):∃t∈flL f.body,OI p a=some t/\t.id=a:=by
 obtain⟨it,h3,h4⟩:=DE hj (k:=(a-1).toNat) (by omega) (by omega);refine⟨it.s,Wc h4,by unfold OI;rw[h3];rfl,?_⟩;obtain⟨_,_,_,hlen,hsp⟩:=QJ p;obtain⟨_,_,hle,hd⟩:=hsp j f hj;have hids:=A9 (QK h).1 hj;have h5:(itsOf p j f)[(a-1).toNat-QB p.procs j]?=some it:=by
  unfold itsOf;rw[<-hd,x4c,x4g,if_pos (by omega),show QB p.procs j+((a-1).toNat-QB p.procs j)=(a-1).toNat by omega];exact h3
 have h6:((itsOf p j f).map fun it=>it.s.id)[(a-1).toNat-QB p.procs j]?=some it.s.id:=by rw[x2e,h5];rfl
 rw[hids]at h6;unfold KO at h6;rw[x2e,x9k (by omega)]at h6;simp at h6;omega
theorem R1{l:List Str}(h:s∈l):s∈Go.Lib.compact l:=by
 have key:∀(j:Nat)(hj:j<l.length),l[j]∈Go.Lib.compact l:=fun j=>by
  induction j with
  | zero=>
    intro hj;refine x3q.2 ⟨0,x4w.2 ⟨by simpa using hj,by simp[Go.Lib.keeps]⟩,?_⟩;simp[hj]
  | succ j ih=>
    intro hj;cases hk:Go.Lib.keeps l.toArray (j+1)with
    | true=>
      refine x3q.2 ⟨j+1,x4w.2 ⟨by simpa using hj,hk⟩,?_⟩;simp[hj]
    | false=>
      have hj':j<l.length:=by omega
      have:l[j+1]=l[j]:=by
       unfold Go.Lib.keeps at hk;simp[hj,hj']at hk;exact hk
      rw[this];exact ih hj'
 obtain⟨j,hj,rfl⟩:=x4t.1 h;exact key j hj
theorem JR{l:List Str}:s∈Go.Lib.compact l↔s∈l:=⟨NP,R1⟩
theorem S7{f:Pr}:s∈GF f ↔ ∃t∈flL f.body,t.kind=4/\t.proc=s:=by
 unfold GF KZ;rw[JR,GS,x3q];simp only[x4w,x3i,and_assoc]
theorem GJ{s:Str}:∀(l out:List Str),s∈ZE out l↔s∈out\/s∈l
 |[],out=>by rw[ZE];simp
 | n::r,out=>by
   rw[ZE,GJ r];split
   ·rename_i h;obtain⟨m,hm,he⟩:=x4o.1 h;have:n=m:=by simpa using he
    subst this;constructor
    ·rintro(h|h)
     ·exact .inl h
     ·exact .inr (x2c _ h)
    ·rintro(h|h)
     ·exact .inl h
     ·rcases x2i.1 h with rfl|h
      ·exact .inl hm
      ·exact .inr h
   ·simp only[x3x,x2i,x9f,or_assoc,false_or]
theorem Xg:∀(l out:List Str),∃r,ZE out l=out++r
 |[],out=>⟨[],by rw[ZE];simp⟩
 | n::r,out=>by
   rw[ZE];split
   ·exact Xg r out
   ·obtain⟨r',h⟩:=Xg r (out++[n]);exact⟨n::r',by rw[h];simp⟩
theorem Yi{p:Pg}(hs:(QA p).1=0)(n:Str):∀(fuel i:Nat)(out:List Str),out.Nodup->(∀s∈out,s∈procsN p)->(∀s∈out,Rch (fun x y=>y∈UJ p x) n s)->n∈out->i<=out.length->(∀(j:Nat)(m:Str),j<i->out[j]?=some m->∀y∈UJ p m,y∈out)->p.procs.length+1<=fuel+i->
  (∀s∈UK p fuel i out,Rch (fun x y=>y∈UJ p x) n s)/\n∈UK p fuel i out/\∀m∈UK p fuel i out,∀y∈UJ p m,y∈UK p fuel i out
 | 0,i,out,h1,h2,h3,h4,h5,h6,h7=>by
   have:=HS h1 h2;have hl:(procsN p).length=p.procs.length:=x2m _;omega
 | fuel+1,i,out,h1,h2,h3,h4,h5,h6,h7=>by
   rw[UK];cases ho:out[i]?with
   | none=>
     have hi:out.length<=i:=x8g.1 ho;refine⟨h3,h4,fun m hm y hy=>?_⟩;have hm:m∈out:=hm;show y∈out;obtain⟨j,hj,rfl⟩:=x4t.1 hm;exact h6 j _ (by omega) (x2n hj) y hy
   | some m=>
     have hi:=(x2o.1 ho).1;have hm:m∈out:=x3k ho;obtain⟨g1,g2,_⟩:=GY (UJ p m) h1 h2 fun s h=>Ze hs h;obtain⟨r,hr⟩:=Xg (UJ p m) out;refine Yi hs n fuel (i+1) (ZE out (UJ p m)) g1 g2 (fun s h=>?_) ((GJ _ _).2 (.inl h4)) (by rw[hr,x2s];omega) (fun j m' hj hm' y hy=>?_) (by omega)
     ·rcases(GJ _ _).1 h with h|h
      ·exact h3 s h
      ·exact .tail (h3 m hm) h
     ·rw[hr,x4p (by omega)]at hm';rcases x3v j i with h|h
      ·exact(GJ _ _).2 (.inl (h6 j m' h hm' y hy))
      ·have:j=i:=by omega
       subst this;rw[ho]at hm';cases hm';exact(GJ _ _).2 (.inr hy)
theorem Ij(hs:(QA p).1=0){n:Str}(hn:n∈procsN p):s∈EI p n↔Rch (fun x y=>y∈UJ p x) n s:=by
 obtain⟨h1,h2,h3⟩:=Yi hs n (p.procs.length+1) 0 [n] (by simp) (by simpa using hn) (fun s h=>by rcases x2a.1 h with rfl;exact .refl) (by simp) (x3z _) (fun j m h=>absurd h (by omega)) (by omega);unfold EI;rw[GS];exact⟨h1 s,fun h=>Rch.closed (fun x y hx hy=>h3 x hx y hy) h2 h⟩
theorem N6(hs:(QA p).1=0){n v:Str}(hn:n∈procsN p):v∈HJ p n ↔ ∃m,Rch (fun x y=>y∈UJ p x) n m/\v∈Ue p m:=by
 unfold HJ DJ;rw[JR,GS,x3c];simp only[Ij hs hn]
theorem MQ{l:List Str}{v:Str}:(l.any fun s=>v==s)=true↔v∈l:=by
 rw[x4o];constructor
 ·rintro⟨s,h1,h2⟩
  rwa[show v=s by simpa using h2]
 ·exact fun h=>⟨v,h,by simp⟩
theorem Dg{α:Type}{R:α->α->Prop}(irr:∀a,¬R a a)(tr:∀a b c,R a b->R b c->R a c):∀{l m:List α},l.Pairwise R->m.Pairwise R->(∀s,s∈l↔s∈m)->l=m
 |[],[],_,_,_=>rfl
 |[],b::m,_,_,h=>by have:=(h b).2 x2r;cases this
 |a::l,[],_,_,h=>by have:=(h a).1 x2r;cases this
 | a::l,b::m,hl,hm,h=>by
   rw[x6k]at hl hm;have hab:a=b:=by
    rcases x2i.1 ((h a).1 x2r)with h1|h1
    ·exact h1
    rcases x2i.1 ((h b).2 x2r)with h2|h2
    ·exact h2.symm
    exact absurd (tr _ _ _ (hl.1 b h2) (hm.1 a h1)) (irr a)
   subst hab;rw[Dg irr tr hl.2 hm.2 fun s=>?_];constructor
   ·intro hs;rcases x2i.1 ((h s).1 (x2c _ hs))with rfl|h1
    ·exact absurd (hl.1 s hs) (irr s)
    ·exact h1
   ·intro hs;rcases x2i.1 ((h s).2 (x2c _ hs))with rfl|h1
    ·exact absurd (hm.1 s hs) (irr s)
    ·exact h1
theorem Ra:∀(x y:List UInt8),Op.bytesLess x y=decide (x<y)
 |[],[]=>by simp[Op.bytesLess]
 |_::_,[]=>by simp[Op.bytesLess]
 |[],_::_=>by simp[Op.bytesLess]
 | a::x,b::y=>by
   rw[Op.bytesLess,Ra x y];simp only[List.cons_lt_cons_iff];by_cases h1:a<b<;>by_cases h2:a=b<;>by_cases h3:x<y<;>simp[h1,h2,h3]
def ltT(a b:Str):Prop:=Op.bytesLess a b=true
theorem NO{a b:Str}:ltT a b↔a<b:=by
 unfold ltT;rw[Ra,x3i]
theorem ltT.irr(a:Str):¬ltT a a:=fun h=>List.lt_irrefl a (NO.1 h)
theorem ltT.trans(a b c:Str)(h1:ltT a b)(h2:ltT b c):ltT a c:=NO.2 (List.lt_trans (NO.1 h1) (NO.1 h2))
theorem ltT.total{a b:Str}(h:a≠b):ltT a b\/ltT b a:=by
 by_cases h1:a<b
 ·exact .inl (NO.2 h1)
 ·rcases List.le_iff_lt_or_eq.1 (List.not_lt.1 h1)with h2|h2
  ·exact .inr (NO.2 h2)
  ·exact absurd h2.symm h
theorem OE(l:List Str):(JZ l).Pairwise fun a b=>a<=b:=by
 have:=x8m (le:=fun x y:Str=>decide (x<=y)) (fun a b c h1 h2=>by
  rw[x3i]at h1 h2⊢;exact List.le_trans h1 h2) (fun a b=>by
  rcases List.le_total a b with h|h
  ·rw[x5g h];rfl
  ·rw[x5g h];exact Bool.or_true _) l
 exact this.imp fun h=>by simpa using h
theorem Pj{l:List Str}(h:l.Pairwise fun a b=>a<=b):(Go.Lib.compact l).Pairwise ltT:=by
 unfold Go.Lib.compact Go.Lib.compactUpTo;rw[List.pairwise_map];refine(List.Pairwise.filter _ (List.pairwise_lt_range (n:=l.length))).imp_of_mem fun {i k} hi hk hlt=>?_;obtain⟨hi1,_⟩:=x4w.1 hi;obtain⟨hk1,hk2⟩:=x4w.1 hk;rw[x4y]at hi1 hk1;have le:∀(a b:Nat)(_:a<=b)(hb:b<l.length),l[a]'(by omega)<=l[b]:=fun a b hab hb=>by
  rcases x3v a b with h1|h1
  ·exact x7c.1 h a b (by omega) hb h1
  ·obtain rfl:a=b:=by omega
   exact List.le_refl _
 have g:∀(a:Nat)(ha:a<l.length),l.toArray[a]! = l[a]:=fun a ha=>by simp[ha]
 rw[g i hi1,g k hk1];unfold Go.Lib.keeps at hk2;rw[x3i,g k hk1,g (k-1) (by omega)]at hk2;have hne:l[k]≠l[k-1]'(by omega):=by
  rcases hk2 with h0|h0
  ·omega
  ·exact h0
 have h1:=le i (k-1) (by omega) (by omega);have h2:=le (k-1) k (by omega) hk1;rcases List.le_iff_lt_or_eq.1 h2 with h3|h3
 ·exact NO.2 (List.lt_of_le_of_lt h1 h3)
 ·exact absurd h3.symm hne
def WE(l:List Str):List Str:=Go.Lib.compact (JZ l)
theorem XO{l:List Str}:s∈WE l↔s∈l:=by unfold WE;rw[JR,GS]
theorem ZB(l:List Str):(WE l).Pairwise ltT:=Pj (OE l)
theorem OK{l m:List Str}(h:m.Pairwise ltT)(hm:∀s,s∈m↔s∈l):m=WE l:=Dg ltT.irr ltT.trans h (ZB l) fun s=>by rw[hm,XO]
section
variable {α:Type}{R:α->α->Prop}{l out:List α}{i k:Nat}
theorem HB{s:α}(hk:k<l.length):s∈l.take (k+1)↔s∈l.take k\/s=l[k]:=by
 rw[x3u hk,x3x,x2a]
end
end Go.Ab
