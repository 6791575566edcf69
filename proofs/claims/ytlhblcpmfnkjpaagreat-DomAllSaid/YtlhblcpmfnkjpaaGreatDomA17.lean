/- way: which place follows which, walked. -/
import Derived.Test.YtlhblcpmfnkjpaaGreatDomA15
import Derived.Test.YtlhblcpmfnkjpaaGreatDomA16
set_option linter.unusedSimpArgs false
set_option linter.unusedVariables false
set_option maxRecDepth 100000
set_option maxHeartbeats 16000000
open Int (toNat_natCast)
open List (append_nil cons_append foldl_cons getD_eq_getElem?_getD length_map length_set length_take map_cons map_nil mem_cons_of_mem mem_cons_self nil_append take_length)
open Nat (zero_le)
namespace Go.Ab
open Go.Proofs
theorem w3l {N:Nat} {sl:List (Nat×LV)} {H1 H2:Heap} {k:Nat} {e e2:TypeId} {sz:Nat} {rows rows':List (List AV)} {hole:List Nat} (hl:rows'.length=rows.length) (hr : ∀ (a:Nat) (row':List AV),rows'[a]? = some row' -> ∃ row,rows[a]? = some row∧ElS row row') :
  Le N ⟨sl,H1++(k,.ext (.mat e e2 sz rows hole))::H2⟩ ⟨sl,H1++(k,.ext (.mat e e2 sz rows' hole))::H2⟩:=fun σ β a w hrel=>by
 have hk:(H1++(k,Chunk.ext (.mat e e2 sz rows' hole))::H2).map (·.1)=(H1++(k,Chunk.ext (.mat e e2 sz rows hole))::H2).map (·.1):=by simp
 refine ⟨σ,β,⟨hrel.size,hrel.defers,hrel.slots,⟨hrel.heap.mem,fun j c' hj => ?_,by show ((H1++(k,Chunk.ext (.mat e e2 sz rows' hole))::H2).map (·.1)).Nodup;rw [hk];exact hrel.heap.nodup,fun j hj=>hrel.heap.apart j (by rw [<- hk];exact hj),fun j hj j' hj'=>hrel.heap.inj j (by rw [<- hk];exact hj) j' (by rw [<- hk];exact hj')⟩⟩,Mem.le_refl σ,Frm.refl _ w,fun b h0 h1=>absurd h0 h1,fun b ⟨j,hj,r⟩ => .inl ⟨j,by rw [<- hk];exact hj,r⟩,fun _ _ _=>rfl⟩;rcases List.mem_append.1 hj with h1|h1
 ·exact hrel.heap.chunks j c' (List.mem_append.2 (.inl h1))
 rcases List.mem_cons.1 h1 with h2|h1;rotate_left 1
 ·exact hrel.heap.chunks j c' (List.mem_append.2 (.inr (mem_cons_of_mem _ h1)))
 cases h2;rcases hrel.heap.chunks k _ (List.mem_append.2 (.inr mem_cons_self)) with ⟨g1,g2⟩|⟨i,vs,hi,g1,g2,g3,g4,g5,g6,g7,g8⟩
 ·refine .inl ⟨g1,?_⟩;rw [g2] at hl;exact List.eq_nil_of_length_eq_zero hl
 ·refine .inr ⟨i,vs,hi,g1,g2,g3,by rw [hl];exact g4,g5,by rw [hl];exact g6,g7,fun a' row' ha => ?_⟩;obtain ⟨row,h3,h4,h5⟩:=hr a' row' ha;obtain ⟨h6,h7⟩:=g8 a' row h3;refine ⟨h6,fun hn => ?_⟩;rcases h7 hn with ⟨q1,rfl,q3⟩|⟨b,c,ws,q1,q2,q3,q4,q5,q6,q7⟩
  ·exact .inl ⟨q1,List.eq_nil_of_length_eq_zero h4,q3⟩
  ·refine .inr ⟨b,c,ws,q1,by rw [h4];exact q2,q3,q4,by rw [h4];exact q5,q6,fun m x' hx => ?_⟩;obtain ⟨x,r1,r2,r3⟩:=h5 m x' hx;refine ⟨by rw [r2];exact (q7 m x r1).1,fun p c' hc => ?_⟩;obtain ⟨c0,r4,r5⟩:=r3 p c' hc;obtain ⟨u,r6,r7⟩:=(q7 m x r1).2 p c0 r4;exact ⟨u,r6,r5 _ _ r7⟩
def nxE (rows:List (List Int)) (t:Int×Int):List (List Int):=rows.set t.1.toNat (rows.getD t.1.toNat []++[t.2])
def KK (n:Nat) (l:List (Int×Int)):List (List Int):=l.foldl nxE (List.replicate n [])
def GQ (w:Way) (f:Pr):List (Int×Int):=(MX w f).map (ixP w.p w.j f w.n)
theorem w0o (rows:List (List Int)) (t:Int×Int):(nxE rows t).length=rows.length:=length_set
theorem x9k : ∀ (l:List (Int×Int)) (rows:List (List Int)),(l.foldl nxE rows).length=rows.length
 | [],_=>rfl
 | t::r,rows=>by rw [foldl_cons,x9k r,w0o]
theorem x7k (n:Nat) (l:List (Int×Int)):(KK n l).length=n:=by
 unfold KK;rw [x9k,List.length_replicate]
theorem x6c : ∀ (l:List (Int×Int)) (rows:List (List Int)) (a:Nat),((l.foldl nxE rows).getD a []).length<=(rows.getD a []).length+l.length
 | [],_,_=>Nat.le_refl _
 | t::r,rows,a=>by
   rw [foldl_cons];have h1:=x6c r (nxE rows t) a;have h2:((nxE rows t).getD a []).length<=(rows.getD a []).length+1:=by
    unfold nxE;simp only [getD_eq_getElem?_getD,List.getElem?_set];by_cases he:t.1.toNat=a
    ·subst he;by_cases hl:t.1.toNat<rows.length
     ·simp [hl]
     ·simp [hl]
    ·simp [he]
   rw [List.length_cons];omega
theorem x8d (n:Nat) (l:List (Int×Int)) (a:Nat):((KK n l).getD a []).length<=l.length:=by
 have:=x6c l (List.replicate n []) a;have e:((List.replicate n ([]:List Int)).getD a []).length=0:=by
  rw [getD_eq_getElem?_getD,List.getElem?_replicate];split<;>rfl
 unfold KK;omega
theorem z5e {n:Nat} : ∀ (l:List (Int×Int)),(∀ t∈l,(0<=t.1∧t.1<n)∧0<=t.2∧t.2<n) -> ∀ (rows:List (List Int)),(∀ r∈rows,∀ x∈r,0<=x∧x<n) -> ∀ r∈l.foldl nxE rows,∀ x∈r,0<=x∧x<(n:Int)
 | [],_,rows,hr=>hr
 | t::l,hl,rows,hr=>by
   rw [foldl_cons];refine z5e l (fun u hu=>hl u (mem_cons_of_mem _ hu)) _ fun r hm x hx => ?_;unfold nxE at hm;rcases List.mem_or_eq_of_mem_set hm with hm|rfl
   ·exact hr r hm x hx
   ·rcases List.mem_append.1 hx with hx|hx
    ·rw [getD_eq_getElem?_getD] at hx;cases hq:rows[t.1.toNat]? with
     | none=>rw [hq] at hx;cases hx
     | some r=>rw [hq] at hx;exact hr r (List.mem_of_getElem? hq) x hx
    ·rcases List.mem_singleton.1 hx with rfl;exact (hl t mem_cons_self).2
theorem w5q (n:Nat) (l:List (Int×Int)) (h : ∀ t∈l,(0<=t.1∧t.1<n)∧0<=t.2∧t.2<n) : ∀ r∈KK n l,∀ x∈r,0<=x∧x<(n:Int) :=
 z5e l h _ fun r hr x hx=>by rw [List.eq_of_mem_replicate hr] at hx;cases hx
def w3y (n a:Nat):List (List Bool):=((List.range n).map (filRow n)).take a++List.replicate (n-a) []
def z3n (n a b:Nat):List Bool:=(filRow n a).take b++List.replicate (n-b) false
theorem w6h {n a b:Nat} (h:b<=n):(z3n n a b).length=n:=by
 unfold z3n;have:=NU n a;simp;omega
theorem w4o {n a b:Nat} (h:b<n):((z3n n a b).map bv).set b (bv (decide (a<n-1)||decide (a=b)))=(z3n n a (b+1)).map bv:=by
 rw [<- List.map_set];congr 1;unfold z3n;have hl:((filRow n a).take b).length=b:=by have:=NU n a;simp;omega
 have hg:(filRow n a)[b]? = some (decide (a<n-1)||decide (a=b)):=by unfold filRow;simp [h]
 rw [List.set_append_right _ _ (by omega),hl,Nat.sub_self,show n-b=(n-(b+1))+1 by omega,List.replicate_succ,List.set_cons_zero,List.take_add_one,hg,List.append_assoc];rfl
theorem w4f (n a:Nat):z3n n a n=filRow n a:=by
 unfold z3n;rw [Nat.sub_self,List.take_of_length_le (by rw [NU];exact Nat.le_refl _)];simp
theorem Sub.bv {b x:Bool} (h:b=x):Sub (.bool b) (bv x):=fun _ _ hr=>by
 subst h;cases b<;>cases hr<;>constructor
theorem ElS.set {es:List AV} {b:Nat} {c c':AV} (hc:c.cells=[c]) (hc':c'.cells=[c']) (h:Sub c c'):ElS (es.set b c) (es.set b c'):=by
 refine ⟨by rw [length_set,length_set],fun m x' hx => ?_⟩;by_cases hm:b=m
 ·subst hm;have hl:b<es.length:=by have:=(List.getElem?_eq_some_iff.1 hx).1;simpa using this
  rw [List.getElem?_set_self hl] at hx;cases hx;refine ⟨c,by rw [List.getElem?_set_self hl],by rw [hc,hc'];rfl,fun j d hd => ?_⟩;rw [hc'] at hd
  match j,hd with
  | 0,hd=>cases hd;exact ⟨c,by rw [hc];rfl,h⟩
  | j+1,hd=>simp at hd
 ·rw [List.getElem?_set_ne hm] at hx;exact ⟨x',by rw [List.getElem?_set_ne hm];exact hx,rfl,fun j d hd=>⟨d,hd,Sub.refl _⟩⟩
theorem v5s {R:List (List AV)} {a:Nat} {r r':List AV} (h:ElS r r') : ∀ (a':Nat) (row':List AV),(R.set a r')[a']? = some row' -> ∃ row,(R.set a r)[a']? = some row∧ElS row row':=fun a' row' hx=>by
 by_cases hm:a=a'
 ·subst hm;have hl:a<R.length:=by have:=(List.getElem?_eq_some_iff.1 hx).1;simpa using this
  rw [List.getElem?_set_self hl] at hx;cases hx;exact ⟨r,List.getElem?_set_self hl,h⟩
 ·rw [List.getElem?_set_ne hm] at hx;exact ⟨row',by rw [List.getElem?_set_ne hm];exact hx,ElS.refl _⟩
theorem w7q {n a:Nat} (h:a<=n):(w3y n a).length=n:=by
 unfold w3y;simp;omega
theorem w4h {n a:Nat} (h:a<n):(w3y n a).set a (filRow n a)=w3y n (a+1):=by
 unfold w3y;have hl:(((List.range n).map (filRow n)).take a).length=a:=by simp;omega
 have hg:((List.range n).map (filRow n))[a]? = some (filRow n a):=by simp [h]
 rw [List.set_append_right _ _ (by omega),hl,Nat.sub_self,show n-a=(n-(a+1))+1 by omega,List.replicate_succ,List.set_cons_zero,List.take_add_one,hg,List.append_assoc];rfl
inductive SlRel (P:LV->LV->Prop):List (Nat×LV)->List (Nat×LV)->Prop
 | nil:SlRel P [] []
 | cons {j:Nat} {l l':LV} {r r':List (Nat×LV)} (h:P l l') (hr:SlRel P r r'):SlRel P ((j,l)::r) ((j,l')::r')
theorem SlRel.get {P:LV->LV->Prop} (h0:P (.p .any) (.p .any)) {sl sl':List (Nat×LV)} (h:SlRel P sl sl') (i:Nat):P (getS sl i) (getS sl' i):=by
 induction h with
 | nil=>exact h0
 | @cons j l l' r r' h hr ih =>
   simp only [getS];cases j==i with
   | true=>exact h
   | false=>exact ih
theorem z7e {N':Nat} (w:Way) (n:Nat) (nx:List (List Int)) (hn:nx.length=n) (x1 x2:AV) :
  Le N' ⟨[(0,.p (.ip w.cells)),(3,.hd 0 0 n),(6,.hd 1 0 n),(46,.p x1),(47,.p x2)],[(1,.own 137 1 (List.replicate n .nils)),(0,.ext (.mat 60 3 1 (avI nx) []))]⟩
   ⟨[(0,.p (.ip w.cells)),(3,.p (x1z nx)),(6,.hd 1 0 n),(46,.p x1),(47,.p x2)],[(1,.ext (.mat 137 4 1 (List.replicate n []) []))]⟩:=by
 have hm:=q7b (N:=N') (sl:=[(0,.p (.ip w.cells)),(3,.hd 0 0 n),(6,.hd 1 0 n),(46,.p x1),(47,.p x2)]) (H:=[(1,.own 137 1 (List.replicate n .nils)),(0,.ext (.mat 60 3 1 (avI nx) []))])
  (H':=[(1,.ext (.mat 137 4 1 (List.replicate (List.replicate n AV.nils).length []) [])),(0,.ext (.mat 60 3 1 (avI nx) []))])
  1 4 1 (e:=137) (es:=List.replicate n .nils) rfl (fun x hx=>List.eq_of_mem_replicate hx) rfl rfl rfl rfl (by simp [FU])
 rw [List.length_replicate] at hm;have hl:(avI nx).length=n:=by unfold avI;rw [length_map,hn]
 refine hm.trans (w7v (k:=0) (e:=60) (e2:=3) (sz:=1) (rows:=avI nx) rfl (fun i => ?_) (by show [1].Sublist [1,0];decide) fun j c' hj => ?_)
 ·refine SlRel.get (P:=fun l l'=>l'=l.kill 0∨(l = .hd 0 0 (avI nx).length∧l' = .p (.sl ((avI nx).map .sl)))) (.inl rfl) ?_ i;exact .cons (.inl rfl) (.cons (.inr ⟨by rw [hl],rfl⟩) (.cons (.inl rfl) (.cons (.inl rfl) (.cons (.inl rfl) .nil))))
 ·rcases List.mem_singleton.1 hj with h;cases h;exact ⟨by decide,mem_cons_self,rfl⟩
theorem w6u (n:Nat):w3y n n=(List.range n).map (filRow n):=by
 unfold w3y;rw [Nat.sub_self,List.take_of_length_le (by simp)];simp
theorem w2e {N':Nat} {sl:List (Nat×LV)} (n:Nat) (h0:(sl.all fun x=>x.2.xfree 0)=true) :
  Le N' ⟨sl,[(0,.own 60 1 (List.replicate n .nils))]⟩ ⟨sl,[(0,.ext (.mat 60 3 1 (List.replicate n []) []))]⟩:=by
 have hm:=q7b (N:=N') (sl:=sl) (H:=[(0,.own 60 1 (List.replicate n .nils))])
  (H':=[(0,.ext (.mat 60 3 1 (List.replicate (List.replicate n AV.nils).length []) []))])
  0 3 1 (e:=60) (es:=List.replicate n .nils) rfl (fun x hx=>List.eq_of_mem_replicate hx) rfl h0 rfl rfl (by simp [FU])
 simpa using hm
theorem MT (w:Way) (f:Pr) (n:Nat) (h:WayT w f n) (hp : ∀ t∈GQ w f,(0<=t.1∧t.1<n)∧0<=t.2∧t.2<n) (hlen:(MX w f).length<=1000000):SpecP Tryz.prog 117 [.ip w.cells] (fun r => ∃ fm:List (List Bool),FollowP n (KK n (GQ w f)) fm∧r = .sl ((bmI fm).map .sl)):=by
 refine sB q6n Tryz.func117 rfl Tryz.call117 ?_;conv=>whnf
 have hwn:=h.hw;have hn5:=h.hn;have hn2:=h.hn2;have hA:=z1n w f n h;have hP:=FK w f h.hj h.hc (by omega) (MX w f) hlen;have hpl:(avP (GQ w f)).length=(GQ w f).length:=by unfold avP;rw [length_map]
 have hpl2:(GQ w f).length<=1000000:=by unfold GQ;rw [length_map];exact hlen
 have hPe:(MX w f).map (ixP w.p w.j f w.n)=GQ w f:=rfl;rw [hPe] at hP;repeat' ((first|(refine iM fun _=>?_)|refine aR ?_|refine MkK.mk n (by omega) (by show 24*_<=140737488355328;omega) (by unfold maxLen;omega) ?_|refine cP hA ?_|refine cP hP ?_);conv=>whnf)
 refine LoopK.inv QX (fun j:Nat=>⟨[(0,.p (.ip w.cells)),(3,.hd 0 0 n),(20,.p (.sl (avP (GQ w f)))),(21,.p (.int .i64 (avP (GQ w f)).length)),(22,.p (.int .i64 j))],[(0,.ext (.mat 60 3 1 (avI (KK n ((GQ w f).take j))) []))]⟩) (fun j=>j<=(GQ w f).length) (fun j=>(GQ w f).length-j) 0
  (by
    refine Le.trans (w2e n rfl) ?_;exact Le.mk [] (by simp) (by simp) (by simp) (.cons (.refl _) (.cons (.refl _) (.cons (.refl _) (.cons (.refl _) (.cons (.refl _) .nil))))) (.cons rfl (.of_eq (by simp [avI,KK])) .nil)) (zero_le _) ?_
 intro j h2;rcases Nat.lt_or_ge j (GQ w f).length with hj|hj
 ·have hme:(avP (GQ w f))[j]? = some (.agg [.int .i64 (GQ w f)[j].1,.int .i64 (GQ w f)[j].2]):=by simp [avP,hj]
  obtain ⟨⟨q1,q2⟩,q3,q4⟩:=hp _ (List.getElem_mem hj);have hst:KK n ((GQ w f).take (j+1))=nxE (KK n ((GQ w f).take j)) (GQ w f)[j]:=by
   unfold KK;rw [List.take_succ_eq_append_getElem hj,List.foldl_append];rfl
  have hrl:=x7k n ((GQ w f).take j);have hcnt:=x8d n ((GQ w f).take j) (GQ w f)[j].1.toNat;generalize (GQ w f)[j]=t at hme q1 q2 q3 q4 hst hcnt;generalize KK n ((GQ w f).take j)=rows at hst hrl hcnt ⊢;obtain ⟨a,ha⟩ : ∃ a:Nat,t.1=a:=⟨t.1.toNat,by omega⟩;have hal:a<rows.length:=by omega
  have hrow:(avI rows)[a]? = some (rows[a].map (.int .i64)):=by unfold avI;rw [List.getElem?_map,List.getElem?_eq_getElem hal];rfl
  have hput:(avI rows).set a (rows[a].map (.int .i64)++[.int .i64 t.2])=avI (nxE rows t):=by
   unfold nxE avI;rw [ha,toNat_natCast,getD_eq_getElem?_getD,List.getElem?_eq_getElem hal,Option.getD_some,List.map_set,List.map_append];rfl
  have hcl:rows[a].length<=1000000:=by
   rw [ha,toNat_natCast,getD_eq_getElem?_getD,List.getElem?_eq_getElem hal,Option.getD_some,length_take] at hcnt;omega
  rw [ha] at hme;conv=>whnf
  repeat' (first|((first|refine And.intro rfl ?_|refine aD ?_|refine wI ?_|refine DrawK.of QX mixed (.cons 0 false (.cons 1 false (.cons 2 false (.cons 3 false (.cons 4 false (.cons 5 false (.cons 6 false (.cons 8 false (.cons 9 false (.alo 7 (.cons 10 true (.cons 11 true (.cons 12 true (.cons 13 true .nil)))))))))))))) (by kernel_rfl) ?_|(refine IdxK.at (k:=j) rfl hme rfl ?_)|refine IdxL.mk 0 rfl (by decide) ?_|refine IdxL.mk 1 rfl (by decide) ?_|refine IdxL.mk a rfl (by omega) ?_|refine RowK.mk a _ (by omega) hrow (by simp) ?_|refine BsK.own (fun x hx=>by rcases List.mem_singleton.1 hx with rfl;rfl) rfl ?_|refine OpK.focus QX 33 0 a 2 rfl rfl hrow (by simp) rfl rfl ?_|refine XO rfl (by rw [length_map];omega) ?_|(refine FZ QX rfl rfl rfl rfl rfl rfl rfl rfl rfl (by decide) a [] (by omega) (by unfold avI;rw [length_map];omega) (by simp) ⟨by simp,by simp,by simp⟩ ?_));conv=>whnf)|(apply bD<;>intro _<;>first|omega|conv=>whnf))
  all_goals exact ⟨j+1,hj,by omega,Le.of_eq (by rw [hst,<- hput];rfl)⟩
 ·conv=>whnf
  repeat' (first|((first|(refine iM fun _=>?_)|refine aR ?_|refine MkK.mk n (by omega) (by show 24*_<=140737488355328;omega) (by unfold maxLen;omega) ?_);conv=>whnf)|(apply bD<;>intro _<;>first|omega|conv=>whnf))
  have hje:(GQ w f).take j=GQ w f:=List.take_of_length_le hj;rw [hje];have hNl:=x7k n (GQ w f);have hNi:=w5q n (GQ w f) hp;have hNc:=x8d n (GQ w f);generalize KK n (GQ w f)=nx at hNl hNi hNc ⊢;refine LoopK.inv QX (fun a:Nat=>⟨[(0,.p (.ip w.cells)),(3,.p (x1z nx)),(6,.hd 1 0 n),(46,.p (.int .i64 n)),(47,.p (.int .i64 a))],[(1,.ext (.mat 137 4 1 (bmI (w3y n a)) []))]⟩) (fun a=>a<=n) (fun a=>n-a) 0
   (by
     refine Le.trans (z7e w n nx hNl _ _) ?_;exact Le.mk [] (by simp) (by simp) (by simp) (.cons (.refl _) (.cons (.refl _) (.cons (.refl _) (.cons (.refl _) (.cons (.refl _) .nil))))) (.cons rfl (.of_eq (by simp [bmI,w3y])) .nil)) (zero_le _) ?_
  intro a h3;rcases Nat.lt_or_ge a n with ha|ha
  ·have hfl:=w7q (n:=n) h3;have hset:=w4h (n:=n) ha;generalize w3y n a=rows at hfl hset ⊢;have hrl:(bmI rows).length=n:=by unfold bmI;rw [length_map,hfl]
   conv=>whnf
   repeat' (first|((first|refine And.intro rfl ?_|refine aR ?_|refine MkK.mk n (by omega) (by show 1*_<=140737488355328;omega) (by unfold maxLen;omega) ?_|refine IdxL.mk a rfl ha ?_|(refine FZ QX rfl rfl rfl rfl rfl rfl rfl rfl rfl (by decide) a [] (by omega) (by omega) (by simp) ⟨by simp,by simp,by simp⟩ ?_)|refine RowK.mk a (List.replicate n .ff) (by omega) (by rw [List.getElem?_set_self (by omega)];rfl) (by simp) ?_);conv=>whnf)|(apply bD<;>intro _<;>first|omega|conv=>whnf))
   refine LoopK.inv QX (fun b:Nat=>⟨[(0,.p (.ip w.cells)),(3,.p (x1z nx)),(6,.hd 1 0 n),(7,.p (.int .i64 a)),(46,.p (.int .i64 n)),(47,.p (.int .i64 a)),(62,.p (.int .i64 n)),(63,.p (.int .i64 b))],[(1,.ext (.mat 137 4 1 ((bmI rows).set a ((z3n n a b).map bv)) []))]⟩) (fun b=>b<=n) (fun b=>n-b) 0
    (Le.of_eq (by rw [List.length_replicate,show (z3n n a 0).map bv=List.replicate n .ff by unfold z3n;simp [bv]];rfl)) (zero_le _) ?_
   intro b h4;rcases Nat.lt_or_ge b n with hb|hb
   ·have hfs:=w4o (n:=n) (a:=a) hb;have htl:=w6h (n:=n) (a:=a) h4;have hrow:((bmI rows).set a ((z3n n a b).map bv))[a]? = some ((z3n n a b).map bv):=List.getElem?_set_self (by omega);have hrln:((z3n n a b).map bv).length=n:=by rw [length_map,htl]
    generalize (z3n n a b).map bv=row at hfs hrow hrln ⊢;conv=>whnf
    repeat' (first|((first|refine dA ?_|refine And.intro rfl ?_|refine Wr.eq (m:=(n:Int)-1) (by omega) (by omega) (by omega) ?_|refine wI ?_|refine IdxL.mk a rfl ha ?_|refine RowK.mk a row (by omega) hrow (by simp) ?_|refine IdxL.mk b rfl (by omega) ?_|refine w7w QX rfl rfl rfl rfl rfl rfl rfl rfl rfl hrow (by simp) (by omega) ?_);conv=>whnf)|(apply bD<;>intro _<;>first|omega|conv=>whnf))
    have e1 : ∀ c,((bmI rows).set a row).set a (row.set (b*1) c)=(bmI rows).set a (row.set b c):=fun c=>by rw [List.set_set,Nat.mul_one]
    ·have hx:(decide (a<n-1)||decide (a=b))=true:=by rw [decide_eq_true (by omega)];rfl
     rw [hx] at hfs;exact ⟨b+1,by omega,by omega,Le.of_eq (by rw [e1,<- hfs];rfl)⟩
    ·have hx:(decide (a<n-1)||decide (a=b))=((a:Int)==b):=by
      rw [decide_eq_false (by omega),Bool.false_or];by_cases hab:a=b
      ·subst hab;simp
      ·have : ¬(a:Int)=b:=by omega
       rw [decide_eq_false hab,beq_eq_false_iff_ne.2 this]
     have e1 : ∀ c,((bmI rows).set a row).set a (row.set (b*1) c)=(bmI rows).set a (row.set b c):=fun c=>by rw [List.set_set,Nat.mul_one]
     rw [hx] at hfs;refine ⟨b+1,by omega,by omega,?_⟩;rw [e1];exact ((w3l (H1:=[]) (rows':=(bmI rows).set a (row.set b (bv ((a:Int)==b)))) (by rw [length_set,length_set]) (v5s (ElS.set rfl (q1r _) (Sub.bv rfl)))).trans (Le.of_eq (by rw [hfs];rfl)))
   ·have hbe:b=n:=by omega
    subst hbe;rw [w4f];have hbm:(bmI rows).set a ((filRow b a).map bv)=bmI (w3y b (a+1)):=by
     rw [<- hset];unfold bmI;rw [List.map_set]
    rw [hbm];conv=>whnf
    repeat' (first|(refine wI ?_;conv=>whnf)|(apply bD<;>intro _<;>first|omega|conv=>whnf))
    exact ⟨a+1,by omega,by omega,Le.of_eq rfl⟩
  ·have hae:a=n:=by omega
   rw [hae,w6u];have hS:=FolI.start hn2 nx;have hnx : ∀ a,∀ x∈nx.getD a [],0<=x∧x<(n:Int):=fun a x hx=>by
    rw [getD_eq_getElem?_getD] at hx;cases hq:nx[a]? with
    | none=>rw [hq] at hx;cases hx
    | some r=>rw [hq] at hx;exact hNi r (List.mem_of_getElem? hq) x hx
   generalize (List.range n).map (filRow n)=fm0 at hS ⊢;clear h3 ha hae a;conv=>whnf
   repeat' (apply bD<;>intro _<;>first|omega|conv=>whnf)
   refine LoopK.inv QX (fun x:List (List Bool)×Bool=>⟨[(0,.p (.ip w.cells)),(3,.p (x1z nx)),(6,.hd 1 0 n),(9,.p (bv x.2))],[(1,.ext (.mat 137 4 1 (bmI x.1) []))]⟩) (fun x=>FolI n nx x.1∧(x.2=false -> ∀ a,a<n-1->x.1.getD a []=rowF n nx x.1 a)) (fun x=>2*z4i x.1+x.2.toNat) (fm0,true)
    (Le.of_eq rfl) ⟨hS,fun h=>by cases h⟩ ?_
   rintro ⟨fm,turned⟩ ⟨hI,hfix⟩;simp only at hI hfix ⊢;cases turned with
   | false =>
     have hbl:n=(bmI fm).length:=by unfold bmI;rw [length_map,hI.len]
     conv=>whnf
     skip
     exact ⟨_,.mat rfl hbl,fm,⟨hI,hfix rfl⟩,rfl⟩
   | true =>
     conv=>whnf
     repeat' (refine Wr.eq (m:=(n:Int)-2) (by omega) (by omega) (by omega) ?_;conv=>whnf)
     refine LoopK.inv QX (fun y:List (List Bool)×Bool×Int=>⟨[(0,.p (.ip w.cells)),(3,.p (x1z nx)),(6,.hd 1 0 n),(9,.p (bv y.2.1)),(10,.p (.int .i64 y.2.2))],[(1,.ext (.mat 137 4 1 (bmI y.1) []))]⟩)
      (fun y=>FolI n nx y.1∧(-1<=y.2.2∧y.2.2<=(n:Int)-2)∧(y.2.1=false->y.1=fm ∧ ∀ a':Nat,y.2.2<a'->a'<n-1->fm.getD a' []=rowF n nx fm a')∧(y.2.1=true->z4i y.1<z4i fm)) (fun y=>(y.2.2+1).toNat) (fm,false,(n:Int)-2)
      (Le.of_eq rfl) ⟨hI,⟨by simp only;omega,by simp only;omega⟩,fun _=>⟨rfl,fun a' h1 h2=>by simp only at h1;omega⟩,fun h=>by cases h⟩ ?_
     rintro ⟨gm,t,a⟩ ⟨hG,⟨ha1,ha2⟩,hf,hl⟩;simp only at hG ha1 ha2 hf hl ⊢;rcases Int.lt_or_le a 0 with ha0|ha0
     ·have hae:a = -1:=by omega
      subst hae;have fin : ∃ x:List (List Bool)×Bool,x=(gm,t)∧2*z4i x.1+x.2.toNat<2*z4i fm+1:=⟨_,rfl,by
       cases t with
       | true=>have:=hl rfl;simp only [Bool.toNat_true];omega
       | false=>rw [(hf rfl).1];simp⟩
      obtain ⟨x,rfl,hm⟩:=fin;conv=>whnf
      repeat' (apply bD<;>intro _<;>first|omega|conv=>whnf)
      refine ⟨(gm,t),⟨hG,fun ht a ha => ?_⟩,hm,lE⟩;simp only at ht ⊢;obtain ⟨q1,q2⟩:=hf ht;rw [q1];exact q2 a (by omega) ha
     ·obtain ⟨i,rfl⟩ : ∃ i:Nat,a=i:=⟨a.toNat,by omega⟩;have hin:i<n-1:=by omega
      have hinx:i<nx.length:=by omega
      have higm:i<gm.length:=by rw [hG.len];omega
      have hNr:((avI nx).map AV.sl)[i]? = some (.sl (nx[i].map (.int .i64))):=by unfold avI;rw [List.map_map,List.getElem?_map,List.getElem?_eq_getElem hinx];rfl
      have hng:nx.getD i []=nx[i]:=by rw [getD_eq_getElem?_getD,List.getElem?_eq_getElem hinx];rfl
      have hgg:gm.getD i []=gm[i]:=by rw [getD_eq_getElem?_getD,List.getElem?_eq_getElem higm];rfl
      have hcl:nx[i].length<=1000000:=by have:=hNc i;rw [hng] at this;omega
      have hSh:=z7d gm nx[i] n hG.len hn5 hG.rows hcl (fun x hx=>hnx i x (by rw [hng];exact hx));have hse:((XL gm nx[i] n).map bv)[i]? = some (bv (GF gm nx[i] i)):=by unfold XL;rw [List.map_map,List.getElem?_map,List.getElem?_range (by omega)];rfl
      have hst:((XL gm nx[i] n).map bv).set i (bv true)=(rowF n nx gm i).map bv:=by
       unfold rowF;rw [hng,List.map_set]
      have hgr:(bmI gm)[i]? = some (gm[i].map bv):=by unfold bmI;rw [List.getElem?_map,List.getElem?_eq_getElem higm];rfl
      have hgl:(gm[i].map bv).length=n:=by rw [length_map];exact hG.rows _ (List.getElem_mem higm)
      have hrl:((rowF n nx gm i).map bv).length=n:=by rw [length_map,q3v]
      have hbl:(bmI gm).length=n:=by unfold bmI;rw [length_map,hG.len]
      have hEq:=FB (rowF n nx gm i) gm[i];by_cases hq:rowF n nx gm i=gm[i]
      ·rw [decide_eq_true hq] at hEq;have fin : ∃ y:List (List Bool)×Bool×Int,y=(gm,t,(i:Int)-1)∧(FolI n nx y.1∧(-1<=y.2.2∧y.2.2<=(n:Int)-2)∧(y.2.1=false->y.1=fm ∧ ∀ a':Nat,y.2.2<a'->a'<n-1->fm.getD a' []=rowF n nx fm a')∧(y.2.1=true->z4i y.1<z4i fm)):=⟨_,rfl,hG,⟨by simp only;omega,by simp only;omega⟩,fun ht=>by
        obtain ⟨q1,q2⟩:=hf ht;refine ⟨q1,fun a' h1 h2 => ?_⟩;simp only at h1;by_cases he:a'=i
        ·subst he;subst q1;rw [hgg,hq]
        ·exact q2 a' (by omega) h2,hl⟩
       obtain ⟨y,rfl,hfin⟩:=fin;conv=>whnf
       repeat' (first|((first|refine And.intro rfl ?_|(refine IdxK.at (k:=i) rfl hNr rfl ?_)|refine IdxL.mk i rfl (by omega) ?_|refine StOwn.mk i 0 _ (bv true) (by show (0+i)*1=i*1+0;omega) hse (Nat.le_refl _) (by rw [q1r,q1r];rfl) ?_|refine RowK.mk i _ (by omega) hgr (by simp) ?_);conv=>whnf)|(apply bD<;>intro _<;>first|omega|conv=>whnf)|(refine CallK.heap [(1000,1)] 5 (ArgsH.cons (LSub.refl _) (ArgsH.cons (LSub.refl _) ArgsH.nil)) (by refine BlksH.cons (j:=1) rfl rfl ?_ ?_;exact CSub.refl _;exact BlksH.nil) hSh rfl rfl ?_;rintro l' H' ⟨rfl,rfl⟩;conv=>whnf))
       rw [hst];repeat' (first|((first|refine And.intro rfl ?_|refine Wr.eq (m:=(i:Int)-1) (by omega) (by omega) (by omega) ?_|refine IdxL.mk i rfl (by omega) ?_|(refine FZ QX rfl rfl rfl rfl rfl rfl rfl rfl rfl (by decide) i [] (by omega) (by omega) hrl.symm ⟨by simp,by simp,by simp⟩ ?_));conv=>whnf)|(apply bN<;>intro _<;>conv=>whnf)|(refine QG hEq (.cons (.hd rfl hrl.symm) (.cons (.row rfl hgr (by simp)) .nil)) (by rintro _ rfl;rfl) ?_;rintro _ rfl;conv=>whnf))
       all_goals first
        | exact ⟨_,hfin,by simp only;omega,lE⟩
        | (exfalso;simp_all;done)
      ·rw [decide_eq_false hq] at hEq;have hsb:(bmI gm).set i ((rowF n nx gm i).map bv)=bmI (gm.set i (rowF n nx gm i)):=by unfold bmI;rw [List.map_set]
       have hne:rowF n nx gm i≠gm.getD i []:=by rw [hgg];exact hq
       have fin : ∃ y:List (List Bool)×Bool×Int,y=(gm.set i (rowF n nx gm i),true,(i:Int)-1)∧(FolI n nx y.1∧(-1<=y.2.2∧y.2.2<=(n:Int)-2)∧(y.2.1=false->y.1=fm ∧ ∀ a':Nat,y.2.2<a'->a'<n-1->fm.getD a' []=rowF n nx fm a')∧(y.2.1=true->z4i y.1<z4i fm)):=⟨_,rfl,hG.step hnx hin,⟨by simp only;omega,by simp only;omega⟩,fun ht=>by (simp only at ht;cases ht),fun _=>by
        have h1:=hG.less hin hne;cases t with
        | true=>exact Nat.lt_trans h1 (hl rfl)
        | false=>rw [(hf rfl).1] at h1 ⊢;exact h1⟩
       obtain ⟨y,rfl,hfin⟩:=fin;conv=>whnf
       repeat' (first|((first|refine And.intro rfl ?_|(refine IdxK.at (k:=i) rfl hNr rfl ?_)|refine IdxL.mk i rfl (by omega) ?_|refine StOwn.mk i 0 _ (bv true) (by show (0+i)*1=i*1+0;omega) hse (Nat.le_refl _) (by rw [q1r,q1r];rfl) ?_|refine RowK.mk i _ (by omega) hgr (by simp) ?_);conv=>whnf)|(apply bD<;>intro _<;>first|omega|conv=>whnf)|(refine CallK.heap [(1000,1)] 5 (ArgsH.cons (LSub.refl _) (ArgsH.cons (LSub.refl _) ArgsH.nil)) (by refine BlksH.cons (j:=1) rfl rfl ?_ ?_;exact CSub.refl _;exact BlksH.nil) hSh rfl rfl ?_;rintro l' H' ⟨rfl,rfl⟩;conv=>whnf))
       rw [hst];repeat' (first|((first|refine And.intro rfl ?_|refine Wr.eq (m:=(i:Int)-1) (by omega) (by omega) (by omega) ?_|refine IdxL.mk i rfl (by omega) ?_|(refine FZ QX rfl rfl rfl rfl rfl rfl rfl rfl rfl (by decide) i [] (by omega) (by omega) hrl.symm ⟨by simp,by simp,by simp⟩ ?_));conv=>whnf)|(apply bN<;>intro _<;>conv=>whnf)|(refine QG hEq (.cons (.hd rfl hrl.symm) (.cons (.row rfl hgr (by simp)) .nil)) (by rintro _ rfl;rfl) ?_;rintro _ rfl;conv=>whnf))
       all_goals first
        | exact ⟨_,hfin,by simp only;omega,Le.mk [] (by simp) (by simp) (by simp) (.cons (.refl _) (.cons (.refl _) (.cons (.refl _) (.cons (.refl _) (.cons (.refl _) .nil))))) (.cons rfl (.of_eq (by rw [hsb])) .nil)⟩
        | (exfalso;simp_all;done)
structure DimB (n:Nat) (M:List (List Bool)):Prop where
 len:M.length=n
 rows : ∀ r∈M,r.length=n
theorem DimB.row {n:Nat} {M:List (List Bool)} (h:DimB n M) {a:Nat} (ha:a<n):(bmI M)[a]? = some ((M.getD a []).map bv)∧((M.getD a []).map bv).length=n:=by
 have hal:a<M.length:=by rw [h.len];exact ha
 have e:M.getD a []=M[a]:=by rw [getD_eq_getElem?_getD,List.getElem?_eq_getElem hal];rfl
 rw [e];refine ⟨by unfold bmI;rw [List.getElem?_map,List.getElem?_eq_getElem hal];rfl,?_⟩;rw [length_map];exact h.rows _ (List.getElem_mem hal)
theorem DimB.bit {n:Nat} {M:List (List Bool)} (h:DimB n M) {a b:Nat} (ha:a<n) (hb:b<n):((M.getD a []).map bv)[b]? = some (bv (bitF M a b)):=by
 obtain ⟨_,h2⟩:=h.row ha;have hbl:b<(M.getD a []).length:=by rw [length_map] at h2;omega
 rw [List.getElem?_map,List.getElem?_eq_getElem hbl];unfold bitF;rw [getD_eq_getElem?_getD (l:=M.getD a []) (i:=b),List.getElem?_eq_getElem hbl];rfl
theorem w8y {p:Pg} (h:XG p=true) {j:Nat} {f:Pr} (hj:p.procs[j]? = some f) : ∀ s∈DP (QQ p j f) f,okSt s:=fun s hs=>by
 unfold DP at hs;rcases List.mem_append.1 hs with hs|hs
 ·rcases List.mem_append.1 hs with hs|hs
  ·exact z2i h hj s hs
  ·rw [List.mem_singleton.1 hs];exact ⟨by decide,by decide⟩
 ·obtain ⟨it,hi,hs⟩:=List.mem_flatMap.1 hs;exact z4n h hj it hi s hs
theorem FollowP.no {n:Nat} {nx:List (List Int)} {fm:List (List Bool)} (h:FollowP n nx fm) {a b:Nat} (hb:b<n) (ha:Avd nx n b a):bitF fm a b=false:=by
 have big : ∀ c,n<=c->bitF fm c b=false:=fun c hc=>by
  unfold bitF;rw [getD_eq_getElem?_getD (l:=fm),List.getElem?_eq_none (by rw [h.inv.len];exact hc)];rfl
 have last:n-1≠b->bitF fm (n-1) b=false:=fun hne=>by
  unfold bitF;rw [h.inv.last,x2g hb,decide_eq_false hne,decide_eq_false (by omega)];rfl
 induction ha with
 | exit he=>exact last (Ne.symm he)
 | @step a t hab ht _ ih =>
   rcases Nat.lt_trichotomy a (n-1) with hlt|heq|hgt
   ·have hbit:bitF fm a b=(rowF n nx fm a).getD b false:=by
     unfold bitF;rw [h.fix a hlt]
    rw [hbit,q6t hb,decide_eq_false hab];cases hs:GF fm (nx.getD a []) b with
    | false=>rfl
    | true =>
      have:=HQ.1 hs _ ht;rw [toNat_natCast,ih] at this;cases this
   ·subst heq;exact last hab
   ·exact big a (by omega)
theorem FollowP.iff {n:Nat} {nx:List (List Int)} {fm:List (List Bool)} (h:FollowP n nx fm) {a b:Nat} (ha:a<n) (hb:b<n):bitF fm a b=true ↔ ¬Avd nx n b a:=by
 constructor
 ·intro h1 h2;rw [h.no hb h2] at h1;cases h1
 ·intro h1;cases hq:bitF fm a b with
  | true=>rfl
  | false=>exact absurd (h.inv.min a b ha hb hq) h1
theorem x9s : ∀ (l:List (Int×Int)) (rows:List (List Int)),(∀ t∈l,0<=t.1∧t.1<rows.length) -> ∀ (a:Nat) (x:Int),x∈(l.foldl nxE rows).getD a []↔x∈rows.getD a [] ∨ ∃ t∈l,t.1=a∧t.2=x
 | [],rows,_,a,x=>by simp
 | t::r,rows,h,a,x=>by
   obtain ⟨h1,h2⟩:=h t mem_cons_self;rw [foldl_cons,x9s r (nxE rows t) (fun u hu=>by rw [w0o];exact h u (mem_cons_of_mem _ hu))];have e:x∈(nxE rows t).getD a []↔x∈rows.getD a []∨(t.1=a∧t.2=x):=by
    unfold nxE;simp only [getD_eq_getElem?_getD,List.getElem?_set];by_cases he:t.1.toNat=a
    ·subst he;have e0:t.1=(t.1.toNat:Int):=by omega
     rw [if_pos rfl,if_pos (by omega)];simp only [Option.getD_some,List.mem_append,List.mem_singleton];constructor
     ·rintro (h3|h3)
      ·exact .inl h3
      ·exact .inr ⟨e0,h3.symm⟩
     ·rintro (h3|⟨_,h3⟩)
      ·exact .inl h3
      ·exact .inr h3.symm
    ·rw [if_neg he];constructor
     ·exact .inl
     ·rintro (h3|⟨h3,_⟩)
      ·exact h3
      ·omega
   rw [e];simp only [List.mem_cons,exists_eq_or_imp,or_assoc]
theorem q9i {n:Nat} {l:List (Int×Int)} (h : ∀ t∈l,0<=t.1∧t.1<n) {a:Nat} {x:Int}:x∈(KK n l).getD a [] ↔ ∃ t∈l,t.1=a∧t.2=x:=by
 unfold KK;rw [x9s l _ (by simpa using h)];have:(List.replicate n ([]:List Int)).getD a []=[]:=by
  rw [getD_eq_getElem?_getD,List.getElem?_replicate];split<;>rfl
 rw [this];simp
inductive AvdP (R:Int->Int->Prop) (b:Int):Int->Prop
 | exit (h:b ≠ -1):AvdP R b (-1)
 | step {a t:Int} (hab:a≠b) (hs:R a t) (h:AvdP R b t):AvdP R b a
mutual
theorem w6k : ∀ (t:S) {nest seen m:Int},q7x nest seen t=some m -> ∀ u∈flS t,oneOk u=true
 | .mk id kind labels name pr x has args thn els,nest,seen,m,h,u,hu=>by
   obtain ⟨h1,_,m1,h3,h4⟩:=ZP h;rw [flS] at hu;rcases List.mem_cons.1 hu with rfl|hu
   ·exact h1
   ·rcases List.mem_append.1 hu with hu|hu
    ·exact q7f thn h3 u hu
    ·exact q7f els h4 u hu
theorem q7f : ∀ (l:List S) {nest seen m:Int},ZB nest seen l=some m -> ∀ u∈flL l,oneOk u=true
 | [],_,_,_,_,u,hu=>by rw [flL] at hu;cases hu
 | t::r,nest,seen,m,h,u,hu=>by
   obtain ⟨_,m1,h1,h2⟩:=XS h;rw [flL] at hu;rcases List.mem_append.1 hu with hu|hu
   ·exact w6k t h1 u hu
   ·exact q7f r h2 u hu
end
theorem z5j {p:Pg} {j:Nat} {f:Pr} (h:XG p=true) (hj:p.procs[j]? = some f) {t:S} (ht:t∈flL f.body):OneF t:=by
 obtain ⟨m,hr⟩:=MO (QF h).1 hj;exact YU (q7f _ hr t ht)
section
variable {p:Pg} {j:Nat} {f:Pr}
def z0t (p:Pg) (j:Nat) (f:Pr):Int->Int->Prop:=stR (MX (QQ p j f) f)
theorem x6j (h:XG p=true) (hj:p.procs[j]? = some f):(MX (QQ p j f) f).length<=200000:=by
 obtain ⟨_,_,hcn⟩:=KU h;obtain ⟨_,_,_,hlen,hsp⟩:=QJ p;obtain ⟨_,_,hle,_⟩:=hsp j f hj;obtain ⟨h1,h2,_⟩:=GI (w8y h hj);have h3:=ZE (l:=MX (QQ p j f) f) (m:=((QQ p j f).real++(YR (QR p.procs j) (QV f.body)).map fun id=>⟨id,-1,3⟩)++[⟨0,-1,2⟩]++(itsOf p j f).flatMap fOf) (z5g h1) fun s hs=>by
  rcases List.mem_append.1 (h2 s hs) with h4|h4
  ·refine List.mem_append.2 (.inl ?_);rcases List.mem_append.1 h4 with h4|h4
   ·refine List.mem_append.2 (.inl ?_);rcases List.mem_append.1 h4 with h4|h4
    ·obtain ⟨l,hl,t,ht,hid,hk,rfl⟩:=(q3z h hj).1 h4;have hb:=YT (QF h).1 hj ht;exact List.mem_append.2 (.inr (List.mem_map.2 ⟨t.id,x3s hb.1 hb.2,rfl⟩))
    ·exact List.mem_append.2 (.inl h4)
   ·exact List.mem_append.2 (.inr h4)
  ·exact List.mem_append.2 (.inr h4)
 have h4:=z3k hj hcn;have h5:(YR (QR p.procs j) (QV f.body)).length=QV f.body:=by unfold YR;simp
 have h6:=VD (g:=fOf) (c:=1) (itsOf p j f) fun it _=>w2t it;have h7:(itsOf p j f).length=QV f.body:=ZH _ _ _ _ _ _;simp only [List.length_append,length_map,List.length_singleton] at h3;omega
theorem z9g (h:XG p=true) (hj:p.procs[j]? = some f) {a b:Int}:z0t p j f a b↔wR p j f a b∨(a=0∧b = -1)∨(∃ l∈trapsW (QQ p j f) f,∃ t∈flL f.body,t.id∈l∧t.kind=10∧a=t.id∧b = -1) ∨ ∃ it∈itsOf p j f,7<=it.s.kind∧a=it.s.id∧b=it.next:=by
 have hA:=GI (w8y h hj);have hraw : ∀ s,s∈DP (QQ p j f) f↔s∈WM (QQ p j f) f∨s∈(QQ p j f).real∨s=⟨0,-1,2⟩∨s∈(itsOf p j f).flatMap fOf:=fun s=>by
  have e:DP (QQ p j f) f=WM (QQ p j f) f++(QQ p j f).real++[⟨0,-1,2⟩]++(itsOf p j f).flatMap fOf:=rfl;rw [e];simp only [List.mem_append,List.mem_singleton,or_assoc]
 have hof : ∀ s∈DP (QQ p j f) f,z0t p j f s.src s.dst:=fun s hs=>by
  obtain ⟨s',h1,h2,h3,_⟩:=hA.2.2 s hs;exact ⟨s',h1,h2,h3⟩
 constructor
 ·rintro ⟨s,hs,rfl,rfl⟩;rcases (hraw s).1 (hA.2.1 s hs) with h1|h1|h1|h1
  ·obtain ⟨l,hl,t,ht,hid,hk,rfl⟩:=(q3z h hj).1 h1;exact .inr (.inr (.inl ⟨l,hl,t,ht,hid,hk,rfl,rfl⟩))
  ·exact .inl ⟨s,h1,rfl,rfl⟩
  ·rw [h1];exact .inr (.inl ⟨rfl,rfl⟩)
  ·obtain ⟨it,hi,hs⟩:=List.mem_flatMap.1 h1;unfold fOf at hs;split at hs
   ·rw [List.mem_singleton.1 hs];exact .inr (.inr (.inr ⟨it,hi,by omega,rfl,rfl⟩))
   ·cases hs
 ·rintro (⟨s,hs,rfl,rfl⟩|⟨rfl,rfl⟩|⟨l,hl,t,ht,hid,hk,rfl,rfl⟩|⟨it,hi,hk,rfl,rfl⟩)
  ·exact hof s ((hraw s).2 (.inr (.inl hs)))
  ·exact hof ⟨0,-1,2⟩ ((hraw _).2 (.inr (.inr (.inl rfl))))
  ·exact hof ⟨t.id,-1,3⟩ ((hraw _).2 (.inl ((q3z h hj).2 ⟨l,hl,t,ht,hid,hk,rfl⟩)))
  ·refine hof ⟨it.s.id,it.next,2⟩ ((hraw _).2 (.inr (.inr (.inr (List.mem_flatMap.2 ⟨it,hi,?_⟩)))));have hF:=(z5j h hj (LO hi)).hi;unfold fOf;rw [if_pos (by omega)];exact List.mem_singleton.2 rfl
theorem w5d (h:XG p=true) (hj:p.procs[j]? = some f) {a b:Int} (hr:z0t p j f a b):plP p j f a∧plP p j f b∧a ≠ -1∧b≠0:=by
 have hst : ∀ t∈flL f.body,plP p j f t.id∧t.id ≠ -1:=fun t ht=>by
  have hb:=YT (QF h).1 hj ht;exact ⟨.inr (.inr hb),by omega⟩
 rcases (z9g h hj).1 hr with h1|⟨rfl,rfl⟩|⟨l,hl,t,ht,hid,hk,rfl,rfl⟩|⟨it,hi,hk,rfl,rfl⟩
 ·obtain ⟨h2,h3⟩:=w8e h hj h1;refine ⟨h2,h3,?_,fun e=>x6g h hj (e▸h1)⟩;obtain ⟨s,hs,rfl,rfl⟩:=h1;rcases w5b h hj (((VI h hj).2 s).1 hs) with h4|h4
  ·rw [h4];show (0:Int) ≠ -1;decide
  ·omega
 ·exact ⟨.inl rfl,.inr (.inl rfl),by decide,by decide⟩
 ·exact ⟨(hst t ht).1,.inr (.inl rfl),(hst t ht).2,by decide⟩
 ·have h1:=(BH hi).1;unfold okI at h1;refine ⟨(hst _ (LO hi)).1,?_,(hst _ (LO hi)).2,by omega⟩;rcases h1 with h1|h1
  ·exact .inr (.inl h1)
  ·exact .inr (.inr h1)
theorem z4u:GQ (QQ p j f) f=(MX (QQ p j f) f).map (ixP p j f (QV f.body+2:Nat)):=rfl
theorem x5v (h:XG p=true) (hj:p.procs[j]? = some f) : ∀ t∈GQ (QQ p j f) f,(0<=t.1∧t.1<(QV f.body+2:Nat))∧0<=t.2∧t.2<(QV f.body+2:Nat):=fun t ht=>by
 rw [z4u] at ht;obtain ⟨s,hs,rfl⟩:=List.mem_map.1 ht;obtain ⟨h1,h2,_⟩:=w5d h hj ⟨s,hs,rfl,rfl⟩;exact ⟨WY h1,WY h2⟩
theorem w6j (h:XG p=true) (hj:p.procs[j]? = some f) {a b:Int} (ha:plP p j f a) (hb:plP p j f b):(ixI p j f a,ixI p j f b)∈GQ (QQ p j f) f↔z0t p j f a b:=by
 rw [z4u];constructor
 ·intro h1;obtain ⟨s,hs,he⟩:=List.mem_map.1 h1;obtain ⟨h2,h3,_⟩:=w5d h hj ⟨s,hs,rfl,rfl⟩;have e1:ixI p j f s.src=ixI p j f a:=congrArg Prod.fst he;have e2:ixI p j f s.dst=ixI p j f b:=congrArg Prod.snd he;exact ⟨s,hs,q2j h2 ha e1,q2j h3 hb e2⟩
 ·rintro ⟨s,hs,rfl,rfl⟩;exact List.mem_map.2 ⟨s,hs,rfl⟩
theorem q9x:ixI p j f (-1)=(QV f.body+2:Nat)-1:=by
 unfold ixI KX;rw [if_neg (by decide),if_pos rfl]
theorem w9d (h:XG p=true) (hj:p.procs[j]? = some f) {a b:Int} (ha:plP p j f a) (hb:plP p j f b):Avd (KK (QV f.body+2) (GQ (QQ p j f) f)) (QV f.body+2) (ixI p j f b).toNat (ixI p j f a).toNat↔AvdP (z0t p j f) b a:=by
 have hin:=x5v h hj;have hrb:=WY hb;constructor
 ·intro h1;generalize hx:(ixI p j f a).toNat=x at h1;induction h1 generalizing a with
  | exit hne =>
    have hra:=WY ha;have:a = -1:=q2j ha (.inr (.inl rfl)) (by rw [q9x];omega);subst this;refine .exit fun e => ?_;subst e;rw [q9x] at hne;omega
  | @step x t hne ht _ ih =>
    obtain ⟨u,hu,h2,h3⟩:=(q9i (fun t ht=>(hin t ht).1)).1 ht;obtain ⟨s,hs,he⟩:=List.mem_map.1 hu;obtain ⟨q2,q3,_⟩:=w5d h hj ⟨s,hs,rfl,rfl⟩;have e1:ixI p j f s.src=u.1:=congrArg Prod.fst he;have e2:ixI p j f s.dst=u.2:=congrArg Prod.snd he;have hra:=WY ha;have e3:s.src=a:=q2j q2 ha (by omega);refine .step (fun e => ?_) ⟨s,hs,e3,rfl⟩ (ih q3 (by omega));subst e;exact hne hx.symm
 ·intro h1;induction h1 with
  | exit hne =>
    rw [q9x,show (((QV f.body+2:Nat):Int)-1).toNat=QV f.body+2-1 by omega];refine .exit fun e=>hne (q2j hb (.inr (.inl rfl)) (by rw [q9x];omega))
  | @step a t hne hs _ ih =>
    obtain ⟨q2,q3,_⟩:=w5d h hj hs;have hra:=WY q2;have hrt:=WY q3;refine .step (t:=(ixI p j f t).toNat) (fun e=>hne (q2j q2 hb (by omega))) ?_ (ih q3);refine (q9i (fun t ht=>(hin t ht).1)).2 ⟨_,(w6j h hj q2 q3).2 hs,?_,?_⟩
    ·show ixI p j f a=_;omega
    ·show ixI p j f t=_;omega
def folP (p:Pg) (j:Nat) (f:Pr) (a b:Int):Prop := ¬AvdP (z0t p j f) b a
end
theorem FH {p:Pg} {j:Nat} {f:Pr} (h:XG p=true) (hj:p.procs[j]? = some f) {fm:List (List Bool)} (hF:FollowP (QV f.body+2) (KK (QV f.body+2) (GQ (QQ p j f) f)) fm) {a b:Int} (ha:plP p j f a) (hb:plP p j f b):bitF fm (ixI p j f a).toNat (ixI p j f b).toNat=true↔folP p j f a b:=by
 have hra:=WY ha;have hrb:=WY hb;unfold folP;rw [hF.iff (by omega) (by omega),w9d h hj ha hb]
theorem w1e {n:Nat} {nx:List (List Int)} (hnx : ∀ a,∀ x∈nx.getD a [],0<=x∧x<(n:Int)) : ∃ fm,FollowP n nx fm:=by
 let F:Nat->Nat->Bool:=fun a b => @decide (¬Avd nx n b a) (Classical.propDecidable _);have hF : ∀ a b,F a b=true ↔ ¬Avd nx n b a:=fun a b=>by simp only [F];exact @decide_eq_true_iff _ (Classical.propDecidable _)
 have hrow : ∀ a,a<n->((List.range n).map fun a=>(List.range n).map fun b=>F a b).getD a []=(List.range n).map fun b=>F a b:=fun a ha=>by
  rw [getD_eq_getElem?_getD,List.getElem?_map,List.getElem?_range ha];rfl
 have hbit : ∀ a b,a<n->b<n->bitF ((List.range n).map fun a=>(List.range n).map fun b=>F a b) a b=F a b:=fun a b ha hb=>by
  unfold bitF;rw [hrow a ha,getD_eq_getElem?_getD,List.getElem?_map,List.getElem?_range hb];rfl
 have hfix : ∀ a b,a<n-1->b<n->F a b=(rowF n nx ((List.range n).map fun a=>(List.range n).map fun b=>F a b) a).getD b false:=fun a b ha hb=>by
  rw [q6t hb,Bool.eq_iff_iff,hF,Bool.or_eq_true,decide_eq_true_eq,HQ];constructor
  ·intro h;by_cases hab:a=b
   ·exact .inl hab
   ·refine .inr fun t ht => ?_;have hr:=hnx a t ht;rw [hbit _ _ (by omega) hb,hF];exact fun h2=>h (.step hab (by rw [Int.toNat_of_nonneg hr.1];exact ht) h2)
  ·rintro h h2;cases h2 with
   | exit hne=>omega
   | @step _ t hab ht h3 =>
     have hr:=hnx a _ ht;rcases h with h|h
     ·exact hab h
     ·have h4:=h _ ht;rw [toNat_natCast,hbit _ _ (by omega) hb,hF] at h4;exact h4 h3
 refine ⟨(List.range n).map fun a=>(List.range n).map fun b=>F a b,⟨by simp,fun r hr => ?_,?_,fun a b ha hb h => ?_,fun a b ha hb h => ?_⟩,fun a ha => ?_⟩
 ·obtain ⟨a,_,rfl⟩:=List.mem_map.1 hr;simp
 ·cases n with
  | zero=>rfl
  | succ n =>
    rw [hrow _ (by omega)];unfold filRow;refine List.map_congr_left fun b hb => ?_;rw [List.mem_range] at hb;rw [Bool.eq_iff_iff,hF,Bool.or_eq_true,decide_eq_true_eq,decide_eq_true_eq];constructor
    ·intro h;refine .inr (Classical.byContradiction fun he=>h ?_);exact .exit fun e=>he e.symm
    ·rintro (h|h) h2
     ·omega
     ·cases h2 with
      | exit hne=>exact hne h.symm
      | step hab _ _=>exact hab h
 ·rw [hbit a b (by omega) hb,hfix a b ha hb];exact h
 ·rw [hbit a b ha hb] at h;refine Classical.byContradiction fun h2 => ?_;rw [(hF a b).2 h2] at h;cases h
 ·rw [hrow a (by omega)];refine List.ext_getElem (by rw [q3v];simp) fun b h1 h2 => ?_;have hb:b<n:=by simpa using h1
  have h3:=hfix a b ha hb;rw [getD_eq_getElem?_getD,List.getElem?_eq_getElem h2] at h3;simp only [List.getElem_map,List.getElem_range];exact h3
theorem w2b {n:Nat} {l:List (Int×Int)} (h : ∀ t∈l,(0<=t.1∧t.1<n)∧0<=t.2∧t.2<n) : ∀ a,∀ x∈(KK n l).getD a [],0<=x∧x<(n:Int):=fun a x hx=>by
 obtain ⟨t,ht,_,rfl⟩:=(q9i fun t ht=>(h t ht).1).1 hx;exact (h t ht).2
namespace Own
end Own
open Go.Proofs
theorem z0b {R:Int->Int->Prop} {b:Int} : ¬AvdP R b b:=fun h=>by
 cases h with
 | exit h=>exact h rfl
 | step h _ _=>exact h rfl
def rng (a b:Int) (v:Int):Prop:=a<=v∧v<=b
theorem w0k {proc up nx lp:Int} {n:Nat} {nest m:Int} {l:List S} (h:ZB nest n l=some m) {it:Item} (hi:it∈itL proc up nx lp n l):(n:Int)+1<=it.s.id∧it.s.id<=(n:Int)+QV l:=by
 have h1:it.s∈flL l:=by
  rw [<- q0g proc up nx lp n l];exact List.mem_map.2 ⟨it,hi,rfl⟩
 have h2:it.s.id∈YR n (QV l):=by
  rw [<- JW nest l h];exact List.mem_map.2 ⟨it.s,h1,rfl⟩
 have:=YX h2;omega
def itemR (l:List RI) (id:Int):RI:=(l.find? fun x=>decide (x.s.id=id)).getD RI0
def inI (i:Int) (e:Bool) (y:RI):Bool:=decide (y.inn=i)&&(y.els==e)
def stdR (l:List RI) (x:RI):List Int:=(l.filter (inI x.inn x.els)).map fun y=>y.s.id
def nextIn:List Int->Int->Option Int
 | a::b::r,x=>if a=x then some b else nextIn (b::r) x
 | _,_=>none
inductive BehP (l:List RI):Int->Int->Prop
 | next {id v:Int} (h:nextIn (stdR l (itemR l id)) id=some v):BehP l id v
 | exit {id:Int} (h:nextIn (stdR l (itemR l id)) id=none) (h0:(itemR l id).inn=0):BehP l id (-1)
 | loop {id:Int} (h:nextIn (stdR l (itemR l id)) id=none) (h0:(itemR l id).inn≠0) (hk:(itemR l (itemR l id).inn).s.kind=6):BehP l id (itemR l id).inn
 | up {id v:Int} (h:nextIn (stdR l (itemR l id)) id=none) (h0:(itemR l id).inn≠0) (hk:(itemR l (itemR l id).inn).s.kind≠6) (hb:BehP l (itemR l id).inn v):BehP l id v
def w8a (l:List RI) (id:Int) (e:Bool) (o:Int):Int:=((l.find? (inI id e)).map fun y=>y.s.id).getD o
theorem z9v {l:List RI} (hn:(l.map fun x=>x.s.id).Nodup) {x:RI} (hx:x∈l):itemR l x.s.id=x:=by
 unfold itemR;cases hf:l.find? fun y=>decide (y.s.id=x.s.id) with
 | none =>
   have:=List.find?_eq_none.1 hf x hx;simp at this
 | some y =>
   have h1:=List.mem_of_find?_eq_some hf;have h2:=List.find?_some hf;simp only [decide_eq_true_eq] at h2;exact q1t hn y h1 x hx h2
mutual
theorem w1w (d i:Int) (e:Bool) : ∀ (t:S) {nest m:Int} {n:Nat},q7x nest n t=some m -> ∀ x∈fuS d i e t,(x.s=t∧x.inn=i∧x.els=e)∨((n:Int)+1<=x.inn∧x.inn<=(n:Int)+ZV t)
 | .mk id kind labels name pr x has args thn els,nest,m,n,h,y,hy=>by
   obtain ⟨_,hid,m1,h3,h4⟩:=ZP h;have hid:id=(n:Int)+1:=hid;have hc:ZV (.mk id kind labels name pr x has args thn els)=1+QV thn+QV els:=WB _;have hm1:=ZC _ _ thn h3;have h3':ZB (nest+1) ((n+1:Nat):Int) thn=some m1:=by rw [<- h3];rfl
   have h4':ZB (nest+1) ((n+1+QV thn:Nat):Int) els=some m:=by
    rw [<- h4,hm1];congr 1
   rw [fuS] at hy;rcases List.mem_cons.1 hy with rfl|hy
   ·exact .inl ⟨rfl,rfl,rfl⟩
   rcases List.mem_append.1 hy with hy|hy
   ·have:=GR (d+1) id false thn h3' y hy;refine .inr ?_;rcases this with h5|h5<;>omega
   ·have:=GR (d+1) id true els h4' y hy;refine .inr ?_;rcases this with h5|h5<;>omega
theorem GR (d i:Int) (e:Bool) : ∀ (l:List S) {nest m:Int} {n:Nat},ZB nest n l=some m -> ∀ x∈fuL d i e l,(x.inn=i)∨((n:Int)+1<=x.inn∧x.inn<=(n:Int)+QV l)
 | [],_,_,_,_,y,hy=>by rw [fuL] at hy;cases hy
 | t::r,nest,m,n,h,y,hy=>by
   obtain ⟨_,m1,h1,h2⟩:=XS h;have hm1:=JY _ _ t h1;have h2':ZB nest ((n+ZV t:Nat):Int) r=some m:=by rw [<- h2,hm1];rfl
   have hc:QV (t::r)=ZV t+QV r:=by rw [QV]
   rw [fuL] at hy;rcases List.mem_append.1 hy with hy|hy
   ·rcases w1w d i e t h1 y hy with h5|h5
    ·exact .inl h5.2.1
    ·refine .inr ?_;omega
   ·rcases GR d i e r h2' y hy with h5|h5
    ·exact .inl h5
    ·refine .inr ?_;omega
end
theorem WG {α:Type} {l:List α} {q:α->Bool} (h : ∀ x∈l,q x=false):l.filter q=[]:=by
 rw [List.filter_eq_nil_iff];intro x hx;rw [h x hx];decide
theorem q2o {i:Int} {e:Bool} {y:RI} (h:y.inn≠i):inI i e y=false:=by
 unfold inI;rw [decide_eq_false h];rfl
theorem w9k {i:Int} {e:Bool} {y:RI} (h:y.els≠e):inI i e y=false:=by
 unfold inI;rw [beq_eq_false_iff_ne.2 h];exact Bool.and_false _
theorem w9v {i:Int} {e:Bool} {y:RI} (h:y.inn=i) (h':y.els=e):inI i e y=true:=by
 unfold inI;rw [decide_eq_true h,h'];simp
theorem w6a (d i:Int) (e:Bool) : ∀ (l:List S) {nest m:Int} {n:Nat},ZB nest n l=some m->i<=n->((fuL d i e l).filter (inI i e)).map (fun y=>y.s.id)=l.map S.id
 | [],_,_,_,_,_=>by rw [fuL];rfl
 | t::r,nest,m,n,h,hi=>by
   obtain ⟨_,m1,h1,h2⟩:=XS h;obtain ⟨_,hid,m2,h3,h4⟩:=ZP h1;have hm1:=JY _ _ t h1;have h2':ZB nest ((n+ZV t:Nat):Int) r=some m:=by rw [<- h2,hm1];rfl
   have hm2:=ZC _ _ t.thn h3;have h3':ZB (nest+1) ((n+1:Nat):Int) t.thn=some m2:=by rw [<- h3];rfl
   have h4':ZB (nest+1) ((n+1+QV t.thn:Nat):Int) t.els=some m1:=by rw [<- h4,hm2];congr 1
   have hn1:=WG (l:=fuL (d+1) t.id false t.thn) (q:=inI i e) fun x hx=>q2o (by rcases GR _ _ _ _ h3' x hx with h5|h5<;>omega);have hn2:=WG (l:=fuL (d+1) t.id true t.els) (q:=inI i e) fun x hx=>q2o (by rcases GR _ _ _ _ h4' x hx with h5|h5<;>omega);rw [fuL,x2f,cons_append,List.filter_cons_of_pos (show inI i e (⟨t,d,i,e⟩:RI)=true from w9v rfl rfl),List.filter_append,List.filter_append,hn1,hn2,append_nil,nil_append,map_cons,w6a d i e r h2' (by omega),map_cons]
theorem q7e (d i:Int) (e e':Bool) (he:e≠e') : ∀ (l:List S) {nest m:Int} {n:Nat},ZB nest n l=some m->i<=n->(fuL d i e l).filter (inI i e')=[]
 | [],_,_,_,_,_=>by rw [fuL];rfl
 | t::r,nest,m,n,h,hi=>by
   obtain ⟨_,m1,h1,h2⟩:=XS h;obtain ⟨_,hid,m2,h3,h4⟩:=ZP h1;have hm1:=JY _ _ t h1;have h2':ZB nest ((n+ZV t:Nat):Int) r=some m:=by rw [<- h2,hm1];rfl
   have hm2:=ZC _ _ t.thn h3;have h3':ZB (nest+1) ((n+1:Nat):Int) t.thn=some m2:=by rw [<- h3];rfl
   have h4':ZB (nest+1) ((n+1+QV t.thn:Nat):Int) t.els=some m1:=by rw [<- h4,hm2];congr 1
   have hn1:=WG (l:=fuL (d+1) t.id false t.thn) (q:=inI i e') fun x hx=>q2o (by rcases GR _ _ _ _ h3' x hx with h5|h5<;>omega);have hn2:=WG (l:=fuL (d+1) t.id true t.els) (q:=inI i e') fun x hx=>q2o (by rcases GR _ _ _ _ h4' x hx with h5|h5<;>omega);rw [fuL,x2f,cons_append,List.filter_cons_of_neg (by rw [w9k he];decide),List.filter_append,List.filter_append,hn1,hn2,append_nil,nil_append,q7e d i e e' he r h2' (by omega)]
mutual
theorem v3j (d i:Int) (e:Bool) : ∀ (t:S) {nest m:Int} {n:Nat},q7x nest n t=some m->i<=n -> ∀ u∈flS t,∀ b,((fuS d i e t).filter (inI u.id b)).map (fun y=>y.s.id)=(bif b then u.els else u.thn).map S.id
 | .mk id kind labels name pr x has args thn els,nest,m,n,h,hi,u,hu,b=>by
   obtain ⟨_,hid,m1,h3,h4⟩:=ZP h;have hid:id=(n:Int)+1:=hid;have hm1:=ZC _ _ thn h3;have h3':ZB (nest+1) ((n+1:Nat):Int) thn=some m1:=by rw [<- h3];rfl
   have h4':ZB (nest+1) ((n+1+QV thn:Nat):Int) els=some m:=by
    rw [<- h4,hm1];congr 1
   have rg : ∀ {l:List S} {q:Nat} {nest m:Int},ZB nest q l=some m -> ∀ u∈flL l,(q:Int)+1<=u.id∧u.id<=(q:Int)+QV l:=fun {l q nest m} hr u hu=>by
    have h2:u.id∈YR q (QV l):=by
     rw [<- JW nest l hr];exact List.mem_map.2 ⟨u,hu,rfl⟩
    have:=YX h2;omega
   have hne:u.id≠i:=by
    rw [flS] at hu;rcases List.mem_cons.1 hu with rfl|hu
    ·show id≠i;omega
    rcases List.mem_append.1 hu with hu|hu
    ·have:=rg h3' u hu;omega
    ·have:=rg h4' u hu;omega
   rw [fuS,List.filter_cons_of_neg (by rw [q2o (Ne.symm hne)];decide),List.filter_append,List.map_append];rw [flS] at hu;rcases List.mem_cons.1 hu with rfl|hu
   ·show List.map _ (List.filter (inI id b) _)++List.map _ (List.filter (inI id b) _)=_;cases b with
    | true=>rw [q7e (d+1) id false true (by decide) thn h3' (by omega),w6a (d+1) id true els h4' (by omega)];rfl
    | false=>rw [q7e (d+1) id true false (by decide) els h4' (by omega),w6a (d+1) id false thn h3' (by omega),map_nil,append_nil];rfl
   rcases List.mem_append.1 hu with hu|hu
   ·have hr:=rg h3' u hu;have hn2:=WG (l:=fuL (d+1) id true els) (q:=inI u.id b) fun x hx=>q2o (by rcases GR _ _ _ _ h4' x hx with h5|h5<;>omega);rw [hn2,w5y (d+1) id false thn h3' (by omega) u hu b,map_nil,append_nil]
   ·have hr:=rg h4' u hu;have hn2:=WG (l:=fuL (d+1) id false thn) (q:=inI u.id b) fun x hx=>q2o (by rcases GR _ _ _ _ h3' x hx with h5|h5<;>omega);rw [hn2,w5y (d+1) id true els h4' (by omega) u hu b,map_nil,nil_append]
theorem w5y (d i:Int) (e:Bool) : ∀ (l:List S) {nest m:Int} {n:Nat},ZB nest n l=some m->i<=n -> ∀ u∈flL l,∀ b,((fuL d i e l).filter (inI u.id b)).map (fun y=>y.s.id)=(bif b then u.els else u.thn).map S.id
 | [],_,_,_,_,_,u,hu,_=>by rw [flL] at hu;cases hu
 | t::r,nest,m,n,h,hi,u,hu,b=>by
   obtain ⟨_,m1,h1,h2⟩:=XS h;have hm1:=JY _ _ t h1;have h2':ZB nest ((n+ZV t:Nat):Int) r=some m:=by rw [<- h2,hm1];rfl
   have rg : ∀ {l:List S} {q:Nat} {nest m:Int},ZB nest q l=some m -> ∀ u∈flL l,(q:Int)+1<=u.id∧u.id<=(q:Int)+QV l:=fun {l q nest m} hr u hu=>by
    have h2:u.id∈YR q (QV l):=by
     rw [<- JW nest l hr];exact List.mem_map.2 ⟨u,hu,rfl⟩
    have:=YX h2;omega
   rw [fuL,List.filter_append,List.map_append];rw [flL] at hu;rcases List.mem_append.1 hu with hu|hu
   ·have hr:(n:Int)+1<=u.id∧u.id<=(n:Int)+ZV t:=by
     have h5:ZB nest n [t]=some m1:=by
      rw [ZB,if_neg (by have:=(XS h).1;omega),h1];simp only;rw [ZB]
     have:=rg h5 u (by rw [flL,flL,append_nil];exact hu);rw [QV,QV] at this;omega
    have hn2:=WG (l:=fuL d i e r) (q:=inI u.id b) fun x hx=>q2o (by rcases GR _ _ _ _ h2' x hx with h5|h5<;>omega);rw [hn2,v3j d i e t h1 hi u hu b,map_nil,append_nil]
   ·have hr:=rg h2' u hu;have hn2:=WG (l:=fuS d i e t) (q:=inI u.id b) fun x hx=>q2o (by rcases w1w _ _ _ _ h1 x hx with h5|h5<;>omega);rw [hn2,w5y d i e r h2' (by omega) u hu b,map_nil,nil_append]
end
theorem x8w : ∀ (pre:List Int) {a:Int} {r:List Int},(pre++a::r).Nodup->nextIn (pre++a::r) a=r.head?
 | [],a,[],_=>rfl
 | [],a,b::r,_=>by show (if a=a then some b else _)=_;rw [if_pos rfl];rfl
 | x::pre,a,r,hn=>by
   have hn':(x::(pre++a::r)).Nodup:=hn;rw [List.nodup_cons] at hn';have hne:x≠a:=fun e=>hn'.1 (e▸List.mem_append.2 (.inr mem_cons_self));have ih:=x8w pre hn'.2;show nextIn (x::(pre++a::r)) a=_;cases hq:pre++a::r with
   | nil=>simp at hq
   | cons y q =>
     rw [hq] at ih;show (if x=a then some y else nextIn (y::q) a)=_;rw [if_neg hne,ih]
def v5u (L:List RI) (i nx:Int):Prop:=(i=0∧nx = -1)∨(i≠0∧(itemR L i).s.kind=6∧nx=i)∨(i≠0∧(itemR L i).s.kind≠6∧BehP L i nx)
mutual
theorem v5r {L:List RI} (hN:(L.map fun x=>x.s.id).Nodup) (hK : ∀ x∈L,∀ b,(L.filter (inI x.s.id b)).map (fun y=>y.s.id)=(bif b then x.s.els else x.s.thn).map S.id) (proc d i:Int) (e:Bool) : ∀ (t:S) {nest m:Int} (nx lp:Int) (n:Nat),q7x nest n t=some m->(∀ x∈fuS d i e t,x∈L)->BehP L t.id nx -> ∀ it∈itS proc i nx lp n t,BehP L it.s.id it.next
 | .mk id kind labels name pr x has args thn els,nest,m,nx,lp,n,h,hL,hb,it,hi=>by
   obtain ⟨_,hid,m1,h3,h4⟩:=ZP h;have hid:id=(n:Int)+1:=hid;have hm1:=ZC _ _ thn h3;have h3':ZB (nest+1) ((n+1:Nat):Int) thn=some m1:=by rw [<- h3];rfl
   have h4':ZB (nest+1) ((n+1+QV thn:Nat):Int) els=some m:=by
    rw [<- h4,hm1];congr 1
   rw [fuS] at hL;have hx:=hL _ mem_cons_self;have hit:=z9v hN hx;have k1:=hK _ hx false;have k2:=hK _ hx true;have haft:v5u L id (if kind=6 then (n:Int)+1 else nx):=by
    have hit':itemR L id=⟨.mk id kind labels name pr x has args thn els,d,i,e⟩:=hit;by_cases hk:kind=6
    ·rw [if_pos hk];exact .inr (.inl ⟨by omega,by rw [hit'];exact hk,hid.symm⟩)
    ·rw [if_neg hk];exact .inr (.inr ⟨by omega,by rw [hit'];exact hk,hb⟩)
   rw [itS] at hi;rcases List.mem_cons.1 hi with rfl|hi
   ·exact hb
   rw [<- hid] at hi;rcases List.mem_append.1 hi with hi|hi
   ·exact v2r hN hK proc (d+1) id false thn _ _ (n+1) [] h3' (fun y hy=>hL y (mem_cons_of_mem _ (List.mem_append.2 (.inl hy)))) k1 (by rw [hid] at haft ⊢;exact haft) it hi
   ·exact v2r hN hK proc (d+1) id true els _ _ (n+1+QV thn) [] h4' (fun y hy=>hL y (mem_cons_of_mem _ (List.mem_append.2 (.inr hy)))) k2 (by rw [hid] at haft ⊢;exact haft) it hi
theorem v2r {L:List RI} (hN:(L.map fun x=>x.s.id).Nodup) (hK : ∀ x∈L,∀ b,(L.filter (inI x.s.id b)).map (fun y=>y.s.id)=(bif b then x.s.els else x.s.thn).map S.id) (proc d i:Int) (e:Bool) : ∀ (l:List S) {nest m:Int} (nx lp:Int) (n:Nat) (pre:List S),ZB nest n l=some m->(∀ x∈fuL d i e l,x∈L)->(L.filter (inI i e)).map (fun y=>y.s.id)=(pre++l).map S.id->v5u L i nx -> ∀ it∈itL proc i nx lp n l,BehP L it.s.id it.next
 | [],_,_,_,_,_,_,_,_,_,_,it,hi=>by rw [itL] at hi;cases hi
 | t::r,nest,m,nx,lp,n,pre,h,hL,hR,ha,it,hi=>by
   obtain ⟨_,m1,h1,h2⟩:=XS h;have hm1:=JY _ _ t h1;have h2':ZB nest ((n+ZV t:Nat):Int) r=some m:=by rw [<- h2,hm1];rfl
   rw [fuL] at hL;have hx:(⟨t,d,i,e⟩:RI)∈L:=hL _ (List.mem_append.2 (.inl (by rw [x2f];exact mem_cons_self)));have hit:itemR L t.id=⟨t,d,i,e⟩:=z9v hN hx;have hnd:((pre++t::r).map S.id).Nodup:=by
    rw [<- hR];exact (List.filter_sublist.map _).nodup hN
   have hnx:nextIn (stdR L (itemR L t.id)) t.id=r.head?.map S.id:=by
    unfold stdR;rw [hit,hR];rw [List.map_append,map_cons] at hnd ⊢;rw [x8w _ hnd,List.head?_map]
   have hb:BehP L t.id (if r.isEmpty then nx else n+1+ZV t):=by
    cases r with
    | nil =>
      show BehP L t.id nx;rw [List.head?_nil,Option.map_none] at hnx;have hin:(itemR L t.id).inn=i:=by rw [hit]
      rcases ha with ⟨h5,h6⟩|⟨h5,h6,h7⟩|⟨h5,h6,h7⟩
      ·rw [h6];exact .exit hnx (by rw [hin];exact h5)
      ·rw [h7];have:=BehP.loop hnx (by rw [hin];exact h5) (by rw [hin];exact h6)
       rwa [hin] at this
      ·exact .up hnx (by rw [hin];exact h5) (by rw [hin];exact h6) (by rw [hin];exact h7)
    | cons u r =>
      rw [if_neg (by simp)];refine .next ?_
      rw [hnx];obtain ⟨_,m3,h8,_⟩:=XS h2';have hu:=(ZP h8).2.1;show some u.id=_;rw [hu];congr 1;omega
   rw [itL] at hi;rcases List.mem_append.1 hi with hi|hi
   ·exact v5r hN hK proc d i e t _ lp n h1 (fun y hy=>hL y (List.mem_append.2 (.inl hy))) hb it hi
   ·exact v2r hN hK proc d i e r nx lp (n+ZV t) (pre++[t]) h2' (fun y hy=>hL y (List.mem_append.2 (.inr hy))) (by rw [hR,List.append_assoc];rfl) ha it hi
end

def GD:List RI->Int->Int×Bool
 | [],_=>(0,false)
 | x::r,i=>if i=0 then (0,false) else if x.s.id=i then (if x.s.kind=6 then (i,true) else GD r x.inn) else GD r i
def z0h:List RI->Int->Int×Bool
 | [],_=>(0,false)
 | x::r,id=>if x.s.id=id then (if (GD r x.inn).2 then GD r x.inn else z0h r id) else z0h r id
theorem z6g {l:List RI} {n:Nat} (hn:n<l.length) (i:Int):GD (l.take (n+1)).reverse i=if i=0 then (0,false) else if l[n].s.id=i then (if l[n].s.kind=6 then (i,true) else GD (l.take n).reverse l[n].inn) else GD (l.take n).reverse i:=by
 rw [List.take_succ_eq_append_getElem hn,List.reverse_append];show GD (l[n]::(l.take n).reverse) i=_;rw [GD]
theorem x7i {l:List RI} {n:Nat} (hn:n<l.length) (i:Int):z0h (l.take (n+1)).reverse i=if l[n].s.id=i then (if (GD (l.take n).reverse l[n].inn).2 then GD (l.take n).reverse l[n].inn else z0h (l.take n).reverse i) else z0h (l.take n).reverse i:=by
 rw [List.take_succ_eq_append_getElem hn,List.reverse_append];show z0h (l[n]::(l.take n).reverse) i=_;rw [z0h]
theorem z7p : ∀ (l:List RI),GD l 0=(0,false)
 | []=>rfl
 | x::r=>by rw [GD,if_pos rfl]
theorem x1a : ∀ (l r:List RI) {i:Int},i≠0->(∀ x∈l,x.s.id≠i)->GD (l++r) i=GD r i
 | [],_,_,_,_=>rfl
 | x::l,r,i,h0,h=>by rw [cons_append,GD,if_neg h0,if_neg (h x mem_cons_self),x1a l r h0 fun y hy=>h y (mem_cons_of_mem _ hy)]
mutual
theorem v6g (proc d i:Int) (e:Bool) : ∀ (t:S) {nest m:Int} (nx lp:Int) (n:Nat),q7x nest n t=some m->(itS proc i nx lp n t).map (fun it=>(it.s,it.up))=(fuS d i e t).map fun x=>(x.s,x.inn)
 | .mk id kind labels name pr x has args thn els,nest,m,nx,lp,n,h=>by
   obtain ⟨_,hid,m1,h3,h4⟩:=ZP h;have hid:id=(n:Int)+1:=hid;have hm1:=ZC _ _ thn h3;have h3':ZB (nest+1) ((n+1:Nat):Int) thn=some m1:=by rw [<- h3];rfl
   have h4':ZB (nest+1) ((n+1+QV thn:Nat):Int) els=some m:=by
    rw [<- h4,hm1];congr 1
   rw [itS,fuS,map_cons,map_cons,List.map_append,List.map_append,<- hid,v1o proc (d+1) id false thn _ _ _ h3',v1o proc (d+1) id true els _ _ _ h4']
theorem v1o (proc d i:Int) (e:Bool) : ∀ (l:List S) {nest m:Int} (nx lp:Int) (n:Nat),ZB nest n l=some m->(itL proc i nx lp n l).map (fun it=>(it.s,it.up))=(fuL d i e l).map fun x=>(x.s,x.inn)
 | [],_,_,_,_,_,_=>by rw [itL,fuL];rfl
 | t::r,nest,m,nx,lp,n,h=>by
   obtain ⟨_,m1,h1,h2⟩:=XS h;have hm1:=JY _ _ t h1;have h2':ZB nest ((n+ZV t:Nat):Int) r=some m:=by rw [<- h2,hm1];rfl
   rw [itL,fuL,List.map_append,List.map_append,v6g proc d i e t _ _ _ h1,v1o proc d i e r _ _ _ h2']
end

mutual
theorem lpS (proc:Int) : ∀ (t:S) {nest m:Int} (up nx lp:Int) (n:Nat),q7x nest n t=some m -> ∀ it∈itS proc up nx lp n t,(it.up=up∧it.loop=lp) ∨ ∃ iu∈itS proc up nx lp n t,iu.s.id=it.up∧iu.s.id<it.s.id∧it.loop=if iu.s.kind=6 then iu.s.id else iu.loop
 | .mk id kind labels name pr x has args thn els,nest,m,up,nx,lp,n,h,it,hi=>by
   obtain ⟨_,hid,m1,h3,h4⟩:=ZP h;have hid:id=(n:Int)+1:=hid;have hm1:=ZC _ _ thn h3;have h3':ZB (nest+1) ((n+1:Nat):Int) thn=some m1:=by rw [<- h3];rfl
   have h4':ZB (nest+1) ((n+1+QV thn:Nat):Int) els=some m:=by
    rw [<- h4,hm1];congr 1
   rw [itS] at hi ⊢;rcases List.mem_cons.1 hi with rfl|hi
   ·exact .inl ⟨rfl,rfl⟩
   rcases List.mem_append.1 hi with hi|hi
   ·have hr:=w0k h3' hi;rcases lpL proc thn _ _ _ (n+1) h3' it hi with ⟨h5,h6⟩|⟨iu,h5,h6⟩
    ·refine .inr ⟨_,mem_cons_self,?_,?_,?_⟩
     ·rw [h5];exact hid
     ·show id<_;omega
     ·rw [h6];show (if kind=6 then (n:Int)+1 else lp)=if kind=6 then id else lp;rw [hid]
    ·exact .inr ⟨iu,mem_cons_of_mem _ (List.mem_append.2 (.inl h5)),h6⟩
   ·have hr:=w0k h4' hi;rcases lpL proc els _ _ _ (n+1+QV thn) h4' it hi with ⟨h5,h6⟩|⟨iu,h5,h6⟩
    ·refine .inr ⟨_,mem_cons_self,?_,?_,?_⟩
     ·rw [h5];exact hid
     ·show id<_;omega
     ·rw [h6];show (if kind=6 then (n:Int)+1 else lp)=if kind=6 then id else lp;rw [hid]
    ·exact .inr ⟨iu,mem_cons_of_mem _ (List.mem_append.2 (.inr h5)),h6⟩
theorem lpL (proc:Int) : ∀ (l:List S) {nest m:Int} (up nx lp:Int) (n:Nat),ZB nest n l=some m -> ∀ it∈itL proc up nx lp n l,(it.up=up∧it.loop=lp) ∨ ∃ iu∈itL proc up nx lp n l,iu.s.id=it.up∧iu.s.id<it.s.id∧it.loop=if iu.s.kind=6 then iu.s.id else iu.loop
 | [],nest,m,up,nx,lp,n,h,it,hi=>by rw [itL] at hi;cases hi
 | t::r,nest,m,up,nx,lp,n,h,it,hi=>by
   obtain ⟨_,m1,h1,h2⟩:=XS h;have hm1:=JY _ _ t h1;have h2':ZB nest ((n+ZV t:Nat):Int) r=some m:=by rw [<- h2,hm1];rfl
   rw [itL] at hi ⊢;rcases List.mem_append.1 hi with hi|hi
   ·rcases lpS proc t up _ lp n h1 it hi with h5|⟨iu,h5,h6⟩
    ·exact .inl h5
    ·exact .inr ⟨iu,List.mem_append.2 (.inl h5),h6⟩
   ·rcases lpL proc r up nx lp (n+ZV t) h2' it hi with h5|⟨iu,h5,h6⟩
    ·exact .inl h5
    ·exact .inr ⟨iu,List.mem_append.2 (.inr h5),h6⟩
end
section
variable {p:Pg} {j:Nat} {f:Pr}
theorem q1x (h:VB p=true) (hj:p.procs[j]? = some f):(flatU f).map (fun x=>x.s.id)=YR (QR p.procs j) (QV f.body):=by
 obtain ⟨m,hr⟩:=MO h hj;rw [<- JW 1 f.body hr];have:=NA 1 0 false f.body;rw [<- this,List.map_map];rfl
theorem z6o (h:VB p=true) (hj:p.procs[j]? = some f):((flatU f).map fun x=>x.s.id).Nodup:=by
 rw [q1x h hj];exact HR _ _
theorem x4c {t:S} (ht:t∈flL f.body) : ∃ x∈flatU f,x.s=t:=by
 rw [<- show (flatU f).map RI.s=flL f.body from NA 1 0 false f.body] at ht;exact List.mem_map.1 ht
theorem x9d (h:VB p=true) (hj:p.procs[j]? = some f) : ∀ x∈flatU f,∀ b,((flatU f).filter (inI x.s.id b)).map (fun y=>y.s.id)=(bif b then x.s.els else x.s.thn).map S.id:=fun x hx b=>by
 obtain ⟨m,hr⟩:=MO h hj;refine w5y 1 0 false f.body hr (by omega) x.s ?_ b;rw [<- NA 1 0 false f.body];exact List.mem_map.2 ⟨x,hx,rfl⟩
theorem x2j (h:VB p=true) (hj:p.procs[j]? = some f):((flatU f).filter (inI 0 false)).map (fun y=>y.s.id)=f.body.map S.id:=by
 obtain ⟨m,hr⟩:=MO h hj;exact w6a 1 0 false f.body hr (by omega)
theorem x5h (h:VB p=true) (hj:p.procs[j]? = some f) {it:Item} (hi:it∈itsOf p j f):BehP (flatU f) it.s.id it.next:=by
 obtain ⟨m,hr⟩:=MO h hj;exact v2r (z6o h hj) (x9d h hj) (j:Nat) 1 0 false f.body (-1) 0 (QR p.procs j) [] hr (fun x hx=>hx) (by rw [x2j h hj];rfl) (.inl ⟨rfl,rfl⟩) it hi
theorem x7s {l:List RI} {q:RI->Bool}:((l.find? q).map fun y=>y.s.id)=((l.filter q).map fun y=>y.s.id).head? := by
 rw [List.head?_map,List.head?_filter]
theorem x1h (l:List S) (o:Int):((l.map S.id).head?).getD o=q6v l o:=by
 cases l<;>rfl
theorem q4g (h:VB p=true) (hj:p.procs[j]? = some f) {t:S} (ht:t∈flL f.body) (b:Bool) (o:Int):w8a (flatU f) t.id b o=q6v (bif b then t.els else t.thn) o:=by
 obtain ⟨x,hx,rfl⟩:=x4c ht;unfold w8a;rw [x7s,x9d h hj x hx b,x1h]
theorem z1d (h:VB p=true) (hj:p.procs[j]? = some f) (o:Int):w8a (flatU f) 0 false o=q6v f.body o:=by
 unfold w8a;rw [x7s,x2j h hj,x1h]
theorem x0h (h:VB p=true) (hj:p.procs[j]? = some f) {it:Item} (hi:it∈itsOf p j f):z0h (flatU f).reverse it.s.id=(it.loop,decide (it.loop≠0)):=by
 obtain ⟨m,hr⟩:=MO h hj;have hpar:=v1o (j:Nat) 1 0 false f.body (-1) 0 (QR p.procs j) hr;have hids:=q1x h hj;have hlp:=fun it hi=>lpL (j:Nat) f.body 0 (-1) 0 (QR p.procs j) hr it hi;have hib:=fun it (hi:it∈itsOf p j f)=>YT h hj (LO hi);have hinj:=fun a (ha:a∈itsOf p j f) b (hb:b∈itsOf p j f) he=>w8q h hj ha hb he;have e1:itL (j:Nat) 0 (-1) 0 (QR p.procs j) f.body=itsOf p j f:=rfl;have e2:fuL 1 0 false f.body=flatU f:=rfl;rw [e1] at hpar hlp;rw [e2] at hpar;have hlen:(itsOf p j f).length=(flatU f).length:=by simpa using congrArg List.length hpar
 have at_ : ∀ (k:Nat) (hk:k<(flatU f).length),((itsOf p j f)[k]'(by omega)).s=(flatU f)[k].s∧((itsOf p j f)[k]'(by omega)).up=(flatU f)[k].inn:=fun k hk=>by
  have h1:=congrArg (fun l=>l[k]?) hpar;simp only [List.getElem?_map,List.getElem?_eq_getElem hk,List.getElem?_eq_getElem (show k<(itsOf p j f).length by omega),Option.map_some] at h1;have h2:=Option.some.inj h1;exact ⟨congrArg Prod.fst h2,congrArg Prod.snd h2⟩
 have idk : ∀ (k:Nat) (hk:k<(flatU f).length),(flatU f)[k].s.id=(QR p.procs j:Int)+1+k:=fun k hk=>by
  have h1:=congrArg (fun l=>l[k]?) hids;have hk2:k<QV f.body:=by have:=ZR 1 0 false f.body;rw [e2] at this;omega
  unfold YR at h1;simp only [List.getElem?_map,List.getElem?_eq_getElem hk,Option.map_some,List.getElem?_range' hk2] at h1;have:=Option.some.inj h1;omega
 have key : ∀ (k:Nat) (hk:k<(flatU f).length),GD ((flatU f).take k).reverse (flatU f)[k].inn=(((itsOf p j f)[k]'(by omega)).loop,decide (((itsOf p j f)[k]'(by omega)).loop≠0)):=fun k=>by
  induction k using Nat.strongRecOn with
  | _ k ih =>
    intro hk;obtain ⟨a1,a2⟩:=at_ k hk;have hki:=idk k hk;rcases hlp _ (List.getElem_mem (show k<(itsOf p j f).length by omega)) with ⟨h5,h6⟩|⟨iu,h5,h6,h7,h8⟩
    ·rw [<- a2,h5,h6,z7p];rfl
    ·obtain ⟨q,hq,rfl⟩:=List.mem_iff_getElem.1 h5;obtain ⟨b1,b2⟩:=at_ q (by omega);have hqi:=idk q (by omega);rw [a1] at h7;rw [b1] at h6 h7;have hqk:q<k:=by omega
     have htk:(flatU f).take k=(flatU f).take q++(flatU f)[q]::((flatU f).take k).drop (q+1):=by
      have h9:((flatU f).take k).take q++((flatU f).take k).drop q=(flatU f).take k:=List.take_append_drop q _;rw [List.take_take,Nat.min_eq_left (by omega),List.drop_eq_getElem_cons (by rw [length_take];omega),List.getElem_take] at h9;exact h9.symm
     have hi0:(flatU f)[k].inn≠0:=by rw [<- a2,<- h6];omega
     have hrev:((flatU f).take k).reverse=(((flatU f).take k).drop (q+1)).reverse++(flatU f)[q]::((flatU f).take q).reverse:=by
      rw [htk];have:((flatU f).take q++(flatU f)[q]::((flatU f).take k).drop (q+1)).drop (q+1)=((flatU f).take k).drop (q+1):=by rw [<- htk]
      rw [this,List.reverse_append,List.reverse_cons,List.append_assoc];rfl
     rw [hrev,x1a _ _ hi0 (fun x hx=>by
      obtain ⟨z,hz,rfl⟩:=List.mem_iff_getElem.1 (List.mem_reverse.1 hx);rw [List.length_drop,length_take] at hz;rw [List.getElem_drop,List.getElem_take,idk _ (by omega),<- a2,<- h6];omega)]
     rw [GD,if_neg hi0,if_pos (by rw [<- a2,<- h6])];rw [h8,b1];split
     ·rename_i hk6;rw [<- a2,<- h6,decide_eq_true (by omega)]
     ·exact ih q hqk (by omega)
 obtain ⟨k,hk,rfl⟩:=List.mem_iff_getElem.1 hi;have hkU:k<(flatU f).length:=by omega
 obtain ⟨a1,a2⟩:=at_ k hkU;have scan : ∀ (n:Nat),n<=(flatU f).length->z0h ((flatU f).take n).reverse (flatU f)[k].s.id=if k<n then (((itsOf p j f)[k]'(by omega)).loop,decide (((itsOf p j f)[k]'(by omega)).loop≠0)) else (0,false):=fun n=>by
  induction n with
  | zero=>intro _;rfl
  | succ n ih =>
    intro hn;rw [x7i (show n<(flatU f).length by omega),ih (by omega)];have hki:=idk k hkU;have hni:=idk n (by omega);by_cases he:n=k
    ·subst he;rw [if_pos rfl,key n hkU,if_neg (Nat.lt_irrefl n),if_pos (Nat.lt_succ_self n)];by_cases h0:((itsOf p j f)[n]'(by omega)).loop=0
     ·rw [h0];rfl
     ·rw [decide_eq_true h0,if_pos rfl]
    ·rw [if_neg (show ¬(flatU f)[n].s.id=(flatU f)[k].s.id by omega)];by_cases hlt:k<n
     ·rw [if_pos hlt,if_pos (show k<n+1 by omega)]
     ·rw [if_neg hlt,if_neg (show ¬k<n+1 by omega)]
 have:=scan (flatU f).length (Nat.le_refl _);rw [take_length,if_pos hkU] at this;rw [a1];exact this
end
theorem q6c {α:Type} {R:α->α->Prop} (irr : ∀ a,¬R a a) (tr : ∀ a b c,R a b->R b c->R a c) : ∀ {l m:List α},l.Pairwise R->m.Pairwise R->(∀ s,s∈l↔s∈m)->l=m
 | [],[],_,_,_=>rfl
 | [],b::m,_,_,h=>by have:=(h b).2 mem_cons_self;cases this
 | a::l,[],_,_,h=>by have:=(h a).1 mem_cons_self;cases this
 | a::l,b::m,hl,hm,h=>by
   rw [List.pairwise_cons] at hl hm;have hab:a=b:=by
    rcases List.mem_cons.1 ((h a).1 mem_cons_self) with h1|h1
    ·exact h1
    rcases List.mem_cons.1 ((h b).2 mem_cons_self) with h2|h2
    ·exact h2.symm
    exact absurd (tr _ _ _ (hl.1 b h2) (hm.1 a h1)) (irr a)
   subst hab;rw [q6c irr tr hl.2 hm.2 fun s => ?_];constructor
   ·intro hs;rcases List.mem_cons.1 ((h s).1 (mem_cons_of_mem _ hs)) with rfl|h1
    ·exact absurd (hl.1 s hs) (irr s)
    ·exact h1
   ·intro hs;rcases List.mem_cons.1 ((h s).2 (mem_cons_of_mem _ hs)) with rfl|h1
    ·exact absurd (hm.1 s hs) (irr s)
    ·exact h1
theorem z5f : ∀ (x y:List UInt8),Op.bytesLess x y=decide (x<y)
 | [],[]=>by simp [Op.bytesLess]
 | _::_,[]=>by simp [Op.bytesLess]
 | [],_::_=>by simp [Op.bytesLess]
 | a::x,b::y=>by
   rw [Op.bytesLess,z5f x y];simp only [List.cons_lt_cons_iff];by_cases h1:a<b<;>by_cases h2:a=b<;>by_cases h3:x<y<;>simp [h1,h2,h3]
def ltT (a b:Str):Prop:=Op.bytesLess a b=true
theorem BV {a b:Str}:ltT a b↔a<b:=by
 unfold ltT;rw [z5f,decide_eq_true_eq]
theorem ltT.irr (a:Str) : ¬ltT a a:=fun h=>List.lt_irrefl a (BV.1 h)
theorem ltT.trans (a b c:Str) (h1:ltT a b) (h2:ltT b c):ltT a c:=BV.2 (List.lt_trans (BV.1 h1) (BV.1 h2))
theorem ltT.total {a b:Str} (h:a≠b):ltT a b∨ltT b a:=by
 by_cases h1:a<b
 ·exact .inl (BV.2 h1)
 ·rcases List.le_iff_lt_or_eq.1 (List.not_lt.1 h1) with h2|h2
  ·exact .inr (BV.2 h2)
  ·exact absurd h2.symm h
theorem z5z (l:List Str):(YL l).Pairwise fun a b=>a<=b:=by
 have:=List.pairwise_mergeSort (le:=fun x y:Str=>decide (x<=y)) (fun a b c h1 h2=>by
  rw [decide_eq_true_eq] at h1 h2 ⊢;exact List.le_trans h1 h2) (fun a b=>by
  rcases List.le_total a b with h|h
  ·rw [decide_eq_true h];rfl
  ·rw [decide_eq_true h];exact Bool.or_true _) l
 exact this.imp fun h=>by simpa using h
theorem x8v {l:List Str} (h:l.Pairwise fun a b=>a<=b):(Go.Lib.compact l).Pairwise ltT:=by
 unfold Go.Lib.compact Go.Lib.compactUpTo;rw [List.pairwise_map];refine (List.Pairwise.filter _ (List.pairwise_lt_range (n:=l.length))).imp_of_mem fun {i k} hi hk hlt => ?_;obtain ⟨hi1,_⟩:=List.mem_filter.1 hi;obtain ⟨hk1,hk2⟩:=List.mem_filter.1 hk;rw [List.mem_range] at hi1 hk1;have le : ∀ (a b:Nat) (_:a<=b) (hb:b<l.length),l[a]'(by omega)<=l[b]:=fun a b hab hb=>by
  rcases Nat.lt_or_ge a b with h1|h1
  ·exact List.pairwise_iff_getElem.1 h a b (by omega) hb h1
  ·obtain rfl:a=b:=by omega
   exact List.le_refl _
 have g : ∀ (a:Nat) (ha:a<l.length),l.toArray[a]! = l[a]:=fun a ha=>by simp [ha]
 rw [g i hi1,g k hk1];unfold Go.Lib.keeps at hk2;rw [decide_eq_true_eq,g k hk1,g (k-1) (by omega)] at hk2;have hne:l[k]≠l[k-1]'(by omega):=by
  rcases hk2 with h0|h0
  ·omega
  ·exact h0
 have h1:=le i (k-1) (by omega) (by omega);have h2:=le (k-1) k (by omega) hk1;rcases List.le_iff_lt_or_eq.1 h2 with h3|h3
 ·exact BV.2 (List.lt_of_le_of_lt h1 h3)
 ·exact absurd h3.symm hne
def q9b (l:List Str):List Str:=Go.Lib.compact (YL l)
theorem w0i {l:List Str} {s:Str}:s∈q9b l↔s∈l:=by unfold q9b;rw [q8q,q1k]
theorem z7h (l:List Str):(q9b l).Pairwise ltT:=x8v (z5z l)
theorem z3u {l m:List Str} (h:m.Pairwise ltT) (hm : ∀ s,s∈m↔s∈l):m=q9b l:=q6c ltT.irr ltT.trans h (z7h l) fun s=>by rw [hm,w0i]
theorem z0r {l:List Str} (h:l.Nodup):YL l=q9b l:=by
 refine z3u ?_ fun s=>q1k;have hn:(YL l).Nodup:=by
  unfold YL;exact (List.mergeSort_perm l _).nodup_iff.2 h
 refine (List.pairwise_and_iff.2 ⟨z5z l,hn⟩).imp fun ⟨h1,h2⟩ => ?_;rcases List.le_iff_lt_or_eq.1 h1 with h3|h3
 ·exact BV.2 h3
 ·exact absurd h3 h2
structure RiseI {α:Type} (R:α->α->Prop) (l out:List α) (i:Nat):Prop where
 rise:out.Pairwise R
 sub : ∀ s∈out,s∈l
 seg : ∀ s∈l,s∉out -> ∀ o∈out,R o s
 cnt:(∀ s∈l,s∈out)∨out.length=i
def LeastI {α:Type} (R:α->α->Prop) (l out:List α) (k:Nat):Option α->Prop
 | none => ∀ s∈l.take k,s∈out
 | some m=>m∈l∧m∉out ∧ ∀ s∈l.take k,s∉out->s=m∨R m s
section
variable {α:Type} {R:α->α->Prop} {l out:List α} {i k:Nat}
theorem RiseI.zero:RiseI R l [] 0:=⟨.nil,fun _ h=>(by cases h),fun _ _ _ _ h=>(by cases h),.inr rfl⟩
theorem LeastI.zero:LeastI R l out 0 none:=fun s h=>by rw [List.take_zero] at h;cases h
theorem QC {s:α} (hk:k<l.length):s∈l.take (k+1)↔s∈l.take k∨s=l[k]:=by
 rw [List.take_succ_eq_append_getElem hk,List.mem_append,List.mem_singleton]
theorem LeastI.old (hk:k<l.length) {o:Option α} (h:LeastI R l out k o) (hx:l[k]∈out):LeastI R l out (k+1) o:=by
 cases o with
 | none =>
   intro s hs;rcases (QC hk).1 hs with h1|rfl
   ·exact h s h1
   ·exact hx
 | some m =>
   refine ⟨h.1,h.2.1,fun s hs hn => ?_⟩;rcases (QC hk).1 hs with h1|rfl
   ·exact h.2.2 s h1 hn
   ·exact absurd hx hn
theorem LeastI.first (hk:k<l.length) (h:LeastI R l out k none) (hx:l[k]∉out):LeastI R l out (k+1) (some l[k]):=by
 refine ⟨List.getElem_mem hk,hx,fun s hs hn => ?_⟩;rcases (QC hk).1 hs with h1|rfl
 ·exact absurd (h s h1) hn
 ·exact .inl rfl
theorem LeastI.less (tr : ∀ a b c,R a b->R b c->R a c) (hk:k<l.length) {m:α} (h:LeastI R l out k (some m)) (hx:l[k]∉out) (hR:R l[k] m):LeastI R l out (k+1) (some l[k]):=by
 refine ⟨List.getElem_mem hk,hx,fun s hs hn => ?_⟩;rcases (QC hk).1 hs with h1|rfl
 ·rcases h.2.2 s h1 hn with rfl|h2
  ·exact .inr hR
  ·exact .inr (tr _ _ _ hR h2)
 ·exact .inl rfl
theorem LeastI.more (tot : ∀ a b,a≠b->R a b∨R b a) (hk:k<l.length) {m:α} (h:LeastI R l out k (some m)) (hR : ¬R l[k] m):LeastI R l out (k+1) (some m):=by
 refine ⟨h.1,h.2.1,fun s hs hn => ?_⟩;rcases (QC hk).1 hs with h1|rfl
 ·exact h.2.2 s h1 hn
 ·by_cases he:l[k]=m
  ·exact .inl he
  ·exact .inr ((tot _ _ he).resolve_left hR)
theorem RiseI.stay (h:RiseI R l out i) (hl:LeastI R l out l.length none):RiseI R l out (i+1):=by
 rw [LeastI,take_length] at hl;exact ⟨h.rise,h.sub,h.seg,.inl hl⟩
theorem RiseI.snoc (h:RiseI R l out i) {m:α} (hl:LeastI R l out l.length (some m)):RiseI R l (out++[m]) (i+1):=by
 obtain ⟨h1,h2,h3⟩:=hl;rw [take_length] at h3;refine ⟨?_,fun s hs => ?_,fun s hs hn o ho => ?_,?_⟩
 ·rw [List.pairwise_append];exact ⟨h.rise,List.pairwise_singleton _ _,fun a ha b hb=>by rw [List.mem_singleton.1 hb];exact h.seg m h1 h2 a ha⟩
 ·rcases List.mem_append.1 hs with h4|h4
  ·exact h.sub s h4
  ·rw [List.mem_singleton.1 h4];exact h1
 ·rw [List.mem_append,not_or,List.mem_singleton] at hn;rcases List.mem_append.1 ho with h4|h4
  ·exact h.seg s hs hn.1 o h4
  ·rw [List.mem_singleton.1 h4];exact (h3 s hs hn.1).resolve_left hn.2
 ·rcases h.cnt with h4|h4
  ·exact absurd (h4 m h1) h2
  ·exact .inr (by rw [List.length_append,h4];rfl)
theorem RiseI.nodup (irr : ∀ a,¬R a a) (h:RiseI R l out i):out.Nodup:=by
 unfold List.Nodup;refine h.rise.imp fun {a b} hR e => ?_;subst e;exact irr _ hR
theorem RiseI.all [DecidableEq α] (irr : ∀ a,¬R a a) (h:RiseI R l out i) (hi:i=l.length):out.Pairwise R ∧ ∀ s,s∈out↔s∈l:=by
 refine ⟨h.rise,fun s=>⟨h.sub s,fun hs => ?_⟩⟩;rcases h.cnt with h4|h4
 ·exact h4 s hs
 ·refine Classical.byContradiction fun hn => ?_;have hnd:(s::out).Nodup:=List.nodup_cons.2 ⟨hn,h.nodup irr⟩;have:=ZE hnd (m:=l) fun x hx=>by
   rcases List.mem_cons.1 hx with rfl|hx
   ·exact hs
   ·exact h.sub x hx
  rw [List.length_cons] at this;omega
theorem RiseI.len [DecidableEq α] (irr : ∀ a,¬R a a) (h:RiseI R l out i):out.length<=l.length:=ZE (h.nodup irr) h.sub
end
def ordP (a b:Int):Prop:=w5c a b=true
theorem FR {a b:Int}:ordP a b↔(b = -1∧a ≠ -1)∨(a ≠ -1∧b ≠ -1∧a<b):=by
 unfold ordP w5c;by_cases ha:a = -1<;>by_cases hb:b = -1<;>simp [ha,hb]
theorem ordP.irr (a:Int) : ¬ordP a a:=fun h=>by rw [FR] at h;omega
theorem ordP.trans (a b c:Int) (h1:ordP a b) (h2:ordP b c):ordP a c:=by rw [FR] at *;omega
theorem ordP.total (a b:Int) (h:a≠b):ordP a b∨ordP b a:=by rw [FR,FR];omega
theorem w0y {l m:List Int} (h1:l.Pairwise ordP) (h2:m.Pairwise ordP) (h : ∀ s,s∈l↔s∈m):l=m:=q6c ordP.irr ordP.trans h1 h2 h
end Go.Ab
