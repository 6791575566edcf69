/- graph: the parts. -/
import Derived.Test.YtmfnbgbblkhneaaGreatRchA10
import Derived.Test.YtmfnbgbblkhneaaGreatRchA14
import Derived.Test.YtmfnbgbblkhneaaGreatRchA15
set_option linter.unusedSimpArgs false
set_option linter.unusedVariables false
set_option maxRecDepth 100000
set_option maxHeartbeats 16000000
namespace Go.Ab
open Go.Proofs.Tryz
open Go.Proofs
variable {b:Int}{rows:List (List Int)}
def Ia(pre:List Bool)(rows:List (List Int)):List (List Int):=rows.map fun r=>r.filter fun b=> !pre.getD b.toNat false
theorem By{pre:List Bool}{x y:Int}:Hj (Ia pre rows) x y↔Hj rows x y/\pre.getD y.toNat false=false:=by
 unfold Hj Ia;simp only[q7h,q7l];cases rows[x.toNat]?with
 |none=>simp
 |some r=>simp
theorem Oa{n:Nat}{pre:List Bool}(h:XG n rows):XG n (Ia pre rows):=by
 refine⟨by simp[Ia,h.1],fun r hr b hb=>?_⟩;obtain⟨r',hr',rfl⟩:=q7s.1 hr;exact h.2 r' hr' b (q8t.1 hb).1
structure SimW(pre:List Bool)(st st':List Bool×List Int):Prop where
 todo:st.2=st'.2
 len:st.1.length=st'.1.length
 mrk:∀k,st.1.getD k false=(pre.getD k false||st'.1.getD k false)
theorem SimW.see{pre:List Bool}{st st':List Bool×List Int}(h:SimW pre st st')(hb:b.toNat<st.1.length)(hp:pre.getD b.toNat false=false):SimW pre (JS st b) (JS st' b):=by
 have hm:=h.mrk b.toNat;rw[hp,Bool.false_or]at hm;unfold JS;rw[hm];cases st'.1.getD b.toNat false with
 |true=>exact h
 | false=>
   refine⟨by simp only[q8b];rw[h.todo],by simpa using h.len,fun k=>?_⟩;simp only[q8b];rw[ZU hb,ZU (by rw[<-h.len];exact hb)];split
   ·simp
   ·exact h.mrk k
theorem SimW.skip{pre:List Bool}{st st':List Bool×List Int}(h:SimW pre st st')(hp:pre.getD b.toNat false=true):JS st b=st:=by
 unfold JS;rw[h.mrk,hp];rfl
theorem EG(st:List Bool×List Int)(b:Int):(JS st b).1.length=st.1.length:=by
 unfold JS;cases st.1.getD b.toNat false<;>simp
theorem SimW.fold{n:Nat}{pre:List Bool}:∀(l:List Int){st st':List Bool×List Int},SimW pre st st'->st.1.length=n->(∀b∈l,0<=b/\b<n)->SimW pre (l.foldl JS st) ((l.filter fun b=> !pre.getD b.toNat false).foldl JS st')/\(l.foldl JS st).1.length=n
 |[],_,_,h,hn,_=>⟨h,hn⟩
 | b::r,st,st',h,hn,hl=>by
   have hb:=hl b q7d;have hr:∀c∈r,0<=c/\c<n:=fun c hc=>hl c (q7n _ hc);rw[x0s];cases hp:pre.getD b.toNat false with
   | true=>
     rw[h.skip hp,x0t (by rw[hp];simp)];exact SimW.fold r h hn hr
   | false=>
     rw[x0n (by rw[hp];simp),x0s];exact SimW.fold r (h.see (by omega) hp) (by rw[EG];exact hn) hr
theorem Fo{n:Nat}{pre:List Bool}{rows:List (List Int)}(hr:XG n rows):∀(k i:Nat){st st':List Bool×List Int},SimW pre st st'->st.1.length=n->SimW pre (ZW rows k i st) (ZW (Ia pre rows) k i st')
 |0,_,_,_,h,_=>h
 | k+1,i,st,st',h,hn=>by
   rw[ZW,ZW,<-h.todo];cases ha:st.2[i]?with
   |none=>exact h
   | some a=>
     simp only;have hrow:∀b∈rows.getD a.toNat [],0<=b/\b<n:=fun b hb=>FP hr hb;have he:(Ia pre rows).getD a.toNat []=(rows.getD a.toNat []).filter fun b=> !pre.getD b.toNat false:=by
      unfold Ia;simp only[q7h,q7l];cases rows[a.toNat]?with
      |none=>simp
      |some r=>simp
     rw[he];obtain⟨h1,h2⟩:=SimW.fold (n:=n) _ h hn hrow;exact Fo hr k (i+1) h1 h2
theorem A4{n:Nat}{pre:List Bool}(hr:XG n rows)(hp:pre.length=n){r:Int}(hrr:0<=r/\r<n)(hu:pre.getD r.toNat false=false):
  (∀x,x∈(ZW rows (n+1) 0 (pre.set r.toNat true,[r])).2↔Rch (fun a b=>Hj rows a b/\pre.getD b.toNat false=false) r x)/\
  (∀x:Int,0<=x/\x<n->((ZW rows (n+1) 0 (pre.set r.toNat true,[r])).1.getD x.toNat false=true↔pre.getD x.toNat false=true\/x∈(ZW rows (n+1) 0 (pre.set r.toNat true,[r])).2)):=by
 have e0:JS (List.replicate n false,[]) r=((List.replicate n false).set r.toNat true,[r]):=by
  unfold JS;have:(List.replicate n false).getD r.toNat false=false:=by
   rw[q7h,q8l];split<;>rfl
  simp only[this,q8b,x2j]
 obtain⟨h1,h2,_⟩:=(WkM.start n).see hrr;rw[e0]at h1 h2;have hsim:SimW pre (pre.set r.toNat true,[r]) ((List.replicate n false).set r.toNat true,[r]):=⟨rfl,by simp[hp],fun k=>by
  rw[ZU (by omega),ZU (by simp;omega)];split
  ·simp
  ·have:(List.replicate n false).getD k false=false:=by
    rw[q7h,q8l];split<;>rfl
   rw[this,Bool.or_false]⟩
 have hw:=Fo hr (n+1) 0 hsim (by simpa using hp);obtain⟨h3,h4,h5,h6⟩:=Y0 (Oa (pre:=pre) hr) (n+1) 0 h1 (q7c _) (by omega) (fun m a hm=>by omega);refine⟨fun x=>?_,fun x hx=>?_⟩
 ·rw[hw.todo];constructor
  ·intro hx;exact h6 (fun x=>Rch (fun a b=>Hj rows a b/\pre.getD b.toNat false=false) r x) (fun x hx=>by rw[q7m.1 hx];exact .refl) (fun x b h7 h8=>.tail h7 (By.1 h8)) x hx
  ·intro hx;exact hx.closed (S:=fun x=>x∈(ZW (Ia pre rows) (n+1) 0 ((List.replicate n false).set r.toNat true,[r])).2) (fun x y h7 h8=>h5 x h7 y (By.2 h8)) (h4 r (by simp))
 ·rw[hw.mrk,hw.todo,h3.mem,x1b];exact⟨fun h=>h.imp id fun h=>⟨hx,h⟩,fun h=>h.imp id fun h=>h.2⟩
theorem FV{n:Nat}{a:Int}(h:0<=a/\a<n):ZG n a=true:=by
 unfold ZG;simpa using h
structure MinP(E:Int->Int->Prop)(x v:Int):Prop where
 scc:sccP E x v
 le:∀y,sccP E x y->v<=y
theorem MinP.uniq{E:Int->Int->Prop}{x v w:Int}(h:MinP E x v)(h':MinP E x w):v=w:=Int.le_antisymm (h.le w h'.scc) (h'.le v h.scc)
def Qm(n:Nat)(rows:List (List Int)):List Int:=(List.range n).map fun(a:Nat)=>F8 ((HU 0 (ZN rows [(a:Int)])).filter fun b=>(HU 0 (ZN rows [b])).contains (a:Int))
theorem EU{n:Nat}(hr:XG n rows){x y:Int}(hx:0<=x):Rch (rowE rows) x y↔Rch (Hj rows) x y:=by
 refine⟨fun h=>h.mono fun _ _ h=>h.2,fun h=>?_⟩;exact(h.closed (S:=fun y:Int=>0<=y/\Rch (rowE rows) x y) (fun a b ⟨h1,h2⟩ h3=>⟨(FP hr h3).1,.tail h2 ⟨h1,h3⟩⟩) ⟨hx,.refl⟩).2
theorem Lc{n:Nat}(hr:XG n rows){x y:Int}(hx:0<=x/\x<n)(h:Rch (rowE rows) x y):0<=y/\y<n:=
 h.closed (S:=fun y:Int=>0<=y/\y<n) (fun _ _ _ h=>FP hr h.2) hx
theorem Ny{n:Nat}(hr:XG n rows){x:Int}(hx:0<=x/\x<n)(y:Int):y∈HU 0 (ZN rows [x])↔Rch (rowE rows) x y:=by
 rw[Bn hr,EU hr hx.1];constructor
 ·rintro⟨a,ha,_,h⟩;rw[q7m.1 ha]at h;exact h
 ·intro h;exact⟨x,by simp,FV hx,h⟩
theorem FF(n:Nat)(rows:List (List Int)):(Qm n rows).length=n:=by simp[Qm]
theorem Ql{n:Nat}(hr:XG n rows){x:Int}(hx:0<=x/\x<n):MinP (rowE rows) x ((Qm n rows).getD x.toNat 0):=by
 have e:(Qm n rows).getD x.toNat 0=F8 ((HU 0 (ZN rows [x])).filter fun b=>(HU 0 (ZN rows [b])).contains x):=by
  unfold Qm;rw[q7h,q7l,x1t (by omega)];have:((x.toNat:Nat):Int)=x:=by omega
  simp[this]
 have hm:∀y,y∈(HU 0 (ZN rows [x])).filter (fun b=>(HU 0 (ZN rows [b])).contains x)↔sccP (rowE rows) x y:=fun y=>by
  rw[q8t,Ny hr hx,List.contains_iff_mem];constructor
  ·rintro⟨h1,h2⟩;exact⟨h1,(Ny hr (Lc hr hx h1) x).1 h2⟩
  ·rintro⟨h1,h2⟩;exact⟨h1,(Ny hr (Lc hr hx h1) x).2 h2⟩
 rw[e];obtain⟨h1,h2⟩:=Bq (l:=(HU 0 (ZN rows [x])).filter fun b=>(HU 0 (ZN rows [b])).contains x) (x3f ((hm x).2 (sccP.refl x)));exact⟨(hm _).1 h1,fun y hy=>h2 y ((hm y).2 hy)⟩
structure PartI(n:Nat)(E:Int->Int->Prop)(es:List Int)(m:Nat)(part:List Int)(seen:List Bool):Prop where
 sl:seen.length=n
 pl:part.length=n
 seen:∀x:Int,0<=x/\x<n->(seen.getD x.toNat false=true↔SeenP E es m x)
 min:∀x:Int,0<=x/\x<n->SeenP E es m x->MinP E x (part.getD x.toNat 0)
theorem PartI.start{n:Nat}{E:Int->Int->Prop}{es:List Int}:PartI n E es es.length (List.replicate n 0) (List.replicate n false):=by
 have hno:∀x,¬SeenP E es es.length x:=fun x ⟨j,y,h1,h2,_⟩=>by
  have:=(q7t.1 h2).1;omega
 refine⟨by simp,by simp,fun x _=>?_,fun x _ hx=>absurd hx (hno x)⟩;rw[q7h,q8l];have:=hno x;split<;>simp[this]
def VE(l:List Int)(v:Int)(part:List Int):List Int:=l.foldl (fun p a=>p.set a.toNat v) part
theorem PP(v:Int):∀(l part:List Int),(VE l v part).length=part.length
 |[],_=>rfl
 | a::r,part=>by
   show(VE r v (part.set a.toNat v)).length=_;rw[PP v r];simp
theorem Uf{n:Nat}(v:Int){x:Int}(hx:0<=x/\x<n):∀(l:List Int){part:List Int},part.length=n->(∀a∈l,0<=a/\a<n)->(x∈l->(VE l v part).getD x.toNat 0=v)/\(x∉l->(VE l v part).getD x.toNat 0=part.getD x.toNat 0)
 |[],_,_,_=>⟨by simp,fun _=>rfl⟩
 | a::r,part,hl,ha=>by
   have ha0:=ha a q7d;have e:VE (a::r) v part=VE r v (part.set a.toNat v):=rfl;obtain⟨h1,h2⟩:=Uf v hx r (part:=part.set a.toNat v) (by simpa using hl) fun b hb=>ha b (q7n _ hb);have hg:(part.set a.toNat v).getD x.toNat 0=if a.toNat=x.toNat then v else part.getD x.toNat 0:=ZU (by omega);rw[e];by_cases hxr:x∈r
   ·exact⟨fun _=>h1 hxr,fun h=>absurd (q7n _ hxr) h⟩
   ·rw[h2 hxr,hg];constructor
    ·intro h;rcases q7r.1 h with rfl|h
     ·rw[if_pos rfl]
     ·exact absurd h hxr
    ·intro h;have:x≠a:=fun h'=>h (by rw[h'];exact q7d);rw[if_neg (by omega)]
theorem PartI.part{n:Nat}{g:List (List Int)×List (List Int)}(hg:XG n g.1)(hg2:XG n g.2)(hm:∀x y,rowE g.2 x y↔rowE g.1 y x){es:List Int}(he:EndsP n (rowE g.1) es){m:Nat}{part:List Int}{seen:List Bool}(h:PartI n (rowE g.1) es (m+1) part seen){r:Int}(hr:es[m]?=some r)(hu:seen.getD r.toNat false=false):
  (∀x∈(ZW g.2 (n+1) 0 (seen.set r.toNat true,[r])).2,0<=x/\x<n)/\0<(ZW g.2 (n+1) 0 (seen.set r.toNat true,[r])).2.length/\wkInv n (seen.set r.toNat true,[r])/\
  PartI n (rowE g.1) es m (VE (ZW g.2 (n+1) 0 (seen.set r.toNat true,[r])).2 (F8 (ZW g.2 (n+1) 0 (seen.set r.toNat true,[r])).2) part) (ZW g.2 (n+1) 0 (seen.set r.toNat true,[r])).1:=by
 have hrr:=(he.mem r).1 (q8u hr);have hsl:=h.sl;have hns:¬SeenP (rowE g.1) es (m+1) r:=fun hs=>by rw[(h.seen r hrr).2 hs]at hu;cases hu
 obtain⟨h1,h2⟩:=A4 hg2 h.sl hrr hu;have hin:∀x y,rowE g.1 x y->(0<=x/\x<n)/\0<=y/\y<n:=fun x y hxy=>⟨FP hg2 ((hm y x).2 hxy).2,FP hg hxy.2⟩;have hback:=TN hin he hr hns;have hrel:∀x,Rch (fun a b=>Hj g.2 a b/\seen.getD b.toNat false=false) r x↔Rch (fun a b=>rowE g.1 b a/\¬SeenP (rowE g.1) es (m+1) b) r x:=fun x=>by
  constructor
  ·intro hx;exact(hx.closed (S:=fun x:Int=>(0<=x/\x<n)/\Rch (fun a b=>rowE g.1 b a/\¬SeenP (rowE g.1) es (m+1) b) r x) (fun a b ⟨h3,h4⟩ ⟨h5,h6⟩=>by
    have hb:=FP hg2 h5;refine⟨hb,.tail h4 ⟨(hm a b).1 ⟨h3.1,h5⟩,fun hs=>?_⟩⟩;rw[(h.seen b hb).2 hs]at h6;cases h6) ⟨hrr,.refl⟩).2
  ·intro hx;refine hx.mono fun a b ⟨h3,h4⟩=>⟨((hm a b).2 h3).2,?_⟩;have hb:=(hin b a h3).1;cases hq:seen.getD b.toNat false with
   |true=>exact absurd ((h.seen b hb).1 hq) h4
   |false=>rfl
 have hmem:∀x,x∈(ZW g.2 (n+1) 0 (seen.set r.toNat true,[r])).2↔sccP (rowE g.1) r x:=fun x=>by rw[h1,hrel,hback]
 have hrng:∀x∈(ZW g.2 (n+1) 0 (seen.set r.toNat true,[r])).2,0<=x/\x<n:=fun x hx=>Lc hg hrr ((hmem x).1 hx).1;have hpos:0<(ZW g.2 (n+1) 0 (seen.set r.toNat true,[r])).2.length:=x3f ((hmem r).2 (sccP.refl r));have hwk:wkInv n (seen.set r.toNat true,[r]):=by
  refine⟨by simpa using h.sl,?_,fun x hx=>by rw[q7m.1 hx];exact hrr⟩;have hlt:r.toNat<(seen.set r.toNat true).length:=by simp;omega
  show 1<=_;exact List.count_pos_iff.2 (x0w.2 ⟨r.toNat,hlt,by simp⟩)
 have hwl:(ZW g.2 (n+1) 0 (seen.set r.toNat true,[r])).1.length=n:=(FC hg2 _ _ hwk).1;generalize ZW g.2 (n+1) 0 (seen.set r.toNat true,[r])=w at hmem hrng hpos hwl h2⊢;obtain⟨h7,h8⟩:=Bq hpos;refine⟨hrng,hpos,hwk,hwl,by rw[PP];exact h.pl,fun x hx=>?_,fun x hx hs=>?_⟩
 ·rw[h2 x hx,hmem,h.seen x hx,Ba hr]
 ·obtain⟨h3,h4⟩:=Uf (F8 w.2) hx w.2 h.pl hrng;by_cases hxw:x∈w.2
  ·rw[h3 hxw];have hsx:=(hmem x).1 hxw;exact⟨hsx.symm.trans ((hmem _).1 h7),fun y hy=>h8 y ((hmem y).2 (hsx.trans hy))⟩
  ·rw[h4 hxw];refine h.min x hx ?_;rcases(Ba hr x).1 hs with h5|h5
   ·exact h5
   ·exact absurd ((hmem x).2 h5) hxw
theorem PartI.fin{n:Nat}(hr:XG n rows){es:List Int}(he:EndsP n (rowE rows) es){part:List Int}{seen:List Bool}(h:PartI n (rowE rows) es 0 part seen):part=Qm n rows:=by
 refine List.ext_getElem? fun i=>?_;rcases q7e i n with hi|hi
 ·have hx:0<=(i:Int)/\(i:Int)<n:=by omega
  have h1:=h.min i hx (EH he hx);have h2:=Ql hr hx;have h3:=h1.uniq h2;have hp1:i<part.length:=by rw[h.pl];exact hi
  have hp2:i<(Qm n rows).length:=by rw[FF];exact hi
  simpa[q7h,hp1,hp2]using h3
 ·rw[q9i (by rw[h.pl];exact hi),q9i (by rw[FF];exact hi)]
theorem Qv(n:Nat)(hn:n<=5000)(g:List (List Int)×List (List Int))(hg:XG n g.1)(hg2:XG n g.2)(hgm:∀x y,rowE g.2 x y↔rowE g.1 y x):SpecP prog 235 [VQ g] (fun r=>r=QA (Qm n g.1)):=by
 refine sB BP func235 rfl call235 ?_;conv=>whnf
 have hl:((avI g.1).map AV.sl).length=n:=by simp[avI,hg.1]
 repeat' ((first|(refine iM fun _=>?_)|refine aR ?_|refine wI ?_|refine x2m n (by rw[hl]) (by show 1*n<=140737488355328;omega) (by unfold maxLen;omega) ?_|refine x2m n (by rw[hl]) (by show 8*n<=140737488355328;omega) (by unfold maxLen;omega) ?_|(refine CallK.pure (Zy n hn g hg) (.cons (Sub.refl _) .nil) ?_;rintro _ ⟨es,rfl,he⟩));conv=>whnf)
 have hesl:es.length<=n:=by
  have h1:=he.nd;exact Hy h1 fun x hx=>(he.mem x).1 hx
 have hml:(es.map (AV.int .i64)).length=es.length:=q7f _;refine LoopK.inv QK (fun x:Nat×List Int×List Bool=>⟨[(0,.p (VQ g)),(3,.hd 0 0 n),(4,.hd 1 0 n),(5,.p (QA es)),(6,.p (.int .i64 ((x.1:Int)-1)))],[(0,.own 3 1 (x.2.1.map (.int .i64))),(1,.own 4 1 (x.2.2.map bv))]⟩)
  (fun x=>x.1<=es.length/\PartI n (rowE g.1) es x.1 x.2.1 x.2.2) (fun x=>x.1) (es.length,List.replicate n 0,List.replicate n false)
  (Le.mk [] (by simp) (by simp) (by simp) (.r (.cons (.of_eq rfl) (.cons (.of_eq rfl) (.r (.cons (.of_eq (by rw[hml];rfl)) .nil)))))
    (.cons rfl (.of_eq (by rw[x0l];rfl)) (.cons rfl (.of_eq (by rw[x0l];rfl)) .nil)))
  ⟨q8z _,PartI.start⟩ ?_
 rintro⟨m,part,seen⟩ ⟨h1,h2⟩;simp only at h1 h2⊢;have hsl:=h2.sl;have hpl:=h2.pl;cases m with
 | zero=>
   conv=>whnf
   repeat' (apply bD<;>intro _<;>first|omega|conv=>whnf)
   exact⟨_,.hd rfl (by simp[hpl]),by rw[h2.fin hg he];rfl⟩
 | succ m=>
   obtain⟨r,hr⟩ : ∃r,es[m]?=some r:=⟨_,q7g (by omega)⟩;have hrr:=(he.mem r).1 (q8u hr);have hre:es[m]=r:=by rw[q7g (by omega)]at hr;exact x0m hr
   have hra:(es.map (AV.int .i64))[m]?=some (.int .i64 r):=by rw[q7l,hr];rfl
   have e1:=Iq (l:=seen) (i:=r.toNat) (by omega);cases hq:seen.getD r.toNat false with
   | true=>
     rw[hq]at e1;have hsk:=Ck hr ((h2.seen r hrr).1 hq);conv=>whnf
     repeat' (first|((first|refine q7p rfl ?_|refine wI ?_|(refine IdxK.at (k:=m) (by omega) hra rfl ?_)|refine q9x r.toNat (by omega) (by omega) ?_|refine q9t r.toNat 0 .tt (by omega) e1 ?_);conv=>whnf)|(apply bD<;>intro _<;>first|omega|conv=>whnf))
     exact⟨(m,part,seen),⟨by simp only;omega,h2.sl,h2.pl,fun x hx=>by rw[h2.seen x hx,hsk],fun x hx hs=>h2.min x hx ((hsk x).1 hs)⟩,Nat.lt_succ_self m,Le.of_eq (by rw[show((m+1:Nat):Int)-1-1=(m:Int)-1 by omega])⟩
   | false=>
     rw[hq]at e1;obtain⟨h3,h4,h5,h6⟩:=h2.part hg hg2 hgm he hr hq;conv=>whnf
     repeat' (first|((first|refine dA ?_|refine q7p rfl ?_|refine aD ?_|(refine IdxK.at (k:=m) (by omega) hra rfl ?_)|refine q9x r.toNat (by omega) (by omega) ?_|refine q9t r.toNat 0 .ff (by omega) e1 ?_|refine x0r r.toNat 0 .ff .tt (by omega) e1 (q8z 1) rfl ?_|refine x3e (fun x hx=>by rcases q7m.1 hx with rfl;rfl) rfl ?_);conv=>whnf)|(apply bD<;>intro _<;>first|omega|conv=>whnf))
     have hwl:(ZW g.2 (n+1) 0 (seen.set r.toNat true,[r])).1.length=n:=h6.sl;rw[show(seen.map bv).set r.toNat AV.tt=(seen.set r.toNat true).map bv by rw[q9k];rfl];refine CallK.heap [(1000,1),(2000,2)] 0 (q8w (q8k _) (q8w (q8k _) (q8w (q8k _) q8c))) (by refine q8x (j:=1) rfl rfl ?_ ?_;exact CSub.refl _;refine q8x (j:=2) rfl rfl ?_ ?_;exact CSub.refl _;exact q8a) (Jg n hn g.2 hg2 (seen.set r.toNat true,[r]) h5) rfl rfl ?_;rintro l' H' ⟨rfl,rfl⟩;conv=>whnf
     have hwn:(ZW g.2 (n+1) 0 (seen.set r.toNat true,[r])).2.length<=n:=FA (FC hg2 _ _ h5);generalize ZW g.2 (n+1) 0 (seen.set r.toNat true,[r])=w at h3 h4 h6 hwl hwn⊢;repeat' ((first|(refine iM fun _=>?_)|(refine XU (PN w.2 h4) (.cons (.hd rfl (by simp)) .nil) (by rintro _ rfl;rfl) ?_;rintro _ rfl));conv=>whnf)
     refine LoopK.inv QK (fun x:Nat=>⟨[(0,.p (VQ g)),(3,.hd 0 0 n),(4,.hd 1 0 n),(5,.p (QA es)),(6,.p (.int .i64 (((m+1:Nat):Int)-1))),(8,.p (.int .i64 (F8 w.2))),(60,.hd 2 0 w.2.length),(61,.p (.int .i64 w.2.length)),(62,.p (.int .i64 x))],[(1,.own 4 1 (w.1.map bv)),(2,.own 3 1 (w.2.map (.int .i64))),(0,.own 3 1 ((VE (w.2.take x) (F8 w.2) part).map (.int .i64)))]⟩)
      (fun x=>x<=w.2.length) (fun x=>w.2.length-x) 0 (Le.of_eq rfl) (q7c _) ?_
     intro q hqw;rcases q7e q w.2.length with hq2|hq2
     ·have hwr:=h3 _ (q7i hq2);have e4:=B3 (l:=VE (w.2.take q) (F8 w.2) part) (i:=w.2[q].toNat) (by rw[PP];omega);have e5:VE (w.2.take (q+1)) (F8 w.2) part=(VE (w.2.take q) (F8 w.2) part).set w.2[q].toNat (F8 w.2):=by
       unfold VE;rw[q8q hq2,x2i];rfl
      generalize VE (w.2.take q) (F8 w.2) part=pt at e4 e5⊢;conv=>whnf
      repeat' (first|((first|refine q7p rfl ?_|refine wI ?_|refine q9x q (by omega) (by omega) ?_|refine q9t q 0 (.int .i64 w.2[q]) (by omega) (by simp[hq2]) ?_|refine q9x w.2[q].toNat (by omega) (by omega) ?_|refine x0r w.2[q].toNat 0 (.int .i64 (pt.getD w.2[q].toNat 0)) (.int .i64 (F8 w.2)) (by omega) e4 (q8z 1) rfl ?_);conv=>whnf)|(apply bD<;>intro _<;>first|omega|conv=>whnf))
      exact⟨q+1,hq2,by omega,Le.of_eq (by rw[e5,q9k];rfl)⟩
     ·rw[q8y hq2];conv=>whnf
      repeat' (first|(refine wI ?_;conv=>whnf)|(apply bD<;>intro _<;>first|omega|conv=>whnf))
      exact⟨(m,VE w.2 (F8 w.2) part,w.1),⟨by simp only;omega,h6⟩,Nat.lt_succ_self m,Le.mk [] (by simp) (by simp) (by simp) (.r (.r (.r (.r (.cons (.of_eq (by rw[show(m:Int)=((m+1:Nat):Int)-1 by omega];rfl)) .nil))))) (.cons rfl (.refl _) (.cons rfl (.refl _) .nil))⟩
theorem OpK.frz{P:Program}{T:Tab}{N:Nat}{o:Oper}{K:St->Prop}{s:St}(hT:TabOK P T)(gs:List (List Nat))(h:q2i gs s fun s'=>opW P T N s' o K):OpK P N s o K:=⟨fun σ β a w hr Q=>by
 obtain⟨s1,h1,hle⟩:=Vx (N:=N) h;obtain⟨σ1,β1,hr1,hl1⟩:=hle σ β a w hr;exact Oper.wp_mono (fun a' w' ⟨σ',β',s2,hK,hr',hl⟩=>⟨σ',β',s2,hK,hr',hl1.trans hl⟩) (Uz hT h1 hr1 Q)⟩
theorem Lr{N:List (List Int)}{a:Nat}(ha:a<N.length){y:Int}{k:Nat}:y∈(Ji N a b).getD k []↔y∈N.getD k []\/(a=k/\y=b):=by
 unfold Ji;rw[ZU ha];split
 ·rename_i h;rw[L0,h];simp
 ·rename_i h;simp[h]
theorem TK{n:Nat}{g:List (List Int)×List (List Int)}(hl:g.2.length=n)(e:Int×Int):(F4 n g e).2.length=n:=by
 rw[Ys];cases(ZG n e.1&&ZG n e.2 && !(g.1.getD e.1.toNat []).contains e.2)with
 |true=>rw[q8g];unfold Ji;rw[x0d];exact hl
 |false=>exact hl
structure MirG(n:Nat)(g:List (List Int)×List (List Int)):Prop where
 l1:g.1.length=n
 l2:g.2.length=n
 m:∀x y:Int,0<=x/\x<n->0<=y/\y<n->(y∈g.1.getD x.toNat []↔x∈g.2.getD y.toNat [])
theorem MirG.add{n:Nat}{g:List (List Int)×List (List Int)}(h:MirG n g)(e:Int×Int):MirG n (F4 n g e):=by
 refine⟨M7 h.l1 e,TK h.l2 e,fun x y hx hy=>?_⟩;rw[Wf,Ys];cases hc:(ZG n e.1&&ZG n e.2 && !(g.1.getD e.1.toNat []).contains e.2)with
 | true=>
   simp only[q8j]at hc;have h1:=XI hc.1.1;have h2:=XI hc.1.2;rw[q8g,q8g,Lr (by rw[h.l1];omega),Lr (by rw[h.l2];omega),h.m x y hx hy];constructor
   ·rintro(h3|⟨h3,h4⟩)
    ·exact .inl h3
    ·exact .inr ⟨by omega,by omega⟩
   ·rintro(h3|⟨h3,h4⟩)
    ·exact .inl h3
    ·exact .inr ⟨by omega,by omega⟩
 |false=>exact h.m x y hx hy
theorem MirG.fold{n:Nat}:∀(l:List (Int×Int)){g:List (List Int)×List (List Int)},MirG n g->MirG n (l.foldl (F4 n) g)
 |[],_,h=>h
 |e::r,_,h=>MirG.fold r (h.add e)
theorem Di(n:Nat)(l:List (Int×Int)):MirG n (QC n l):=by
 refine MirG.fold l ⟨by simp,by simp,fun x y _ _=>?_⟩;have:∀k,(List.replicate n ([]:List Int)).getD k []=[]:=fun k=>by
  rw[q7h,q8l];split<;>rfl
 simp only[this];simp
theorem Np{n:Nat}(hl:rows.length=n){x y:Int}(h:rowE rows x y):0<=x/\x<n:=by
 refine⟨h.1,?_⟩;have h2:=h.2;unfold Hj at h2;rcases q7e x.toNat rows.length with h3|h3
 ·omega
 ·rw[q7h,q9i h3]at h2;simp at h2
theorem RF(n:Nat)(l:List (Int×Int))(x y:Int):rowE (QC n l).2 x y↔rowE (QC n l).1 y x:=by
 obtain⟨h1,h2⟩:=YS n l;have hm:=Di n l;constructor
 ·intro h;have hx:=Np hm.l2 h;have hy:=FP h2 h.2;exact⟨hy.1,(hm.m y x hy hx).2 h.2⟩
 ·intro h;have hx:=Np hm.l1 h;have hy:=FP h1 h.2;exact⟨hy.1,(hm.m y x hx hy).1 h.2⟩
theorem Qy{n:Nat}{l:List (Int×Int)}{x y:Int}:rowE (QC n l).1 x y↔(x,y)∈l/\ZG n x=true/\ZG n y=true:=by
 constructor
 ·intro h;have hx:=Np (Di n l).l1 h;have:=(DJ hx).1 h.2;exact⟨this.1,FV hx,this.2⟩
 ·rintro⟨h1,h2,h3⟩;have hx:=XI h2;exact⟨hx.1,(DJ hx).2 ⟨h1,h3⟩⟩
def Qp(part:List Int)(o:List Bool)(t:Int×Int):List Bool:=if part.getD t.1.toNat 0=part.getD t.2.toNat 0 then o else o.set (part.getD t.1.toNat 0).toNat true
def Yk(n:Nat)(part:List Int):List Bool:=((List.replicate n false).set (part.getD 0 0).toNat true).set (part.getD (n-1) 0).toNat true
def Yg(n:Nat)(part:List Int)(prs:List (Int×Int)):List Bool:=prs.foldl (Qp part) (Yk n part)
def FT(plc:Int->Int)(part:List Int)(i q:Nat):List Int:=((List.range q).filter fun j=>part.getD j 0==(i:Int)).map fun(j:Nat)=>plc j
def Uc(part:List Int)(op:List Bool)(i:Nat):Bool:=part.getD i 0==(i:Int) && !op.getD i false
def X3(plc:Int->Int)(part:List Int)(op:List Bool)(q:Nat):List (List Int):=((List.range q).filter (Uc part op)).map fun i=>FT plc part i part.length
def prsW(w:Way)(f:Pr):List (Int×Int):=w.real.map (ixP w.p w.j f w.n)
def VG(w:Way)(f:Pr):List Int:=Qm w.n.toNat (QC w.n.toNat (prsW w f)).1
def trapsW(w:Way)(f:Pr):List (List Int):=X3 (QH w.p w.j w.n) (VG w f) (Yg w.n.toNat (VG w f) (prsW w f)) (VG w f).length
theorem Bh(part:List Int)(o:List Bool)(t:Int×Int):(Qp part o t).length=o.length:=by
 unfold Qp;split<;>simp
theorem Lh{n:Nat}(hr:XG n rows){k:Nat}(hk:k<n):0<=(Qm n rows).getD k 0/\(Qm n rows).getD k 0<n:=by
 have hx:0<=(k:Int)/\(k:Int)<n:=by omega
 have:=Ql hr hx;exact Lc hr hx this.scc.1
theorem Tm(plc:Int->Int)(part:List Int)(i q:Nat):FT plc part i (q+1)=if part.getD q 0=(i:Int)then FT plc part i q++[plc q]else FT plc part i q:=by
 unfold FT;rw[x1e,x0f,q7o];by_cases h:part.getD q 0=(i:Int)
 ·rw[if_pos h,x0n (by rw[h];simp)];rfl
 ·rw[if_neg h,x0t (by simpa using h)];simp
theorem Tn(plc:Int->Int)(part:List Int)(op:List Bool)(q:Nat):X3 plc part op (q+1)=if Uc part op q=true then X3 plc part op q++[FT plc part q part.length]else X3 plc part op q:=by
 unfold X3;rw[x1e,x0f,q7o];by_cases h:Uc part op q=true
 ·rw[if_pos h,x0n h];rfl
 ·rw[if_neg h,x0t h];simp
theorem P8(plc:Int->Int)(part:List Int)(i q:Nat):(FT plc part i q).length<=q:=by
 unfold FT;rw[q7f];exact q8i (q9l _ _) (by simp)
theorem P7(plc:Int->Int)(part:List Int)(op:List Bool)(q:Nat):(X3 plc part op q).length<=q:=by
 unfold X3;rw[q7f];exact q8i (q9l _ _) (by simp)
theorem Bg(part:List Int):∀(l:List (Int×Int))(o:List Bool),(l.foldl (Qp part) o).length=o.length
 |[],_=>rfl
 |t::r,o=>by rw[x0s,Bg part r,Bh]
theorem SA(n:Nat)(part:List Int)(l:List (Int×Int)):(l.foldl (Qp part) (Yk n part)).length=n:=by
 rw[Bg];simp[Yk]
theorem Ho(w:Way)(f:Pr)(n:Nat)(hw:w.n=n)(hj:w.p.procs[w.j]?=some f)(hc:cntP w.p.procs<=1000)(hn:n<=5000)(hn2:2<=n)(hlen:w.real.length<=1000000)(hr:∀t∈prsW w f,(0<=t.1/\t.1<n)/\0<=t.2/\t.2<n):SpecP prog 196 [.ip w.cells] (fun r=>r=eMat (trapsW w f)):=by
 refine sB Wj func196 rfl call196 ?_;conv=>whnf
 have hgi:=YS n (prsW w f);have hpart:VG w f=Qm n (QC n (prsW w f)).1:=by unfold VG;rw[hw];rfl
 have htr:trapsW w f=X3 (QH w.p w.j w.n) (VG w f) (Yg n (VG w f) (prsW w f)) n:=by unfold trapsW;rw[hpart,FF,hw];rfl
 have hpin:∀k,k<n->0<=(VG w f).getD k 0/\(VG w f).getD k 0<n:=fun k hk=>by rw[hpart];exact Lh hgi.1 hk
 have hpl:(VG w f).length=n:=by rw[hpart,FF]
 have hcp:=Qv n hn (QC n (prsW w f)) hgi.1 hgi.2 (RF n (prsW w f));rw[<-hpart]at hcp;rw[htr];clear htr hpart hgi;generalize VG w f=part at hpin hpl hcp⊢;have ha0:=hpin 0 (by omega);have ha1:=hpin (n-1) (by omega);have hp0:=B3 (l:=part) (i:=0) (by omega);have hp1:=B3 (l:=part) (i:=n-1) (by omega);have e0:(List.replicate n AV.ff)[(part.getD 0 0).toNat]?=some .ff:=by rw[q8l,if_pos (by omega)]
 have e1:((List.replicate n AV.ff).set (part.getD 0 0).toNat .tt)[(part.getD (n-1) 0).toNat]?=some (bv (((List.replicate n false).set (part.getD 0 0).toNat true).getD (part.getD (n-1) 0).toNat false)):=by
  have:(List.replicate n AV.ff).set (part.getD 0 0).toNat .tt=((List.replicate n false).set (part.getD 0 0).toNat true).map bv:=by
   rw[q9k,x0l];rfl
  rw[this];exact Iq (by rw[x0d,q9d];omega)
 have hplm:(part.map (AV.int .i64)).length=n:=by rw[q7f,hpl]
 repeat' ((first|(refine iM fun _=>?_)|refine dA ?_|refine q7p rfl ?_|refine aR ?_|refine wI ?_|refine cP (F0 w f n hw hj hc hn w.real hlen) ?_|refine cP hcp ?_|refine x2m n hw (by show 1*n<=140737488355328;omega) (by unfold maxLen;omega) ?_|(refine IdxK.at (k:=0) rfl hp0 rfl ?_)|(refine IdxK.at (k:=n-1) (by omega) hp1 rfl ?_)|refine q9x (part.getD 0 0).toNat (by omega) (by omega) ?_|refine q9x (part.getD (n-1) 0).toNat (by omega) (by omega) ?_|refine x0r (part.getD 0 0).toNat 0 .ff .tt (show(0+(part.getD 0 0).toNat)*1=(part.getD 0 0).toNat*1+0 by omega) e0 (q8z 1) rfl ?_|(refine CallK.pure (YG w f hj hc (by omega) w.real hlen) (.cons (Sub.refl _) (.cons (Sub.refl _) .nil)) ?_;rintro _ rfl)|(refine x0r (part.getD (n-1) 0).toNat 0 _ .tt (show(0+(part.getD (n-1) 0).toNat)*1=(part.getD (n-1) 0).toNat*1+0 by omega) e1 (q8z 1) (by cases((List.replicate n false).set (part.getD 0 0).toNat true).getD (part.getD (n-1) 0).toNat false<;>rfl) ?_));conv=>whnf)
 have hprl:(prsW w f).length<=1000000:=by unfold prsW;rw[q7f];exact hlen
 have hpl2:(avP (prsW w f)).length=(prsW w f).length:=by simp[avP]
 refine LoopK.inv QK (fun x:Nat×List Bool=>⟨[(0,.p (.ip w.cells)),(3,.p (QA part)),(4,.hd 0 0 n),(43,.p (.sl (avP (prsW w f)))),(44,.p (.int .i64 (avP (prsW w f)).length)),(45,.p (.int .i64 x.1))],[(0,.own 4 1 (x.2.map bv))]⟩)
  (fun x=>x.1<=(prsW w f).length/\x.2=((prsW w f).take x.1).foldl (Qp part) (Yk n part)) (fun x=>(prsW w f).length-x.1) (0,Yk n part)
  (Le.mk [] (by simp) (by simp) (by simp) (.r (.r (.r (.r (.r (.r .nil)))))) (.cons rfl (.of_eq (by unfold Yk;rw[q9k,q9k,x0l];rfl)) .nil))
  ⟨q7c _,rfl⟩ ?_
 rintro⟨m,o⟩ ⟨h1,h2⟩;simp only at h1 h2⊢;have hol:o.length=n:=by rw[h2];exact SA n part _
 rcases q7e m (prsW w f).length with hm|hm
 ·obtain⟨⟨h3,h4⟩,h5,h6⟩:=hr _ (q7i hm);have h7:=hpin (prsW w f)[m].1.toNat (by omega);have h8:=hpin (prsW w f)[m].2.toNat (by omega);have e2:=B3 (l:=part) (i:=(prsW w f)[m].1.toNat) (by omega);have e3:=B3 (l:=part) (i:=(prsW w f)[m].2.toNat) (by omega);have e4:=Iq (l:=o) (i:=(part.getD (prsW w f)[m].1.toNat 0).toNat) (by omega);have hme:(avP (prsW w f))[m]?=some (.agg [.int .i64 (prsW w f)[m].1,.int .i64 (prsW w f)[m].2]):=by simp[avP,hm]
  have e5:((prsW w f).take (m+1)).foldl (Qp part) (Yk n part)=Qp part o (prsW w f)[m]:=by rw[q8q hm,x2i,<-h2];rfl
  conv=>whnf
  repeat' (first|((first|refine dA ?_|refine q7p rfl ?_|refine wI ?_|(refine IdxK.at (k:=m) rfl hme rfl ?_)|refine q9x 0 rfl (by decide) ?_|refine q9x 1 rfl (by decide) ?_|(refine IdxK.at (k:=(prsW w f)[m].1.toNat) (by omega) e2 rfl ?_)|(refine IdxK.at (k:=(prsW w f)[m].2.toNat) (by omega) e3 rfl ?_)|refine q9x (part.getD (prsW w f)[m].1.toNat 0).toNat (by omega) (by omega) ?_|refine x0r (part.getD (prsW w f)[m].1.toNat 0).toNat 0 _ .tt (by omega) e4 (q8z 1) (by cases o.getD (part.getD (prsW w f)[m].1.toNat 0).toNat false<;>rfl) ?_);conv=>whnf)|(apply bD<;>intro _<;>first|omega|conv=>whnf)|(apply bE<;>intro _<;>first|omega|conv=>whnf))
  all_goals first
   | (have hq:part.getD (prsW w f)[m].1.toNat 0=part.getD (prsW w f)[m].2.toNat 0:=by assumption
      exact⟨(m+1,o),⟨by simp only;omega,by simp only;rw[e5];unfold Qp;rw[if_pos hq]⟩,by simp only;omega,Le.of_eq rfl⟩)
   | (have hq:¬part.getD (prsW w f)[m].1.toNat 0=part.getD (prsW w f)[m].2.toNat 0:=by assumption
      exact⟨(m+1,o.set (part.getD (prsW w f)[m].1.toNat 0).toNat true),⟨by simp only;omega,by simp only;rw[e5];unfold Qp;rw[if_neg hq]⟩,by simp only;omega,Le.of_eq (by simp only[q9k];rfl)⟩)
 ·rw [q8y hm]at h2;have hop:Yg n part (prsW w f)=o:=h2.symm;rw[hop];clear hop h2 e0 e1 hp0 hp1 hcp;conv=>whnf
  repeat' (first|(refine iM fun _=>?_;conv=>whnf)|(apply bD<;>intro _<;>first|omega|conv=>whnf))
  refine LoopK.inv QK (fun q:Nat=>⟨[(0,.p (.ip w.cells)),(3,.p (QA part)),(4,.hd 0 0 n),(7,.hd 1 0 (X3 (QH w.p w.j w.n) part o q).length),(69,.p (.int .i64 (part.map (AV.int .i64)).length)),(70,.p (.int .i64 q))],[(0,.own 4 1 (o.map bv)),(1,.own 29 1 ((avI (X3 (QH w.p w.j w.n) part o q)).map AV.sl))]⟩)
   (fun q=>q<=n) (fun q=>n-q) 0
   (Le.mk [(1,.own 29 1 [])] (by simp[Chunk.new0];rfl) (by simp) (by simp) (.r (.r (.r (.cons (.nil q7d) (.r (.r .nil)))))) (.cons rfl (.refl _) (.new q7d .nil)))
   (q7c _) ?_
  intro q hqn;have hLl:=P7 (QH w.p w.j w.n) part o q;rcases q7e q n with hq|hq
  ·have e2:=B3 (l:=part) (i:=q) (by omega);have e3:=Iq (l:=o) (i:=q) (by omega);have hsucc:=Tn (QH w.p w.j w.n) part o q;generalize X3 (QH w.p w.j w.n) part o q=acc at hLl hsucc⊢;have hpe:part[q]=part.getD q 0:=by rw[q7h,q7g];rfl
   cases hb:o.getD q false with
   | true=>
     rw[hb]at e3;have ht:¬Uc part o q=true:=by unfold Uc;rw[hb];simp
     rw[if_neg ht]at hsucc;conv=>whnf
     repeat' (first|((first|refine q7p rfl ?_|(refine iA fun _=>?_)|refine wI ?_|refine q9x q rfl (by omega) ?_|refine q9t q 0 .tt (by omega) e3 ?_);conv=>whnf)|(apply bD<;>intro _<;>first|omega|conv=>whnf)|(apply bE<;>intro _<;>first|omega|conv=>whnf))
     all_goals exact⟨q+1,hq,by omega,Le.of_eq (by rw[hsucc];rfl)⟩
   | false=>
     rw[hb]at e3;conv=>whnf
     repeat' (first|((first|(refine iM fun _=>?_)|refine q7p rfl ?_|(refine iA fun _=>?_)|refine wI ?_|refine q9x q rfl (by omega) ?_|refine q9t q 0 .ff (by omega) e3 ?_);conv=>whnf)|(apply bD<;>intro _<;>first|omega|conv=>whnf)|(apply bE<;>intro _<;>first|omega|conv=>whnf))
     all_goals try
      have hne:¬part.getD q 0=(q:Int):=by omega
      have ht:¬Uc part o q=true:=fun h=>by
       unfold Uc at h;rw[q8j,x1l]at h;exact hne h.1
      rw[if_neg ht]at hsucc;exact⟨q+1,hq,by omega,Le.of_eq (by rw[hsucc];rfl)⟩
     have hpq:part.getD q 0=(q:Int):=by omega
     have ht:Uc part o q=true:=by unfold Uc;rw[hb,hpq];simp
     rw[if_pos ht,hpl]at hsucc;refine LoopK.inv QK (fun z:Nat=>⟨[(0,.p (.ip w.cells)),(3,.p (QA part)),(4,.hd 0 0 n),(7,.hd 1 0 acc.length),(8,.p (.int .i64 q)),(9,.hd 2 0 (FT (QH w.p w.j w.n) part q z).length),(69,.p (.int .i64 (part.map (AV.int .i64)).length)),(70,.p (.int .i64 q)),(86,.p (.int .i64 (part.map (AV.int .i64)).length)),(87,.p (.int .i64 z))],[(0,.own 4 1 (o.map bv)),(1,.own 29 1 ((avI acc).map AV.sl)),(2,.own 3 1 ((FT (QH w.p w.j w.n) part q z).map (.int .i64)))]⟩)
      (fun z=>z<=n) (fun z=>n-z) 0
      (Le.mk [(2,.own 3 1 [])] (by simp[Chunk.new0];rfl) (by simp) (by simp) (.r (.r (.r (.r (.r (.cons (.nil q7d) (.r (.r (.r (.r .nil)))))))))) (.cons rfl (.refl _) (.cons rfl (.refl _) (.new q7d .nil))))
      (q7c _) ?_
     intro z hzn;have hRl:=P8 (QH w.p w.j w.n) part q z;rcases q7e z n with hz|hz
     ·have e4:=B3 (l:=part) (i:=z) (by omega);have hs2:=Tm (QH w.p w.j w.n) part q z;generalize FT (QH w.p w.j w.n) part q z=l at hRl hs2⊢;conv=>whnf
      repeat' (first|((first|refine q7p rfl ?_|refine aD ?_|refine bP ?_|(refine iA fun _=>?_)|refine wI ?_|(refine CallK.pure (WY w f hj hc (by omega) z (by omega)) (.cons (Sub.refl _) (.cons (Sub.refl _) .nil)) ?_;rintro _ rfl)|refine XX (by simp) (by simp;omega) ?_);conv=>whnf)|(apply bD<;>intro _<;>first|omega|conv=>whnf))
      have hpz:part[z]=part.getD z 0:=by rw[q7h,q7g];rfl
      ·rw[if_pos (by omega)]at hs2;exact⟨z+1,hz,by omega,Le.of_eq (by rw[hs2,q7b,q7o];rfl)⟩
      ·have hpz:part[z]=part.getD z 0:=by rw[q7h,q7g];rfl
       rw[if_neg (by omega)]at hs2;exact⟨z+1,hz,by omega,Le.of_eq (by rw[hs2];rfl)⟩
     ·have hze:z=n:=by omega
      subst hze;conv=>whnf
      repeat' (apply bD<;>intro _<;>first|omega|conv=>whnf)
      have hfl:(FT (QH w.p w.j w.n) part q z).length=((FT (QH w.p w.j w.n) part q z).map (AV.int .i64)).length:=by simp
      refine OpK.frz QK [[9,104]] ?_;conv=>whnf
      refine LenK.mk hfl ?_;conv=>whnf
      refine LenK.mk hfl ?_;conv=>whnf
      repeat' ((first|refine q7p rfl ?_|refine aD ?_|refine bP ?_|refine wI ?_|refine x1m (by simp[avI]) rfl (by show(acc.length+1)*24<=140737488355328;omega) (by show acc.length+1<=9223372036854775807;omega) (fun x hx=>by rcases q7m.1 hx with rfl;exact⟨rfl,rfl⟩) ?_);conv=>whnf)
      exact⟨q+1,hq,by omega,Le.of_eq (by rw[hsucc];simp only[avI,q7b,q7o];rfl)⟩
  ·have hqe:q=n:=by omega
   subst hqe;conv=>whnf
   repeat' (apply bD<;>intro _<;>first|omega|conv=>whnf)
   exact⟨_,.hd rfl (by simp[avI]),rfl⟩
def vOf(p:Pg)(id:Int):List Step:=match IV p id with
 |some s=>if s.kind=10 then [⟨id,-1,3⟩]else []
 |none=>[]
def UB(w:Way)(f:Pr):List Step:=(trapsW w f).flatMap fun l=>l.flatMap (vOf w.p)
theorem OO(p:Pg)(id:Int):(vOf p id).length<=1:=by
 unfold vOf;split
 ·split<;>simp
 ·simp
theorem WS{α β:Type}{g:α->List β}{c:Nat}:∀(l:List α),(∀x∈l,(g x).length<=c)->(l.flatMap g).length<=l.length*c
 |[],_=>by simp
 | a::r,h=>by
   have h1:=h a q7d;have h2:=WS r fun x hx=>h x (q7n _ hx);rw[q9m,q7b,q8s,q9o];omega
theorem M5(w:Way)(f:Pr)(n:Nat)(hw:w.n=n)(hj:w.p.procs[w.j]?=some f)(hc:cntP w.p.procs<=1000)(hn:n<=5000)(hn2:2<=n)(hlen:w.real.length<=1000000)(hr:∀t∈prsW w f,(0<=t.1/\t.1<n)/\0<=t.2/\t.2<n)(htl:(trapsW w f).length<=5000)(hti:∀l∈trapsW w f,l.length<=5000/\∀id∈l,1<=id/\id<=(sheetOf w.p).l.length):
  SpecH prog 155 [.p (.ip w.cells)] [] (fun r H=>r=.hd 0 0 (UB w f).length/\H=[(0,.own 206 3 (avS (UB w f)))]):=by
 refine sH Q3 func155 rfl call155 ?_;conv=>whnf
 repeat' ((first|(refine iM fun _=>?_)|refine cP (Ho w f n hw hj hc hn hn2 hlen hr) ?_);conv=>whnf)
 unfold UB;generalize trapsW w f=ts at htl hti⊢;have hml:((avI ts).map AV.sl).length=ts.length:=by simp[avI]
 refine LoopK.inv QK (fun x:Nat×List Step=>⟨[(0,.p (.ip w.cells)),(3,.hd 0 0 x.2.length),(9,.p (eMat ts)),(10,.p (.int .i64 ((avI ts).map AV.sl).length)),(11,.p (.int .i64 x.1))],[(0,.own 206 3 (avS x.2))]⟩)
  (fun x=>x.1<=ts.length/\x.2.length<=x.1*5000/\x.2++(ts.drop x.1).flatMap (fun l=>l.flatMap (vOf w.p))=ts.flatMap fun l=>l.flatMap (vOf w.p)) (fun x=>ts.length-x.1) (0,[])
  (Le.mk [(0,.own 206 3 [])] (by simp[Chunk.new0];rfl) (by simp) (by simp) (.r (.cons (.nil q7d) (.r (.r (.r .nil))))) (.new q7d .nil))
  ⟨q7c _,by simp,rfl⟩ ?_
 rintro⟨m,acc⟩ ⟨h1,h2,h3⟩;simp only at h1 h2 h3⊢;rcases q7e m ts.length with hm|hm;rotate_left 1
 ·rw[q8v hm,List.flatMap_nil,q9h]at h3;conv=>whnf
  repeat' (apply bD<;>intro _<;>first|omega|conv=>whnf)
  exact⟨_,q8k _,by rw[h3],by rw[h3]⟩
 obtain⟨hl1,hl2⟩:=hti _ (q7i hm);have hrow:((avI ts).map AV.sl)[m]?=some (.sl (ts[m].map (.int .i64))):=by simp[avI,hm]
 rw[JF hm]at h3;conv=>whnf
 repeat' (first|((first|(refine iM fun _=>?_)|(refine iA fun _=>?_));conv=>whnf)|(apply bD<;>intro _<;>first|omega|conv=>whnf))
 have hav:(avI ts)[m]'(by simp[avI];exact hm)=ts[m].map (.int .i64):=by simp[avI]
 rw[hav];generalize ts[m]=l at hl1 hl2 h3⊢;have hll:(l.map (AV.int .i64)).length=l.length:=q7f _;generalize htot:(ts.flatMap fun l=>l.flatMap (vOf w.p))=tot at h3⊢;refine LoopK.inv QK (fun x:Nat×List Step=>⟨[(0,.p (.ip w.cells)),(3,.hd 0 0 x.2.length),(9,.p (eMat ts)),(10,.p (.int .i64 ((avI ts).map AV.sl).length)),(11,.p (.int .i64 m)),(15,.p (QA l)),(16,.p (.int .i64 (l.map (AV.int .i64)).length)),(17,.p (.int .i64 x.1))],[(0,.own 206 3 (avS x.2))]⟩)
  (fun x=>x.1<=l.length/\x.2.length<=m*5000+x.1/\x.2++((l.drop x.1).flatMap (vOf w.p)++(ts.drop (m+1)).flatMap (fun l=>l.flatMap (vOf w.p)))=tot) (fun x=>l.length-x.1) (0,acc) (Le.of_eq rfl) ⟨q7c _,by simp only;omega,h3⟩ ?_
 rintro⟨k,acc2⟩ ⟨h4,h5,h6⟩;simp only at h4 h5 h6⊢;rcases q7e k l.length with hk|hk;rotate_left 1
 ·rw[q8v hk]at h6;conv=>whnf
  repeat' (first|(refine wI ?_;conv=>whnf)|(apply bD<;>intro _<;>first|omega|conv=>whnf))
  exact⟨(m+1,acc2),⟨hm,by simp only;omega,by simpa using h6⟩,by simp only;omega,Le.of_eq rfl⟩
 obtain⟨h7,h8⟩:=hl2 _ (q7i hk);obtain⟨_,_,_,hsl,_⟩:=QV w.p;have hlt:(l[k]-1).toNat<(sheetOf w.p).l.length:=by omega
 have hu:∃u:Item,((sheetOf w.p).l.map fun i=>AV.agg i.cells)[(l[k]-1).toNat]?=some (.agg u.cells)/\IV w.p l[k]=some u.s:=⟨_,by rw[q7l,q7g hlt];rfl,by unfold IV;rw[q7g hlt];rfl⟩;obtain⟨u,hu1,hu2⟩:=hu;rw[JF hk]at h6;have hv:vOf w.p l[k]=if u.s.kind=10 then [⟨l[k],-1,3⟩]else []:=by unfold vOf;rw[hu2]
 rw[hv]at h6;conv=>whnf
 repeat' (first|((first|refine q7p rfl ?_|refine aD ?_|refine bP ?_|(refine iA fun _=>?_)|refine wI ?_|(refine IdxK.at (by omega) hu1 rfl ?_)|refine x1m (by simp[avS]) rfl (by show(acc2.length+1)*24<=140737488355328;omega) (by show acc2.length+1<=9223372036854775807;omega) (fun x hx=>by rcases q7m.1 hx with rfl;exact⟨rfl,rfl⟩) ?_);conv=>whnf)|(apply bD<;>intro _<;>first|omega|conv=>whnf))
 ·rw[if_pos (by assumption)]at h6;exact⟨(k+1,acc2++[⟨l[k],-1,3⟩]),⟨hk,by simp;omega,by simpa using h6⟩,by simp only;omega,Le.of_eq (by simp only[avS,q7b,q7o];rfl)⟩
 ·rw[if_neg (by assumption)]at h6;exact⟨(k+1,acc2),⟨hk,by simp only;omega,by simpa using h6⟩,by simp only;omega,Le.of_eq rfl⟩
def fOf(it:Item):List Step:=if it.s.kind=7\/it.s.kind=8\/it.s.kind=9\/it.s.kind=10 then [⟨it.s.id,it.next,2⟩]else []
structure WayT(w:Way)(f:Pr)(n:Nat):Prop where
 hw:w.n=n
 hj:w.p.procs[w.j]?=some f
 hc:cntP w.p.procs<=1000
 hn:n<=5000
 hn2:2<=n
 hlen:w.real.length<=1000000
 hr:∀t∈prsW w f,(0<=t.1/\t.1<n)/\0<=t.2/\t.2<n
 htl:(trapsW w f).length<=5000
 hti:∀l∈trapsW w f,l.length<=5000/\∀id∈l,1<=id/\id<=(sheetOf w.p).l.length
 hok:∀s∈w.real,okSt s
 hfk:∀it∈itsOf w.p w.j f,∀s∈fOf it,okSt s
theorem q0q{p:Pg}{id:Int}{s:Step}(h:s∈vOf p id):s=⟨id,-1,3⟩:=by
 unfold vOf at h;split at h
 ·split at h
  ·simpa using h
  ·simp at h
 ·simp at h
theorem WayT.virt_ok{w:Way}{f:Pr}{n:Nat}(h:WayT w f n):∀s∈UB w f,okSt s:=fun s hs=>by
 unfold UB at hs;obtain⟨l,hl,hs⟩:=q8r.1 hs;obtain⟨id,hid,hs⟩:=q8r.1 hs;obtain⟨_,_,_,hsl,_⟩:=QV w.p;have h1:=(h.hti l hl).2 id hid;have h2:=h.hc;rw[q0q hs];exact⟨by show id≠_;omega,by show(-1:Int)≠_;decide⟩
theorem WayT.virt_len{w:Way}{f:Pr}{n:Nat}(h:WayT w f n):(UB w f).length<=25000000:=by
 have h1:=WS (g:=fun l=>l.flatMap (vOf w.p)) (c:=5000) (trapsW w f) fun l hl=>by
  have h2:=WS (g:=vOf w.p) (c:=1) l fun id _=>OO w.p id;have h3:=(h.hti l hl).1;omega
 have h2:=h.htl;unfold UB;omega
def DC(w:Way)(f:Pr):List Step:=WM (UB w f++w.real)
def J0(w:Way)(f:Pr):List Step:=UB w f++w.real++[⟨0,-1,2⟩]++(itsOf w.p w.j f).flatMap fOf
def q6g(w:Way)(f:Pr):List Step:=WM (J0 w f)
theorem Z2(w:Way)(f:Pr)(n:Nat)(h:WayT w f n):SpecP prog 95 [.ip w.cells] (fun r=>r=eSteps (DC w f)):=by
 refine sB Y8 func95 rfl call95 ?_;conv=>whnf
 have hlen:=h.hlen;have hvl:=h.virt_len;have hvok:=h.virt_ok;repeat' (first|((first|refine dA ?_|refine aD ?_);conv=>whnf)|(refine CallK.heap [] 0 (q8w (q8k _) q8c) q8a (M5 w f n h.hw h.hj h.hc h.hn h.hn2 h.hlen h.hr h.htl h.hti) rfl rfl ?_;rintro l' H' ⟨rfl,rfl⟩;conv=>whnf))
 have hml:(w.real.map fun s=>AV.agg s.cells).length=w.real.length:=q7f _;have hvm:(avS (UB w f)).length=(UB w f).length:=by simp[avS]
 refine x1m hvm.symm rfl (by rw[hml];show((UB w f).length+w.real.length)*24<=140737488355328;omega) (by rw[hml];show(UB w f).length+w.real.length<=9223372036854775807;omega) (fun x hx=>by obtain⟨s,_,rfl⟩:=q7s.1 hx;exact⟨rfl,rfl⟩) ?_;conv=>whnf
 have happ:avS (UB w f)++(w.real.map fun s=>AV.agg s.cells)=avS (UB w f++w.real):=by simp[avS]
 have hlp:(UB w f).length+(w.real.map fun s=>AV.agg s.cells).length=(UB w f++w.real).length:=by simp
 rw[happ,hlp];repeat' (refine CallK.heap [(1000,0)] 0 (by repeat' (first|exact q8c|refine q8w ?_ ?_|exact q8k _|exact q8m Sub.nils|exact q8m (Sub.tt rfl)|exact q8m (Sub.ff rfl)|exact q8m (Sub.int (by omega)))) (by refine q8x (j:=0) rfl rfl ?_ ?_;exact CSub.refl _;exact q8a) (Dh (UB w f++w.real) (fun s hs=>(q7a.1 hs).elim (hvok s) (h.hok s)) (by rw[q7b];omega)) rfl rfl ?_;rintro l' H' ⟨rfl,rfl⟩;conv=>whnf)
 exact⟨_,.hd rfl (by simp[avS]),rfl⟩
structure MayF(p:Pg):Prop where
 gl:p.globals.length<=16
 pl:p.procs.length<=16
 gn:namesB p.globals=true
 pr:∀f∈p.procs,f.params.length<=8/\f.vars.length<=16/\isName f.name=true/\namesB f.vars=true/\namesB f.fin=true/\(f.params.all fun a=>isName a.name)=true
 len:(allR p).length<=200
 its:∀(k:Nat)(x:RI),(allR p)[k]?=some x->x.s.id=(k:Int)+1/\x.deep<=12/\oneOk x.s=true
theorem U3{p:Pg}(h:HY p=true):MayF p:=by
 obtain⟨h1,h2,h3,h4⟩:=Qd h;refine⟨h1,h2,h3,fun f hf=>KR.1 (h4 f hf).1,?_,fun k x hk=>?_⟩
 ·rw[G7 h,Mq];exact(WC h).2.2
 ·rw[G7 h]at hk;exact⟨Ar h hk,IN h x (q8u hk)⟩
def Pr0:Pr:=⟨[],[],[],[],[]⟩
def q2x(p:Pg)(n:Str):Pr×Bool:=match p.procs.find? (fun f=>f.name==n)with
 |some f=>(f,true)
 |none=>(Pr0,false)
def BU:List Str->Nat
 |[]=>0
 |s::r=>1+s.length+BU r
mutual
def gX:X->Nat
 |.mk _ _ name kids=>1+name.length+gXs kids
def gXs:List X->Nat
 |[]=>0
 |x::r=>gX x+gXs r
end
def Yx:List Arg->Nat
 |[]=>0
 |a::r=>gX a.x+(1+a.name.length)+Yx r
mutual
def gS:S->Nat
 |.mk _ _ labels name proc x _ args thn els=>gX x+BU labels+(1+name.length)+(1+proc.length)+Yx args+gL thn+gL els
def gL:List S->Nat
 |[]=>0
 |s::r=>gS s+gL r
end
def A8:List Param->Nat
 |[]=>0
 |a::r=>1+a.name.length+A8 r
def gPr(f:Pr):Nat:=1+f.name.length+BU f.vars+BU f.fin+A8 f.params+gL f.body
def N6:List Pr->Nat
 |[]=>0
 |f::r=>gPr f+N6 r
def gPg(p:Pg):Nat:=BU p.globals+N6 p.procs
theorem q3m(s:S):gS s=gX s.x+BU s.labels+(1+s.name.length)+(1+s.proc.length)+Yx s.args+gL s.thn+gL s.els:=by
 cases s;rw[gS];rfl
theorem Pz:∀l:List Str,Av l<=BU l
 |[]=>q8z _
 |s::r=>by have:=Pz r;simp only[Av,BU];omega
mutual
theorem q5s:∀x:X,wX x<=gX x
 |.mk _ _ name kids=>by have:=q2s kids;rw[wX,gX];omega
theorem q2s:∀l:List X,wXs l<=gXs l
 |[]=>by rw[wXs];omega
 |x::r=>by have:=q5s x;have:=q2s r;rw[wXs,gXs];omega
end
theorem A7:∀l:List Arg,X6 l<=Yx l
 |[]=>q8z _
 |a::r=>by have:=A7 r;have:=q5s a.x;simp only[X6,Yx];omega
mutual
theorem q7k:∀s:S,wS s<=gS s
 | .mk _ _ labels name proc x _ args thn els=>by
   have:=q5s x;have:=Pz labels;have:=A7 args;have:=q3y thn;have:=q3y els;rw[wS,gS];omega
theorem q3y:∀l:List S,wL l<=gL l
 |[]=>by rw[wL];omega
 |s::r=>by have:=q7k s;have:=q3y r;rw[wL,gL];omega
end
theorem IK:∀l:List Param,q3u l<=A8 l
 |[]=>q8z _
 |a::r=>by have:=IK r;simp only[q3u,A8];omega
theorem IG:∀l:List Pr,q0d l<=N6 l
 |[]=>q8z _
 | f::r=>by
   have:=IG r;have:=Pz f.vars;have:=Pz f.fin;have:=IK f.params;have:=q3y f.body;simp only[q0d,N6,wPr,gPr];omega
theorem q5t(p:Pg):wPg p<=gPg p:=by
 have:=Pz p.globals;have:=IG p.procs;unfold wPg gPg;omega
def XK(x:Int):Int:=if x>20000 then 20001 else x
theorem ZZ{a:Int}(hb:0<=b):XK (XK a+b)=XK (a+b):=by
 unfold XK;split<;>split<;>(try split)<;>omega
theorem XA{a:Int}(h:0<=a):0<=XK a/\XK a<=20001:=by
 unfold XK;split<;>omega
theorem Hk{a:Int}(h:a<=20001):XK a=a:=by
 unfold XK;split<;>omega
theorem UC{a:Int}(h:a>20000)(h1:a<=20001)(hb:0<=b):a=XK (a+b):=by
 unfold XK;split<;>omega
theorem QI(s:Str)(n:Int)(hn:0<=n/\n<=20001):SpecP prog 44 [.str s,.int .i64 n] (fun r=>r=.int .i64 (XK (n+(1+s.length:Nat)))):=by
 refine sB KH func44 rfl call44 ?_;conv=>whnf
 repeat' (first|((first|(refine iM fun _=>?_)|refine wI ?_);conv=>whnf)|(apply bD<;>intro _<;>first|omega|conv=>whnf))
 all_goals exact RetK.int (by unfold XK;(repeat' split)<;>omega)
theorem XN(l:List Str)(n:Int)(hn:0<=n/\n<=20001):SpecP prog 43 [eStrs l,.int .i64 n] (fun r=>r=.int .i64 (XK (n+BU l))):=by
 refine sB JO func43 rfl call43 ?_;conv=>whnf
 skip
 have hl:(l.map AV.str).length=l.length:=q7f _;refine LoopK.inv QK (fun x:Nat×Int=>⟨[(0,.p (eStrs l)),(1,.p (.int .i64 x.2)),(5,.p (.int .i64 x.1))],[]⟩) (fun x=>x.1<=l.length/\(0<=x.2/\x.2<=20001)/\XK (x.2+BU (l.drop x.1))=XK (n+BU l)) (fun x=>l.length-x.1) (0,n) (Le.of_eq rfl) ⟨q7c _,hn,rfl⟩ ?_;rintro⟨j,m⟩ ⟨h2,h3,h4⟩;simp only at h2 h3 h4⊢;rcases q7e j l.length with hj|hj
 ·rw[q8o hj,BU]at h4;conv=>whnf
  repeat' (first|((first|(refine iM fun _=>?_)|refine cP (QI _ _ h3) ?_|(refine iA fun _=>?_)|refine wI ?_);conv=>whnf)|(apply bD<;>intro _<;>first|omega|conv=>whnf))
  ·have h5:XK (XK (m+(1+l[j].length:Nat))+BU (l.drop (j+1)))=XK (n+BU l):=by
    rw[ZZ (by omega),<-h4];congr 1;omega
   exact⟨(j+1,XK (m+(1+l[j].length:Nat))),⟨by simp only;omega,XA (by omega),h5⟩,by simp only;omega,Le.of_eq rfl⟩
  ·exact RetK.int (by rw[<-h4];exact UC (by omega) h3.2 (by omega))
 ·rw[q8v hj,BU]at h4;conv=>whnf
  repeat' (first|(refine iM fun _=>?_;conv=>whnf)|(apply bD<;>intro _<;>first|omega|conv=>whnf))
  exact RetK.int (by rw[<-h4,Hk (by omega)];simp)
theorem UW:∀(k:Nat)(x:X)(_:gX x<k)(n:Int)(_:0<=n/\n<=20001),SpecP prog 80 [.agg x.cells,.int .i64 n] (fun r=>r=.int .i64 (XK (n+gX x))):=by
 intro k;induction k with
 |zero=>intro x h;omega
 | succ k ih=>
   intro x hx n hn;have hxe:gX x=1+x.name.length+gXs x.kids:=by cases x;rw[gX];rfl
   have hkl:=X.avs_len x.kids;refine sB KG func80 rfl call80 ?_;conv=>whnf
   repeat' (refine cP (QI _ _ hn) ?_;conv=>whnf)
   refine LoopK.inv QK (fun y:Nat×Int=>⟨[(1,.p (.int .i64 y.2)),(2,.p (.ip x.cells)),(5,.p (.int .i64 y.1))],[]⟩) (fun y=>y.1<=x.kids.length/\(0<=y.2/\y.2<=20001)/\XK (y.2+gXs (x.kids.drop y.1))=XK (n+gX x)) (fun y=>x.kids.length-y.1) (0,XK (n+(1+x.name.length:Nat))) (Le.of_eq rfl) ⟨q7c _,XA (by omega),by
    show XK (XK (n+(1+x.name.length:Nat))+gXs x.kids)=_;rw[ZZ (by omega),hxe];congr 1;omega⟩ ?_
   rintro⟨j,m⟩ ⟨h2,h3,h4⟩;simp only at h2 h3 h4⊢;rcases q7e j x.kids.length with hj|hj
   ·rw [q8o hj,gXs]at h4;have hkw:gX x.kids[j]<k:=by
     have:∀(l:List X)(y:X),y∈l->gX y<=gXs l:=fun l=>by
      induction l with
      |nil=>intro y h;cases h
      | cons a r ih=>
        intro y h;rw[gXs];rcases q7r.1 h with rfl|h
        ·omega
        ·have:=ih y h;omega
     have:=this x.kids _ (q7i hj);omega
    conv=>whnf
    repeat' (first|((first|(refine iM fun _=>?_)|refine IdxK.xs (by omega) ?_|refine wI ?_|refine cP (ih (x.kids[j]'hj) hkw m h3) ?_);conv=>whnf)|(apply bD<;>intro _<;>first|omega|conv=>whnf))
    ·have h5:XK (XK (m+gX x.kids[j])+gXs (x.kids.drop (j+1)))=XK (n+gX x):=by
      rw[ZZ (by omega),<-h4];congr 1;omega
     exact⟨(j+1,XK (m+gX x.kids[j])),⟨by simp only;omega,XA (by omega),h5⟩,by simp only;omega,Le.of_eq rfl⟩
    ·exact RetK.int (by rw[<-h4];exact UC (by omega) h3.2 (by omega))
   ·rw[q8v hj,gXs]at h4;conv=>whnf
    repeat' (first|(refine iM fun _=>?_;conv=>whnf)|(apply bD<;>intro _<;>first|omega|conv=>whnf))
    exact RetK.int (by rw[<-h4,Hk (by omega)];simp)
theorem Iw:∀(l:List S)(y:S),y∈l->gS y<=gL l
 |[],y,h=>by cases h
 | a::r,y,h=>by
   rw[gL];rcases q7r.1 h with rfl|h
   ·omega
   ·have:=Iw r y h;omega
theorem UQ:∀(k:Nat)(l:List S)(_:gL l<k)(n:Int)(_:0<=n/\n<=20001),SpecP prog 45 [eSs l,.int .i64 n] (fun r=>r=.int .i64 (XK (n+gL l))):=by
 intro k;induction k with
 |zero=>intro l h;omega
 | succ k ih=>
   intro l hl n hn;have hkl:=S.avs_len l;refine sB JI func45 rfl call45 ?_;conv=>whnf
   skip
   refine LoopK.inv QK (fun y:Nat×Int=>⟨[(0,.p (eSs l)),(1,.p (.int .i64 y.2)),(5,.p (.int .i64 y.1))],[]⟩) (fun y=>y.1<=l.length/\(0<=y.2/\y.2<=20001)/\XK (y.2+gL (l.drop y.1))=XK (n+gL l)) (fun y=>l.length-y.1) (0,n) (Le.of_eq rfl) ⟨q7c _,hn,rfl⟩ ?_;rintro⟨j,m⟩ ⟨h2,h3,h4⟩;simp only at h2 h3 h4⊢;rcases q7e j l.length with hj|hj;rotate_left 1
   ·rw[q8v hj,gL]at h4;conv=>whnf
    repeat' (first|(refine iM fun _=>?_;conv=>whnf)|(apply bD<;>intro _<;>first|omega|conv=>whnf))
    exact RetK.int (by rw[<-h4,Hk (by omega)];simp)
   rw[q8o hj,gL]at h4;have hsw:=Iw l _ (q7i hj);have hse:=q3m l[j];have q1:=XA (a:=m+gX l[j].x) (by omega);have q2:=XA (a:=XK (m+gX l[j].x)+BU l[j].labels) (by omega);have q3:=XA (a:=XK (XK (m+gX l[j].x)+BU l[j].labels)+(1+l[j].name.length:Nat)) (by omega);conv=>whnf
   repeat' (first|((first|(refine iM fun _=>?_)|refine dA ?_|refine q7p rfl ?_|refine QX (by omega) ?_|(refine CallK.pure (UW (gX l[j].x+1) l[j].x (by omega) m h3) (.cons (Sub.refl _) (.cons (Sub.refl _) .nil)) ?_;rintro _ rfl)|refine cP (XN l[j].labels _ q1) ?_|refine cP (QI l[j].name _ q2) ?_|refine cP (QI l[j].proc _ q3) ?_);conv=>whnf)|(apply bD<;>intro _<;>first|omega|conv=>whnf))
   rotate_left 1
   ·exact RetK.int (by rw[<-h4];exact UC (by omega) h3.2 (by omega))
   have q4:=XA (a:=XK (XK (XK (m+gX l[j].x)+BU l[j].labels)+(1+l[j].name.length:Nat))+(1+l[j].proc.length:Nat)) (by omega);have h5:XK (XK (XK (XK (XK (m+gX l[j].x)+BU l[j].labels)+(1+l[j].name.length:Nat))+(1+l[j].proc.length:Nat))+(Yx l[j].args+(gL l[j].thn+gL l[j].els+gL (l.drop (j+1))):Nat))=XK (n+gL l):=by
    rw[ZZ (by omega),x3u,ZZ (by omega),x3u,ZZ (by omega),x3u,ZZ (by omega),<-h4,hse];congr 1;omega
   generalize XK (XK (XK (XK (m+gX l[j].x)+BU l[j].labels)+(1+l[j].name.length:Nat))+(1+l[j].proc.length:Nat))=m0 at q4 h5⊢;have hal:(l[j].args.map fun a=>AV.agg a.cells).length=l[j].args.length:=q7f _;refine LoopK.inv QK (fun y:Nat×Int=>⟨[(0,.p (eSs l)),(1,.p (.int .i64 y.2)),(5,.p (.int .i64 j)),(6,.p (.ip l[j].cells)),(7,.p (.int .i64 y.1))],[]⟩) (fun y=>y.1<=l[j].args.length/\(0<=y.2/\y.2<=20001)/\XK (y.2+(Yx (l[j].args.drop y.1)+(gL l[j].thn+gL l[j].els+gL (l.drop (j+1))):Nat))=XK (n+gL l)) (fun y=>l[j].args.length-y.1) (0,m0) (Le.of_eq rfl) ⟨q7c _,q4,h5⟩ ?_;rintro⟨a,m2⟩ ⟨h6,h7,h8⟩;simp only at h6 h7 h8⊢;have fin:XK (m2+(gL l[j].thn+gL l[j].els+gL (l.drop (j+1)):Nat))=XK (n+gL l)->(0<=XK (XK (m2+gL l[j].thn)+gL l[j].els)/\XK (XK (m2+gL l[j].thn)+gL l[j].els)<=20001)/\XK (XK (XK (m2+gL l[j].thn)+gL l[j].els)+gL (l.drop (j+1)))=XK (n+gL l):=fun h=>by
    have:=XA (a:=m2+gL l[j].thn) (by omega);refine⟨XA (by omega),?_⟩;rw[ZZ (by omega),x3u,ZZ (by omega),<-h];congr 1;omega
   have r1:=XA (a:=m2+gL l[j].thn) (by omega);have full:m2>20000->XK (m2+(gL l[j].thn+gL l[j].els+gL (l.drop (j+1)):Nat))=XK (n+gL l):=fun h=>by
    rw[<-h8,<-UC h h7.2 (by omega),<-UC h h7.2 (by omega)]
   rcases q7e a l[j].args.length with ha|ha;rotate_left 1
   ·have h9:XK (m2+(gL l[j].thn+gL l[j].els+gL (l.drop (j+1)):Nat))=XK (n+gL l):=by
     rw[q8v ha,Yx,x0j]at h8;exact h8
    obtain⟨f1,f2⟩:=fin h9;conv=>whnf
    repeat' (first|((first|(refine iM fun _=>?_)|refine dA ?_|refine wI ?_|(refine CallK.pure (ih l[j].thn (by omega) m2 h7) (.cons (Sub.refl _) (.cons (Sub.refl _) .nil)) ?_;rintro _ rfl)|(refine CallK.pure (ih l[j].els (by omega) _ r1) (.cons (Sub.refl _) (.cons (Sub.refl _) .nil)) ?_;rintro _ rfl));conv=>whnf)|(apply bD<;>intro _<;>first|omega|conv=>whnf))
    all_goals exact⟨(j+1,XK (XK (m2+gL l[j].thn)+gL l[j].els)),⟨by simp only;omega,f1,f2⟩,by simp only;omega,Le.of_eq rfl⟩
   rw[q8o ha,Yx]at h8;have q5:=XA (a:=m2+gX l[j].args[a].x) (by omega);conv=>whnf
   repeat' (first|((first|(refine iM fun _=>?_)|refine dA ?_|(refine iA fun _=>?_)|refine wI ?_|(refine CallK.pure (UW (gX l[j].args[a].x+1) l[j].args[a].x (by omega) m2 h7) (.cons (Sub.refl _) (.cons (Sub.refl _) .nil)) ?_;rintro _ rfl)|refine cP (QI l[j].args[a].name _ q5) ?_|(refine CallK.pure (ih l[j].thn (by omega) m2 h7) (.cons (Sub.refl _) (.cons (Sub.refl _) .nil)) ?_;rintro _ rfl)|(refine CallK.pure (ih l[j].els (by omega) _ r1) (.cons (Sub.refl _) (.cons (Sub.refl _) .nil)) ?_;rintro _ rfl));conv=>whnf)|(apply bD<;>intro _<;>first|omega|conv=>whnf))
   ·have h10:XK (XK (XK (m2+gX l[j].args[a].x)+(1+l[j].args[a].name.length:Nat))+(Yx (l[j].args.drop (a+1))+(gL l[j].thn+gL l[j].els+gL (l.drop (j+1))):Nat))=XK (n+gL l):=by
     rw[ZZ (by omega),x3u,ZZ (by omega),<-h8];congr 1;omega
    exact⟨(a+1,XK (XK (m2+gX l[j].args[a].x)+(1+l[j].args[a].name.length:Nat))),⟨by simp only;omega,XA (by omega),h10⟩,by simp only;omega,Le.of_eq rfl⟩
   ·obtain⟨f1,f2⟩:=fin (full (by omega));exact⟨(j+1,XK (XK (m2+gL l[j].thn)+gL l[j].els)),⟨by simp only;omega,f1,f2⟩,by simp only;omega,Le.of_eq rfl⟩
def ElS(es es':List AV):Prop:=es'.length=es.length/\∀(m:Nat)(x':AV),es'[m]?=some x'->∃x,es[m]?=some x/\x'.cells.length=x.cells.length/\∀(j:Nat)(c':AV),x'.cells[j]?=some c'->∃c,x.cells[j]?=some c/\Sub c c'
inductive SubH:Heap->Heap->Prop
 |nil:SubH [] []
 |same {c:Nat×Chunk} {H H':Heap} (h:SubH H H'):SubH (c::H) (c::H')
 |els {k:Nat} {e:TypeId} {sz:Nat} {es es':List AV} {H H':Heap} (hp:ElS es es') (h:SubH H H'):SubH ((k,.own e sz es)::H) ((k,.own e sz es')::H')
theorem SubH.get{H H':Heap}(h:SubH H H'):H'.map (·.1)=H.map (·.1)/\∀j c',(j,c')∈H'->(j,c')∈H\/∃e sz es es',(j,Chunk.own e sz es)∈H/\c'=.own e sz es'/\ElS es es':=by
 induction h with
 |nil=>exact⟨rfl,by simp⟩
 | same h ih=>
   refine⟨by simp[ih.1],fun j c' hj=>?_⟩;rcases q7r.1 hj with rfl|hj
   ·exact .inl q7d
   ·rcases ih.2 j c' hj with h1|⟨e,sz,es,es',h1,h2⟩
    ·exact .inl (q7n _ h1)
    ·exact .inr ⟨e,sz,es,es',q7n _ h1,h2⟩
 | @els k e sz es es' H H' hp h ih=>
   refine⟨by simp[ih.1],fun j c' hj=>?_⟩;rcases q7r.1 hj with hj|hj
   ·cases hj;exact .inr ⟨e,sz,es,es',q7d,rfl,hp⟩
   ·rcases ih.2 j c' hj with h1|⟨e,sz,es,es',h1,h2⟩
    ·exact .inl (q7n _ h1)
    ·exact .inr ⟨e,sz,es,es',q7n _ h1,h2⟩
theorem Le.els{N:Nat}{sl:List (Nat×LV)}{H H':Heap}(h:SubH H H'):Le N ⟨sl,H⟩ ⟨sl,H'⟩:=fun σ β a w hr=>by
 obtain⟨hk,hc⟩:=h.get;refine⟨σ,β,⟨hr.size,hr.defers,hr.slots,⟨hr.heap.mem,fun j c' hj=>?_,by show(H'.map (·.1)).Nodup;rw[hk];exact hr.heap.nodup,fun j hj=>hr.heap.apart j (by rw[<-hk];exact hj),fun j hj j' hj'=>hr.heap.inj j (by rw[<-hk];exact hj) j' (by rw[<-hk];exact hj')⟩⟩,Mem.le_refl σ,Frm.refl _ w,fun b h0 h1=>absurd h0 h1,fun b ⟨j,hj,r⟩=>.inl ⟨j,by rw[<-hk];exact hj,r⟩,fun _ _ _=>rfl⟩;rcases hc j c' hj with h1|⟨e,sz,es,es',h1,rfl,h2⟩
 ·exact hr.heap.chunks j c' h1
 ·rcases hr.heap.chunks j _ h1 with⟨h3,h4⟩|⟨i,vs,h3,h4,h5,h6,h7,h8,h9⟩
  ·refine .inl ⟨h3,?_⟩;have:=h2.1;rw[h4]at this;exact x0v this
  ·refine .inr ⟨i,vs,h3,h4,h5,h6,by rw[h2.1];exact h7,h8,fun m x' hx=>?_⟩;obtain⟨x,g1,g2,g3⟩:=h2.2 m x' hx;refine⟨by rw[g2];exact(h9 m x g1).1,fun j c' hc=>?_⟩;obtain⟨c,g4,g5⟩:=g3 j c' hc;obtain⟨u,g6,g7⟩:=(h9 m x g1).2 j c g4;exact⟨u,g6,g5 _ _ g7⟩
def nxE(rows:List (List Int))(t:Int×Int):List (List Int):=rows.set t.1.toNat (rows.getD t.1.toNat []++[t.2])
def MS(n:Nat)(l:List (Int×Int)):List (List Int):=l.foldl nxE (List.replicate n [])
theorem SL(rows:List (List Int))(t:Int×Int):(nxE rows t).length=rows.length:=x0d
theorem Dd:∀(l:List (Int×Int))(rows:List (List Int)),(l.foldl nxE rows).length=rows.length
 |[],_=>rfl
 |t::r,rows=>by rw[x0s,Dd r,SL]
theorem U9(n:Nat)(l:List (Int×Int)):(MS n l).length=n:=by
 unfold MS;rw[Dd,q9d]
theorem Df:∀(l:List (Int×Int))(rows:List (List Int))(a:Nat),((l.foldl nxE rows).getD a []).length<=(rows.getD a []).length+l.length
 |[],_,_=>q8z _
 | t::r,rows,a=>by
   rw[x0s];have h1:=Df r (nxE rows t) a;have h2:((nxE rows t).getD a []).length<=(rows.getD a []).length+1:=by
    unfold nxE;simp only[q7h,x2g];by_cases he:t.1.toNat=a
    ·subst he;by_cases hl:t.1.toNat<rows.length
     ·simp[hl]
     ·simp[hl]
    ·simp[he]
   rw[q8s];omega
theorem Bv(n:Nat)(l:List (Int×Int))(a:Nat):((MS n l).getD a []).length<=l.length:=by
 have:=Df l (List.replicate n []) a;have e:((List.replicate n ([]:List Int)).getD a []).length=0:=by
  rw[q7h,q8l];split<;>rfl
 unfold MS;omega
inductive SlRel(P:LV->LV->Prop):List (Nat×LV)->List (Nat×LV)->Prop
 |nil:SlRel P [] []
 |cons {j:Nat} {l l':LV} {r r':List (Nat×LV)} (h:P l l') (hr:SlRel P r r'):SlRel P ((j,l)::r) ((j,l')::r')
theorem SlRel.get{P:LV->LV->Prop}(h0:P (.p .any) (.p .any)){sl sl':List (Nat×LV)}(h:SlRel P sl sl')(i:Nat):P (getS sl i) (getS sl' i):=by
 induction h with
 |nil=>exact h0
 | @cons j l l' r r' h hr ih=>
   simp only[getS];cases j==i with
   |true=>exact h
   |false=>exact ih
theorem SB{N':Nat}{sl:List (Nat×LV)}(n:Nat)(h0:(sl.all fun x=>x.2.xfree 0)=true):
  Le N' ⟨sl,[(0,.own 29 1 (List.replicate n .nils))]⟩ ⟨sl,[(0,.ext (.mat 29 3 1 (List.replicate n []) []))]⟩:=by
 have hm:=ND (N:=N') (sl:=sl) (H:=[(0,.own 29 1 (List.replicate n .nils))])
  (H':=[(0,.ext (.mat 29 3 1 (List.replicate (List.replicate n AV.nils).length []) []))])
  0 3 1 (e:=29) (es:=List.replicate n .nils) rfl (fun x hx=>x0a hx) rfl h0 rfl rfl (by simp[KM])
 simpa using hm
end Go.Ab
