/- Maps of the call's own whose values are rows of its own: made, looked into, written, laid by; a map whose values are data, gone through. Conditions: the table of types is the program's own. -/
import Derived.Maps.RangeRun
import Derived.Test.YtonbdgcjnecapaaGreatRchC11
import Derived.Test.YtonbdgcjnecapaaGreatRchC14
import Derived.Test.YtonbdgcjnecapaaGreatRchC20
import Derived.Test.YtonbdgcjnecapaaGreatRchC21
set_option linter.all false
set_option maxRecDepth 100000
set_option maxHeartbeats 16000000
namespace Go.Ab
open Go.Proofs.Tryz
variable {α:Type}{K:St->Prop}{e k sz:Nat}{l:List (List UInt8×List AV)}{o:Oper}{t:TypeId}
section
variable {P:Program}{T:Tab}{N:Nat}
def B1(l:List (List UInt8×List AV))(k:List UInt8):List AV:=(M4 l k).getD []
def Sr{s s':St}{σ:Mem}{β:Lab}{ac:Act}{w:World}(R:Rel N σ β s ac w){q:Nat}(hu:WW q s=true){i i':BInfo}{o2:Option BInfo}(hi:β k=some i){c0:Chunk}(hg:getH s.H k=some c0)(F:i'.blk=i.blk/\i'.cap=i.cap/\i'.sz=i.sz)(hhas:∀b,i'.has b->i.has b)(g:∀J,o2=some J->∀b,J.has b->i.has b/\¬i'.has b)(hpin:ZY k=false){c c2:Chunk}(h:KP s k q c c2 fun s2=>s2=s')(hc:∀β':Lab,β' k=some i'->β' q=o2->c.holds σ β' w k/\c2.holds σ β' w q):
  ∃β',Rel N σ β' s' ac w/\Later σ β s.H w σ β' s'.H w/\β' q=o2/\β' k=some i'/\∀l v,l.xfree k=true->l.free q=true->RepL σ β l v->RepL σ β' l v:=by
 obtain⟨sl,h,hsl⟩:=WY (by rfl) h;obtain⟨H2,rfl,U,Q⟩:=WJ h;obtain⟨hu1,hu2⟩:=XA hu;have hu3:=YX hu;have hk1:=QM hg;have hne:k≠q:=fun he=>(hu1 k _ (QD hg)).1 he;have hnm:q∉s.H.map (·.1):=fun hk=>by
  obtain⟨⟨j,c⟩,I,rfl⟩:=x0n.1 hk;exact(hu1 j c I).1 rfl
 have O:∀j∈H2.map (·.1),j∈s.H.map (·.1)/\j≠q:=fun j z=>by
  refine⟨U.subset z,fun he=>?_⟩;obtain⟨⟨j',c⟩,I,rfl⟩:=x0n.1 z;exact(Q j' c I).1 he
 let β':Lab:=(β.set k (some i')).set q o2;have a:∀j,j≠k->j≠q->β' j=β j:=fun j p x=>by simp[β',Lab.set,p,x]
 have r:β' k=some i':=by simp[β',Lab.set,hne]
 have n:β' q=o2:=by simp[β',Lab.set]
 have hlv:∀l v,l.xfree k=true->l.free q=true->RepL σ β l v->RepL σ β' l v:=fun l v p x hl=>(hl.subs (i':=i') hi F p).set o2 x;have hkf:∀l:LV,l.free q=true->(l.xkill k).free q=true:=fun l h=>by
  unfold LV.xkill;cases l.xfree k
  .rfl
  .exact h
 have B:∀j L,β' j=some L->(j=k\/j=q\/j∈s.H.map (·.1))->∀b,L.has b->∃D V,D∈s.H.map (·.1)/\β D=some V/\V.has b/\(j≠k->j≠q->D=j)/\(j=k\/j=q->D=k):=fun j L y z b F=>by
  by_cases p:j=k
  .subst p;rw[r]at y;cases y;exact⟨_,i,hk1,hi,hhas b F,fun h=>absurd rfl h,fun _=>rfl⟩
  .by_cases x:j=q
   .subst x;rw[n]at y;exact⟨k,i,hk1,hi,(g L y b F).1,fun _ h=>absurd rfl h,fun _=>rfl⟩
   .rw [a j p x]at y;exact⟨j,L,(z.resolve_left p).resolve_left x,y,F,fun _ _=>rfl,fun h=>absurd h (by simp[p,x])⟩
 have f:∀j∈((q,c2)::H2).map (·.1),j=k\/j=q\/j∈s.H.map (·.1):=fun j z=>by
  simp only[x1j,x0p]at z;rcases z with z|z
  .exact .inr (.inl z)
  .exact .inr (.inr (O j z).1)
 obtain⟨hck,hck2⟩:=hc β' r n;refine⟨β',⟨R.size,R.defers,fun j=>?_,⟨R.heap.mem,fun j c z=>?_,?_,fun j z L y b F=>?_,fun j z j' hj' i1 J p x b hb1 hb2=>?_⟩⟩,⟨Mem.le_refl σ,Frm.refl _ _,fun _ h0 p=>absurd h0 p,fun b ⟨j,z,L,y,F⟩=>?_,fun j h0 p=>a j (M0 hpin j h0 p) (by omega)⟩,n,r,hlv⟩
 .show RepL σ β' (getS sl j) _;rw[hsl];exact hlv _ _ (ZM k _) (hkf _ (hu2 j)) ((R.E j).xkill k)
 .rcases x0p.1 z with he|z
  .cases he;exact hck2
  .obtain ⟨G,⟨rfl,rfl⟩|⟨p,c0,x,rfl⟩⟩:=Q j c z
   .exact hck
   .have hfr:=(hu1 j c0 x);have A:=R.heap.chunks j c0 x;cases c0 with
    | obj e' cs=>
      obtain⟨J,vs2,hi2,hh2,hn2,hc2⟩:=A;refine⟨J,vs2,(a j p G).trans hi2,hh2,by simpa using hn2,fun m l I=>?_⟩;rw[x0d]at I;cases hq:cs[m]?with
      |none=>rw[hq]at I;cases I
      | some l'=>
        rw[hq]at I;cases I;obtain⟨u,h5,Z⟩:=hc2 m l' hq;exact⟨u,h5,hlv _ _ (ZM k _) (hkf _ (XG hfr.2 m l' hq)) (Z.xkill k)⟩
    | own e' sz' es'=>
      rcases A with⟨h5,Z⟩|⟨J,vs2,hi2,rest⟩
      .exact .inl ⟨(a j p G).trans h5,Z⟩
      .exact .inr ⟨J,vs2,(a j p G).trans hi2,rest⟩
    | ext d=>
      show d.holds σ (β' j) w;rw[a j p G];exact A
 .simp only[x1j,x2u];exact⟨fun hk=>(O q hk).2 rfl,U.nodup R.heap.nodup⟩
 .obtain ⟨D,V,p,x,h3,_⟩:=B j L y (f j z) b F;exact R.heap.apart D p V x b h3
 .obtain ⟨D,V,h3,h4,h5,Z,h7⟩:=B j i1 p (f j z) b hb1;obtain⟨j1,i3,h8,h9,h10,Y,h12⟩:=B j' J x (f j' hj') b hb2;have hj01:=R.heap.inj D h3 j1 h8 V i3 h4 h9 b h5 h10;by_cases M:j=k<;>by_cases e2:j'=k
  .rw [M,e2]
  .by_cases C:j'=q
   .subst M C;rw[r]at p;cases p;rw[n]at x;exact absurd hb1 (g J x b hb2).2
   .have:=h7 (.inl M);have:=Y e2 C;exact absurd (by omega) e2
  .by_cases C:j=q
   .subst e2 C;rw[r]at x;cases x;rw[n]at p;exact absurd hb2 (g i1 p b hb1).2
   .have:=h12 (.inl e2);have:=Z M C;exact absurd (by omega) M
  .by_cases C:j=q<;>by_cases e4:j'=q
   .rw [C,e4]
   .have:=h7 (.inr C);have:=Y e2 e4;exact absurd (by omega) e2
   .have:=h12 (.inr e4);have:=Z M C;exact absurd (by omega) M
   .have:=Z M C;have:=Y e2 e4;omega
 .obtain ⟨D,V,p,x,h3,_⟩:=B j L y (f j z) b F;exact .inl ⟨D,p,V,x,h3⟩
def Bd{s:St}(e sz:Nat)(m:o.op=.makeMap t none)(h:HL 60 0 s fun k=>setD N s.sl o.dst (.ext k .map) fun sl=>K ⟨sl,(k,.ext (.mapr e sz [] none))::s.H⟩):OpK P N s o K:=by
 refine⟨fun σ β a w y Q=>?_⟩;obtain⟨k,q,h⟩:=UB h;have i:(Chunk.ext (.mapr e sz [] none)).holds σ (β.set k (some ⟨w.heap.size,0,0,[],x0l _⟩)) (w.alloc (.map #[] 0)) k:=
  ⟨⟨w.heap.size,0,0,[],x0l _⟩,#[],0,by simp[Lab.set],heap_alloc_new w _,⟨.nil,fun x z=>by cases z⟩,rfl,rfl,.nil,fun a b c h=>by simp at h,fun a x h=>by simp at h⟩
 obtain⟨n,r⟩:=y.new q rfl rfl i;obtain⟨sl,p,j⟩:=n.setD (v:=.ext k .map) (u:=.map (some w.heap.size)) (.ext k .map ⟨w.heap.size,0,0,[],x0l _⟩ _ (by simp[Lab.set]) rfl) h;exact XI (w':=w.alloc (.map #[] 0)) (by simp[execOp,m,Instr.makeMap]) ⟨σ,_,_,p,j,r⟩
def CH{l:List (List UInt8×α)}{es:Array MapEntry}(q:es.size=l.length)(j:∀(m:Nat)(x:List UInt8×α),l[m]?=some x->∃e:MapEntry,es[m]?=some e/\e.key=YK x.1):es.toList.map (·.key)=l.map (fun x=>YK x.1):=by
 apply x6d;intro m;rw[x0d,x0d];cases i:l[m]?with
 | none=>
   have:es.toList[m]?=none:=by
    rw[List.getElem?_eq_none_iff]at i⊢;simp;omega
   rw[this];rfl
 | some x=>
   obtain⟨e,n,p⟩:=j m x i;have h:es.toList[m]?=some e:=by simpa using n
   rw[h];simp[p]
def Ct{l:List (List UInt8×α)}{k:List UInt8}(h:(l.findIdx? fun x=>decide (k=x.1))=none):M4 l k=none:=by
 unfold M4;rw[List.findIdx?_eq_none_iff]at h;rw[x3a.2 fun x i=>by simpa using h x i];rfl
def Pk{l:List (List UInt8×α)}{k:List UInt8}{j:Nat}(h:(l.findIdx? fun x=>decide (k=x.1))=some j):∃x,l[j]?=some x/\x.1=k/\M4 l k=some x.2:=by
 obtain⟨m,n,p⟩:=List.findIdx?_eq_some_iff_getElem.1 h;refine⟨l[j],x0u m,(by simpa using n:k=l[j].1).symm,?_⟩;unfold M4;have:l.find? (fun x=>decide (k=x.1))=some l[j]:=List.find?_eq_some_iff_getElem.2 ⟨n,j,m,rfl,fun i q=>by simpa using p i q⟩;rw[this];rfl
def RU{l:List (List UInt8×α)}(h:(l.map (·.1)).Nodup){i j:Nat}{x y:List UInt8×α}(q:l[i]?=some x)(r:l[j]?=some y)(p:x.1=y.1):i=j:=by
 have m:=(x0m.1 q);have n:=(x0m.1 r);obtain⟨m,rfl⟩:=m;obtain⟨n,rfl⟩:=n;refine(List.getElem_inj (h₀:=by simpa using m) (h₁:=by simpa using n) h).1 ?_;simpa using p
def SH(hT:TabOK P T){s:St}{x ix:Operand}(J:Nat)(hop:o.op=.lookup t x ix false)(hx:QL s.sl x=.ext k .map)(hg:getH s.H k=some (.ext (.mapr e sz l none))){z:List UInt8}(hk:QL s.sl ix=.p (.str z)){i ik ie:TyI}{kt et:TypeId}(ht:T.get t=some i)(hd:i.desc=.map kt et)(htk:T.get kt=some ik)(hdk:ik.desc=.string)(hte:T.get et=some ie)(hze:ie.zero=.slice none 0 0)(hu:WW J s=true)(hpin:ZY k=false)(h:KP s k J (.ext (.mapr e sz l (some z))) (.own e sz (B1 l z)) fun s2=>setD N s2.sl o.dst (.hd J 0 (B1 l z).length) fun sl=>K ⟨sl,s2.H⟩):OpK P N s o K:=by
 obtain⟨s2,h,he⟩:=Kd h;refine⟨fun σ β a w hr Q=>?_⟩;have hx':=QZ hr.E x;have hk':=QZ hr.E ix;rw[hx]at hx';rw[hk]at hk';have hkv:=Tv hk';generalize hxe:a.eval x=xv at hx';cases hx' with
 | ext _ _ f _ hbi hd'=>
   obtain rfl:xv=.map (some f.blk):=hd';obtain⟨bi',es,R,M,hh,hbo,h1,h2,h3,h4,h5⟩:=hr.heap.chunks k _ (QD hg);rw[hbi]at M;cases M;have V:=CH h1 fun m x hm=>let ⟨U,g1,g2,_⟩:=h5 m x hm;⟨U,g1,g2⟩;have hu':=hT.of ht;have G:=hT.of htk;rw[hd]at hu';rw[hdk]at G;have n:=FT z es.toList l 0 V;let i':BInfo:=⟨f.blk,f.cap,f.sz,List.zipWith (fun(x:List UInt8×List AV) o=>if x.1=z then none else o) l f.subs,f.ok⟩;have d:∀(p:Nat)(x:List UInt8×List AV),l[p]?=some x->i'.subs[p]?=if x.1=z then some none else f.subs[p]?:=fun p x g=>by
    show(List.zipWith _ l f.subs)[p]?=_;have F:p<f.subs.length:=by rw[h2];exact(x0m.1 g).1
    rw[List.getElem?_zipWith,g,x0u F];simp only;split<;>rfl
   have u:∀(p b c:Nat),i'.subs[p]?=some (some (b,c))->f.subs[p]?=some (some (b,c))/\∃x,l[p]?=some x/\x.1≠z:=fun p b c g=>by
    have F:p<l.length:=by
     have:=(x0m.1 g).1;simp only[i',x6o]at this;omega
    have D:=d p _ (x0u F);rw[g]at D;split at D
    .cases D
    .rename_i h7;exact⟨D.symm,_,x0u F,h7⟩
   have hhas:∀b,i'.has b->f.has b:=fun b A=>by
    rcases A with A|⟨c,A⟩
    .exact .inl A
    .obtain ⟨p,g⟩:=x3y.1 A;exact .inr ⟨c,x0i (u p b c g).1⟩
   have Y:∀β':Lab,β' k=some i'->(Chunk.ext (.mapr e sz l (some z))).holds σ β' w k:=fun β' I=>by
    refine⟨i',es,R,I,hh,hbo,h1,by show(List.zipWith _ l f.subs).length=_;rw[x6o,h2];omega,h3,fun p b c g=>?_,fun p x g=>?_⟩
    .obtain ⟨D,_⟩:=u p b c g;exact⟨(h4 p b c D).1,fun p' c' Z=>(h4 p b c D).2 p' c' (u p' b c' Z).1⟩
    .obtain ⟨U,g1,g2,_,g4⟩:=h5 p x g;refine⟨U,g1,g2,fun hq=>?_,fun hq=>?_⟩
     .rw [d p x g,if_pos (x3h hq).symm]
     .obtain ⟨b,c,ws,q1,q2⟩:=g4 (by simp);refine⟨b,c,ws,?_,q2⟩;rw[d p x g,if_neg (fun hh=>hq (by rw[hh]))];exact q1
   obtain⟨o2,L,ho2,hrun,hown,hrep⟩ : ∃(o2:Option BInfo) (L:Value),(∀O,o2=some O->O.subs=[]/\∃(p c:Nat) (x:List UInt8×List AV),l[p]?=some x/\x.1=z/\f.subs[p]?=some (some (O.blk,c)))/\(execOp a.eval o).run P w=.ok (.value L) w/\
     (∀β':Lab,β' J=o2->(Chunk.own e sz (B1 l z)).holds σ β' w J)/\∀β':Lab,β' J=o2->RepL σ β' (.hd J 0 (B1 l z).length) L:=by
    have C:∀(L:Value)(r:Option (Nat×Value)),(Instr.findKey kt (YK z) es.toList).run P w=.ok r w->(r=none->L=.slice none 0 0)->(∀q,r=some q->L=q.2)->(execOp a.eval o).run P w=.ok (.value L) w:=fun L r hfk hn hs=>by
     have hlk:(Instr.lookup t (.map (some f.blk)) (YK z) false).run P w=.ok L w:=by
      unfold Instr.lookup;rw[Sem.run_bind,run_underlying hu',Result.andThen_ok];simp only[Sem.run_bind,UP hh,Result.andThen_ok,Sem.run_pure,YC G,hfk];cases r with
      | none=>
        rw[hn rfl];simp only[Sem.run_bind,TyOK.zeroValue (hT _ _ hte),hze,Result.andThen_ok,Sem.run_pure];rfl
      | some q=>
        rw[hs q rfl];rfl
     simp only[execOp,hop,hxe,hkv,Sem.run_bind,hlk,Result.andThen_ok];rfl
    cases hj:l.findIdx? fun x=>decide (z=x.1)with
    | none=>
      rw[hj]at n;have v:B1 l z=[]:=by unfold B1;rw[Ct hj];rfl
      refine⟨none,.slice none 0 0,fun O h=>(by cases h),C _ none ?_ (fun _=>rfl) (fun q h=>by cases h),fun β' I=>.inl ⟨I,v⟩,fun β' I=>?_⟩
      .unfold Instr.findKey;rw[Sem.run_bind,run_underlying G,Result.andThen_ok,n];rfl
      .rw [v];exact .hdn J I
    | some j=>
      rw[hj]at n;obtain⟨y,hy1,hy2,hy3⟩:=Pk hj;have v:B1 l z=y.2:=by unfold B1;rw[hy3];rfl
      obtain⟨U,g1,g2,_,g4⟩:=h5 j y hy1;obtain⟨b,c,ws,q1,q2,q3,q4,q5,q6,q7⟩:=g4 (by simp);have g1':es.toList[j]?=some U:=by simpa using g1
      simp only[g1',x4y,x2k]at n;refine⟨some ⟨b,c,sz,[],q6⟩,U.val,fun O h=>?_,C _ (some (0+j,U.val)) ?_ (fun h=>by cases h) (fun q h=>by cases h;rfl),fun β' I=>?_,fun β' I=>?_⟩
      .cases h;exact⟨rfl,j,c,y,hy1,hy2,q1⟩
      .unfold Instr.findKey;rw[Sem.run_bind,run_underlying G,Result.andThen_ok,n];rfl
      .rw [v];exact .inr ⟨⟨b,c,sz,[],q6⟩,ws,I,rfl,q3,q4,q5,q6,q7⟩
      .rw [v,q2];have:=x7w (σ:=σ) (β:=β') J 0 y.2.length ⟨b,c,sz,[],q6⟩ 0 I (by simpa using q5) (.inl (by simp));simpa using this
   obtain⟨β',hr',hl,hb2,_,_⟩:=Sr (i':=i') (o2:=o2) hr hu hbi hg ⟨rfl,rfl,rfl⟩ hhas (fun O h b A=>by
    obtain⟨D,p,c,x,h7,h8,h9⟩:=ho2 O h;have he:O.blk=b:=by
     rcases A with A|⟨c,A⟩
     .exact A
     .rw [D]at A;cases A
    subst he;refine⟨.inr ⟨c,x0i h9⟩,fun B=>?_⟩;rcases B with B|⟨c',B⟩
    .exact (h4 p _ c h9).1 B
    .obtain ⟨p',Z⟩:=x3y.1 B;obtain⟨h10,x',h11,h12⟩:=u p' _ c' Z;obtain rfl:=(h4 p _ c h9).2 p' c' h10;rw[h7]at h11;cases h11;exact h12 h8) hpin he fun β' g1 g2=>⟨Y β' g1,hown β' g2⟩
   obtain⟨sl,hK,hr''⟩:=hr'.setD (hrep β' hb2) h;exact XI hrun ⟨σ,β',_,hK,hr'',hl⟩
def EX(hT:TabOK P T){s:St}{x ix vx:Operand}(hop:o.op=.mapUpdate t x ix vx)(hdst:o.dst=none)(hx:QL s.sl x=.ext k .map){q:List UInt8}(hg:getH s.H k=some (.ext (.mapr e sz l (some q))))(hk:QL s.sl ix=.p (.str q)){V n:Nat}(hvx:QL s.sl vx=.hd V 0 n){g:List AV}(hg2:getH s.H V=some (.own e sz g))(hn:n=g.length)(hpos:0<n){i ik:TyI}{kt et:TypeId}(ht:T.get t=some i)(hd:i.desc=.map kt et)(htk:T.get kt=some ik)(hdk:ik.desc=.string)(hpin:(ZY k||ZY V)=false)(hne:k≠V)(h:CR s k V (.ext (.mapr e sz (PN l q g) none)) K):OpK P N s o K:=by
 refine⟨fun σ β a w M Q=>?_⟩;obtain⟨sl,h,hsl⟩:=WY (by rfl) h;obtain⟨H2,hK,hsub,hmem⟩:=WJ h;simp only[x5u]at hpin;have hx':=QZ M.E x;have hk':=QZ M.E ix;have hv':=QZ M.E vx;rw[hx]at hx';rw[hk]at hk';rw[hvx]at hv';have hkv:=Tv hk';have hk1:=QM hg;have hk2:=QM hg2;generalize hxe:a.eval x=xv at hx';generalize hve:a.eval vx=vv at hv';cases hx' with
 |ext _ _ f _ hbi hd'=>
 obtain rfl:xv=.map (some f.blk):=hd';obtain⟨bi',es,O,hbi',hh,hbo,G,h2,h3,h4,h5⟩:=M.heap.chunks k _ (QD hg);rw[hbi]at hbi';cases hbi';obtain⟨B,ws,R,hvv,r1,r2,r3,r4,r5⟩ : ∃B ws,β V=some B/\vv=.slice (some ⟨B.blk,0,none⟩) g.length B.cap/\w.heap[B.blk]?=some (.cells ws e (0,0))/\ws.size=B.cap*sz/\g.length<=B.cap/\B.cap<=maxLen/\
   ∀(m:Nat)(x:AV),g[m]?=some x->x.cells.length=sz/\∀(j:Nat)(c':AV),x.cells[j]?=some c'->∃u:Value,ws[m*sz+j]?=some u/\Rep σ c' u:=by
  rcases M.heap.chunks V _ (QD hg2)with⟨_,hes⟩|⟨B,ws,R,g1,g2,g3,g4,g5,g6⟩
  .rw [hes]at hn;simp at hn;omega
  .rcases hv'.hdI with⟨hk,_⟩|⟨i3,oo,hk,hl,ho,d⟩
   .rw [R]at hk;cases hk
   .rw [R]at hk;cases hk;have hoo:oo=0:=by
     rcases ho with ho|ho
     .simpa using ho
     .omega
    subst hoo;exact⟨B,ws,R,by rw[d,hn];simp,g2,by rw[g3],g4,g5,g6⟩
 have hkeys:=CH G fun m x hm=>let ⟨Y,g1,g2,_⟩:=h5 m x hm;⟨Y,g1,g2⟩;have hu':=hT.of ht;have huk:=hT.of htk;rw[hd]at hu';rw[hdk]at huk;have F:=FT q es.toList l 0 hkeys;have hlt:=(M.heap.apart k hk1 f hbi f.blk f.has_blk).2;obtain⟨es',r,C,hrun,hbo',hsz,hsl',hnd',hent⟩ : ∃(es':Array MapEntry) (r:Nat) (C:List (Option (Nat×Nat))),(Instr.mapUpdate t (.map (some f.blk)) (YK q) vv).run P w=.ok () {w with heap:=w.heap.setIfInBounds f.blk (.map es' r)}/\Zi es' r/\es'.size=(PN l q g).length/\C.length=(PN l q g).length/\((PN l q g).map (·.1)).Nodup/\
   ∀(m:Nat)(x:List UInt8×List AV),(PN l q g)[m]?=some x->∃Y:MapEntry,es'[m]?=some Y/\Y.key=YK x.1/\(x.1=q->Y.val=vv/\C[m]?=some (some (B.blk,B.cap))/\x.2=g)/\(x.1≠q->l[m]?=some x/\es[m]?=some Y/\C[m]?=f.subs[m]?):=by
  cases L:l.findIdx? fun x=>decide (q=x.1)with
  | none=>
    rw[L]at F;rw[Jw L];refine⟨es.push {key:=YK q,val:=vv,born:=O},O+1,f.subs++[some (B.blk,B.cap)],?_,U4 hbo rfl,by simpa using G,by simp[h2],?_,fun m y hy=>?_⟩
    .have hfk:(Instr.findKey kt (YK q) es.toList).run P w=.ok none w:=by
      unfold Instr.findKey;rw[Sem.run_bind,run_underlying huk,Result.andThen_ok,F];rfl
     unfold Instr.mapUpdate;rw[Sem.run_bind,run_underlying hu',Result.andThen_ok];simp only[Sem.run_bind,UP hh,Result.andThen_ok,Sem.run_pure,YC huk,hfk,BL _ hh]
    .rw [x0c,x2b];refine⟨h3,by simp,fun u hu v hv=>?_⟩;simp only[x1j,x5j,x0b]at hv;obtain⟨z,hz,rfl⟩:=x0n.1 hu;have:=List.findIdx?_eq_none_iff.1 L z hz;intro d;rw[d,hv]at this;simp at this
    .rw [x4v]at hy;split at hy
     .rename_i hm;obtain⟨Y,g1,g2,_⟩:=h5 m y hy;have hyk:y.1≠q:=fun d=>by
       have:=List.findIdx?_eq_none_iff.1 L y (x0i hy);rw[d]at this;simp at this
      have hms:m<es.size:=by omega
      exact⟨Y,by rw[x6q,if_neg (by omega)];exact g1,g2,fun d=>absurd d hyk,fun _=>⟨hy,g1,by rw[x2j (by omega)]⟩⟩
     .rename_i hm;have hm0:m-l.length=0:=by
       have:=(x0m.1 hy).1;simp at this;omega
      rw[hm0]at hy;simp at hy;subst hy;exact⟨{key:=YK q,val:=vv,born:=O},by rw[x6q,if_pos (by omega)],rfl,fun _=>⟨rfl,by rw[x2q (by omega),h2,hm0];rfl,rfl⟩,fun d=>absurd rfl d⟩
  | some j=>
    rw[L]at F;obtain⟨y,hy1,hy2⟩:=M1 (v:=g) L;obtain⟨y',hy3,hy4,_⟩:=Pk L;rw[hy1]at hy3;cases hy3;rw[hy2];obtain⟨Y,g1,g2,g3,_⟩:=h5 j y hy1;have g1':es.toList[j]?=some Y:=by simpa using g1
    have hjlt:j<es.size:=(x1y.1 g1).1;simp only[g1',x4y,x2k,x3v]at F;have hek:Y.key=YK q:=by rw[g2,hy4];rfl
    refine⟨es.modify j fun e=>{e with key:=YK q,val:=vv},O,f.subs.set j (some (B.blk,B.cap)),?_,LH hbo j fun _=>rfl,by simpa using G,by simp[h2],?_,fun m z hz=>?_⟩
    .have hfk:(Instr.findKey kt (YK q) es.toList).run P w=.ok (some (j,Y.val)) w:=by
      unfold Instr.findKey;rw[Sem.run_bind,run_underlying huk,Result.andThen_ok,F];rfl
     have hkt:(Instr.keyThatStays (((es[j]?).map (·.key)).getD (YK q)) (YK q)).run P w=.ok (YK q) w:=by
      rw[g1];simp only[x4y,x2k,hek];unfold Instr.keyThatStays;have:Instr.sameBits 10000 (YK q) (YK q)=true:=by
       unfold YK;show((⟨q.toArray⟩:ByteArray)==⟨q.toArray⟩)=true;rw[U5];simp
      rw[if_pos this];rfl
     unfold Instr.mapUpdate;rw[Sem.run_bind,run_underlying hu',Result.andThen_ok];simp only[Sem.run_bind,UP hh,Result.andThen_ok,Sem.run_pure,YC huk,hfk,hkt,BL _ hh]
    .rw [x2y];have:(l.map (·.1)).set j y.1=l.map (·.1):=by
      apply x6d;intro m;by_cases hm:m=j
      .subst hm;have hml:m<l.length:=(x0m.1 hy1).1;rw[x2p (by simpa using hml),x0d,hy1];rfl
      .rw [x2i (x4g hm)]
     rw[this];exact h3
    .by_cases hm:m=j
     .subst hm;rw[x2p (by omega)]at hz;cases hz;exact⟨{Y with key:=YK q,val:=vv},by simp[x4f,g1],by rw[hy4],fun _=>⟨rfl,by rw[x2p (by omega)],rfl⟩,fun d=>absurd hy4 d⟩
     .rw [x2i (x4g hm)]at hz;obtain⟨e'',g4,g5,_⟩:=h5 m z hz;have hzk:z.1≠q:=fun d=>hm (RU h3 hz hy1 (by rw[d,hy4]));exact⟨e'',by rw[x4f,if_neg (x4g hm)];exact g4,g5,fun d=>absurd d hzk,fun _=>⟨hz,g4,by rw[x2i (x4g hm)]⟩⟩
 have hrun':(execOp a.eval o).run P w=.ok .skip {w with heap:=w.heap.setIfInBounds f.blk (.map es' r)}:=by
  simp only[execOp,hop,hxe,hkv,hve,Sem.run_bind,hrun,Result.andThen_ok];rfl
 let w':World:={w with heap:=w.heap.setIfInBounds f.blk (.map es' r)};let i':BInfo:=⟨f.blk,f.cap,f.sz,C,f.ok⟩;let β':Lab:=(β.set V none).set k (some i');have hset:∀j,j≠k->j≠V->β' j=β j:=fun j G h2=>by simp[β',Lab.set,G,h2]
 have hsetk:β' k=some i':=by simp[β',Lab.set]
 have A:∀b,b≠f.blk->w'.heap[b]?=w.heap[b]?:=fun b J=>x4w (x4g J);have U:∀(p b c:Nat),C[p]?=some (some (b,c))->(b=B.blk/\∃x,(PN l q g)[p]?=some x/\x.1=q)\/(f.subs[p]?=some (some (b,c))/\∃x,(PN l q g)[p]?=some x/\x.1≠q):=fun p b c hp=>by
  have hlt:p<(PN l q g).length:=by
   have:=(x0m.1 hp).1;omega
  have hq:=x0u hlt;obtain⟨Y,_,_,g3,g4⟩:=hent p _ hq;by_cases d:((PN l q g)[p]).1=q
  .obtain ⟨_,g5,_⟩:=g3 d;rw[hp]at g5;cases g5;exact .inl ⟨rfl,_,hq,d⟩
  .obtain ⟨_,_,g5⟩:=g4 d;rw[hp]at g5;exact .inr ⟨g5.symm,_,hq,d⟩
 have hhas:∀b,i'.has b->f.has b\/B.has b:=fun b J=>by
  rcases J with J|⟨c,J⟩
  .exact .inl (.inl J)
  .obtain ⟨p,hp⟩:=x3y.1 J;rcases U p b c hp with⟨Z,_⟩|⟨Z,_⟩
   .exact .inr (.inl Z.symm)
   .exact .inl (.inr ⟨c,x0i Z⟩)
 have D:∀b,f.has b->¬B.has b:=fun b Z h7=>hne (M.heap.inj k hk1 V hk2 f B hbi R b Z h7);have hlab:∀j∈H2.map (·.1),j∈s.H.map (·.1)/\j≠V:=fun j L=>by
  refine⟨hsub.subset L,fun d=>?_⟩;obtain⟨⟨j',c⟩,hm,rfl⟩:=x0n.1 L;exact(hmem j' c hm).1 d
 have hwas:∀j,j≠V->∀ij,β' j=some ij->∀b,ij.has b->(∃i0,β j=some i0/\i0.has b)\/(j=k/\B.has b):=fun j L ij I b J=>by
  by_cases hjk:j=k
  .subst hjk;rw[hsetk]at I;cases I;rcases hhas b J with G|G
   .exact .inl ⟨f,hbi,G⟩
   .exact .inr ⟨rfl,G⟩
  .rw [hset j hjk L]at I;exact .inl ⟨ij,I,J⟩
 have hlv:∀l v,RepL σ β l v->RepL σ β' ((l.kill V).xkill k) v:=fun l v hl=>by
  have G:=((hl.kill V).set none (LV.kill_free V l)).xkill k;exact G.subs (i:=f) (by simp[Lab.set,hne,hbi]) ⟨rfl,rfl,rfl⟩ (ZM k _)
 have hheap:HRel σ β' H2 w':=by
  refine⟨fun b c J=>?_,fun j c L=>?_,hsub.nodup M.heap.nodup,fun j L ij I b J=>?_,fun j L j' hj' i1 i2' G h2 b hb1 hb2=>?_⟩
  .obtain ⟨Y,fr,Z⟩:=M.heap.mem b c J;exact⟨Y,fr,(A b fun d=>by rw[d,(M.heap.apart k hk1 f hbi f.blk f.has_blk).1]at J;cases J).trans Z⟩
  .obtain ⟨hj2,⟨rfl,rfl⟩|⟨hjk,c0,hm0,rfl⟩⟩:=hmem j c L
   .refine ⟨i',es',r,hsetk,by show(w.heap.setIfInBounds f.blk _)[f.blk]?=_;simp[hlt],hbo',hsz,hsl',hnd',fun p b c hp=>?_,fun p x hp=>?_⟩
    .rcases U p b c hp with⟨Z,x,h7,h8⟩|⟨Z,x,h7,h8⟩
     .refine ⟨fun d=>D f.blk f.has_blk (.inl (by rw[<-Z];exact d.symm)),fun p' c' hp'=>?_⟩;rcases U p' b c' hp' with⟨_,x',h9,h10⟩|⟨h9,_⟩
      .exact RU hnd' h9 h7 (by rw[h10,h8])
      .exact absurd (.inl Z.symm) (D b (.inr ⟨c',x0i h9⟩))
     .refine ⟨(h4 p b c Z).1,fun p' c' hp'=>?_⟩;rcases U p' b c' hp' with⟨h9,_⟩|⟨h9,_⟩
      .exact absurd (.inl h9.symm) (D b (.inr ⟨c,x0i Z⟩))
      .exact (h4 p b c Z).2 p' c' h9
    .obtain ⟨Y,g1,g2,g3,g4⟩:=hent p x hp;refine⟨Y,g1,g2,fun hh=>(by cases hh),fun _=>?_⟩;by_cases d:x.1=q
     .obtain ⟨g5,g6,g7⟩:=g3 d;refine⟨B.blk,B.cap,ws,g6,by rw[g5,hvv,g7],(A _ fun hh=>D f.blk f.has_blk (.inl hh)).trans r1,r2,by rw[g7];exact r3,r4,by rw[g7];exact r5⟩
     .obtain ⟨g5,g6,g7⟩:=g4 d;obtain⟨e'',q1,_,_,q4⟩:=h5 p x g5;rw[g6]at q1;cases q1;obtain⟨b,c,ws',q5,q6,q7,q8⟩:=q4 fun hh=>d (x3h hh).symm;exact⟨b,c,ws',by rw[g7];exact q5,q6,(A b fun hh=>(h4 p b c q5).1 hh.symm).trans q7,q8⟩
   .have hjl:j∈s.H.map (·.1):=x0n.2 ⟨_,hm0,rfl⟩;refine(M.heap.chunks j c0 hm0).mapL (Mem.le_refl σ) hlv (hset j hjk hj2) fun ij I b J=>A b fun d=>hjk ?_;exact M.heap.inj j hjl k hk1 ij f I hbi b J (.inl d.symm)
  .obtain ⟨G,h2⟩:=hlab j L;have hsz':w'.heap.size=w.heap.size:=by simp[w']
   rw[hsz'];rcases hwas j h2 ij I b J with⟨i0,h3,h4⟩|⟨_,h4⟩
   .exact M.heap.apart j G i0 h3 b h4
   .exact M.heap.apart V hk2 B R b h4
  .obtain ⟨h3,h4⟩:=hlab j L;obtain⟨h5,Z⟩:=hlab j' hj';rcases hwas j h4 i1 G b hb1 with⟨i3,h7,h8⟩|⟨e1,h8⟩<;>rcases hwas j' Z i2' h2 b hb2 with⟨i4,h9,h10⟩|⟨e2,h10⟩
   .exact M.heap.inj j h3 j' h5 i3 i4 h7 h9 b h8 h10
   .exact absurd (M.heap.inj j h3 V hk2 i3 B h7 R b h8 h10) h4
   .exact absurd (M.heap.inj j' h5 V hk2 i4 B h9 R b h10 h8) Z
   .rw [e1,e2]
 refine Vg hrun' ⟨σ,β',⟨sl,H2⟩,hK,⟨?_,?_,?_,hheap⟩,Mem.le_refl σ,⟨rfl,rfl,rfl,x0o _,by simp,fun b _ hn=>A b fun d=>hn ⟨k,hk1,f,hbi,.inl d.symm⟩⟩,fun b h0 G=>absurd h0 G,fun b ⟨j,L,ij,I,J⟩=>?_,fun j h0 G=>hset j (M0 hpin.1 j h0 G) (M0 hpin.2 j h0 G)⟩
 .rw [hdst];exact M.size
 .rw [hdst];exact M.defers
 .rw [hdst];exact fun j=>by show RepL σ β' (getS sl j) _;rw[hsl];exact hlv _ _ (M.E j)
 .obtain ⟨G,h2⟩:=hlab j L;rcases hwas j h2 ij I b J with⟨i0,h3,h4⟩|⟨_,h4⟩
  .exact .inl ⟨j,G,i0,h3,h4⟩
  .exact .inl ⟨V,hk2,B,R,h4⟩
end
open Go.Proofs
def D0(l:List (Str×List AV))(x:Str×Nat):List (Str×List AV):=PN l x.1 (B1 l x.1++[.int .i64 x.2])
def prsG(G:Nat->List Str)(n:Nat):List (Str×Nat):=(List.range n).flatMap fun a=>(G a).map fun s=>(s,a)
def mapG(l:List (Str×Nat)):List (Str×List AV):=l.foldl D0 []
def GK(l:List (Str×Nat))(x:Str×Nat):mapG (l++[x])=D0 (mapG l) x:=by unfold mapG;rw[x5e];rfl
def DB(G:Nat->List Str)(n:Nat):prsG G (n+1)=prsG G n++(G n).map fun s=>(s,n):=by
 unfold prsG;rw[x4c,x4h];simp
def Cs{l:List (Str×List AV)}{k j:Str}{v:List AV}:M4 (PN l k v) j=if j=k then some v else M4 l j:=by
 induction l with
 |nil=>rw[PN];unfold M4;by_cases h:j=k<;>simp[h]
 | cons x r m=>
   rw[PN];by_cases h:k=x.1
   .rw [if_pos h];unfold M4;by_cases i:j=k
    .simp [i,<-h]
    .have:¬j=x.1:=fun e=>i (e.trans h.symm);simp[i,this]
   .rw [if_neg h];unfold M4 at m⊢;rw[x5y,x5y];by_cases i:j=x.1
    .have:¬j=k:=fun e=>h (e.symm.trans i);simp[i,this];intro e;exact absurd e.symm h
    .rw [x2h i];exact m
def IU(l:List (Str×List AV))(x:Str×Nat)(j:Str):B1 (D0 l x) j=if j=x.1 then B1 l x.1++[.int .i64 x.2]else B1 l j:=by
 unfold D0 B1;rw[Cs];split<;>rfl
def RD(l:List (Str×Nat))(j:Str):B1 (mapG l) j=(l.filter fun x=>decide (x.1=j)).map fun x=>.int .i64 x.2:=by
 have key:∀l:List (Str×Nat),B1 (mapG l.reverse) j=(l.reverse.filter fun x=>decide (x.1=j)).map fun x=>AV.int .i64 x.2:=fun l=>by
  induction l with
  |nil=>rfl
  | cons x r i=>
    rw[x6b,GK,IU,x3k,x0c,<-i];by_cases h:j=x.1
    .subst h;simp
    .have:¬x.1=j:=fun e=>h e.symm;simp[h,this]
 have:=key l.reverse
 rwa[x5i]at this
def IW(l:List (Str×Nat))(j:Str):(B1 (mapG l) j).length<=l.length:=by
 rw[RD,x0j];exact x2l _ _
theorem T0{G:Nat->List Str}(h:∀a,(G a).length<=1000):∀n,(prsG G n).length<=1000*n
 |0=>x0l _
 | n+1=>by
   have:=T0 h n;have:=h n;rw[DB,x0g,x0j];omega
def Ul(b:Book)(p:Pg)(i:Nat)(f:Pr)(n:Nat)(M:n<=5000)(A:b.ways[i]?=some (QQ p i f))(d:(QQ p i f).n=n)(G:Nat->List Str)(g:∀a,a<n->SpecP prog 172 [.ip b.cells,.int .i64 i,.int .i64 a] (fun r=>r=eStrs (G a)))(q:∀a,(G a).length<=1000):SpecH prog 102 [.p (.ip b.cells),.p (.int .i64 i)] [] (fun r H=>r=.tup [.ext 0 .map,.p (.int .i64 (prsG G n).length)]/\H=[(0,.ext (.mapr 3 1 (mapG (prsG G n)) none))]):=by
 refine sH X9 func102 rfl call102 ?_;conv=>whnf
 have y:(b.ways.map fun w=>AV.ip w.cells)[i]?=some (.ip (QQ p i f).cells):=by rw[x0d,A];rfl
 repeat' (first|((first|(refine iM fun _=>?_)|refine dA ?_|refine x0h rfl ?_|refine aD ?_|refine aR ?_|refine bP ?_|(refine iA fun _=>?_)|refine IdxK.xs (by omega) ?_|refine QX (by omega) ?_|(refine ByteK.at (by omega) ?_)|refine wI ?_|refine Bd 3 1 rfl ?_|(refine IdxK.at (k:=i) rfl y rfl ?_));conv=>whnf)|(apply bD<;>intro _<;>first|omega|conv=>whnf)|(apply bE<;>intro _<;>first|omega|conv=>whnf)|(apply bN<;>intro _<;>conv=>whnf)|(apply bB<;>intro _<;>conv=>whnf))
 refine LoopK.inv QK (fun a:Nat=>⟨[(0,.p (.ip b.cells)),(1,.p (.int .i64 i)),(4,.ext 0 .map),(5,.p (.int .i64 (prsG G a).length)),(19,.p (.int .i64 n)),(20,.p (.int .i64 a))],[(0,.ext (.mapr 3 1 (mapG (prsG G a)) none))]⟩) (fun a=>a<=n) (fun a=>n-a) 0 (Le.of_eq (by rw[d];rfl)) (x0l _) ?_;intro a I;have B:(prsG G a).length<=1000*a:=T0 q a;rcases x0t a n with v|v
 .have x:=g a v;have C:=q a;have c:=DB G a;generalize prsG G a=acc at*
  generalize G a=L at*
  have E:(L.map AV.str).length=L.length:=x0j _;conv=>whnf
  repeat' (first|((first|(refine iM fun _=>?_)|refine dA ?_|refine x0h rfl ?_|refine aD ?_|refine aR ?_|refine bP ?_|(refine iA fun _=>?_)|refine IdxK.xs (by omega) ?_|refine QX (by omega) ?_|(refine ByteK.at (by omega) ?_)|refine wI ?_|refine cP x ?_);conv=>whnf)|(apply bD<;>intro _<;>first|omega|conv=>whnf)|(apply bE<;>intro _<;>first|omega|conv=>whnf)|(apply bN<;>intro _<;>conv=>whnf)|(apply bB<;>intro _<;>conv=>whnf))
  refine LoopK.inv QK (fun j:Nat=>⟨[(0,.p (.ip b.cells)),(1,.p (.int .i64 i)),(4,.ext 0 .map),(5,.p (.int .i64 (acc++(L.take j).map fun s=>(s,a)).length)),(6,.p (.int .i64 a)),(19,.p (.int .i64 n)),(20,.p (.int .i64 a)),(26,.p (eStrs L)),(27,.p (.int .i64 (L.map AV.str).length)),(28,.p (.int .i64 j))],[(0,.ext (.mapr 3 1 (mapG (acc++(L.take j).map fun s=>(s,a))) none))]⟩) (fun j=>j<=L.length) (fun j=>L.length-j) 0 (Le.of_eq (by simp;rfl)) (x0l _) ?_;intro j J;rcases x0t j L.length with u|u
  .have z:acc++(L.take (j+1)).map (fun s=>(s,a))=(acc++(L.take j).map fun s=>(s,a))++[(L[j],a)]:=by rw[x0a u,x0c,x1k];rfl
   have D:(acc++(L.take j).map fun s=>(s,a)).length<=5002000:=by rw[x0g,x0j,x1f];omega
   generalize(acc++(L.take j).map fun s=>(s,a))=o at*
   have h:=GK o (L[j],a);unfold D0 at h;have F:=IW o L[j];simp only at h;generalize mapG o=m at*
   conv=>whnf
   repeat' (first|((first|(refine iM fun _=>?_)|refine dA ?_|refine x0h rfl ?_|refine aD ?_|refine aR ?_|refine bP ?_|(refine iA fun _=>?_)|refine IdxK.xs (by omega) ?_|refine QX (by omega) ?_|(refine ByteK.at (by omega) ?_)|refine wI ?_|refine SH QK 1 rfl rfl rfl rfl rfl rfl rfl rfl rfl rfl rfl rfl ?_|refine XU rfl (by omega) ?_|refine EX QK rfl rfl rfl rfl rfl rfl rfl (by simp) (Nat.succ_pos _) rfl rfl rfl rfl rfl (by decide) ?_);conv=>whnf)|(apply bD<;>intro _<;>first|omega|conv=>whnf)|(apply bE<;>intro _<;>first|omega|conv=>whnf)|(apply bN<;>intro _<;>conv=>whnf)|(apply bB<;>intro _<;>conv=>whnf))
   all_goals first
    |exact⟨j+1,u,by omega,Le.of_eq (by rw[z,h,x0g];rfl)⟩
  .rw [x1w u,<-c];conv=>whnf
   repeat' (first|((first|(refine iM fun _=>?_)|refine dA ?_|refine x0h rfl ?_|refine aD ?_|refine aR ?_|refine bP ?_|(refine iA fun _=>?_)|refine IdxK.xs (by omega) ?_|refine QX (by omega) ?_|(refine ByteK.at (by omega) ?_)|refine wI ?_);conv=>whnf)|(apply bD<;>intro _<;>first|omega|conv=>whnf)|(apply bE<;>intro _<;>first|omega|conv=>whnf)|(apply bN<;>intro _<;>conv=>whnf)|(apply bB<;>intro _<;>conv=>whnf))
   all_goals first
    |exact⟨a+1,v,by omega,Le.of_eq rfl⟩
 .obtain rfl:a=n:=by omega
  conv=>whnf
  repeat' (first|((first|(refine iM fun _=>?_)|refine dA ?_|refine x0h rfl ?_|refine aD ?_|refine aR ?_|refine bP ?_|(refine iA fun _=>?_)|refine IdxK.xs (by omega) ?_|refine QX (by omega) ?_|(refine ByteK.at (by omega) ?_)|refine wI ?_);conv=>whnf)|(apply bD<;>intro _<;>first|omega|conv=>whnf)|(apply bE<;>intro _<;>first|omega|conv=>whnf)|(apply bN<;>intro _<;>conv=>whnf)|(apply bB<;>intro _<;>conv=>whnf))
  all_goals first
   |exact x4t _ (x1v _) ⟨rfl,rfl⟩
section
variable {P:Program}{T:Tab}{N:Nat}
def Lf{sl:List (Nat×LV)}(h:(sl.all fun x=>x.2.xfree k)=true)(i:Nat):(getS sl i).xfree k=true:=by
 induction sl with
 |nil=>rfl
 | cons x r m=>
   simp only[List.all_cons,x1z]at h;obtain⟨j,l⟩:=x;simp only[getS];cases j==i
   .exact m h.2
   .exact h.1
def SG{sl:List (Nat×LV)}{H H':Heap}(k:Nat)(hg:getH H k=some (.ext (.mapr e sz l none)))(hpin:ZY k=false)(hsl:(sl.all fun x=>x.2.xfree k)=true)(hH:(H.all fun x=>match x.2 with |.obj _ cs=>LV.xfree.xfreeAll k cs|_=>true)=true)(h':H'=H.map fun x=>bif x.1==k then(k,.ext (Er (l.map fun y=>(y.1,AV.sl y.2))))else x):Le N ⟨sl,H⟩ ⟨sl,H'⟩:=fun σ β a w C=>by
 have V:=QM hg;have B:H'.map (·.1)=H.map (·.1):=by
  rw[h',x4i];apply x7q;intro x F;simp only[Function.comp];cases h:x.1==k with
  |true=>simp at h;simp[h]
  |false=>rfl
 have hmem:∀j c,(j,c)∈H'->(j=k/\c=.ext (Er (l.map fun y=>(y.1,AV.sl y.2))))\/(j≠k/\(j,c)∈H):=fun j c n=>by
  rw[h']at n;obtain⟨x,F,he⟩:=x0n.1 n;cases h:x.1==k with
  | true=>
    rw[h,x1u]at he;cases he;exact .inl ⟨rfl,rfl⟩
  | false=>
    rw[h,x1g]at he;subst he;exact .inr ⟨by simpa using h,F⟩
 obtain⟨i,es,M,Z,hh,hbo,h1,h2,h3,h4,h5⟩:=C.heap.chunks k _ (QD hg);let S:Nat->Prop:=fun b=>∃c,some (b,c)∈i.subs;have hrow:∀(p b c:Nat),i.subs[p]?=some (some (b,c))->∃ws,w.heap[b]?=some (.cells ws e (0,0)):=fun p b c A=>by
  have hlt:p<l.length:=by rw[<-h2];exact(x0m.1 A).1
  obtain⟨e',_,_,_,g4⟩:=h5 p _ (x0u hlt);obtain⟨b',c',ws,q1,_,q3,_⟩:=g4 (by simp);rw[A]at q1;cases q1;exact⟨ws,q3⟩
 have Q:∀b,S b->∃ws,w.heap[b]?=some (.cells ws e (0,0)):=fun b ⟨c,h⟩=>by
  obtain⟨p,A⟩:=x3y.1 h;exact hrow p b c A
 have v:∀b,S b->i.has b:=fun b h=>.inr h;let τ:Mem:=fun b=>@ite _ (S b) (Classical.propDecidable _) (match w.heap[b]?with
  |some (.cells c _ _)=>some c
  |_=>none) (σ b)
 have L:∀b c e fr,S b->w.heap[b]?=some (.cells c e fr)->τ b=some c:=fun b c e fr h hh=>by
  show @ite _ (S b) (Classical.propDecidable _) _ _=_;rw[if_pos h,hh]
 have f:∀b,¬S b->τ b=σ b:=fun b h=>by
  show @ite _ (S b) (Classical.propDecidable _) _ _=_;rw[if_neg h]
 have G:σ.le τ:=fun b c h=>by
  rw[f b]
  .exact h
  .intro hib;rw[(C.heap.apart k V i Z b (v b hib)).1]at h;cases h
 let i':BInfo:=⟨i.blk,i.cap,i.sz,[],i.ok⟩;have r:∀j,j≠k->(β.set k (some i')) j=β j:=fun j n=>by simp[Lab.set,n]
 have D:(β.set k (some i')) k=some i':=by simp[Lab.set]
 have hhas:∀b,i'.has b->b=i.blk:=fun b h=>by
  rcases h with h|⟨c,h⟩
  .exact h.symm
  .cases h
 have hblk:¬S i.blk:=fun⟨c,h⟩=>by
  obtain⟨p,A⟩:=x3y.1 h;exact(h4 p _ c A).1 rfl
 have g:∀j∈H.map (·.1),∀I,(β.set k (some i')) j=some I->∀b,I.has b->(∃i0,β j=some i0/\i0.has b)/\¬S b:=fun j hin I n b h=>by
  by_cases s:j=k
  .subst s;rw[D]at n;cases n;obtain rfl:=hhas b h;exact⟨⟨i,Z,i.has_blk⟩,hblk⟩
  .rw [r j s]at n;exact⟨⟨I,n,h⟩,fun J=>s (C.heap.inj j hin k V I i n Z b h (v b J))⟩
 have q:∀j∈H'.map (·.1),j∈H.map (·.1):=fun j n=>B▸n;refine⟨τ,β.set k (some i'),⟨C.size,C.defers,fun j=>((C.E j).subs (i':=i') Z ⟨rfl,rfl,rfl⟩ (Lf hsl j)).mono G,⟨fun b c h=>?_,fun j c n=>?_,by rw[B];exact C.heap.nodup,fun j n I U b h=>?_,fun j n j' hj' i1 i2 g1 O b hb1 hb2=>?_⟩⟩,
  G,Frm.refl _ _,fun b g0 g1=>?_,fun b ⟨j,n,I,U,h⟩=>?_,fun j g0 g1=>r j (M0 hpin j g0 g1)⟩
 .by_cases J:S b
  .obtain ⟨ws,hw⟩:=Q b J;rw[L b ws e (0,0) J hw]at h;cases h;exact⟨_,_,hw⟩
  .rw [f b J]at h;exact C.heap.mem b c h
 .rcases hmem j c n with⟨rfl,rfl⟩|⟨s,hm⟩
  .refine ⟨i',es,M,D,hh,hbo,by simpa using h1,fun p x A=>?_⟩;rw[x4i,x0d]at A;cases hq:l[p]?with
   |none=>rw[hq]at A;cases A
   | some y=>
     rw[hq]at A;cases A;obtain⟨e',g1,O,_,g4⟩:=h5 p y hq;obtain⟨b,c,ws,q1,q2,q3,q4,q5,q6,q7⟩:=g4 (by simp);refine⟨e',g1,O,?_⟩;show Rep τ (.sl y.2) e'.val;rw[q2];refine .sl y.2 b 0 c sz ws (fun m j=>(ws[m*sz+j]?).getD undef) (L b ws _ _ ⟨c,x0i q1⟩ q3) q5 q6 (fun m x F=>(q7 m x F).1) (fun m x j c' F n=>?_) fun m x j c' F n=>?_
     .obtain ⟨u,r4,_⟩:=(q7 m x F).2 j c' n;simp[r4]
     .obtain ⟨u,r4,r5⟩:=(q7 m x F).2 j c' n;simpa[r4]using r5.mono G
  .have F:=x2w.1 hH (j,c) hm;have z:=(C.heap.chunks j c hm).mono (w':=w) G fun _ _ _ _=>rfl;cases c with
   | obj e' cs=>
     obtain⟨i2,Y,R,hh2,hn2,hc2⟩:=z;refine⟨i2,Y,(r j s).trans R,hh2,hn2,fun m l hm=>?_⟩;obtain⟨u,g5,g6⟩:=hc2 m l hm;exact⟨u,g5,g6.subs Z ⟨rfl,rfl,rfl⟩ (YZ F m l hm)⟩
   | own e' sz' es'=>
     rcases z with⟨g5,g6⟩|⟨i2,Y,R,rest⟩
     .exact .inl ⟨(r j s).trans g5,g6⟩
     .exact .inr ⟨i2,Y,(r j s).trans R,rest⟩
   | ext d=>
     show d.holds τ ((β.set k (some i')) j) w;rw[r j s];exact z
 .obtain ⟨⟨i0,g1,O⟩,g3⟩:=g j (q j n) I U b h;rw[f b g3];exact C.heap.apart j (q j n) i0 g1 b O
 .obtain ⟨⟨i3,q1,q2⟩,_⟩:=g j (q j n) i1 g1 b hb1;obtain⟨⟨i4,q3,q4⟩,_⟩:=g j' (q j' hj') i2 O b hb2;exact C.heap.inj j (q j n) j' (q j' hj') i3 i4 q1 q3 b q2 q4
 .by_cases J:S b
  .exact .inl ⟨k,V,i,Z,v b J⟩
  .rw [f b J]at g1;exact absurd g0 g1
 .obtain ⟨⟨i0,g1,O⟩,_⟩:=g j (q j n) I U b h;exact .inl ⟨j,q j n,i0,g1,O⟩
theorem OpK.range(hT:TabOK P T){s:St}{o:Oper}{K:St->Prop}{t:TypeId}{x:Operand}(hop:o.op=.range t x){k:Nat}(hx:QL s.sl x=.ext k .map){l:List (List UInt8×AV)}(hg:getH s.H k=some (.ext (Er l))){i:TyI}{kt et:TypeId}(ht:T.get t=some i)(hd:i.desc=.map kt et)(hpin:ZY k=false)(h:Y8 (LV.kill k) s.sl fun sl=>Xa k 99999 (LV.kill k) (.ext (.iter l none)) s.H fun H=>setD N sl o.dst (.ext k .iter) fun sl=>K ⟨sl,H⟩):OpK P N s o K:=by
 refine⟨fun σ β a w F Q=>?_⟩;obtain⟨sl,h,hsl⟩:=WY (by rfl) h;obtain⟨H2,h,Y,hmem⟩:=WJ h;have hx':=QZ F.E x;rw[hx]at hx';generalize hxe:a.eval x=xv at hx';cases hx' with
 |ext _ _ B _ I hd'=>
 obtain rfl:xv=.map (some B.blk):=hd';obtain⟨bi',es,A,V,hh,hbo,h1,h2⟩:=F.heap.chunks k _ (QD hg);rw[I]at V;cases V;have O:=QM hg;have hu:=hT.of ht;rw[hd]at hu;let M:Obj:=.mapIter (some B.blk) A #[] A;let i':BInfo:=⟨w.heap.size,0,0,[some (B.blk,0)],x0l _⟩;have y:∀j,j≠k->(β.set k (some i')) j=β j:=fun j C=>by simp[Lab.set,C]
 have r:(β.set k (some i')) k=some i':=by simp[Lab.set]
 have hlt:=(F.heap.apart k O B I B.blk B.has_blk).2;have G:∀b,b<w.heap.size->(w.alloc M).heap[b]?=w.heap[b]?:=fun b q=>(by first|exact heap_alloc_old w M q|exact heap_alloc_old w M b q);have hsize:(w.alloc M).heap.size=w.heap.size+1:=by
  show(w.heap.push M).size=_;simp
 have J:∀b,i'.has b->b=w.heap.size\/b=B.blk:=fun b q=>by
  rcases q with q|⟨c,q⟩
  .exact .inl q.symm
  .have q:some (b,c)∈[some (B.blk,0)]:=q;rw[x0b]at q;cases q;exact .inr rfl
 have g:∀j∈H2.map (·.1),j∈s.H.map (·.1):=fun j C=>Y.subset C;have L:∀j∈s.H.map (·.1),j≠k->∀D,β j=some D->∀b,D.has b->b<w.heap.size:=fun j C _ D m b q=>(F.heap.apart j C D m b q).2;have hrun:(execOp a.eval o).run P w=.ok (.value (.pointer (some ⟨w.heap.size,0,none⟩))) (w.alloc M):=by
  have hr1:(Instr.range t (.map (some B.blk))).run P w=.ok (.pointer (some ⟨w.heap.size,0,none⟩)) (w.alloc M):=by
   unfold Instr.range;simp only[Sem.run_bind,run_underlying hu,Result.andThen_ok,UP hh,Sem.run_pure];rfl
  simp only[execOp,hop,hxe,Sem.run_bind,hr1,Result.andThen_ok];rfl
 have hr2:Rel N σ (β.set k (some i')) ⟨sl,H2⟩ a (w.alloc M):=by
  refine⟨F.size,F.defers,fun j=>?_,⟨fun b c q=>?_,fun j c C=>?_,Y.nodup F.heap.nodup,fun j C D m b q=>?_,fun j C j' hj' i1 i2 g1 g2 b Z hb2=>?_⟩⟩
  .show RepL _ _ (getS sl j) _;rw[hsl];exact((F.E j).kill k).set _ (LV.kill_free k _)
  .obtain ⟨e,fr,h3⟩:=F.heap.mem b c q;exact⟨e,fr,(G b (x1y.1 h3).1).trans h3⟩
  .obtain ⟨_,⟨rfl,rfl⟩|⟨z,c0,hm,rfl⟩⟩:=hmem j c C
   .have U:es.filter (fun x=> !(#[]:Array Nat).contains x.born)=es:=Array.filter_eq_self.2 fun x _=>by simp
    refine⟨i',B.blk,es,A,A,#[],r,rfl,heap_alloc_new w M,(G _ hlt).trans hh,hbo.1,hbo.2,x0o _,by rw[U];simpa using h1,fun p x hp=>?_,fun x hx=>by cases hx⟩;rw[U];obtain⟨e,q1,q2,q3⟩:=h2 p (YK x.1,x.2) (by rw[x0d,hp];rfl);exact⟨e,q1,q2,q3⟩
   .have hjl:j∈s.H.map (·.1):=x0n.2 ⟨_,hm,rfl⟩;exact(F.heap.chunks j c0 hm).mapL (f:=LV.kill k) (Mem.le_refl σ) (fun l v hl=>(hl.kill k).set _ (LV.kill_free k _)) (y j z) fun D m b q=>G b (L j hjl z D m b q)
  .rw [hsize];by_cases z:j=k
   .subst z;rw[r]at m;cases m;rcases J b q with rfl|rfl
    .refine ⟨?_,by omega⟩;cases hq:σ w.heap.size with
     |none=>rfl
     | some c=>
       obtain⟨e,fr,h3⟩:=F.heap.mem _ c hq;have:=(x1y.1 h3).1;omega
    .have:=F.heap.apart _ O B I B.blk B.has_blk;exact⟨this.1,by omega⟩
   .rw [y j z]at m;have:=F.heap.apart j (g j C) D m b q;exact⟨this.1,by omega⟩
  .have key:∀j∈s.H.map (·.1),j≠k->∀D,β j=some D->∀b,D.has b->i'.has b->False:=fun j C z D m b q hb'=>by
    rcases J b hb' with rfl|rfl
    .have:=L j C z D m _ q;omega
    .exact z (F.heap.inj j C k O D B m I _ q B.has_blk)
   by_cases e1:j=k<;>by_cases e2:j'=k
   .rw [e1,e2]
   .subst e1;rw[r]at g1;cases g1;rw[y j' e2]at g2;exact(key j' (g j' hj') e2 i2 g2 b hb2 Z).elim
   .subst e2;rw[r]at g2;cases g2;rw[y j e1]at g1;exact(key j (g j C) e1 i1 g1 b Z hb2).elim
   .rw [y j e1]at g1;rw[y j' e2]at g2;exact F.heap.inj j (g j C) j' (g j' hj') i1 i2 g1 g2 b Z hb2
 have R:Later σ β s.H w σ (β.set k (some i')) H2 (w.alloc M):=by
  refine⟨Mem.le_refl σ,⟨rfl,rfl,rfl,x0o _,by omega,fun b q _=>G b q⟩,fun b g0 g1=>absurd g0 g1,fun b ⟨j,C,D,m,q⟩=>?_,fun j g0 g1=>y j (M0 hpin j g0 g1)⟩;by_cases z:j=k
  .subst z;rw[r]at m;cases m;rcases J b q with rfl|rfl
   .exact .inr (x0o _)
   .exact .inl ⟨_,O,B,I,B.has_blk⟩
  .rw [y j z]at m;exact .inl ⟨j,g j C,D,m,q⟩
 obtain⟨sl',hK,hr''⟩:=hr2.setD (v:=.ext k .iter) (u:=.pointer (some ⟨w.heap.size,0,none⟩)) (.ext k .iter i' _ r rfl) h;exact XI hrun ⟨σ,_,_,hK,hr'',R⟩
theorem W3:∀(L:List MapEntry)(j:Nat)(h:j<L.length),(L.map (·.born)).Nodup->L.filter (fun x=>decide (x.born≠L[j].born))=L.eraseIdx j
 | x::r,0,_,hn=>by
   rw[x1j,x2u]at hn;rw[x3n (by simp)];show r.filter _=r;rw[List.filter_eq_self];intro y p;have:y.born≠x.born:=fun i=>hn.1 (i▸x4q p);simpa using this
 | x::r,j+1,h,hn=>by
   rw[x1j,x2u]at hn;have n:j<r.length:=by simpa using h
   have m:x.born≠r[j].born:=fun i=>hn.1 (i▸x4q (x0s n));rw[x3d (by simpa using m)];show x::r.filter _=x::r.eraseIdx j;congr 1;exact W3 r j n hn.2
def CD(es:Array MapEntry)(seen:Array Nat)(b:Nat):(es.filter fun x=> !(seen.push b).contains x.born).toList=(es.filter fun x=> !seen.contains x.born).toList.filter fun x=>decide (x.born≠b):=by
 rw[x6i,x6i,List.filter_filter];apply List.filter_congr;intro x _;simp only[Array.contains_push,Bool.not_or];rw[Bool.and_comm];congr 1;by_cases h:x.born=b<;>simp[h]
theorem OpK.next{s:St}{x:Operand}(hop:o.op=.next x false)(hx:QL s.sl x=.ext k .iter){l:List (List UInt8×AV)}{cur:Option (List UInt8×AV)}(hg:getH s.H k=some (.ext (.iter l cur)))(hlen:∀y∈l,y.1.length<=maxLen)(h0:l=[]->setD N s.sl o.dst (.p (.tup [.ff])) fun sl=>K ⟨sl,s.H⟩)(h1:∀(j:Nat)(M:j<l.length),Ja s.H k (.ext (.iter (l.eraseIdx j) (some l[j]))) fun H=>setD N s.sl o.dst (.p (.tup [.tt,.str l[j].1,l[j].2])) fun sl=>K ⟨sl,H⟩):OpK P N s o K:=by
 refine⟨fun σ β a w C Q=>?_⟩;have hx':=QZ C.E x;rw[hx]at hx';generalize hxe:a.eval x=xv at hx';cases hx' with
 |ext _ _ G _ J hd'=>
 obtain rfl:xv=.pointer (some ⟨G.blk,0,none⟩):=hd';obtain⟨bi',m,es,q,z,seen,hbi',hsub,hh,hm,hnd,L,hsc,hsz,hent,hcur⟩:=C.heap.chunks k _ (QD hg);rw[J]at hbi';cases hbi';have hk1:=QM hg;have hne:G.blk≠m:=fun I=>by rw[<-I,hh]at hm;cases hm
 rcases run_next_at (P:=P) w o.type G.blk m z q seen es q hh hm L hsc with⟨hz,U⟩|⟨e,I,w1,V,U⟩
 .have hl0:l=[]:=x3z (by rw[<-hsz];exact hz);have A:(execOp a.eval o).run P w=.ok (.value (.tuple #[.bool false])) w:=by
   simp only[execOp,hop,hxe,Sem.run_bind,U,Result.andThen_ok];rfl
  obtain⟨sl,hK,hr'⟩:=C.setD (v:=.p (.tup [.ff])) (u:=.tuple #[.bool false]) (.p (.tup [.ff] #[.bool false] (fun _=>.bool false) rfl (fun j c M=>by
   match j,M with
   |0,M=>rfl
   |j+1,M=>simp at M) fun j c M=>by
   match j,M with
   |0,M=>cases M;exact .ff
   |j+1,M=>simp at M)) (h0 hl0)
  exact XI A ⟨σ,β,_,hK,hr',Later.refl _ _ _ _⟩
 .have hleft:leftOf es seen=es.filter fun x=> !seen.contains x.born:=rfl;rw[hleft]at I;obtain⟨j,O,hje⟩:=x2m.1 I;have hjl:j<l.length:=by rw[<-hsz,<-x3x];exact O
  obtain⟨e2,q1,q2,q3⟩:=hent j _ (x0u hjl);have he2:e2=e:=by
   have q1':(es.filter fun x=> !seen.contains x.born).toList[j]?=some e2:=by rw[x3t];exact q1
   rw[x0u O,hje]at q1';exact(x3h q1').symm
  subst he2;have hmemes:e2∈es.toList:=by
   rw[x6i]at I;exact(x1s.1 I).1
  have h:=h1 j hjl;obtain⟨H',h,g3,g4,g5⟩:=YA C.heap.nodup h;have hw1h:w1.heap=w.heap:=by rcases V with rfl|rfl<;>rfl
  let w':World:=ChangeMaps.setBlock w1 G.blk (.mapIter (some m) z (seen.push e2.born) q);have D:w'.heap=w.heap.setIfInBounds G.blk (.mapIter (some m) z (seen.push e2.born) q):=by
   show w1.heap.setIfInBounds _ _=_;rw[hw1h]
  have hot:∀b,b≠G.blk->w'.heap[b]?=w.heap[b]?:=fun b hb=>by rw[D];exact x4w (x4g hb)
  have hlt:=(C.heap.apart k hk1 G J G.blk G.has_blk).2;have A:(execOp a.eval o).run P w=.ok (.value (.tuple #[.bool true,e2.key,e2.val])) w':=by
   simp only[execOp,hop,hxe,Sem.run_bind,U,Result.andThen_ok];rfl
  have Z:((es.filter fun x=> !seen.contains x.born).toList.map (·.born)).Nodup:=by
   rw[x6i];exact(List.filter_sublist.map _).nodup hnd
  have B:(es.filter fun x=> !(seen.push e2.born).contains x.born).toList=(es.filter fun x=> !seen.contains x.born).toList.eraseIdx j:=by
   rw[CD];have:=W3 _ j O Z;rw[hje]at this;exact this
  have hheap:HRel σ β H' w':=by
   refine⟨fun b c hb=>?_,fun Y c f=>?_,by rw[g3];exact C.heap.nodup,fun Y f i' hi' b hb=>?_,fun Y f j'' hj''=>C.heap.inj Y (g3▸f) j'' (g3▸hj'')⟩
   .obtain ⟨e',fr,h6⟩:=C.heap.mem b c hb;exact⟨e',fr,(hot b fun I=>by rw[I,hh]at h6;cases h6).trans h6⟩
   .by_cases hjk:Y=k
    .subst hjk;rw[g5 c f];refine⟨G,m,es,q,z,seen.push e2.born,J,hsub,by rw[D];simp[hlt],(hot m (x4g hne)).trans hm,hnd,L,hsc,?_,fun p y hp=>?_,fun y hy=>?_⟩
     .rw [<-x3x,B,List.length_eraseIdx,List.length_eraseIdx,x3x,hsz]
     .have F:(l.eraseIdx j)[p]?=some y:=hp;rw[List.getElem?_eraseIdx]at F;have key:∀p',l[p']?=some y->∃e:MapEntry,(es.filter fun x=> !seen.contains x.born).toList[p']?=some e/\e.key=.string ⟨y.1.toArray⟩/\Rep σ y.2 e.val:=fun p' F=>by
       obtain⟨e,r1,r2,r3⟩:=hent p' y F;exact⟨e,by rw[x3t];exact r1,r2,r3⟩
      have hget:(es.filter fun x=> !(seen.push e2.born).contains x.born)[p]?=((es.filter fun x=> !seen.contains x.born).toList.eraseIdx j)[p]?:=by
       rw[<-B,x3t]
      rw[hget,List.getElem?_eraseIdx];split at F
      .rename_i R;rw[if_pos R];exact key p F
      .rename_i R;rw[if_neg R];exact key (p+1) F
     .cases hy;exact⟨e2,hmemes,seen,rfl,q2,q3⟩
    .have hm':=g4 Y c f hjk;exact(C.heap.chunks Y c hm').mono (Mem.le_refl σ) fun i' hi' b hb=>hot b fun I=>hjk (C.heap.inj Y (x0n.2 ⟨_,hm',rfl⟩) k hk1 i' G hi' J b hb (.inl I.symm))
   .have hsz':w'.heap.size=w.heap.size:=by rw[D];simp
    rw[hsz'];exact C.heap.apart Y (g3▸f) i' hi' b hb
  have hkl:l[j].1.length<=maxLen:=hlen _ (x0s hjl);have hr1:Rel N σ β ⟨s.sl,H'⟩ a w':=⟨C.size,C.defers,C.E,hheap⟩;obtain⟨sl,hK,hr'⟩:=hr1.setD (v:=.p (.tup [.tt,.str l[j].1,l[j].2])) (u:=.tuple #[.bool true,e2.key,e2.val]) (.p (.tup [.tt,.str l[j].1,l[j].2] #[.bool true,e2.key,e2.val] (fun i=>(#[.bool true,e2.key,e2.val]:Array Value).getD i undef) rfl (fun i c g=>by
   match i,g with
   |0,g=>rfl
   |1,g=>rfl
   |2,g=>rfl
   |i+3,g=>simp at g) fun i c g=>by
   match i,g with
   |0,g=>cases g;exact .tt
   |1,g=>cases g;show Rep σ _ e2.key;rw[q2];exact .str _ hkl
   |2,g=>cases g;exact q3
   |i+3,g=>simp at g)) h
  refine XI A ⟨σ,β,_,hK,hr',Mem.le_refl σ,⟨?_,?_,?_,?_,by rw[D];simp,fun b _ hn=>hot b fun I=>hn ⟨k,hk1,G,J,.inl I.symm⟩⟩,fun b g0 g1=>absurd g0 g1,fun b ⟨Y,f,r⟩=>.inl ⟨Y,g3▸f,r⟩,fun _ _ _=>rfl⟩
  .rcases V with rfl|rfl<;>rfl
  .rcases V with rfl|rfl<;>rfl
  .rcases V with rfl|rfl<;>rfl
  .rcases V with rfl|rfl
   .exact x0o _
   .exact Nat.le_succ _
theorem OpK.entry{s:St}{x:Operand}(J:o.op=.entry x)(hx:QL s.sl x=.ext k .iter){l:List (List UInt8×AV)}{y:List UInt8×AV}(hg:getH s.H k=some (.ext (.iter l (some y))))(B:y.1.length<=maxLen)(h:setD N s.sl o.dst (.p (.tup [.str y.1,y.2])) fun sl=>K ⟨sl,s.H⟩):OpK P N s o K:=by
 refine⟨fun σ β a w L Q=>?_⟩;have b:=QZ L.E x;rw[hx]at b;generalize O:a.eval x=xv at b;cases b with
 |ext _ _ R _ D G=>
 obtain rfl:xv=.pointer (some ⟨R.blk,0,none⟩):=G;obtain⟨Y,m,es,r,g,seen,q,V,hh,hm,I,F,hsc,hsz,U,A⟩:=L.heap.chunks k _ (QD hg);rw[D]at q;cases q;obtain⟨e,he,f,rfl,q2,q3⟩:=A y rfl;have C:=run_entry_at (P:=P) w R.blk m g f es r e hh hm he I;have z:(execOp a.eval o).run P w=.ok (.value (.tuple #[e.key,e.val])) w:=by
  simp only[execOp,J,O,Sem.run_bind,C,Result.andThen_ok];rfl
 obtain⟨sl,Z,M⟩:=L.setD (v:=.p (.tup [.str y.1,y.2])) (u:=.tuple #[e.key,e.val]) (.p (.tup [.str y.1,y.2] #[e.key,e.val] (fun i=>(#[e.key,e.val]:Array Value).getD i undef) rfl (fun i c j=>by
  match i,j with
  |0,j=>rfl
  |1,j=>rfl
  |i+2,j=>simp at j) fun i c j=>by
  match i,j with
  |0,j=>cases j;show Rep σ _ e.key;rw[q2];exact .str _ B
  |1,j=>cases j;exact q3
  |i+2,j=>simp at j)) h
 exact XI z ⟨σ,β,_,Z,M,Later.refl _ _ _ _⟩
end
def atN(G:Nat->List Str)(n:Nat)(h:Str):List Nat:=((prsG G n).filter fun x=>decide (x.1=h)).map Prod.snd
def Oe(G:Nat->List Str)(n:Nat)(h:Str):Str×AV:=(h,.sl ((atN G n h).map fun a=>.int .i64 (a:Nat)))
noncomputable def outN(G T:Nat->List Str)(h:Nat->Int)(n:Nat)(steps:List (Int×Int))(i:Str):List Fl:=(List.range n).flatMap fun c=>((comC n steps (atN G n i)).getD c []).flatMap fun f=>if inS (T c) i=true then [⟨h ((atN G n i).getD f.toNat 0),h c,i⟩]else []
structure FlB(b:Book)(i:Nat)(w:Way)(n:Nat)(L:List Step)(steps:List (Int×Int))(G T:Nat->List Str)(plc:Nat->Int):Prop where
 hW:b.ways[i]?=some w
 hn:n<=5000
 hwn:w.n=n
 dat:SpecP prog 111 [.ip w.cells] (fun r=>r=eSteps L)
 prs:SpecP prog 110 [.ip w.cells,eSteps L] (fun r=>r=.sl (avP steps))
 giv:SpecH prog 102 [.p (.ip b.cells),.p (.int .i64 i)] [] (fun r H=>r=.tup [.ext 0 .map,.p (.int .i64 (prsG G n).length)]/\H=[(0,.ext (.mapr 3 1 (mapG (prsG G n)) none))])
 tak:∀c,c<n->SpecP prog 112 [.ip b.cells,.int .i64 i,.int .i64 c] (fun r=>r=eStrs (T c))
 com:∀at_:List Nat,(∀a∈at_,a<n)->at_.length<=5000->SpecP prog 113 [.ip b.cells,.int .i64 i,.sl (avP steps),.sl (at_.map fun a=>.int .i64 (a:Nat))] (fun r=>r=eMat (comC n steps at_))
 place:∀c,c<n->SpecP prog 65 [.ip w.cells,.int .i64 c] (fun r=>r=.int .i64 (plc c))
 srt:∀c,(T c).Pairwise ltT/\(T c).length<=1000000
 ok:∀s∈((mapG (prsG G n)).map Prod.fst).flatMap (outN G T plc n steps),okFl s
 cnt:(((mapG (prsG G n)).map Prod.fst).flatMap (outN G T plc n steps)).length<=1000000000
 atl:∀nm,(atN G n nm).length<=5000
 key:∀y:Str,y∈(mapG (prsG G n)).map Prod.fst->y.length<=maxLen
theorem OpK.le{P:Program}{N:Nat}{s s':St}(j:Le N s s')(h:OpK P N s' o K):OpK P N s o K:=⟨fun σ β a w v Q=>by
 obtain⟨σ1,β1,q,i⟩:=j σ β a w v;exact Oper.wp_mono (fun y w' ⟨σ',β',x,r,m,u⟩=>⟨σ',β',x,r,m,i.trans u⟩) (h.1 σ1 β1 a w q Q)⟩
def tkA(T:Nat->List Str)(n c:Nat):List AV:=((List.range c).map fun q=>eStrs (T q))++List.replicate (n-c) .nils
def Og(T:Nat->List Str)(n:Nat):tkA T n 0=List.replicate n .nils:=by unfold tkA;simp
def q5g(T:Nat->List Str){n c:Nat}(h:c<=n):(tkA T n c).length=n:=by unfold tkA;simp;omega
def q5h(T:Nat->List Str){n c:Nat}(h:c<n):(tkA T n c).set c (eStrs (T c))=tkA T n (c+1):=by
 unfold tkA;rw[x4d _ _ (by simp),x0j,x3j,x5s,show n-c=(n-(c+1))+1 by omega,x5b,x4p,x4c,x0c,x1k];rfl
def q5k(T:Nat->List Str){n c:Nat}(h:c<n):(tkA T n c)[c]?=some .nils:=by
 unfold tkA;rw[x2q (by simp),x0j,x3j,x5s,x1b];simp;omega
def RR(T:Nat->List Str)(h:Nat->Int)(n:Nat)(at_:List Nat)(C:List (List Int))(i:Str):List Fl:=(List.range n).flatMap fun c=>(C.getD c []).flatMap fun f=>if inS (T c) i=true then [⟨h (at_.getD f.toNat 0),h c,i⟩]else []
def Qv(T:Nat->List Str)(h:Nat->Int)(q:Nat)(at_:List Nat)(C:List (List Int))(i:Str):RR T h (q+1) at_ C i=RR T h q at_ C i++(C.getD q []).flatMap fun f=>if inS (T q) i=true then [⟨h (at_.getD f.toNat 0),h q,i⟩]else []:=by
 unfold RR;rw[x4c,x4h];simp
def q1i(T:Nat->List Str)(i:Nat->Int){q c:Nat}(h:q<=c)(at_:List Nat)(C:List (List Int))(m:Str):(RR T i q at_ C m).length<=(RR T i c at_ C m).length:=by
 induction c with
 | zero=>
   obtain rfl:q=0:=by omega
   exact x0o _
 | succ c n=>
   rcases x0t c q with j|j
   .obtain rfl:q=c+1:=by omega
    exact x0o _
   .rw [Qv,x0g];have:=n j;omega
def K7{G:Nat->List Str}{n:Nat}{m:Str}{a:Nat}(h:a∈atN G n m):a<n:=by
 unfold atN prsG at h;obtain⟨x,i,rfl⟩:=x0n.1 h;obtain⟨b,j,i⟩:=x1p.1 (x1s.1 i).1;obtain⟨s,_,rfl⟩:=x0n.1 i;exact x1a.1 j
def Qr{l:List (Str×List AV)}{k:Str}{v:List AV}:(PN l k v).map Prod.fst=if k∈l.map Prod.fst then l.map Prod.fst else l.map Prod.fst++[k]:=by
 induction l with
 |nil=>rw[PN];rfl
 | cons x r m=>
   rw[PN];by_cases h:k=x.1
   .rw [if_pos h,x1j,x1j,if_pos (by rw[h];exact x0k)]
   .rw [if_neg h,x1j,x1j,m];by_cases i:k∈r.map Prod.fst
    .rw [if_pos i,if_pos (x0f _ i)]
    .rw [if_neg i,if_neg (by rw[x0p];rintro(j|j);exact h j;exact i j)];rfl
def L9(l:List (Str×Nat)):((mapG l).map Prod.fst).Nodup:=by
 have key:∀l:List (Str×Nat),((mapG l.reverse).map Prod.fst).Nodup:=fun l=>by
  induction l with
  |nil=>exact x7z
  | cons x r i=>
    rw[x6b,GK];unfold D0;rw[Qr];split
    .exact i
    .rename_i h;rw[x2b];exact⟨i,by simp,fun a j b m e=>h (by rw[<-x0b.1 m,<-e];exact j)⟩
 have:=key l.reverse
 rwa[x5i]at this
def IV{l:List (Str×List AV)}(i:(l.map Prod.fst).Nodup){y:Str×List AV}(h:y∈l):B1 l y.1=y.2:=by
 induction l with
 |nil=>cases h
 | cons x r j=>
   rw[x1j,x2u]at i;unfold B1 M4;rw[x5y];rcases x0p.1 h with rfl|h
   .simp
   .have:¬y.1=x.1:=fun e=>i.1 (by rw[<-e];exact x4q h);rw[x2h this];exact j i.2 h
def q4v(G:Nat->List Str)(n:Nat):(mapG (prsG G n)).map (fun y=>(y.1,AV.sl y.2))=((mapG (prsG G n)).map Prod.fst).map (Oe G n):=by
 rw[x4i];refine x7q fun y h=>?_;have:=IV (L9 (prsG G n)) h;rw[RD]at this;show(y.1,AV.sl y.2)=(y.1,AV.sl ((atN G n y.1).map fun a=>.int .i64 (a:Nat)));rw[<-this];unfold atN;rw[x4i];rfl
theorem Ky{α:Type}:∀(l:List α)(k:Nat)(h:k<l.length),(l[k]::l.eraseIdx k).Perm l
 |x::r,0,_=>by rw[List.eraseIdx_cons_zero];exact .refl _
 | x::r,k+1,h=>by
   rw[List.eraseIdx_cons_succ,List.getElem_cons_succ];exact(List.Perm.swap _ _ _).trans (.cons _ (Ky r k (by simpa using h)))
theorem P5{α β:Type}(f:α->β):∀(l:List α)(k:Nat),(l.map f).eraseIdx k=(l.eraseIdx k).map f
 |[],_=>rfl
 |_::_,0=>rfl
 |x::r,k+1=>by rw[x1j,List.eraseIdx_cons_succ,List.eraseIdx_cons_succ,x1j,P5 f r k]
def Ud(b:Book)(i:Nat)(w:Way)(n:Nat)(L:List Step)(steps:List (Int×Int))(G T:Nat->List Str)(m:Nat->Int)(F:FlB b i w n L steps G T m):SpecP prog 57 [.ip b.cells,.int .i64 i] (fun r=>r=.sl ((VD (((mapG (prsG G n)).map Prod.fst).flatMap (outN G T m n steps))).map NN)):=by
 refine sB X5 func57 rfl call57 ?_;conv=>whnf
 obtain⟨hW,hn,hwn,hD,hP,hGv,hT,hC,hPl,hSr,hOk,hCn,hAt,U⟩:=F;have hky:∀y∈(mapG (prsG G n)).map (fun y=>(y.1,AV.sl y.2)),y.1.length<=maxLen:=fun y hy=>by
  obtain⟨z,hz,rfl⟩:=x0n.1 hy;exact U z.1 (x4q hz)
 have hg2:(b.ways.map fun w=>AV.ip w.cells)[i]?=some (.ip w.cells):=by rw[x0d,hW];rfl
 repeat' (first|((first|(refine iM fun _=>?_)|refine dA ?_|refine x0h rfl ?_|refine aD ?_|refine aR ?_|refine bP ?_|(refine iA fun _=>?_)|refine IdxK.xs (by omega) ?_|refine QX (by omega) ?_|(refine ByteK.at (by omega) ?_)|refine wI ?_|(refine IdxK.at (k:=i) rfl hg2 rfl ?_)|refine x5r n (by omega) (by show 24*_<=140737488355328;omega) (by unfold maxLen;omega) ?_|refine cP hD ?_|refine cP hP ?_);conv=>whnf)|(apply bD<;>intro _<;>first|omega|conv=>whnf)|(apply bE<;>intro _<;>first|omega|conv=>whnf)|(apply bN<;>intro _<;>conv=>whnf)|(apply bB<;>intro _<;>conv=>whnf)|(refine CallK.heap [] 0 (by repeat' (first|exact x1m|refine x1x ?_ ?_|exact x1v _|exact x1d Sub.nils|exact x1d (Sub.tt rfl)|exact x1d (Sub.ff rfl)|exact x1d (Sub.int (by omega)))) x1l hGv rfl rfl ?_;rintro l' H' ⟨rfl,rfl⟩;conv=>whnf)|(refine x0h ?_ ?_<;>conv=>whnf))
 refine LoopK.inv QK (fun c:Nat=>⟨[(0,.p (.ip b.cells)),(1,.p (.int .i64 i)),(5,.p (.ip w.cells)),(6,.p .nils),(7,.p (.sl (avP steps))),(8,.ext 0 .map),(10,.hd 1 0 n),(41,.p (.int .i64 n)),(42,.p (.int .i64 c))],[(1,.own 22 1 (tkA T n c)),(0,.ext (.mapr 3 1 (mapG (prsG G n)) none))]⟩) (fun c=>c<=n) (fun c=>n-c) 0 (Le.of_eq (by rw[Og];rfl)) (x0l _) ?_;intro c hc;have htl:=q5g T hc;rcases x0t c n with h1|h1
 .have hTc:=hT c h1;have hst:=q5h T h1;have eT:=q5k T h1;generalize tkA T n c=tk at*
  conv=>whnf
  repeat' (first|((first|(refine iM fun _=>?_)|refine dA ?_|refine x0h rfl ?_|refine aD ?_|refine aR ?_|refine bP ?_|(refine iA fun _=>?_)|refine IdxK.xs (by omega) ?_|refine QX (by omega) ?_|(refine ByteK.at (by omega) ?_)|refine wI ?_|refine x1i c rfl (by omega) ?_|refine cP hTc ?_|refine x3p c 0 .nils (eStrs (T c)) (by omega) eT (x0o 1) rfl ?_);conv=>whnf)|(apply bD<;>intro _<;>first|omega|conv=>whnf)|(apply bE<;>intro _<;>first|omega|conv=>whnf)|(apply bN<;>intro _<;>conv=>whnf)|(apply bB<;>intro _<;>conv=>whnf))
  all_goals first
   |exact⟨c+1,h1,by omega,Le.of_eq (by rw[<-hst];rfl)⟩
 .obtain rfl:c=n:=by omega
  conv=>whnf
  repeat' (first|((first|(refine iM fun _=>?_)|refine dA ?_|refine x0h rfl ?_|refine aD ?_|refine aR ?_|refine bP ?_|(refine iA fun _=>?_)|refine IdxK.xs (by omega) ?_|refine QX (by omega) ?_|(refine ByteK.at (by omega) ?_)|refine wI ?_|refine OpK.le (SG 0 rfl rfl rfl rfl rfl) (OpK.range QK rfl rfl rfl rfl rfl rfl ?_));conv=>whnf)|(apply bD<;>intro _<;>first|omega|conv=>whnf)|(apply bE<;>intro _<;>first|omega|conv=>whnf)|(apply bN<;>intro _<;>conv=>whnf)|(apply bB<;>intro _<;>conv=>whnf))
  have htk:tkA T c c=(List.range c).map fun q=>eStrs (T q):=by unfold tkA;simp
  rw[q4v];generalize hks:(mapG (prsG G c)).map Prod.fst=keys at*
  refine LoopK.inv QK (fun x:List Str×Option Str×List Fl=>⟨[(0,.p (.ip b.cells)),(1,.p (.int .i64 i)),(5,.p (.ip w.cells)),(6,.hd 2 0 x.2.2.length),(7,.p (.sl (avP steps))),(10,.p (.sl ((List.range c).map fun q=>eStrs (T q)))),(54,.ext 0 .iter)],[(0,.ext (.iter (x.1.map (Oe G c)) (x.2.1.map (Oe G c)))),(2,.own 107 3 (x.2.2.map NN))]⟩) (fun x=>∃A,(A++x.1).Perm keys/\x.2.2=A.flatMap (outN G T m c steps)) (fun x=>x.1.length) (keys,none,[])
   (by
     obtain⟨s',rfl,hle⟩:=Le.row (N:=Tryz.f57.ntmps) (s:=⟨[(0,.p (.ip b.cells)),(1,.p (.int .i64 i)),(5,.p (.ip w.cells)),(6,.p .nils),(7,.p (.sl (avP steps))),(10,.hd 1 0 ((List.range c).map fun q=>eStrs (T q)).length),(54,.ext 0 .iter)],[(1,.own 22 1 ((List.range c).map fun q=>eStrs (T q))),(0,.ext (.iter (keys.map (Oe G c)) none))]⟩) (k:=1) (e:=22) (sz:=1) (es:=(List.range c).map fun q=>eStrs (T q)) (zs:=[10]) rfl
      (K:=fun s=>s=⟨[(0,.p (.ip b.cells)),(1,.p (.int .i64 i)),(5,.p (.ip w.cells)),(6,.p .nils),(7,.p (.sl (avP steps))),(10,.p (.sl ((List.range c).map fun q=>eStrs (T q)))),(54,.ext 0 .iter)],[(0,.ext (.iter (keys.map (Oe G c)) none))]⟩) ⟨rfl,rfl⟩
     refine Le.trans (Le.of_eq (by rw[htk];simp)) (hle.trans ?_);exact Le.mk [(2,.own 107 3 [])] (by simp[Chunk.new0];rfl) (by simp) (by simp) (.r (.r (.r (.cons (.nil x0k) (.r (.r (.r .nil))))))) (.cons rfl (.refl _) (.new x0k .nil))) ⟨[],by simp,rfl⟩ ?_
  rintro⟨v,cur,d⟩ ⟨A,I,Q⟩;simp only at I Q⊢;conv=>whnf
  repeat' (first|((first|(refine iM fun _=>?_)|refine dA ?_|refine x0h rfl ?_|refine aD ?_|refine aR ?_|refine bP ?_|(refine iA fun _=>?_)|refine IdxK.xs (by omega) ?_|refine QX (by omega) ?_|(refine ByteK.at (by omega) ?_)|refine wI ?_|refine OpK.next rfl rfl rfl (fun y hy=>by obtain⟨z,hz,rfl⟩:=x0n.1 hy;exact U z (I.subset (x2r _ hz))) (fun hnil=>?_) (fun jj hjj=>?_));conv=>whnf)|(apply bD<;>intro _<;>first|omega|conv=>whnf)|(apply bE<;>intro _<;>first|omega|conv=>whnf)|(apply bN<;>intro _<;>conv=>whnf)|(apply bB<;>intro _<;>conv=>whnf))
  .obtain rfl:v=[]:=x6z.1 hnil;rw[x2v]at I;have M:d.Perm (keys.flatMap (outN G T m c steps)):=by rw[Q];exact I.flatMap_right _
   have hSo:=Yo d (fun s hs=>hOk s (M.subset hs)) (by have:=M.length_eq;omega);have hsl:=Nr M fun s hs=>hOk s (M.subset hs);refine CallK.heap [(1000,2)] 0 (by repeat' (first|exact x1m|refine x1x ?_ ?_|exact x1v _|exact x1d Sub.nils|exact x1d (Sub.tt rfl)|exact x1d (Sub.ff rfl)|exact x1d (Sub.int (by omega)))) (by refine x0e (j:=2) rfl rfl ?_ ?_;exact CSub.refl _;exact x1l) hSo rfl rfl ?_;rintro l' H' ⟨rfl,rfl⟩;rw[hsl];conv=>whnf
   repeat' (first|((first|(refine iM fun _=>?_)|refine dA ?_|refine x0h rfl ?_|refine aD ?_|refine aR ?_|refine bP ?_|(refine iA fun _=>?_)|refine IdxK.xs (by omega) ?_|refine QX (by omega) ?_|(refine ByteK.at (by omega) ?_)|refine wI ?_);conv=>whnf)|(apply bD<;>intro _<;>first|omega|conv=>whnf)|(apply bE<;>intro _<;>first|omega|conv=>whnf)|(apply bN<;>intro _<;>conv=>whnf)|(apply bB<;>intro _<;>conv=>whnf))
   all_goals first
    |exact⟨_,.hd rfl (by rw[<-hsl,x0j,Z8]),rfl⟩
  .have hjr:jj<v.length:=by simpa using hjj
   rw[P5,x4e];have hp2:(A++[v[jj]]++v.eraseIdx jj).Perm keys:=by
    refine List.Perm.trans ?_ I;rw[x1k];exact List.Perm.append_left _ (Ky v jj hjr)
   have hle2:(v.eraseIdx jj).length<v.length:=by rw[List.length_eraseIdx,if_pos hjr];omega
   generalize v[jj]=nm at*
   generalize v.eraseIdx jj=rest2 at*
   have hnk:=U nm (hp2.subset (by simp));have hCo:=hC (atN G c nm) (fun a ha=>K7 ha) (hAt nm);have V:=Ha c steps (atN G c nm);have Y:=fun r hr=>LP (n:=c) (steps:=steps) (at_:=atN G c nm) (r:=r) hr;have hal:=hAt nm;have hon:outN G T m c steps nm=RR T m c (atN G c nm) (comC c steps (atN G c nm)) nm:=rfl;have g:(A.flatMap (outN G T m c steps)).length+(outN G T m c steps nm).length<=1000000000:=by
    have h5:=(hp2.flatMap_right (outN G T m c steps)).length_eq;simp only[x4h,x1o,List.flatMap_nil,x2v,x0g]at h5;omega
   unfold Oe;conv=>whnf
   repeat' (first|((first|(refine iM fun _=>?_)|refine dA ?_|refine x0h rfl ?_|refine aD ?_|refine aR ?_|refine bP ?_|(refine iA fun _=>?_)|refine IdxK.xs (by omega) ?_|refine QX (by omega) ?_|(refine ByteK.at (by omega) ?_)|refine wI ?_|refine OpK.entry rfl rfl rfl hnk ?_|refine cP hCo ?_);conv=>whnf)|(apply bD<;>intro _<;>first|omega|conv=>whnf)|(apply bE<;>intro _<;>first|omega|conv=>whnf)|(apply bN<;>intro _<;>conv=>whnf)|(apply bB<;>intro _<;>conv=>whnf))
   rw[hon]at g;rw[<-Q]at g;have E:outN G T m c steps nm=RR T m c (atN G c nm) (comC c steps (atN G c nm)) nm:=hon;obtain⟨u,D⟩ : ∃u,u=atN G c nm:=⟨_,rfl⟩;obtain⟨C,hCC⟩ : ∃C,C=comC c steps u:=⟨_,rfl⟩;have hatl:∀a∈u,a<c:=fun a ha=>K7 (D▸ha);rw[<-D]at E g V Y hal⊢;rw[<-hCC]at E g V Y⊢;have hCm:((avI C).map AV.sl).length=c:=by unfold avI;rw[x0j,x0j,V]
   obtain⟨ch,hch⟩ : ∃ch:XC,ch=.iter (rest2.map (Oe G c)) (some (Oe G c nm)):=⟨_,rfl⟩;refine LoopK.inv QK (fun q:Nat=>⟨[(0,.p (.ip b.cells)),(1,.p (.int .i64 i)),(5,.p (.ip w.cells)),(6,.hd 2 0 (d++RR T m q u C nm).length),(7,.p (.sl (avP steps))),(10,.p (.sl ((List.range c).map fun q=>eStrs (T q)))),(12,.p (.str nm)),(13,.p (.sl (u.map fun a=>.int .i64 (a:Nat)))),(54,.ext 0 .iter),(64,.p (eMat C)),(65,.p (.int .i64 ((avI C).map AV.sl).length)),(66,.p (.int .i64 q))],[(0,.ext ch),(2,.own 107 3 ((d++RR T m q u C nm).map NN))]⟩) (fun q=>q<=c) (fun q=>c-q) 0 (Le.of_eq (by rw[hch,D];simp[RR];exact⟨rfl,fun _ _=>rfl,rfl⟩)) (x0l _) ?_;intro q hq;rcases x0t q c with H|H
   .have O:=Qv T m q u C nm;have hqC:q<C.length:=by omega
    have hrow:=Y _ (x0s hqC);have eC:((avI C).map AV.sl)[q]?=some (QI C[q]):=by unfold avI;rw[x0d,x0d,x0u hqC];rfl
    have hge:C.getD q []=C[q]:=by rw[x0y,x0u hqC];rfl
    rw[hge]at O;have hle3:=q1i T m (Nat.succ_le_of_lt H) u C nm;conv=>whnf
    repeat' (first|((first|(refine iM fun _=>?_)|refine dA ?_|refine x0h rfl ?_|refine aD ?_|refine aR ?_|refine bP ?_|(refine iA fun _=>?_)|refine IdxK.xs (by omega) ?_|refine QX (by omega) ?_|(refine ByteK.at (by omega) ?_)|refine wI ?_);conv=>whnf)|(apply bD<;>intro _<;>first|omega|conv=>whnf)|(apply bE<;>intro _<;>first|omega|conv=>whnf)|(apply bN<;>intro _<;>conv=>whnf)|(apply bB<;>intro _<;>conv=>whnf))
    have hav:∀h,(avI C)[q]'h=C[q].map (.int .i64):=fun h=>by
     have h2:=eC;rw[x0d,x0u h]at h2;have h3:AV.sl (avI C)[q]=.sl (C[q].map (.int .i64)):=x3h h2;exact AV.sl.inj h3
    simp only[hav];generalize C[q]=row at*
    have hrm:(row.map (AV.int .i64)).length=row.length:=x0j _;have hHs:=Q1 (T q) nm (hSr q).1 (by have:=(hSr q).2;omega);have eTk:((List.range c).map fun q=>eStrs (T q))[q]?=some (eStrs (T q)):=by rw[x0d,x4l H];rfl
    have hPq:=hPl q H;obtain⟨B,hgf⟩ : ∃B:Int->List Fl,B=fun f=>if inS (T q) nm=true then [⟨m (u.getD f.toNat 0),m q,nm⟩]else []:=⟨_,rfl⟩;rw[<-hgf]at O;rw[O,x0g]at hle3;generalize RR T m q u C nm=o at*
    refine LoopK.inv QK (fun z:Nat=>⟨[(0,.p (.ip b.cells)),(1,.p (.int .i64 i)),(5,.p (.ip w.cells)),(6,.hd 2 0 (d++o++(row.take z).flatMap B).length),(7,.p (.sl (avP steps))),(10,.p (.sl ((List.range c).map fun q=>eStrs (T q)))),(12,.p (.str nm)),(13,.p (.sl (u.map fun a=>.int .i64 (a:Nat)))),(14,.p (.int .i64 q)),(54,.ext 0 .iter),(64,.p (eMat C)),(65,.p (.int .i64 ((avI C).map AV.sl).length)),(66,.p (.int .i64 q)),(71,.p (QI row)),(72,.p (.int .i64 (row.map (AV.int .i64)).length)),(73,.p (.int .i64 z))],[(0,.ext ch),(2,.own 107 3 ((d++o++(row.take z).flatMap B).map NN))]⟩) (fun z=>z<=row.length) (fun z=>row.length-z) 0 (Le.of_eq (by simp;exact⟨rfl,rfl⟩)) (x0l _) ?_;intro z hz;have hzl:((row.take z).flatMap B).length<=(row.flatMap B).length:=by
     conv=>rhs;rw[<-List.take_append_drop z row,x4h,x0g]
     omega
    have hall:(d++o++(row.take z).flatMap B).length<=1000000000:=by rw[x0g,x0g];omega
    rcases x0t z row.length with J|J
    .have R:d++o++(row.take (z+1)).flatMap B=(d++o++(row.take z).flatMap B)++B row[z]:=by rw[x0a J,x4h,x1k,x1k,x1k];simp
     have hfr:=hrow.2 _ (x0s J);obtain⟨fz,hfz⟩ : ∃fz:Nat,row[z]=fz:=⟨row[z].toNat,by omega⟩;rw[hfz]at hfr R;have Z:fz<u.length:=by omega
     have hgz:B (fz:Int)=if inS (T q) nm=true then [⟨m u[fz],m q,nm⟩]else []:=by rw[hgf];simp only[x2s,x0y,x0u Z,x2k]
     have eAt:(u.map fun a=>AV.int .i64 (a:Nat))[fz]?=some (.int .i64 (u[fz]:Nat)):=by rw[x0d,x0u Z];rfl
     have hPa:=hPl _ (hatl _ (x0s Z));rw[hgz]at R;generalize u[fz]=az at*
     generalize(d++o++(row.take z).flatMap B)=oo at*
     have hom:(oo.map NN).length=oo.length:=x0j _;cases hin:inS (T q) nm;all_goals
      rw[hin]at hHs R;conv=>whnf
      repeat' (first|((first|(refine iM fun _=>?_)|refine dA ?_|refine x0h rfl ?_|refine aD ?_|refine aR ?_|refine bP ?_|(refine iA fun _=>?_)|refine IdxK.xs (by omega) ?_|refine QX (by omega) ?_|(refine ByteK.at (by omega) ?_)|refine wI ?_|(refine IdxK.at (k:=q) rfl eTk rfl ?_)|(refine IdxK.at (k:=fz) hfz eAt rfl ?_)|refine cP hHs ?_|refine cP hPa ?_|refine cP hPq ?_|refine x4n hom.symm rfl (by show(oo.length+1)*32<=140737488355328;omega) (by show oo.length+1<=9223372036854775807;omega) (fun x hx=>by rcases x0b.1 hx with rfl;exact⟨rfl,rfl⟩) ?_);conv=>whnf)|(apply bD<;>intro _<;>first|omega|conv=>whnf)|(apply bE<;>intro _<;>first|omega|conv=>whnf)|(apply bN<;>intro _<;>conv=>whnf)|(apply bB<;>intro _<;>conv=>whnf))
      all_goals first
       |contradiction
       |exact⟨z+1,J,by omega,Le.of_eq (by rw[R];simp<;>exact⟨rfl,rfl⟩)⟩
    .rw [x1w J,x1k,<-O];conv=>whnf
     repeat' (first|((first|(refine iM fun _=>?_)|refine dA ?_|refine x0h rfl ?_|refine aD ?_|refine aR ?_|refine bP ?_|(refine iA fun _=>?_)|refine IdxK.xs (by omega) ?_|refine QX (by omega) ?_|(refine ByteK.at (by omega) ?_)|refine wI ?_);conv=>whnf)|(apply bD<;>intro _<;>first|omega|conv=>whnf)|(apply bE<;>intro _<;>first|omega|conv=>whnf)|(apply bN<;>intro _<;>conv=>whnf)|(apply bB<;>intro _<;>conv=>whnf))
     all_goals first
      |exact⟨q+1,H,by omega,Le.of_eq rfl⟩
   .have hqe:q=c:=by omega
    rw[hqe,<-E];conv=>whnf
    repeat' (first|((first|(refine iM fun _=>?_)|refine dA ?_|refine x0h rfl ?_|refine aD ?_|refine aR ?_|refine bP ?_|(refine iA fun _=>?_)|refine IdxK.xs (by omega) ?_|refine QX (by omega) ?_|(refine ByteK.at (by omega) ?_)|refine wI ?_);conv=>whnf)|(apply bD<;>intro _<;>first|omega|conv=>whnf)|(apply bE<;>intro _<;>first|omega|conv=>whnf)|(apply bN<;>intro _<;>conv=>whnf)|(apply bB<;>intro _<;>conv=>whnf))
    all_goals first
     |exact⟨(rest2,some nm,d++outN G T m c steps nm),⟨A++[nm],hp2,by simp only;rw[x4h,<-Q];simp⟩,hle2,Le.mk [] (by simp) (by simp) (by simp) (.r (.r (.r (.r (.r (.r (.r .nil))))))) (.cons rfl (.of_eq (by rw[hch];rfl)) (.cons rfl (.refl _) .nil))⟩
end Go.Ab
