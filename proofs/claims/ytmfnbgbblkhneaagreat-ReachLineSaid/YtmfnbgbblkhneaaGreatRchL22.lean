/- Maps of the call's own whose values are rows of its own: made, looked into, written, laid by; a map whose values are data, gone through. Conditions: the table of types is the program's own. -/
import Derived.Maps.RangeRun
import Derived.Test.YtmfnbgbblkhneaaGreatRchL11
import Derived.Test.YtmfnbgbblkhneaaGreatRchL14
import Derived.Test.YtmfnbgbblkhneaaGreatRchL20
import Derived.Test.YtmfnbgbblkhneaaGreatRchL21
set_option linter.unusedSimpArgs false
set_option linter.unusedVariables false
set_option maxRecDepth 100000
set_option maxHeartbeats 16000000
namespace Go.Ab
open Go.Proofs.Tryz
variable {α:Type}{K:St->Prop}{e k sz:Nat}{l:List (List UInt8×List AV)}{o:Oper}{t:TypeId}
section
variable {P:Program}{T:Tab}{N:Nat}
def Bu(l:List (List UInt8×List AV))(k:List UInt8):List AV:=(Mt l k).getD []
theorem SS{s s':St}{σ:Mem}{β:Lab}{ac:Act}{w:World}(hr:Rel N σ β s ac w){k2:Nat}(hu:WU k2 s=true){i i':BInfo}{o2:Option BInfo}(hi:β k=some i){c0:Chunk}(hg:getH s.H k=some c0)(hb:i'.blk=i.blk/\i'.cap=i.cap/\i'.sz=i.sz)(hhas:∀b,i'.has b->i.has b)(hhas2:∀i2,o2=some i2->∀b,i2.has b->i.has b/\¬i'.has b)(hpin:ZD k=false){c c2:Chunk}(h:KA s k k2 c c2 fun s2=>s2=s')(hc:∀β':Lab,β' k=some i'->β' k2=o2->c.holds σ β' w k/\c2.holds σ β' w k2):
  ∃β',Rel N σ β' s' ac w/\Later σ β s.H w σ β' s'.H w/\β' k2=o2/\β' k=some i'/\∀l v,l.xfree k=true->l.free k2=true->RepL σ β l v->RepL σ β' l v:=by
 obtain⟨sl,h,hsl⟩:=WK (by rfl) h;obtain⟨H2,rfl,hsub,hmem⟩:=WG h;obtain⟨hu1,hu2⟩:=XL hu;have hu3:=YW hu;have hk1:=QN hg;have hne:k≠k2:=fun he=>(hu1 k _ (QG hg)).1 he;have hnm:k2∉s.H.map (·.1):=fun hk=>by
  obtain⟨⟨j,c⟩,hm,rfl⟩:=x3q.1 hk;exact(hu1 j c hm).1 rfl
 have hlab:∀j∈H2.map (·.1),j∈s.H.map (·.1)/\j≠k2:=fun j hj=>by
  refine⟨hsub.subset hj,fun he=>?_⟩;obtain⟨⟨j',c⟩,hm,rfl⟩:=x3q.1 hj;exact(hmem j' c hm).1 he
 let β':Lab:=(β.set k (some i')).set k2 o2;have hset:∀j,j≠k->j≠k2->β' j=β j:=fun j h1 h2=>by simp[β',Lab.set,h1,h2]
 have hsetk:β' k=some i':=by simp[β',Lab.set,hne]
 have hsetk2:β' k2=o2:=by simp[β',Lab.set]
 have hlv:∀l v,l.xfree k=true->l.free k2=true->RepL σ β l v->RepL σ β' l v:=fun l v h1 h2 hl=>(hl.subs (i':=i') hi hb h1).set o2 h2;have hkf:∀l:LV,l.free k2=true->(l.xkill k).free k2=true:=fun l h=>by
  unfold LV.xkill;cases l.xfree k
  ·rfl
  ·exact h
 have hwas:∀j ij,β' j=some ij->(j=k\/j=k2\/j∈s.H.map (·.1))->∀b,ij.has b->∃j0 i0,j0∈s.H.map (·.1)/\β j0=some i0/\i0.has b/\(j≠k->j≠k2->j0=j)/\(j=k\/j=k2->j0=k):=fun j ij hij hj b hb=>by
  by_cases h1:j=k
  ·subst h1;rw[hsetk]at hij;cases hij;exact⟨_,i,hk1,hi,hhas b hb,fun h=>absurd rfl h,fun _=>rfl⟩
  ·by_cases h2:j=k2
   ·subst h2;rw[hsetk2]at hij;exact⟨k,i,hk1,hi,(hhas2 ij hij b hb).1,fun _ h=>absurd rfl h,fun _=>rfl⟩
   ·rw[hset j h1 h2]at hij;exact⟨j,ij,(hj.resolve_left h1).resolve_left h2,hij,hb,fun _ _=>rfl,fun h=>absurd h (by simp[h1,h2])⟩
 have hcase:∀j∈((k2,c2)::H2).map (·.1),j=k\/j=k2\/j∈s.H.map (·.1):=fun j hj=>by
  simp only[x3l,x2i]at hj;rcases hj with hj|hj
  ·exact .inr (.inl hj)
  ·exact .inr (.inr (hlab j hj).1)
 obtain⟨hck,hck2⟩:=hc β' hsetk hsetk2;refine⟨β',⟨hr.size,hr.defers,fun j=>?_,⟨hr.heap.mem,fun j c hj=>?_,?_,fun j hj ij hij b hb=>?_,fun j hj j' hj' i1 i2 h1 h2 b hb1 hb2=>?_⟩⟩,⟨Mem.le_refl σ,Frm.refl _ _,fun _ h0 h1=>absurd h0 h1,fun b ⟨j,hj,ij,hij,hb⟩=>?_,fun j h0 h1=>hset j (Mb hpin j h0 h1) (by omega)⟩,hsetk2,hsetk,hlv⟩
 ·show RepL σ β' (getS sl j) _;rw[hsl];exact hlv _ _ (ZR k _) (hkf _ (hu2 j)) ((hr.slots j).xkill k)
 ·rcases x2i.1 hj with he|hj
  ·cases he;exact hck2
  ·obtain⟨hj2,⟨rfl,rfl⟩|⟨h1,c0,h2,rfl⟩⟩:=hmem j c hj
   ·exact hck
   ·have hfr:=(hu1 j c0 h2);have hhold:=hr.heap.chunks j c0 h2;cases c0 with
    | obj e' cs=>
      obtain⟨i2,vs2,hi2,hh2,hn2,hc2⟩:=hhold;refine⟨i2,vs2,(hset j h1 hj2).trans hi2,hh2,by simpa using hn2,fun m l hm=>?_⟩;rw[x2e]at hm;cases hq:cs[m]?with
      |none=>rw[hq]at hm;cases hm
      | some l'=>
        rw[hq]at hm;cases hm;obtain⟨u,h5,h6⟩:=hc2 m l' hq;exact⟨u,h5,hlv _ _ (ZR k _) (hkf _ (XY hfr.2 m l' hq)) (h6.xkill k)⟩
    | own e' sz' es'=>
      rcases hhold with⟨h5,h6⟩|⟨i2,vs2,hi2,rest⟩
      ·exact .inl ⟨(hset j h1 hj2).trans h5,h6⟩
      ·exact .inr ⟨i2,vs2,(hset j h1 hj2).trans hi2,rest⟩
    | ext d=>
      show d.holds σ (β' j) w;rw[hset j h1 hj2];exact hhold
 ·simp only[x3l,x4r];exact⟨fun hk=>(hlab k2 hk).2 rfl,hsub.nodup hr.heap.nodup⟩
 ·obtain⟨j0,i0,h1,h2,h3,_⟩:=hwas j ij hij (hcase j hj) b hb;exact hr.heap.apart j0 h1 i0 h2 b h3
 ·obtain⟨j0,i0,h3,h4,h5,h6,h7⟩:=hwas j i1 h1 (hcase j hj) b hb1;obtain⟨j1,i3,h8,h9,h10,h11,h12⟩:=hwas j' i2 h2 (hcase j' hj') b hb2;have hj01:=hr.heap.inj j0 h3 j1 h8 i0 i3 h4 h9 b h5 h10;by_cases e1:j=k<;>by_cases e2:j'=k
  ·rw[e1,e2]
  ·by_cases e3:j'=k2
   ·subst e1 e3;rw[hsetk]at h1;cases h1;rw[hsetk2]at h2;exact absurd hb1 (hhas2 i2 h2 b hb2).2
   ·have:=h7 (.inl e1);have:=h11 e2 e3;exact absurd (by omega) e2
  ·by_cases e3:j=k2
   ·subst e2 e3;rw[hsetk]at h2;cases h2;rw[hsetk2]at h1;exact absurd hb2 (hhas2 i1 h1 b hb1).2
   ·have:=h12 (.inl e2);have:=h6 e1 e3;exact absurd (by omega) e1
  ·by_cases e3:j=k2<;>by_cases e4:j'=k2
   ·rw[e3,e4]
   ·have:=h7 (.inr e3);have:=h11 e2 e4;exact absurd (by omega) e2
   ·have:=h12 (.inr e4);have:=h6 e1 e3;exact absurd (by omega) e1
   ·have:=h6 e1 e3;have:=h11 e2 e4;omega
 ·obtain⟨j0,i0,h1,h2,h3,_⟩:=hwas j ij hij (hcase j hj) b hb;exact .inl ⟨j0,h1,i0,h2,h3⟩
theorem P0{s:St}(e sz:Nat)(hop:o.op=.makeMap t none)(h:HO 60 0 s fun k=>setD N s.sl o.dst (.ext k .map) fun sl=>K ⟨sl,(k,.ext (.mapr e sz [] none))::s.H⟩):OpK P N s o K:=by
 refine⟨fun σ β a w hr Q=>?_⟩;obtain⟨k,hk,h⟩:=UP h;have hchunk:(Chunk.ext (.mapr e sz [] none)).holds σ (β.set k (some ⟨w.heap.size,0,0,[],x3z _⟩)) (w.alloc (.map #[] 0)) k:=
  ⟨⟨w.heap.size,0,0,[],x3z _⟩,#[],0,by simp[Lab.set],heap_alloc_new w _,⟨.nil,fun x hx=>by cases hx⟩,rfl,rfl,.nil,fun a b c h=>by simp at h,fun a x h=>by simp at h⟩
 obtain⟨hr',hl⟩:=hr.new hk rfl rfl hchunk;obtain⟨sl,hK,hr''⟩:=hr'.setD (v:=.ext k .map) (u:=.map (some w.heap.size)) (.ext k .map ⟨w.heap.size,0,0,[],x3z _⟩ _ (by simp[Lab.set]) rfl) h;exact XS (w':=w.alloc (.map #[] 0)) (by simp[execOp,hop,Instr.makeMap]) ⟨σ,_,_,hK,hr'',hl⟩
theorem Ay{l:List (List UInt8×α)}{es:Array MapEntry}(h1:es.size=l.length)(h2:∀(m:Nat)(x:List UInt8×α),l[m]?=some x->∃e:MapEntry,es[m]?=some e/\e.key=YM x.1):es.toList.map (·.key)=l.map (fun x=>YM x.1):=by
 apply x8k;intro m;rw[x2e,x2e];cases hq:l[m]?with
 | none=>
   have:es.toList[m]?=none:=by
    rw[x8g]at hq⊢;simp;omega
   rw[this];rfl
 | some x=>
   obtain⟨e,h3,h4⟩:=h2 m x hq;have h3':es.toList[m]?=some e:=by simpa using h3
   rw[h3'];simp[h4]
theorem CO{l:List (List UInt8×α)}{k:List UInt8}(h:(l.findIdx? fun x=>decide (k=x.1))=none):Mt l k=none:=by
 unfold Mt;rw[List.findIdx?_eq_none_iff]at h;rw[x6q.2 fun x hx=>by simpa using h x hx];rfl
theorem N3{l:List (List UInt8×α)}{k:List UInt8}{j:Nat}(h:(l.findIdx? fun x=>decide (k=x.1))=some j):∃x,l[j]?=some x/\x.1=k/\Mt l k=some x.2:=by
 obtain⟨h1,h2,h3⟩:=List.findIdx?_eq_some_iff_getElem.1 h;refine⟨l[j],x2n h1,(by simpa using h2:k=l[j].1).symm,?_⟩;unfold Mt;have:l.find? (fun x=>decide (k=x.1))=some l[j]:=List.find?_eq_some_iff_getElem.2 ⟨h2,j,h1,rfl,fun i hi=>by simpa using h3 i hi⟩;rw[this];rfl
theorem RE{l:List (List UInt8×α)}(h:(l.map (·.1)).Nodup){i j:Nat}{x y:List UInt8×α}(hi:l[i]?=some x)(hj:l[j]?=some y)(he:x.1=y.1):i=j:=by
 have h1:=(x2o.1 hi);have h2:=(x2o.1 hj);obtain⟨h1,rfl⟩:=h1;obtain⟨h2,rfl⟩:=h2;refine(List.getElem_inj (h₀:=by simpa using h1) (h₁:=by simpa using h2) h).1 ?_;simpa using he
theorem Cw(hT:TabOK P T){s:St}{x ix:Operand}(k2:Nat)(hop:o.op=.lookup t x ix false)(hx:QM s.sl x=.ext k .map)(hg:getH s.H k=some (.ext (.mapr e sz l none))){ks:List UInt8}(hk:QM s.sl ix=.p (.str ks)){i ik ie:TyI}{kt et:TypeId}(ht:T.get t=some i)(hd:i.desc=.map kt et)(htk:T.get kt=some ik)(hdk:ik.desc=.string)(hte:T.get et=some ie)(hze:ie.zero=.slice none 0 0)(hu:WU k2 s=true)(hpin:ZD k=false)(h:KA s k k2 (.ext (.mapr e sz l (some ks))) (.own e sz (Bu l ks)) fun s2=>setD N s2.sl o.dst (.hd k2 0 (Bu l ks).length) fun sl=>K ⟨sl,s2.H⟩):OpK P N s o K:=by
 obtain⟨s2,h,he⟩:=Ks h;refine⟨fun σ β a w hr Q=>?_⟩;have hx':=QZ hr.slots x;have hk':=QZ hr.slots ix;rw[hx]at hx';rw[hk]at hk';have hkv:=Ti hk';generalize hxe:a.eval x=xv at hx';cases hx' with
 | ext _ _ bi _ hbi hd'=>
   obtain rfl:xv=.map (some bi.blk):=hd';obtain⟨bi',es,clock,hbi',hh,hbo,h1,h2,h3,h4,h5⟩:=hr.heap.chunks k _ (QG hg);rw[hbi]at hbi';cases hbi';have hkeys:=Ay h1 fun m x hm=>let ⟨e',g1,g2,_⟩:=h5 m x hm;⟨e',g1,g2⟩;have hu':=hT.of ht;have huk:=hT.of htk;rw[hd]at hu';rw[hdk]at huk;have hfind:=FO ks es.toList l 0 hkeys;let i':BInfo:=⟨bi.blk,bi.cap,bi.sz,List.zipWith (fun(x:List UInt8×List AV) o=>if x.1=ks then none else o) l bi.subs,bi.ok⟩;have hsub':∀(p:Nat)(x:List UInt8×List AV),l[p]?=some x->i'.subs[p]?=if x.1=ks then some none else bi.subs[p]?:=fun p x hp=>by
    show(List.zipWith _ l bi.subs)[p]?=_;have hlt:p<bi.subs.length:=by rw[h2];exact(x2o.1 hp).1
    rw[List.getElem?_zipWith,hp,x2n hlt];simp only;split<;>rfl
   have hsubx:∀(p b c:Nat),i'.subs[p]?=some (some (b,c))->bi.subs[p]?=some (some (b,c))/\∃x,l[p]?=some x/\x.1≠ks:=fun p b c hp=>by
    have hlt:p<l.length:=by
     have:=(x2o.1 hp).1;simp only[i',x9l]at this;omega
    have h6:=hsub' p _ (x2n hlt);rw[hp]at h6;split at h6
    ·cases h6
    ·rename_i h7;exact⟨h6.symm,_,x2n hlt,h7⟩
   have hhas:∀b,i'.has b->bi.has b:=fun b hb=>by
    rcases hb with hb|⟨c,hb⟩
    ·exact .inl hb
    ·obtain⟨p,hp⟩:=x5s.1 hb;exact .inr ⟨c,x3k (hsubx p b c hp).1⟩
   have hmapr:∀β':Lab,β' k=some i'->(Chunk.ext (.mapr e sz l (some ks))).holds σ β' w k:=fun β' hβ=>by
    refine⟨i',es,clock,hβ,hh,hbo,h1,by show(List.zipWith _ l bi.subs).length=_;rw[x9l,h2];omega,h3,fun p b c hp=>?_,fun p x hp=>?_⟩
    ·obtain⟨h6,_⟩:=hsubx p b c hp;exact⟨(h4 p b c h6).1,fun p' c' hp'=>(h4 p b c h6).2 p' c' (hsubx p' b c' hp').1⟩
    ·obtain⟨e',g1,g2,_,g4⟩:=h5 p x hp;refine⟨e',g1,g2,fun hq=>?_,fun hq=>?_⟩
     ·rw[hsub' p x hp,if_pos (x5j hq).symm]
     ·obtain⟨b,c,ws,q1,q2⟩:=g4 (by simp);refine⟨b,c,ws,?_,q2⟩;rw[hsub' p x hp,if_neg (fun hh=>hq (by rw[hh]))];exact q1
   obtain⟨o2,vv,ho2,hrun,hown,hrep⟩ : ∃(o2:Option BInfo) (vv:Value),(∀i2,o2=some i2->i2.subs=[]/\∃(p c:Nat) (x:List UInt8×List AV),l[p]?=some x/\x.1=ks/\bi.subs[p]?=some (some (i2.blk,c)))/\(execOp a.eval o).run P w=.ok (.value vv) w/\
     (∀β':Lab,β' k2=o2->(Chunk.own e sz (Bu l ks)).holds σ β' w k2)/\∀β':Lab,β' k2=o2->RepL σ β' (.hd k2 0 (Bu l ks).length) vv:=by
    have hrunw:∀(vv:Value)(r:Option (Nat×Value)),(Instr.findKey kt (YM ks) es.toList).run P w=.ok r w->(r=none->vv=.slice none 0 0)->(∀q,r=some q->vv=q.2)->(execOp a.eval o).run P w=.ok (.value vv) w:=fun vv r hfk hn hs=>by
     have hlk:(Instr.lookup t (.map (some bi.blk)) (YM ks) false).run P w=.ok vv w:=by
      unfold Instr.lookup;rw[Sem.run_bind,run_underlying hu',Result.andThen_ok];simp only[Sem.run_bind,UN hh,Result.andThen_ok,Sem.run_pure,JY huk,hfk];cases r with
      | none=>
        rw[hn rfl];simp only[Sem.run_bind,TyOK.zeroValue (hT _ _ hte),hze,Result.andThen_ok,Sem.run_pure];rfl
      | some q=>
        rw[hs q rfl];rfl
     simp only[execOp,hop,hxe,hkv,Sem.run_bind,hlk,Result.andThen_ok];rfl
    cases hj:l.findIdx? fun x=>decide (ks=x.1)with
    | none=>
      rw[hj]at hfind;have hrow:Bu l ks=[]:=by unfold Bu;rw[CO hj];rfl
      refine⟨none,.slice none 0 0,fun i2 h=>(by cases h),hrunw _ none ?_ (fun _=>rfl) (fun q h=>by cases h),fun β' hβ=>.inl ⟨hβ,hrow⟩,fun β' hβ=>?_⟩
      ·unfold Instr.findKey;rw[Sem.run_bind,run_underlying huk,Result.andThen_ok,hfind];rfl
      ·rw[hrow];exact .hdn k2 hβ
    | some j=>
      rw[hj]at hfind;obtain⟨y,hy1,hy2,hy3⟩:=N3 hj;have hrow:Bu l ks=y.2:=by unfold Bu;rw[hy3];rfl
      obtain⟨e',g1,g2,_,g4⟩:=h5 j y hy1;obtain⟨b,c,ws,q1,q2,q3,q4,q5,q6,q7⟩:=g4 (by simp);have g1':es.toList[j]?=some e':=by simpa using g1
      simp only[g1',x6e,x5q]at hfind;refine⟨some ⟨b,c,sz,[],q6⟩,e'.val,fun i2 h=>?_,hrunw _ (some (0+j,e'.val)) ?_ (fun h=>by cases h) (fun q h=>by cases h;rfl),fun β' hβ=>?_,fun β' hβ=>?_⟩
      ·cases h;exact⟨rfl,j,c,y,hy1,hy2,q1⟩
      ·unfold Instr.findKey;rw[Sem.run_bind,run_underlying huk,Result.andThen_ok,hfind];rfl
      ·rw[hrow];exact .inr ⟨⟨b,c,sz,[],q6⟩,ws,hβ,rfl,q3,q4,q5,q6,q7⟩
      ·rw[hrow,q2];have:=x9s (σ:=σ) (β:=β') k2 0 y.2.length ⟨b,c,sz,[],q6⟩ 0 hβ (by simpa using q5) (.inl (by simp));simpa using this
   obtain⟨β',hr',hl,hb2,_,_⟩:=SS (i':=i') (o2:=o2) hr hu hbi hg ⟨rfl,rfl,rfl⟩ hhas (fun i2 h b hb=>by
    obtain⟨h6,p,c,x,h7,h8,h9⟩:=ho2 i2 h;have he:i2.blk=b:=by
     rcases hb with hb|⟨c,hb⟩
     ·exact hb
     ·rw[h6]at hb;cases hb
    subst he;refine⟨.inr ⟨c,x3k h9⟩,fun hb'=>?_⟩;rcases hb' with hb'|⟨c',hb'⟩
    ·exact(h4 p _ c h9).1 hb'
    ·obtain⟨p',hp'⟩:=x5s.1 hb';obtain⟨h10,x',h11,h12⟩:=hsubx p' _ c' hp';obtain rfl:=(h4 p _ c h9).2 p' c' h10;rw[h7]at h11;cases h11;exact h12 h8) hpin he fun β' g1 g2=>⟨hmapr β' g1,hown β' g2⟩
   obtain⟨sl,hK,hr''⟩:=hr'.setD (hrep β' hb2) h;exact XS hrun ⟨σ,β',_,hK,hr'',hl⟩
theorem I8(hT:TabOK P T){s:St}{x ix vx:Operand}(hop:o.op=.mapUpdate t x ix vx)(hdst:o.dst=none)(hx:QM s.sl x=.ext k .map){ks:List UInt8}(hg:getH s.H k=some (.ext (.mapr e sz l (some ks))))(hk:QM s.sl ix=.p (.str ks)){k2 n:Nat}(hvx:QM s.sl vx=.hd k2 0 n){es2:List AV}(hg2:getH s.H k2=some (.own e sz es2))(hn:n=es2.length)(hpos:0<n){i ik:TyI}{kt et:TypeId}(ht:T.get t=some i)(hd:i.desc=.map kt et)(htk:T.get kt=some ik)(hdk:ik.desc=.string)(hpin:(ZD k||ZD k2)=false)(hne:k≠k2)(h:As s k k2 (.ext (.mapr e sz (PT l ks es2) none)) K):OpK P N s o K:=by
 refine⟨fun σ β a w hr Q=>?_⟩;obtain⟨sl,h,hsl⟩:=WK (by rfl) h;obtain⟨H2,hK,hsub,hmem⟩:=WG h;simp only[x6s]at hpin;have hx':=QZ hr.slots x;have hk':=QZ hr.slots ix;have hv':=QZ hr.slots vx;rw[hx]at hx';rw[hk]at hk';rw[hvx]at hv';have hkv:=Ti hk';have hk1:=QN hg;have hk2:=QN hg2;generalize hxe:a.eval x=xv at hx';generalize hve:a.eval vx=vv at hv';cases hx' with
 |ext _ _ bi _ hbi hd'=>
 obtain rfl:xv=.map (some bi.blk):=hd';obtain⟨bi',es,clock,hbi',hh,hbo,h1,h2,h3,h4,h5⟩:=hr.heap.chunks k _ (QG hg);rw[hbi]at hbi';cases hbi';obtain⟨i2,ws,hi2,hvv,r1,r2,r3,r4,r5⟩ : ∃i2 ws,β k2=some i2/\vv=.slice (some ⟨i2.blk,0,none⟩) es2.length i2.cap/\w.heap[i2.blk]?=some (.cells ws e (0,0))/\ws.size=i2.cap*sz/\es2.length<=i2.cap/\i2.cap<=maxLen/\
   ∀(m:Nat)(x:AV),es2[m]?=some x->x.cells.length=sz/\∀(j:Nat)(c':AV),x.cells[j]?=some c'->∃u:Value,ws[m*sz+j]?=some u/\Rep σ c' u:=by
  rcases hr.heap.chunks k2 _ (QG hg2)with⟨_,hes⟩|⟨i2,ws,hi2,g1,g2,g3,g4,g5,g6⟩
  ·rw[hes]at hn;simp at hn;omega
  ·rcases hv'.hdI with⟨hk,_⟩|⟨i3,oo,hk,hl,ho,he⟩
   ·rw[hi2]at hk;cases hk
   ·rw[hi2]at hk;cases hk;have hoo:oo=0:=by
     rcases ho with ho|ho
     ·simpa using ho
     ·omega
    subst hoo;exact⟨i2,ws,hi2,by rw[he,hn];simp,g2,by rw[g3],g4,g5,g6⟩
 have hkeys:=Ay h1 fun m x hm=>let ⟨e',g1,g2,_⟩:=h5 m x hm;⟨e',g1,g2⟩;have hu':=hT.of ht;have huk:=hT.of htk;rw[hd]at hu';rw[hdk]at huk;have hfind:=FO ks es.toList l 0 hkeys;have hlt:=(hr.heap.apart k hk1 bi hbi bi.blk bi.has_blk).2;obtain⟨es',clock',subs',hrun,hbo',hsz,hsl',hnd',hent⟩ : ∃(es':Array MapEntry) (clock':Nat) (subs':List (Option (Nat×Nat))),(Instr.mapUpdate t (.map (some bi.blk)) (YM ks) vv).run P w=.ok () {w with heap:=w.heap.setIfInBounds bi.blk (.map es' clock')}/\Zc es' clock'/\es'.size=(PT l ks es2).length/\subs'.length=(PT l ks es2).length/\((PT l ks es2).map (·.1)).Nodup/\
   ∀(m:Nat)(x:List UInt8×List AV),(PT l ks es2)[m]?=some x->∃e':MapEntry,es'[m]?=some e'/\e'.key=YM x.1/\(x.1=ks->e'.val=vv/\subs'[m]?=some (some (i2.blk,i2.cap))/\x.2=es2)/\(x.1≠ks->l[m]?=some x/\es[m]?=some e'/\subs'[m]?=bi.subs[m]?):=by
  cases hj:l.findIdx? fun x=>decide (ks=x.1)with
  | none=>
    rw[hj]at hfind;rw[Ju hj];refine⟨es.push {key:=YM ks,val:=vv,born:=clock},clock+1,bi.subs++[some (i2.blk,i2.cap)],?_,U6 hbo rfl,by simpa using h1,by simp[h2],?_,fun m y hy=>?_⟩
    ·have hfk:(Instr.findKey kt (YM ks) es.toList).run P w=.ok none w:=by
      unfold Instr.findKey;rw[Sem.run_bind,run_underlying huk,Result.andThen_ok,hfind];rfl
     unfold Instr.mapUpdate;rw[Sem.run_bind,run_underlying hu',Result.andThen_ok];simp only[Sem.run_bind,UN hh,Result.andThen_ok,Sem.run_pure,JY huk,hfk,BE _ hh]
    ·rw[x3y,x4l];refine⟨h3,by simp,fun u hu v hv=>?_⟩;simp only[x3l,x9u,x2a]at hv;obtain⟨z,hz,rfl⟩:=x3q.1 hu;have:=List.findIdx?_eq_none_iff.1 hj z hz;intro he;rw[he,hv]at this;simp at this
    ·rw[x6c]at hy;split at hy
     ·rename_i hm;obtain⟨e',g1,g2,_⟩:=h5 m y hy;have hyk:y.1≠ks:=fun he=>by
       have:=List.findIdx?_eq_none_iff.1 hj y (x3k hy);rw[he]at this;simp at this
      have hms:m<es.size:=by omega
      exact⟨e',by rw[x8d,if_neg (by omega)];exact g1,g2,fun he=>absurd he hyk,fun _=>⟨hy,g1,by rw[x4p (by omega)]⟩⟩
     ·rename_i hm;have hm0:m-l.length=0:=by
       have:=(x2o.1 hy).1;simp at this;omega
      rw[hm0]at hy;simp at hy;subst hy;exact⟨{key:=YM ks,val:=vv,born:=clock},by rw[x8d,if_pos (by omega)],rfl,fun _=>⟨rfl,by rw[x4u (by omega),h2,hm0];rfl,rfl⟩,fun he=>absurd rfl he⟩
  | some j=>
    rw[hj]at hfind;obtain⟨y,hy1,hy2⟩:=Mp (v:=es2) hj;obtain⟨y',hy3,hy4,_⟩:=N3 hj;rw[hy1]at hy3;cases hy3;rw[hy2];obtain⟨e',g1,g2,g3,_⟩:=h5 j y hy1;have g1':es.toList[j]?=some e':=by simpa using g1
    have hjlt:j<es.size:=(x3r.1 g1).1;simp only[g1',x6e,x5q,x5m]at hfind;have hek:e'.key=YM ks:=by rw[g2,hy4];rfl
    refine⟨es.modify j fun e=>{e with key:=YM ks,val:=vv},clock,bi.subs.set j (some (i2.blk,i2.cap)),?_,LP hbo j fun _=>rfl,by simpa using h1,by simp[h2],?_,fun m z hz=>?_⟩
    ·have hfk:(Instr.findKey kt (YM ks) es.toList).run P w=.ok (some (j,e'.val)) w:=by
      unfold Instr.findKey;rw[Sem.run_bind,run_underlying huk,Result.andThen_ok,hfind];rfl
     have hkt:(Instr.keyThatStays (((es[j]?).map (·.key)).getD (YM ks)) (YM ks)).run P w=.ok (YM ks) w:=by
      rw[g1];simp only[x6e,x5q,hek];unfold Instr.keyThatStays;have:Instr.sameBits 10000 (YM ks) (YM ks)=true:=by
       unfold YM;show((⟨ks.toArray⟩:ByteArray)==⟨ks.toArray⟩)=true;rw[U7];simp
      rw[if_pos this];rfl
     unfold Instr.mapUpdate;rw[Sem.run_bind,run_underlying hu',Result.andThen_ok];simp only[Sem.run_bind,UN hh,Result.andThen_ok,Sem.run_pure,JY huk,hfk,hkt,BE _ hh]
    ·rw[x4m];have:(l.map (·.1)).set j y.1=l.map (·.1):=by
      apply x8k;intro m;by_cases hm:m=j
      ·subst hm;have hml:m<l.length:=(x2o.1 hy1).1;rw[x5w (by simpa using hml),x2e,hy1];rfl
      ·rw[x5h (x6o hm)]
     rw[this];exact h3
    ·by_cases hm:m=j
     ·subst hm;rw[x5w (by omega)]at hz;cases hz;exact⟨{e' with key:=YM ks,val:=vv},by simp[x7z,g1],by rw[hy4],fun _=>⟨rfl,by rw[x5w (by omega)],rfl⟩,fun he=>absurd hy4 he⟩
     ·rw[x5h (x6o hm)]at hz;obtain⟨e'',g4,g5,_⟩:=h5 m z hz;have hzk:z.1≠ks:=fun he=>hm (RE h3 hz hy1 (by rw[he,hy4]));exact⟨e'',by rw[x7z,if_neg (x6o hm)];exact g4,g5,fun he=>absurd he hzk,fun _=>⟨hz,g4,by rw[x5h (x6o hm)]⟩⟩
 have hrun':(execOp a.eval o).run P w=.ok .skip {w with heap:=w.heap.setIfInBounds bi.blk (.map es' clock')}:=by
  simp only[execOp,hop,hxe,hkv,hve,Sem.run_bind,hrun,Result.andThen_ok];rfl
 let w':World:={w with heap:=w.heap.setIfInBounds bi.blk (.map es' clock')};let i':BInfo:=⟨bi.blk,bi.cap,bi.sz,subs',bi.ok⟩;let β':Lab:=(β.set k2 none).set k (some i');have hset:∀j,j≠k->j≠k2->β' j=β j:=fun j h1 h2=>by simp[β',Lab.set,h1,h2]
 have hsetk:β' k=some i':=by simp[β',Lab.set]
 have hother:∀b,b≠bi.blk->w'.heap[b]?=w.heap[b]?:=fun b hb=>x6t (x6o hb);have hsubx:∀(p b c:Nat),subs'[p]?=some (some (b,c))->(b=i2.blk/\∃x,(PT l ks es2)[p]?=some x/\x.1=ks)\/(bi.subs[p]?=some (some (b,c))/\∃x,(PT l ks es2)[p]?=some x/\x.1≠ks):=fun p b c hp=>by
  have hlt:p<(PT l ks es2).length:=by
   have:=(x2o.1 hp).1;omega
  have hq:=x2n hlt;obtain⟨e',_,_,g3,g4⟩:=hent p _ hq;by_cases he:((PT l ks es2)[p]).1=ks
  ·obtain⟨_,g5,_⟩:=g3 he;rw[hp]at g5;cases g5;exact .inl ⟨rfl,_,hq,he⟩
  ·obtain⟨_,_,g5⟩:=g4 he;rw[hp]at g5;exact .inr ⟨g5.symm,_,hq,he⟩
 have hhas:∀b,i'.has b->bi.has b\/i2.has b:=fun b hb=>by
  rcases hb with hb|⟨c,hb⟩
  ·exact .inl (.inl hb)
  ·obtain⟨p,hp⟩:=x5s.1 hb;rcases hsubx p b c hp with⟨h6,_⟩|⟨h6,_⟩
   ·exact .inr (.inl h6.symm)
   ·exact .inl (.inr ⟨c,x3k h6⟩)
 have hapart:∀b,bi.has b->¬i2.has b:=fun b h6 h7=>hne (hr.heap.inj k hk1 k2 hk2 bi i2 hbi hi2 b h6 h7);have hlab:∀j∈H2.map (·.1),j∈s.H.map (·.1)/\j≠k2:=fun j hj=>by
  refine⟨hsub.subset hj,fun he=>?_⟩;obtain⟨⟨j',c⟩,hm,rfl⟩:=x3q.1 hj;exact(hmem j' c hm).1 he
 have hwas:∀j,j≠k2->∀ij,β' j=some ij->∀b,ij.has b->(∃i0,β j=some i0/\i0.has b)\/(j=k/\i2.has b):=fun j hj ij hij b hb=>by
  by_cases hjk:j=k
  ·subst hjk;rw[hsetk]at hij;cases hij;rcases hhas b hb with h1|h1
   ·exact .inl ⟨bi,hbi,h1⟩
   ·exact .inr ⟨rfl,h1⟩
  ·rw[hset j hjk hj]at hij;exact .inl ⟨ij,hij,hb⟩
 have hlv:∀l v,RepL σ β l v->RepL σ β' ((l.kill k2).xkill k) v:=fun l v hl=>by
  have h1:=((hl.kill k2).set none (LV.kill_free k2 l)).xkill k;exact h1.subs (i:=bi) (by simp[Lab.set,hne,hbi]) ⟨rfl,rfl,rfl⟩ (ZR k _)
 have hheap:HRel σ β' H2 w':=by
  refine⟨fun b c hb=>?_,fun j c hj=>?_,hsub.nodup hr.heap.nodup,fun j hj ij hij b hb=>?_,fun j hj j' hj' i1 i2' h1 h2 b hb1 hb2=>?_⟩
  ·obtain⟨e',fr,h6⟩:=hr.heap.mem b c hb;exact⟨e',fr,(hother b fun he=>by rw[he,(hr.heap.apart k hk1 bi hbi bi.blk bi.has_blk).1]at hb;cases hb).trans h6⟩
  ·obtain⟨hj2,⟨rfl,rfl⟩|⟨hjk,c0,hm0,rfl⟩⟩:=hmem j c hj
   ·refine⟨i',es',clock',hsetk,by show(w.heap.setIfInBounds bi.blk _)[bi.blk]?=_;simp[hlt],hbo',hsz,hsl',hnd',fun p b c hp=>?_,fun p x hp=>?_⟩
    ·rcases hsubx p b c hp with⟨h6,x,h7,h8⟩|⟨h6,x,h7,h8⟩
     ·refine⟨fun he=>hapart bi.blk bi.has_blk (.inl (by rw[<-h6];exact he.symm)),fun p' c' hp'=>?_⟩;rcases hsubx p' b c' hp' with⟨_,x',h9,h10⟩|⟨h9,_⟩
      ·exact RE hnd' h9 h7 (by rw[h10,h8])
      ·exact absurd (.inl h6.symm) (hapart b (.inr ⟨c',x3k h9⟩))
     ·refine⟨(h4 p b c h6).1,fun p' c' hp'=>?_⟩;rcases hsubx p' b c' hp' with⟨h9,_⟩|⟨h9,_⟩
      ·exact absurd (.inl h9.symm) (hapart b (.inr ⟨c,x3k h6⟩))
      ·exact(h4 p b c h6).2 p' c' h9
    ·obtain⟨e',g1,g2,g3,g4⟩:=hent p x hp;refine⟨e',g1,g2,fun hh=>(by cases hh),fun _=>?_⟩;by_cases he:x.1=ks
     ·obtain⟨g5,g6,g7⟩:=g3 he;refine⟨i2.blk,i2.cap,ws,g6,by rw[g5,hvv,g7],(hother _ fun hh=>hapart bi.blk bi.has_blk (.inl hh)).trans r1,r2,by rw[g7];exact r3,r4,by rw[g7];exact r5⟩
     ·obtain⟨g5,g6,g7⟩:=g4 he;obtain⟨e'',q1,_,_,q4⟩:=h5 p x g5;rw[g6]at q1;cases q1;obtain⟨b,c,ws',q5,q6,q7,q8⟩:=q4 fun hh=>he (x5j hh).symm;exact⟨b,c,ws',by rw[g7];exact q5,q6,(hother b fun hh=>(h4 p b c q5).1 hh.symm).trans q7,q8⟩
   ·have hjl:j∈s.H.map (·.1):=x3q.2 ⟨_,hm0,rfl⟩;refine(hr.heap.chunks j c0 hm0).mapL (Mem.le_refl σ) hlv (hset j hjk hj2) fun ij hij b hb=>hother b fun he=>hjk ?_;exact hr.heap.inj j hjl k hk1 ij bi hij hbi b hb (.inl he.symm)
  ·obtain⟨h1,h2⟩:=hlab j hj;have hsz':w'.heap.size=w.heap.size:=by simp[w']
   rw[hsz'];rcases hwas j h2 ij hij b hb with⟨i0,h3,h4⟩|⟨_,h4⟩
   ·exact hr.heap.apart j h1 i0 h3 b h4
   ·exact hr.heap.apart k2 hk2 i2 hi2 b h4
  ·obtain⟨h3,h4⟩:=hlab j hj;obtain⟨h5,h6⟩:=hlab j' hj';rcases hwas j h4 i1 h1 b hb1 with⟨i3,h7,h8⟩|⟨e1,h8⟩<;>rcases hwas j' h6 i2' h2 b hb2 with⟨i4,h9,h10⟩|⟨e2,h10⟩
   ·exact hr.heap.inj j h3 j' h5 i3 i4 h7 h9 b h8 h10
   ·exact absurd (hr.heap.inj j h3 k2 hk2 i3 i2 h7 hi2 b h8 h10) h4
   ·exact absurd (hr.heap.inj j' h5 k2 hk2 i4 i2 h9 hi2 b h10 h8) h6
   ·rw[e1,e2]
 refine Vb hrun' ⟨σ,β',⟨sl,H2⟩,hK,⟨?_,?_,?_,hheap⟩,Mem.le_refl σ,⟨rfl,rfl,rfl,x3g _,by simp,fun b _ hn=>hother b fun he=>hn ⟨k,hk1,bi,hbi,.inl he.symm⟩⟩,fun b h0 h1=>absurd h0 h1,fun b ⟨j,hj,ij,hij,hb⟩=>?_,fun j h0 h1=>hset j (Mb hpin.1 j h0 h1) (Mb hpin.2 j h0 h1)⟩
 ·rw[hdst];exact hr.size
 ·rw[hdst];exact hr.defers
 ·rw[hdst];exact fun j=>by show RepL σ β' (getS sl j) _;rw[hsl];exact hlv _ _ (hr.slots j)
 ·obtain⟨h1,h2⟩:=hlab j hj;rcases hwas j h2 ij hij b hb with⟨i0,h3,h4⟩|⟨_,h4⟩
  ·exact .inl ⟨j,h1,i0,h3,h4⟩
  ·exact .inl ⟨k2,hk2,i2,hi2,h4⟩
end
open Go.Proofs
def Dj(l:List (Str×List AV))(x:Str×Nat):List (Str×List AV):=PT l x.1 (Bu l x.1++[.int .i64 x.2])
def prsG(G:Nat->List Str)(n:Nat):List (Str×Nat):=(List.range n).flatMap fun a=>(G a).map fun s=>(s,a)
def mapG(l:List (Str×Nat)):List (Str×List AV):=l.foldl Dj []
theorem GL(l:List (Str×Nat))(x:Str×Nat):mapG (l++[x])=Dj (mapG l) x:=by unfold mapG;rw[x7n];rfl
theorem DS(G:Nat->List Str)(n:Nat):prsG G (n+1)=prsG G n++(G n).map fun s=>(s,n):=by
 unfold prsG;rw[x7f,x7q];simp
theorem A0{l:List (Str×List AV)}{k j:Str}{v:List AV}:Mt (PT l k v) j=if j=k then some v else Mt l j:=by
 induction l with
 |nil=>rw[PT];unfold Mt;by_cases h:j=k<;>simp[h]
 | cons x r ih=>
   rw[PT];by_cases h:k=x.1
   ·rw[if_pos h];unfold Mt;by_cases h2:j=k
    ·simp[h2,<-h]
    ·have:¬j=x.1:=fun e=>h2 (e.trans h.symm);simp[h2,this]
   ·rw[if_neg h];unfold Mt at ih⊢;rw[x7m,x7m];by_cases h2:j=x.1
    ·have:¬j=k:=fun e=>h (e.symm.trans h2);simp[h2,this];intro e;exact absurd e.symm h
    ·rw[x4i h2];exact ih
theorem Oj(l:List (Str×List AV))(x:Str×Nat)(j:Str):Bu (Dj l x) j=if j=x.1 then Bu l x.1++[.int .i64 x.2]else Bu l j:=by
 unfold Dj Bu;rw[A0];split<;>rfl
theorem T6(l:List (Str×Nat))(j:Str):Bu (mapG l) j=(l.filter fun x=>decide (x.1=j)).map fun x=>.int .i64 x.2:=by
 have key:∀l:List (Str×Nat),Bu (mapG l.reverse) j=(l.reverse.filter fun x=>decide (x.1=j)).map fun x=>AV.int .i64 x.2:=fun l=>by
  induction l with
  |nil=>rfl
  | cons x r ih=>
    rw[x9q,GL,Oj,x5r,x3y,<-ih];by_cases h:j=x.1
    ·subst h;simp
    ·have:¬x.1=j:=fun e=>h e.symm;simp[h,this]
 have:=key l.reverse
 rwa[x8h]at this
theorem Ou(l:List (Str×Nat))(j:Str):(Bu (mapG l) j).length<=l.length:=by
 rw[T6,x2m];exact x5y _ _
theorem Tk{G:Nat->List Str}(hG:∀a,(G a).length<=1000):∀n,(prsG G n).length<=1000*n
 |0=>x3z _
 | n+1=>by
   have:=Tk hG n;have:=hG n;rw[DS,x2s,x2m];omega
theorem Us(b:Book)(p:Pg)(i:Nat)(f:Pr)(n:Nat)(hn:n<=5000)(hW:b.ways[i]?=some (QQ p i f))(hwn:(QQ p i f).n=n)(G:Nat->List Str)(hG:∀a,a<n->SpecP prog 156 [.ip b.cells,.int .i64 i,.int .i64 a] (fun r=>r=eStrs (G a)))(hGl:∀a,(G a).length<=1000):SpecH prog 96 [.p (.ip b.cells),.p (.int .i64 i)] [] (fun r H=>r=.tup [.ext 0 .map,.p (.int .i64 (prsG G n).length)]/\H=[(0,.ext (.mapr 3 1 (mapG (prsG G n)) none))]):=by
 refine sH Xz func96 rfl call96 ?_;conv=>whnf
 have hg2:(b.ways.map fun w=>AV.ip w.cells)[i]?=some (.ip (QQ p i f).cells):=by rw[x2e,hW];rfl
 repeat' (first|((first|(refine iM fun _=>?_)|refine dA ?_|refine x2t rfl ?_|refine aD ?_|refine aR ?_|refine bP ?_|(refine iA fun _=>?_)|refine IdxK.xs (by omega) ?_|refine QX (by omega) ?_|(refine ByteK.at (by omega) ?_)|refine wI ?_|refine P0 3 1 rfl ?_|(refine IdxK.at (k:=i) rfl hg2 rfl ?_));conv=>whnf)|(apply bD<;>intro _<;>first|omega|conv=>whnf)|(apply bE<;>intro _<;>first|omega|conv=>whnf)|(apply bN<;>intro _<;>conv=>whnf)|(apply bB<;>intro _<;>conv=>whnf))
 refine LoopK.inv QY (fun a:Nat=>⟨[(0,.p (.ip b.cells)),(1,.p (.int .i64 i)),(4,.ext 0 .map),(5,.p (.int .i64 (prsG G a).length)),(19,.p (.int .i64 n)),(20,.p (.int .i64 a))],[(0,.ext (.mapr 3 1 (mapG (prsG G a)) none))]⟩) (fun a=>a<=n) (fun a=>n-a) 0 (Le.of_eq (by rw[hwn];rfl)) (x3z _) ?_;intro a ha;have hal:(prsG G a).length<=1000*a:=Tk hGl a;rcases x3v a n with h1|h1
 ·have hGa:=hG a h1;have hga:=hGl a;have hsu:=DS G a;generalize prsG G a=acc at*
  generalize G a=L at*
  have hlm:(L.map AV.str).length=L.length:=x2m _;conv=>whnf
  repeat' (first|((first|(refine iM fun _=>?_)|refine dA ?_|refine x2t rfl ?_|refine aD ?_|refine aR ?_|refine bP ?_|(refine iA fun _=>?_)|refine IdxK.xs (by omega) ?_|refine QX (by omega) ?_|(refine ByteK.at (by omega) ?_)|refine wI ?_|refine cP hGa ?_);conv=>whnf)|(apply bD<;>intro _<;>first|omega|conv=>whnf)|(apply bE<;>intro _<;>first|omega|conv=>whnf)|(apply bN<;>intro _<;>conv=>whnf)|(apply bB<;>intro _<;>conv=>whnf))
  refine LoopK.inv QY (fun j:Nat=>⟨[(0,.p (.ip b.cells)),(1,.p (.int .i64 i)),(4,.ext 0 .map),(5,.p (.int .i64 (acc++(L.take j).map fun s=>(s,a)).length)),(6,.p (.int .i64 a)),(19,.p (.int .i64 n)),(20,.p (.int .i64 a)),(26,.p (eStrs L)),(27,.p (.int .i64 (L.map AV.str).length)),(28,.p (.int .i64 j))],[(0,.ext (.mapr 3 1 (mapG (acc++(L.take j).map fun s=>(s,a))) none))]⟩) (fun j=>j<=L.length) (fun j=>L.length-j) 0 (Le.of_eq (by simp;rfl)) (x3z _) ?_;intro j hj;rcases x3v j L.length with h2|h2
  ·have hst:acc++(L.take (j+1)).map (fun s=>(s,a))=(acc++(L.take j).map fun s=>(s,a))++[(L[j],a)]:=by rw[x3u h2,x3y,x3s];rfl
   have hl3:(acc++(L.take j).map fun s=>(s,a)).length<=5002000:=by rw[x2s,x2m,x3m];omega
   generalize(acc++(L.take j).map fun s=>(s,a))=o at*
   have hsn:=GL o (L[j],a);unfold Dj at hsn;have hrl:=Ou o L[j];simp only at hsn;generalize mapG o=m at*
   conv=>whnf
   repeat' (first|((first|(refine iM fun _=>?_)|refine dA ?_|refine x2t rfl ?_|refine aD ?_|refine aR ?_|refine bP ?_|(refine iA fun _=>?_)|refine IdxK.xs (by omega) ?_|refine QX (by omega) ?_|(refine ByteK.at (by omega) ?_)|refine wI ?_|refine Cw QY 1 rfl rfl rfl rfl rfl rfl rfl rfl rfl rfl rfl rfl ?_|refine XH rfl (by omega) ?_|refine I8 QY rfl rfl rfl rfl rfl rfl rfl (by simp) (Nat.succ_pos _) rfl rfl rfl rfl rfl (by decide) ?_);conv=>whnf)|(apply bD<;>intro _<;>first|omega|conv=>whnf)|(apply bE<;>intro _<;>first|omega|conv=>whnf)|(apply bN<;>intro _<;>conv=>whnf)|(apply bB<;>intro _<;>conv=>whnf))
   all_goals first
    |exact⟨j+1,h2,by omega,Le.of_eq (by rw[hst,hsn,x2s];rfl)⟩
  ·rw[x3f h2,<-hsu];conv=>whnf
   repeat' (first|((first|(refine iM fun _=>?_)|refine dA ?_|refine x2t rfl ?_|refine aD ?_|refine aR ?_|refine bP ?_|(refine iA fun _=>?_)|refine IdxK.xs (by omega) ?_|refine QX (by omega) ?_|(refine ByteK.at (by omega) ?_)|refine wI ?_);conv=>whnf)|(apply bD<;>intro _<;>first|omega|conv=>whnf)|(apply bE<;>intro _<;>first|omega|conv=>whnf)|(apply bN<;>intro _<;>conv=>whnf)|(apply bB<;>intro _<;>conv=>whnf))
   all_goals first
    |exact⟨a+1,h1,by omega,Le.of_eq rfl⟩
 ·obtain rfl:a=n:=by omega
  conv=>whnf
  repeat' (first|((first|(refine iM fun _=>?_)|refine dA ?_|refine x2t rfl ?_|refine aD ?_|refine aR ?_|refine bP ?_|(refine iA fun _=>?_)|refine IdxK.xs (by omega) ?_|refine QX (by omega) ?_|(refine ByteK.at (by omega) ?_)|refine wI ?_);conv=>whnf)|(apply bD<;>intro _<;>first|omega|conv=>whnf)|(apply bE<;>intro _<;>first|omega|conv=>whnf)|(apply bN<;>intro _<;>conv=>whnf)|(apply bB<;>intro _<;>conv=>whnf))
  all_goals first
   |exact x7j _ (x3n _) ⟨rfl,rfl⟩
section
variable {P:Program}{T:Tab}{N:Nat}
theorem Rw{sl:List (Nat×LV)}(hsl:(sl.all fun x=>x.2.xfree k)=true)(i:Nat):(getS sl i).xfree k=true:=by
 induction sl with
 |nil=>rfl
 | cons x r ih=>
   simp only[List.all_cons,x3h]at hsl;obtain⟨j,l⟩:=x;simp only[getS];cases j==i
   ·exact ih hsl.2
   ·exact hsl.1
theorem Cx{sl:List (Nat×LV)}{H H':Heap}(k:Nat)(hg:getH H k=some (.ext (.mapr e sz l none)))(hpin:ZD k=false)(hsl:(sl.all fun x=>x.2.xfree k)=true)(hH:(H.all fun x=>match x.2 with |.obj _ cs=>LV.xfree.xfreeAll k cs|_=>true)=true)(h':H'=H.map fun x=>bif x.1==k then(k,.ext (I1 (l.map fun y=>(y.1,AV.sl y.2))))else x):Le N ⟨sl,H⟩ ⟨sl,H'⟩:=fun σ β a w hr=>by
 have hk1:=QN hg;have hlabs:H'.map (·.1)=H.map (·.1):=by
  rw[h',x7p];apply List.map_congr_left;intro x hx;simp only[Function.comp];cases hb:x.1==k with
  |true=>simp at hb;simp[hb]
  |false=>rfl
 have hmem:∀j c,(j,c)∈H'->(j=k/\c=.ext (I1 (l.map fun y=>(y.1,AV.sl y.2))))\/(j≠k/\(j,c)∈H):=fun j c hj=>by
  rw[h']at hj;obtain⟨x,hx,he⟩:=x3q.1 hj;cases hb:x.1==k with
  | true=>
    rw[hb,x3p]at he;cases he;exact .inl ⟨rfl,rfl⟩
  | false=>
    rw[hb,x3t]at he;subst he;exact .inr ⟨by simpa using hb,hx⟩
 obtain⟨i,es,clock,hi,hh,hbo,h1,h2,h3,h4,h5⟩:=hr.heap.chunks k _ (QG hg);let S:Nat->Prop:=fun b=>∃c,some (b,c)∈i.subs;have hrow:∀(p b c:Nat),i.subs[p]?=some (some (b,c))->∃ws,w.heap[b]?=some (.cells ws e (0,0)):=fun p b c hp=>by
  have hlt:p<l.length:=by rw[<-h2];exact(x2o.1 hp).1
  obtain⟨e',_,_,_,g4⟩:=h5 p _ (x2n hlt);obtain⟨b',c',ws,q1,_,q3,_⟩:=g4 (by simp);rw[hp]at q1;cases q1;exact⟨ws,q3⟩
 have hcell:∀b,S b->∃ws,w.heap[b]?=some (.cells ws e (0,0)):=fun b ⟨c,hb⟩=>by
  obtain⟨p,hp⟩:=x5s.1 hb;exact hrow p b c hp
 have hhasS:∀b,S b->i.has b:=fun b hb=>.inr hb;let τ:Mem:=fun b=>@ite _ (S b) (Classical.propDecidable _) (match w.heap[b]?with
  |some (.cells c _ _)=>some c
  |_=>none) (σ b)
 have hpos:∀b c e fr,S b->w.heap[b]?=some (.cells c e fr)->τ b=some c:=fun b c e fr hb hh=>by
  show @ite _ (S b) (Classical.propDecidable _) _ _=_;rw[if_pos hb,hh]
 have hneg:∀b,¬S b->τ b=σ b:=fun b hb=>by
  show @ite _ (S b) (Classical.propDecidable _) _ _=_;rw[if_neg hb]
 have hle:σ.le τ:=fun b c hb=>by
  rw[hneg b]
  ·exact hb
  ·intro hib;rw[(hr.heap.apart k hk1 i hi b (hhasS b hib)).1]at hb;cases hb
 let i':BInfo:=⟨i.blk,i.cap,i.sz,[],i.ok⟩;have hset:∀j,j≠k->(β.set k (some i')) j=β j:=fun j hj=>by simp[Lab.set,hj]
 have hsetk:(β.set k (some i')) k=some i':=by simp[Lab.set]
 have hhas:∀b,i'.has b->b=i.blk:=fun b hb=>by
  rcases hb with hb|⟨c,hb⟩
  ·exact hb.symm
  ·cases hb
 have hblk:¬S i.blk:=fun⟨c,hb⟩=>by
  obtain⟨p,hp⟩:=x5s.1 hb;exact(h4 p _ c hp).1 rfl
 have hwas:∀j∈H.map (·.1),∀ij,(β.set k (some i')) j=some ij->∀b,ij.has b->(∃i0,β j=some i0/\i0.has b)/\¬S b:=fun j hin ij hj b hb=>by
  by_cases hjk:j=k
  ·subst hjk;rw[hsetk]at hj;cases hj;obtain rfl:=hhas b hb;exact⟨⟨i,hi,i.has_blk⟩,hblk⟩
  ·rw[hset j hjk]at hj;exact⟨⟨ij,hj,hb⟩,fun hS=>hjk (hr.heap.inj j hin k hk1 ij i hj hi b hb (hhasS b hS))⟩
 have hlab:∀j∈H'.map (·.1),j∈H.map (·.1):=fun j hj=>hlabs▸hj;refine⟨τ,β.set k (some i'),⟨hr.size,hr.defers,fun j=>((hr.slots j).subs (i':=i') hi ⟨rfl,rfl,rfl⟩ (Rw hsl j)).mono hle,⟨fun b c hb=>?_,fun j c hj=>?_,by rw[hlabs];exact hr.heap.nodup,fun j hj ij hij b hb=>?_,fun j hj j' hj' i1 i2 g1 g2 b hb1 hb2=>?_⟩⟩,
  hle,Frm.refl _ _,fun b g0 g1=>?_,fun b ⟨j,hj,ij,hij,hb⟩=>?_,fun j g0 g1=>hset j (Mb hpin j g0 g1)⟩
 ·by_cases hS:S b
  ·obtain⟨ws,hw⟩:=hcell b hS;rw[hpos b ws e (0,0) hS hw]at hb;cases hb;exact⟨_,_,hw⟩
  ·rw[hneg b hS]at hb;exact hr.heap.mem b c hb
 ·rcases hmem j c hj with⟨rfl,rfl⟩|⟨hjk,hm⟩
  ·refine⟨i',es,clock,hsetk,hh,hbo,by simpa using h1,fun p x hp=>?_⟩;rw[x7p,x2e]at hp;cases hq:l[p]?with
   |none=>rw[hq]at hp;cases hp
   | some y=>
     rw[hq]at hp;cases hp;obtain⟨e',g1,g2,_,g4⟩:=h5 p y hq;obtain⟨b,c,ws,q1,q2,q3,q4,q5,q6,q7⟩:=g4 (by simp);refine⟨e',g1,g2,?_⟩;show Rep τ (.sl y.2) e'.val;rw[q2];refine .sl y.2 b 0 c sz ws (fun m j=>(ws[m*sz+j]?).getD undef) (hpos b ws _ _ ⟨c,x3k q1⟩ q3) q5 q6 (fun m x hx=>(q7 m x hx).1) (fun m x j c' hx hj=>?_) fun m x j c' hx hj=>?_
     ·obtain⟨u,r4,_⟩:=(q7 m x hx).2 j c' hj;simp[r4]
     ·obtain⟨u,r4,r5⟩:=(q7 m x hx).2 j c' hj;simpa[r4]using r5.mono hle
  ·have hx:=x4d.1 hH (j,c) hm;have hhold:=(hr.heap.chunks j c hm).mono (w':=w) hle fun _ _ _ _=>rfl;cases c with
   | obj e' cs=>
     obtain⟨i2,vs2,hi2,hh2,hn2,hc2⟩:=hhold;refine⟨i2,vs2,(hset j hjk).trans hi2,hh2,hn2,fun m l hm=>?_⟩;obtain⟨u,g5,g6⟩:=hc2 m l hm;exact⟨u,g5,g6.subs hi ⟨rfl,rfl,rfl⟩ (YY hx m l hm)⟩
   | own e' sz' es'=>
     rcases hhold with⟨g5,g6⟩|⟨i2,vs2,hi2,rest⟩
     ·exact .inl ⟨(hset j hjk).trans g5,g6⟩
     ·exact .inr ⟨i2,vs2,(hset j hjk).trans hi2,rest⟩
   | ext d=>
     show d.holds τ ((β.set k (some i')) j) w;rw[hset j hjk];exact hhold
 ·obtain⟨⟨i0,g1,g2⟩,g3⟩:=hwas j (hlab j hj) ij hij b hb;rw[hneg b g3];exact hr.heap.apart j (hlab j hj) i0 g1 b g2
 ·obtain⟨⟨i3,q1,q2⟩,_⟩:=hwas j (hlab j hj) i1 g1 b hb1;obtain⟨⟨i4,q3,q4⟩,_⟩:=hwas j' (hlab j' hj') i2 g2 b hb2;exact hr.heap.inj j (hlab j hj) j' (hlab j' hj') i3 i4 q1 q3 b q2 q4
 ·by_cases hS:S b
  ·exact .inl ⟨k,hk1,i,hi,hhasS b hS⟩
  ·rw[hneg b hS]at g1;exact absurd g0 g1
 ·obtain⟨⟨i0,g1,g2⟩,_⟩:=hwas j (hlab j hj) ij hij b hb;exact .inl ⟨j,hlab j hj,i0,g1,g2⟩
theorem OpK.range(hT:TabOK P T){s:St}{o:Oper}{K:St->Prop}{t:TypeId}{x:Operand}(hop:o.op=.range t x){k:Nat}(hx:QM s.sl x=.ext k .map){l:List (List UInt8×AV)}(hg:getH s.H k=some (.ext (I1 l))){i:TyI}{kt et:TypeId}(ht:T.get t=some i)(hd:i.desc=.map kt et)(hpin:ZD k=false)(h:Yw (LV.kill k) s.sl fun sl=>Xi k 99999 (LV.kill k) (.ext (.iter l none)) s.H fun H=>setD N sl o.dst (.ext k .iter) fun sl=>K ⟨sl,H⟩):OpK P N s o K:=by
 refine⟨fun σ β a w hr Q=>?_⟩;obtain⟨sl,h,hsl⟩:=WK (by rfl) h;obtain⟨H2,h,hsub,hmem⟩:=WG h;have hx':=QZ hr.slots x;rw[hx]at hx';generalize hxe:a.eval x=xv at hx';cases hx' with
 |ext _ _ bi _ hbi hd'=>
 obtain rfl:xv=.map (some bi.blk):=hd';obtain⟨bi',es,clock,hbi',hh,hbo,h1,h2⟩:=hr.heap.chunks k _ (QG hg);rw[hbi]at hbi';cases hbi';have hk1:=QN hg;have hu:=hT.of ht;rw[hd]at hu;let o':Obj:=.mapIter (some bi.blk) clock #[] clock;let i':BInfo:=⟨w.heap.size,0,0,[some (bi.blk,0)],x3z _⟩;have hset:∀j,j≠k->(β.set k (some i')) j=β j:=fun j hj=>by simp[Lab.set,hj]
 have hsetk:(β.set k (some i')) k=some i':=by simp[Lab.set]
 have hlt:=(hr.heap.apart k hk1 bi hbi bi.blk bi.has_blk).2;have hold:∀b,b<w.heap.size->(w.alloc o').heap[b]?=w.heap[b]?:=fun b hb=>(by first|exact heap_alloc_old w o' hb|exact heap_alloc_old w o' b hb);have hsize:(w.alloc o').heap.size=w.heap.size+1:=by
  show(w.heap.push o').size=_;simp
 have hhas:∀b,i'.has b->b=w.heap.size\/b=bi.blk:=fun b hb=>by
  rcases hb with hb|⟨c,hb⟩
  ·exact .inl hb.symm
  ·have hb:some (b,c)∈[some (bi.blk,0)]:=hb;rw[x2a]at hb;cases hb;exact .inr rfl
 have hlab:∀j∈H2.map (·.1),j∈s.H.map (·.1):=fun j hj=>hsub.subset hj;have hold2:∀j∈s.H.map (·.1),j≠k->∀ij,β j=some ij->∀b,ij.has b->b<w.heap.size:=fun j hj _ ij hij b hb=>(hr.heap.apart j hj ij hij b hb).2;have hrun:(execOp a.eval o).run P w=.ok (.value (.pointer (some ⟨w.heap.size,0,none⟩))) (w.alloc o'):=by
  have hr1:(Instr.range t (.map (some bi.blk))).run P w=.ok (.pointer (some ⟨w.heap.size,0,none⟩)) (w.alloc o'):=by
   unfold Instr.range;simp only[Sem.run_bind,run_underlying hu,Result.andThen_ok,UN hh,Sem.run_pure];rfl
  simp only[execOp,hop,hxe,Sem.run_bind,hr1,Result.andThen_ok];rfl
 have hr2:Rel N σ (β.set k (some i')) ⟨sl,H2⟩ a (w.alloc o'):=by
  refine⟨hr.size,hr.defers,fun j=>?_,⟨fun b c hb=>?_,fun j c hj=>?_,hsub.nodup hr.heap.nodup,fun j hj ij hij b hb=>?_,fun j hj j' hj' i1 i2 g1 g2 b hb1 hb2=>?_⟩⟩
  ·show RepL _ _ (getS sl j) _;rw[hsl];exact((hr.slots j).kill k).set _ (LV.kill_free k _)
  ·obtain⟨e,fr,h3⟩:=hr.heap.mem b c hb;exact⟨e,fr,(hold b (x3r.1 h3).1).trans h3⟩
  ·obtain⟨_,⟨rfl,rfl⟩|⟨hjk,c0,hm,rfl⟩⟩:=hmem j c hj
   ·have hall:es.filter (fun x=> !(#[]:Array Nat).contains x.born)=es:=Array.filter_eq_self.2 fun x _=>by simp
    refine⟨i',bi.blk,es,clock,clock,#[],hsetk,rfl,heap_alloc_new w o',(hold _ hlt).trans hh,hbo.1,hbo.2,x3g _,by rw[hall];simpa using h1,fun p x hp=>?_,fun x hx=>by cases hx⟩;rw[hall];obtain⟨e,q1,q2,q3⟩:=h2 p (YM x.1,x.2) (by rw[x2e,hp];rfl);exact⟨e,q1,q2,q3⟩
   ·have hjl:j∈s.H.map (·.1):=x3q.2 ⟨_,hm,rfl⟩;exact(hr.heap.chunks j c0 hm).mapL (f:=LV.kill k) (Mem.le_refl σ) (fun l v hl=>(hl.kill k).set _ (LV.kill_free k _)) (hset j hjk) fun ij hij b hb=>hold b (hold2 j hjl hjk ij hij b hb)
  ·rw [hsize];by_cases hjk:j=k
   ·subst hjk;rw[hsetk]at hij;cases hij;rcases hhas b hb with rfl|rfl
    ·refine⟨?_,by omega⟩;cases hq:σ w.heap.size with
     |none=>rfl
     | some c=>
       obtain⟨e,fr,h3⟩:=hr.heap.mem _ c hq;have:=(x3r.1 h3).1;omega
    ·have:=hr.heap.apart _ hk1 bi hbi bi.blk bi.has_blk;exact⟨this.1,by omega⟩
   ·rw[hset j hjk]at hij;have:=hr.heap.apart j (hlab j hj) ij hij b hb;exact⟨this.1,by omega⟩
  ·have key:∀j∈s.H.map (·.1),j≠k->∀ij,β j=some ij->∀b,ij.has b->i'.has b->False:=fun j hj hjk ij hij b hb hb'=>by
    rcases hhas b hb' with rfl|rfl
    ·have:=hold2 j hj hjk ij hij _ hb;omega
    ·exact hjk (hr.heap.inj j hj k hk1 ij bi hij hbi _ hb bi.has_blk)
   by_cases e1:j=k<;>by_cases e2:j'=k
   ·rw[e1,e2]
   ·subst e1;rw[hsetk]at g1;cases g1;rw[hset j' e2]at g2;exact(key j' (hlab j' hj') e2 i2 g2 b hb2 hb1).elim
   ·subst e2;rw[hsetk]at g2;cases g2;rw[hset j e1]at g1;exact(key j (hlab j hj) e1 i1 g1 b hb1 hb2).elim
   ·rw[hset j e1]at g1;rw[hset j' e2]at g2;exact hr.heap.inj j (hlab j hj) j' (hlab j' hj') i1 i2 g1 g2 b hb1 hb2
 have hlater:Later σ β s.H w σ (β.set k (some i')) H2 (w.alloc o'):=by
  refine⟨Mem.le_refl σ,⟨rfl,rfl,rfl,x3g _,by omega,fun b hb _=>hold b hb⟩,fun b g0 g1=>absurd g0 g1,fun b ⟨j,hj,ij,hij,hb⟩=>?_,fun j g0 g1=>hset j (Mb hpin j g0 g1)⟩;by_cases hjk:j=k
  ·subst hjk;rw[hsetk]at hij;cases hij;rcases hhas b hb with rfl|rfl
   ·exact .inr (x3g _)
   ·exact .inl ⟨_,hk1,bi,hbi,bi.has_blk⟩
  ·rw[hset j hjk]at hij;exact .inl ⟨j,hlab j hj,ij,hij,hb⟩
 obtain⟨sl',hK,hr''⟩:=hr2.setD (v:=.ext k .iter) (u:=.pointer (some ⟨w.heap.size,0,none⟩)) (.ext k .iter i' _ hsetk rfl) h;exact XS hrun ⟨σ,_,_,hK,hr'',hlater⟩
theorem W1:∀(L:List MapEntry)(j:Nat)(h:j<L.length),(L.map (·.born)).Nodup->L.filter (fun x=>decide (x.born≠L[j].born))=L.eraseIdx j
 | x::r,0,_,hn=>by
   rw[x3l,x4r]at hn;rw[x6w (by simp)];show r.filter _=r;rw[List.filter_eq_self];intro y hy;have:y.born≠x.born:=fun he=>hn.1 (he▸x6m hy);simpa using this
 | x::r,j+1,h,hn=>by
   rw[x3l,x4r]at hn;have hj:j<r.length:=by simpa using h
   have hne:x.born≠r[j].born:=fun he=>hn.1 (he▸x6m (x3w hj));rw[x5o (by simpa using hne)];show x::r.filter _=x::r.eraseIdx j;congr 1;exact W1 r j hj hn.2
theorem Ak(es:Array MapEntry)(seen:Array Nat)(b:Nat):(es.filter fun x=> !(seen.push b).contains x.born).toList=(es.filter fun x=> !seen.contains x.born).toList.filter fun x=>decide (x.born≠b):=by
 rw[x9p,x9p,List.filter_filter];apply List.filter_congr;intro x _;simp only[Array.contains_push,Bool.not_or];rw[Bool.and_comm];congr 1;by_cases hb:x.born=b<;>simp[hb]
theorem OpK.next{s:St}{x:Operand}(hop:o.op=.next x false)(hx:QM s.sl x=.ext k .iter){l:List (List UInt8×AV)}{cur:Option (List UInt8×AV)}(hg:getH s.H k=some (.ext (.iter l cur)))(hlen:∀y∈l,y.1.length<=maxLen)(h0:l=[]->setD N s.sl o.dst (.p (.tup [.ff])) fun sl=>K ⟨sl,s.H⟩)(h1:∀(j:Nat)(hj:j<l.length),K1 s.H k (.ext (.iter (l.eraseIdx j) (some l[j]))) fun H=>setD N s.sl o.dst (.p (.tup [.tt,.str l[j].1,l[j].2])) fun sl=>K ⟨sl,H⟩):OpK P N s o K:=by
 refine⟨fun σ β a w hr Q=>?_⟩;have hx':=QZ hr.slots x;rw[hx]at hx';generalize hxe:a.eval x=xv at hx';cases hx' with
 |ext _ _ bi _ hbi hd'=>
 obtain rfl:xv=.pointer (some ⟨bi.blk,0,none⟩):=hd';obtain⟨bi',m,es,clock,since,seen,hbi',hsub,hh,hm,hnd,hborn,hsc,hsz,hent,hcur⟩:=hr.heap.chunks k _ (QG hg);rw[hbi]at hbi';cases hbi';have hk1:=QN hg;have hne:bi.blk≠m:=fun he=>by rw[<-he,hh]at hm;cases hm
 rcases run_next_at (P:=P) w o.type bi.blk m since clock seen es clock hh hm hborn hsc with⟨hz,hrun⟩|⟨e,he,w1,hw1,hrun⟩
 ·have hl0:l=[]:=x4e (by rw[<-hsz];exact hz);have hrun':(execOp a.eval o).run P w=.ok (.value (.tuple #[.bool false])) w:=by
   simp only[execOp,hop,hxe,Sem.run_bind,hrun,Result.andThen_ok];rfl
  obtain⟨sl,hK,hr'⟩:=hr.setD (v:=.p (.tup [.ff])) (u:=.tuple #[.bool false]) (.p (.tup [.ff] #[.bool false] (fun _=>.bool false) rfl (fun j c hj=>by
   match j,hj with
   |0,hj=>rfl
   |j+1,hj=>simp at hj) fun j c hj=>by
   match j,hj with
   |0,hj=>cases hj;exact .ff
   |j+1,hj=>simp at hj)) (h0 hl0)
  exact XS hrun' ⟨σ,β,_,hK,hr',Later.refl _ _ _ _⟩
 ·have hleft:leftOf es seen=es.filter fun x=> !seen.contains x.born:=rfl;rw[hleft]at he;obtain⟨j,hjlt,hje⟩:=x4t.1 he;have hjl:j<l.length:=by rw[<-hsz,<-x5b];exact hjlt
  obtain⟨e2,q1,q2,q3⟩:=hent j _ (x2n hjl);have he2:e2=e:=by
   have q1':(es.filter fun x=> !seen.contains x.born).toList[j]?=some e2:=by rw[x6g];exact q1
   rw[x2n hjlt,hje]at q1';exact(x5j q1').symm
  subst he2;have hmemes:e2∈es.toList:=by
   rw[x9p]at he;exact(x4w.1 he).1
  have h:=h1 j hjl;obtain⟨H',h,g3,g4,g5⟩:=JG hr.heap.nodup h;have hw1h:w1.heap=w.heap:=by rcases hw1 with rfl|rfl<;>rfl
  let w':World:=ChangeMaps.setBlock w1 bi.blk (.mapIter (some m) since (seen.push e2.born) clock);have hw'h:w'.heap=w.heap.setIfInBounds bi.blk (.mapIter (some m) since (seen.push e2.born) clock):=by
   show w1.heap.setIfInBounds _ _=_;rw[hw1h]
  have hot:∀b,b≠bi.blk->w'.heap[b]?=w.heap[b]?:=fun b hb=>by rw[hw'h];exact x6t (x6o hb)
  have hlt:=(hr.heap.apart k hk1 bi hbi bi.blk bi.has_blk).2;have hrun':(execOp a.eval o).run P w=.ok (.value (.tuple #[.bool true,e2.key,e2.val])) w':=by
   simp only[execOp,hop,hxe,Sem.run_bind,hrun,Result.andThen_ok];rfl
  have hborns:((es.filter fun x=> !seen.contains x.born).toList.map (·.born)).Nodup:=by
   rw[x9p];exact(List.filter_sublist.map _).nodup hnd
  have hleft':(es.filter fun x=> !(seen.push e2.born).contains x.born).toList=(es.filter fun x=> !seen.contains x.born).toList.eraseIdx j:=by
   rw[Ak];have:=W1 _ j hjlt hborns;rw[hje]at this;exact this
  have hheap:HRel σ β H' w':=by
   refine⟨fun b c hb=>?_,fun j' c hj'=>?_,by rw[g3];exact hr.heap.nodup,fun j' hj' i' hi' b hb=>?_,fun j' hj' j'' hj''=>hr.heap.inj j' (g3▸hj') j'' (g3▸hj'')⟩
   ·obtain⟨e',fr,h6⟩:=hr.heap.mem b c hb;exact⟨e',fr,(hot b fun he=>by rw[he,hh]at h6;cases h6).trans h6⟩
   ·by_cases hjk:j'=k
    ·subst hjk;rw[g5 c hj'];refine⟨bi,m,es,clock,since,seen.push e2.born,hbi,hsub,by rw[hw'h];simp[hlt],(hot m (x6o hne)).trans hm,hnd,hborn,hsc,?_,fun p y hp=>?_,fun y hy=>?_⟩
     ·rw[<-x5b,hleft',List.length_eraseIdx,List.length_eraseIdx,x5b,hsz]
     ·have hp':(l.eraseIdx j)[p]?=some y:=hp;rw[List.getElem?_eraseIdx]at hp';have key:∀p',l[p']?=some y->∃e:MapEntry,(es.filter fun x=> !seen.contains x.born).toList[p']?=some e/\e.key=.string ⟨y.1.toArray⟩/\Rep σ y.2 e.val:=fun p' hp'=>by
       obtain⟨e,r1,r2,r3⟩:=hent p' y hp';exact⟨e,by rw[x6g];exact r1,r2,r3⟩
      have hget:(es.filter fun x=> !(seen.push e2.born).contains x.born)[p]?=((es.filter fun x=> !seen.contains x.born).toList.eraseIdx j)[p]?:=by
       rw[<-hleft',x6g]
      rw[hget,List.getElem?_eraseIdx];split at hp'
      ·rename_i hlt2;rw[if_pos hlt2];exact key p hp'
      ·rename_i hlt2;rw[if_neg hlt2];exact key (p+1) hp'
     ·cases hy;exact⟨e2,hmemes,seen,rfl,q2,q3⟩
    ·have hm':=g4 j' c hj' hjk;exact(hr.heap.chunks j' c hm').mono (Mem.le_refl σ) fun i' hi' b hb=>hot b fun he=>hjk (hr.heap.inj j' (x3q.2 ⟨_,hm',rfl⟩) k hk1 i' bi hi' hbi b hb (.inl he.symm))
   ·have hsz':w'.heap.size=w.heap.size:=by rw[hw'h];simp
    rw[hsz'];exact hr.heap.apart j' (g3▸hj') i' hi' b hb
  have hkl:l[j].1.length<=maxLen:=hlen _ (x3w hjl);have hr1:Rel N σ β ⟨s.sl,H'⟩ a w':=⟨hr.size,hr.defers,hr.slots,hheap⟩;obtain⟨sl,hK,hr'⟩:=hr1.setD (v:=.p (.tup [.tt,.str l[j].1,l[j].2])) (u:=.tuple #[.bool true,e2.key,e2.val]) (.p (.tup [.tt,.str l[j].1,l[j].2] #[.bool true,e2.key,e2.val] (fun i=>(#[.bool true,e2.key,e2.val]:Array Value).getD i undef) rfl (fun i c hi=>by
   match i,hi with
   |0,hi=>rfl
   |1,hi=>rfl
   |2,hi=>rfl
   |i+3,hi=>simp at hi) fun i c hi=>by
   match i,hi with
   |0,hi=>cases hi;exact .tt
   |1,hi=>cases hi;show Rep σ _ e2.key;rw[q2];exact .str _ hkl
   |2,hi=>cases hi;exact q3
   |i+3,hi=>simp at hi)) h
  refine XS hrun' ⟨σ,β,_,hK,hr',Mem.le_refl σ,⟨?_,?_,?_,?_,by rw[hw'h];simp,fun b _ hn=>hot b fun he=>hn ⟨k,hk1,bi,hbi,.inl he.symm⟩⟩,fun b g0 g1=>absurd g0 g1,fun b ⟨j',hj',r⟩=>.inl ⟨j',g3▸hj',r⟩,fun _ _ _=>rfl⟩
  ·rcases hw1 with rfl|rfl<;>rfl
  ·rcases hw1 with rfl|rfl<;>rfl
  ·rcases hw1 with rfl|rfl<;>rfl
  ·rcases hw1 with rfl|rfl
   ·exact x3g _
   ·exact Nat.le_succ _
theorem OpK.entry{s:St}{x:Operand}(hop:o.op=.entry x)(hx:QM s.sl x=.ext k .iter){l:List (List UInt8×AV)}{y:List UInt8×AV}(hg:getH s.H k=some (.ext (.iter l (some y))))(hlen:y.1.length<=maxLen)(h:setD N s.sl o.dst (.p (.tup [.str y.1,y.2])) fun sl=>K ⟨sl,s.H⟩):OpK P N s o K:=by
 refine⟨fun σ β a w hr Q=>?_⟩;have hx':=QZ hr.slots x;rw[hx]at hx';generalize hxe:a.eval x=xv at hx';cases hx' with
 |ext _ _ bi _ hbi hd'=>
 obtain rfl:xv=.pointer (some ⟨bi.blk,0,none⟩):=hd';obtain⟨bi',m,es,clock,since,seen,hbi',hsub,hh,hm,hnd,hborn,hsc,hsz,hent,hcur⟩:=hr.heap.chunks k _ (QG hg);rw[hbi]at hbi';cases hbi';obtain⟨e,he,seen0,rfl,q2,q3⟩:=hcur y rfl;have hrun:=run_entry_at (P:=P) w bi.blk m since seen0 es clock e hh hm he hnd;have hrun':(execOp a.eval o).run P w=.ok (.value (.tuple #[e.key,e.val])) w:=by
  simp only[execOp,hop,hxe,Sem.run_bind,hrun,Result.andThen_ok];rfl
 obtain⟨sl,hK,hr'⟩:=hr.setD (v:=.p (.tup [.str y.1,y.2])) (u:=.tuple #[e.key,e.val]) (.p (.tup [.str y.1,y.2] #[e.key,e.val] (fun i=>(#[e.key,e.val]:Array Value).getD i undef) rfl (fun i c hi=>by
  match i,hi with
  |0,hi=>rfl
  |1,hi=>rfl
  |i+2,hi=>simp at hi) fun i c hi=>by
  match i,hi with
  |0,hi=>cases hi;show Rep σ _ e.key;rw[q2];exact .str _ hlen
  |1,hi=>cases hi;exact q3
  |i+2,hi=>simp at hi)) h
 exact XS hrun' ⟨σ,β,_,hK,hr',Later.refl _ _ _ _⟩
end
def atN(G:Nat->List Str)(n:Nat)(nm:Str):List Nat:=((prsG G n).filter fun x=>decide (x.1=nm)).map Prod.snd
def q0p(G:Nat->List Str)(n:Nat)(nm:Str):Str×AV:=(nm,.sl ((atN G n nm).map fun a=>.int .i64 (a:Nat)))
noncomputable def outN(G T:Nat->List Str)(plc:Nat->Int)(n:Nat)(steps:List (Int×Int))(nm:Str):List Fl:=(List.range n).flatMap fun c=>((comC n steps (atN G n nm)).getD c []).flatMap fun f=>if inS (T c) nm=true then [⟨plc ((atN G n nm).getD f.toNat 0),plc c,nm⟩]else []
structure FlB(b:Book)(i:Nat)(w:Way)(n:Nat)(L:List Step)(steps:List (Int×Int))(G T:Nat->List Str)(plc:Nat->Int):Prop where
 hW:b.ways[i]?=some w
 hn:n<=5000
 hwn:w.n=n
 dat:SpecP prog 95 [.ip w.cells] (fun r=>r=eSteps L)
 prs:SpecP prog 94 [.ip w.cells,eSteps L] (fun r=>r=.sl (avP steps))
 giv:SpecH prog 96 [.p (.ip b.cells),.p (.int .i64 i)] [] (fun r H=>r=.tup [.ext 0 .map,.p (.int .i64 (prsG G n).length)]/\H=[(0,.ext (.mapr 3 1 (mapG (prsG G n)) none))])
 tak:∀c,c<n->SpecP prog 97 [.ip b.cells,.int .i64 i,.int .i64 c] (fun r=>r=eStrs (T c))
 com:∀at_:List Nat,(∀a∈at_,a<n)->at_.length<=5000->SpecP prog 98 [.ip b.cells,.int .i64 i,.sl (avP steps),.sl (at_.map fun a=>.int .i64 (a:Nat))] (fun r=>r=eMat (comC n steps at_))
 place:∀c,c<n->SpecP prog 64 [.ip w.cells,.int .i64 c] (fun r=>r=.int .i64 (plc c))
 srt:∀c,(T c).Pairwise ltT/\(T c).length<=1000000
 ok:∀s∈((mapG (prsG G n)).map Prod.fst).flatMap (outN G T plc n steps),okFl s
 cnt:(((mapG (prsG G n)).map Prod.fst).flatMap (outN G T plc n steps)).length<=1000000000
 atl:∀nm,(atN G n nm).length<=5000
 key:∀y:Str,y∈(mapG (prsG G n)).map Prod.fst->y.length<=maxLen
theorem OpK.le{P:Program}{N:Nat}{s s':St}(hle:Le N s s')(h:OpK P N s' o K):OpK P N s o K:=⟨fun σ β a w hr Q=>by
 obtain⟨σ1,β1,hr1,hl1⟩:=hle σ β a w hr;exact Oper.wp_mono (fun a' w' ⟨σ',β',s2,hK,hr',hl⟩=>⟨σ',β',s2,hK,hr',hl1.trans hl⟩) (h.1 σ1 β1 a w hr1 Q)⟩
def tkA(T:Nat->List Str)(n c:Nat):List AV:=((List.range c).map fun q=>eStrs (T q))++List.replicate (n-c) .nils
theorem q0w(T:Nat->List Str)(n:Nat):tkA T n 0=List.replicate n .nils:=by unfold tkA;simp
theorem q7f(T:Nat->List Str){n c:Nat}(h:c<=n):(tkA T n c).length=n:=by unfold tkA;simp;omega
theorem q7d(T:Nat->List Str){n c:Nat}(h:c<n):(tkA T n c).set c (eStrs (T c))=tkA T n (c+1):=by
 unfold tkA;rw[x6h _ _ (by simp),x2m,x5a,x7l,show n-c=(n-(c+1))+1 by omega,x7o,x6b,x7f,x3y,x3s];rfl
theorem q7h(T:Nat->List Str){n c:Nat}(h:c<n):(tkA T n c)[c]?=some .nils:=by
 unfold tkA;rw[x4u (by simp),x2m,x5a,x7l,x3o];simp;omega
def Tq(T:Nat->List Str)(plc:Nat->Int)(n:Nat)(at_:List Nat)(C:List (List Int))(nm:Str):List Fl:=(List.range n).flatMap fun c=>(C.getD c []).flatMap fun f=>if inS (T c) nm=true then [⟨plc (at_.getD f.toNat 0),plc c,nm⟩]else []
theorem Qh(T:Nat->List Str)(plc:Nat->Int)(q:Nat)(at_:List Nat)(C:List (List Int))(nm:Str):Tq T plc (q+1) at_ C nm=Tq T plc q at_ C nm++(C.getD q []).flatMap fun f=>if inS (T q) nm=true then [⟨plc (at_.getD f.toNat 0),plc q,nm⟩]else []:=by
 unfold Tq;rw[x7f,x7q];simp
theorem q3a(T:Nat->List Str)(plc:Nat->Int){q c:Nat}(h:q<=c)(at_:List Nat)(C:List (List Int))(nm:Str):(Tq T plc q at_ C nm).length<=(Tq T plc c at_ C nm).length:=by
 induction c with
 | zero=>
   obtain rfl:q=0:=by omega
   exact x3g _
 | succ c ih=>
   rcases x3v c q with h1|h1
   ·obtain rfl:q=c+1:=by omega
    exact x3g _
   ·rw[Qh,x2s];have:=ih h1;omega
theorem Kw{G:Nat->List Str}{n:Nat}{nm:Str}{a:Nat}(h:a∈atN G n nm):a<n:=by
 unfold atN prsG at h;obtain⟨x,hx,rfl⟩:=x3q.1 h;obtain⟨b,hb,hx⟩:=x3c.1 (x4w.1 hx).1;obtain⟨s,_,rfl⟩:=x3q.1 hx;exact x4y.1 hb
theorem Qa{l:List (Str×List AV)}{k:Str}{v:List AV}:(PT l k v).map Prod.fst=if k∈l.map Prod.fst then l.map Prod.fst else l.map Prod.fst++[k]:=by
 induction l with
 |nil=>rw[PT];rfl
 | cons x r ih=>
   rw[PT];by_cases h:k=x.1
   ·rw[if_pos h,x3l,x3l,if_pos (by rw[h];exact x2r)]
   ·rw[if_neg h,x3l,x3l,ih];by_cases h2:k∈r.map Prod.fst
    ·rw[if_pos h2,if_pos (x2c _ h2)]
    ·rw[if_neg h2,if_neg (by rw[x2i];rintro(h3|h3);exact h h3;exact h2 h3)];rfl
theorem Ar(l:List (Str×Nat)):((mapG l).map Prod.fst).Nodup:=by
 have key:∀l:List (Str×Nat),((mapG l.reverse).map Prod.fst).Nodup:=fun l=>by
  induction l with
  |nil=>exact x8f
  | cons x r ih=>
    rw[x9q,GL];unfold Dj;rw[Qa];split
    ·exact ih
    ·rename_i h;rw[x4l];exact⟨ih,by simp,fun a ha b hb e=>h (by rw[<-x2a.1 hb,<-e];exact ha)⟩
 have:=key l.reverse
 rwa[x8h]at this
theorem Oy{l:List (Str×List AV)}(hn:(l.map Prod.fst).Nodup){y:Str×List AV}(hy:y∈l):Bu l y.1=y.2:=by
 induction l with
 |nil=>cases hy
 | cons x r ih=>
   rw[x3l,x4r]at hn;unfold Bu Mt;rw[x7m];rcases x2i.1 hy with rfl|hy
   ·simp
   ·have:¬y.1=x.1:=fun e=>hn.1 (by rw[<-e];exact x6m hy);rw[x4i this];exact ih hn.2 hy
theorem q6q(G:Nat->List Str)(n:Nat):(mapG (prsG G n)).map (fun y=>(y.1,AV.sl y.2))=((mapG (prsG G n)).map Prod.fst).map (q0p G n):=by
 rw[x7p];refine List.map_congr_left fun y hy=>?_;have:=Oy (Ar (prsG G n)) hy;rw[T6]at this;show(y.1,AV.sl y.2)=(y.1,AV.sl ((atN G n y.1).map fun a=>.int .i64 (a:Nat)));rw[<-this];unfold atN;rw[x7p];rfl
theorem Kf{α:Type}:∀(l:List α)(k:Nat)(h:k<l.length),(l[k]::l.eraseIdx k).Perm l
 |x::r,0,_=>by rw[List.eraseIdx_cons_zero];exact .refl _
 | x::r,k+1,h=>by
   rw[List.eraseIdx_cons_succ,List.getElem_cons_succ];exact(List.Perm.swap _ _ _).trans (.cons _ (Kf r k (by simpa using h)))
theorem Pf{α β:Type}(f:α->β):∀(l:List α)(k:Nat),(l.map f).eraseIdx k=(l.eraseIdx k).map f
 |[],_=>rfl
 |_::_,0=>rfl
 |x::r,k+1=>by rw[x3l,List.eraseIdx_cons_succ,List.eraseIdx_cons_succ,x3l,Pf f r k]
theorem Um(b:Book)(i:Nat)(w:Way)(n:Nat)(L:List Step)(steps:List (Int×Int))(G T:Nat->List Str)(plc:Nat->Int)(F:FlB b i w n L steps G T plc):SpecP prog 50 [.ip b.cells,.int .i64 i] (fun r=>r=.sl ((VF (((mapG (prsG G n)).map Prod.fst).flatMap (outN G T plc n steps))).map Bw)):=by
 refine sB X8 func50 rfl call50 ?_;conv=>whnf
 obtain⟨hW,hn,hwn,hD,hP,hGv,hT,hC,hPl,hSr,hOk,hCn,hAt,hKy⟩:=F;have hky:∀y∈(mapG (prsG G n)).map (fun y=>(y.1,AV.sl y.2)),y.1.length<=maxLen:=fun y hy=>by
  obtain⟨z,hz,rfl⟩:=x3q.1 hy;exact hKy z.1 (x6m hz)
 have hg2:(b.ways.map fun w=>AV.ip w.cells)[i]?=some (.ip w.cells):=by rw[x2e,hW];rfl
 repeat' (first|((first|(refine iM fun _=>?_)|refine dA ?_|refine x2t rfl ?_|refine aD ?_|refine aR ?_|refine bP ?_|(refine iA fun _=>?_)|refine IdxK.xs (by omega) ?_|refine QX (by omega) ?_|(refine ByteK.at (by omega) ?_)|refine wI ?_|(refine IdxK.at (k:=i) rfl hg2 rfl ?_)|refine x8v n (by omega) (by show 24*_<=140737488355328;omega) (by unfold maxLen;omega) ?_|refine cP hD ?_|refine cP hP ?_);conv=>whnf)|(apply bD<;>intro _<;>first|omega|conv=>whnf)|(apply bE<;>intro _<;>first|omega|conv=>whnf)|(apply bN<;>intro _<;>conv=>whnf)|(apply bB<;>intro _<;>conv=>whnf)|(refine CallK.heap [] 0 (by repeat' (first|exact x4x|refine x3d ?_ ?_|exact x3n _|exact x3e Sub.nils|exact x3e (Sub.tt rfl)|exact x3e (Sub.ff rfl)|exact x3e (Sub.int (by omega)))) x4z hGv rfl rfl ?_;rintro l' H' ⟨rfl,rfl⟩;conv=>whnf)|(refine x2t ?_ ?_<;>conv=>whnf))
 refine LoopK.inv QY (fun c:Nat=>⟨[(0,.p (.ip b.cells)),(1,.p (.int .i64 i)),(5,.p (.ip w.cells)),(6,.p .nils),(7,.p (.sl (avP steps))),(8,.ext 0 .map),(10,.hd 1 0 n),(41,.p (.int .i64 n)),(42,.p (.int .i64 c))],[(1,.own 22 1 (tkA T n c)),(0,.ext (.mapr 3 1 (mapG (prsG G n)) none))]⟩) (fun c=>c<=n) (fun c=>n-c) 0 (Le.of_eq (by rw[q0w];rfl)) (x3z _) ?_;intro c hc;have htl:=q7f T hc;rcases x3v c n with h1|h1
 ·have hTc:=hT c h1;have hst:=q7d T h1;have eT:=q7h T h1;generalize tkA T n c=tk at*
  conv=>whnf
  repeat' (first|((first|(refine iM fun _=>?_)|refine dA ?_|refine x2t rfl ?_|refine aD ?_|refine aR ?_|refine bP ?_|(refine iA fun _=>?_)|refine IdxK.xs (by omega) ?_|refine QX (by omega) ?_|(refine ByteK.at (by omega) ?_)|refine wI ?_|refine x4j c rfl (by omega) ?_|refine cP hTc ?_|refine x5i c 0 .nils (eStrs (T c)) (by omega) eT (x3g 1) rfl ?_);conv=>whnf)|(apply bD<;>intro _<;>first|omega|conv=>whnf)|(apply bE<;>intro _<;>first|omega|conv=>whnf)|(apply bN<;>intro _<;>conv=>whnf)|(apply bB<;>intro _<;>conv=>whnf))
  all_goals first
   |exact⟨c+1,h1,by omega,Le.of_eq (by rw[<-hst];rfl)⟩
 ·obtain rfl:c=n:=by omega
  conv=>whnf
  repeat' (first|((first|(refine iM fun _=>?_)|refine dA ?_|refine x2t rfl ?_|refine aD ?_|refine aR ?_|refine bP ?_|(refine iA fun _=>?_)|refine IdxK.xs (by omega) ?_|refine QX (by omega) ?_|(refine ByteK.at (by omega) ?_)|refine wI ?_|refine OpK.le (Cx 0 rfl rfl rfl rfl rfl) (OpK.range QY rfl rfl rfl rfl rfl rfl ?_));conv=>whnf)|(apply bD<;>intro _<;>first|omega|conv=>whnf)|(apply bE<;>intro _<;>first|omega|conv=>whnf)|(apply bN<;>intro _<;>conv=>whnf)|(apply bB<;>intro _<;>conv=>whnf))
  have htk:tkA T c c=(List.range c).map fun q=>eStrs (T q):=by unfold tkA;simp
  rw[q6q];generalize hks:(mapG (prsG G c)).map Prod.fst=keys at*
  refine LoopK.inv QY (fun x:List Str×Option Str×List Fl=>⟨[(0,.p (.ip b.cells)),(1,.p (.int .i64 i)),(5,.p (.ip w.cells)),(6,.hd 2 0 x.2.2.length),(7,.p (.sl (avP steps))),(10,.p (.sl ((List.range c).map fun q=>eStrs (T q)))),(54,.ext 0 .iter)],[(0,.ext (.iter (x.1.map (q0p G c)) (x.2.1.map (q0p G c)))),(2,.own 99 3 (x.2.2.map Bw))]⟩) (fun x=>∃vis,(vis++x.1).Perm keys/\x.2.2=vis.flatMap (outN G T plc c steps)) (fun x=>x.1.length) (keys,none,[])
   (by
     obtain⟨s',rfl,hle⟩:=Le.row (N:=Tryz.f50.ntmps) (s:=⟨[(0,.p (.ip b.cells)),(1,.p (.int .i64 i)),(5,.p (.ip w.cells)),(6,.p .nils),(7,.p (.sl (avP steps))),(10,.hd 1 0 ((List.range c).map fun q=>eStrs (T q)).length),(54,.ext 0 .iter)],[(1,.own 22 1 ((List.range c).map fun q=>eStrs (T q))),(0,.ext (.iter (keys.map (q0p G c)) none))]⟩) (k:=1) (e:=22) (sz:=1) (es:=(List.range c).map fun q=>eStrs (T q)) (zs:=[10]) rfl
      (K:=fun s=>s=⟨[(0,.p (.ip b.cells)),(1,.p (.int .i64 i)),(5,.p (.ip w.cells)),(6,.p .nils),(7,.p (.sl (avP steps))),(10,.p (.sl ((List.range c).map fun q=>eStrs (T q)))),(54,.ext 0 .iter)],[(0,.ext (.iter (keys.map (q0p G c)) none))]⟩) ⟨rfl,rfl⟩
     refine Le.trans (Le.of_eq (by rw[htk];simp)) (hle.trans ?_);exact Le.mk [(2,.own 99 3 [])] (by simp[Chunk.new0];rfl) (by simp) (by simp) (.r (.r (.r (.cons (.nil x2r) (.r (.r (.r .nil))))))) (.cons rfl (.refl _) (.new x2r .nil))) ⟨[],by simp,rfl⟩ ?_
  rintro⟨rest,cur,acc⟩ ⟨vis,hv1,hv2⟩;simp only at hv1 hv2⊢;conv=>whnf
  repeat' (first|((first|(refine iM fun _=>?_)|refine dA ?_|refine x2t rfl ?_|refine aD ?_|refine aR ?_|refine bP ?_|(refine iA fun _=>?_)|refine IdxK.xs (by omega) ?_|refine QX (by omega) ?_|(refine ByteK.at (by omega) ?_)|refine wI ?_|refine OpK.next rfl rfl rfl (fun y hy=>by obtain⟨z,hz,rfl⟩:=x3q.1 hy;exact hKy z (hv1.subset (x4f _ hz))) (fun hnil=>?_) (fun jj hjj=>?_));conv=>whnf)|(apply bD<;>intro _<;>first|omega|conv=>whnf)|(apply bE<;>intro _<;>first|omega|conv=>whnf)|(apply bN<;>intro _<;>conv=>whnf)|(apply bB<;>intro _<;>conv=>whnf))
  ·obtain rfl:rest=[]:=x8b.1 hnil;rw[x4b]at hv1;have hpa:acc.Perm (keys.flatMap (outN G T plc c steps)):=by rw[hv2];exact hv1.flatMap_right _
   have hSo:=J5 acc (fun s hs=>hOk s (hpa.subset hs)) (by have:=hpa.length_eq;omega);have hsl:=Mu hpa fun s hs=>hOk s (hpa.subset hs);refine CallK.heap [(1000,2)] 0 (by repeat' (first|exact x4x|refine x3d ?_ ?_|exact x3n _|exact x3e Sub.nils|exact x3e (Sub.tt rfl)|exact x3e (Sub.ff rfl)|exact x3e (Sub.int (by omega)))) (by refine x3j (j:=2) rfl rfl ?_ ?_;exact CSub.refl _;exact x4z) hSo rfl rfl ?_;rintro l' H' ⟨rfl,rfl⟩;rw[hsl];conv=>whnf
   repeat' (first|((first|(refine iM fun _=>?_)|refine dA ?_|refine x2t rfl ?_|refine aD ?_|refine aR ?_|refine bP ?_|(refine iA fun _=>?_)|refine IdxK.xs (by omega) ?_|refine QX (by omega) ?_|(refine ByteK.at (by omega) ?_)|refine wI ?_);conv=>whnf)|(apply bD<;>intro _<;>first|omega|conv=>whnf)|(apply bE<;>intro _<;>first|omega|conv=>whnf)|(apply bN<;>intro _<;>conv=>whnf)|(apply bB<;>intro _<;>conv=>whnf))
   all_goals first
    |exact⟨_,.hd rfl (by rw[<-hsl,x2m,H8]),rfl⟩
  ·have hjr:jj<rest.length:=by simpa using hjj
   rw[Pf,x5t];have hp2:(vis++[rest[jj]]++rest.eraseIdx jj).Perm keys:=by
    refine List.Perm.trans ?_ hv1;rw[x3s];exact List.Perm.append_left _ (Kf rest jj hjr)
   have hle2:(rest.eraseIdx jj).length<rest.length:=by rw[List.length_eraseIdx,if_pos hjr];omega
   generalize rest[jj]=nm at*
   generalize rest.eraseIdx jj=rest2 at*
   have hnk:=hKy nm (hp2.subset (by simp));have hCo:=hC (atN G c nm) (fun a ha=>Kw ha) (hAt nm);have hcl:=Fu c steps (atN G c nm);have hcr:=fun r hr=>LR (n:=c) (steps:=steps) (at_:=atN G c nm) (r:=r) hr;have hal:=hAt nm;have hon:outN G T plc c steps nm=Tq T plc c (atN G c nm) (comC c steps (atN G c nm)) nm:=rfl;have htot:(vis.flatMap (outN G T plc c steps)).length+(outN G T plc c steps nm).length<=1000000000:=by
    have h5:=(hp2.flatMap_right (outN G T plc c steps)).length_eq;simp only[x7q,x4n,List.flatMap_nil,x4b,x2s]at h5;omega
   unfold q0p;conv=>whnf
   repeat' (first|((first|(refine iM fun _=>?_)|refine dA ?_|refine x2t rfl ?_|refine aD ?_|refine aR ?_|refine bP ?_|(refine iA fun _=>?_)|refine IdxK.xs (by omega) ?_|refine QX (by omega) ?_|(refine ByteK.at (by omega) ?_)|refine wI ?_|refine OpK.entry rfl rfl rfl hnk ?_|refine cP hCo ?_);conv=>whnf)|(apply bD<;>intro _<;>first|omega|conv=>whnf)|(apply bE<;>intro _<;>first|omega|conv=>whnf)|(apply bN<;>intro _<;>conv=>whnf)|(apply bB<;>intro _<;>conv=>whnf))
   rw[hon]at htot;rw[<-hv2]at htot;have hcl3:outN G T plc c steps nm=Tq T plc c (atN G c nm) (comC c steps (atN G c nm)) nm:=hon;obtain⟨ats,hats⟩ : ∃ats,ats=atN G c nm:=⟨_,rfl⟩;obtain⟨C,hCC⟩ : ∃C,C=comC c steps ats:=⟨_,rfl⟩;have hatl:∀a∈ats,a<c:=fun a ha=>Kw (hats▸ha);rw[<-hats]at hcl3 htot hcl hcr hal⊢;rw[<-hCC]at hcl3 htot hcl hcr⊢;have hCm:((avI C).map AV.sl).length=c:=by unfold avI;rw[x2m,x2m,hcl]
   obtain⟨ch,hch⟩ : ∃ch:XC,ch=.iter (rest2.map (q0p G c)) (some (q0p G c nm)):=⟨_,rfl⟩;refine LoopK.inv QY (fun q:Nat=>⟨[(0,.p (.ip b.cells)),(1,.p (.int .i64 i)),(5,.p (.ip w.cells)),(6,.hd 2 0 (acc++Tq T plc q ats C nm).length),(7,.p (.sl (avP steps))),(10,.p (.sl ((List.range c).map fun q=>eStrs (T q)))),(12,.p (.str nm)),(13,.p (.sl (ats.map fun a=>.int .i64 (a:Nat)))),(54,.ext 0 .iter),(64,.p (eMat C)),(65,.p (.int .i64 ((avI C).map AV.sl).length)),(66,.p (.int .i64 q))],[(0,.ext ch),(2,.own 99 3 ((acc++Tq T plc q ats C nm).map Bw))]⟩) (fun q=>q<=c) (fun q=>c-q) 0 (Le.of_eq (by rw[hch,hats];simp[Tq];exact⟨rfl,fun _ _=>rfl,rfl⟩)) (x3z _) ?_;intro q hq;rcases x3v q c with hq1|hq1
   ·have hsu:=Qh T plc q ats C nm;have hqC:q<C.length:=by omega
    have hrow:=hcr _ (x3w hqC);have eC:((avI C).map AV.sl)[q]?=some (QO C[q]):=by unfold avI;rw[x2e,x2e,x2n hqC];rfl
    have hge:C.getD q []=C[q]:=by rw[x2l,x2n hqC];rfl
    rw[hge]at hsu;have hle3:=q3a T plc (Nat.succ_le_of_lt hq1) ats C nm;conv=>whnf
    repeat' (first|((first|(refine iM fun _=>?_)|refine dA ?_|refine x2t rfl ?_|refine aD ?_|refine aR ?_|refine bP ?_|(refine iA fun _=>?_)|refine IdxK.xs (by omega) ?_|refine QX (by omega) ?_|(refine ByteK.at (by omega) ?_)|refine wI ?_);conv=>whnf)|(apply bD<;>intro _<;>first|omega|conv=>whnf)|(apply bE<;>intro _<;>first|omega|conv=>whnf)|(apply bN<;>intro _<;>conv=>whnf)|(apply bB<;>intro _<;>conv=>whnf))
    have hav:∀h,(avI C)[q]'h=C[q].map (.int .i64):=fun h=>by
     have h2:=eC;rw[x2e,x2n h]at h2;have h3:AV.sl (avI C)[q]=.sl (C[q].map (.int .i64)):=x5j h2;exact AV.sl.inj h3
    simp only[hav];generalize C[q]=row at*
    have hrm:(row.map (AV.int .i64)).length=row.length:=x2m _;have hHs:=Q4 (T q) nm (hSr q).1 (by have:=(hSr q).2;omega);have eTk:((List.range c).map fun q=>eStrs (T q))[q]?=some (eStrs (T q)):=by rw[x2e,x7u hq1];rfl
    have hPq:=hPl q hq1;obtain⟨gf,hgf⟩ : ∃gf:Int->List Fl,gf=fun f=>if inS (T q) nm=true then [⟨plc (ats.getD f.toNat 0),plc q,nm⟩]else []:=⟨_,rfl⟩;rw[<-hgf]at hsu;rw[hsu,x2s]at hle3;generalize Tq T plc q ats C nm=o at*
    refine LoopK.inv QY (fun z:Nat=>⟨[(0,.p (.ip b.cells)),(1,.p (.int .i64 i)),(5,.p (.ip w.cells)),(6,.hd 2 0 (acc++o++(row.take z).flatMap gf).length),(7,.p (.sl (avP steps))),(10,.p (.sl ((List.range c).map fun q=>eStrs (T q)))),(12,.p (.str nm)),(13,.p (.sl (ats.map fun a=>.int .i64 (a:Nat)))),(14,.p (.int .i64 q)),(54,.ext 0 .iter),(64,.p (eMat C)),(65,.p (.int .i64 ((avI C).map AV.sl).length)),(66,.p (.int .i64 q)),(71,.p (QO row)),(72,.p (.int .i64 (row.map (AV.int .i64)).length)),(73,.p (.int .i64 z))],[(0,.ext ch),(2,.own 99 3 ((acc++o++(row.take z).flatMap gf).map Bw))]⟩) (fun z=>z<=row.length) (fun z=>row.length-z) 0 (Le.of_eq (by simp;exact⟨rfl,rfl⟩)) (x3z _) ?_;intro z hz;have hzl:((row.take z).flatMap gf).length<=(row.flatMap gf).length:=by
     conv=>rhs;rw[<-x7s z row,x7q,x2s]
     omega
    have hall:(acc++o++(row.take z).flatMap gf).length<=1000000000:=by rw[x2s,x2s];omega
    rcases x3v z row.length with hz1|hz1
    ·have hzs:acc++o++(row.take (z+1)).flatMap gf=(acc++o++(row.take z).flatMap gf)++gf row[z]:=by rw[x3u hz1,x7q,x3s,x3s,x3s];simp
     have hfr:=hrow.2 _ (x3w hz1);obtain⟨fz,hfz⟩ : ∃fz:Nat,row[z]=fz:=⟨row[z].toNat,by omega⟩;rw[hfz]at hfr hzs;have hfl:fz<ats.length:=by omega
     have hgz:gf (fz:Int)=if inS (T q) nm=true then [⟨plc ats[fz],plc q,nm⟩]else []:=by rw[hgf];simp only[x5c,x2l,x2n hfl,x5q]
     have eAt:(ats.map fun a=>AV.int .i64 (a:Nat))[fz]?=some (.int .i64 (ats[fz]:Nat)):=by rw[x2e,x2n hfl];rfl
     have hPa:=hPl _ (hatl _ (x3w hfl));rw[hgz]at hzs;generalize ats[fz]=az at*
     generalize(acc++o++(row.take z).flatMap gf)=oo at*
     have hom:(oo.map Bw).length=oo.length:=x2m _;cases hin:inS (T q) nm;all_goals
      rw[hin]at hHs hzs;conv=>whnf
      repeat' (first|((first|(refine iM fun _=>?_)|refine dA ?_|refine x2t rfl ?_|refine aD ?_|refine aR ?_|refine bP ?_|(refine iA fun _=>?_)|refine IdxK.xs (by omega) ?_|refine QX (by omega) ?_|(refine ByteK.at (by omega) ?_)|refine wI ?_|(refine IdxK.at (k:=q) rfl eTk rfl ?_)|(refine IdxK.at (k:=fz) hfz eAt rfl ?_)|refine cP hHs ?_|refine cP hPa ?_|refine cP hPq ?_|refine x6y hom.symm rfl (by show(oo.length+1)*32<=140737488355328;omega) (by show oo.length+1<=9223372036854775807;omega) (fun x hx=>by rcases x2a.1 hx with rfl;exact⟨rfl,rfl⟩) ?_);conv=>whnf)|(apply bD<;>intro _<;>first|omega|conv=>whnf)|(apply bE<;>intro _<;>first|omega|conv=>whnf)|(apply bN<;>intro _<;>conv=>whnf)|(apply bB<;>intro _<;>conv=>whnf))
      all_goals first
       |contradiction
       |exact⟨z+1,hz1,by omega,Le.of_eq (by rw[hzs];simp<;>exact⟨rfl,rfl⟩)⟩
    ·rw[x3f hz1,x3s,<-hsu];conv=>whnf
     repeat' (first|((first|(refine iM fun _=>?_)|refine dA ?_|refine x2t rfl ?_|refine aD ?_|refine aR ?_|refine bP ?_|(refine iA fun _=>?_)|refine IdxK.xs (by omega) ?_|refine QX (by omega) ?_|(refine ByteK.at (by omega) ?_)|refine wI ?_);conv=>whnf)|(apply bD<;>intro _<;>first|omega|conv=>whnf)|(apply bE<;>intro _<;>first|omega|conv=>whnf)|(apply bN<;>intro _<;>conv=>whnf)|(apply bB<;>intro _<;>conv=>whnf))
     all_goals first
      |exact⟨q+1,hq1,by omega,Le.of_eq rfl⟩
   ·have hqe:q=c:=by omega
    rw[hqe,<-hcl3];conv=>whnf
    repeat' (first|((first|(refine iM fun _=>?_)|refine dA ?_|refine x2t rfl ?_|refine aD ?_|refine aR ?_|refine bP ?_|(refine iA fun _=>?_)|refine IdxK.xs (by omega) ?_|refine QX (by omega) ?_|(refine ByteK.at (by omega) ?_)|refine wI ?_);conv=>whnf)|(apply bD<;>intro _<;>first|omega|conv=>whnf)|(apply bE<;>intro _<;>first|omega|conv=>whnf)|(apply bN<;>intro _<;>conv=>whnf)|(apply bB<;>intro _<;>conv=>whnf))
    all_goals first
     |exact⟨(rest2,some nm,acc++outN G T plc c steps nm),⟨vis++[nm],hp2,by simp only;rw[x7q,<-hv2];simp⟩,hle2,Le.mk [] (by simp) (by simp) (by simp) (.r (.r (.r (.r (.r (.r (.r .nil))))))) (.cons rfl (.of_eq (by rw[hch];rfl)) (.cons rfl (.refl _) .nil))⟩
end Go.Ab
