/- A call that is lent memory of the caller's own, and hands back one fresh row of what leads nowhere. Conditions: none. -/
import Derived.Test.YtmfnbgbblkhneaaGreatInoR4
import Derived.Test.YtmfnbgbblkhneaaGreatInoR5
import Derived.Test.YtmfnbgbblkhneaaGreatInoR6
import Derived.Test.YtmfnbgbblkhneaaGreatInoR8
import Derived.Test.YtmfnbgbblkhneaaGreatInoR9
set_option linter.unusedSimpArgs false
set_option linter.unusedVariables false
set_option maxRecDepth 100000
set_option maxHeartbeats 16000000
open Nat (blt)
namespace Go.Ab
open Go.Proofs.Tryz
variable {K:St->Prop}{L:List Str}{N:Nat}{P:Program}{nb ps:List Nat}{s:St}{tape vs watch:List Int}
def OneRow(R:Nat->TypeId->Nat->List AV->Prop)(nil:Prop)(l:LV)(H:Heap):Prop:=
 (l=.p .nils/\H=[]/\nil)\/∃q e sz es,l=.hd q 0 es.length/\H=[(q,.own e sz es)]/\(∀x∈es,∀c∈x.cells,c.flat=true)/\R q e sz es
theorem JP{g:FuncId}{args:List LV}{dst:Option Nat}{avs:List AV}{R:Nat->TypeId->Nat->List AV->Prop}{nil:Prop}(k:Nat)(hu:ZE k s=true)(hs:SpecH P g (avs.map .p) [] (OneRow R nil))(ha:FrzL s.H args avs)(hn:nil->setD N s.sl dst (.p .nils) fun sl=>K ⟨sl,s.H⟩)(h:∀q e sz es,R q e sz es->setD N s.sl dst (.hd k 0 es.length) fun sl=>K ⟨sl,(k,.own e sz es)::s.H⟩):CallK P N g args dst s K:=by
 refine⟨fun σ β a w hr vals hnv hv=>⟨hs.go vals,?_⟩⟩;obtain⟨hlen,hget⟩:=ha.get;obtain⟨τ,h5,h6,h7,h8⟩:=NZ hr.heap;have hrel0:HRel τ (fun _=>none) [] w:=⟨h6,fun k c hc=>(by cases hc),List.nodup_nil,fun k hk=>(by cases hk),fun k hk=>(by cases hk)⟩;have hno:∀b,¬owns (fun _=>none) [] b:=fun b ⟨j,hj,_⟩=>by cases hj
 refine(hs.ok τ (fun _=>none) w vals (by rw[q3f];exact hnv.trans hlen) (fun j l hj=>?_) hrel0).mono fun e w' ⟨l,u,σ',β',H',he,hR,hrep,hrel',hlat⟩=>?_
 ·rw[q4x]at hj;cases hc:avs[j]?with
  |none=>rw[hc]at hj;cases hj
  | some c=>
    rw[hc]at hj;cases hj;obtain⟨l,h1,h2⟩:=hget j c hc;exact .p (h8 l _ c (hv j l h1) h2)
 ·have hlies:σ.lies w':=fun b c hb=>hrel'.mem b c (hlat.le b c (h5 b c hb));have hf:Frm (fun _=>False) w w':=⟨hlat.frm.os,hlat.frm.tape,hlat.frm.output,hlat.frm.drawn,hlat.frm.size,fun b hb _=>hlat.frm.block b hb (hno b)⟩;have hf':Frm (owns β s.H) w w':=⟨hf.os,hf.tape,hf.output,hf.drawn,hf.size,fun b hb _=>hf.block b hb id⟩;have hk0:=hr.heap.kept (Mem.le_refl σ) hlies hf fun b h0 h1=>absurd h0 h1;rcases hR with⟨rfl,rfl,hnil⟩|⟨q,e0,sz,es,rfl,rfl,hfl,hR⟩
  ·have hr':Rel N σ β s a w':=⟨hr.size,hr.defers,hr.slots,hk0⟩;have hrp:RepL σ β (.p .nils) u:=by
    cases hrep with
    |p h=>exact .p (h.flat rfl)
   obtain⟨sl,hK,hr''⟩:=hr'.setD hrp (hn hnil);exact⟨u,σ,β,_,he,hK,hr'',Mem.le_refl σ,hf',fun b h0 h1=>absurd h0 h1,fun b hb=>.inl hb,fun _ _ _=>rfl⟩
  ·obtain⟨hu1,hu2⟩:=ZU hu;have hkl:=YN hu;have hset:∀j,j≠k->(β.set k (β' q)) j=β j:=fun j hj=>by simp[Lab.set,hj]
   have hsetk:(β.set k (β' q)) k=β' q:=by simp[Lab.set]
   have hnew:∀i,β' q=some i->∀b,i.has b->w.heap.size<=b/\σ b=none/\b<w'.heap.size:=fun i hi b hb=>by
    have h1:=hrel'.apart q (q3r.2 rfl) i hi b hb;refine⟨?_,?_,h1.2⟩
    ·rcases hlat.own b ⟨q,q3r.2 rfl,i,hi,hb⟩with h2|h2
     ·exact absurd h2 (hno b)
     ·exact h2
    ·cases h2:σ b with
     |none=>rfl
     |some c=>rw[hlat.le b c (h5 b c h2)]at h1;cases h1.1
   have hch:(Chunk.own e0 sz es).holds σ (β.set k (β' q)) w' k:=by
    rcases hrel'.chunks q (.own e0 sz es) (q3r.2 rfl)with⟨h1,h2⟩|⟨i,vs,h1,h2,h3,h4,h5',h6',h7'⟩
    ·exact .inl ⟨hsetk.trans h1,h2⟩
    ·refine .inr ⟨i,vs,hsetk.trans h1,h2,h3,h4,h5',h6',fun m x hx=>⟨(h7' m x hx).1,fun jj c hc=>?_⟩⟩;obtain⟨v,h8',h9⟩:=(h7' m x hx).2 jj c hc;exact⟨v,h8',h9.flat (hfl x (q4n hx) c (q4n hc))⟩
   have hks:∀j∈s.H.map (·.1),j≠k:=fun j hj=>by
    obtain⟨⟨j',c⟩,hm,rfl⟩:=q3s.1 hj;exact(hu1 j' c hm).1
   have hr':Rel N σ (β.set k (β' q)) ⟨s.sl,(k,.own e0 sz es)::s.H⟩ a w':=by
    refine⟨hr.size,hr.defers,fun i=>(hr.slots i).set _ (hu2 i),hlies,fun j c hj=>?_,?_,fun j hj i hi b hb=>?_,fun j hj j' hj' i i' hi hi' b hb hb'=>?_⟩
    ·rcases q3t.1 hj with he'|hj
     ·cases he';exact hch
     ·exact(hk0.chunks j c hj).set _ (hu1 j c hj).1 (hu1 j c hj).2
    ·rw[q4t,q5h];exact⟨fun hm=>hks k hm rfl,hk0.nodup⟩
    ·rcases q3t.1 hj with he'|hj
     ·have he':j=k:=he';subst he';rw[hsetk]at hi;exact(hnew i hi b hb).2
     ·rw[hset j (hks j hj)]at hi;exact hk0.apart j hj i hi b hb
    ·have hold:∀j∈s.H.map (·.1),∀i,(β.set k (β' q)) j=some i->∀b,i.has b->b<w.heap.size:=fun j hj i hi b hb=>by
      rw[hset j (hks j hj)]at hi;exact(hr.heap.apart j hj i hi b hb).2
     rcases q3t.1 hj with he'|hm<;>rcases q3t.1 hj' with he''|hm'
     ·exact he'.trans he''.symm
     ·have he':j=k:=he';subst he';rw[hsetk]at hi;have:=(hnew i hi b hb).1;have:=hold j' hm' i' hi' b hb';omega
     ·have he'':j'=k:=he'';subst he'';rw[hsetk]at hi';have:=(hnew i' hi' b hb').1;have:=hold j hm i hi b hb;omega
     ·rw[hset j (hks j hm)]at hi;rw[hset j' (hks j' hm')]at hi';exact hk0.inj j hm j' hm' i i' hi hi' b hb hb'
   have hrp:RepL σ (β.set k (β' q)) (.hd k 0 es.length) u:=by
    rcases hrep.hdI with⟨h1,_,h2,rfl⟩|⟨i,o,h1,h2,h3,rfl⟩
    ·rw[h2];exact .hdn k (hsetk.trans h1)
    ·exact .hd k 0 es.length i o (hsetk.trans h1) h2 h3
   obtain⟨sl,hK,hr''⟩:=hr'.setD hrp (h q e0 sz es hR);refine⟨u,σ,_,_,he,hK,hr'',Mem.le_refl σ,hf',fun b h0 h1=>absurd h0 h1,fun b hb=>?_,fun j h1 _=>hset j (by omega)⟩;obtain⟨j,hj,i,hi,hb⟩:=hb;rcases q3t.1 hj with he'|hj
   ·have he':j=k:=he';subst he';rw[hsetk]at hi;exact .inr (hnew i hi b hb).1
   ·rw[hset j (hks j hj)]at hi;exact .inl ⟨j,hj,i,hi,hb⟩
open Go.Proofs
def Yx(L:List Str)(_:Nat)(e:TypeId)(sz:Nat)(es:List AV):Prop:=e=9/\sz=1/\es=L.map .str
theorem Nb(L:List Str):∀x∈L.map AV.str,∀c∈x.cells,c.flat=true:=fun x hx c hc=>by
 obtain⟨s,_,rfl⟩:=q3s.1 hx;rw[q3r.1 (show c∈[AV.str s]from hc)];rfl
theorem BZ{q n:Nat}{nil:Prop}(h:n=L.length):OneRow (Yx L) nil (.hd q 0 n) [(q,.own 9 1 (L.map .str))]:=
 .inr ⟨q,_,_,_,by rw[h,q3f],rfl,Nb L,rfl,rfl,rfl⟩
theorem OneRow.str{n:Nat}(h:n=L.length):OneRow (Yx L) False (.hd 0 0 n) [(0,.own 9 1 (L.map .str))]:=BZ h
theorem VC{n:Nat}{nil:Prop}(h:n=L.length):OneRow (Yx L) nil (.hd 0 0 n) [(0,.own 9 1 (L.map .str))]:=BZ h
theorem CallK.le{g:FuncId}{args:List LV}{dst:Option Nat}(h:CallK P N g args dst s fun s'=>∃s'',K s''/\Le N s' s''):CallK P N g args dst s K:=
 ⟨fun σ β a w hr vals hn hv=>⟨(h.ok σ β a w hr vals hn hv).1,(h.ok σ β a w hr vals hn hv).2.mono fun e w' ⟨u,σ',β',s',he,⟨s'',hK,hle⟩,hr',hl⟩=>by
   obtain⟨σ2,β2,hr2,hl2⟩:=hl.le' hle hr';exact⟨u,σ2,β2,s'',he,hK,hr2,hl2⟩⟩⟩
theorem FJ(l:List Int)(v:Int):SpecP prog 219 [XU l,.int .i64 v] (fun r=>r=.int .i64 (idxF (fun s=>decide (v=s)) l)):=by
 refine sB KP func219 rfl call219 ?_;conv=>whnf
 refine iM fun _=>?_;have hl:(l.map (AV.int .i64)).length=l.length:=q3f _;conv=>whnf
 refine LoopK.inv QY (fun j:Nat=>⟨[(0,.p (XU l)),(1,.p (.int .i64 v)),(7,.p (.int .i64 (l.map (AV.int .i64)).length)),(8,.p (.int .i64 j))],[]⟩) (fun j=>j<=l.length/\(l.drop j).any (fun s=>decide (v=s))=l.any (fun s=>decide (v=s))/\l.findIdx (fun s=>decide (v=s))=j+(l.drop j).findIdx (fun s=>decide (v=s))) (fun j=>l.length-j) 0 (Le.of_eq rfl) ⟨q3o _,rfl,by simp⟩ ?_;rintro j ⟨h2,h3,h4⟩;conv=>whnf
 repeat' (first|((first|(refine iA fun _=>?_)|refine wI ?_);conv=>whnf)|(apply bD<;>intro _<;>first|omega|conv=>whnf))
 ·exact RetK.int (Xf (p:=fun s=>decide (v=s)) (by omega) (q6t (by assumption)) h3 h4).symm
 ·exact⟨j+1,⟨by omega,by rw[<-h3,U1 (p:=fun s=>decide (v=s)) (by omega) (q6f (by assumption))],by rw[h4,SS (p:=fun s=>decide (v=s)) (by omega) (q6f (by assumption))];omega⟩,by omega,Le.of_eq rfl⟩
 ·exact RetK.int (by rw[Jy];rw[<-h3,MC (by omega)])
theorem KH(l:List Int)(v:Int):SpecP prog 177 [XU l,.int .i64 v] (fun r=>r=.bool (l.any fun s=>decide (v=s))):=by
 refine sB YL func177 rfl call177 ?_;conv=>whnf
 repeat' (refine cP (FJ _ _) ?_;conv=>whnf)
 exact RetK.bool LF
theorem Mq{T:Tab}{hr:Bool}{o:Oper}{K:LV->Prop}(hT:TabOK P T){t u:TypeId}{x:Operand}(hop:o.op=.binOp .eql t x (.const (.slice none 0 0)) u){i:TyI}(ht:T.get t=some i){e:TypeId}(hd:i.desc=.slice e){es:List AV}(hx:QR s.sl x=.p (.sl es))(hK:∀b:Bool,(b=true->es=[])->K (.p (.bool b))):ValO P hr s o K:=by
 refine⟨fun σ β ac w hs _=>?_⟩;have h1:=QZ hs x;rw[hx]at h1;have hu:=hT.of ht;rw[hd]at hu;have hv:∃ad n c,ac.eval x=.slice ad n c/\(ad.isNone=true->es=[]):=by
  generalize ac.eval x=v at h1;cases h1 with
  | p h1=>
    cases h1 with
    |nilsl=>exact⟨none,0,0,rfl,fun _=>rfl⟩
    |slz b=>exact⟨some b,0,0,rfl,fun _=>rfl⟩
    |sl _ b off cap sz cells u hb hcap hmax hsz hc hrr=>exact⟨_,_,_,rfl,fun h=>(by cases h)⟩
 obtain⟨ad,n,c,hv,he⟩:=hv;refine⟨_,.bool ad.isNone,hK ad.isNone he,.p (.bool _),fun w' _ _=>?_⟩;have h2:ac.eval (.const (.slice none 0 0))=.slice none 0 0:=rfl;have hg:(eqGuard .eql t x (.const (.slice none 0 0)) (.slice ad n c) (.slice none 0 0)).run P w'=.ok () w':=by unfold eqGuard;rfl
 have he:(Op.equal t (.slice ad n c) (.slice none 0 0)).run P w'=.ok ad.isNone w':=by
  have e:Op.equal t (.slice ad n c) (.slice none 0 0)=Op.equalIn (9999+1) t (.slice ad n c) (.slice none 0 0):=rfl;rw[e,Op.equalIn,Sem.run_bind,run_underlying hu,Result.andThen_ok];cases ad<;>rfl
 simp only[execOp,hop,hv,h2,Sem.run_bind,hg,Result.andThen_ok,binOp];simp[he]
theorem M8{es:List AV}{n:Nat}{nil:Prop}(q:Nat)(he:es=L.map .str)(h:n=L.length):OneRow (Yx L) nil (.hd q 0 n) [(q,.own 9 1 es)]:=by
 subst he;exact .inr ⟨q,_,_,_,by rw[h,q3f],rfl,Nb L,rfl,rfl,rfl⟩
theorem ZC(l:List Str)(hl:l.length<=1000000):SpecH prog 151 [.p (eStrs l)] [] (fun r H=>OneRow (Yx l) (l=[]) r H):=by
 refine sH UD func151 rfl call151 ?_;conv=>whnf
 repeat' (first|((first|refine q3l rfl ?_|refine aD ?_|refine Mq QY rfl rfl rfl rfl (fun q hq=>?_)|refine q8i (fun x hx=>by cases hx) rfl ?_|refine JD _ (by simp) (by simp;omega) ?_);conv=>whnf)|(apply bB<;>intro _<;>conv=>whnf))
 all_goals first
  |exact q5u _ (q3e _) (.inl ⟨rfl,rfl,List.map_eq_nil_iff.1 (hq (by assumption))⟩)
  |exact q5u _ (q3e _) (M8 0 rfl (by simp))
inductive CutH:Heap->Heap->Prop
 |nil:CutH [] []
 |same {c:Nat×Chunk} {H H':Heap} (h:CutH H H'):CutH (c::H) (c::H')
 |cut {k:Nat} {e:TypeId} {sz:Nat} {es es':List AV} {H H':Heap} (hp:es' <+: es) (h:CutH H H'):CutH ((k,.own e sz es)::H) ((k,.own e sz es')::H')
theorem CutH.get{H H':Heap}(h:CutH H H'):H'.map (·.1)=H.map (·.1)/\∀j c',(j,c')∈H'->(j,c')∈H\/∃e sz es es',(j,Chunk.own e sz es)∈H/\c'=.own e sz es'/\es' <+: es:=by
 induction h with
 |nil=>exact⟨rfl,by simp⟩
 | same h ih=>
   refine⟨by simp[ih.1],fun j c' hj=>?_⟩;rcases q3t.1 hj with rfl|hj
   ·exact .inl q3d
   ·rcases ih.2 j c' hj with h1|⟨e,sz,es,es',h1,h2⟩
    ·exact .inl (q3n _ h1)
    ·exact .inr ⟨e,sz,es,es',q3n _ h1,h2⟩
 | @cut k e sz es es' H H' hp h ih=>
   refine⟨by simp[ih.1],fun j c' hj=>?_⟩;rcases q3t.1 hj with hj|hj
   ·cases hj;exact .inr ⟨e,sz,es,es',q3d,rfl,hp⟩
   ·rcases ih.2 j c' hj with h1|⟨e,sz,es,es',h1,h2⟩
    ·exact .inl (q3n _ h1)
    ·exact .inr ⟨e,sz,es,es',q3n _ h1,h2⟩
theorem Le.cut{N:Nat}{sl:List (Nat×LV)}{H H':Heap}(h:CutH H H'):Le N ⟨sl,H⟩ ⟨sl,H'⟩:=fun σ β a w hr=>by
 obtain⟨hk,hc⟩:=h.get;refine⟨σ,β,⟨hr.size,hr.defers,hr.slots,⟨hr.heap.mem,fun j c' hj=>?_,by show(H'.map (·.1)).Nodup;rw[hk];exact hr.heap.nodup,fun j hj=>hr.heap.apart j (by rw[<-hk];exact hj),fun j hj j' hj'=>hr.heap.inj j (by rw[<-hk];exact hj) j' (by rw[<-hk];exact hj')⟩⟩,Mem.le_refl σ,Frm.refl _ w,fun b h0 h1=>absurd h0 h1,fun b ⟨j,hj,r⟩=>.inl ⟨j,by rw[<-hk];exact hj,r⟩,fun _ _ _=>rfl⟩;rcases hc j c' hj with h1|⟨e,sz,es,es',h1,rfl,h2⟩
 ·exact hr.heap.chunks j c' h1
 ·rcases hr.heap.chunks j _ h1 with⟨h3,h4⟩|⟨i,vs,h3,h4,h5,h6,h7,h8,h9⟩
  ·refine .inl ⟨h3,?_⟩;rw[h4]at h2;exact List.prefix_nil.1 h2
  ·exact .inr ⟨i,vs,h3,h4,h5,h6,q5p h2.length_le h7,h8,fun m x hx=>h9 m x (by
    obtain⟨t,rfl⟩:=h2;rw[q5v (q3c.1 hx).1];exact hx)⟩
def varsS(p:Pg)(f:Pr):List Str:=p.globals++Wd f
theorem Lz(p:Pg)(hm:HE p=true)(k:Nat)(f:Pr)(hk:p.procs[k]?=some f)(hu:∀(j:Nat)(g:Pr),p.procs[j]?=some g->g.name=f.name->j=k)(h1:f.params.length<=1000)(h2:f.vars.length<=1000)(hg:p.globals.length<=1000):SpecP prog 117 [.agg p.cells,.str f.name] (fun r=>r=eStrs (varsS p f)):=by
 refine sB G8 func117 rfl call117 ?_;conv=>whnf
 have hM:=Kg p;rw[hm]at hM;have hkl:k<p.procs.length:=(q3c.1 hk).1;have hO:=Fz f h1 h2;have hCl:SpecH prog 151 ([eStrs p.globals].map .p) [] (OneRow (Yx p.globals) (p.globals=[])):=ZC p.globals (by omega);have hol:(Wd f).length<=100000:=by
  unfold Wd;rw[q3m,q3f];omega
 have hpm:(p.procs.map fun f=>AV.agg f.cells).length=p.procs.length:=q3f _;have hfin:eStrs (varsS p f)=.sl (p.globals.map AV.str++(Wd f).map AV.str):=by unfold varsS eStrs;rw[q4z]
 rw[hfin];repeat' ((first|(refine iM fun _=>?_)|refine cP hM ?_|refine Br.ff ?_);conv=>whnf)
 all_goals first
  |contradiction
  |skip
 refine LoopK.inv QY (fun j:Nat=>⟨[(1,.p (.str f.name)),(2,.p (.ip p.cells)),(11,.p (.sl (p.procs.map fun f=>.agg f.cells))),(12,.p (.int .i64 (p.procs.map fun f=>AV.agg f.cells).length)),(13,.p (.int .i64 j))],[]⟩) (fun j=>j<=k) (fun j=>k-j) 0 (Le.of_eq rfl) (q3o _) ?_;intro j hj;have hjl:j<p.procs.length:=by omega
 have hjk:p.procs[j]?=some p.procs[j]:=q3b hjl;rcases q4w j k with hlt|hge
 ·have hne:(p.procs[j].name==f.name)=false:=q7d.2 fun he=>by
   have:=hu j _ hjk he;omega
  conv=>whnf
  repeat' (first|((first|refine dA ?_|refine q3l rfl ?_|(refine iA fun _=>?_)|refine wI ?_);conv=>whnf)|(apply bD<;>intro _<;>first|omega|conv=>whnf)|(apply bB<;>intro _<;>conv=>whnf))
  all_goals first
   |exact⟨j+1,by omega,by omega,Le.of_eq rfl⟩
   |(exfalso;simp_all;done)
 ·obtain rfl:j=k:=by omega
  have hfe:p.procs[j]=f:=by rw[hjk]at hk;exact q7c hk
  have hO2:SpecP prog 128 [.agg p.procs[j].cells] (fun r=>r=eStrs (Wd f)):=by rw[hfe];exact hO
  have heq:(p.procs[j].name==f.name)=true:=by rw[hfe];exact q5r _
  generalize Wd f=ol at*
  conv=>whnf
  repeat' (first|((first|refine dA ?_|refine q3l rfl ?_|refine aD ?_|(refine iA fun _=>?_)|refine wI ?_|refine cP hO2 ?_|refine JD _ (by simp) (by simp;omega) ?_);conv=>whnf)|(apply bD<;>intro _<;>first|omega|conv=>whnf)|(apply bB<;>intro _<;>conv=>whnf)|(refine JP 0 rfl hCl (.cons (.p (Sub.refl _)) .nil) (fun hnil=>?_) ?_;rotate_left;rintro _ _ _ _ ⟨rfl,rfl,rfl⟩;all_goals conv=>whnf))
  all_goals first
   |(exfalso;simp_all;done)
   |exact⟨_,.hd rfl (by simp),rfl⟩
   |(rw[hnil];exact⟨_,.hd rfl (by simp),rfl⟩)
def cpA(b:Nat):AV:=.raw (.pointer (some ⟨b,0,none⟩))
def LV.cl(k b:Nat):LV->LV
 |.p a=>.p a
 | .ptr j off=>bif j==k then(match off with
   |0=>.p (cpA b)
   |_+1=>.p .any)else .ptr j off
 |.hd j off n=>bif j==k then .p .any else .hd j off n
 |.agg vs=>.agg (cls k b vs)
 |.tup vs=>.tup (cls k b vs)
 |.ext j d=>bif j==k then .p .any else .ext j d
where cls (k b:Nat):List LV->List LV
 |[]=>[]
 |v::r=>LV.cl k b v::cls k b r
theorem Rc(k b:Nat):∀ls:List LV,LV.cl.cls k b ls=ls.map (LV.cl k b)
 |[]=>rfl
 |v::r=>by rw[LV.cl.cls,Rc k b r];rfl
theorem RepL.cl{σ:Mem}{β γ:Lab}{k kc:Nat}{i:BInfo}(hi:β k=some i)(hγ:∀j,j≠k->j≠kc->γ j=β j){l:LV}{v:Value}(hr:RepL σ β l v)(hf:l.free kc=true):RepL σ γ (l.cl k i.blk) v:=by
 induction hr with
 |p h=>exact .p h
 | ptr j off i' hj=>
   have hjc:j≠kc:=by simpa[LV.free]using hf
   by_cases h:j=k
   ·subst h;rw[hi]at hj;cases hj;simp only[LV.cl,q5r,q4v];cases off with
    |zero=>exact .p (.raw _)
    |succ off=>exact .p (.any _)
   ·have:(j==k)=false:=by simp[h]
    simp only[LV.cl,this,q4f];exact .ptr j off i' (by rw[hγ j h hjc];exact hj)
 | hdn j hj=>
   have hjc:j≠kc:=by simpa[LV.free]using hf
   by_cases h:j=k
   ·subst h;simp only[LV.cl,q5r,q4v];exact .p (.any _)
   ·have:(j==k)=false:=by simp[h]
    simp only[LV.cl,this,q4f];exact .hdn j (by rw[hγ j h hjc];exact hj)
 | hd j off len i' o hj hl ho=>
   have hjc:j≠kc:=by simpa[LV.free]using hf
   by_cases h:j=k
   ·subst h;simp only[LV.cl,q5r,q4v];exact .p (.any _)
   ·have:(j==k)=false:=by simp[h]
    simp only[LV.cl,this,q4f];exact .hd j off len i' o (by rw[hγ j h hjc];exact hj) hl ho
 | agg ls vs u hn hc _ ih=>
   simp only[LV.cl,Rc];refine .agg _ vs u (by rw[q3f];exact hn) (fun j l' hj=>?_) fun j l' hj=>?_
   ·rw[q4x]at hj;cases hq:ls[j]?with
    |none=>rw[hq]at hj;cases hj
    |some l=>exact hc j l hq
   ·rw[q4x]at hj;cases hq:ls[j]?with
    |none=>rw[hq]at hj;cases hj
    | some l=>
      rw[hq]at hj;cases hj;exact ih j l hq (QE (by simpa[LV.free]using hf) j l hq)
 | tup ls vs u hn hc _ ih=>
   simp only[LV.cl,Rc];refine .tup _ vs u (by rw[q3f];exact hn) (fun j l' hj=>?_) fun j l' hj=>?_
   ·rw[q4x]at hj;cases hq:ls[j]?with
    |none=>rw[hq]at hj;cases hj
    |some l=>exact hc j l hq
   ·rw[q4x]at hj;cases hq:ls[j]?with
    |none=>rw[hq]at hj;cases hj
    | some l=>
      rw[hq]at hj;cases hj;exact ih j l hq (QE (by simpa[LV.free]using hf) j l hq)
 | ext j d i' v hj hd=>
   have hjc:j≠kc:=by simpa[LV.free]using hf
   by_cases h:j=k
   ·subst h;simp only[LV.cl,q5r,q4v];exact .p (.any _)
   ·have:(j==k)=false:=by simp[h]
    simp only[LV.cl,this,q4f];exact .ext j d i' v (by rw[hγ j h hjc];exact hj) hd
def Od(k kc b:Nat)(c:AV)(j:Nat)(ch:Chunk):Chunk:=bif j==kc then(match ch with
 |.ext (.cells e l)=>.ext (.cells e (l++[(b,c)]))
 |ch=>ch)else ch.mapL (LV.cl k b)
def AR(k kc b:Nat)(c:AV)(H:Heap):Heap:=(H.filter fun x=> !(x.1==k)).map fun x=>(x.1,Od k kc b c x.1 x.2)
def Dk(k kc b:Nat)(c:AV):Heap->(Heap->Prop)->Prop
 |[],K=>K []
 |(j,ch)::r,K=>bif j==k then Dk k kc b c r K else bif j==kc then(match ch with
     |.ext (.cells e l)=>Dk k kc b c r fun r=>K ((j,.ext (.cells e (l++[(b,c)])))::r)
     |ch=>Dk k kc b c r fun r=>K ((j,ch)::r))else Mo (LV.cl k b) ch fun ch=>Dk k kc b c r fun r=>K ((j,ch)::r)
theorem Ba(k kc b:Nat)(c:AV):∀(H:Heap)(K:Heap->Prop),Dk k kc b c H K=K (AR k kc b c H)
 |[],K=>rfl
 | (j,ch)::r,K=>by
   have ih:=Ba k kc b c r;unfold Dk AR;by_cases h:j=k
   ·have e:(j==k)=true:=by simp[h]
    rw[e,q4v,ih,q6d (by simp[e])];rfl
   ·have e:(j==k)=false:=by simp[h]
    rw[e,q4f,q6x (by simp[e]),q4t];simp only[Od];by_cases h2:j=kc
    ·have e2:(j==kc)=true:=by simp[h2]
     rw[e2,q4v,q4v];split<;>rw[ih]<;>first|rfl|skip
    ·have e2:(j==kc)=false:=by simp[h2]
     rw[e2,q4f,q4f,FI,ih];rfl
def IB(k kc:Nat)(s:St):Bool:=(!(k==kc)&&(Nat.ble 2000 kc&&blt k 1000))&&((s.sl.all fun x=>x.2.free kc)&&s.H.all fun x=>x.2.free kc)
def Ob(k kc:Nat)(s:St)(K:St->Prop):Prop:=match getH s.H k,getH s.H kc with
 |some (.obj e [.p c]),some (.ext (.cells e' l))=>(e=e'/\IB k kc s=true)/\∀b,(∀x∈l,x.1≠b)->Wq (LV.cl k b) s.sl fun sl=>Dk k kc b c s.H fun H=>K ⟨sl,H⟩
 |_,_=>False
theorem Rz{σ:Mem}{β:Lab}{a:Act}{w:World}{k kc:Nat}(h:Ob k kc s K)(hr:Rel N σ β s a w):∃σ' β' s',K s'/\Rel N σ' β' s' a w/\Later σ β s.H w σ' β' s'.H w:=by
 unfold Ob at h;split at h<;>first|exact h.elim|skip
 rename_i e c e' l hgk hgc;obtain⟨⟨rfl,hok⟩,h⟩:=h;simp only[IB,q4k,q5k,q6y,q7d,ne_eq]at hok;obtain⟨⟨hne,hkc,hk⟩,hf1,hf2⟩:=hok;have hkc:2000<=kc:=q7p hkc;have hk:k<1000:=by simpa[blt,Nat.lt_iff_add_one_le]using hk
 have hmk:=QG hgk;have hmc:=QG hgc;have hlk:k∈s.H.map (·.1):=q3s.2 ⟨_,hmk,rfl⟩;have hlc:kc∈s.H.map (·.1):=q3s.2 ⟨_,hmc,rfl⟩;obtain⟨i,vs,hi,hh,hn,hc⟩:=hr.heap.chunks k _ hmk;have hcc:XC.holds (.cells e l) σ (β kc) w:=hr.heap.chunks kc _ hmc;obtain⟨hnd,hcl⟩:=hcc;have hnew:∀x∈l,x.1≠i.blk:=fun x hx he=>by
  obtain⟨ic,_,h1,h2,_⟩:=hcl x hx;exact hne (hr.heap.inj k hlk kc hlc i ic hi h1 i.blk i.has_blk (he▸h2))
 have h:=h i.blk hnew;obtain⟨sl,h,hsl⟩:=VI (by rfl) h;rw[Ba]at h;obtain⟨ic',hic⟩ : ∃ic':BInfo,∀x,ic'.has x↔x=i.blk\/∃ic,β kc=some ic/\ic.has x:=by
  cases hq:β kc with
  | none=>
    refine⟨⟨i.blk,0,1,[],q3o _⟩,fun x=>?_⟩;rw[PZ];exact⟨fun h=>.inl h.symm,fun h=>h.elim (fun h=>h.symm) fun⟨_,h,_⟩=>by cases h⟩
  | some ic=>
    refine⟨⟨ic.blk,ic.cap,ic.sz,some (i.blk,0)::ic.subs,ic.ok⟩,fun x=>?_⟩;constructor
    ·rintro(h|⟨c,h⟩)
     ·exact .inr ⟨ic,rfl,.inl h⟩
     ·rcases q3t.1 h with h|h
      ·cases h;exact .inl rfl
      ·exact .inr ⟨ic,rfl,.inr ⟨c,h⟩⟩
    ·rintro(rfl|⟨_,h,h'⟩)
     ·exact .inr ⟨0,q3d⟩
     ·cases h;rcases h' with h'|⟨c,h'⟩
      ·exact .inl h'
      ·exact .inr ⟨c,q3n _ h'⟩
 let β':Lab:=fun j=>if j=kc then some ic' else if j=k then none else β j;have hβc:β' kc=some ic':=if_pos rfl;have hβ:∀j,j≠k->j≠kc->β' j=β j:=fun j h1 h2=>by
  show(if j=kc then some ic' else if j=k then none else β j)=β j;rw[if_neg h2,if_neg h1]
 have hfree:∀i,(getS s.sl i).free kc=true:=fun i=>by
  have key:∀sl:List (Nat×LV),(∀x∈sl,x.2.free kc=true)->(getS sl i).free kc=true:=fun sl=>by
   induction sl with
   |nil=>exact fun _=>rfl
   | cons x r ih=>
     intro hx;obtain⟨j,v⟩:=x;simp only[getS];cases j==i with
     |true=>exact hx _ q3d
     |false=>exact ih fun y hy=>hx y (q3n _ hy)
  exact key _ hf1
 have hlab:∀j∈(AR k kc i.blk c s.H).map (·.1),j≠k/\j∈s.H.map (·.1):=fun j hj=>by
  obtain⟨x,hx,rfl⟩:=q3s.1 hj;obtain⟨y,hy,rfl⟩:=q3s.1 hx;obtain⟨h1,h2⟩:=q5q.1 hy;exact⟨by simpa using h2,q3s.2 ⟨y,h1,rfl⟩⟩
 have hown:∀j∈(AR k kc i.blk c s.H).map (·.1),∀i',β' j=some i'->∀x,i'.has x->∃m∈s.H.map (·.1),∃im,β m=some im/\im.has x/\(m=j\/(m=k/\j=kc)):=fun j hj i' hi' x hx=>by
  by_cases hjc:j=kc
  ·subst hjc;rw[hβc]at hi';cases hi';rcases(hic x).1 hx with rfl|⟨ic,h1,h2⟩
   ·exact⟨k,hlk,i,hi,i.has_blk,.inr ⟨rfl,rfl⟩⟩
   ·exact⟨j,hlc,ic,h1,h2,.inl rfl⟩
  ·rw[hβ j (hlab j hj).1 hjc]at hi';exact⟨j,(hlab j hj).2,i',hi',hx,.inl rfl⟩
 refine⟨σ,β',⟨sl,AR k kc i.blk c s.H⟩,h,⟨hr.size,hr.defers,fun m=>?_,⟨hr.heap.mem,fun j ch hj=>?_,?_,fun j hj i' hi' x hx=>?_,fun j hj j' hj' i1 i2 h1 h2 x hx1 hx2=>?_⟩⟩,Mem.le_refl σ,Frm.refl _ _,fun _ h0 h1=>absurd h0 h1,fun x ⟨j,hj,i',hi',hx⟩=>?_,fun j h1 h2=>hβ j (by omega) (by omega)⟩
 ·show RepL σ β' (getS sl m) _;rw[hsl];exact(hr.slots m).cl hi hβ (hfree m)
 ·obtain⟨y,hy,he⟩:=q3s.1 hj;cases he;obtain⟨h1,h2⟩:=q5q.1 hy;have hyk:y.1≠k:=by simpa using h2
  unfold Od;by_cases hjc:y.1=kc
  ·have:y.2=.ext (.cells e l):=by
    have h3:(kc,y.2)∈s.H:=by rw[<-hjc];exact h1
    have h4:=hr.heap.nodup;have key:∀(H:Heap),(H.map (·.1)).Nodup->∀{c1 c2},(kc,c1)∈H->(kc,c2)∈H->c1=c2:=fun H=>by
     induction H with
     |nil=>intro _ c1 c2 h;cases h
     | cons z r ih=>
       intro hn c1 c2 h1 h2;rw[q4t,q5h]at hn;rcases q3t.1 h1 with e1|h1<;>rcases q3t.1 h2 with e2|h2
       ·rw[<-e1]at e2;cases e2;rfl
       ·exact absurd (q3s.2 ⟨_,h2,by rw[<-e1]⟩) hn.1
       ·exact absurd (q3s.2 ⟨_,h1,by rw[<-e2]⟩) hn.1
       ·exact ih hn.2 h1 h2
    exact key _ h4 h3 hmc
   rw[this,hjc];simp only[q5r,q4v];show XC.holds (.cells e (l++[(i.blk,c)])) σ (β' kc) w;rw[hβc];refine⟨?_,fun x hx=>?_⟩
   ·rw[q4z,q6j];refine⟨hnd,by simp,fun x hx y hy he=>?_⟩;obtain⟨z,hz,rfl⟩:=q3s.1 hx;rw[q3r.1 hy]at he;exact hnew z hz he
   ·rcases q3a.1 hx with hx|hx;rotate_left
    ·rw[q3r.1 hx];obtain⟨u,h5,h6⟩:=hc 0 (.p c) rfl;refine⟨ic',u,rfl,(hic _).2 (.inl rfl),?_,?_⟩
     ·have:vs=#[u]:=by
       have h7:vs.size=1:=hn;obtain⟨ls⟩:=vs
       match ls,h7,h5 with
       |[v],_,h5=>simp at h5;rw[h5]
      rw[<-this];exact hh
     ·cases h6 with
      |p h6=>exact h6
    ·obtain⟨ic,u,h5,h6,h7,h8⟩:=hcl x hx;exact⟨ic',u,rfl,(hic _).2 (.inr ⟨ic,h5,h6⟩),h7,h8⟩
  ·have e2:(y.1==kc)=false:=by simp[hjc]
   rw[e2,q4f];have hold:=hr.heap.chunks y.1 y.2 h1;have hfr:=hf2 y h1;obtain⟨j,ch⟩:=y;cases ch with
   | obj e' ls=>
     obtain⟨i',vs',h3,h4,h5,h6⟩:=hold;refine⟨i',vs',by rw[hβ j hyk hjc];exact h3,h4,by rw[q3f];exact h5,fun m l' hm=>?_⟩;rw[q4x]at hm;cases hq:ls[m]?with
     |none=>rw[hq]at hm;cases hm
     | some lv=>
       rw[hq]at hm;cases hm;obtain⟨u,h7,h8⟩:=h6 m lv hq;exact⟨u,h7,h8.cl hi hβ (QE hfr m lv hq)⟩
   | own e' sz es=>
     show Chunk.holds σ β' w j (.own e' sz es);unfold Chunk.holds at hold⊢;rw[hβ j hyk hjc];exact hold
   | ext d=>
     show XC.holds d σ (β' j) w;rw[hβ j hyk hjc];exact hold
 ·have:((AR k kc i.blk c s.H).map (·.1)).Sublist (s.H.map (·.1)):=by
   unfold AR;rw[q8c];exact(List.filter_sublist (l:=s.H)).map _
  exact this.nodup hr.heap.nodup
 ·obtain⟨m,hm,im,h3,h4,_⟩:=hown j hj i' hi' x hx;exact hr.heap.apart m hm im h3 x h4
 ·obtain⟨m,hm,im,h3,h4,h5⟩:=hown j hj i1 h1 x hx1;obtain⟨m',hm',im',h3',h4',h5'⟩:=hown j' hj' i2 h2 x hx2;have he:=hr.heap.inj m hm m' hm' im im' h3 h3' x h4 h4';have hjk:=(hlab j hj).1;have hjk':=(hlab j' hj').1;rcases h5 with rfl|⟨rfl,rfl⟩<;>rcases h5' with rfl|⟨rfl,rfl⟩
  ·exact he
  ·exact absurd he hjk
  ·exact absurd he.symm hjk'
  ·rfl
 ·obtain⟨m,hm,im,h3,h4,_⟩:=hown j hj i' hi' x hx;exact .inl ⟨m,hm,im,h3,h4⟩
section
variable {P:Program}{T:Tab}{N:Nat}{o:Oper}{K:St->Prop}{s:St}
theorem MT(hT:TabOK P T)(k kc:Nat)(h:Ob k kc s fun s'=>opW P T N s' o K):OpK P N s o K:=by
 refine⟨fun σ β a w hr Q=>?_⟩;obtain⟨σ1,β1,s1,h1,hr1,hl1⟩:=Rz h hr;refine Oper.wp_mono (fun a' w' hk=>?_) (FQ hT h1 hr1 Q);obtain⟨σ',β',s',hK,hr',hl⟩:=hk;exact⟨σ',β',s',hK,hr',hl1.trans hl⟩
theorem R6{sl:List (Nat×LV)}{H:Heap}(kc:Nat)(e:TypeId)(h:((sl.all fun x=>x.2.free kc)&&H.all fun x=> !(x.1==kc)&&x.2.free kc)=true)(hk:2000<=kc):Le N ⟨sl,H⟩ ⟨sl,(kc,.ext (.cells e []))::H⟩:=fun σ β a w hr=>by
 simp only[q4k,q5k,q6y,q7d,ne_eq]at h;obtain⟨h1,h2⟩:=h;have hks:∀j∈H.map (·.1),j≠kc:=fun j hj=>by
  obtain⟨x,hx,rfl⟩:=q3s.1 hj;exact(h2 x hx).1
 have hset:∀j,j≠kc->(β.set kc none) j=β j:=fun j hj=>by simp[Lab.set,hj]
 have hsetk:(β.set kc none) kc=none:=by simp[Lab.set]
 have hfree:∀i,(getS sl i).free kc=true:=fun i=>by
  have key:∀sl:List (Nat×LV),(∀x∈sl,x.2.free kc=true)->(getS sl i).free kc=true:=fun sl=>by
   induction sl with
   |nil=>exact fun _=>rfl
   | cons x r ih=>
     intro hx;obtain⟨j,v⟩:=x;simp only[getS];cases j==i with
     |true=>exact hx _ q3d
     |false=>exact ih fun y hy=>hx y (q3n _ hy)
  exact key _ h1
 refine⟨σ,β.set kc none,⟨hr.size,hr.defers,fun i=>(hr.slots i).set none (hfree i),⟨hr.heap.mem,fun j c hj=>?_,?_,fun j hj i hi b hb=>?_,fun j hj j' hj' i i' hi hi' b hb hb'=>?_⟩⟩,Mem.le_refl σ,Frm.refl _ _,fun _ h0 h1=>absurd h0 h1,fun b ⟨j,hj,i,hi,hb⟩=>?_,fun j h3 h4=>hset j (by omega)⟩
 ·rcases q3t.1 hj with he|hj
  ·cases he;exact⟨List.nodup_nil,fun x hx=>by cases hx⟩
  ·exact(hr.heap.chunks j c hj).set none (hks j (q3s.2 ⟨_,hj,rfl⟩)) (h2 _ hj).2
 ·exact q5h.2 ⟨fun hm=>hks kc hm rfl,hr.heap.nodup⟩
 ·rcases q3t.1 hj with he|hj
  ·have he:j=kc:=he;rw[he,hsetk]at hi;cases hi
  ·rw[hset j (hks j hj)]at hi;exact hr.heap.apart j hj i hi b hb
 ·rcases q3t.1 hj with he|hj
  ·have he:j=kc:=he;rw[he,hsetk]at hi;cases hi
  ·rcases q3t.1 hj' with he|hj'
   ·have he:j'=kc:=he;rw[he,hsetk]at hi';cases hi'
   ·rw[hset j (hks j hj)]at hi;rw[hset j' (hks j' hj')]at hi';exact hr.heap.inj j hj j' hj' i i' hi hi' b hb hb'
 ·rcases q3t.1 hj with he|hj
  ·have he:j=kc:=he;rw[he,hsetk]at hi;cases hi
  ·rw[hset j (hks j hj)]at hi;exact .inl ⟨j,hj,i,hi,hb⟩
end
section
variable {P:Program}{T:Tab}{N:Nat}{o:Oper}{s:St}{hr:Bool}
theorem YS{K:LV->Prop}{x:Operand}(hop:o.op=.nilCheck x){b:Nat}(hx:QR s.sl x=.p (cpA b))(hK:K (.p (cpA b))):ValO P hr s o K:=by
 refine⟨fun σ β a w hs _=>?_⟩;have h1:=QZ hs x;rw[hx]at h1;refine⟨_,.pointer (some ⟨b,0,none⟩),hK,.p (.raw _),fun w' _ _=>?_⟩;generalize hv:a.eval x=v at h1;cases h1 with
 | p h1=>cases h1 with
   |raw=>simp[execOp,hop,hv]
theorem Dj(hT:TabOK P T){K:LV->Prop}{t:TypeId}{x:Operand}(hop:o.op=.load t x){i:TyI}(hi:T.get t=some i)(hag:DB i.desc=false){b:Nat}(hx:QR s.sl x=.p (cpA b)){kc:Nat}{e:TypeId}{l:List (Nat×AV)}(hg:getH s.H kc=some (.ext (.cells e l))){c:AV}(hm:(b,c)∈l)(hK:K (.p c)):ValO P true s o K:=by
 refine⟨fun σ β a w hs hH=>?_⟩;have h1:=QZ hs x;rw[hx]at h1;have hch:XC.holds (.cells e l) σ (β kc) w:=hH.chunks kc _ (QG hg);obtain⟨ic,u,h2,h3,h4,h5⟩:=hch.2 _ hm;refine⟨_,u,hK,.p h5,fun w' _ ho=>?_⟩;have hlt:=(hH.apart kc (q3s.2 ⟨_,QG hg,rfl⟩) ic h2 b h3).2;have h6:w'.heap[b]?=some (.cells #[u] e (0,0)):=(ho rfl b hlt).trans h4;have h7:=(WQ (P:=P) hT hi h6 (off:=0)).2 hag u (by simp);generalize hv:a.eval x=v at h1;cases h1 with
 | p h1=>cases h1 with
   |raw=>simp[execOp,hop,hv,h7]
theorem RO{σ:Mem}{β:Lab}{H:Heap}{w:World}(h:HRel σ β H w){k b0:Nat}{i:BInfo}(hk:k∈H.map (·.1))(hi:β k=some i)(hb0:i.has b0){vs:Array Value}{H':Heap}(hH:H'.map (·.1)=H.map (·.1))(hold:∀j c,(j,c)∈H'->j≠k->(j,c)∈H)(hnew:∀c,(k,c)∈H'->c.holds σ β (w.setRow b0 vs) k):
  HRel σ β H' (w.setRow b0 vs)/\Later σ β H w σ β H' (w.setRow b0 vs):=by
 have hap:=h.apart k hk i hi b0 hb0;have hot:∀b,b≠b0->(w.setRow b0 vs).heap[b]?=w.heap[b]?:=fun b hb=>setRow_other w b0 b vs hb;refine⟨⟨fun b c hb=>?_,fun j c hj=>?_,by rw[hH];exact h.nodup,fun j hj i' hi' b hb=>?_,fun j hj j' hj'=>h.inj j (hH▸hj) j' (hH▸hj')⟩,Mem.le_refl σ,⟨rfl,rfl,rfl,q4h _,by simp,fun b _ hn=>hot b fun e=>hn ⟨k,hk,i,hi,e.symm▸hb0⟩⟩,fun b h0 h1=>absurd h0 h1,fun b hb=>?_,fun _ _ _=>rfl⟩
 ·have hne:b≠b0:=fun e=>by rw[e,hap.1]at hb;cases hb
  obtain⟨e,fr,hh⟩:=h.mem b c hb;exact⟨e,fr,(hot b hne).trans hh⟩
 ·by_cases hjk:j=k
  ·subst hjk;exact hnew c hj
  ·have hm:=hold j c hj hjk;refine(h.chunks j c hm).mono (Mem.le_refl σ) fun i' hi' b hb=>hot _ fun e=>hjk ?_;exact h.inj j (q3s.2 ⟨_,hm,rfl⟩) k hk i' i hi' hi b hb (e.symm▸hb0)
 ·have:=h.apart j (hH▸hj) i' hi' b hb;exact⟨this.1,by simpa using this.2⟩
 ·obtain⟨j,hj,i',hi',hb'⟩:=hb;exact .inl ⟨j,hH▸hj,i',hi',hb'⟩
def setCell(b:Nat)(c:AV)(l:List (Nat×AV)):List (Nat×AV):=l.map fun x=>if x.1=b then(b,c)else x
end
structure Fm where
 proc:Nat
 names:List Str
 vars:List Nat
 call:Int
structure Mc where
 stack:List Fm
 mem:List Int
 fin:Int
 steps:Int
 reads:Int
 out:List Int
 trace:List (Int×List Int)
def UV(bs:List Nat)(vs:List Nat):List AV:=vs.map fun v=>cpA (bs.getD v 0)
def evA(e:Int×List Int):AV:=.agg [.int .i64 e.1,XU e.2]
def fmA(bs:List Nat)(f:Fm):AV:=.ip [.int .i64 f.proc,eStrs f.names,.sl (UV bs f.vars),.int .i64 f.call]
def ZH(bs:List Nat)(mem:List Int):List (Nat×AV):=bs.zip (mem.map (.int .i64))
def mO(p:Pg)(tape watch:List Int)(g s v:Nat)(M:Mc):Chunk:=.obj 129 [.p (.ip (sheetOf p).cells),.hd 1001 0 g,.p (XU tape),.p (XU watch),.hd 2001 0 s,.hd 2002 0 v,.p (.int .i64 M.fin),.p (.int .i64 M.steps),.p (.int .i64 M.reads),.hd 2003 0 M.out.length,.hd 2004 0 M.trace.length]
def mH(p:Pg)(tape watch:List Int)(bs:List Nat)(vs:List Int)(M:Mc):Heap:=[(1000,mO p tape watch p.globals.length M.stack.length vs.length M),(1001,.own 130 1 (UV bs (List.range p.globals.length))),(2001,.own 174 1 (M.stack.map (fmA bs))),(2002,.own 2 1 (vs.map (.int .i64))),
 (2003,.own 2 1 (M.out.map (.int .i64))),(2004,.own 78 2 (M.trace.map evA)),(2500,.ext (.cells 2 (ZH bs M.mem)))]
structure OkF(M:Mc)(f:Fm):Prop where
 len:f.vars.length=f.names.length
 rng:∀v∈f.vars,v<M.mem.length
structure OkM(p:Pg)(bs:List Nat)(M:Mc):Prop where
 bl:bs.length=M.mem.length
 fr:∀f∈M.stack,OkF M f
 gl:p.globals.length<=M.mem.length
 sl:M.stack.length<=1000
 nl:∀f∈M.stack,f.names.length<=100000
theorem TU{bs vs:List Nat}{i v:Nat}(h:vs[i]?=some v):(UV bs vs)[i]?=some (cpA (bs.getD v 0)):=by
 unfold UV;rw[q4x,h];rfl
theorem SP{bs:List Nat}{mem:List Int}(hl:bs.length=mem.length){v:Nat}(h:v<mem.length):(bs.getD v 0,AV.int .i64 (mem.getD v 0))∈ZH bs mem:=by
 unfold ZH;refine q6h.2 ⟨v,?_⟩;rw[List.getElem?_zip_eq_some];refine⟨?_,?_⟩
 ·rw[q3p,q3b (by omega)];rfl
 ·rw[q4x,q3b h];show some (AV.int .i64 mem[v])=some (AV.int .i64 (mem.getD v 0));rw[q3p,q3b h];rfl
theorem YF(p:Pg)(tape watch:List Int)(bs:List Nat)(vs:List Int)(M:Mc)(st:List Fm)(f:Fm)(hs:M.stack=st++[f])(hl:M.stack.length<=1000):SpecH prog 124 [.ptr 1000 0] (mH p tape watch bs vs M) (fun r H=>r=.p (fmA bs f)/\H=mH p tape watch bs vs M):=by
 refine sH MM func124 rfl call124 ?_;conv=>whnf
 have hn:M.stack.length=st.length+1:=by rw[hs,q3m];rfl
 have hat:(M.stack.map (fmA bs))[st.length]?=some (fmA bs f):=by rw[hs,q4x,q5x (q4h _),Nat.sub_self];rfl
 have hml:(M.stack.map (fmA bs)).length=M.stack.length:=q3f _;repeat' ((first|(refine iM fun _=>?_)|refine dA ?_|refine q3l rfl ?_|refine wI ?_|refine q5z st.length (by omega) (by omega) ?_|refine q5f st.length 0 (fmA bs f) (by omega) hat ?_);conv=>whnf)
 all_goals first
  |exact q5u _ (q3e _) ⟨rfl,rfl⟩
theorem WZ(p:Pg)(tape watch:List Int)(bs:List Nat)(vs:List Int)(M:Mc)(st:List Fm)(f:Fm)(hs:M.stack=st++[f])(hl:M.stack.length<=1000)(name:Str)(i v:Nat)(hi:idxF (fun y=>name==y) f.names=i)(hv:f.vars[i]?=some v):SpecH prog 119 [.ptr 1000 0,.p (.str name)] (mH p tape watch bs vs M) (fun r H=>r=.p (cpA (bs.getD v 0))/\H=mH p tape watch bs vs M):=by
 refine sH DE func119 rfl call119 ?_;conv=>whnf
 have hT:=YF p tape watch bs vs M st f hs hl;have hIx:=QO f.names name;rw[hi]at hIx;have hat:=TU (bs:=bs) hv;repeat' (first|((first|refine dA ?_|refine cP hIx ?_|(refine IdxK.at (k:=i) rfl hat rfl ?_));conv=>whnf)|(refine CallK.heap [(1000,1000),(1001,1001),(2001,2001),(2002,2002),(2003,2003),(2004,2004),(2500,2500)] 0 (by repeat' (first|exact q4d|refine q3i ?_ ?_|exact q3e _|exact q4q Sub.nils|exact q4q (Sub.tt rfl)|exact q4q (Sub.ff rfl)|exact q4q (Sub.int (by omega)))) (by refine q3h (j:=1000) rfl rfl ?_ ?_;exact CSub.refl _;refine q3h (j:=1001) rfl rfl ?_ ?_;exact CSub.refl _;refine q3h (j:=2001) rfl rfl ?_ ?_;exact CSub.refl _;refine q3h (j:=2002) rfl rfl ?_ ?_;exact CSub.refl _;refine q3h (j:=2003) rfl rfl ?_ ?_;exact CSub.refl _;refine q3h (j:=2004) rfl rfl ?_ ?_;exact CSub.refl _;refine q3h (j:=2500) rfl rfl ?_ ?_;exact CSub.refl _;exact q4b) hT rfl rfl ?_;rintro l' H' ⟨rfl,rfl⟩;conv=>whnf))
 all_goals first
  |exact q5u _ (q3e _) ⟨rfl,rfl⟩
def QJ(watch:List Int)(M:Mc)(id:Int)(vals:List Int):Mc:=bif watch.any fun x=>decide (id=x)then {M with trace:=M.trace++[(id,vals)]}else M
theorem XP(p:Pg)(tape watch:List Int)(bs:List Nat)(vs:List Int)(M:Mc)(id:Int)(vals:List Int)(htl:M.trace.length<=10000000):SpecH prog 121 [.ptr 1000 0,.p (.int .i64 id),.p (XU vals)] (mH p tape watch bs vs M) (fun r H=>r=.p (.tup [])/\H=mH p tape watch bs vs (QJ watch M id vals)):=by
 refine sH DC func121 rfl call121 ?_;conv=>whnf
 have hC:=KH watch id;unfold QJ;cases hw:watch.any fun x=>decide (id=x);all_goals
  rw[hw]at hC;repeat' ((first|refine q3l rfl ?_|refine aD ?_|refine bP ?_|refine cP hC ?_|refine q6g (n:=M.trace.length) (by rw[q3f]) rfl (by show(M.trace.length+1)*32<=140737488355328;omega) (by show M.trace.length+1<=9223372036854775807;omega) (fun x hx=>by rcases q3r.1 hx with rfl;exact⟨rfl,rfl⟩) ?_|refine Br.tt ?_|refine Br.ff ?_);conv=>whnf)
 all_goals first
  |exact q5u _ (q3e _) ⟨rfl,rfl⟩
  |exact q5u _ (q3e _) ⟨rfl,by simp only[q4v];unfold mH mO;simp only[q3m,q4z];rfl⟩
def q2u(M:Mc)(f:Fm):Str->Int:=Vq f.names (f.vars.map fun v=>M.mem.getD v 0)
def QA(M:Mc)(f:Fm)(x:X):Int×Bool:=evX (q2u M f) x
def endM(M:Mc)(c:Int):Mc:={M with fin:=c}
def Fc(M:Mc)(f:Fm)(x:X):Mc:=bif (QA M f x).2 then M else endM M 4
theorem IV{sl:List (Nat×LV)}{p:Pg}{bs:List Nat}{M:Mc}:
  Le N ⟨sl,[(1000,mO p tape watch p.globals.length M.stack.length 0 M),(1001,.own 130 1 (UV bs (List.range p.globals.length))),(2001,.own 174 1 (M.stack.map (fmA bs))),(2002,.own 2 1 (vs.map (.int .i64))),(2003,.own 2 1 (M.out.map (.int .i64))),(2004,.own 78 2 (M.trace.map evA)),(2500,.ext (.cells 2 (ZH bs M.mem)))]⟩
   ⟨sl,mH p tape watch bs [] M⟩:=
 Le.cut (.same (.same (.same (.cut (List.nil_prefix) (.same (.same (.same .nil)))))))
theorem UX(p:Pg)(tape watch:List Int)(bs:List Nat)(vs:List Int)(M:Mc)(st:List Fm)(f:Fm)(hs:M.stack=st++[f])(hM:OkM p bs M)(x:X):SpecH prog 120 [.ptr 1000 0,.p (.agg x.cells)] (mH p tape watch bs vs M) (fun r H=>∃vs',r=.p (Ay (QA M f x))/\H=mH p tape watch bs vs' (Fc M f x)):=by
 refine sH DI func120 rfl call120 ?_;conv=>whnf
 have hf:f∈M.stack:=by rw[hs];exact q5y _ (q3r.2 rfl)
 have hT:=YF p tape watch bs vs M st f hs hM.sl;have hF:=hM.fr f hf;have hnl:=hM.nl f hf;have hlen:=hF.len;have hpl:(UV bs f.vars).length=f.vars.length:=q3f _;have hat:=fun(j:Nat) (hj:j<f.vars.length)=>TU (bs:=bs) (vs:=f.vars) (i:=j) (v:=f.vars[j]) (q3b hj);have hcl:=fun(j:Nat) (hj:j<f.vars.length)=>SP (bs:=bs) hM.bl (hF.rng _ (q4u hj));repeat' (first|((first|(refine iM fun _=>?_)|refine q3l rfl ?_|refine q8s 0 0 rfl rfl (q4h 0) (q3o _) ?_);conv=>whnf)|(refine CallK.heap [(1000,1000),(1001,1001),(2001,2001),(2002,2002),(2003,2003),(2004,2004),(2500,2500)] 0 (by repeat' (first|exact q4d|refine q3i ?_ ?_|exact q3e _|exact q4q Sub.nils|exact q4q (Sub.tt rfl)|exact q4q (Sub.ff rfl)|exact q4q (Sub.int (by omega)))) (by refine q3h (j:=1000) rfl rfl ?_ ?_;exact CSub.refl _;refine q3h (j:=1001) rfl rfl ?_ ?_;exact CSub.refl _;refine q3h (j:=2001) rfl rfl ?_ ?_;exact CSub.refl _;refine q3h (j:=2002) rfl rfl ?_ ?_;exact CSub.refl _;refine q3h (j:=2003) rfl rfl ?_ ?_;exact CSub.refl _;refine q3h (j:=2004) rfl rfl ?_ ?_;exact CSub.refl _;refine q3h (j:=2500) rfl rfl ?_ ?_;exact CSub.refl _;exact q4b) hT rfl rfl ?_;rintro l' H' ⟨rfl,rfl⟩;conv=>whnf))
 refine LoopK.inv QY (fun j:Nat=>⟨[(0,.ptr 1000 0),(3,.p (.ip x.cells)),(6,.p (fmA bs f)),(24,.p (.sl (UV bs f.vars))),(25,.p (.int .i64 (UV bs f.vars).length)),(26,.p (.int .i64 j))],mH p tape watch bs ((f.vars.take j).map fun v=>M.mem.getD v 0) M⟩) (fun j=>j<=f.vars.length) (fun j=>f.vars.length-j) 0 ?_ (q3o _) ?_
 ·exact IV
 intro j hj;have hvl:((f.vars.take j).map fun v=>M.mem.getD v 0).length=j:=by rw[q3f,q4l];omega
 rcases q4w j f.vars.length with hj2|hj2
 ·have hst:(f.vars.take (j+1)).map (fun v=>M.mem.getD v 0)=(f.vars.take j).map (fun v=>M.mem.getD v 0)++[M.mem.getD f.vars[j] 0]:=by rw[q4y hj2,q4z];rfl
  have hatj:=hat j hj2;have hclj:=hcl j hj2;generalize(f.vars.take j).map (fun v=>M.mem.getD v 0)=W at*
  generalize M.mem.getD f.vars[j] 0=n at*
  generalize bs.getD f.vars[j] 0=b at*
  conv=>whnf
  repeat' (first|((first|refine dA ?_|refine q3l rfl ?_|refine aD ?_|refine bP ?_|refine wI ?_|(refine IdxK.at (k:=j) rfl hatj rfl ?_)|refine YS rfl rfl ?_|refine Dj (kc:=2500) QY rfl rfl rfl rfl rfl hclj ?_|refine ZD (by simp) (by rw[q3f];omega) ?_);conv=>whnf)|(apply bD<;>intro _<;>first|omega|conv=>whnf)|(refine q3l ?_ ?_<;>conv=>whnf))
  all_goals first
   |exact⟨j+1,hj2,by omega,Le.of_eq (by rw[hst];unfold mH mO;simp only[q3m,q4z];rfl)⟩
 ·rw[q4g hj2]at hvl⊢;have hE:=E5 x f.names (f.vars.map fun v=>M.mem.getD v 0);have he:evX (Vq f.names (f.vars.map fun v=>M.mem.getD v 0)) x=QA M f x:=rfl;rw[he]at hE;unfold Fc;generalize f.vars.map (fun v=>M.mem.getD v 0)=W at*
  generalize QA M f x=ev at*
  obtain⟨n,ok⟩:=ev;cases ok;all_goals
   conv=>whnf
   repeat' (first|((first|refine dA ?_|refine q3l rfl ?_|(refine XG hE (.cons (.p (Sub.refl _)) (.cons (.p (Sub.refl _)) (.cons (.hd rfl (by simp)) .nil))) (by rintro _ rfl;rfl) ?_;rintro _ rfl)|refine Br.tt ?_|refine Br.ff ?_);conv=>whnf)|(apply bD<;>intro _<;>first|omega|conv=>whnf))
  all_goals first
   |contradiction
   |exact q5u _ (q3e _) ⟨W,rfl,rfl⟩
def Jo(watch:List Int)(M:Mc)(f:Fm)(t:S):Int×Mc:=bif t.has then(bif (QA M f t.x).2 then((QA M f t.x).1,QJ watch M t.id [(QA M f t.x).1])else((QA M f t.x).1,endM M 4))else(0,QJ watch M t.id [])
theorem LI(p:Pg)(tape watch:List Int)(bs:List Nat)(vs:List Int)(M:Mc)(st:List Fm)(f:Fm)(hs:M.stack=st++[f])(hM:OkM p bs M)(htl:M.trace.length<=10000000)(t:S):SpecH prog 70 [.ptr 1000 0,.p (.agg t.cells)] (mH p tape watch bs vs M) (fun r H=>∃vs',r=.p (.int .i64 (Jo watch M f t).1)/\H=mH p tape watch bs vs' (Jo watch M f t).2):=by
 refine sH DA func70 rfl call70 ?_;conv=>whnf
 have hW:=UX p tape watch bs vs M st f hs hM t.x;have hE0:=XP p tape watch bs vs M t.id [] htl;unfold Jo Fc at*
 generalize QA M f t.x=ev at*
 obtain⟨n,ok⟩:=ev;have hE1:=fun vs'=>XP p tape watch bs vs' M t.id [n] htl;cases hh:t.has
 ·simp only[q4f];repeat' (first|(refine Br.tt ?_;conv=>whnf)|(refine CallK.heap [(1000,1000),(1001,1001),(2001,2001),(2002,2002),(2003,2003),(2004,2004),(2500,2500)] 0 (q3i (q3e _) (q3i (q3e _) (q3i (q4q Sub.nils) q4d))) (by refine q3h (j:=1000) rfl rfl ?_ ?_;exact CSub.refl _;refine q3h (j:=1001) rfl rfl ?_ ?_;exact CSub.refl _;refine q3h (j:=2001) rfl rfl ?_ ?_;exact CSub.refl _;refine q3h (j:=2002) rfl rfl ?_ ?_;exact CSub.refl _;refine q3h (j:=2003) rfl rfl ?_ ?_;exact CSub.refl _;refine q3h (j:=2004) rfl rfl ?_ ?_;exact CSub.refl _;refine q3h (j:=2500) rfl rfl ?_ ?_;exact CSub.refl _;exact q4b) hE0 rfl rfl ?_;rintro l' H' ⟨rfl,rfl⟩;conv=>whnf))
  all_goals first
   |contradiction
   |(exfalso;simp_all;done)
   |exact q5u _ (q3e _) ⟨vs,rfl,rfl⟩
 ·cases ok;all_goals
   simp only[q4v,q4f]at hW⊢;repeat' (first|((first|refine q3l rfl ?_|refine aD ?_|refine bP ?_|refine Br.tt ?_|refine Br.ff ?_);conv=>whnf)|(refine CallK.heap [(1000,1000),(1001,1001),(2001,2001),(2002,2002),(2003,2003),(2004,2004),(2500,2500)] 0 (by repeat' (first|exact q4d|refine q3i ?_ ?_|exact q3e _|exact q4q Sub.nils|exact q4q (Sub.tt rfl)|exact q4q (Sub.ff rfl)|exact q4q (Sub.int (by omega)))) (by refine q3h (j:=1000) rfl rfl ?_ ?_;exact CSub.refl _;refine q3h (j:=1001) rfl rfl ?_ ?_;exact CSub.refl _;refine q3h (j:=2001) rfl rfl ?_ ?_;exact CSub.refl _;refine q3h (j:=2002) rfl rfl ?_ ?_;exact CSub.refl _;refine q3h (j:=2003) rfl rfl ?_ ?_;exact CSub.refl _;refine q3h (j:=2004) rfl rfl ?_ ?_;exact CSub.refl _;refine q3h (j:=2500) rfl rfl ?_ ?_;exact CSub.refl _;exact q4b) hW rfl rfl ?_;rintro l' H' ⟨vs',rfl,rfl⟩;conv=>whnf)|(refine CallK.heap [(1000,1000),(1001,1001),(2001,2001),(2002,2002),(2003,2003),(2004,2004),(2500,2500)] 0 (by repeat' (first|exact q4d|refine q3i ?_ ?_|exact q3e _|exact q4q Sub.nils|exact q4q (Sub.tt rfl)|exact q4q (Sub.ff rfl)|exact q4q (Sub.int (by omega)))) (by refine q3h (j:=1000) rfl rfl ?_ ?_;exact CSub.refl _;refine q3h (j:=1001) rfl rfl ?_ ?_;exact CSub.refl _;refine q3h (j:=2001) rfl rfl ?_ ?_;exact CSub.refl _;refine q3h (j:=2002) rfl rfl ?_ ?_;exact CSub.refl _;refine q3h (j:=2003) rfl rfl ?_ ?_;exact CSub.refl _;refine q3h (j:=2004) rfl rfl ?_ ?_;exact CSub.refl _;refine q3h (j:=2500) rfl rfl ?_ ?_;exact CSub.refl _;exact q4b) (hE1 vs') rfl rfl ?_;rintro l' H' ⟨rfl,rfl⟩;conv=>whnf))
  all_goals first
   |contradiction
   |(exfalso;simp_all;done)
   |exact q5u _ (q3e _) ⟨vs',rfl,rfl⟩
inductive RwL(k:Nat)(es:List AV):LV->LV->Prop
 |keep {l:LV} (hf:l.free k=true):RwL k es l l
 |row {n:Nat} (hn:n=es.length):RwL k es (.hd k 0 n) (.p (.sl es))
inductive RwC(k:Nat)(es:List AV):List LV->List LV->Prop
 |nil:RwC k es [] []
 |cons {l l':LV} {r r':List LV} (h:RwL k es l l') (hr:RwC k es r r'):RwC k es (l::r) (l'::r')
theorem RwC.get{k:Nat}{es:List AV}{ls ls':List LV}(h:RwC k es ls ls'):ls'.length=ls.length/\∀(j:Nat)(l':LV),ls'[j]?=some l'->∃l,ls[j]?=some l/\RwL k es l l':=by
 induction h with
 |nil=>exact⟨rfl,by simp⟩
 | cons h hr ih=>
   refine⟨by simp[ih.1],fun j l' hj=>?_⟩;cases j with
   |zero=>simp at hj;subst hj;exact⟨_,rfl,h⟩
   |succ j=>exact ih.2 j l' (by simpa using hj)
inductive RwS(k:Nat)(es:List AV):List (Nat×LV)->List (Nat×LV)->Prop
 |nil:RwS k es [] []
 |cons {i:Nat} {l l':LV} {r r':List (Nat×LV)} (h:RwL k es l l') (hr:RwS k es r r'):RwS k es ((i,l)::r) ((i,l')::r')
theorem RwS.get{k:Nat}{es:List AV}{sl sl':List (Nat×LV)}(h:RwS k es sl sl')(i:Nat):RwL k es (getS sl i) (getS sl' i):=by
 induction h with
 |nil=>exact .keep rfl
 | @cons j l l' r r' h hr ih=>
   simp only[getS];cases j==i
   ·exact ih
   ·exact h
inductive RwH(k:Nat)(es:List AV):Heap->Heap->Prop
 |nil:RwH k es [] []
 |drop {e:TypeId} {sz:Nat} {es':List AV} {H H':Heap} (h:RwH k es H H'):RwH k es ((k,.own e sz es')::H) H'
 |own {j:Nat} {e:TypeId} {sz:Nat} {es':List AV} {H H':Heap} (hj:j≠k) (h:RwH k es H H'):RwH k es ((j,.own e sz es')::H) ((j,.own e sz es')::H')
 |ext {j:Nat} {d:XC} {H H':Heap} (hj:j≠k) (h:RwH k es H H'):RwH k es ((j,.ext d)::H) ((j,.ext d)::H')
 |obj {j:Nat} {e:TypeId} {cs cs':List LV} {H H':Heap} (hj:j≠k) (hc:RwC k es cs cs') (h:RwH k es H H'):RwH k es ((j,.obj e cs)::H) ((j,.obj e cs')::H')
inductive CRw(k:Nat)(es:List AV):Chunk->Chunk->Prop
 |own {e:TypeId} {sz:Nat} {es':List AV}:CRw k es (.own e sz es') (.own e sz es')
 |ext {d:XC}:CRw k es (.ext d) (.ext d)
 |obj {e:TypeId} {cs cs':List LV} (hc:RwC k es cs cs'):CRw k es (.obj e cs) (.obj e cs')
theorem RwH.get{k:Nat}{es:List AV}{H H':Heap}(h:RwH k es H H'):(H'.map (·.1)).Sublist (H.map (·.1))/\∀j c',(j,c')∈H'->j≠k/\∃c,(j,c)∈H/\CRw k es c c':=by
 induction h with
 |nil=>exact⟨.slnil,by simp⟩
 |drop h ih=>exact⟨ih.1.cons _,fun j c' hj=>let ⟨h1,c,h2,h3⟩:=ih.2 j c' hj;⟨h1,c,q3n _ h2,h3⟩⟩
 | own hj h ih=>
   refine⟨ih.1.cons_cons _,fun j c' hm=>?_⟩;rcases q3t.1 hm with he|hm
   ·cases he;exact⟨hj,_,q3d,.own⟩
   ·obtain⟨h1,c,h2,h3⟩:=ih.2 j c' hm;exact⟨h1,c,q3n _ h2,h3⟩
 | ext hj h ih=>
   refine⟨ih.1.cons_cons _,fun j c' hm=>?_⟩;rcases q3t.1 hm with he|hm
   ·cases he;exact⟨hj,_,q3d,.ext⟩
   ·obtain⟨h1,c,h2,h3⟩:=ih.2 j c' hm;exact⟨h1,c,q3n _ h2,h3⟩
 | obj hj hc h ih=>
   refine⟨ih.1.cons_cons _,fun j c' hm=>?_⟩;rcases q3t.1 hm with he|hm
   ·cases he;exact⟨hj,_,q3d,.obj hc⟩
   ·obtain⟨h1,c,h2,h3⟩:=ih.2 j c' hm;exact⟨h1,c,q3n _ h2,h3⟩
theorem SX{sl sl':List (Nat×LV)}{H H':Heap}{k:Nat}{e:TypeId}{sz:Nat}{es:List AV}(hg:getH H k=some (.own e sz es))(hs:RwS k es sl sl')(hh:RwH k es H H'):Le N ⟨sl,H⟩ ⟨sl',H'⟩:=fun σ β a w hr=>by
 obtain⟨hsub,hget⟩:=hh.get;have hnd:=hsub.nodup hr.heap.nodup;have hlab:∀j∈H'.map (·.1),j∈H.map (·.1):=fun j hj=>hsub.subset hj;rcases VD.1 (hr.heap.chunks k _ (QG hg))with⟨hb0,rfl⟩|⟨i,vs,hi,hisz,hb,hn,hle',hmax,hE⟩
 ·have hl:∀{l l':LV}{v:Value},RwL k [] l l'->RepL σ β l v->RepL σ β l' v:=fun {l l' v} hw hv=>by
   cases hw with
   |keep=>exact hv
   | row hn=>
     rcases hv.hdI with⟨_,_,_,he⟩|⟨i,_,hk,_⟩
     ·rw[he];exact .p .nilsl
     ·rw[hb0]at hk;cases hk
  refine⟨σ,β,⟨hr.size,hr.defers,fun j=>hl (hs.get j) (hr.slots j),⟨hr.heap.mem,fun j c' hj=>?_,hnd,fun j hj=>hr.heap.apart j (hlab j hj),fun j hj j' hj'=>hr.heap.inj j (hlab j hj) j' (hlab j' hj')⟩⟩,Mem.le_refl σ,Frm.refl _ _,fun _ h0 h1=>absurd h0 h1,fun b ⟨j,hj,r⟩=>.inl ⟨j,hlab j hj,r⟩,fun _ _ _=>rfl⟩;obtain⟨_,c,h2,h3⟩:=hget j c' hj;have hold:=hr.heap.chunks j c h2;cases h3 with
  |own=>exact hold
  |ext=>exact hold
  | obj hc=>
    obtain⟨i',vs',q1,q2,q3,q4⟩:=hold;obtain⟨q5,q6⟩:=hc.get;refine⟨i',vs',q1,q2,by omega,fun m l' hm=>?_⟩;obtain⟨l,q7,q8⟩:=q6 m l' hm;obtain⟨u,q9,q10⟩:=q4 m l q7;exact⟨u,q9,hl q8 q10⟩
 ·have hl:∀τ:Mem,σ.le τ->τ i.blk=some vs->∀{l l':LV}{v:Value},RwL k es l l'->RepL σ β l v->RepL τ β l' v:=fun τ hle hτ {l l' v} hw hv=>by
   cases hw with
   |keep=>exact hv.mono hle
   | row hn0=>
     rcases hv.hdI with⟨hk,_⟩|⟨i',oo,hk,hl,ho,rfl⟩
     ·rw[hi]at hk;cases hk
     ·rw[hi]at hk;cases hk;have hoo:oo=0:=by
       rcases ho with ho|ho
       ·simpa using ho
       ·omega
      subst hoo hn0;obtain⟨u,hu⟩ : ∃u:Nat->Nat->Value,∀(m:Nat)(x:AV)(j:Nat)(c:AV),es[m]?=some x->x.cells[j]?=some c->vs[m*sz+j]?=some (u m j)/\Rep σ c (u m j):=by
       refine⟨fun m j=>(vs[m*sz+j]?).getD undef,fun m x j c hx hj=>?_⟩;obtain⟨v,h1,h2⟩:=hE.rep m x j c hx hj;rw[q4e]at h1;split at h1
       ·have h1':vs[m*sz+j]?=some v:=by simpa using h1
        exact⟨by simp[h1'],by simpa[h1']using h2⟩
       ·cases h1
      exact .p (.sl es i.blk 0 _ sz vs u hτ (by omega) (by omega) hE.size (fun m x j c hx hj=>by simpa using(hu m x j c hx hj).1) fun m x j c hx hj=>(hu m x j c hx hj).2.mono hle)
  refine hr.lay hi (XQ hg) hb (fun τ hle hτ j v hv=>hl τ hle hτ (hs.get j) hv) (fun τ hle hτ j c' hj=>?_) hnd;obtain⟨h1,c,h2,h3⟩:=hget j c' hj;refine⟨h1,c,h2,fun hold=>?_⟩;cases h3 with
  |own=>exact hold.mono hle fun _ _ _ _=>rfl
  |ext=>exact hold.mono hle fun _ _ _ _=>rfl
  | obj hc=>
    obtain⟨i',vs',q1,q2,q3,q4⟩:=hold;obtain⟨q5,q6⟩:=hc.get;refine⟨i',vs',q1,q2,by omega,fun m l' hm=>?_⟩;obtain⟨l,q7,q8⟩:=q6 m l' hm;obtain⟨u,q9,q10⟩:=q4 m l q7;exact⟨u,q9,hl τ hle hτ q8 q10⟩
def KV(p:Pg)(k:Nat)(f:Pr)(ps:List Nat)(call:Int)(M:Mc):Mc:={M with stack:=M.stack++[⟨k,varsS p f,List.range p.globals.length++ps++List.range' M.mem.length f.vars.length,call⟩],mem:=M.mem++List.replicate f.vars.length 0}
def Vh(p:Pg)(k:Nat)(f:Pr):Int:=if QL p.procs k<QL p.procs k+cntL f.body then(QL p.procs k:Int)+1 else -1
def mHq(p:Pg)(tape watch:List Int)(bs:List Nat)(vs:List Int)(M:Mc)(ps:List AV):Heap:=mH p tape watch bs vs M++[(2005,.own 130 1 ps)]
def opC(p:Pg)(tape watch:List Int)(bs:List Nat)(vs:List Int)(M:Mc)(ps:List Nat)(nb:List Nat):Heap:=[(1000,mO p tape watch p.globals.length M.stack.length vs.length M),(1001,.own 130 1 (UV bs (List.range p.globals.length))),(2001,.own 174 1 (M.stack.map (fmA bs))),(2002,.own 2 1 (vs.map (.int .i64))),
 (2003,.own 2 1 (M.out.map (.int .i64))),(2004,.own 78 2 (M.trace.map evA)),(2500,.ext (.cells 2 (ZH bs M.mem++nb.map fun b=>(b,.int .i64 0)))),(2005,.own 130 1 (UV bs ps))]
def opR(p:Pg)(bs ps nb:List Nat):List AV:=UV bs (List.range p.globals.length)++UV bs ps++nb.map cpA
def opS(p:Pg)(tape watch:List Int)(bs:List Nat)(vs:List Int)(M:Mc)(k:Nat)(f:Pr)(ps:List Nat)(call:Int)(j:Nat)(nb:List Nat):St:=⟨[(0,.ptr 1000 0),(1,.p (.int .i64 k)),(10,.ptr 0 0),(52,.p (.int .i64 (f.vars.map AV.str).length)),(53,.p (.int .i64 j))],
 (1,.own 130 1 (opR p bs ps nb))::(0,.obj 176 [.p (.int .i64 k),.p (eStrs (varsS p f)),.hd 1 0 (p.globals.length+ps.length+j),.p (.int .i64 call)])::opC p tape watch bs vs M ps nb⟩
def opF(p:Pg)(tape watch:List Int)(bs:List Nat)(vs:List Int)(M:Mc)(k:Nat)(f:Pr)(ps:List Nat)(call:Int)(j:Nat)(nb:List Nat):St:=⟨[(0,.ptr 1000 0),(1,.p (.int .i64 k)),(10,.p (.ip [.int .i64 k,eStrs (varsS p f),.sl (opR p bs ps nb),.int .i64 call])),(52,.p (.int .i64 (f.vars.map AV.str).length)),(53,.p (.int .i64 j))],opC p tape watch bs vs M ps nb⟩
theorem Ta{p:Pg}{bs:List Nat}:(opR p bs ps nb).length=p.globals.length+ps.length+nb.length:=by
 unfold opR UV;simp only[q3m,q3f,q7q]
theorem IN{p:Pg}{bs:List Nat}{M:Mc}{k:Nat}{f:Pr}{call:Int}{j:Nat}(hj:j=nb.length):Le N (opS p tape watch bs vs M k f ps call j nb) (opF p tape watch bs vs M k f ps call j nb):=by
 have h1:Le N (opS p tape watch bs vs M k f ps call j nb) ⟨[(0,.ptr 1000 0),(1,.p (.int .i64 k)),(10,.ptr 0 0),(52,.p (.int .i64 (f.vars.map AV.str).length)),(53,.p (.int .i64 j))],
   (0,.obj 176 ([.int .i64 k,eStrs (varsS p f),.sl (opR p bs ps nb),.int .i64 call].map .p))::opC p tape watch bs vs M ps nb⟩:=
  SX (k:=1) rfl (.cons (.keep rfl) (.cons (.keep rfl) (.cons (.keep rfl) (.cons (.keep rfl) (.cons (.keep rfl) .nil)))))
   (.drop (.obj (by decide) (.cons (.keep rfl) (.cons (.keep rfl) (.cons (.row (by rw[Ta,hj])) (.cons (.keep rfl) .nil))))
     (.obj (by decide) (.cons (.keep rfl) (.cons (.keep rfl) (.cons (.keep rfl) (.cons (.keep rfl) (.cons (.keep rfl) (.cons (.keep rfl) (.cons (.keep rfl) (.cons (.keep rfl) (.cons (.keep rfl) (.cons (.keep rfl) (.cons (.keep rfl) .nil)))))))))))
       (.own (by decide) (.own (by decide) (.own (by decide) (.own (by decide) (.own (by decide) (.ext (by decide) (.own (by decide) .nil))))))))))
 obtain⟨s',rfl,h2⟩:=Le.fz (N:=N) (s:=⟨[(0,.ptr 1000 0),(1,.p (.int .i64 k)),(10,.ptr 0 0),(52,.p (.int .i64 (f.vars.map AV.str).length)),(53,.p (.int .i64 j))],
   (0,.obj 176 ([.int .i64 k,eStrs (varsS p f),.sl (opR p bs ps nb),.int .i64 call].map .p))::opC p tape watch bs vs M ps nb⟩) (k:=0) (e:=176) (cs:=[.int .i64 k,eStrs (varsS p f),.sl (opR p bs ps nb),.int .i64 call]) rfl
  (K:=fun s=>s=opF p tape watch bs vs M k f ps call j nb) (by
    show _=_;rfl)
 exact h1.trans h2
theorem NM{bs vs:List Nat}(h:∀v∈vs,v<bs.length):UV (bs++nb) vs=UV bs vs:=by
 unfold UV;refine List.map_congr_left fun v hv=>?_;rw[q3p,q3p,q5v (h v hv)]
theorem Nq{bs:List Nat}:UV (bs++nb) (List.range' bs.length nb.length)=nb.map cpA:=by
 unfold UV;refine q8d fun i=>?_;rw[q4x,q4x];rcases q4w i nb.length with h|h
 ·rw[List.getElem?_range' h,q3b h];simp only[q7f,Nat.one_mul];rw[q3p,q5x (by omega),Nat.add_sub_cancel_left,q3b h];rfl
 ·rw[q5w (by simpa using h),q5w h];rfl
theorem RB{bs:List Nat}{f:Fm}(h:∀v∈f.vars,v<bs.length):fmA (bs++nb) f=fmA bs f:=by
 unfold fmA;rw[NM h]
theorem Gr{bs:List Nat}{mem:List Int}(h:bs.length=mem.length):ZH (bs++nb) (mem++List.replicate nb.length 0)=ZH bs mem++nb.map fun b=>(b,.int .i64 0):=by
 unfold ZH;rw[q4z,List.zip_append (by rw[q3f];exact h),q6p];congr 1;clear h;induction nb with
 |nil=>rfl
 |cons b r ih=>rw[q4m,List.replicate_succ,List.zip_cons_cons,q4t,ih]
theorem Ti{p:Pg}{bs:List Nat}{M:Mc}{k:Nat}{f:Pr}{call:Int}(hM:OkM p bs M)(hpr:∀v∈ps,v<M.mem.length)(hn:nb.length=f.vars.length):
  mHq p tape watch (bs++nb) vs (KV p k f ps call M) (UV (bs++nb) ps)=[(1000,mO p tape watch p.globals.length (M.stack.length+1) vs.length M),(1001,.own 130 1 (UV bs (List.range p.globals.length))),(2001,.own 174 1 (M.stack.map (fmA bs)++[.ip [.int .i64 k,eStrs (varsS p f),.sl (opR p bs ps nb),.int .i64 call]])),(2002,.own 2 1 (vs.map (.int .i64))),
 (2003,.own 2 1 (M.out.map (.int .i64))),(2004,.own 78 2 (M.trace.map evA)),(2500,.ext (.cells 2 (ZH bs M.mem++nb.map fun b=>(b,.int .i64 0)))),(2005,.own 130 1 (UV bs ps))]:=by
 have e1:=NM (bs:=bs) (nb:=nb) (vs:=List.range p.globals.length) fun v hv=>by
  have:=q6r.1 hv;have:=hM.gl;have:=hM.bl;omega
 have e2:=NM (bs:=bs) (nb:=nb) (vs:=ps) fun v hv=>by rw[hM.bl];exact hpr v hv
 have e3:M.stack.map (fmA (bs++nb))=M.stack.map (fmA bs):=List.map_congr_left fun f hf=>RB fun v hv=>by rw[hM.bl];exact(hM.fr f hf).rng v hv
 have e4:=Gr (nb:=nb) hM.bl;have e5:fmA (bs++nb) ⟨k,varsS p f,List.range p.globals.length++ps++List.range' M.mem.length f.vars.length,call⟩=.ip [.int .i64 k,eStrs (varsS p f),.sl (opR p bs ps nb),.int .i64 call]:=by
  unfold fmA opR;have:UV (bs++nb) (List.range p.globals.length++ps++List.range' M.mem.length f.vars.length)=UV bs (List.range p.globals.length)++UV bs ps++nb.map cpA:=by
   have h1:∀a b:List Nat,UV (bs++nb) (a++b)=UV (bs++nb) a++UV (bs++nb) b:=fun a b=>q4z;rw[h1,h1,e1,e2,<-hn,<-hM.bl,Nq]
  rw[this]
 unfold mHq mH KV;simp only[q4z,q4t,q8a,q3m,q4m,q6m];rw[e1,e2,e3,e5,<-hn,e4];rfl
theorem GC(p:Pg)(tape watch:List Int)(bs:List Nat)(vs:List Int)(M:Mc)(hM:OkM p bs M)(hsl:M.stack.length<=500)(k:Nat)(f:Pr)(hk:p.procs[k]?=some f)(hV:SpecP prog 117 [.agg p.cells,.str f.name] (fun r=>r=eStrs (varsS p f)))(hgl:p.globals.length<=1000)(hvl:f.vars.length<=1000)(ps:List Nat)(hps:ps.length<=1000)(hpr:∀v∈ps,v<M.mem.length)(call:Int):SpecH prog 68 [.ptr 1000 0,.p (.int .i64 k),.hd 2005 0 ps.length,.p (.int .i64 call)] (mHq p tape watch bs vs M (UV bs ps)) (fun r H=>∃nb,r=.p (.int .i64 (Vh p k f))/\H=mHq p tape watch (bs++nb) vs (KV p k f ps call M) (UV (bs++nb) ps)/\nb.length=f.vars.length):=by
 refine sH PF func68 rfl call68 ?_;conv=>whnf
 have hsp:(sheetOf p).p=p:=(QU p).1;have hg1:(p.procs.map fun f=>AV.agg f.cells)[k]?=some (.agg f.cells):=by rw[q4x,hk];rfl
 obtain⟨_,_,_,hlen,hsh⟩:=QU p;obtain⟨s1,s2,s3,s4⟩:=hsh k f hk;have hFi:=GM (sheetOf p) k (QL p.procs k) (QL p.procs k+cntL f.body) s1 s2;have hrl:(UV bs (List.range p.globals.length)).length=p.globals.length:=by unfold UV;rw[q3f,q7q]
 have hpl:(UV bs ps).length=ps.length:=q3f _;repeat' ((first|(refine iM fun _=>?_)|refine dA ?_|refine q3l rfl ?_|refine aD ?_|(refine IdxK.at (k:=k) rfl hg1 rfl ?_)|refine cP hV ?_|refine q6g (es:=[]) rfl hrl.symm (by show(0+p.globals.length)*8<=140737488355328;omega) (by show 0+p.globals.length<=9223372036854775807;omega) (fun x hx=>by obtain⟨y,_,rfl⟩:=q3s.1 hx;exact⟨rfl,rfl⟩) ?_|refine q6g (es:=[]++UV bs (List.range p.globals.length)) (by rw[q7w,hrl];omega) hpl.symm (by show(0+p.globals.length+ps.length)*8<=140737488355328;omega) (by show 0+p.globals.length+ps.length<=9223372036854775807;omega) (fun x hx=>by obtain⟨y,_,rfl⟩:=q3s.1 hx;exact⟨rfl,rfl⟩) ?_);conv=>whnf)
 all_goals
  have hfv:(f.vars.map AV.str).length=f.vars.length:=q3f _;have hML:(M.stack.map (fmA bs)).length=M.stack.length:=q3f _;refine LoopK.inv QY (fun x:Nat×List Nat×Bool=>bif x.2.2 then opF p tape watch bs vs M k f ps call x.1 x.2.1 else opS p tape watch bs vs M k f ps call x.1 x.2.1) (fun x=>x.1<=f.vars.length/\x.2.1.length=x.1/\(x.2.2=true↔x.1=f.vars.length)) (fun x=>f.vars.length-x.1) (0,[],decide (0=f.vars.length)) ?_ ⟨q3o _,rfl,decide_eq_true_iff⟩ ?_
  ·have hs0:Le Tryz.f68.ntmps (opS p tape watch bs vs M k f ps call 0 []) (bif decide (0=f.vars.length)then opF p tape watch bs vs M k f ps call 0 []else opS p tape watch bs vs M k f ps call 0 []):=by
    cases decide (0=f.vars.length)
    ·exact Le.refl _
    ·exact IN rfl
   refine Le.trans (Le.of_eq ?_) hs0;unfold opS opR opC;simp only[q8a,q5c,q7w,q5n,q7m];rfl
  rintro⟨j,nb,fz⟩ ⟨h1,h2,h3⟩;simp only at h1 h2 h3⊢;cases fz with
  | false=>
    have hj:j<f.vars.length:=by
     rcases q4w j f.vars.length with h|h
     ·exact h
     ·have:=h3.2 (by omega);cases this
    have hRl:=Ta (p:=p) (bs:=bs) (ps:=ps) (nb:=nb);have hRn:∀b,opR p bs ps (nb++[b])=opR p bs ps nb++[cpA b]:=fun b=>by unfold opR;rw[q4z,q4c,q4c,q4c];rfl
    have hCn:∀b,opC p tape watch bs vs M ps (nb++[b])=[(1000,mO p tape watch p.globals.length M.stack.length vs.length M),(1001,.own 130 1 (UV bs (List.range p.globals.length))),(2001,.own 174 1 (M.stack.map (fmA bs))),(2002,.own 2 1 (vs.map (.int .i64))),(2003,.own 2 1 (M.out.map (.int .i64))),(2004,.own 78 2 (M.trace.map evA)),(2500,.ext (.cells 2 ((ZH bs M.mem++nb.map fun b=>(b,.int .i64 0))++[(b,.int .i64 0)]))),(2005,.own 130 1 (UV bs ps))]:=fun b=>by unfold opC;rw[q4z,<-q4c];rfl
    have fin:∀b,∃x:Nat×List Nat×Bool,(x.1<=f.vars.length/\x.2.1.length=x.1/\(x.2.2=true↔x.1=f.vars.length))/\f.vars.length-x.1<f.vars.length-j/\Le Tryz.f68.ntmps (opS p tape watch bs vs M k f ps call (j+1) (nb++[b])) (bif x.2.2 then opF p tape watch bs vs M k f ps call x.1 x.2.1 else opS p tape watch bs vs M k f ps call x.1 x.2.1):=fun b=>by
     rcases q4w (j+1) f.vars.length with h|h
     ·exact⟨(j+1,nb++[b],false),⟨by simp only;omega,by simp[h2],⟨fun h=>(by cases h),fun h'=>by simp only at h';omega⟩⟩,by simp only;omega,Le.refl _⟩
     ·exact⟨(j+1,nb++[b],true),⟨by simp only;omega,by simp[h2],⟨fun _=>by simp only;omega,fun _=>rfl⟩⟩,by simp only;omega,IN (by simp[h2])⟩
    simp only[q4f];unfold opS at fin⊢;simp only[hRn,hCn]at fin;generalize opR p bs ps nb=R at*
    conv=>whnf
    repeat' (first|((first|refine q3l rfl ?_|refine aD ?_|refine bP ?_|refine wI ?_|refine q6g (es:=R) (n:=p.globals.length+ps.length+j) (by omega) rfl (by show(p.globals.length+ps.length+j+1)*8<=140737488355328;omega) (by show p.globals.length+ps.length+j+1<=9223372036854775807;omega) (fun x hx=>by rcases q3r.1 hx with rfl;exact⟨rfl,rfl⟩) ?_);conv=>whnf)|(apply bD<;>intro _<;>first|omega|conv=>whnf)|(refine MT QY 2 2500 ?_;conv=>whnf)|(refine⟨⟨rfl,rfl⟩,fun b hb=>?_⟩;conv=>whnf))
    all_goals first
     | (obtain⟨x,hx,hμ,hle⟩:=fin b
        exact⟨x,hx,hμ,Le.trans (Le.of_eq rfl) hle⟩)
  | true=>
    obtain rfl:j=f.vars.length:=h3.1 rfl;have hoh:=Ti (tape:=tape) (watch:=watch) (vs:=vs) (k:=k) (f:=f) (call:=call) (nb:=nb) hM hpr h2;simp only[q4v];unfold opF opC;generalize opR p bs ps nb=R at*
    conv=>whnf
    repeat' (first|((first|refine q3l rfl ?_|refine aD ?_|refine bP ?_|refine q6g (n:=M.stack.length) (by omega) rfl (by show(M.stack.length+1)*8<=140737488355328;omega) (by show M.stack.length+1<=9223372036854775807;omega) (fun x hx=>by rcases q3r.1 hx with rfl;exact⟨rfl,rfl⟩) ?_|refine cP hFi ?_);conv=>whnf)|(apply bD<;>intro _<;>first|omega|conv=>whnf))
    all_goals first
     |exact q5u _ (q3e _) ⟨nb,rfl,hoh.symm,h2⟩
end Go.Ab
