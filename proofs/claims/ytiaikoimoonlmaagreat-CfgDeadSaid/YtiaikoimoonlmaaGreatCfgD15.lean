/- The library's contracts at this seat's program, in plain words (printed by the kit's lay-plain.mjs). Conditions: none. -/
import Derived.Shelf.Sort.Plain
import Derived.Shelf.Slices.In.SortNone
import Derived.Shelf.Slices.CompactS
import Derived.Ground.Names2Prog
import Derived.Shelf.Slices.SearchI
import Derived.Shelf.Slices.Empties
import Derived.Shelf.Spec.SlicesInsert
import Derived.Shelf.Spec.SlicesInsertGrow
import Derived.Shelf.SlSortCmp.NoneTotal
import Derived.Ground.SlsfProg
import Derived.Test.YtiaikoimoonlmaaGreatProg
import Derived.Test.YtiaikoimoonlmaaGreatCfgD12
import Derived.Test.YtiaikoimoonlmaaGreatCfgD14
set_option linter.unusedSimpArgs false
set_option linter.unusedVariables false
set_option maxRecDepth 100000
set_option maxHeartbeats 16000000
open List (append_nil drop_eq_getElem_cons drop_eq_nil_of_le length_append length_cons length_map length_set mem_cons_self take_of_length_le)
open Nat (zero_le)
namespace Go.Proofs
open Go.Shelf
def Tryz.laysF_ren:Go.Shelf.Ren:=⟨fun|6=>291|15=>228|14=>329|28=>289|29=>290|20=>351|21=>352|22=>353|23=>354|24=>355|25=>356|26=>357|27=>358|46=>372|47=>325|48=>326|49=>373|50=>374|57=>376|n=>n,fun|22=>56|24=>139|25=>297|3=>3|39=>254|0=>0|53=>293|55=>295|4=>4|46=>286|45=>285|50=>128|5=>5|9=>9|66=>318|70=>322|76=>340|77=>74|n=>n,fun|n=>n⟩
theorem q4o:Go.Proofs.SlLaysF0.n6 Tryz.prog Tryz.laysF_ren:={
 mixed:=by kernel_rfl
 f6:=⟨Tryz.f291.name,by decide,Tryz.func291.trans (congrArg some (by kernel_rfl))⟩
 f14:=⟨Tryz.f329.name,by decide,Tryz.func329.trans (congrArg some (by kernel_rfl))⟩
 f15:=Tryz.func228.trans (congrArg some (by kernel_rfl))
 f20:=⟨Tryz.f351.name,by decide,Tryz.func351.trans (congrArg some (by kernel_rfl))⟩
 f21:=⟨Tryz.f352.name,by decide,Tryz.func352.trans (congrArg some (by kernel_rfl))⟩
 f22:=⟨Tryz.f353.name,by decide,Tryz.func353.trans (congrArg some (by kernel_rfl))⟩
 f23:=⟨Tryz.f354.name,by decide,Tryz.func354.trans (congrArg some (by kernel_rfl))⟩
 f24:=⟨Tryz.f355.name,by decide,Tryz.func355.trans (congrArg some (by kernel_rfl))⟩
 f25:=⟨Tryz.f356.name,by decide,Tryz.func356.trans (congrArg some (by kernel_rfl))⟩
 f26:=⟨Tryz.f357.name,by decide,Tryz.func357.trans (congrArg some (by kernel_rfl))⟩
 f27:=⟨Tryz.f358.name,by decide,Tryz.func358.trans (congrArg some (by kernel_rfl))⟩
 f28:=Tryz.func289.trans (congrArg some (by kernel_rfl))
 f29:=Tryz.func290.trans (congrArg some (by kernel_rfl))
 f46:=⟨Tryz.f372.name,by decide,Tryz.func372.trans (congrArg some (by kernel_rfl))⟩
 f47:=Tryz.func325.trans (congrArg some (by kernel_rfl))
 f48:=Tryz.func326.trans (congrArg some (by kernel_rfl))
 f49:=⟨Tryz.f373.name,by decide,Tryz.func373.trans (congrArg some (by kernel_rfl))⟩
 f50:=⟨Tryz.f374.name,by decide,Tryz.func374.trans (congrArg some (by kernel_rfl))⟩
 f57:=⟨Tryz.f376.name,by decide,Tryz.func376.trans (congrArg some (by kernel_rfl))⟩
 t0:=Tryz.underlying0
 a0:=Tryz.isAgg0
 z0:=Tryz.sizeOf0
 v0:=Tryz.zeroValue0
 t3:=Tryz.underlying3
 a3:=Tryz.isAgg3
 z3:=Tryz.sizeOf3
 v3:=Tryz.zeroValue3
 t4:=Tryz.underlying4
 a4:=Tryz.isAgg4
 z4:=Tryz.sizeOf4
 v4:=Tryz.zeroValue4
 t5:=Tryz.underlying5
 a5:=Tryz.isAgg5
 z5:=Tryz.sizeOf5
 v5:=Tryz.zeroValue5
 t9:=Tryz.underlying9
 a9:=Tryz.isAgg9
 z9:=Tryz.sizeOf9
 v9:=Tryz.zeroValue9
 t22:=Tryz.underlying56
 a22:=Tryz.isAgg56
 z22:=Tryz.sizeOf56
 v22:=Tryz.zeroValue56
 t25:=Tryz.underlying297
 a25:=Tryz.isAgg297
 z25:=Tryz.sizeOf297
 v25:=Tryz.zeroValue297
 t39:=Tryz.underlying254
 a39:=Tryz.isAgg254
 z39:=Tryz.sizeOf254
 v39:=Tryz.zeroValue254
 t45:=Tryz.underlying285
 a45:=Tryz.isAgg285
 z45:=Tryz.sizeOf285
 v45:=Tryz.zeroValue285
 t46:=Tryz.underlying286
 a46:=Tryz.isAgg286
 z46:=Tryz.sizeOf286
 v46:=Tryz.zeroValue286
 t50:=Tryz.underlying128
 a50:=Tryz.isAgg128
 z50:=Tryz.sizeOf128
 v50:=Tryz.zeroValue128
 t53:=Tryz.underlying293
 a53:=Tryz.isAgg293
 z53:=Tryz.sizeOf293
 v53:=Tryz.zeroValue293
 t55:=Tryz.underlying295
 a55:=Tryz.isAgg295
 z55:=Tryz.sizeOf295
 v55:=Tryz.zeroValue295
 t66:=Tryz.underlying318
 a66:=Tryz.isAgg318
 z66:=Tryz.sizeOf318
 v66:=Tryz.zeroValue318
 t70:=Tryz.underlying322
 a70:=Tryz.isAgg322
 z70:=Tryz.sizeOf322
 v70:=Tryz.zeroValue322
 t76:=Tryz.underlying340
 a76:=Tryz.isAgg340
 z76:=Tryz.sizeOf340
 v76:=Tryz.zeroValue340
 t77:=Tryz.underlying74
 a77:=Tryz.isAgg74
 z77:=Tryz.sizeOf74
 v77:=Tryz.zeroValue74 }
end Go.Proofs
namespace Go.Ab
open Go.Proofs Go.Sort Go.RowKit Go.Lib
theorem Frm.grown {w w':World} (h:Frm (fun _=>False) w w') : ∃ q os,w'=grow (w.drewN q) os:=by
 obtain ⟨hh,ht,hd,ho,hp⟩:=w;obtain ⟨hh',ht',hd',ho',hp'⟩:=w';obtain ⟨h1,h2,h3,h4,h5,h6⟩:=h;simp only at h1 h2 h3 h4 h5 h6;refine ⟨hd'-hd,hh'.extract hh.size hh'.size,?_⟩;subst h1 h2 h3;have e:hd+(hd'-hd)=hd':=by omega
 show World.mk hh' ht' hd' ho' hp'=World.mk (hh++hh'.extract hh.size hh'.size) ht' (hd+(hd'-hd)) ho' hp';rw [e];congr 1;apply Array.ext
 ·simp;omega
 ·intro i hi1 hi2;by_cases hi:i<hh.size
  ·have:=h6 i hi id;rw [Array.getElem?_eq_getElem hi1,Array.getElem?_eq_getElem hi] at this;rw [Array.getElem_append_left hi];exact Option.some.inj this
  ·rw [Array.getElem_append_right (by omega)];simp;congr 1;omega
def HI (a b:Step):Bool:=decide (x2w a b<0)
theorem w0f (a b c:Int):orI [a,b,c]<0↔a<0∨a=0∧(b<0∨b=0∧c<0):=by
 by_cases h1:a=0<;>by_cases h2:b=0<;>by_cases h3:c=0<;>simp [orI,h1,h2,h3]
theorem HG (x y:Int):x3b x y<0↔x<y:=by
 unfold x3b;split
 ·omega
 ·split<;>omega
theorem UN (x y:Int):x3b x y=0↔x=y:=by
 unfold x3b;split
 ·omega
 ·split<;>omega
theorem x3l (a b:Step):x2w a b<0↔XO a.src<XO b.src∨XO a.src=XO b.src∧(XO a.dst<XO b.dst∨XO a.dst=XO b.dst∧a.kind<b.kind):=by
 unfold x2w;rw [w0f,HG,HG,HG,UN,UN]
def x6m (s:Step):Prop:=s.src≠9223372036854775807∧s.dst≠9223372036854775807
abbrev OSt:={s:Step // x6m s}
instance:Inhabited OSt:=⟨⟨⟨0,0,0⟩,by constructor<;>decide⟩⟩
def cfO (a b:OSt):Int:=x2w a.1 b.1
theorem BL {x y:Int} (hx:x≠9223372036854775807) (hy:y≠9223372036854775807) (h:XO x=XO y):x=y:=by
 unfold XO at h;split at h<;>split at h<;>omega
theorem z8k:SWO (ltOf cfO):=by
 refine ⟨fun x => ?_,fun x y z h1 h2 => ?_,fun x y z h1 h2 => ?_⟩;all_goals
  unfold ltOf cfO at *
  simp only [decide_eq_true_eq,decide_eq_false_iff_not,x3l] at *
  omega
theorem z9w (x y:OSt) (h1:ltOf cfO x y=false) (h2:ltOf cfO y x=false):x=y:=by
 unfold ltOf cfO at *
 simp only [decide_eq_false_iff_not,x3l] at h1 h2;obtain ⟨⟨a,b,c⟩,h3,h4⟩:=x;obtain ⟨⟨d,e,f⟩,h5,h6⟩:=y;simp only at *
 have e1:=BL (x:=a) (y:=d) h3 h5 (by omega);have e2:=BL (x:=b) (y:=e) h4 h6 (by omega);have e3:c=f:=by omega
 subst e1 e2 e3;rfl
def q7i (s:OSt):List Value:=[.int .i64 s.1.src,.int .i64 s.1.dst,.int .i64 s.1.kind]
theorem q1z {σ:Mem} (s:OSt):Rep σ (.agg s.1.cells) (.agg (q7i s).toArray):=by
 refine .agg _ _ (fun j=>(q7i s).toArray.getD j undef) rfl (fun j c hj => ?_) (fun j c hj => ?_)
 ·match j,hj with
  | 0,_=>rfl
  | 1,_=>rfl
  | 2,_=>rfl
 ·match j,hj with
  | 0,hj=>cases hj;exact .int _ _
  | 1,hj=>cases hj;exact .int _ _
  | 2,hj=>cases hj;exact .int _ _
theorem z4g (W:World) (x y:OSt):Calls Tryz.prog 292 (#[.agg (q7i x).toArray,.agg (q7i y).toArray] ++ #[]) W fun e w'=>e = .returned (.int .i64 (cfO x y)) ∧ ∃ q os',w'=grow (W.drewN q) os':=by
 refine ((x2x x.1 y.1).ok (fun _=>none) W #[.agg (q7i x).toArray,.agg (q7i y).toArray] rfl (fun j c hj => ?_) (fun b c h=>by cases h)).mono ?_
 ·match j,hj with
  | 0,hj=>cases hj;exact q1z x
  | 1,hj=>cases hj;exact q1z y
 ·rintro e w' ⟨c,u,σ',rfl,rfl,hr,_,_,hf,_⟩;cases hr;exact ⟨rfl,hf.grown⟩
theorem x9y {σ:Mem} {l:List OSt} {vs:Array Value} (h : ∀ (m:Nat) (x:AV),(l.map fun s=>AV.agg s.1.cells)[m]? = some x->x.cells.length=3 ∧ ∀ (j:Nat) (c:AV),x.cells[j]? = some c -> ∃ u:Value,vs[m*3+j]? = some u∧Rep σ c u) {m j:Nat} (hm:m<l.length) (hj:j<3) :
  vs[m*3+j]? = (q7i l[m])[j]? := by
 have h1:=(h m (.agg l[m].1.cells) (by simp [hm])).2
 match j,hj with
 | 0,_ =>
   obtain ⟨u,h2,h3⟩:=h1 0 (.int .i64 l[m].1.src) rfl;cases h3;exact h2
 | 1,_ =>
   obtain ⟨u,h2,h3⟩:=h1 1 (.int .i64 l[m].1.dst) rfl;cases h3;exact h2
 | 2,_ =>
   obtain ⟨u,h2,h3⟩:=h1 2 (.int .i64 l[m].1.kind) rfl;cases h3;exact h2
theorem z1c {σ:Mem} {l:List OSt} {vs:Array Value} (h : ∀ (m:Nat) (hm:m<l.length) (j:Nat),j<3->vs[m*3+j]? = (q7i l[m])[j]?) : ∀ (m:Nat) (x:AV),(l.map fun s=>AV.agg s.1.cells)[m]? = some x->x.cells.length=3 ∧ ∀ (j:Nat) (c:AV),x.cells[j]? = some c -> ∃ u:Value,vs[m*3+j]? = some u∧Rep σ c u:=by
 intro m x hx;rw [List.getElem?_map] at hx;cases hq:l[m]? with
 | none=>rw [hq] at hx;cases hx
 | some s =>
   rw [hq] at hx;cases hx;obtain ⟨hm,rfl⟩:=List.getElem?_eq_some_iff.1 hq;refine ⟨rfl,fun j c hj => ?_⟩
   match j,hj with
   | 0,hj=>cases hj;exact ⟨_,h m hm 0 (by omega),.int _ _⟩
   | 1,hj=>cases hj;exact ⟨_,h m hm 1 (by omega),.int _ _⟩
   | 2,hj=>cases hj;exact ⟨_,h m hm 2 (by omega),.int _ _⟩
theorem x0p {d:Array OSt} {t:Nat} (h:t<d.size*3):(flatK q7i 3 d)[t]? = (q7i (d[t / 3]'(by omega)))[t % 3]? := by
 have h1:=get_flatK q7i 3 d t h;rw [getElem!_pos _ t (by simpa using h),getElem!_pos d (t / 3) (by omega)] at h1;rw [Array.getElem?_eq_getElem (by simpa using h),h1];have h3:t % 3<(q7i (d[t / 3]'(by omega))).length:=by simp [q7i];omega
 rw [List.getElem?_eq_getElem h3,getElem!_pos (q7i (d[t / 3]'(by omega))) (t % 3) h3]
def UW (l:List Step):List Step:=l.mergeSort fun x y => !HI y x
theorem NL {l:List Step}:(UW l).length=l.length:=by unfold UW;simp
theorem q0m (l:List Step):(UW l).Perm l:=List.mergeSort_perm _ _
theorem HB (l:List OSt) (hlen:l.length<=1000000000) :
  SpecH Tryz.prog 291 [.hd 1000 0 l.length,.p (.fn 292 [])] [(1000,.own 139 3 (l.map fun s => .agg s.1.cells))]
   (fun r H=>r = .p (.tup [])∧H=[(1000,.own 139 3 ((l.mergeSort fun x y => !(ltOf cfO) y x).map fun s => .agg s.1.cells))]):=by
 refine ⟨Tryz.call291,fun σ β w vals hn hv hH => ?_⟩;obtain ⟨v,u,rfl⟩:=w2t hn;have hv1:RepL σ β (.hd 1000 0 l.length) v:=by simpa using hv 0 _ rfl
 have hv2:RepL σ β (.p (.fn 292 [])) u:=by simpa using hv 1 _ rfl
 obtain rfl:u = .func (.func 292) #[] #[]:=by
  cases hv2 with
  | p h=>cases h with
    | fn _ _ vs u hn' hc hr =>
      obtain rfl:vs = #[]:=Array.size_eq_zero_iff.1 hn';rfl
 have hch:=hH.chunks 1000 _ mem_cons_self;rcases hch with ⟨hb0,hes⟩|⟨i,vs,hi,hsz,hh,h2,h3,h4,h5⟩
 ·have hl0:l=[]:=List.map_eq_nil_iff.1 hes;subst hl0;obtain ⟨rfl,_⟩:=x4o hv1 hb0;have hc:=AnyF.slices_SortFunc_none q4o none 0 (.func (.func 292) #[] #[]) w;change Calls Tryz.prog 291 _ _ _ at hc;refine hc.mono ?_;rintro e w' ⟨rfl,rfl⟩;exact ⟨.p (.tup []),.tuple #[],σ,β,_,rfl,⟨rfl,rfl⟩,.p (.tup [] #[] (fun _=>undef) rfl (by simp) (by simp)),by simpa using hH,by simpa using Later.refl _ _ _ _⟩
 ·have hve:=x0o hv1 hi;subst hve;have hlt:=(hH.apart 1000 (by simp) i hi i.blk i.has_blk).2;have hcap:l.length<=i.cap:=by simpa using h3
  have hle:l.length*3<=vs.size:=by rw [h2];omega
  have hget:=fun m j hm hj=>x9y (σ:=σ) (l:=l) h5 (m:=m) (j:=j) hm hj;have hc:=AnyQ.slices_SortFunc_total q4o 3 Tryz.isAgg139 Tryz.sizeOf139 q7i (fun _=>rfl) (fun x v hv=>by simp [q7i] at hv;rcases hv with rfl|rfl|rfl<;>rfl) cfO z8k 292 #[] i.blk 0 i.cap l.toArray w
   Tryz.call292 (fun m os dk _ x y=>z4g _ x y) (fun t ht=>by
    have ht':t<l.toArray.size*3:=by simpa using ht
    refine ⟨?_,VX hh _⟩;have h6:=x0p ht';have h7:=hget (t / 3) (t % 3) (by simp at ht';omega) (by omega);rw [Nat.div_add_mod'] at h7;rw [KZ hh,Nat.zero_add,h7,getElem!_pos _ t (by simpa using ht')];rw [Array.getElem?_eq_getElem (by simpa using ht')] at h6;simpa using h6.symm) hlt (by simp;omega) z9w
  simp only [List.size_toArray] at hc;change Calls Tryz.prog 291 _ _ _ at hc;refine hc.mono ?_;rintro e w' ⟨rfl,n,os,rfl⟩;generalize hS:(l.mergeSort fun x y => !(ltOf cfO) y x)=S;have hSl:S.length=l.length:=by rw [<- hS];simp
  obtain ⟨hf,hb⟩:=PJ (enc:=id) (n:=n) (os:=os) (d:=flatK q7i 3 S.toArray) hh hlt;obtain ⟨hH',hL⟩:=q6z (c' := .own 139 3 (S.map fun s => .agg s.1.cells)) hH hi hf (.inr ⟨i,_,hi,hsz,hb,by rw [BH];exact h2,by simp [hSl];exact hcap,h4,z1c fun m hm j hj=>by
   have h6:=GM (enc:=id) (d:=flatK q7i 3 S.toArray) (vs:=vs) (by simp [hSl];omega) (k:=m*3+j) (by simp;omega);have h7:=x0p (d:=S.toArray) (t:=m*3+j) (by simp;omega);rw [Array.getElem?_eq_getElem (by simp;omega)] at h7;rw [h6];simp only [id];rw [h7];simp [show (m*3+j) / 3=m by omega,show (m*3+j) % 3=j by omega]⟩)
  exact ⟨.p (.tup []),.tuple #[],σ,β,_,rfl,⟨rfl,rfl⟩,.p (.tup [] #[] (fun _=>undef) rfl (by simp) (by simp)),hH',hL⟩
theorem LO (l:List Step) (hok : ∀ s∈l,x6m s) (hlen:l.length<=1000000000) :
  SpecH Tryz.prog 291 [.hd 1000 0 l.length,.p (.fn 292 [])] [(1000,.own 139 3 (l.map fun s => .agg s.cells))]
   (fun r H=>r = .p (.tup [])∧H=[(1000,.own 139 3 ((UW l).map fun s => .agg s.cells))]):=by
 have h:=HB (l.attachWith x6m hok) (by simpa using hlen);have e1:((l.attachWith x6m hok).map fun s=>AV.agg s.1.cells)=l.map fun s=>AV.agg s.cells:=by
  have:=congrArg (List.map fun s:Step=>AV.agg s.cells) (List.attachWith_map_subtype_val (l:=l) (p:=x6m) hok);simp
 have e2:(((l.attachWith x6m hok).mergeSort fun x y => !(ltOf cfO) y x).map fun s=>AV.agg s.1.cells)=(UW l).map fun s=>AV.agg s.cells:=by
  have h1:=List.map_mergeSort (l:=l.attachWith x6m hok) (f:=Subtype.val) (r:=fun x y => !(ltOf cfO) y x) (s:=fun x y => !HI y x) (fun a _ b _=>rfl);rw [List.attachWith_map_subtype_val] at h1;unfold UW;rw [<- h1,List.map_map];rfl
 rw [e1,e2] at h;simpa using h
section
variable {P:Program} {T:Tab} {N:Nat}
theorem z9i {σ:Mem} {β:Lab} {k:Nat} {H H':Heap} {d:Chunk} {w w':World} {i:BInfo} (h:HRel σ β H w) (hk:k∈H.map (·.1)) (hi:β k=some i) (hf:Frm (fun b=>b=i.blk) w w')
  (h3:H'.map (·.1)=H.map (·.1)) (h4 : ∀ j c,(j,c)∈H'->j≠k->(j,c)∈H) (h5 : ∀ c,(k,c)∈H'->c=d) (hnew:d.holds σ β w' k):HRel σ β H' w'∧Later σ β H w σ β H' w':=by
 have hap:=h.apart k hk i hi;refine ⟨⟨fun b cs hb => ?_,fun j c hj => ?_,by rw [h3];exact h.nodup,fun j hj i' hi' b hb => ?_,fun j hj j' hj'=>h.inj j (h3▸hj) j' (h3▸hj')⟩,Mem.le_refl σ,⟨hf.os,hf.tape,hf.output,hf.drawn,hf.size,fun b hb hn=>hf.block b hb fun he=>hn ⟨k,hk,i,hi,.inl he.symm⟩⟩,
  fun b h0 h1=>absurd h0 h1,fun b ⟨j,hj,r⟩ => .inl ⟨j,h3▸hj,r⟩,fun _ _ _=>rfl⟩
 ·obtain ⟨e,fr,hh⟩:=h.mem b cs hb;exact ⟨e,fr,(hf.block b (Array.getElem?_eq_some_iff.1 hh).1 fun he=>by rw [he,(hap _ i.has_blk).1] at hb;cases hb).trans hh⟩
 ·by_cases hjk:j=k
  ·subst hjk;rw [h5 c hj];exact hnew
  ·have hm:=h4 j c hj hjk;have hjm:j∈H.map (·.1):=List.mem_map.2 ⟨_,hm,rfl⟩;exact (h.chunks j c hm).mono (Mem.le_refl σ) fun i' hi' b hb=>hf.block b (h.apart j hjm i' hi' b hb).2 fun he=>hjk (h.inj j hjm k hk i' i hi' hi b hb (.inl he.symm))
 ·have:=h.apart j (h3▸hj) i' hi' b hb;exact ⟨this.1,Nat.lt_of_lt_of_le this.2 hf.size⟩
theorem OpK.clear (hT:TabOK P T) {s:St} {o:Oper} {K:St->Prop} {t:TypeId} {x:Operand} (hop:o.op = .call { callee := .builtin .clear,args := #[x],argTypes := #[t] }) {k off len:Nat} (hx:QC s.sl x = .hd k off len) {e sz:Nat} {es:List AV} (hg:getH s.H k=some (.own e sz es))
  {i ie:TyI} (ht:T.get t=some i) (hd:i.desc = .slice e) (hte:T.get e=some ie) (hz:ie.zero.cells.size=sz) (hone:ie.zero.cells.all (·.oneCell')=true) (hpos:0<sz)
  (h:q6y s.H k (.own e sz (es.take off)) fun H=>setD N s.sl o.dst (.p (.tup [])) fun sl=>K ⟨sl,H⟩):OpK P N s o K:=by
 refine ⟨fun σ β a w hr Q => ?_⟩;have hx':=QX hr.slots x;rw [hx] at hx';generalize hxe:a.eval x=v at hx';obtain ⟨H',hK,h3,h4,h5⟩:=JX hr.heap.nodup h;have hlab:=QI hg;have hu:=hT.of ht;rw [hd] at hu;have hue:=hT _ _ hte;have htup:RepL σ β (.p (.tup [])) (.tuple #[]) := .p (.tup [] #[] (fun _=>undef) rfl (by simp) (by simp));have hbc : ∀ {w'} ,(Builtin.clear_ #[t] o.type #[v]).run P w = .ok (.tuple #[]) w'->(execOp a.eval o).run P w = .ok (.value (.tuple #[])) w':=fun {w'} hc=>by
  simp [execOp,hop,resolve,invoke,builtin,hxe,hc]
 have hch:=hr.heap.chunks k _ (QK hg);have none':len=0->(Builtin.clear_ #[t] o.type #[v]).run P w = .ok (.tuple #[]) w->(o.wp P a w (fun a' w' => ∃ σ' β' s',K s'∧Rel N σ' β' s' a' w'∧Later σ β s.H w σ' β' s'.H w') Q):=fun _ hrun=>by
  have hheap:HRel σ β H' w∧Later σ β s.H w σ β H' w:=by
   refine ⟨⟨hr.heap.mem,fun j c hj => ?_,by rw [h3];exact hr.heap.nodup,fun j hj=>hr.heap.apart j (h3▸hj),fun j hj j' hj'=>hr.heap.inj j (h3▸hj) j' (h3▸hj')⟩,Mem.le_refl σ,Frm.refl _ w,fun b h0 h1=>absurd h0 h1,fun b ⟨j,hj,r⟩ => .inl ⟨j,h3▸hj,r⟩,fun _ _ _=>rfl⟩;by_cases hjk:j=k
   ·subst hjk;rw [h5 c hj];rcases hch with ⟨h6,h7⟩|⟨bi,vs,h6,h7,h8,h9,h10,h11,h12⟩
    ·exact .inl ⟨h6,by rw [h7];simp⟩
    ·exact .inr ⟨bi,vs,h6,h7,h8,h9,by simp;omega,h11,fun m x hx=>h12 m x (by rw [List.getElem?_take] at hx;split at hx;exact hx;cases hx)⟩
   ·exact hr.heap.chunks j c (h4 j c hj hjk)
  have hr1:Rel N σ β ⟨s.sl,H'⟩ a w:=⟨hr.size,hr.defers,hr.slots,hheap.1⟩;obtain ⟨sl,hK,hr2⟩:=hr1.setD htup hK;exact VJ (hbc hrun) ⟨σ,β,_,hK,hr2,hheap.2⟩
 rcases hx'.hdI with ⟨hk0,hoff,hlen,hv⟩|⟨bi,oo,hk,hfit,hoo,hv⟩
 ·subst hv;refine none' hlen ?_;simp [Builtin.clear_,run_underlying hu]
 by_cases hl0:len=0
 ·subst hl0 hv;refine none' rfl ?_;simp [Builtin.clear_,run_underlying hu]
 rcases hch with ⟨h6,_⟩|⟨bi',vs,h6,h7,h8,h9,h10,h11,h12⟩
 ·rw [hk] at h6;cases h6
 rw [hk] at h6;cases h6;have hoo:oo=off*sz:=by
  rcases hoo with hoo|⟨h13,_⟩
  ·rw [hoo,h7]
  ·omega
 obtain ⟨zs,hzs⟩ : ∃ zs,zs=(Builtin.zeroCells ie.zero.cells len).toList:=⟨_,rfl⟩;have hzl:zs.length=len*sz:=by rw [hzs];simp [Builtin.zeroCells,hz]
 have hz1 : ∀ v∈zs,v.oneCell'=true:=fun v hv=>by
  rw [hzs] at hv;simp only [Builtin.zeroCells,Array.toList_map,List.mem_map] at hv;obtain ⟨q,hq,rfl⟩:=hv;have hlt:q % ie.zero.cells.size<ie.zero.cells.size:=Nat.mod_lt _ (by omega);rw [getElem!_pos ie.zero.cells (q % ie.zero.cells.size) hlt];exact Array.all_eq_true.1 hone _ hlt
 have hend:off*sz+len*sz<=vs.size:=by
  rw [h9,<- Nat.add_mul];exact Nat.mul_le_mul_right _ hfit
 have hst:=run_storeCells_cells (P:=P) bi.blk oo zs 0 w (fun j hj=>by
   have:oo+0+j<vs.size:=by omega
   simp only [World.cell?,h8];rw [Array.getElem?_eq_getElem this];rfl) (fun j hj=>by simp [World.frozen?,h8]) hz1
 have hrun:(Builtin.clear_ #[t] o.type #[v]).run P w = .ok (.tuple #[]) (w.setCells bi.blk oo zs):=by
  subst hv;have hzv:(zeroValue e).run P w = .ok ie.zero w:=by
   have:=hue.info;cases hq:P.info? e with
   | none=>rw [hq] at this;cases this
   | some f =>
     rw [hq] at this;simp at this;simp [zeroValue,typeInfo,hq,this]
  obtain ⟨len',rfl⟩ : ∃ l',len=l'+1:=⟨len-1,by omega⟩;simp only [Nat.add_zero] at hst;simp [Builtin.clear_,Sem.run_bind,run_underlying hu,hzv,<- hzs,hst]
 obtain ⟨s1,s2⟩:=ZH zs oo h8;have hnew:(Chunk.own e sz (es.take off)).holds σ β (w.setCells bi.blk oo zs) k:=by
  refine .inr ⟨bi,_,hk,h7,s1,by rw [WD];exact h9,by simp;omega,h11,fun m x hx => ?_⟩;rw [List.getElem?_take] at hx;split at hx
  ·rename_i hm;obtain ⟨h13,h14⟩:=h12 m x hx;refine ⟨h13,fun j c hj => ?_⟩;obtain ⟨u,h15,h16⟩:=h14 j c hj;have hjl:j<sz:=by rw [<- h13];exact (List.getElem?_eq_some_iff.1 hj).1
   have hlt:m*sz+j<off*sz:=by
    have:(m+1)*sz<=off*sz:=Nat.mul_le_mul_right _ hm;rw [Nat.add_mul] at this;omega
   exact ⟨u,by rw [JI _ _ _ _ (by omega),if_neg (by omega)];exact h15,h16⟩
  ·cases hx
 obtain ⟨hh,hl⟩:=z9i hr.heap hlab hk s2 h3 h4 h5 hnew;have hr1:Rel N σ β ⟨s.sl,H'⟩ a (w.setCells bi.blk oo zs):=⟨hr.size,hr.defers,hr.slots,hh⟩;obtain ⟨sl,hK,hr2⟩:=hr1.setD htup hK;exact VJ (hbc hrun) ⟨σ,β,_,hK,hr2,hl⟩
end
def XG (p:Step):List Step->List Step
 | []=>[]
 | b::r=>bif ZU b p then XG b r else b::XG b r
def MT:List Step->List Step
 | []=>[]
 | a::r=>a::XG a r
theorem x2s {l:List Step} (h:l.length<2):MT l=l:=by
 match l,h with
 | [],_=>rfl
 | [a],_=>rfl
def avS (l:List Step):List AV:=l.map fun s => .agg s.cells
theorem DE (l:List Step) (hlen:l.length<=1000000000) :
  SpecH Tryz.prog 293 [.hd 1000 0 l.length,.p (.fn 294 [])] [(1000,.own 139 3 (avS l))]
   (fun r H=>r = .hd 1000 0 (MT l).length∧H=[(1000,.own 139 3 (avS (MT l)))]):=by
 refine sH ZG Tryz.func293 rfl Tryz.call293 ?_;conv=>whnf
 repeat' (first|(refine iM fun _=>?_;conv=>whnf)|(apply bD<;>intro _<;>first|omega|conv=>whnf))
 ·have e:MT l=l:=x2s (by omega);rw [e];exact ⟨_,LSub.refl _,rfl,rfl⟩
 refine LoopK.inv QU (fun k:Nat=>⟨[(0,.hd 1000 0 l.length),(1,.p (.fn 294 [])),(5,.p (.int .i64 k))],[(1000,.own 139 3 (avS l))]⟩)
  (fun k=>1<=k∧k<=l.length ∧ ∃ a,l[k-1]? = some a∧l.take k++XG a (l.drop k)=MT l) (fun k=>l.length-k) 1 (Le.of_eq rfl) ⟨Nat.le_refl _,by omega,?_⟩ ?_
 ·cases l with
  | nil=>simp at *
  | cons a r=>exact ⟨a,rfl,rfl⟩
 rintro k ⟨h1,h2,a,ha,h3⟩;rcases Nat.lt_or_ge k l.length with hk|hk;rotate_left 1
 ·rw [drop_eq_nil_of_le hk,take_of_length_le hk] at h3;conv=>whnf
  repeat' (first|(refine iM fun _=>?_;conv=>whnf)|(apply bD<;>intro _<;>first|omega|conv=>whnf))
  rw [<- h3,XG,append_nil];exact ⟨_,LSub.refl _,rfl,rfl⟩
 rw [drop_eq_getElem_cons hk,XG] at h3;have hk1:k-1<l.length:=by omega
 obtain ⟨_,ha'⟩:=List.getElem?_eq_some_iff.1 ha;have gk:(avS l)[k]? = some (.agg l[k].cells):=by simp [avS,hk]
 have gk1:(avS l)[k-1]? = some (.agg a.cells):=by simp [avS,ha]
 conv=>whnf
 repeat' (first|((first|(refine iM fun _=>?_)|refine cP (LE _ _) ?_|refine dA ?_|refine And.intro rfl ?_|refine wI ?_|refine IdxL.mk k (by omega) (by omega) ?_|refine IdxL.mk (k-1) (by omega) (by omega) ?_|refine LdOwn.mk k 0 (.agg l[k].cells) (by omega) gk ?_|refine LdOwn.mk (k-1) 0 (.agg a.cells) (by omega) gk1 ?_|refine SlK.mk k l.length rfl rfl (by omega) (by omega) ?_);conv=>whnf)|(apply bD<;>intro _<;>first|omega|conv=>whnf)|(apply bB<;>intro _<;>conv=>whnf))
 rotate_left 1
 ·have hsm:ZU l[k] a=false:=by assumption
  rw [hsm,cond_false] at h3;exact ⟨k+1,⟨by omega,by omega,l[k],by simp [hk],by rw [<- h3,List.take_succ_eq_append_getElem hk,List.append_assoc];rfl⟩,by omega,Le.of_eq rfl⟩
 have hsm:ZU l[k] a=true:=by assumption
 rw [hsm,cond_true] at h3;clear ha ha' gk gk1 hk1 hsm;refine LoopK.inv QU (fun x:Nat×Nat×List Step=>⟨[(0,.hd 1000 0 l.length),(1,.p (.fn 294 [])),(5,.p (.int .i64 x.2.1)),(6,.hd 1000 (0+k) (l.length-k)),(7,.p (.int .i64 x.1))],[(1000,.own 139 3 (avS x.2.2))]⟩)
  (fun x=>1<=x.1∧x.1<=l.length-k∧x.2.1<=k+x.1-1∧x.2.2.length=l.length∧x.2.2.drop (k+x.1-1)=l.drop (k+x.1-1) ∧ ∃ a,l[k+x.1-1]? = some a∧x.2.2.take x.2.1++XG a (l.drop (k+x.1))=MT l) (fun x=>l.length-k-x.1) (1,k,l) (Le.of_eq rfl) ⟨Nat.le_refl _,by simp only;omega,by simp only;omega,rfl,rfl,l[k],by simp [hk],h3⟩ ?_
 rintro ⟨q,i,es⟩ ⟨h4,h5,h6,h7,h8,a,ha,h9⟩;clear h3;simp only at h4 h5 h6 h7 h8 ha h9 ⊢;have hes:(avS es).length=l.length:=by simp [avS,h7]
 rcases Nat.lt_or_ge q (l.length-k) with hq|hq
 ·have hkq:k+q<l.length:=by omega
  have e1:es[k+q]? = l[k+q]? := by
   have:=congrArg (fun x=>x[1]?) h8;simp only [List.getElem?_drop] at this
   rwa [show k+q-1+1=k+q by omega] at this
  have e2:es[k+q-1]? = some a:=by
   have:=congrArg (fun x=>x[0]?) h8;simp only [List.getElem?_drop,Nat.add_zero] at this;rw [this,ha]
  rw [List.getElem?_eq_getElem hkq] at e1;have gk:(avS es)[k+q]? = some (.agg l[k+q].cells):=by simp [avS,e1]
  have gk1:(avS es)[k+q-1]? = some (.agg a.cells):=by simp [avS,e2]
  have hi:i<es.length:=by omega
  have gi:(avS es)[i]? = some (.agg es[i].cells):=by simp [avS,hi]
  rw [drop_eq_getElem_cons hkq,XG] at h9;conv=>whnf
  repeat' (first|((first|(refine iM fun _=>?_)|refine cP (LE _ _) ?_|refine dA ?_|refine And.intro rfl ?_|refine wI ?_|refine IdxL.mk q (by omega) (by omega) ?_|refine IdxL.mk (q-1) (by omega) (by omega) ?_|refine IdxL.mk i (by omega) (by omega) ?_|refine LdOwn.mk (k+q) 0 (.agg l[k+q].cells) (by omega) gk ?_|refine LdOwn.mk (k+q-1) 0 (.agg a.cells) (by omega) gk1 ?_|refine StOwn.mk i 0 (.agg es[i].cells) (.agg l[k+q].cells) (by omega) gi (show 3<=3 from Nat.le_refl 3) rfl ?_);conv=>whnf)|(apply bD<;>intro _<;>first|omega|conv=>whnf)|(apply bN<;>intro _<;>conv=>whnf))
  ·have hsm:ZU l[k+q] a=true:=by assumption
   rw [hsm,cond_true] at h9;exact ⟨(q+1,i,es),⟨by simp only;omega,by simp only;omega,by simp only;omega,h7,by
    have:=congrArg (List.drop 1) h8;simp only [List.drop_drop] at this;simpa only [show k+(q+1)-1=k+q-1+1 by omega] using this,l[k+q],by simp [hkq],h9⟩,by simp only;omega,Le.of_eq rfl⟩
  ·have hsm:ZU l[k+q] a=false:=by assumption
   rw [hsm,cond_false] at h9;have h10:(es.set i l[k+q]).drop (k+q)=l.drop (k+q):=by
    rw [List.drop_set_of_lt (by omega)];have:=congrArg (List.drop 1) h8;simp only [List.drop_drop] at this
    rwa [show k+q-1+1=k+q by omega] at this
   exact ⟨(q+1,i+1,es.set i l[k+q]),⟨by simp only;omega,by simp only;omega,by simp only;omega,by simp only [length_set];exact h7,h10,l[k+q],by simp [hkq],by
    simp only;rw [<- h9,List.take_succ_eq_append_getElem (by simp;omega),List.take_set_of_le (by omega),List.getElem_set_self,List.append_assoc];rfl⟩,by simp only;omega,Le.of_eq (by simp only [avS,List.map_set];rfl)⟩
 ·have hqe:k+q=l.length:=by omega
  rw [hqe,List.drop_length,XG,append_nil] at h9;conv=>whnf
  repeat' (first|((first|(refine iM fun _=>?_)|refine And.intro rfl ?_|refine SlK.mk i l.length rfl rfl (by omega) (by omega) ?_);conv=>whnf)|(apply bD<;>intro _<;>first|omega|conv=>whnf))
  refine OpK.clear QU rfl rfl rfl rfl rfl rfl rfl (by kernel_rfl) (by decide) ?_;conv=>whnf
  repeat' ((first|refine And.intro rfl ?_|refine SlK.mk 0 i rfl rfl (by omega) (by omega) ?_);conv=>whnf)
  have hl:i=(MT l).length:=by rw [<- h9];simp;omega
  exact ⟨_,LSub.of_eq (by rw [<- hl];rfl),rfl,by rw [Nat.zero_add,<- h9];simp [avS,List.map_take]⟩
def WC (l:List Step):List Step:=MT (UW l)
theorem z2o (l:List Step) (hok : ∀ s∈l,x6m s) (hlen:l.length<=1000000000) :
  SpecH Tryz.prog 231 [.hd 1000 0 l.length] [(1000,.own 139 3 (avS l))] (fun r H=>r = .hd 1000 0 (WC l).length∧H=[(1000,.own 139 3 (avS (WC l)))]):=by
 refine sH x3w Tryz.func231 rfl Tryz.call231 ?_;conv=>whnf
 repeat' (first|(refine CallK.heap [(1000,1000)] 0 (by repeat' (first|exact ArgsH.nil|refine ArgsH.cons ?_ ?_|exact LSub.refl _|exact LSub.p Sub.nils|exact LSub.p (Sub.tt rfl)|exact LSub.p (Sub.ff rfl)|exact LSub.p (Sub.int (by omega)))) (by refine BlksH.cons (j:=1000) rfl rfl ?_ ?_;exact CSub.refl _;exact BlksH.nil) (LO l hok hlen) rfl rfl ?_;rintro l' H' ⟨rfl,rfl⟩;conv=>whnf)|(refine CallK.heap [(1000,1000)] 0 (ArgsH.cons (LSub.of_eq (by rw [NL];rfl)) (ArgsH.cons (LSub.refl _) ArgsH.nil)) (by refine BlksH.cons (j:=1000) rfl rfl ?_ ?_;exact CSub.refl _;exact BlksH.nil) (DE (UW l) (by rw [NL];exact hlen)) rfl rfl ?_;rintro l' H' ⟨rfl,rfl⟩;conv=>whnf))
 exact ⟨_,LSub.refl _,rfl,rfl⟩
def VB (sh:Sheet) (f:Pr) (it:Item):List Int :=
 if it.s.kind=5 then [HN it.s.thn it.next,HN it.s.els it.next]
 else if it.s.kind=6 then [HN it.s.thn it.s.id,it.next]
 else if it.s.kind=7 then [((sh.l[(it.loop-1).toNat]?).map Item.next).getD 0]
 else if it.s.kind=8 then [it.loop]
 else if it.s.kind=9 then [-1]
 else if it.s.kind=10 then [(atB f it.s.name).1]
 else [it.next]
theorem q3m (l:List S) (o:Int):SpecP Tryz.prog 318 [eSs l,.int .i64 o] (fun r=>r = .int .i64 (HN l o)):=by
 unfold eSs;rw [S.avs_eq];exact x9k l o
theorem q1s (p:Pg) (j:Nat) (f:Pr) (hj:p.procs[j]? = some f) (hc:VU p.procs<=1000) (it:Item) (hp:it.proc=j) (hl:it.s.kind=7->1<=it.loop∧it.loop<=(sheetOf p).l.length):SpecP Tryz.prog 255 [.ip (sheetOf p).cells,.agg it.cells] (fun r=>r=XW (VB (sheetOf p) f it)):=by
 refine sB PH Tryz.func255 rfl Tryz.call255 ?_;conv=>whnf
 have hlen:=(QV p).2.2.2.1;have hx:it.s.kind=7 -> ∃ u,(sheetOf p).l[(it.loop-1).toNat]? = some u∧((sheetOf p).l.map fun i=>AV.agg i.cells)[(it.loop-1).toNat]? = some (.agg u.cells):=fun h=>by
  have:=hl h;have hlt:(it.loop-1).toNat<(sheetOf p).l.length:=by omega
  exact ⟨_,List.getElem?_eq_getElem hlt,by rw [List.getElem?_map,List.getElem?_eq_getElem hlt];rfl⟩
 repeat' (first|((first|refine dA ?_|refine And.intro rfl ?_|refine aD ?_|refine bP ?_|refine wI ?_|(refine CallK.pure (JR p j f hj hc it.s.name) (.cons (Sub.refl _) (.cons (Sub.int hp) (.cons (Sub.refl _) .nil))) ?_;rintro _ rfl)|refine PX rfl rfl ?_|refine cP (q3m it.s.thn _) ?_|refine cP (q3m it.s.els _) ?_|(obtain ⟨u,hu1,hu2⟩:=hx (by assumption);refine IdxK.at (by have:=hl (by assumption);omega) hu2 rfl ?_));conv=>whnf)|(apply bD<;>intro _<;>first|omega|conv=>whnf))
 all_goals first
  | exact RetK.p (by unfold VB;rw [if_neg (by assumption),if_neg (by assumption),if_pos (by assumption),hu1];rfl)
  | exact RetK.p (by unfold VB;rw [if_pos (by assumption)];rfl)
  | exact RetK.p (by unfold VB;rw [if_neg (by assumption),if_pos (by assumption)];rfl)
  | exact RetK.p (by unfold VB;rw [if_neg (by assumption),if_neg (by assumption),if_neg (by assumption),if_pos (by assumption)];rfl)
  | exact RetK.p (by unfold VB;rw [if_neg (by assumption),if_neg (by assumption),if_neg (by assumption),if_neg (by assumption),if_pos (by assumption)];rfl)
  | exact RetK.p (by unfold VB;rw [if_neg (by assumption),if_neg (by assumption),if_neg (by assumption),if_neg (by assumption),if_neg (by assumption),if_pos (by assumption)];rfl)
  | exact RetK.p (by unfold VB;rw [if_neg (by assumption),if_neg (by assumption),if_neg (by assumption),if_neg (by assumption),if_neg (by assumption),if_neg (by assumption)];rfl)
def QH (p:Pg) (j:Nat) (f:Pr):List Step :=
 ⟨0,if QR p.procs j<QR p.procs j+cntL f.body then ((QR p.procs j:Nat)+1:Int) else -1,1⟩::(itL j 0 (-1) 0 (QR p.procs j) f.body).flatMap fun it=>(VB (sheetOf p) f it).map (Step.mk it.s.id · 1)
def itsOf (p:Pg) (j:Nat) (f:Pr):List Item:=itL j 0 (-1) 0 (QR p.procs j) f.body
theorem MI (p:Pg) (j:Nat) (f:Pr) (hj:p.procs[j]? = some f) (hc:VU p.procs<=1000) (hl : ∀ it∈itsOf p j f,it.s.kind=7->1<=it.loop∧it.loop<=(sheetOf p).l.length) (hok : ∀ s∈QH p j f,x6m s):SpecP Tryz.prog 203 [.ip (sheetOf p).cells,.int .i64 j] (fun r=>r=UQ (WC (QH p j f))):=by
 refine sB BF Tryz.func203 rfl Tryz.call203 ?_;conv=>whnf
 obtain ⟨_,_,_,hlen,hsp⟩:=QV p;obtain ⟨hlo,hhi,hle,_⟩:=hsp j f hj;repeat' ((first|(refine iM fun _=>?_)|refine And.intro rfl ?_|refine aD ?_|refine cP (VC (sheetOf p) j _ _ hlo hhi) ?_|refine cP (x6u p hj hc) ?_|refine BsK.own (fun x hx=>by rcases List.mem_singleton.1 hx with rfl;rfl) rfl ?_);conv=>whnf)
 have hraw:QH p j f=⟨0,if QR p.procs j<QR p.procs j+cntL f.body then ((QR p.procs j:Nat)+1:Int) else -1,1⟩::(itsOf p j f).flatMap fun it=>(VB (sheetOf p) f it).map (Step.mk it.s.id · 1):=rfl;have hits:itL j 0 (-1) 0 (QR p.procs j) f.body=itsOf p j f:=rfl;have hpr : ∀ it∈itsOf p j f,it.proc=j:=fun it h=>YF _ _ _ _ _ _ it h;have hib:(itsOf p j f).length<=1000:=by rw [<- hits,ZZ];omega
 rw [hits];generalize itsOf p j f=its at hl hraw hpr hib ⊢;have hil:=WV its;refine LoopK.inv QU (fun i:Nat×List Step=>⟨[(0,.p (.ip (sheetOf p).cells)),(5,.hd 0 0 i.2.length),(17,.p (YC its)),(18,.p (.int .i64 (its.map fun i=>AV.agg i.cells).length)),(19,.p (.int .i64 i.1))],[(0,.own 139 3 (avS i.2))]⟩)
  (fun i=>i.1<=its.length∧i.2.length<=1+2*i.1∧i.2++(its.drop i.1).flatMap (fun it=>(VB (sheetOf p) f it).map (Step.mk it.s.id · 1))=QH p j f) (fun i=>its.length-i.1) (0,[⟨0,if QR p.procs j<QR p.procs j+cntL f.body then ((QR p.procs j:Nat)+1:Int) else -1,1⟩]) (Le.of_eq rfl) ⟨zero_le _,by simp,by rw [hraw];rfl⟩ ?_
 rintro ⟨m,acc⟩ ⟨h2,h3,h4⟩;simp only at h2 h3 h4 ⊢;rcases Nat.lt_or_ge m its.length with hm|hm;rotate_left 1
 ·have hacc:acc=QH p j f:=by
   rw [drop_eq_nil_of_le hm] at h4;simpa using h4
  rw [<- hacc] at hok ⊢;conv=>whnf
  repeat' (first|(apply bD<;>intro _<;>first|omega|conv=>whnf)|(refine CallK.heap [(1000,0)] 0 (by repeat' (first|exact ArgsH.nil|refine ArgsH.cons ?_ ?_|exact LSub.refl _|exact LSub.p Sub.nils|exact LSub.p (Sub.tt rfl)|exact LSub.p (Sub.ff rfl)|exact LSub.p (Sub.int (by omega)))) (by refine BlksH.cons (j:=0) rfl rfl ?_ ?_;exact CSub.refl _;exact BlksH.nil) (z2o acc hok (by omega)) rfl rfl ?_;rintro l' H' ⟨rfl,rfl⟩;conv=>whnf))
  exact ⟨_,.hd rfl (by simp [avS]),rfl⟩
 have hgl:(VB (sheetOf p) f its[m]).length<=2:=by unfold VB;split<;>(try split)<;>(try split)<;>(try split)<;>(try split)<;>(try split)<;>simp
 rw [MB hm] at h4;have him:=List.getElem_mem hm;conv=>whnf
 repeat' (first|((first|(refine iM fun _=>?_)|refine And.intro rfl ?_|(refine iA fun _=>?_)|refine cP (q1s p j f hj hc its[m] (hpr _ him) (hl _ him)) ?_);conv=>whnf)|(apply bD<;>intro _<;>first|omega|conv=>whnf))
 generalize hgs:VB (sheetOf p) f its[m]=gs at hgl h4 ⊢;have hgsl:(gs.map (AV.int .i64)).length=gs.length:=length_map _;refine LoopK.inv QU (fun i:Nat×List Step=>⟨[(0,.p (.ip (sheetOf p).cells)),(5,.hd 0 0 i.2.length),(7,.p (.ip its[m].cells)),(17,.p (YC its)),(18,.p (.int .i64 (its.map fun i=>AV.agg i.cells).length)),(19,.p (.int .i64 m)),(25,.p (XW gs)),(26,.p (.int .i64 (gs.map (AV.int .i64)).length)),(27,.p (.int .i64 i.1))],[(0,.own 139 3 (avS i.2))]⟩)
  (fun i=>i.1<=gs.length∧i.2.length<=acc.length+i.1∧i.2++((gs.drop i.1).map (Step.mk its[m].s.id · 1)++(its.drop (m+1)).flatMap (fun it=>(VB (sheetOf p) f it).map (Step.mk it.s.id · 1)))=QH p j f) (fun i=>gs.length-i.1) (0,acc) (Le.of_eq rfl) ⟨zero_le _,by simp,h4⟩ ?_
 rintro ⟨q,acc2⟩ ⟨h5,h6,h7⟩;simp only at h5 h6 h7 ⊢;rcases Nat.lt_or_ge q gs.length with hq|hq;rotate_left 1
 ·rw [drop_eq_nil_of_le hq] at h7;conv=>whnf
  repeat' (first|(refine wI ?_;conv=>whnf)|(apply bD<;>intro _<;>first|omega|conv=>whnf))
  exact ⟨(m+1,acc2),⟨by simp only;omega,by simp only;omega,by simpa using h7⟩,by simp only;omega,Le.of_eq rfl⟩
 rw [drop_eq_getElem_cons hq,List.map_cons] at h7;conv=>whnf
 repeat' (first|((first|refine And.intro rfl ?_|refine aD ?_|refine bP ?_|(refine iA fun _=>?_)|refine wI ?_|refine AppK.mk (by simp [avS]) rfl (by show (acc2.length+1)*24<=140737488355328;omega) (by show acc2.length+1<=9223372036854775807;omega) (fun x hx=>by rcases List.mem_singleton.1 hx with rfl;exact ⟨rfl,rfl⟩) ?_);conv=>whnf)|(apply bD<;>intro _<;>first|omega|conv=>whnf))
 exact ⟨(q+1,acc2++[⟨its[m].s.id,gs[q],1⟩]),⟨by simp only;omega,by simp;omega,by simpa using h7⟩,by simp only;omega,Le.of_eq (by simp only [avS,length_append,List.map_append];rfl)⟩
def bv:Bool->AV
 | true => .tt
 | false => .ff
structure Way where
 p:Pg
 j:Nat
 n:Int
 real:List Step
 live:List Bool
def Way.cells (w:Way):List AV:=[.ip (sheetOf w.p).cells,.int .i64 w.j,.int .i64 w.n,UQ w.real,.sl (w.live.map bv)]
def z4i (p:Pg) (j:Nat) (n:Int) (real:AV) (lv:List AV):Heap:=[(1000,.obj 137 [.p (.ip (sheetOf p).cells),.p (.int .i64 j),.p (.int .i64 n),.p real,.hd 2000 0 lv.length]),(2000,.own 4 1 lv)]
def KB (lo hi n x:Int):Int:=if x=0 then 0 else if x = -1 then n-1 else if lo<=x∧x<hi then x-lo+1 else -1
def loI (p:Pg) (j:Nat):Int:=(QR p.procs j:Nat)+1
def hiI (p:Pg) (j:Nat) (f:Pr):Int:=(QR p.procs j+cntL f.body:Nat)+1
theorem q5h (w:Way) (f:Pr) (hj:w.p.procs[w.j]? = some f) (hc:VU w.p.procs<=1000) (hn:0<=w.n∧w.n<=5000) (x:Int):SpecP Tryz.prog 117 [.ip w.cells,.int .i64 x] (fun r=>r = .int .i64 (KB (loI w.p w.j) (hiI w.p w.j f) w.n x)):=by
 refine sB GW Tryz.func117 rfl Tryz.call117 ?_;conv=>whnf
 obtain ⟨_,_,_,hlen,hsp⟩:=QV w.p;obtain ⟨hlo,hhi,hle,_⟩:=hsp w.j f hj;repeat' (first|((first|refine dA ?_|refine wI ?_|(refine IdxK.at rfl (WL hlo) rfl ?_)|(refine IdxK.at rfl (WL hhi) rfl ?_));conv=>whnf)|(apply bD<;>intro _<;>first|omega|conv=>whnf))
 all_goals exact RetK.int (by unfold KB loI hiI;(repeat' split)<;>omega)
theorem q7a (p:Pg) (j:Nat) (f:Pr) (n:Int) (real:AV) (lv:List AV) (hj:p.procs[j]? = some f) (hc:VU p.procs<=1000) (hn:0<=n∧n<=5000) (x:Int) :
  SpecH Tryz.prog 117 [.ptr 1000 0,.p (.int .i64 x)] (z4i p j n real lv) (fun r H=>r = .p (.int .i64 (KB (loI p j) (hiI p j f) n x))∧H=z4i p j n real lv):=by
 obtain ⟨_,_,_,hlen,hsp⟩:=QV p;obtain ⟨hlo,hhi,hle,_⟩:=hsp j f hj;refine sH GW Tryz.func117 rfl Tryz.call117 ?_;conv=>whnf
 repeat' (first|((first|refine dA ?_|refine wI ?_|(refine IdxK.at rfl (WL hlo) rfl ?_)|(refine IdxK.at rfl (WL hhi) rfl ?_));conv=>whnf)|(apply bD<;>intro _<;>first|omega|conv=>whnf))
 all_goals exact ⟨_,LSub.p (Sub.int (by unfold KB loI hiI;(repeat' split)<;>omega)),rfl,rfl⟩
def avP (l:List (Int×Int)):List AV:=l.map fun x => .agg [.int .i64 x.1,.int .i64 x.2]
def ixP (p:Pg) (j:Nat) (f:Pr) (n:Int) (s:Step):Int×Int:=(KB (loI p j) (hiI p j f) n s.src,KB (loI p j) (hiI p j f) n s.dst)
theorem q5m (w:Way) (f:Pr) (hj:w.p.procs[w.j]? = some f) (hc:VU w.p.procs<=1000) (hn:0<=w.n∧w.n<=5000) (l:List Step) (hlen:l.length<=1000000):SpecP Tryz.prog 156 [.ip w.cells,UQ l] (fun r=>r = .sl (avP (l.map (ixP w.p w.j f w.n)))):=by
 refine sB GJ Tryz.func156 rfl Tryz.call156 ?_;conv=>whnf
 repeat' (refine iM fun _=>?_;conv=>whnf)
 have hl:(l.map fun s=>AV.agg s.cells).length=l.length:=length_map _;refine LoopK.inv QU (fun i:Nat×List (Int×Int)=>⟨[(0,.p (.ip w.cells)),(5,.hd 0 0 i.2.length),(8,.p (UQ l)),(9,.p (.int .i64 (l.map fun s=>AV.agg s.cells).length)),(10,.p (.int .i64 i.1))],[(0,.own 227 2 (avP i.2))]⟩)
  (fun i=>i.1<=l.length∧i.2=(l.take i.1).map (ixP w.p w.j f w.n)) (fun i=>l.length-i.1) (0,[])
  (Le.mk [(0,.own 227 2 [])] (by simp [Chunk.new0];rfl) (by simp) (by simp) (.cons (.refl _) (.cons (.nil mem_cons_self) (.cons (.refl _) (.cons (.refl _) (.cons (.refl _) .nil))))) (.new mem_cons_self .nil))
  ⟨zero_le _,rfl⟩ ?_
 rintro ⟨m,acc⟩ ⟨h2,h3⟩;simp only at h2 h3 ⊢;rcases Nat.lt_or_ge m l.length with hm|hm;rotate_left 1
 ·rw [take_of_length_le hm] at h3;subst h3;conv=>whnf
  repeat' (apply bD<;>intro _<;>first|omega|conv=>whnf)
  exact ⟨_,.hd rfl (by simp [avP]),rfl⟩
 have hacl:acc.length=m:=by rw [h3];simp;omega
 conv=>whnf
 repeat' (first|((first|refine dA ?_|refine And.intro rfl ?_|refine aD ?_|refine bP ?_|(refine iA fun _=>?_)|refine wI ?_|refine cP (q5h w f hj hc hn _) ?_|refine AppK.mk (by simp [avP]) rfl (by show (acc.length+1)*16<=140737488355328;omega) (by show acc.length+1<=9223372036854775807;omega) (fun x hx=>by rcases List.mem_singleton.1 hx with rfl;exact ⟨rfl,rfl⟩) ?_);conv=>whnf)|(apply bD<;>intro _<;>first|omega|conv=>whnf))
 exact ⟨(m+1,acc++[ixP w.p w.j f w.n l[m]]),⟨by simp only;omega,by simp only;rw [h3,List.take_succ_eq_append_getElem hm,List.map_append];rfl⟩,by simp only;omega,Le.of_eq (by simp only [avP,length_append,List.map_append];rfl)⟩
theorem MM {P:Program} {f:FuncId} {args:List LV} {H H0:Heap} {e:TypeId} {sz:Nat} {Q:List AV->Prop} (hrow:HP 0 H0 fun H=>H=H0)
  (h:SpecH P f args H (fun r H' => ∃ es,r = .hd 0 0 es.length∧H'=(0,.own e sz es)::H0∧Q es)):SpecH P f args H (fun r H' => ∃ es,r = .p (.sl es)∧H'=H0∧Q es):=by
 refine ⟨h.go,fun σ β w vals h1 h2 h3=>(h.ok σ β w vals h1 h2 h3).mono fun ex w' hx => ?_⟩;obtain ⟨l,u,σ',β',H',he,⟨es,rfl,rfl,hQ⟩,hrep,hrel,hlat⟩:=hx;obtain ⟨s',rfl,hle⟩:=Le.row (N:=1) (s:=⟨[(0,.hd 0 0 es.length)],(0,.own e sz es)::H0⟩) (k:=0) (e:=e) (sz:=sz) (es:=es) (zs:=[0]) rfl (K:=fun s=>s=⟨[(0,.p (.sl es))],H0⟩) (by
  show LenK es.length es _;refine ⟨rfl,?_⟩;show HP 0 H0 fun H=>(⟨[(0,.p (.sl es))],H⟩:St)=⟨[(0,.p (.sl es))],H0⟩;have key : ∀ {H1:Heap} {K K':Heap->Prop},(∀ H,K H->K' H)->HP 0 H1 K->HP 0 H1 K':=fun {H1}=>by
   induction H1 with
   | nil=>intro K K' hK h;exact hK _ h
   | cons x r ih =>
     intro K K' hK h;obtain ⟨j,c⟩:=x;simp only [HP] at h ⊢;cases hb:j==0 with
     | true =>
       simp only [hb,cond_true] at h ⊢;exact ih hK h
     | false =>
       simp only [hb,cond_false] at h ⊢;cases c with
       | obj e ls=>simp only [ZE] at h ⊢;exact ih (fun H hH=>hK _ hH) h
       | own e sz es=>exact ih (fun H hH=>hK _ hH) h
       | ext x=>exact ih (fun H hH=>hK _ hH) h
  exact key (fun H hH=>by rw [hH]) hrow)
 obtain ⟨σ2,β2,hr2,hl2⟩:=hle σ' β' { tmps := #[u],defers:=[] } w' ⟨rfl,rfl,fun i=>by
  match i with
  | 0=>simpa [getS] using hrep
  | i+1=>exact .p (by simpa [getS] using Rep.any _),hrel⟩
 exact ⟨.p (.sl es),u,σ2,β2,H0,he,⟨es,rfl,rfl,hQ⟩,by simpa [getS] using hr2.slots 0,hr2.heap,hlat.trans hl2⟩
theorem q5b (p:Pg) (j:Nat) (f:Pr) (n:Int) (real:AV) (lv:List AV) (hj:p.procs[j]? = some f) (hc:VU p.procs<=1000) (hn:0<=n∧n<=5000) (l:List Step) (hlen:l.length<=1000000) :
  SpecH Tryz.prog 156 [.ptr 1000 0,.p (UQ l)] (z4i p j n real lv) (fun r H => ∃ es,r = .p (.sl es)∧H=z4i p j n real lv∧es=avP (l.map (ixP p j f n))):=by
 refine MM (e:=227) (sz:=2) rfl ?_;refine sH GJ Tryz.func156 rfl Tryz.call156 ?_;conv=>whnf
 repeat' (refine iM fun _=>?_;conv=>whnf)
 have hl:(l.map fun s=>AV.agg s.cells).length=l.length:=length_map _;refine LoopK.inv QU (fun i:Nat×List (Int×Int)=>⟨[(0,.ptr 1000 0),(5,.hd 0 0 i.2.length),(8,.p (UQ l)),(9,.p (.int .i64 (l.map fun s=>AV.agg s.cells).length)),(10,.p (.int .i64 i.1))],(0,.own 227 2 (avP i.2))::z4i p j n real lv⟩)
  (fun i=>i.1<=l.length∧i.2=(l.take i.1).map (ixP p j f n)) (fun i=>l.length-i.1) (0,[])
  (Le.mk [(0,.own 227 2 [])] (by simp [Chunk.new0];rfl) (by simp) (by simp [z4i]) (.cons (.refl _) (.cons (.nil mem_cons_self) (.cons (.refl _) (.cons (.refl _) (.cons (.refl _) .nil))))) (.new mem_cons_self (.cons rfl (.refl _) (.cons rfl (.refl _) .nil))))
  ⟨zero_le _,rfl⟩ ?_
 rintro ⟨m,acc⟩ ⟨h2,h3⟩;simp only at h2 h3 ⊢;rcases Nat.lt_or_ge m l.length with hm|hm;rotate_left 1
 ·rw [take_of_length_le hm] at h3;subst h3;conv=>whnf
  repeat' (apply bD<;>intro _<;>first|omega|conv=>whnf)
  exact ⟨_,LSub.refl _,avP (l.map (ixP p j f n)),by simp [avP],rfl,rfl⟩
 have hacl:acc.length=m:=by rw [h3];simp;omega
 conv=>whnf
 repeat' (first|((first|refine dA ?_|refine And.intro rfl ?_|refine aD ?_|refine bP ?_|(refine iA fun _=>?_)|refine wI ?_|refine AppK.mk (by simp [avP]) rfl (by show (acc.length+1)*16<=140737488355328;omega) (by show acc.length+1<=9223372036854775807;omega) (fun x hx=>by rcases List.mem_singleton.1 hx with rfl;exact ⟨rfl,rfl⟩) ?_);conv=>whnf)|(apply bD<;>intro _<;>first|omega|conv=>whnf)|(refine CallK.heap [(1000,1000),(2000,2000)] 0 (by repeat' (first|exact ArgsH.nil|refine ArgsH.cons ?_ ?_|exact LSub.refl _|exact LSub.p Sub.nils|exact LSub.p (Sub.tt rfl)|exact LSub.p (Sub.ff rfl)|exact LSub.p (Sub.int (by omega)))) (by refine BlksH.cons (j:=1000) rfl rfl ?_ ?_;exact CSub.refl _;refine BlksH.cons (j:=2000) rfl rfl ?_ ?_;exact CSub.refl _;exact BlksH.nil) (q7a p j f n real lv hj hc hn _) rfl rfl ?_;rintro l' H' ⟨rfl,rfl⟩;conv=>whnf))
 exact ⟨(m+1,acc++[ixP p j f n l[m]]),⟨by simp only;omega,by simp only;rw [h3,List.take_succ_eq_append_getElem hm,List.map_append];rfl⟩,by simp only;omega,Le.mk [] (by simp) (by simp) (by simp [z4i]) (.cons (.refl _) (.cons (.of_eq (by simp only [length_append];rfl)) (.cons (.refl _) (.cons (.refl _) (.cons (.of_eq rfl) .nil))))) (.cons rfl (.of_eq (by simp only [avP,List.map_append];rfl)) (.cons rfl (.refl _) (.cons rfl (.refl _) .nil)))⟩
theorem x2m {l:List Int} {x:Int} (h:l.Pairwise (· <= ·)):(NO l (l.countP (· < x)) x).Pairwise (· <= ·):=by
 induction l with
 | nil=>simp [NO]
 | cons a r ih =>
   obtain ⟨h1,h2⟩:=List.pairwise_cons.1 h;by_cases ha:a<x
   ·have e:NO (a::r) ((a::r).countP (· < x)) x=a::NO r (r.countP (· < x)) x:=by
     unfold NO;rw [List.countP_cons_of_pos (by simpa using ha)];rfl
    rw [e,List.pairwise_cons];refine ⟨fun b hb => ?_,ih h2⟩;unfold NO at hb;rcases List.mem_append.1 hb with hb|hb
    ·exact h1 b (List.mem_of_mem_take hb)
    ·rcases List.mem_cons.1 hb with rfl|hb
     ·omega
     ·exact h1 b (List.mem_of_mem_drop hb)
   ·have e0:(a::r).countP (· < x)=0:=by
     rw [List.countP_eq_zero];intro b hb;rcases List.mem_cons.1 hb with rfl|hb
     ·simpa using ha
     ·have:=h1 b hb;simp;omega
    rw [e0];show (x::a::r).Pairwise (· <= ·);refine List.pairwise_cons.2 ⟨fun b hb => ?_,h⟩;rcases List.mem_cons.1 hb with rfl|hb
    ·omega
    ·have:=h1 b hb;omega
def q1m (n m:Nat) (N:List (List Int)):Prop:=N.length=n ∧ ∀ r∈N,r.Pairwise (· <= ·)∧r.length<=m
theorem x0v {n m:Nat} {N:List (List Int)} (h:q1m n m N) (a:Nat) (b:Int):q1m n (m+1) (x0q N a b):=by
 unfold x0q;refine ⟨by rw [length_set];exact h.1,fun r hr => ?_⟩;rcases List.mem_or_eq_of_mem_set hr with hr|rfl
 ·obtain ⟨h1,h2⟩:=h.2 r hr;exact ⟨h1,by omega⟩
 ·rcases Nat.lt_or_ge a N.length with ha|ha
  ·have hm:N.getD a []∈N:=by
    rw [List.getD_eq_getElem?_getD,List.getElem?_eq_getElem ha];exact List.getElem_mem ha
   obtain ⟨h1,h2⟩:=h.2 _ hm;exact ⟨x2m h1,by rw [LM List.countP_le_length];omega⟩
  ·have:N.getD a []=[]:=by simp [List.getElem?_eq_none ha]
   rw [this];exact ⟨by simp [NO],by simp [NO]⟩
theorem q3p {n m m':Nat} {N:List (List Int)} (h:q1m n m N) (hm:m<=m'):q1m n m' N:=⟨h.1,fun r hr=>⟨(h.2 r hr).1,Nat.le_trans (h.2 r hr).2 hm⟩⟩
def x3v (n:Nat) (g:List (List Int)×List (List Int)) (e:Int×Int):List (List Int)×List (List Int) :=
 bif ZC n e.1&&ZC n e.2 && !(g.1.getD e.1.toNat []).contains e.2 then (x0q g.1 e.1.toNat e.2,x0q g.2 e.2.toNat e.1) else g
def XY (n:Nat) (l:List (Int×Int)):List (List Int)×List (List Int):=l.foldl (x3v n) (List.replicate n [],List.replicate n [])
def z6h (m:List (List Int)):AV := .sl ((avI m).map .sl)
def q0t (g:List (List Int)×List (List Int)):AV := .ip [z6h g.1,z6h g.2]
theorem q3r (n:Nat) (g:List (List Int)×List (List Int)) (e:Int×Int):(x3v n g e).1=bif ZC n e.1&&ZC n e.2 && !(g.1.getD e.1.toNat []).contains e.2 then x0q g.1 e.1.toNat e.2 else g.1:=by
 unfold x3v;cases ZC n e.1&&ZC n e.2 && !(g.1.getD e.1.toNat []).contains e.2<;>rfl
theorem x4g (n:Nat) (g:List (List Int)×List (List Int)) (e:Int×Int):(x3v n g e).2=bif ZC n e.1&&ZC n e.2 && !(g.1.getD e.1.toNat []).contains e.2 then x0q g.2 e.2.toNat e.1 else g.2:=by
 unfold x3v;cases ZC n e.1&&ZC n e.2 && !(g.1.getD e.1.toNat []).contains e.2<;>rfl
theorem z5p {n m:Nat} {g:List (List Int)×List (List Int)} (h:q1m n m g.1∧q1m n m g.2) (e:Int×Int):q1m n (m+1) (x3v n g e).1∧q1m n (m+1) (x3v n g e).2:=by
 rw [q3r,x4g];cases ZC n e.1&&ZC n e.2 && !(g.1.getD e.1.toNat []).contains e.2
 ·exact ⟨q3p h.1 (by omega),q3p h.2 (by omega)⟩
 ·exact ⟨x0v h.1 _ _,x0v h.2 _ _⟩
theorem DY {n m:Nat} {l:List (Int×Int)} (hm:m<l.length):XY n (l.take (m+1))=x3v n (XY n (l.take m)) l[m]:=by
 unfold XY;rw [List.take_succ_eq_append_getElem hm,List.foldl_append];rfl
theorem NM {n:Nat} {l:List (Int×Int)} : ∀ {m:Nat},m<=l.length->q1m n m (XY n (l.take m)).1∧q1m n m (XY n (l.take m)).2
 | 0,_=>by
   have:q1m n 0 (List.replicate n []):=⟨by simp,fun r hr=>by rw [List.eq_of_mem_replicate hr];simp⟩;exact ⟨this,this⟩
 | m+1,h=>by
   rw [DY h];exact z5p (NM (by omega)) _
theorem q4a {N':Nat} {sl:List (Nat×LV)} (n a b:Nat) (h0:(sl.all fun x=>x.2.xfree 0)=true) (h1:(sl.all fun x=>x.2.xfree 1)=true) :
  Le N' ⟨sl,[(2,.obj 273 [.hd a 0 n,.hd b 0 n]),(1,.own 70 1 (List.replicate n .nils)),(0,.own 70 1 (List.replicate n .nils))]⟩
   ⟨sl,[(2,.obj 273 [.hd a 0 n,.hd b 0 n]),(1,.ext (.mat 70 3 1 (List.replicate n []) [])),(0,.ext (.mat 70 3 1 (List.replicate n []) []))]⟩:=by
 have hm:=x5r (N:=N') (sl:=sl) (H:=[(2,.obj 273 [.hd a 0 n,.hd b 0 n]),(1,.own 70 1 (List.replicate n .nils)),(0,.own 70 1 (List.replicate n .nils))])
  (H':=[(2,.obj 273 [.hd a 0 n,.hd b 0 n]),(1,.own 70 1 (List.replicate n .nils)),(0,.ext (.mat 70 3 1 (List.replicate (List.replicate n AV.nils).length []) []))])
  0 3 1 (e:=70) (es:=List.replicate n .nils) rfl (fun x hx=>List.eq_of_mem_replicate hx) rfl h0 rfl rfl (by simp [KH])
 have hm2:=x5r (N:=N') (sl:=sl) (H:=[(2,.obj 273 [.hd a 0 n,.hd b 0 n]),(1,.own 70 1 (List.replicate n .nils)),(0,.ext (.mat 70 3 1 (List.replicate (List.replicate n AV.nils).length []) []))])
  (H':=[(2,.obj 273 [.hd a 0 n,.hd b 0 n]),(1,.ext (.mat 70 3 1 (List.replicate (List.replicate n AV.nils).length []) [])),(0,.ext (.mat 70 3 1 (List.replicate (List.replicate n AV.nils).length []) []))])
  1 3 1 (e:=70) (es:=List.replicate n .nils) rfl (fun x hx=>List.eq_of_mem_replicate hx) rfl h1 rfl rfl (by simp [KH])
 have:=hm.trans hm2;simpa using this
theorem q9r (n:Nat) (hn:n<=5000) (l:List (Int×Int)) (hlen:l.length<=1000000):SpecP Tryz.prog 256 [.int .i64 n,.sl (avP l)] (fun r=>r=q0t (XY n l)):=by
 refine sB x1d Tryz.func256 rfl Tryz.call256 ?_;conv=>whnf
 repeat' (first|((first|(refine iM fun _=>?_)|refine dA ?_|refine And.intro rfl ?_|refine aR ?_|refine MkK.mk n rfl (by show 24*n<=140737488355328;omega) (by unfold maxLen;omega) ?_);conv=>whnf)|(apply bD<;>intro _<;>first|omega|conv=>whnf)|(refine And.intro ?_ ?_<;>conv=>whnf))
 all_goals have hl:(avP l).length=l.length:=length_map _
 ·refine LoopK.inv QU (fun m:Nat=>⟨[(5,.ptr (0+1+1) 0),(20,.p (.sl (avP l))),(21,.p (.int .i64 (avP l).length)),(22,.p (.int .i64 m))],[(0+1+1,.obj 273 [.hd 0 0 n,.hd (0+1) 0 n]),(0,.ext (.mat 70 3 1 (avI (XY n (l.take m)).1) [])),(0+1,.ext (.mat 70 3 1 (avI (XY n (l.take m)).2) []))]⟩)
   (fun m=>m<=l.length) (fun m=>l.length-m) 0 (by
     refine Le.trans (q4a n _ _ rfl rfl) ?_;exact Le.mk [] (by simp) (by simp) (by simp) (.cons (.refl _) (.cons (.refl _) (.cons (.refl _) (.cons (.refl _) .nil)))) (.cons rfl (.refl _) (.cons rfl (.of_eq (by simp [avI,XY])) (.cons rfl (.of_eq (by simp [avI,XY])) .nil)))) (zero_le _) ?_
  rintro m h2;obtain ⟨g1,g2⟩:=NM (n:=n) h2;rcases Nat.lt_or_ge m l.length with hm|hm
  ·have hme:(avP l)[m]? = some (.agg [.int .i64 l[m].1,.int .i64 l[m].2]):=by simp [avP,hm]
   conv=>whnf
   repeat' (first|((first|refine And.intro rfl ?_|refine wI ?_|(refine IdxK.at rfl hme rfl ?_)|refine IdxL.mk 0 rfl (by decide) ?_|refine IdxL.mk 1 rfl (by decide) ?_);conv=>whnf)|(apply bD<;>intro _<;>first|omega|conv=>whnf)|(refine CallK.heap [(1000,0+1+1),(2001,0),(2002,1)] 0 (by repeat' (first|exact ArgsH.nil|refine ArgsH.cons ?_ ?_|exact LSub.refl _|exact LSub.p Sub.nils|exact LSub.p (Sub.tt rfl)|exact LSub.p (Sub.ff rfl)|exact LSub.p (Sub.int (by omega)))) (by refine BlksH.cons (j:=2) rfl rfl ?_ ?_;exact CSub.refl _;refine BlksH.cons (j:=0) rfl rfl ?_ ?_;exact CSub.refl _;refine BlksH.cons (j:=1) rfl rfl ?_ ?_;exact CSub.refl _;exact BlksH.nil) (x0y n _ _ l[m].1 l[m].2 g1.1 g2.1 hn (fun r hr=>⟨(g1.2 r hr).1,by have:=(g1.2 r hr).2;omega⟩) (fun r hr=>⟨(g2.2 r hr).1,by have:=(g2.2 r hr).2;omega⟩)) rfl rfl ?_;rintro l' H' ⟨t,rfl,rfl⟩;conv=>whnf))
   exact ⟨m+1,hm,by omega,Le.of_eq (by rw [DY hm,q3r,x4g];rfl)⟩
  ·rw [take_of_length_le hm] at g1 g2 ⊢;conv=>whnf
   repeat' (apply bD<;>intro _<;>first|omega|conv=>whnf)
   exact ⟨_,.ptr (cs:=[z6h (XY n l).1,z6h (XY n l).2]) rfl rfl (fun i x c h1 h3=>by
    match i,h1,h3 with
    | 0,h1,h3=>cases h1;cases h3;exact .mat rfl (by rw [avI,length_map,g1.1])
    | 1,h1,h3=>cases h1;cases h3;exact .mat rfl (by rw [avI,length_map,g2.1])),rfl⟩
 ·refine LoopK.inv QU (fun m:Nat=>⟨[(5,.ptr (0+1+1) 0),(20,.p (.sl (avP l))),(21,.p (.int .i64 (avP l).length)),(22,.p (.int .i64 m))],[(0+1+1,.obj 273 [.hd (0+1) 0 n,.hd 0 0 n]),(0+1,.ext (.mat 70 3 1 (avI (XY n (l.take m)).1) [])),(0,.ext (.mat 70 3 1 (avI (XY n (l.take m)).2) []))]⟩)
   (fun m=>m<=l.length) (fun m=>l.length-m) 0 (by
     refine Le.trans (q4a n _ _ rfl rfl) ?_;exact Le.mk [] (by simp) (by simp) (by simp) (.cons (.refl _) (.cons (.refl _) (.cons (.refl _) (.cons (.refl _) .nil)))) (.cons rfl (.refl _) (.cons rfl (.of_eq (by simp [avI,XY])) (.cons rfl (.of_eq (by simp [avI,XY])) .nil)))) (zero_le _) ?_
  rintro m h2;obtain ⟨g1,g2⟩:=NM (n:=n) h2;rcases Nat.lt_or_ge m l.length with hm|hm
  ·have hme:(avP l)[m]? = some (.agg [.int .i64 l[m].1,.int .i64 l[m].2]):=by simp [avP,hm]
   conv=>whnf
   repeat' (first|((first|refine And.intro rfl ?_|refine wI ?_|(refine IdxK.at rfl hme rfl ?_)|refine IdxL.mk 0 rfl (by decide) ?_|refine IdxL.mk 1 rfl (by decide) ?_);conv=>whnf)|(apply bD<;>intro _<;>first|omega|conv=>whnf)|(refine CallK.heap [(1000,0+1+1),(2001,1),(2002,0)] 0 (by repeat' (first|exact ArgsH.nil|refine ArgsH.cons ?_ ?_|exact LSub.refl _|exact LSub.p Sub.nils|exact LSub.p (Sub.tt rfl)|exact LSub.p (Sub.ff rfl)|exact LSub.p (Sub.int (by omega)))) (by refine BlksH.cons (j:=2) rfl rfl ?_ ?_;exact CSub.refl _;refine BlksH.cons (j:=1) rfl rfl ?_ ?_;exact CSub.refl _;refine BlksH.cons (j:=0) rfl rfl ?_ ?_;exact CSub.refl _;exact BlksH.nil) (x0y n _ _ l[m].1 l[m].2 g1.1 g2.1 hn (fun r hr=>⟨(g1.2 r hr).1,by have:=(g1.2 r hr).2;omega⟩) (fun r hr=>⟨(g2.2 r hr).1,by have:=(g2.2 r hr).2;omega⟩)) rfl rfl ?_;rintro l' H' ⟨t,rfl,rfl⟩;conv=>whnf))
   exact ⟨m+1,hm,by omega,Le.of_eq (by rw [DY hm,q3r,x4g];rfl)⟩
  ·rw [take_of_length_le hm] at g1 g2 ⊢;conv=>whnf
   repeat' (apply bD<;>intro _<;>first|omega|conv=>whnf)
   exact ⟨_,.ptr (cs:=[z6h (XY n l).1,z6h (XY n l).2]) rfl rfl (fun i x c h1 h3=>by
    match i,h1,h3 with
    | 0,h1,h3=>cases h1;cases h3;exact .mat rfl (by rw [avI,length_map,g1.1])
    | 1,h1,h3=>cases h1;cases h3;exact .mat rfl (by rw [avI,length_map,g2.1])),rfl⟩
def HO (st:List Bool×List Int) (b:Int):List Bool×List Int:=bif st.1.getD b.toNat false then st else (st.1.set b.toNat true,st.2++[b])
def UO (rows:List (List Int)):Nat->Nat->List Bool×List Int->List Bool×List Int
 | 0,_,st=>st
 | k+1,i,st=>match st.2[i]? with
   | some a=>UO rows k (i+1) ((rows.getD a.toNat []).foldl HO st)
   | none=>st
def wkInv (n:Nat) (st:List Bool×List Int):Prop:=st.1.length=n∧st.2.length<=st.1.count true ∧ ∀ x∈st.2,0<=x∧x<n
theorem DH {n:Nat} {st:List Bool×List Int} (h:wkInv n st) {b:Int} (hb:0<=b∧b<n):wkInv n (HO st b):=by
 unfold HO;obtain ⟨h1,h2,h3⟩:=h;have hlt:b.toNat<st.1.length:=by omega
 cases hs:st.1.getD b.toNat false with
 | true=>exact ⟨h1,h2,h3⟩
 | false =>
   have hg:st.1[b.toNat]=false:=by simpa [hlt] using hs
   refine ⟨by simpa using h1,?_,fun x hx => ?_⟩
   ·simp only [cond_false,length_append,List.length_singleton];rw [List.count_set hlt,hg];simp;omega
   ·rcases List.mem_append.1 hx with hx|hx
    ·exact h3 x hx
    ·rw [List.mem_singleton.1 hx];exact hb
theorem x9v {n:Nat} {l:List Int} : ∀ {st:List Bool×List Int},wkInv n st->(∀ b∈l,0<=b∧b<n)->wkInv n (l.foldl HO st):=by
 induction l with
 | nil=>intro st h _;exact h
 | cons b r ih=>intro st h hl;exact ih (DH h (hl b mem_cons_self)) fun c hc=>hl c (List.mem_cons_of_mem _ hc)
theorem DT {n:Nat} {st:List Bool×List Int} (h:wkInv n st):st.2.length<=n:=by
 refine Nat.le_trans h.2.1 ?_;rw [<- h.1];exact List.count_le_length
def WU (n:Nat) (rows:List (List Int)):Prop:=rows.length=n ∧ ∀ r∈rows,∀ b∈r,0<=b∧b<n
def z1m (st:List Bool×List Int):Heap:=[(1000,.own 4 1 (st.1.map bv)),(2000,.own 3 1 (st.2.map (.int .i64)))]
theorem x7a (n:Nat) (hn:n<=5000) (rows:List (List Int)) (hr:WU n rows) (st:List Bool×List Int) (hs:wkInv n st) :
  SpecH Tryz.prog 258 [.p (z6h rows),.hd 1000 0 n,.hd 2000 0 st.2.length] (z1m st) (fun r H=>r = .hd 2000 0 (UO rows (n+1) 0 st).2.length∧H=z1m (UO rows (n+1) 0 st)):=by
 refine sH q8k Tryz.func258 rfl Tryz.call258 ?_;conv=>whnf
 skip
 refine LoopK.inv QU (fun x:Nat×List Bool×List Int=>⟨[(0,.p (z6h rows)),(1,.hd 1000 0 n),(2,.hd 2000 0 x.2.2.length),(7,.p (.int .i64 x.1))],z1m x.2⟩)
  (fun x=>wkInv n x.2∧x.1<=x.2.2.length∧UO rows (n+1-x.1) x.1 x.2=UO rows (n+1) 0 st) (fun x=>n-x.1) (0,st) (Le.of_eq rfl) ⟨hs,zero_le _,rfl⟩ ?_
 rintro ⟨i,seen,todo⟩ ⟨h1,h2,h3⟩;simp only at h1 h2 h3 ⊢;have hle:=DT h1;simp only at hle;rw [show n+1-i=n-i+1 by omega,UO] at h3;rcases Nat.lt_or_ge i todo.length with hi|hi;rotate_left 1
 ·simp only [List.getElem?_eq_none hi] at h3;conv=>whnf
  repeat' (first|(refine iM fun _=>?_;conv=>whnf)|(apply bD<;>intro _<;>first|omega|conv=>whnf))
  exact ⟨_,LSub.of_eq (by rw [<- h3]),rfl,by rw [<- h3];rfl⟩
 simp only [List.getElem?_eq_getElem hi] at h3;have hx:=h1.2.2 _ (List.getElem_mem hi);have hxr:todo[i].toNat<rows.length:=by rw [hr.1];omega
 have hrow:((avI rows).map AV.sl)[todo[i].toNat]? = some (.sl (rows[todo[i].toNat].map (.int .i64))):=by simp [avI,hxr]
 have hgd:rows.getD todo[i].toNat []=rows[todo[i].toNat]:=by simp [hxr]
 rw [hgd] at h3;have hrin:=hr.2 _ (List.getElem_mem hxr);conv=>whnf
 repeat' (first|((first|(refine iM fun _=>?_)|refine And.intro rfl ?_|refine IdxL.mk i (by omega) (by omega) ?_|refine LdOwn.mk i 0 (.int .i64 todo[i]) (by omega) (by simp [hi]) ?_|(refine IdxK.at (by omega) hrow rfl ?_));conv=>whnf)|(apply bD<;>intro _<;>first|omega|conv=>whnf))
 have hrb:(rows[todo[i].toNat].map (AV.int .i64)).length<=9223372036854775807:=by assumption
 generalize rows[todo[i].toNat]=row at hrin h3 hrb ⊢;have hrl:(row.map (AV.int .i64)).length=row.length:=length_map _;refine LoopK.inv QU (fun x:Nat×List Bool×List Int=>⟨[(0,.p (z6h rows)),(1,.hd 1000 0 n),(2,.hd 2000 0 x.2.2.length),(7,.p (.int .i64 i)),(22,.p (.sl (row.map (.int .i64)))),(23,.p (.int .i64 (row.map (AV.int .i64)).length)),(24,.p (.int .i64 x.1))],z1m x.2⟩)
  (fun x=>wkInv n x.2∧todo.length<=x.2.2.length∧x.1<=row.length∧UO rows (n-i) (i+1) ((row.drop x.1).foldl HO x.2)=UO rows (n+1) 0 st) (fun x=>row.length-x.1) (0,seen,todo) (Le.of_eq rfl) ⟨h1,Nat.le_refl _,zero_le _,h3⟩ ?_
 rintro ⟨q,s2,t2⟩ ⟨h4,h5,h6,h7⟩;simp only at h4 h5 h6 h7 ⊢;have hle2:=DT h4;simp only at hle2;rcases Nat.lt_or_ge q row.length with hq|hq;rotate_left 1
 ·rw [drop_eq_nil_of_le hq] at h7;conv=>whnf
  repeat' (first|(refine wI ?_;conv=>whnf)|(apply bD<;>intro _<;>first|omega|conv=>whnf))
  exact ⟨(i+1,s2,t2),⟨h4,by simp only;omega,by simp only;rw [show n+1-(i+1)=n-i by omega];exact h7⟩,by simp only;omega,Le.of_eq rfl⟩
 rw [drop_eq_getElem_cons hq,List.foldl_cons] at h7;have hb:=hrin _ (List.getElem_mem hq);have h8:=DH h4 hb;have hbl:row[q].toNat<s2.length:=by have:=h4.1;simp only at this;omega
 cases hsb:s2.getD row[q].toNat false with
 | true =>
   have e1:HO (s2,t2) row[q]=(s2,t2):=by unfold HO;simp only [hsb,cond_true]
   have e2:(s2.map bv)[row[q].toNat]? = some .tt:=by
    have:s2[row[q].toNat]=true:=by simpa [hbl] using hsb
    simp [hbl,this,bv]
   rw [e1] at h7;conv=>whnf
   repeat' (first|((first|refine And.intro rfl ?_|(refine iA fun _=>?_)|refine wI ?_|refine IdxL.mk row[q].toNat (by omega) (by have:=h4.1;simp only at this;omega) ?_|refine LdOwn.mk row[q].toNat 0 .tt (by omega) e2 ?_);conv=>whnf)|(apply bD<;>intro _<;>first|omega|conv=>whnf))
   all_goals exact ⟨(q+1,s2,t2),⟨h4,h5,by simp only;omega,h7⟩,by simp only;omega,Le.of_eq rfl⟩
 | false =>
   have e1:HO (s2,t2) row[q]=(s2.set row[q].toNat true,t2++[row[q]]):=by unfold HO;simp only [hsb,cond_false]
   have e2:(s2.map bv)[row[q].toNat]? = some .ff:=by
    have:s2[row[q].toNat]=false:=by simpa [hbl] using hsb
    simp [hbl,this,bv]
   rw [e1] at h7 h8;conv=>whnf
   repeat' (first|((first|refine And.intro rfl ?_|refine aD ?_|refine bP ?_|(refine iA fun _=>?_)|refine wI ?_|refine IdxL.mk row[q].toNat (by omega) (by have:=h4.1;simp only at this;omega) ?_|refine LdOwn.mk row[q].toNat 0 .ff (by omega) e2 ?_|refine StOwn.mk row[q].toNat 0 .ff .tt (by omega) e2 (Nat.le_refl 1) rfl ?_|refine YQ (by simp) (by simp;omega) ?_);conv=>whnf)|(apply bD<;>intro _<;>first|omega|conv=>whnf))
   all_goals exact ⟨(q+1,s2.set row[q].toNat true,t2++[row[q]]),⟨h8,by simp;omega,by simp only;omega,h7⟩,by simp only;omega,Le.of_eq (by simp only [z1m,length_append,List.map_append,List.map_set];rfl)⟩
def PL:Nat->List Bool->List Int
 | _,[]=>[]
 | i,b::r=>bif b then (i:Int)::PL (i+1) r else PL (i+1) r
theorem q9c (seen:List Bool) (hn:seen.length<=1000000) :
  SpecH Tryz.prog 259 [.hd 1000 0 seen.length] [(1000,.own 4 1 (seen.map bv))] (fun r H => ∃ es,r = .p (.sl es)∧H=[(1000,.own 4 1 (seen.map bv))]∧es=(PL 0 seen).map (.int .i64)):=by
 refine MM (e:=3) (sz:=1) rfl ?_;refine sH q2a Tryz.func259 rfl Tryz.call259 ?_;conv=>whnf
 repeat' (refine iM fun _=>?_;conv=>whnf)
 refine LoopK.inv QU (fun i:Nat×List Int=>⟨[(3,.hd 0 0 i.2.length),(6,.hd 1000 0 seen.length),(7,.p (.int .i64 seen.length)),(8,.p (.int .i64 i.1))],[(0,.own 3 1 (i.2.map (.int .i64))),(1000,.own 4 1 (seen.map bv))]⟩)
  (fun i=>i.1<=seen.length∧i.2.length<=i.1∧i.2++PL i.1 (seen.drop i.1)=PL 0 seen) (fun i=>seen.length-i.1) (0,[])
  (Le.mk [(0,.own 3 1 [])] (by simp [Chunk.new0];rfl) (by simp) (by simp) (.cons (.nil mem_cons_self) (.cons (.refl _) (.cons (.refl _) (.cons (.refl _) .nil)))) (.new mem_cons_self (.cons rfl (.refl _) .nil)))
  ⟨zero_le _,Nat.le_refl _,rfl⟩ ?_
 rintro ⟨m,acc⟩ ⟨h2,h3,h4⟩;simp only at h2 h3 h4 ⊢;rcases Nat.lt_or_ge m seen.length with hm|hm;rotate_left 1
 ·rw [drop_eq_nil_of_le hm,PL,append_nil] at h4;subst h4;conv=>whnf
  repeat' (apply bD<;>intro _<;>first|omega|conv=>whnf)
  exact ⟨_,LSub.refl _,(PL 0 seen).map (.int .i64),by simp,rfl,rfl⟩
 rw [drop_eq_getElem_cons hm,PL] at h4;cases hsb:seen[m] with
 | true =>
   rw [hsb,cond_true] at h4;have e2:(seen.map bv)[m]? = some .tt:=by simp [hm,hsb,bv]
   conv=>whnf
   repeat' (first|((first|refine And.intro rfl ?_|refine aD ?_|refine bP ?_|refine wI ?_|refine IdxL.mk m rfl hm ?_|refine LdOwn.mk m 0 .tt (by omega) e2 ?_|refine YQ (by simp) (by simp;omega) ?_);conv=>whnf)|(apply bD<;>intro _<;>first|omega|conv=>whnf))
   exact ⟨(m+1,acc++[(m:Int)]),⟨by simp only;omega,by simp;omega,by simpa using h4⟩,by simp only;omega,Le.of_eq (by simp only [length_append,List.map_append];rfl)⟩
 | false =>
   rw [hsb,cond_false] at h4;have e2:(seen.map bv)[m]? = some .ff:=by simp [hm,hsb,bv]
   conv=>whnf
   repeat' (first|((first|refine And.intro rfl ?_|refine wI ?_|refine IdxL.mk m rfl hm ?_|refine LdOwn.mk m 0 .ff (by omega) e2 ?_);conv=>whnf)|(apply bD<;>intro _<;>first|omega|conv=>whnf))
   exact ⟨(m+1,acc),⟨by simp only;omega,by simp only;omega,h4⟩,by simp only;omega,Le.of_eq rfl⟩
theorem q1a (g:List (List Int)×List (List Int)) (a:Int):SpecP Tryz.prog 257 [q0t g,.int .i64 a] (fun r=>r = .bool (ZC g.1.length a)):=by
 refine sB YE Tryz.func257 rfl Tryz.call257 ?_;conv=>whnf
 repeat' (first|(refine iM fun _=>?_;conv=>whnf)|(apply bD<;>intro _<;>first|omega|conv=>whnf))
 all_goals have hl:((avI g.1).map AV.sl).length=g.1.length:=by simp [avI]
 all_goals first
  | exact RetK.bool (by unfold ZC;simp [*];done)
  | exact RetK.ff (by unfold ZC;simp;omega)
 all_goals trace_state
def GS (n:Nat) (l:List Int):List Bool×List Int:=l.foldl (fun st a=>bif ZC n a then HO st a else st) (List.replicate n false,[])
def UP (rows:List (List Int)) (l:List Int):List Bool:=(UO rows (rows.length+1) 0 (GS rows.length l)).1
theorem DV (n:Nat):wkInv n (List.replicate n false,[]):=⟨by simp,by simp [List.count_replicate],by simp⟩
theorem q2y {n:Nat} {rows:List (List Int)} (hr:WU n rows) : ∀ (k i:Nat) {st:List Bool×List Int},wkInv n st->wkInv n (UO rows k i st)
 | 0,_,_,h=>h
 | k+1,i,st,h=>by
   rw [UO];split
   ·rename_i a ha;have hx:=h.2.2 a (List.mem_of_getElem? ha);refine q2y hr k (i+1) (x9v h ?_);have hlt:a.toNat<rows.length:=by rw [hr.1];omega
    rw [List.getD_eq_getElem?_getD,List.getElem?_eq_getElem hlt];exact hr.2 _ (List.getElem_mem hlt)
   ·exact h
theorem ZV {n:Nat} {a:Int} (h:ZC n a=true):0<=a∧a<n:=by
 unfold ZC at h;simpa using h
theorem YI (n:Nat) (hn:n<=5000) (g:List (List Int)×List (List Int)) (hg:WU n g.1) (l:List Int) (hlen:l.length<=1000000):SpecP Tryz.prog 205 [q0t g,XW l] (fun r=>r=XW (PL 0 (UP g.1 l))):=by
 refine sB FG Tryz.func205 rfl Tryz.call205 ?_;conv=>whnf
 have hl:((avI g.1).map AV.sl).length=n:=by simp [avI,hg.1]
 repeat' ((first|(refine iM fun _=>?_)|refine aR ?_|refine MkK.mk n (by rw [hl]) (by show 1*n<=140737488355328;omega) (by unfold maxLen;omega) ?_);conv=>whnf)
 have hll:(l.map (AV.int .i64)).length=l.length:=length_map _;refine LoopK.inv QU (fun x:Nat×List Bool×List Int=>⟨[(0,.p (q0t g)),(5,.hd 0 0 n),(6,.hd 1 0 x.2.2.length),(17,.p (XW l)),(18,.p (.int .i64 (l.map (AV.int .i64)).length)),(19,.p (.int .i64 x.1))],[(0,.own 4 1 (x.2.1.map bv)),(1,.own 3 1 (x.2.2.map (.int .i64)))]⟩)
  (fun x=>x.1<=l.length∧wkInv n x.2∧(l.drop x.1).foldl (fun st a=>bif ZC n a then HO st a else st) x.2=GS n l) (fun x=>l.length-x.1) (0,List.replicate n false,[])
  (Le.mk [(1,.own 3 1 [])] (by simp [Chunk.new0];rfl) (by simp) (by simp) (.cons (.refl _) (.cons (.refl _) (.cons (.nil mem_cons_self) (.cons (.refl _) (.cons (.refl _) (.cons (.refl _) .nil)))))) (.cons rfl (.of_eq (by rw [List.map_replicate];rfl)) (.new mem_cons_self .nil)))
  ⟨zero_le _,DV n,rfl⟩ ?_
 rintro ⟨m,seen,todo⟩ ⟨h2,h3,h4⟩;simp only at h2 h3 h4 ⊢;have hsl:seen.length=n:=h3.1;have htl:todo.length<=n:=DT h3;rcases Nat.lt_or_ge m l.length with hm|hm;rotate_left 1
 ·rw [drop_eq_nil_of_le hm,List.foldl_nil] at h4;conv=>whnf
  repeat' (first|(apply bD<;>intro _<;>first|omega|conv=>whnf)|(refine CallK.heap [(1000,0),(2000,1)] 0 (by repeat' (first|exact ArgsH.nil|refine ArgsH.cons ?_ ?_|exact LSub.refl _|exact LSub.p Sub.nils|exact LSub.p (Sub.tt rfl)|exact LSub.p (Sub.ff rfl)|exact LSub.p (Sub.int (by omega)))) (by refine BlksH.cons (j:=0) rfl rfl ?_ ?_;exact CSub.refl _;refine BlksH.cons (j:=1) rfl rfl ?_ ?_;exact CSub.refl _;exact BlksH.nil) (x7a n hn g.1 hg (seen,todo) h3) rfl rfl ?_;rintro l' H' ⟨rfl,rfl⟩;conv=>whnf))
  have hwl:(UO g.1 (n+1) 0 (seen,todo)).1.length=n:=(q2y hg _ _ h3).1;refine CallK.heap [(1000,0)] 0 (ArgsH.cons (LSub.of_eq (by rw [hwl];rfl)) ArgsH.nil) (by refine BlksH.cons (j:=0) rfl rfl ?_ ?_;exact CSub.refl _;exact BlksH.nil) (q9c (UO g.1 (n+1) 0 (seen,todo)).1 (by omega)) rfl rfl ?_;rintro l' H' ⟨es,rfl,rfl,rfl⟩;conv=>whnf
  skip
  exact RetK.p (by unfold XW UP;rw [hg.1,<- h4])
 rw [drop_eq_getElem_cons hm,List.foldl_cons] at h4;have hhas:SpecP Tryz.prog 257 [q0t g,.int .i64 l[m]] (fun r=>r = .bool (ZC n l[m])):=by
  have:=q1a g l[m]
  rwa [hg.1] at this
 cases hsb:seen.getD l[m].toNat false with
 | true =>
   have e1:(bif ZC n l[m] then HO (seen,todo) l[m] else (seen,todo))=(seen,todo):=by unfold HO;simp only [hsb,cond_true];cases ZC n l[m]<;>rfl
   have e2:ZC n l[m]=true->(seen.map bv)[l[m].toNat]? = some .tt:=fun h=>by
    have hb:=ZV h;have hlt:l[m].toNat<seen.length:=by omega
    have:seen[l[m].toNat]=true:=by simpa [hlt] using hsb
    simp [hlt,this,bv]
   rw [e1] at h4;conv=>whnf
   repeat' (first|((first|refine And.intro rfl ?_|(refine iA fun _=>?_)|refine wI ?_|refine cP hhas ?_|refine IdxL.mk l[m].toNat (by have:=ZV (by assumption);omega) (by have:=ZV (by assumption);omega) ?_|refine LdOwn.mk l[m].toNat 0 .tt (by omega) (e2 (by assumption)) ?_);conv=>whnf)|(apply bD<;>intro _<;>first|omega|conv=>whnf)|(apply bB<;>intro _<;>conv=>whnf))
   all_goals exact ⟨(m+1,seen,todo),⟨by simp only;omega,h3,h4⟩,by simp only;omega,Le.of_eq rfl⟩
 | false =>
   have e2:ZC n l[m]=true->(seen.map bv)[l[m].toNat]? = some .ff:=fun h=>by
    have hb:=ZV h;have hlt:l[m].toNat<seen.length:=by omega
    have:seen[l[m].toNat]=false:=by simpa [hlt] using hsb
    simp [hlt,this,bv]
   conv=>whnf
   repeat' (first|((first|refine And.intro rfl ?_|refine aD ?_|refine bP ?_|(refine iA fun _=>?_)|refine wI ?_|refine cP hhas ?_|refine IdxL.mk l[m].toNat (by have:=ZV (by assumption);omega) (by have:=ZV (by assumption);omega) ?_|refine LdOwn.mk l[m].toNat 0 .ff (by omega) (e2 (by assumption)) ?_|refine StOwn.mk l[m].toNat 0 .ff .tt (by omega) (e2 (by assumption)) (Nat.le_refl 1) rfl ?_|refine YQ (by simp) (by simp;omega) ?_);conv=>whnf)|(apply bD<;>intro _<;>first|omega|conv=>whnf)|(apply bB<;>intro _<;>conv=>whnf))
   ·have hh:ZC n l[m]=true:=by assumption
    have e1:(bif ZC n l[m] then HO (seen,todo) l[m] else (seen,todo))=(seen.set l[m].toNat true,todo++[l[m]]):=by unfold HO;simp only [hsb,hh,cond_true,cond_false]
    have h8:=DH h3 (ZV hh);rw [e1] at h4;have e3:HO (seen,todo) l[m]=(seen.set l[m].toNat true,todo++[l[m]]):=by unfold HO;simp only [hsb,cond_false]
    rw [e3] at h8;exact ⟨(m+1,seen.set l[m].toNat true,todo++[l[m]]),⟨by simp only;omega,h8,h4⟩,by simp only;omega,Le.of_eq (by simp only [length_append,List.map_append,List.map_set];rfl)⟩
   ·have hh:ZC n l[m]=false:=by assumption
    have e1:(bif ZC n l[m] then HO (seen,todo) l[m] else (seen,todo))=(seen,todo):=by rw [hh];rfl
    rw [e1] at h4;exact ⟨(m+1,seen,todo),⟨by simp only;omega,h3,h4⟩,by simp only;omega,Le.of_eq rfl⟩
theorem q7u (w:Way) (f:Pr) (n:Nat) (hw:w.n=n) (hj:w.p.procs[w.j]? = some f) (hc:VU w.p.procs<=1000) (hn:n<=5000) (l:List Step) (hlen:l.length<=1000000):SpecP Tryz.prog 204 [.ip w.cells,UQ l] (fun r=>r=q0t (XY n (l.map (ixP w.p w.j f w.n)))):=by
 refine sB KI Tryz.func204 rfl Tryz.call204 ?_;conv=>whnf
 repeat' ((first|refine dA ?_|(refine CallK.pure (q5m w f hj hc (by omega) l hlen) (.cons (Sub.refl _) (.cons (Sub.refl _) .nil)) ?_;rintro _ rfl)|(refine CallK.pure (q9r n hn (l.map (ixP w.p w.j f w.n)) (by rw [length_map];exact hlen)) (.cons (Sub.int hw) (.cons (Sub.refl _) .nil)) ?_;rintro _ rfl));conv=>whnf)
 exact RetK.p rfl
theorem q5v (p:Pg) (j:Nat) (f:Pr) (n:Nat) (real:AV) (lv:List AV) (hj:p.procs[j]? = some f) (hc:VU p.procs<=1000) (hn:n<=5000) (l:List Step) (hlen:l.length<=1000000) :
  SpecH Tryz.prog 204 [.ptr 1000 0,.p (UQ l)] (z4i p j n real lv) (fun r H=>r = .p (q0t (XY n (l.map (ixP p j f n))))∧H=z4i p j n real lv):=by
 refine sH KI Tryz.func204 rfl Tryz.call204 ?_;conv=>whnf
 refine DrawK.of QU mixed (.cons 0 false (.cons 1 false (.cons 2 false (.cons 4 false (.cons 5 false (.fork 3 (.cons 6 true (.cons 7 true (.cons 8 true .nil))) 6 (.cons 3 true (.cons 7 true (.cons 8 true .nil))))))))) (by kernel_rfl) ?_;conv=>whnf
 repeat' (first|(refine CallK.pure (q9r n hn (l.map (ixP p j f n)) (by rw [length_map];exact hlen)) (.cons (Sub.refl _) (.cons (Sub.refl _) .nil)) ?_;rintro _ rfl;conv=>whnf)|(refine And.intro ?_ ?_<;>conv=>whnf)|(refine CallK.heap [(1000,1000),(2000,2000)] 0 (by repeat' (first|exact ArgsH.nil|refine ArgsH.cons ?_ ?_|exact LSub.refl _|exact LSub.p Sub.nils|exact LSub.p (Sub.tt rfl)|exact LSub.p (Sub.ff rfl)|exact LSub.p (Sub.int (by omega)))) (by refine BlksH.cons (j:=1000) rfl rfl ?_ ?_;exact CSub.refl _;refine BlksH.cons (j:=2000) rfl rfl ?_ ?_;exact CSub.refl _;exact BlksH.nil) (q5b p j f n real lv hj hc (by omega) l hlen) rfl rfl ?_;rintro l' H' ⟨es,rfl,rfl,rfl⟩;conv=>whnf))
 all_goals exact ⟨_,LSub.refl _,rfl,rfl⟩
theorem q3i {n:Nat} {N:List (List Int)} (h:WU n N) {a:Nat} {b:Int} (hb:0<=b∧b<n):WU n (x0q N a b):=by
 unfold x0q;refine ⟨by rw [length_set];exact h.1,fun r hr x hx => ?_⟩;rcases List.mem_or_eq_of_mem_set hr with hr|rfl
 ·exact h.2 r hr x hx
 ·unfold NO at hx;have hg : ∀ y∈N.getD a [],0<=y∧y<n:=fun y hy=>by
   rcases Nat.lt_or_ge a N.length with ha|ha
   ·rw [List.getD_eq_getElem?_getD,List.getElem?_eq_getElem ha] at hy;exact h.2 _ (List.getElem_mem ha) y hy
   ·rw [List.getD_eq_getElem?_getD,List.getElem?_eq_none ha] at hy;cases hy
  rcases List.mem_append.1 hx with hx|hx
  ·exact hg x (List.mem_of_mem_take hx)
  ·rcases List.mem_cons.1 hx with rfl|hx
   ·exact hb
   ·exact hg x (List.mem_of_mem_drop hx)
theorem z9b {n:Nat} {g:List (List Int)×List (List Int)} (h:WU n g.1∧WU n g.2) (e:Int×Int):WU n (x3v n g e).1∧WU n (x3v n g e).2:=by
 rw [q3r,x4g];cases hc:ZC n e.1&&ZC n e.2 && !(g.1.getD e.1.toNat []).contains e.2
 ·exact h
 ·simp only [Bool.and_eq_true] at hc;exact ⟨q3i h.1 (ZV hc.1.2),q3i h.2 (ZV hc.1.1)⟩
theorem z4o {n:Nat} (l:List (Int×Int)) : ∀ {g:List (List Int)×List (List Int)},WU n g.1∧WU n g.2->WU n (l.foldl (x3v n) g).1∧WU n (l.foldl (x3v n) g).2:=by
 induction l with
 | nil=>intro g h;exact h
 | cons e r ih=>intro g h;exact ih (z9b h e)
theorem q2j (n:Nat) (l:List (Int×Int)):WU n (XY n l).1∧WU n (XY n l).2:=by
 have h0:WU n (List.replicate n []):=⟨by simp,fun r hr=>by rw [List.eq_of_mem_replicate hr];simp⟩;exact z4o l ⟨h0,h0⟩
theorem w2s {n m:Int} {K:Int->Prop} (h:n=m) (h1 : -9223372036854775808<=m) (h2:m<=9223372036854775807) (hK:K m):Wr .i64 n K:=by
 subst h;exact Wr.i64 h1 h2 hK
theorem MY : ∀ (a:Step) (l:List Step),(XG a l).length<=l.length
 | _,[]=>Nat.le_refl _
 | a,b::r=>by
   have:=MY b r;rw [XG];cases ZU b a<;>simp<;>omega
theorem x0k (l:List Step):(WC l).length<=l.length:=by
 unfold WC;rw [<- NL (l:=l)];cases UW l with
 | nil=>exact Nat.le_refl _
 | cons a r =>
   have:=MY a r;simp [MT];omega
theorem z1l (sh:Sheet) (f:Pr) (it:Item):(VB sh f it).length<=2:=by
 unfold VB;split<;>(try split)<;>(try split)<;>(try split)<;>(try split)<;>(try split)<;>simp
theorem MX {α β:Type} {g:α->List β} (h : ∀ x,(g x).length<=2) : ∀ l:List α,(l.flatMap g).length<=2*l.length
 | []=>by simp
 | a::r=>by
   have:=MX h r;have:=h a;rw [List.flatMap_cons,length_append,length_cons];omega
theorem MK (p:Pg) (j:Nat) (f:Pr):(QH p j f).length<=1+2*cntL f.body:=by
 unfold QH;have:=MX (g:=fun it=>(VB (sheetOf p) f it).map (Step.mk it.s.id · 1)) (fun it=>by rw [length_map];exact z1l _ _ _) (itL j 0 (-1) 0 (QR p.procs j) f.body);rw [ZZ] at this;rw [length_cons];omega
theorem q7y : ∀ (i:Nat) (l:List Bool) (a:Int),a∈PL i l->(i:Int)<=a∧a<i+l.length
 | _,[],_,h=>by rw [PL] at h;cases h
 | i,b::r,a,h=>by
   rw [PL] at h;have key:a∈PL (i+1) r->(i:Int)<=a∧a<i+(b::r).length:=fun h=>by
    have:=q7y (i+1) r a h;simp only [length_cons];omega
   cases b with
   | false=>exact key h
   | true =>
     rcases List.mem_cons.1 h with rfl|h
     ·simp only [length_cons];omega
     ·exact key h
theorem x8k (n:Nat) (l:List Int):wkInv n (GS n l):=by
 unfold GS;have : ∀ (l:List Int) (st:List Bool×List Int),wkInv n st->wkInv n (l.foldl (fun st a=>bif ZC n a then HO st a else st) st):=fun l=>by
  induction l with
  | nil=>intro st h;exact h
  | cons a r ih =>
    intro st h;refine ih _ ?_;show wkInv n (bif ZC n a then HO st a else st);cases hb:ZC n a with
    | true=>exact DH h (ZV hb)
    | false=>exact h
 exact this l _ (DV n)
theorem x7c {n:Nat} {rows:List (List Int)} (h:WU n rows) (l:List Int):(UP rows l).length=n:=by
 unfold UP;rw [h.1];exact (q2y h _ _ (x8k n l)).1
def KG (l:List Int) (b:List Bool):List Bool:=l.foldl (fun b a=>b.set a.toNat true) b
def QL (p:Pg) (j:Nat) (f:Pr):Way :=
 let real:=WC (QH p j f);let n:=cntL f.body+2
 ⟨p,j,n,real,KG (PL 0 (UP (XY n (real.map (ixP p j f n))).1 [0])) (List.replicate n false)⟩
theorem z0b (p:Pg) (j:Nat) (f:Pr) (hj:p.procs[j]? = some f) (hc:VU p.procs<=1000) (hl : ∀ it∈itsOf p j f,it.s.kind=7->1<=it.loop∧it.loop<=(sheetOf p).l.length) (hok : ∀ s∈QH p j f,x6m s):SpecP Tryz.prog 128 [.ip (sheetOf p).cells,.int .i64 j] (fun r=>r = .ip (QL p j f).cells):=by
 refine sB z2f Tryz.func128 rfl Tryz.call128 ?_;conv=>whnf
 obtain ⟨_,_,_,hlen,hsp⟩:=QV p;obtain ⟨hlo,hhi,hle,_⟩:=hsp j f hj;repeat' ((first|refine dA ?_|refine And.intro rfl ?_|refine aR ?_|(refine IdxK.at rfl (WL hlo) rfl ?_)|(refine IdxK.at rfl (WL hhi) rfl ?_)|refine cP (MI p j f hj hc hl hok) ?_|refine w2s (m:=cntL f.body) (by omega) (by omega) (by omega) ?_|refine w2s (m:=(cntL f.body+2:Nat)) (by omega) (by omega) (by omega) ?_|refine MkK.mk (cntL f.body+2) rfl (by show 1*_<=140737488355328;omega) (by unfold maxLen;omega) ?_);conv=>whnf)
 have hrl:(WC (QH p j f)).length<=1000000:=by have:=x0k (QH p j f);have:=MK p j f;omega
 refine CallK.heap [(1000,0),(2000,1)] 0 (by repeat' (first|exact ArgsH.nil|refine ArgsH.cons ?_ ?_|exact LSub.refl _|exact LSub.p Sub.nils|exact LSub.p (Sub.tt rfl)|exact LSub.p (Sub.ff rfl)|exact LSub.p (Sub.int (by omega)))) (BlksH.cons (j:=0) rfl rfl (CSub.of_eq (by rw [List.length_replicate];rfl)) (BlksH.cons (j:=1) rfl rfl (CSub.refl _) BlksH.nil)) (q5v p j f (cntL f.body+2) (UQ (WC (QH p j f))) (List.replicate (cntL f.body+2) .ff) hj hc (by omega) (WC (QH p j f)) hrl) rfl rfl ?_;rintro l' H' ⟨rfl,rfl⟩;conv=>whnf
 obtain ⟨hgi,_⟩:=q2j (cntL f.body+2) ((WC (QH p j f)).map (ixP p j f (cntL f.body+2:Nat)));repeat' ((first|(refine iM fun _=>?_)|refine And.intro rfl ?_|refine aD ?_|refine bP ?_|(refine CallK.pure (YI (cntL f.body+2) (by omega) _ hgi [0] (by simp)) (.cons (Sub.refl _) (.cons (Sub.refl _) .nil)) ?_;rintro _ rfl));conv=>whnf)
 have hlm : ∀ a∈PL 0 (UP (XY (cntL f.body+2) ((WC (QH p j f)).map (ixP p j f (cntL f.body+2:Nat)))).1 [0]),0<=a∧a<(cntL f.body+2:Nat):=fun a ha=>by
  have:=q7y _ _ _ ha;rw [x7c hgi] at this;omega
 have hnw:QL p j f=⟨p,j,(cntL f.body+2:Nat),WC (QH p j f),KG (PL 0 (UP (XY (cntL f.body+2) ((WC (QH p j f)).map (ixP p j f (cntL f.body+2:Nat)))).1 [0])) (List.replicate (cntL f.body+2) false)⟩:=rfl;rw [hnw];have hlb:((PL 0 (UP (XY (cntL f.body+2) ((WC (QH p j f)).map (ixP p j f (cntL f.body+2:Nat)))).1 [0])).map (AV.int .i64)).length<=9223372036854775807:=by assumption
 generalize PL 0 (UP (XY (cntL f.body+2) ((WC (QH p j f)).map (ixP p j f (cntL f.body+2:Nat)))).1 [0])=lst at hlm hlb ⊢;have hll:(lst.map (AV.int .i64)).length=lst.length:=length_map _;refine LoopK.inv QU (fun x:Nat×List Bool=>⟨[(5,.ptr 0 0),(46,.p (XW lst)),(47,.p (.int .i64 (lst.map (AV.int .i64)).length)),(48,.p (.int .i64 x.1))],[(0,.obj 137 [.p (.ip (sheetOf p).cells),.p (.int .i64 j),.p (.int .i64 (cntL f.body+2:Nat)),.p (UQ (WC (QH p j f))),.hd 1 0 (cntL f.body+2)]),(1,.own 4 1 (x.2.map bv))]⟩)
  (fun x=>x.1<=lst.length∧x.2.length=cntL f.body+2∧KG (lst.drop x.1) x.2=KG lst (List.replicate (cntL f.body+2) false)) (fun x=>lst.length-x.1) (0,List.replicate (cntL f.body+2) false)
  (Le.of_eq (by simp only [List.map_replicate,List.length_replicate];rfl)) ⟨zero_le _,by simp,rfl⟩ ?_
 rintro ⟨m,b⟩ ⟨h2,h3,h4⟩;simp only at h2 h3 h4 ⊢;rcases Nat.lt_or_ge m lst.length with hm|hm;rotate_left 1
 ·rw [drop_eq_nil_of_le hm] at h4;rw [<- h4];conv=>whnf
  repeat' (apply bD<;>intro _<;>first|omega|conv=>whnf)
  exact ⟨_,.ptr (cs:=[.ip (sheetOf p).cells,.int .i64 j,.int .i64 (cntL f.body+2:Nat),UQ (WC (QH p j f)),.sl (b.map bv)]) rfl rfl (fun i x c h5 h6=>by
   match i,h5,h6 with
   | 0,h5,h6=>cases h5;cases h6;exact .p (Sub.refl _)
   | 1,h5,h6=>cases h5;cases h6;exact .p (Sub.refl _)
   | 2,h5,h6=>cases h5;cases h6;exact .p (Sub.refl _)
   | 3,h5,h6=>cases h5;cases h6;exact .p (Sub.refl _)
   | 4,h5,h6=>cases h5;cases h6;exact .hd rfl (by rw [length_map,h3])),rfl⟩
 rw [drop_eq_getElem_cons hm] at h4;have ha:=hlm _ (List.getElem_mem hm);have hal:lst[m].toNat<b.length:=by omega
 have hbe:(b.map bv)[lst[m].toNat]? = some (bv b[lst[m].toNat]):=by simp [hal]
 conv=>whnf
 repeat' (first|((first|refine And.intro rfl ?_|(refine iA fun _=>?_)|refine wI ?_|refine IdxL.mk lst[m].toNat (by omega) (by omega) ?_|refine StOwn.mk lst[m].toNat 0 (bv b[lst[m].toNat]) .tt (by omega) hbe (Nat.le_refl 1) (by cases b[lst[m].toNat]<;>rfl) ?_);conv=>whnf)|(apply bD<;>intro _<;>first|omega|conv=>whnf))
 exact ⟨(m+1,b.set lst[m].toNat true),⟨by simp only;omega,by simp only [length_set];exact h3,h4⟩,by simp only;omega,Le.of_eq (by simp only [List.map_set];rfl)⟩
end Go.Ab
